/-
 Texts of one claim, laid together: Wide1, Wide2, Wide3, Wide4, Wide5, Back, Wide7, Wide8, Wide9, Wide10, Geo1, Exact, Exact2, K6, Sla.
-/
import Derived.RangeFuncNested
import Derived.RangeFuncBound
import Derived.RangeFuncCalls
import Derived.RangeFuncBox
import Derived.RangeFuncLeaves
import Derived.Shelf.Abstract
import Derived.Shelf.RegionOpen
import Derived.WalkKit
import Derived.OwnWalkIn
import Derived.TacticsInMore
import Derived.LoopNIn
import Derived.LoopIn
import Derived.Maps.AppendAt
import Derived.Test.YtfekpcimgncioaaGreatDoorCW4
set_option maxHeartbeats 8000000
set_option linter.unusedSimpArgs false
set_option linter.unusedVariables false
set_option linter.unusedSectionVars false
namespace Go.Proofs.YtfekpcimgncioaaGreatDoor
open Go.Proofs.Tryz
open Go.RowKit Go.Lith
abbrev cL:=@underlying233
set_option maxRecDepth 100000
attribute [local irreducible] wpList wpQuiet dB Code.wp
theorem Da {A : Option Addr} {xs : List Nat} {na cap : Nat} (w : World) (hS : iN w A na cap xs) : eG prog 256 [.slice A na cap] w (fun v _=>v = .slice A (trim xs).length cap):=by
 skip
 refine ⟨agW,?_⟩;have hX:=eB.refl w;obtain rfl:=hS.eq;have hl:=hS.len;have hle:=hS.le
 go_enter func256,ntmps256
 refine aD (fun K1 hK1=>wp_region_lit (aA (aG) ?_));simp only[zz];refine aF (hK1 _ _ ?_);refine aD (fun K2 hK2=>wp_block ?_);refine bT [0] [3,4,5,6,7,8,9,10,11,12,13,14,15,16,17,18,19] (fun n vs wl=>∃ (k : Nat),vs = [.slice A k cap] ∧ (eB w wl) ∧ (k ≤ xs.length) ∧ (trim (xs.take k) = trim xs) ∧ (n = k)) ?_ ?_
 ·
  apply Exists.intro;simp only[zQ,zR,zD,zE];exact ⟨xs.length,rfl,hX,Nat.le_refl _,by rw [List.take_length],rfl⟩
 ·
  intro n vs wr hI u;obtain ⟨k,rfl,hX,hk,ht,hn⟩:=hI;simp only[zu,zF,zG];refine aD (fun K3 hK3=>aD (fun K4 hK4=>?_));by_cases hk0 : 0 < k
  ·
   obtain ⟨a,rfl,hcell,hlt⟩:=(hS.ext hX).get (show k - 1 < xs.length by omega);refine wp_region_lit (aA (aB) (aA (bH rfl cL rfl) (aA (aaG rfl rfl (by omega)) ?_)));simp only[zz];refine aA (aB) ?_;simp only[zz];refine bM rfl (aA (aB) ?_);simp only[zz];refine bM rfl (aA (aB) ?_);simp only[zz];refine bM rfl (aA (bH rfl cL rfl) ?_);simp only[zz];refine bM rfl (aA (oZ rfl rfl (aV (by omega) (by omega))) ?_);simp only[zz];refine bM rfl (aA (aN cL cF rfl rfl (by omega) (by omega) (rM (show _ = k - 1 by omega))) ?_);simp only[zz];refine bM rfl (aJ rfl (lies1 hcell iY) ?_);simp only[zz];refine bM rfl (aA (tY rfl rfl) (aA (eK rfl) ?_));simp only[zz];refine aF (hK4 _ _ ?_);refine cG rfl (fun hc1=>?_) (fun hc1=>?_)
   ·
    refine wp_skip ?_;refine hK3 _ _ (wp_block (wp_region_lit (aA (aB) (aA (aB) (aA (bH rfl cL rfl) ?_)))));simp only[zz];refine aA (oZ rfl rfl (aV (by omega) (by omega))) (aA (rJ cL cF rfl rfl (show _ = k - 1 by omega) (by omega) (by omega)) (aA (aG) ?_));simp only[zz];refine aF ?_;simp only[Exit.inBlock,Exit.then];refine ⟨k - 1,_,?_,rfl,?_,?_⟩
    · omega
    · simp only[zz,zv]
    ·
     simp only[zQ,zR,zD,zE];exact ⟨k - 1,rfl,hX,by omega,Xv hk0 (by omega) hc1 ht,rfl⟩
   ·
    refine wp_exit ?_;refine hK2 _ _ (aD (fun K5 hK5=>wp_region_lit (aA (aB) (aA (aG) ?_))));simp only[zz];refine aF (hK5 _ _ ?_);refine wp_ret ?_;try simp only[Exit.inBlock,Exit.then]
    refine bE rfl rfl ?_;try simp only[zD,zE]
    exact ⟨_,rfl,hX,by rw [← aaI hk0 (by omega) hc1 ht]⟩
  ·
   obtain rfl : k = 0:=by omega
   refine wp_region_lit (aA (aB) (aA (bH rfl cL rfl) (aA (aaH rfl rfl (by omega)) ?_)));simp only[zz];refine aA (aB) ?_;simp only[zz];refine dY rfl ?_;simp only[zz];refine dY rfl ?_;simp only[zz];refine dY rfl ?_;simp only[zz];refine dY rfl ?_;simp only[zz];refine dY rfl ?_;simp only[zz];refine dY rfl ?_;simp only[zz];refine dY rfl ?_;simp only[zz];refine aA (iB rfl) ?_;simp only[zz];refine aF (hK4 _ _ ?_);refine gA rfl (wp_exit ?_);refine hK2 _ _ (aD (fun K6 hK6=>wp_region_lit (aA (aB) (aA (aG) ?_))));simp only[zz];refine aF (hK6 _ _ ?_);refine wp_ret ?_;try simp only[Exit.inBlock,Exit.then]
   refine bE rfl rfl ?_;try simp only[zD,zE]
   exact ⟨_,rfl,hX,by rw [← aaJ ht]⟩
theorem ajO {A B : Option Addr} {xs ys : List Nat} {na nb ca cb : Nat} (w : World) (hS : iN w A na ca xs) (hR : iN w B nb cb ys) (tx : iC xs) (ty : iC ys) : eG prog 187 [.slice A na ca,.slice B nb cb] w (fun v _=>v = .int .i64 (ord (val 4294967296 xs) (val 4294967296 ys))):=by
 skip
 refine ⟨agB,?_⟩;have hX:=eB.refl w;obtain rfl:=hS.eq;obtain rfl:=hR.eq;have hl:=hS.len;have hl2:=hR.len
 go_enter func187,ntmps187
 refine aD (fun K1 hK1=>wp_region_lit (aA (aG) ?_));simp only[zz];refine aF (hK1 _ _ ?_);refine aD (fun K2 hK2=>wp_block (aD (fun K3 hK3=>wp_region_lit (aA (aB) (aA (bH rfl cL rfl) (aA (aB) ?_))))));simp only[zz];refine aA (bH rfl cL rfl) (aA (cW rfl rfl) (aA (aG) ?_));simp only[zz];refine aF (hK3 _ _ ?_);refine cG rfl (fun hc1=>?_) (fun hc1=>?_)
 ·
  refine aD (fun K4 hK4=>wp_region_lit (aA (aG) ?_));simp only[zz];refine aF (hK4 _ _ ?_);refine wp_ret ?_;try simp only[Exit.inBlock,Exit.then]
  refine bE rfl rfl ?_;try simp only[zD,zE]
  exact ⟨_,rfl,hX,by rw [ord,if_pos (rL (by omega) hS.digs hR.digs ty (by omega))]⟩
 ·
  refine aD (fun K5 hK5=>wp_region_lit (aA (aB) (aA (bH rfl cL rfl) (aA (aB) ?_))));simp only[zz];refine aA (bH rfl cL rfl) (aA (lD rfl rfl) (aA (aG) ?_));simp only[zz];refine aF (hK5 _ _ ?_);refine cG rfl (fun hc2=>?_) (fun hc2=>?_)
  ·
   refine aD (fun K6 hK6=>wp_region_lit (aA (aG) ?_));simp only[zz];refine aF (hK6 _ _ ?_);refine wp_ret ?_;try simp only[Exit.inBlock,Exit.then]
   refine bE rfl rfl ?_;try simp only[zD,zE]
   exact ⟨_,rfl,hX,by have:=rL (B:=4294967296) (by omega) hR.digs hS.digs tx (by omega);rw [ord,if_neg (by omega),if_pos this]⟩
  ·
   refine wp_skip ?_;refine hK2 _ _ (aD (fun K7 hK7=>aD (fun K8 hK8=>wp_region_lit (aA (aB) (aA (bH rfl cL rfl) (aA (oZ rfl rfl (aV (by omega) (by omega))) ?_))))));simp only[zz];refine aA (aG) ?_;simp only[zz];refine aF (hK8 _ _ ?_);refine wp_block (bT [5] [4,21,22,23,24,25,26,27,28,29,30,31,32,33,34,35,36,37,38,39,40,41,42,43,44] (fun n vs wl=>∃ (k : Nat),vs = [.int .i64 ((k:Int) - 1)] ∧ (eB w wl) ∧ (k ≤ xs.length) ∧ (xs.drop k = ys.drop k) ∧ (n = k)) ?_ ?_)
   ·
    apply Exists.intro;simp only[zQ,zR,zD,zE];exact ⟨xs.length,rfl,hX,Nat.le_refl _,by rw [List.drop_length,show xs.length = ys.length by omega,List.drop_length],rfl⟩
   ·
    intro n vs wr hI u;obtain ⟨k,rfl,hX,hk,hd,hn⟩:=hI;simp only[zu,zF,zG];refine aD (fun K9 hK9=>aD (fun K10 hK10=>wp_region_lit (aA (aB) (aA (tJ rfl rfl) ?_))));simp only[zz];refine aF (hK10 _ _ ?_);refine cG rfl (fun hc3=>?_) (fun hc3=>?_)
    ·
     refine wp_skip ?_;refine hK9 _ _ (aD (fun K11 hK11=>wp_block (wp_block (aD (fun K12 hK12=>?_)))));obtain ⟨a,rfl,hca,_⟩:=(hS.ext hX).get (show k - 1 < xs.length by omega);obtain ⟨b,rfl,hcb,_⟩:=(hR.ext hX).get (show k - 1 < ys.length by omega);refine wS aM (by kernel_rfl) (aK (aB) (aK (aB) (aK (aN cL cF rfl rfl (by omega) (by omega) (rM (show _ = k - 1 by omega))) ?_)));simp only[zz];refine tZ rfl (fun _ hE'=>(lies1 (hE'.cell hca) iY)) ?_;simp only[zz];refine aK (aB) (aK (aB) (aK (aN cL cF rfl rfl (by omega) (by omega) (rM (show _ = k - 1 by omega))) ?_));simp only[zz];refine tZ rfl (fun _ hE'=>(lies1 (hE'.cell hcb) iY)) ?_;simp only[zz];refine aK (cW rfl rfl) (aK (aG) ?_);simp only[zz];refine bZ ?_;intro w1 hE;replace hX:=hX.trans hE;clear hE;refine hK12 _ _ (cG rfl (fun hc4=>?_) (fun hc4=>?_))
     ·
      refine aD (fun K13 hK13=>wp_region_lit (aA (aG) ?_));simp only[zz];refine aF (hK13 _ _ ?_);refine wp_ret ?_;try simp only[Exit.inBlock,Exit.then]
      refine bE rfl rfl ?_;try simp only[zD,zE]
      exact ⟨_,rfl,hX,by rw [ord,if_pos (aaK hS.digs (by omega) (by omega) (by omega) hd hc4)]⟩
     ·
      refine aD (fun K14 hK14=>?_);have hca:=(hS.ext hX).at (show k - 1 < xs.length by omega);have hcb:=(hR.ext hX).at (show k - 1 < ys.length by omega);refine wS aM (by kernel_rfl) (aK (aB) (aK (aB) (aK (aN cL cF rfl rfl (by omega) (by omega) (rM (show _ = k - 1 by omega))) ?_)));simp only[zz];refine tZ rfl (fun _ hE'=>(lies1 (hE'.cell hca) iY)) ?_;simp only[zz];refine aK (aB) (aK (aB) (aK (aN cL cF rfl rfl (by omega) (by omega) (rM (show _ = k - 1 by omega))) ?_));simp only[zz];refine tZ rfl (fun _ hE'=>(lies1 (hE'.cell hcb) iY)) ?_;simp only[zz];refine aK (lD rfl rfl) (aK (aG) ?_);simp only[zz];refine bZ ?_;intro w2 hE;replace hX:=hX.trans hE;clear hE;refine hK14 _ _ (cG rfl (fun hc5=>?_) (fun hc5=>?_))
      ·
       refine aD (fun K15 hK15=>wp_region_lit (aA (aG) ?_));simp only[zz];refine aF (hK15 _ _ ?_);refine wp_ret ?_;try simp only[Exit.inBlock,Exit.then]
       refine bE rfl rfl ?_;try simp only[zD,zE]
       exact ⟨_,rfl,hX,by have:=aaK hR.digs (by omega) (by omega) (by omega) hd.symm hc5;rw [ord,if_neg (by omega),if_pos this]⟩
      ·
       refine wp_skip ?_;refine hK11 _ _ (wp_region_lit (aA (aB) (aA (oZ rfl rfl (aV (by omega) (by omega))) (aA (aG) ?_))));simp only[zz];refine aF ?_;rw [show ((k:Int) - 1 - 1) = ((k - 1 : Nat) : Int) - 1 by omega];simp only[Exit.inBlock,Exit.then];refine ⟨k - 1,_,?_,rfl,?_,?_⟩
       · omega
       · simp only[zz,zv]
       ·
        simp only[zQ,zR,zD,zE];exact ⟨k - 1,rfl,hX,by omega,Xw (by omega) (by omega) (by omega) hd hc4 hc5,rfl⟩
    ·
     refine wp_exit ?_;refine hK7 _ _ (aD (fun K16 hK16=>wp_region_lit (aA (aG) ?_)));simp only[zz];refine aF (hK16 _ _ ?_);refine wp_ret ?_;try simp only[Exit.inBlock,Exit.then]
     refine bE rfl rfl ?_;try simp only[zD,zE]
     exact ⟨_,rfl,hX,by have h0 : k = 0:=(by omega);subst h0;simp only[List.drop_zero] at hd;rw [hd,ord,if_neg (by omega),if_neg (by omega)]⟩
theorem ajP {A B : Option Addr} {xs ys : List Nat} {na nb ca cb : Nat} (w : World) (hS : iN w A na ca xs) (hR : iN w B nb cb ys) (hlx : xs.length ≤ 1099511627776) (hly : ys.length ≤ 1099511627776) : eG prog 186 [.slice A na ca,.slice B nb cb] w (mG (val 4294967296 xs + val 4294967296 ys)):=by
 skip
 refine ⟨agA,?_⟩;have hX:=eB.refl w;obtain rfl:=hS.eq;obtain rfl:=hR.eq
 go_enter func186,ntmps186
 refine aD (fun K1 hK1=>wp_region_lit (aA (aG) ?_));simp only[zz];refine aF (hK1 _ _ ?_);refine aD (fun K2 hK2=>aD (fun K3 hK3=>wp_region_lit (aA (aB) (aA (bH rfl cL rfl) (aA (aB) ?_)))));simp only[zz];refine aA (bH rfl cL rfl) (aA (cW rfl rfl) ?_);simp only[zz];refine aF (hK3 _ _ ?_);refine cG rfl (fun hc1=>?_) (fun hc1=>?_)
 ·
  obtain ⟨qb,rfl⟩ : ∃ q,q = xs:=⟨_,rfl⟩
  obtain ⟨qa,rfl⟩ : ∃ q,q = ys:=⟨_,rfl⟩
  obtain ⟨Qb,rfl⟩ : ∃ q,q = A:=⟨_,rfl⟩
  obtain ⟨Qa,rfl⟩ : ∃ q,q = B:=⟨_,rfl⟩
  have hSa:=hR;have hSb:=hS;refine wp_region_lit (aA (aB) (aA (aB) (aA (aG) ?_)));simp only[zz];refine aA (aG) ?_;simp only[zz];refine aF (hK2 _ _ ?_);refine aD (fun K4 hK4=>wp_region_lit (aA (aB) (aA (bH rfl cL rfl) (aA (aU rfl rfl (aV (by omega) (by omega))) ?_))));simp only[zz];refine vR cL Ad rfl rfl rfl (show _ = qa.length + 1 by omega) (show _ = qa.length + 1 by omega) (by omega) (by omega) (by omega) (by omega) ?_;intro w1 g1 hE hg1 hB1;have hG1:=Nat.le_trans hX.size hg1;replace hX:=hX.trans hE;clear hE hg1;simp only[zz];refine aA (aG) ?_;simp only[zz];refine aF ?_;rw [kN] at hB1;refine hK4 _ _ (aD (fun K5 hK5=>wp_region_lit (aA (aG) ?_)));simp only[zz];refine aF (hK5 _ _ ?_);refine aD (fun K6 hK6=>aD (fun K7 hK7=>wp_region_lit (aA (aB) (aA (bH rfl cL rfl) (aA (aB) ?_)))));simp only[zz];refine aF (hK7 _ _ ?_);refine wp_block (bT [6,22] [7,8,23,24,25,26,27,28,29,30,31,32,33,34,35,36,37,38,39,40,41,42,43,44,45,46,47,48] (fun n vs wl=>∃ (i c : Nat) (os : List Nat),vs = [.int .u64 (c:Int),.int .i64 (i:Int)] ∧ (eB w wl) ∧ (fF wl g1 (os.map Bz) 231) ∧ (i ≤ qa.length) ∧ (os.length = qa.length + 1) ∧ (val 4294967296 os + 4294967296 ^ i * c = val 4294967296 (qa.take i) + val 4294967296 (qb.take i)) ∧ (os.drop i = List.replicate (qa.length + 1 - i) 0) ∧ (fW 4294967296 os) ∧ (c ≤ 1) ∧ (n = qa.length - i)) ?_ ?_)
  ·
   apply Exists.intro;simp only[zQ,zR,zD,zE];exact ⟨0,0,List.replicate (qa.length + 1) 0,rfl,hX,hB1,by omega,by simp,by simp [kO,val],by simp,fun x hx=>by rw [List.eq_of_mem_replicate hx];decide,by omega,rfl⟩
  ·
   intro n vs wr hI u;obtain ⟨i,c,os,rfl,hX,hB1,hi,hlo,hv,hz,hd,hc,hn⟩:=hI;simp only[zu,zF,zG];refine aD (fun K8 hK8=>wp_region_lit (aA (cW rfl rfl) ?_));simp only[zz];refine aF (hK8 _ _ ?_);refine aD (fun K9 hK9=>?_);refine cG rfl (fun hc2=>?_) (fun hc2=>?_)
   ·
    refine wp_skip ?_;refine hK9 _ _ (aD (fun K10 hK10=>wp_block (aD (fun K11 hK11=>wp_region_lit (aA (aB) (aA (aG) ?_))))));simp only[zz];refine aF (hK11 _ _ ?_);refine aD (fun K12 hK12=>?_);obtain ⟨a,rfl,hca,hla⟩:=(hSa.ext hX).get (show i < qa.length by omega);refine wp_region_lit (aA (aB) (aA (aB) (aA (aN cL cF rfl rfl (by omega) (by omega) (rM (Int.toNat_natCast _))) ?_)));simp only[zz];refine aJ rfl (lies1 hca iY) ?_;simp only[zz];refine aA (aB) (aA (aU rfl rfl (jP (by omega) (by omega))) (aA (aG) ?_));simp only[zz];refine aF (hK12 _ _ ?_);refine aD (fun K13 hK13=>aD (fun K14 hK14=>wp_region_lit (aA (aB) (aA (aB) (aA (bH rfl cL rfl) ?_)))));simp only[zz];refine aA (cW rfl rfl) ?_;simp only[zz];refine aF (hK14 _ _ ?_);refine cG rfl (fun hc3=>?_) (fun hc3=>?_)
    ·
     obtain ⟨b,rfl,hcb,hlb⟩:=(hSb.ext hX).get (show i < qb.length by omega);refine wp_region_lit (aA (aB) (aA (aB) (aA (aB) ?_)));simp only[zz];refine aA (aN cL cF rfl rfl (by omega) (by omega) (rM (Int.toNat_natCast _))) ?_;simp only[zz];refine aJ rfl (lies1 hcb iY) ?_;simp only[zz];refine aA (aU rfl rfl (jP (by omega) (by omega))) (aA (aG) ?_);simp only[zz];refine aF ?_;obtain ⟨s,hs⟩ : ∃ s : Nat,(s : Int) = ↑qa[i] + ↑c + ↑qb[i]:=⟨qa[i] + c + qb[i],by omega⟩
     rw [← hs];have hs2 : s = qa[i] + c + qb[i]?.getD 0:=by rw [List.getElem?_eq_getElem (by omega)];simp;omega
     have hyb : qb[i]?.getD 0 < 4294967296:=by rw [List.getElem?_eq_getElem (by omega)];exact hlb
     refine hK13 _ _ ?_;refine wp_region_lit (aA (aB) (aA (aB) (aA (aB) ?_)));simp only[zz];refine aA (rH rfl rfl (mU (by omega) (by omega))) (aA (aB) (aA (lE rfl rfl (by omega) (Ju (by omega))) ?_));simp only[zz];refine aA (aN cL cF rfl rfl (by omega) (by omega) (mH (Int.toNat_natCast _))) ?_;simp only[zz];refine fE rfl (by simp only[zz];rfl) (by exact cF) hB1 (by simp;omega) (by simp [Value.oneCell']) ?_;clear hB1;intro w2 hC hB1;replace hX:=hX.chg hC hG1;clear hC;rw [show ((s:Int) % 4294967296) = ((s % 4294967296 : Nat) : Int) by omega,jQ (by omega)] at hB1;refine aA (aG) ?_;simp only[zz];refine aF (hK10 _ _ ?_);refine wp_region_lit (aA (aU rfl rfl (aV (by omega) (by omega))) (aA (aB) ?_));simp only[zz];refine aF ?_;obtain ⟨r1,r2,r3,r4⟩:=vT (by omega) hlo hv hz hd hc hs2 hla hyb;rw [show ((i:Int) + 1) = ((i + 1 : Nat) : Int) by omega,show ((s:Int) / 4294967296) = ((s / 4294967296 : Nat) : Int) by omega];simp only[Exit.inBlock,Exit.then];refine ⟨qa.length - (i + 1),_,?_,rfl,?_,?_⟩
     · omega
     · simp only[zz,zv]
     ·
      simp only[zQ,zR,zD,zE];exact ⟨i + 1,s / 4294967296,os.set i (s % 4294967296),rfl,hX,hB1,by omega,by simpa using hlo,r1,r2,r3,r4,rfl⟩
    ·
     obtain ⟨s,hs⟩ : ∃ s : Nat,(s : Int) = ↑qa[i] + ↑c:=⟨qa[i] + c,by omega⟩
     rw [← hs];have hs2 : s = qa[i] + c + qb[i]?.getD 0:=by rw [List.getElem?_eq_none (by omega)];simp;omega
     have hyb : qb[i]?.getD 0 < 4294967296:=by rw [List.getElem?_eq_none (by omega)];decide
     refine wp_skip ?_;refine hK13 _ _ (wp_region_lit (aA (aB) (aA (aB) (aA (aB) ?_))));simp only[zz];refine aA (rH rfl rfl (mU (by omega) (by omega))) (aA (aB) (aA (lE rfl rfl (by omega) (Ju (by omega))) ?_));simp only[zz];refine aA (aN cL cF rfl rfl (by omega) (by omega) (mH (Int.toNat_natCast _))) ?_;simp only[zz];refine fE rfl (by simp only[zz];rfl) (by exact cF) hB1 (by simp;omega) (by simp [Value.oneCell']) ?_;clear hB1;intro w2 hC hB1;replace hX:=hX.chg hC hG1;clear hC;rw [show ((s:Int) % 4294967296) = ((s % 4294967296 : Nat) : Int) by omega,jQ (by omega)] at hB1;refine aA (aG) ?_;simp only[zz];refine aF (hK10 _ _ ?_);refine wp_region_lit (aA (aU rfl rfl (aV (by omega) (by omega))) (aA (aB) ?_));simp only[zz];refine aF ?_;obtain ⟨r1,r2,r3,r4⟩:=vT (by omega) hlo hv hz hd hc hs2 hla hyb;rw [show ((i:Int) + 1) = ((i + 1 : Nat) : Int) by omega,show ((s:Int) / 4294967296) = ((s / 4294967296 : Nat) : Int) by omega];simp only[Exit.inBlock,Exit.then];refine ⟨qa.length - (i + 1),_,?_,rfl,?_,?_⟩
     · omega
     · simp only[zz,zv]
     ·
      simp only[zQ,zR,zD,zE];exact ⟨i + 1,s / 4294967296,os.set i (s % 4294967296),rfl,hX,hB1,by omega,by simpa using hlo,r1,r2,r3,r4,rfl⟩
   ·
    refine wp_exit ?_;refine hK6 _ _ (aD (fun K15 hK15=>?_));obtain rfl : i = qa.length:=by omega
    refine wp_region_lit (aA (aB) (aA (aB) (aA (bH rfl cL rfl) ?_)));simp only[zz];refine aA (aB) (aA (aN cL cF rfl rfl (by omega) (by omega) (mH (Int.toNat_natCast _))) ?_);simp only[zz];refine fE rfl (by simp only[zz];rfl) (by exact cF) hB1 (by simp;omega) (by simp [Value.oneCell']) ?_;clear hB1;intro w2 hC hB1;replace hX:=hX.chg hC hG1;clear hC;rw [jQ (by omega)] at hB1;refine aF (hK15 _ _ ?_);refine aD (fun K16 hK16=>wp_region_lit (aA (aB) ?_));simp only[zz];refine cD rfl rfl (Da _ (hB1.nat (hd.set (show c < 4294967296 by omega)) (by simp;omega) (by omega))) ?_;rintro v w3 hE rfl;replace hB1:=hB1.ext hE;replace hX:=hX.trans hE;clear hE;simp only[zz];refine aA (aG) ?_;simp only[zz];refine aF (hK16 _ _ ?_);refine wp_ret ?_;try simp only[Exit.inBlock,Exit.then]
    refine bE rfl rfl ?_;try simp only[zD,zE]
    exact ⟨_,rfl,hX,by first | exact mG.of_trim (hB1.nat (hd.set (show c < 4294967296 by omega)) (by simp;omega) (by omega)) (Et (by omega) hlo hv hz) | (rw [Nat.add_comm];exact mG.of_trim (hB1.nat (hd.set (show c < 4294967296 by omega)) (by simp;omega) (by omega)) (Et (by omega) hlo hv hz))⟩
 ·
  obtain ⟨qa,rfl⟩ : ∃ q,q = xs:=⟨_,rfl⟩
  obtain ⟨qb,rfl⟩ : ∃ q,q = ys:=⟨_,rfl⟩
  obtain ⟨Qa,rfl⟩ : ∃ q,q = A:=⟨_,rfl⟩
  obtain ⟨Qb,rfl⟩ : ∃ q,q = B:=⟨_,rfl⟩
  have hSa:=hS;have hSb:=hR;refine wp_skip (hK2 _ _ ?_);refine aD (fun K17 hK17=>wp_region_lit (aA (aB) (aA (bH rfl cL rfl) (aA (aU rfl rfl (aV (by omega) (by omega))) ?_))));simp only[zz];refine vR cL Ad rfl rfl rfl (show _ = qa.length + 1 by omega) (show _ = qa.length + 1 by omega) (by omega) (by omega) (by omega) (by omega) ?_;intro w1 g1 hE hg1 hB1;have hG1:=Nat.le_trans hX.size hg1;replace hX:=hX.trans hE;clear hE hg1;simp only[zz];refine aA (aG) ?_;simp only[zz];refine aF ?_;rw [kN] at hB1;refine hK17 _ _ (aD (fun K18 hK18=>wp_region_lit (aA (aG) ?_)));simp only[zz];refine aF (hK18 _ _ ?_);refine aD (fun K19 hK19=>aD (fun K20 hK20=>wp_region_lit (aA (aB) (aA (bH rfl cL rfl) (aA (aB) ?_)))));simp only[zz];refine aF (hK20 _ _ ?_);refine wp_block (bT [6,22] [7,8,23,24,25,26,27,28,29,30,31,32,33,34,35,36,37,38,39,40,41,42,43,44,45,46,47,48] (fun n vs wl=>∃ (i c : Nat) (os : List Nat),vs = [.int .u64 (c:Int),.int .i64 (i:Int)] ∧ (eB w wl) ∧ (fF wl g1 (os.map Bz) 231) ∧ (i ≤ qa.length) ∧ (os.length = qa.length + 1) ∧ (val 4294967296 os + 4294967296 ^ i * c = val 4294967296 (qa.take i) + val 4294967296 (qb.take i)) ∧ (os.drop i = List.replicate (qa.length + 1 - i) 0) ∧ (fW 4294967296 os) ∧ (c ≤ 1) ∧ (n = qa.length - i)) ?_ ?_)
  ·
   apply Exists.intro;simp only[zQ,zR,zD,zE];exact ⟨0,0,List.replicate (qa.length + 1) 0,rfl,hX,hB1,by omega,by simp,by simp [kO,val],by simp,fun x hx=>by rw [List.eq_of_mem_replicate hx];decide,by omega,rfl⟩
  ·
   intro n vs wr hI u;obtain ⟨i,c,os,rfl,hX,hB1,hi,hlo,hv,hz,hd,hc,hn⟩:=hI;simp only[zu,zF,zG];refine aD (fun K21 hK21=>wp_region_lit (aA (cW rfl rfl) ?_));simp only[zz];refine aF (hK21 _ _ ?_);refine aD (fun K22 hK22=>?_);refine cG rfl (fun hc2=>?_) (fun hc2=>?_)
   ·
    refine wp_skip ?_;refine hK22 _ _ (aD (fun K23 hK23=>wp_block (aD (fun K24 hK24=>wp_region_lit (aA (aB) (aA (aG) ?_))))));simp only[zz];refine aF (hK24 _ _ ?_);refine aD (fun K25 hK25=>?_);obtain ⟨a,rfl,hca,hla⟩:=(hSa.ext hX).get (show i < qa.length by omega);refine wp_region_lit (aA (aB) (aA (aB) (aA (aN cL cF rfl rfl (by omega) (by omega) (rM (Int.toNat_natCast _))) ?_)));simp only[zz];refine aJ rfl (lies1 hca iY) ?_;simp only[zz];refine aA (aB) (aA (aU rfl rfl (jP (by omega) (by omega))) (aA (aG) ?_));simp only[zz];refine aF (hK25 _ _ ?_);refine aD (fun K26 hK26=>aD (fun K27 hK27=>wp_region_lit (aA (aB) (aA (aB) (aA (bH rfl cL rfl) ?_)))));simp only[zz];refine aA (cW rfl rfl) ?_;simp only[zz];refine aF (hK27 _ _ ?_);refine cG rfl (fun hc3=>?_) (fun hc3=>?_)
    ·
     obtain ⟨b,rfl,hcb,hlb⟩:=(hSb.ext hX).get (show i < qb.length by omega);refine wp_region_lit (aA (aB) (aA (aB) (aA (aB) ?_)));simp only[zz];refine aA (aN cL cF rfl rfl (by omega) (by omega) (rM (Int.toNat_natCast _))) ?_;simp only[zz];refine aJ rfl (lies1 hcb iY) ?_;simp only[zz];refine aA (aU rfl rfl (jP (by omega) (by omega))) (aA (aG) ?_);simp only[zz];refine aF ?_;obtain ⟨s,hs⟩ : ∃ s : Nat,(s : Int) = ↑qa[i] + ↑c + ↑qb[i]:=⟨qa[i] + c + qb[i],by omega⟩
     rw [← hs];have hs2 : s = qa[i] + c + qb[i]?.getD 0:=by rw [List.getElem?_eq_getElem (by omega)];simp;omega
     have hyb : qb[i]?.getD 0 < 4294967296:=by rw [List.getElem?_eq_getElem (by omega)];exact hlb
     refine hK26 _ _ ?_;refine wp_region_lit (aA (aB) (aA (aB) (aA (aB) ?_)));simp only[zz];refine aA (rH rfl rfl (mU (by omega) (by omega))) (aA (aB) (aA (lE rfl rfl (by omega) (Ju (by omega))) ?_));simp only[zz];refine aA (aN cL cF rfl rfl (by omega) (by omega) (mH (Int.toNat_natCast _))) ?_;simp only[zz];refine fE rfl (by simp only[zz];rfl) (by exact cF) hB1 (by simp;omega) (by simp [Value.oneCell']) ?_;clear hB1;intro w2 hC hB1;replace hX:=hX.chg hC hG1;clear hC;rw [show ((s:Int) % 4294967296) = ((s % 4294967296 : Nat) : Int) by omega,jQ (by omega)] at hB1;refine aA (aG) ?_;simp only[zz];refine aF (hK23 _ _ ?_);refine wp_region_lit (aA (aU rfl rfl (aV (by omega) (by omega))) (aA (aB) ?_));simp only[zz];refine aF ?_;obtain ⟨r1,r2,r3,r4⟩:=vT (by omega) hlo hv hz hd hc hs2 hla hyb;rw [show ((i:Int) + 1) = ((i + 1 : Nat) : Int) by omega,show ((s:Int) / 4294967296) = ((s / 4294967296 : Nat) : Int) by omega];simp only[Exit.inBlock,Exit.then];refine ⟨qa.length - (i + 1),_,?_,rfl,?_,?_⟩
     · omega
     · simp only[zz,zv]
     ·
      simp only[zQ,zR,zD,zE];exact ⟨i + 1,s / 4294967296,os.set i (s % 4294967296),rfl,hX,hB1,by omega,by simpa using hlo,r1,r2,r3,r4,rfl⟩
    ·
     obtain ⟨s,hs⟩ : ∃ s : Nat,(s : Int) = ↑qa[i] + ↑c:=⟨qa[i] + c,by omega⟩
     rw [← hs];have hs2 : s = qa[i] + c + qb[i]?.getD 0:=by rw [List.getElem?_eq_none (by omega)];simp;omega
     have hyb : qb[i]?.getD 0 < 4294967296:=by rw [List.getElem?_eq_none (by omega)];decide
     refine wp_skip ?_;refine hK26 _ _ (wp_region_lit (aA (aB) (aA (aB) (aA (aB) ?_))));simp only[zz];refine aA (rH rfl rfl (mU (by omega) (by omega))) (aA (aB) (aA (lE rfl rfl (by omega) (Ju (by omega))) ?_));simp only[zz];refine aA (aN cL cF rfl rfl (by omega) (by omega) (mH (Int.toNat_natCast _))) ?_;simp only[zz];refine fE rfl (by simp only[zz];rfl) (by exact cF) hB1 (by simp;omega) (by simp [Value.oneCell']) ?_;clear hB1;intro w2 hC hB1;replace hX:=hX.chg hC hG1;clear hC;rw [show ((s:Int) % 4294967296) = ((s % 4294967296 : Nat) : Int) by omega,jQ (by omega)] at hB1;refine aA (aG) ?_;simp only[zz];refine aF (hK23 _ _ ?_);refine wp_region_lit (aA (aU rfl rfl (aV (by omega) (by omega))) (aA (aB) ?_));simp only[zz];refine aF ?_;obtain ⟨r1,r2,r3,r4⟩:=vT (by omega) hlo hv hz hd hc hs2 hla hyb;rw [show ((i:Int) + 1) = ((i + 1 : Nat) : Int) by omega,show ((s:Int) / 4294967296) = ((s / 4294967296 : Nat) : Int) by omega];simp only[Exit.inBlock,Exit.then];refine ⟨qa.length - (i + 1),_,?_,rfl,?_,?_⟩
     · omega
     · simp only[zz,zv]
     ·
      simp only[zQ,zR,zD,zE];exact ⟨i + 1,s / 4294967296,os.set i (s % 4294967296),rfl,hX,hB1,by omega,by simpa using hlo,r1,r2,r3,r4,rfl⟩
   ·
    refine wp_exit ?_;refine hK19 _ _ (aD (fun K28 hK28=>?_));obtain rfl : i = qa.length:=by omega
    refine wp_region_lit (aA (aB) (aA (aB) (aA (bH rfl cL rfl) ?_)));simp only[zz];refine aA (aB) (aA (aN cL cF rfl rfl (by omega) (by omega) (mH (Int.toNat_natCast _))) ?_);simp only[zz];refine fE rfl (by simp only[zz];rfl) (by exact cF) hB1 (by simp;omega) (by simp [Value.oneCell']) ?_;clear hB1;intro w2 hC hB1;replace hX:=hX.chg hC hG1;clear hC;rw [jQ (by omega)] at hB1;refine aF (hK28 _ _ ?_);refine aD (fun K29 hK29=>wp_region_lit (aA (aB) ?_));simp only[zz];refine cD rfl rfl (Da _ (hB1.nat (hd.set (show c < 4294967296 by omega)) (by simp;omega) (by omega))) ?_;rintro v w3 hE rfl;replace hB1:=hB1.ext hE;replace hX:=hX.trans hE;clear hE;simp only[zz];refine aA (aG) ?_;simp only[zz];refine aF (hK29 _ _ ?_);refine wp_ret ?_;try simp only[Exit.inBlock,Exit.then]
    refine bE rfl rfl ?_;try simp only[zD,zE]
    exact ⟨_,rfl,hX,by first | exact mG.of_trim (hB1.nat (hd.set (show c < 4294967296 by omega)) (by simp;omega) (by omega)) (Et (by omega) hlo hv hz) | (rw [Nat.add_comm];exact mG.of_trim (hB1.nat (hd.set (show c < 4294967296 by omega)) (by simp;omega) (by omega)) (Et (by omega) hlo hv hz))⟩
theorem afc {A B : Option Addr} {xs ys : List Nat} {na nb ca cb : Nat} (w : World) (hS : iN w A na ca xs) (hR : iN w B nb cb ys) (hle : ys.length ≤ xs.length) (hge : val 4294967296 ys ≤ val 4294967296 xs) (hlx : xs.length ≤ 1099511627776) : eG prog 188 [.slice A na ca,.slice B nb cb] w (fun v w'=>mG (val 4294967296 xs - val 4294967296 ys) v w' ∧ yT w v):=by
 skip
 refine ⟨agC,?_⟩;have hX:=eB.refl w;obtain rfl:=hS.eq;obtain rfl:=hR.eq
 go_enter func188,ntmps188
 refine aD (fun K1 hK1=>wp_region_lit (aA (aG) ?_));simp only[zz];refine aF (hK1 _ _ ?_);refine aD (fun K2 hK2=>wp_region_lit (aA (aB) (aA (bH rfl cL rfl) ?_)));simp only[zz];refine vR cL Ad rfl rfl rfl (Int.toNat_natCast _) (Int.toNat_natCast _) (by omega) (by omega) (by omega) (by omega) ?_;intro w1 g1 hE hg1 hB1;have hG1:=Nat.le_trans hX.size hg1;replace hX:=hX.trans hE;clear hE hg1;simp only[zz];refine aA (aG) ?_;simp only[zz];refine aF ?_;rw [kN] at hB1;refine hK2 _ _ (aD (fun K3 hK3=>wp_region_lit (aA (aG) ?_)));simp only[zz];refine aF (hK3 _ _ ?_);refine aD (fun K4 hK4=>aD (fun K5 hK5=>wp_region_lit (aA (aB) (aA (bH rfl cL rfl) (aA (aB) ?_)))));simp only[zz];refine aF (hK5 _ _ ?_);refine wp_block (bT [6,14] [7,8,15,16,17,18,19,20,21,22,23,24,25,26,27,28,29,30,31,32,33,34,35,36,37,38,39,40] (fun n vs wl=>∃ (i c : Nat) (os : List Nat),vs = [.int .u64 (c:Int),.int .i64 (i:Int)] ∧ (eB w wl) ∧ (fF wl g1 (os.map Bz) 231) ∧ (i ≤ xs.length) ∧ (os.length = xs.length) ∧ (val 4294967296 os + val 4294967296 (ys.take i) = val 4294967296 (xs.take i) + 4294967296 ^ i * c) ∧ (os.drop i = List.replicate (xs.length - i) 0) ∧ (fW 4294967296 os) ∧ (c ≤ 1) ∧ (n = xs.length - i)) ?_ ?_)
 ·
  apply Exists.intro;simp only[zQ,zR,zD,zE];exact ⟨0,0,List.replicate xs.length 0,rfl,hX,hB1,by omega,by simp,by simp [kO,val],by simp,fun x hx=>by rw [List.eq_of_mem_replicate hx];decide,by omega,rfl⟩
 ·
  intro n vs wr hI u;obtain ⟨i,c,os,rfl,hX,hB1,hi,hlo,hv,hz,hd,hc,hn⟩:=hI;simp only[zu,zF,zG];refine aD (fun K6 hK6=>wp_region_lit (aA (cW rfl rfl) ?_));simp only[zz];refine aF (hK6 _ _ ?_);refine aD (fun K7 hK7=>?_);refine cG rfl (fun hc1=>?_) (fun hc1=>?_)
  ·
   refine wp_skip ?_;refine hK7 _ _ (aD (fun K8 hK8=>wp_block (aD (fun K9 hK9=>wp_region_lit (aA (aB) (aA (aG) ?_))))));simp only[zz];refine aF (hK9 _ _ ?_);refine aD (fun K10 hK10=>?_);obtain ⟨a,rfl,hca,hla⟩:=(hS.ext hX).get (show i < xs.length by omega);refine wp_region_lit (aA (aB) (aA (aB) (aA (aN cL cF rfl rfl (by omega) (by omega) (rM (Int.toNat_natCast _))) ?_)));simp only[zz];refine aJ rfl (lies1 hca iY) ?_;simp only[zz];refine aA (aB) (aA (oZ rfl rfl (jC _)) (aA (aG) ?_));simp only[zz];refine aF (hK10 _ _ ?_);refine aD (fun K11 hK11=>aD (fun K12 hK12=>wp_region_lit (aA (aB) (aA (aB) (aA (bH rfl cL rfl) ?_)))));simp only[zz];refine aA (cW rfl rfl) ?_;simp only[zz];refine aF (hK12 _ _ ?_);refine cG rfl (fun hc2=>?_) (fun hc2=>?_)
   ·
    obtain ⟨b,rfl,hcb,hlb⟩:=(hR.ext hX).get (show i < ys.length by omega);refine wp_region_lit (aA (aB) (aA (aB) (aA (aB) ?_)));simp only[zz];refine aA (aN cL cF rfl rfl (by omega) (by omega) (rM (Int.toNat_natCast _))) ?_;simp only[zz];refine aJ rfl (lies1 hcb iY) ?_;simp only[zz];refine aA (oZ rfl rfl (jC _)) (aA (aG) ?_);simp only[zz];refine aF ?_;obtain ⟨s,hs⟩ : ∃ s : Nat,(s : Int) = ((↑xs[i] - ↑c) % 18446744073709551616 - ↑ys[i]) % 18446744073709551616:=⟨(((↑xs[i] - ↑c) % 18446744073709551616 - ↑ys[i]) % 18446744073709551616 : Int).toNat,by omega⟩
    rw [← hs];have hs2 : (s : Int) = ((xs[i] : Nat) - (c : Nat) - (ys[i]?.getD 0 : Nat) : Int) % 18446744073709551616:=by rw [List.getElem?_eq_getElem (by omega)];simp only[Option.getD_some];omega
    have hyb : ys[i]?.getD 0 < 4294967296:=by rw [List.getElem?_eq_getElem (by omega)];exact hlb
    refine hK11 _ _ ?_;have hs64 : s < 18446744073709551616:=by omega
    refine wp_region_lit (aA (aB) (aA (aB) (aA (aB) ?_)));simp only[zz];refine aA (rH rfl rfl (mU (by omega) (by omega))) (aA (aB) (aA (lE rfl rfl (by omega) (aeY (by omega))) ?_));simp only[zz];refine aA (aN cL cF rfl rfl (by omega) (by omega) (mH (Int.toNat_natCast _))) ?_;simp only[zz];refine fE rfl (by simp only[zz];rfl) (by exact cF) hB1 (by simp;omega) (by simp [Value.oneCell']) ?_;clear hB1;intro w2 hC hB1;replace hX:=hX.chg hC hG1;clear hC;rw [show ((s:Int) % 4294967296) = ((s % 4294967296 : Nat) : Int) by omega,jQ (by omega)] at hB1;refine aA (aG) ?_;simp only[zz];refine aF (hK8 _ _ ?_);refine wp_region_lit (aA (aU rfl rfl (aV (by omega) (by omega))) (aA (aB) ?_));simp only[zz];refine aF ?_;obtain ⟨r1,r2,r3,r4⟩:=Jv (by omega) hlo hv hz hd hc hs2 hla hyb;rw [show ((i:Int) + 1) = ((i + 1 : Nat) : Int) by omega,show ((s:Int) / 9223372036854775808) = ((s / 9223372036854775808 : Nat) : Int) by omega];simp only[Exit.inBlock,Exit.then];refine ⟨xs.length - (i + 1),_,?_,rfl,?_,?_⟩
    · omega
    · simp only[zz,zv]
    ·
     simp only[zQ,zR,zD,zE];exact ⟨i + 1,s / 9223372036854775808,os.set i (s % 4294967296),rfl,hX,hB1,by omega,by simpa using hlo,r1,r2,r3,r4,rfl⟩
   ·
    obtain ⟨s,hs⟩ : ∃ s : Nat,(s : Int) = (↑xs[i] - ↑c) % 18446744073709551616:=⟨((↑xs[i] - ↑c) % 18446744073709551616 : Int).toNat,by omega⟩
    rw [← hs];have hs2 : (s : Int) = ((xs[i] : Nat) - (c : Nat) - (ys[i]?.getD 0 : Nat) : Int) % 18446744073709551616:=by rw [List.getElem?_eq_none (by omega)];simp only[Option.getD_none];omega
    have hyb : ys[i]?.getD 0 < 4294967296:=by rw [List.getElem?_eq_none (by omega)];decide
    refine wp_skip ?_;refine hK11 _ _ ?_;have hs64 : s < 18446744073709551616:=by omega
    refine wp_region_lit (aA (aB) (aA (aB) (aA (aB) ?_)));simp only[zz];refine aA (rH rfl rfl (mU (by omega) (by omega))) (aA (aB) (aA (lE rfl rfl (by omega) (aeY (by omega))) ?_));simp only[zz];refine aA (aN cL cF rfl rfl (by omega) (by omega) (mH (Int.toNat_natCast _))) ?_;simp only[zz];refine fE rfl (by simp only[zz];rfl) (by exact cF) hB1 (by simp;omega) (by simp [Value.oneCell']) ?_;clear hB1;intro w2 hC hB1;replace hX:=hX.chg hC hG1;clear hC;rw [show ((s:Int) % 4294967296) = ((s % 4294967296 : Nat) : Int) by omega,jQ (by omega)] at hB1;refine aA (aG) ?_;simp only[zz];refine aF (hK8 _ _ ?_);refine wp_region_lit (aA (aU rfl rfl (aV (by omega) (by omega))) (aA (aB) ?_));simp only[zz];refine aF ?_;obtain ⟨r1,r2,r3,r4⟩:=Jv (by omega) hlo hv hz hd hc hs2 hla hyb;rw [show ((i:Int) + 1) = ((i + 1 : Nat) : Int) by omega,show ((s:Int) / 9223372036854775808) = ((s / 9223372036854775808 : Nat) : Int) by omega];simp only[Exit.inBlock,Exit.then];refine ⟨xs.length - (i + 1),_,?_,rfl,?_,?_⟩
    · omega
    · simp only[zz,zv]
    ·
     simp only[zQ,zR,zD,zE];exact ⟨i + 1,s / 9223372036854775808,os.set i (s % 4294967296),rfl,hX,hB1,by omega,by simpa using hlo,r1,r2,r3,r4,rfl⟩
  ·
   refine wp_exit ?_;refine hK4 _ _ (aD (fun K13 hK13=>?_));obtain rfl : i = xs.length:=by omega
   refine wp_region_lit (aA (aB) ?_);simp only[zz];refine cD rfl rfl (Da _ (hB1.nat hd (by omega) (by omega))) ?_;rintro v w2 hE rfl;replace hB1:=hB1.ext hE;replace hX:=hX.trans hE;clear hE;simp only[zz];refine aA (aG) ?_;simp only[zz];refine aF (hK13 _ _ ?_);refine wp_ret ?_;try simp only[Exit.inBlock,Exit.then]
   refine bE rfl rfl ?_;try simp only[zD,zE]
   exact ⟨_,rfl,hX,mG.of_trim (hB1.nat hd (n:=xs.length) (by omega) (by omega)) (adu hle hlo hd hv hge),yT.of_blk hG1⟩
theorem ajQ {A B : Option Addr} {xs ys : List Nat} {na nb ca cb : Nat} (w : World) (hS : iN w A na ca xs) (hR : iN w B nb cb ys) (hlx : xs.length ≤ 1099511627776) (hly : ys.length ≤ 1099511627776) : eG prog 189 [.slice A na ca,.slice B nb cb] w (mG (val 4294967296 xs * val 4294967296 ys)):=by
 skip
 refine ⟨agD,?_⟩;have hX:=eB.refl w;obtain rfl:=hS.eq;obtain rfl:=hR.eq
 go_enter func189,ntmps189
 refine aD (fun K1 hK1=>wp_region_lit (aA (aG) ?_));simp only[zz];refine aF (hK1 _ _ ?_);refine aD (fun K2 hK2=>wp_region_lit (aA (aB) (aA (bH rfl cL rfl) (aA (aB) ?_))));simp only[zz];refine aA (bH rfl cL rfl) (aA (aU rfl rfl (aV (by omega) (by omega))) ?_);simp only[zz];refine vR cL Ad rfl rfl rfl (show _ = xs.length + ys.length by omega) (show _ = xs.length + ys.length by omega) (by omega) (by omega) (by omega) (by omega) ?_;intro w1 g1 hE hg1 hB1;have hG1:=Nat.le_trans hX.size hg1;replace hX:=hX.trans hE;clear hE hg1;simp only[zz];refine aA (aG) ?_;simp only[zz];refine aF ?_;rw [kN] at hB1;refine hK2 _ _ (aD (fun K3 hK3=>aD (fun K4 hK4=>wp_region_lit (aA (aB) (aA (bH rfl cL rfl) (aA (aB) ?_))))));simp only[zz];refine aF (hK4 _ _ ?_);refine wp_block (bT [20] [6,7,8,9,10,11,21,22,23,24,25,26,27,28,29,30,31,32,33,34,35,36,37,38,39,40,41,42,43,44,45,46,47,48,49,50,51,52,53,54,55,56,57,58,59,60,61] (fun n vs wl=>∃ (i : Nat) (os : List Nat),vs = [.int .i64 (i:Int)] ∧ (eB w wl) ∧ (fF wl g1 (os.map Bz) 231) ∧ (i ≤ xs.length) ∧ (os.length = xs.length + ys.length) ∧ (val 4294967296 os = val 4294967296 (xs.take i) * val 4294967296 ys) ∧ (os.drop (i + ys.length) = List.replicate (xs.length - i) 0) ∧ (fW 4294967296 os) ∧ (n = xs.length - i)) ?_ ?_)
 ·
  apply Exists.intro;simp only[zQ,zR,zD,zE];exact ⟨0,List.replicate (xs.length + ys.length) 0,rfl,hX,hB1,by omega,by simp,by rw [kO,List.take_zero];simp only[val,Nat.zero_mul],by rw [List.drop_replicate];congr 1;omega,fun x hx=>by rw [List.eq_of_mem_replicate hx];decide,rfl⟩
 ·
  intro n vs wr hI u;obtain ⟨i,os,rfl,hX,hB1,hi,hlo,hv,hz,hd,hn⟩:=hI;simp only[zu,zF,zG];refine aD (fun K5 hK5=>wp_region_lit (aA (cW rfl rfl) ?_));simp only[zz];refine aF (hK5 _ _ ?_);refine aD (fun K6 hK6=>?_);refine cG rfl (fun hc1=>?_) (fun hc1=>?_)
  ·
   refine wp_skip ?_;refine hK6 _ _ (aD (fun K7 hK7=>wp_block (aD (fun K8 hK8=>?_))));obtain ⟨a,rfl,hca,hla⟩:=(hS.ext hX).get (show i < xs.length by omega);refine wp_region_lit (aA (aB) (aA (aN cL cF rfl rfl (by omega) (by omega) (rM (Int.toNat_natCast _))) ?_));simp only[zz];refine aJ rfl (lies1 hca iY) ?_;simp only[zz];refine aA (aG) (aA (aG) ?_);simp only[zz];refine aF (hK8 _ _ ?_);refine aD (fun K9 hK9=>wp_region_lit (aA (aG) ?_));simp only[zz];refine aF (hK9 _ _ ?_);refine aD (fun K10 hK10=>aD (fun K11 hK11=>wp_region_lit (aA (aB) (aA (bH rfl cL rfl) (aA (aB) ?_)))));simp only[zz];refine aF (hK11 _ _ ?_);refine wp_block (bT [8,27] [9,10,11,28,29,30,31,32,33,34,35,36,37,38,39,40,41,42,43,44,45,46,47,48,49,50,51,52,53] (fun n vs wl=>∃ (k c : Nat) (os : List Nat),vs = [.int .u64 (c:Int),.int .i64 (k:Int)] ∧ (eB w wl) ∧ (fF wl g1 (os.map Bz) 231) ∧ (k ≤ ys.length) ∧ (os.length = xs.length + ys.length) ∧ (val 4294967296 os + 4294967296 ^ (i + k) * c = val 4294967296 (xs.take i) * val 4294967296 ys + 4294967296 ^ i * (xs[i] * val 4294967296 (ys.take k))) ∧ (os.drop (i + ys.length) = List.replicate (xs.length - i) 0) ∧ (fW 4294967296 os) ∧ (c < 4294967296) ∧ (n = ys.length - k)) ?_ ?_)
   ·
    apply Exists.intro;simp only[zQ,zR,zD,zE];exact ⟨0,0,os,rfl,hX,hB1,by omega,hlo,by rw [List.take_zero,hv];simp only[val,Nat.mul_zero],hz,hd,by omega,rfl⟩
   ·
    intro n vs wr hI u;obtain ⟨k,c,os,rfl,hX,hB1,hk,hlo,hv2,hz,hd,hc,hn2⟩:=hI;simp only[zu,zF,zG];refine aD (fun K12 hK12=>wp_region_lit (aA (cW rfl rfl) ?_));simp only[zz];refine aF (hK12 _ _ ?_);refine aD (fun K13 hK13=>?_);refine cG rfl (fun hc2=>?_) (fun hc2=>?_)
    ·
     refine wp_skip ?_;refine hK13 _ _ (aD (fun K14 hK14=>wp_block (aD (fun K15 hK15=>?_))));obtain ⟨b,rfl,hcb,hlb⟩:=(hR.ext hX).get (show k < ys.length by omega);refine wp_region_lit (aA (aB) (aA (aN cL cF rfl rfl (by omega) (by omega) (rM (Int.toNat_natCast _))) ?_));simp only[zz];refine aJ rfl (lies1 hcb iY) ?_;simp only[zz];refine aA (aG) (aA (aG) ?_);simp only[zz];refine aF (hK15 _ _ ?_);refine aD (fun K16 hK16=>?_);have hco:=hB1.word (show i + k < os.length by omega);have hlo2:=hd.get (List.getElem?_eq_getElem (show i + k < os.length by omega));obtain ⟨hm0,hm1⟩:=adw hla hlb;refine wp_region_lit (aA (aB) (aA (aB) (aA (aB) ?_)));simp only[zz];refine aA (aU rfl rfl (aV (by omega) (by omega))) (aA (aN cL cF rfl rfl (by omega) (by omega) (mH (show _ = i + k by omega))) ?_);simp only[zz];refine aJ rfl (lies1 hco iY) ?_;simp only[zz];refine aA (aB) (aA (aB) (aA (qA rfl rfl (jP (by omega) (by omega))) ?_));simp only[zz];refine aA (aU rfl rfl (jP (by omega) (by omega))) (aA (aB) (aA (aU rfl rfl (jP (by omega) (by omega))) ?_));simp only[zz];refine aA (aG) ?_;simp only[zz];refine aF ?_;obtain ⟨s,hs⟩ : ∃ s : Nat,s = os[i + k] + xs[i] * ys[k] + c:=⟨_,rfl⟩
     have hsI : (↑os[i + k] + ↑xs[i] * ↑ys[k] + ↑c : Int) = (s : Int):=by rw [hs];simp
     rw [hsI];have hs64 : s < 18446744073709551616:=by omega
     refine hK16 _ _ ?_;refine wp_region_lit (aA (aB) (aA (aB) (aA (aB) ?_)));simp only[zz];refine aA (aU rfl rfl (aV (by omega) (by omega))) (aA (aB) (aA (rH rfl rfl (mU (by omega) (by omega))) ?_));simp only[zz];refine aA (aB) (aA (lE rfl rfl (by omega) (Ju (by omega))) (aA (aN cL cF rfl rfl (by omega) (by omega) (mH (show _ = i + k by omega))) ?_));simp only[zz];refine fE rfl (by simp only[zz];rfl) (by exact cF) hB1 (by simp;omega) (by simp [Value.oneCell']) ?_;clear hB1;intro w2 hC hB1;replace hX:=hX.chg hC hG1;clear hC;rw [show ((s:Int) % 4294967296) = ((s % 4294967296 : Nat) : Int) by omega,jQ (by omega)] at hB1;refine aA (aG) ?_;simp only[zz];refine aF (hK14 _ _ ?_);refine wp_region_lit (aA (aU rfl rfl (aV (by omega) (by omega))) (aA (aB) ?_));simp only[zz];refine aF ?_;have r1:=Xx (by omega) (by omega) hlo hv2 hs;rw [show ((k:Int) + 1) = ((k + 1 : Nat) : Int) by omega,show ((s:Int) / 4294967296) = ((s / 4294967296 : Nat) : Int) by omega];simp only[Exit.inBlock,Exit.then];refine ⟨ys.length - (k + 1),_,?_,rfl,?_,?_⟩
     · omega
     · simp only[zz,zv]
     ·
      simp only[zQ,zR,zD,zE];exact ⟨k + 1,s / 4294967296,os.set (i + k) (s % 4294967296),rfl,hX,hB1,by omega,by simpa using hlo,r1,by rw [Ol (by omega)];exact hz,hd.set (by omega),by omega,rfl⟩
    ·
     refine wp_exit ?_;refine hK10 _ _ ?_;obtain rfl : k = ys.length:=by omega
     refine wp_region_lit (aA (aB) (aA (aB) (aA (aB) ?_)));simp only[zz];refine aA (bH rfl cL rfl) (aA (aU rfl rfl (aV (by omega) (by omega))) (aA (aB) ?_));simp only[zz];refine aA (aN cL cF rfl rfl (by omega) (by omega) (mH (show _ = i + ys.length by omega))) ?_;simp only[zz];refine fE rfl (by simp only[zz];rfl) (by exact cF) hB1 (by simp;omega) (by simp [Value.oneCell']) ?_;clear hB1;intro w2 hC hB1;replace hX:=hX.chg hC hG1;clear hC;rw [jQ (by omega)] at hB1;refine aF (hK7 _ _ ?_);refine wp_region_lit (aA (aU rfl rfl (aV (by omega) (by omega))) (aA (aB) ?_));simp only[zz];refine aF ?_;obtain ⟨r1,r2⟩:=adv (by omega) hlo hv2 hz;rw [show ((i:Int) + 1) = ((i + 1 : Nat) : Int) by omega];simp only[Exit.inBlock,Exit.then];refine ⟨xs.length - (i + 1),_,?_,rfl,?_,?_⟩
     · omega
     · simp only[zz,zv]
     ·
      simp only[zQ,zR,zD,zE];exact ⟨i + 1,os.set (i + ys.length) c,rfl,hX,hB1,by omega,by simpa using hlo,r1,r2,hd.set (by omega),rfl⟩
  ·
   refine wp_exit ?_;refine hK3 _ _ (aD (fun K17 hK17=>?_));obtain rfl : i = xs.length:=by omega
   refine wp_region_lit (aA (aB) ?_);simp only[zz];refine cD rfl rfl (Da _ (hB1.nat hd (by omega) (by omega))) ?_;rintro v w2 hE rfl;replace hB1:=hB1.ext hE;replace hX:=hX.trans hE;clear hE;simp only[zz];refine aA (aG) ?_;simp only[zz];refine aF (hK17 _ _ ?_);refine wp_ret ?_;try simp only[Exit.inBlock,Exit.then]
   refine bE rfl rfl ?_;try simp only[zD,zE]
   exact ⟨_,rfl,hX,mG.of_trim (hB1.nat hd (n:=xs.length + ys.length) (by omega) (by omega)) (by rw [hv,List.take_length])⟩
end Go.Proofs.YtfekpcimgncioaaGreatDoor
namespace Go.Proofs.YtfekpcimgncioaaGreatDoor
open Go.Proofs.Tryz
open Go.RowKit Go.Lith
set_option maxRecDepth 100000
attribute [local irreducible] wpList wpQuiet dB Code.wp
end Go.Proofs.YtfekpcimgncioaaGreatDoor
namespace Go.Proofs.YtfekpcimgncioaaGreatDoor
open Go.Proofs.Tryz
open Go.RowKit Go.Lith
set_option maxRecDepth 100000
attribute [local irreducible] wpList wpQuiet dB Code.wp
end Go.Proofs.YtfekpcimgncioaaGreatDoor
namespace Go.Proofs.YtfekpcimgncioaaGreatDoor
open Go.Proofs.Tryz
open Go.RowKit Go.Lith
set_option maxRecDepth 100000
attribute [local irreducible] wpList wpQuiet dB Code.wp
end Go.Proofs.YtfekpcimgncioaaGreatDoor
namespace Go.Proofs.YtfekpcimgncioaaGreatDoor
open Go.Proofs.Tryz
open Go.RowKit Go.Lith
set_option maxRecDepth 100000
attribute [local irreducible] wpList wpQuiet dB Code.wp
theorem Kz {neg : Bool} {s : ByteArray} (w : World) (hs : s.size ≤ 1000000000000) : eG prog 185 [.agg #[.bool neg,.string s]] w (mG (afE s)):=by
 skip
 refine ⟨agz,?_⟩;have hX:=eB.refl w
 go_enter func185,ntmps185
 refine aD (fun K1 hK1=>wp_region_lit ?_);refine tL (by simp only[zz];rfl) ?_;intro w1 g1 hE hg1 hB1;have hG1:=Nat.le_trans hX.size hg1;replace hX:=hX.trans hE;clear hE hg1;simp only[zz];refine aA (aG) ?_;simp only[zz];refine aF (hK1 _ _ ?_);refine aD (fun K2 hK2=>wp_region_lit (aA (aL (c:=0) nQ rfl zX rfl rfl) ?_));simp only[zz];refine aJ rfl (hB1.lies1 Kh rfl) ?_;simp only[zz];refine aA (rI rfl mX rfl) (aA (aU rfl rfl (aV (by omega) (by omega))) (aA (oZ rfl rfl (aV (by omega) (by omega))) ?_));simp only[zz];rw [show ((s.size : Int) + 4 - 1) = ((s.size + 3 : Nat) : Int) by omega];refine aA (aaE rfl rfl (by omega) (Vw (n:=4) (by omega))) ?_;simp only[zz];obtain ⟨K,hK⟩ : ∃ K,K = (s.size + 3) / 4:=⟨_,rfl⟩
 rw [← hK];refine vR cL Ad rfl rfl rfl (show _ = K by omega) (show _ = K by omega) (by omega) (by omega) (by omega) (by omega) ?_;intro w2 g2 hE hg2 hB2;have hG2:=Nat.le_trans hX.size hg2;have hN2_1 : g2 ≠ g1:=Nat.ne_of_gt (Nat.lt_of_lt_of_le hB1.lt hg2);replace hB1:=hB1.ext hE;replace hX:=hX.trans hE;clear hE hg2;simp only[zz];refine aA (aG) ?_;simp only[zz];refine aF ?_;rw [kN] at hB2;refine hK2 _ _ (aD (fun K3 hK3=>aD (fun K4 hK4=>wp_region_lit (aA (aL (c:=0) nQ rfl zX rfl rfl) ?_))));simp only[zz];refine aJ rfl (hB1.lies1 Kh rfl) ?_;simp only[zz];refine aA (rI rfl mX rfl) (aA (aB) ?_);simp only[zz];refine aF (hK4 _ _ ?_);refine wp_block (bT [16] [4,5,17,18,19,20,21,22,23,24,25,26,27,28,29,30,31,32,33,34,35,36,37,38,39,40,41] (fun n vs wl=>∃ (i : Nat) (os : List Nat),vs = [.int .i64 (i:Int)] ∧ (eB w wl) ∧ (fF wl g1 [.bool neg,.string s] 95) ∧ (fF wl g2 (os.map Bz) 231) ∧ (i ≤ s.size) ∧ (os.length = K) ∧ (fW 4294967296 os) ∧ (∀ (j : Nat) (h : j < os.length),256 ^ (s.size - i - 4 * j) ∣ os[j]) ∧ (val 4294967296 os = 256 ^ (s.size - i) * val 256 ((qW s).drop (s.size - i))) ∧ (n = s.size - i)) ?_ ?_)
 ·
  apply Exists.intro;simp only[zQ,zR,zD,zE];exact ⟨0,List.replicate K 0,rfl,hX,hB1,hB2,by omega,by simp,fun x hx=>by rw [List.eq_of_mem_replicate hx];decide,fun j h=>by rw [List.getElem_replicate];exact Nat.dvd_zero _,by rw [kO,aaN (by rw [wT];omega),Nat.mul_zero],rfl⟩
 ·
  intro n vs wr hI u;obtain ⟨i,os,rfl,hX,hB1,hB2,hi,hlo,hd,hdv,hv,hn⟩:=hI;simp only[zu,zF,zG];refine aD (fun K5 hK5=>wp_region_lit (aA (cW rfl rfl) ?_));simp only[zz];refine aF (hK5 _ _ ?_);refine aD (fun K6 hK6=>?_);refine cG rfl (fun hc1=>?_) (fun hc1=>?_)
  ·
   refine wp_skip ?_;refine hK6 _ _ (aD (fun K7 hK7=>wp_block (aD (fun K8 hK8=>wp_region_lit (aA (aB) (aA (aG) ?_))))));simp only[zz];refine aF (hK8 _ _ ?_);refine aD (fun K9 hK9=>wp_region_lit (aA (aL (c:=0) nQ rfl zX rfl rfl) ?_));simp only[zz];refine aJ rfl (hB1.lies1 Kh rfl) ?_;simp only[zz];refine aA (rI rfl mX rfl) (aA (oZ rfl rfl (aV (by omega) (by omega))) (aA (aB) ?_));simp only[zz];refine aA (oZ rfl rfl (aV (by omega) (by omega))) (aA (aG) ?_);simp only[zz];refine aF ?_;obtain ⟨p,hp⟩ : ∃ p,p + 1 + i = s.size:=⟨s.size - 1 - i,by omega⟩
   rw [show ((s.size : Int) - 1 - (i : Int)) = (p : Int) by omega];refine hK9 _ _ ?_;obtain ⟨b,hb,hpl,hbp⟩:=So hp;have hco:=hB2.word (show p / 4 < os.length by omega);obtain ⟨f1,f2,f3,f4⟩:=Xy (r:=p % 4) (j:=p / 4) hpl (by omega) (by omega) (by omega) hd (Ot s) (by rw [show p + 1 = s.size - i by omega];exact hdv) (by rw [show p + 1 = s.size - i by omega];exact hv);rw [hbp,Fs] at f1 f3 f4;have hb256 : b.toNat < 256:=b.toNat_lt;have f5 : b.toNat * 2 ^ (8 * (p % 4)) < 2 ^ (8 * (p % 4 + 1)):=by
    rw [show 8 * (p % 4 + 1) = 8 + 8 * (p % 4) by omega,Nat.pow_add];exact Nat.mul_lt_mul_of_pos_right hb256 (Nat.pow_pos (by omega))
   obtain ⟨c,f6⟩ : ∃ c,os[p / 4] = 2 ^ (8 * (p % 4 + 1)) * c:=by
    obtain ⟨c,hc⟩:=f2;exact ⟨c,by rw [hc,Fs]⟩
   refine oY 16 aM (by kernel_rfl) ?_;simp only[zy];refine aK (aB) (aK (aB) (aK (aaE rfl rfl (by omega) (Vw (n:=4) (by omega))) ?_));simp only[zz];refine aK (aN cL cF rfl rfl (by omega) (by omega) (mH (show _ = p / 4 by omega))) ?_;simp only[zz];refine tZ rfl (fun _ hE'=>(lies1 (hE'.cell hco) iY)) ?_;simp only[zz];refine aK (aL (c:=0) nQ rfl zX rfl rfl) ?_;simp only[zz];refine tZ rfl (fun _ hE'=>((hB1.ext hE').lies1 Kh rfl)) ?_;simp only[zz];refine aK (aB) ?_;simp only[zz];refine aK ((pA mX rfl rfl (by omega) (by rw [Int.toNat_natCast];exact hb))) ?_;simp only[zz];refine aK (eU gL rX rfl (jP (by omega) (by omega))) (aK (aB) (aK (gD rfl rfl (by omega) (adz (n:=4))) ?_));simp only[zz];refine aK (qA rfl rfl ((aV (by omega) (by omega)).trans (show (8 : Int) * ((p % 4 : Nat) : Int) = ((8 * (p % 4) : Nat) : Int) by omega))) (aK (aiF rfl rfl (by omega) (adx (n:=8 * (p % 4)) (by omega) (by omega))) (aK (akr rfl rfl ((ady (s:=8 * (p % 4 + 1)) (a:=b.toNat * 2 ^ (8 * (p % 4))) (b:=os[p / 4]) f5 f6 (by omega)).trans (show (((b.toNat * 2 ^ (8 * (p % 4))) + os[p / 4] : Nat) : Int) = ((os[p / 4] + b.toNat * 2 ^ (8 * (p % 4)) : Nat) : Int) by omega))) ?_));simp only[zz];refine aK (aN cL cF rfl rfl (by omega) (by omega) (mH (show _ = p / 4 by omega))) ?_;simp only[zz];refine bZ ?_;intro w3 hE;replace hB1:=hB1.ext hE;replace hB2:=hB2.ext hE;replace hX:=hX.trans hE;clear hE;refine fE rfl (by simp only[zz];rfl) (by exact cF) hB2 (by simp;omega) (by simp [Value.oneCell']) ?_;clear hB2;intro w4 hC hB2;replace hB1:=hB1.chg hC (by first | exact hN1_2 | exact Ne.symm hN2_1);replace hX:=hX.chg hC hG2;clear hC;rw [jQ (by omega)] at hB2;refine aF (hK7 _ _ ?_);refine wp_region_lit (aA (aU rfl rfl (aV (by omega) (by omega))) (aA (aB) ?_));simp only[zz];refine aF ?_;rw [show ((i:Int) + 1) = ((i + 1 : Nat) : Int) by omega];simp only[Exit.inBlock,Exit.then];refine ⟨s.size - (i + 1),_,?_,rfl,?_,?_⟩
   · omega
   · simp only[zz,zv]
   ·
    simp only[zQ,zR,zD,zE];exact ⟨i + 1,os.set (p / 4) (os[p / 4] + b.toNat * 2 ^ (8 * (p % 4))),rfl,hX,hB1,hB2,by omega,by simpa using hlo,hd.set f1,by rw [show s.size - (i + 1) = p by omega];exact f3,by rw [show s.size - (i + 1) = p by omega];exact f4,rfl⟩
  ·
   refine wp_exit ?_;refine hK3 _ _ (aD (fun K10 hK10=>?_));obtain rfl : i = s.size:=by omega
   refine wp_region_lit (aA (aB) ?_);simp only[zz];refine cD rfl rfl (Da _ (hB2.nat hd (by omega) (by omega))) ?_;rintro v w3 hE rfl;replace hB2:=hB2.ext hE;replace hX:=hX.trans hE;clear hE;simp only[zz];refine aA (aG) ?_;simp only[zz];refine aF (hK10 _ _ ?_);refine wp_ret ?_;try simp only[Exit.inBlock,Exit.then]
   refine bE rfl rfl ?_;try simp only[zD,zE]
   exact ⟨_,rfl,hX,mG.of_trim (hB2.nat hd (n:=K) (by omega) (by omega)) (by rw [hv,Nat.sub_self,Nat.pow_zero,Nat.one_mul,List.drop_zero];rfl)⟩
end Go.Proofs.YtfekpcimgncioaaGreatDoor
namespace Go.Proofs.YtfekpcimgncioaaGreatDoor
open Go.Proofs.Tryz
open Go.RowKit Go.Lith
attribute [local go_sem] Oper.semAt_some
def jT (n₀ Bs : Nat) (W W' : World) : Prop:=Below n₀ W W' ∧ W'.heap[Bs]? = W.heap[Bs]?
theorem jT.refl (n₀ Bs : Nat) (W : World) : jT n₀ Bs W W:=⟨Below.refl _ _,rfl⟩
theorem jT.trans {n₀ Bs : Nat} {A B C : World} (h : jT n₀ Bs A B) (k : jT n₀ Bs B C) : jT n₀ Bs A C:=⟨h.1.trans k.1,k.2.trans h.2⟩
theorem jT.box {n₀ Bs : Nat} {A B : World} (h : jT n₀ Bs A B) {v : Value} (hc : A.cell? ⟨Bs,0,none⟩ = some v) : B.cell? ⟨Bs,0,none⟩ = some v:=(World.cell?_of_block h.2).trans hc
set_option maxRecDepth 100000 in
theorem acd (F : Fence) (n : Nat) (h7 : F.fn 314) (hro : F.round = none) (hn : 1 ≤ n) (l Bs n₀ cap : Nat) (a : Addr) (xs : List Nat) (hreach : xs.length * 8 ≤ 140737488351232) (hb : a.block < n₀) (J Jx : List (Nat × Nat) → World → Prop)
 (hY : ∀ pre x W,J pre W → pre.length < xs.length → YieldAt F (n - 1) prog l #[.int .i64 (x.1 : Int),.int .u64 (x.2 : Int)] W fun e W' =>
  (e = .returned (.bool true) ∧ J (pre ++ [x]) W' ∧ jT n₀ Bs W W') ∨ (e = .returned (.bool false) ∧ Jx (pre ++ [x]) W'))
 (W : World) (hBs : W.cell? ⟨Bs,0,none⟩ = some (.slice (some a) xs.length cap)) (hc : ∀ j (h : j < xs.length),W.cell? (a.add j) = some (.int .u64 (xs[j] : Nat))) (h0 : J [] W) :
 CallsIn F n prog 314 #[.func (.yield l) #[] #[],.pointer (some ⟨Bs,0,none⟩)] W fun e W'=>(∃ v,e = .returned v) ∧
  ((∃ ys : List (Nat × Nat),ys.map Prod.snd = xs.reverse ∧ J ys W') ∨ (∃ pre,True ∧ Jx pre W')):=by
 refine callsIn_of_wp func314 rfl h7 ?_ hro;simp only[ntmps314,List.size_toArray,List.length_cons,List.length_nil,Nat.reduceAdd,Nat.reduceSub,Array.replicate_succ,Array.replicate_zero,List.push_toArray,List.append_toArray,List.nil_append,List.cons_append]
 gi_wp2
 gi_loopw [3] (fun i wr=>∃ (k : Nat) (pre : List (Nat × Nat)),k ≤ xs.length ∧ i = .int .i64 ((k : Int) - 1) ∧ pre.length = xs.length - k ∧ pre.map Prod.snd = (xs.drop k).reverse ∧ J pre wr ∧ jT n₀ Bs W wr)
  (fun i _=>(intOf i + 1).toNat)
 case atStart=>exact ⟨xs.length,[],Nat.le_refl _,rfl,by simp,by simp,h0,jT.refl _ _ _⟩
 case round =>
  obtain ⟨k,pre,hk,rfl,hpl,hpre,hJs,hnx⟩:=hrel;have hBw : wr.cell? ⟨Bs,0,none⟩ = some (.slice (some a) xs.length cap):=hnx.box hBs;by_cases hk0 : 0 < k
  · have hlt : k - 1 < xs.length:=by omega
    have hcx : wr.cell? (a.add (k - 1)) = some (.int .u64 ((xs[k - 1] : Nat) : Int)):=(hnx.1.cell (by rw [Ca];exact hb)).trans (hc _ hlt);obtain ⟨fn,tmps,assign,body,hy,hR⟩:=hY pre (k - 1,xs[k - 1]) wr hJs (by omega);dsimp only at hy;obtain ⟨j,rfl⟩ : ∃ j,k = j + 1:=⟨k - 1,by omega⟩
    rw [show (((j + 1 : Nat) : Int) - 1) = (j : Int) by omega];simp only[Nat.add_sub_cancel] at hy hR hcx hlt
    gi_wp2
    refine hR.mono ?_;rintro e W3 (⟨rfl,hJ3,hk3⟩ | ⟨rfl,hJx3⟩)
    · gi_wp2
      go_roundw
      case rel=>exact ⟨j,pre ++ [(j,xs[j])],by omega,by simp,by simp;omega,by rw [List.drop_eq_getElem_cons hlt,List.reverse_cons,List.map_append,hpre];rfl,hJ3,hnx.trans hk3⟩
      case measure=>simp [intOf]
    · gi_wp2
      refine bodyPost_ret (results_none rfl _ _ _) rfl ?_;exact ⟨⟨_,rfl⟩,.inr ⟨_,trivial,hJx3⟩⟩
  · obtain rfl : k = 0:=by omega
    gi_wp2
    go_end0
    exact ⟨⟨_,rfl⟩,.inl ⟨pre,by rw [hpre];rfl,hJs⟩⟩
set_option maxRecDepth 100000 in
theorem Nk (F : Fence) (n : Nat) (h7 : F.fn 314) (hro : F.round = none) (l Bs cap : Nat) (A : Option Addr) (J : List (Nat × Nat) → World → Prop) (W : World) (hBs : W.cell? ⟨Bs,0,none⟩ = some (.slice A 0 cap)) (h0 : J [] W) :
 CallsIn F n prog 314 #[.func (.yield l) #[] #[],.pointer (some ⟨Bs,0,none⟩)] W fun e W'=>(∃ v,e = .returned v) ∧ J [] W':=by
 refine callsIn_of_wp func314 rfl h7 ?_ hro;simp only[ntmps314,List.size_toArray,List.length_cons,List.length_nil,Nat.reduceAdd,Nat.reduceSub,Array.replicate_succ,Array.replicate_zero,List.push_toArray,List.append_toArray,List.nil_append,List.cons_append]
 gi_wp2
 gi_loopw [3] (fun i wr=>i = .int .i64 (-1) ∧ J [] wr) (fun _ _=>0)
 case atStart=>exact ⟨rfl,h0⟩
 case round =>
  obtain ⟨rfl,hJs⟩:=hrel
  gi_wp2
  go_end0
  exact ⟨⟨_,rfl⟩,hJs⟩
theorem aes (F : Fence) (n : Nat) (h5 : F.fn 257) (hro : F.round = none) (a : Option Addr) (len cap : Nat) (w : World) :
 CallsIn F n prog 257 #[.slice a len cap] w fun e w'=>e = .returned (.func (.func 314) #[] #[.pointer (some ⟨w.heap.size,0,none⟩)]) ∧ w' = w.alloc (.cells #[.slice a len cap] 233):=by
 refine callsIn_of_wp func257 rfl h5 ?_ hro;simp only[ntmps257,List.size_toArray,List.length_cons,List.length_nil,Nat.reduceAdd,Nat.reduceSub,Array.replicate_succ,Array.replicate_zero,List.push_toArray,List.append_toArray,List.nil_append,List.cons_append]
 gi_wp2
 go_ret
 exact ⟨rfl,rfl⟩
theorem Us (F : Fence) (n : Nat) (h7 : F.fn 314) (hro : F.round = none) (hn : 1 ≤ n) (Bs n₀ cap : Nat) (A : Option Addr) (xs : List Nat) (hreach : xs.length * 8 ≤ 140737488351232) (w : World) (hBs : Bs < w.heap.size) (hn₀ : n₀ ≤ w.heap.size)
 (hc : w.cell? ⟨Bs,0,none⟩ = some (.slice A xs.length cap)) (hI : ∀ (i x : Nat),xs[i]? = some x → ∃ a,A = some a ∧ w.cell? (a.add i) = some (.int .u64 (x : Int))) (hA : ∀ a,0 < xs.length → A = some a → a.block < n₀) :
 SeqStopsK F n prog 314 #[.pointer (some ⟨Bs,0,none⟩)] (fun x : Nat × Nat=>#[Value.int .i64 (x.1 : Int),Value.int .u64 (x.2 : Int)]) (jT n₀ Bs) (fun ys=>ys.map Prod.snd = xs.reverse) (fun _=>True) xs.length w:=fun l J Jx W hW _ _ hY h0=>by
 have hc':=(hW.cell (p:=⟨Bs,0,none⟩) hBs).trans hc;rcases Nat.eq_zero_or_pos xs.length with h | h
 · obtain rfl : xs = []:=List.eq_nil_of_length_eq_zero h
   exact (Nk F n h7 hro l Bs cap A J W hc' h0).mono fun e W' ⟨he,hj⟩=>⟨he,.inl ⟨[],rfl,hj⟩⟩
 · obtain ⟨a,rfl,_⟩:=hI 0 xs[0] (List.getElem?_eq_getElem h)
   refine acd F n h7 hro hn l Bs n₀ cap a xs hreach (hA a h rfl) J Jx hY W hc' (fun j hj=>?_) h0;obtain ⟨a',e,hcl⟩:=hI j xs[j] (List.getElem?_eq_getElem hj);cases e;exact (hW.cell (by rw [Ca];exact Nat.lt_of_lt_of_le (hA a h rfl) hn₀)).trans hcl
theorem ahQ {A : Option Addr} {n cap : Nat} (w : World) : eG prog 257 [.slice A n cap] w (fun v w'=>∃ g,v = .func (.func 314) #[] #[.pointer (some ⟨g,0,none⟩)] ∧ w.heap.size ≤ g ∧ fF w' g [.slice A n cap] 233):=by
 refine ⟨agX,(callsIn_wide (n:=2)).1 ((aes Fence.wide 2 trivial rfl A n cap w).mono ?_)⟩;rintro e w' ⟨rfl,rfl⟩;exact ⟨_,rfl,(eB.refl w).alloc _,_,rfl,Nat.le_refl _,gU w _ _⟩
end Go.Proofs.YtfekpcimgncioaaGreatDoor
namespace Go.Proofs.YtfekpcimgncioaaGreatDoor
open Go.Proofs.Tryz
open Go.RowKit Go.Lith
set_option maxRecDepth 100000
attribute [local irreducible] wpList wpQuiet dB Code.wp
attribute [local go_sem] Oper.semAt_some
theorem aet : (prog.info? 5).map (fun i=>(i.zero,i.size,i.bytes)) = some (some (.int .u8 0),1,1):=by kernel_rfl
theorem Hq {W w1 : World} {tmp : Obj} {v v' : Value} {base size k g g3 : Nat} {e t : TypeId} {xs cs : List Value} (hB : fF W g cs t) (hte : t ≠ e) (hr : W.ownsRow base e size v k xs) (hg : (W.alloc tmp).grownBy w1 v.ownBlock) (hne : g ≠ g3) : (w1.setCell ⟨g3,0,none⟩ v').heap[g]? = W.heap[g]?:=by
 have h1 : some g ≠ v.ownBlock:=by
  rcases hr.2 with ⟨rfl,_⟩ | ⟨g',cap,cur,rfl,_,hgb,_⟩
  · simp [Value.ownBlock]
  ·
   intro h;obtain rfl : g = g':=by simpa [Value.ownBlock] using h
   rw [hB] at hgb;cases hgb;exact hte rfl
 exact ((Below.heap_setCell w1 ⟨g3,0,none⟩ v' g hne).trans (hg.block g (by simp;have:=hB.lt;omega) h1)).trans (Below.heap_alloc W tmp g hB.lt)
theorem yB {A : Option Addr} {xs : List Nat} {na cap : Nat} {neg : Bool} (w : World) (hS : iN w A na cap xs) (hl : xs.length ≤ 100000000000) : eG prog 184 [.slice A na cap,.bool neg] w (fun v _=>v = W (Od neg (val 4294967296 xs))):=by
 skip
 refine ⟨agy,?_⟩;have hX:=eB.refl w;obtain rfl:=hS.eq;have hlt:=Fp xs;have hle:=hS.le;refine (callsIn_wide (n:=4)).1 (callsIn_of_wp_marks func184 rfl trivial ?_ rfl);simp only[ntmps184,List.size_toArray,List.length_cons,List.length_nil,Nat.reduceAdd,Nat.reduceSub,Array.replicate_succ,Array.replicate_zero,List.push_toArray,List.append_toArray,List.nil_append,List.cons_append];refine wpIn_wide.2 (aD (fun K1 hK1=>wp_region_lit ?_));refine nX gM rfl ?_;intro w1 g1 hE hg1 hB1;have hG1:=Nat.le_trans hX.size hg1;replace hX:=hX.trans hE;clear hE hg1;simp only[zz];refine aF (hK1 _ _ ?_);refine aD (fun K2 hK2=>wp_region_lit (aA (aB) ?_));simp only[zz];refine cD rfl rfl (Da _ (hS.ext hX)) ?_;rintro v w2 hE rfl;replace hB1:=hB1.ext hE;replace hX:=hX.trans hE;clear hE;simp only[zz];refine aA (aG) ?_;simp only[zz];refine aF ?_;obtain ⟨ys,hys⟩ : ∃ ys,ys = trim xs:=⟨_,rfl⟩
 rw [← hys] at hlt ⊢;refine hK2 _ _ (aD (fun K3 hK3=>wp_region_lit (aA (aB) (aA (bH rfl cL rfl) (aA (qA rfl rfl (aV (by omega) (by omega))) ?_)))));simp only[zz];refine vR underlying300 ajw rfl rfl rfl (show _ = 0 by omega) (show _ = 4 * ys.length by omega) (by omega) (by omega) (by omega) (by omega) ?_;intro w3 g2 hE hg2 hB2;have hG2:=Nat.le_trans hX.size hg2;have hN2_1 : g2 ≠ g1:=Nat.ne_of_gt (Nat.lt_of_lt_of_le hB1.lt hg2);replace hB1:=hB1.ext hE;replace hX:=hX.trans hE;clear hE hg2;simp only[zz];refine nX abi rfl ?_;intro w4 g3 hE hg3 hB3;have hG3:=Nat.le_trans hX.size hg3;have hN3_1 : g3 ≠ g1:=Nat.ne_of_gt (Nat.lt_of_lt_of_le hB1.lt hg3);have hN3_2 : g3 ≠ g2:=Nat.ne_of_gt (Nat.lt_of_lt_of_le hB2.lt hg3);replace hB1:=hB1.ext hE;replace hB2:=hB2.ext hE;replace hX:=hX.trans hE;clear hE hg3;simp only[zz];refine fE rfl (by simp only[zz];rfl) (by exact Yn) hB3 (by simp) (by simp [Value.oneCell']) ?_;clear hB3;intro w5 hC hB3;replace hB1:=hB1.chg hC (by first | exact hN1_3 | exact Ne.symm hN3_1);replace hB2:=hB2.chg hC (by first | exact hN2_3 | exact Ne.symm hN3_2);replace hX:=hX.chg hC hG3;clear hC;simp only[zy,zx,bB,Nat.reduceAdd] at hB3;refine aF (hK3 _ _ ?_);refine aD (fun K4 hK4=>aD (fun K5 hK5=>wp_region_lit (aA (aB) ?_)));simp only[zz];refine cD rfl rfl (ahQ _) ?_;rintro v w6 hE ⟨g4,rfl,hg4,hB4⟩;have hG4:=Nat.le_trans hX.size hg4;have hN4_1 : g4 ≠ g1:=Nat.ne_of_gt (Nat.lt_of_lt_of_le hB1.lt hg4);have hN4_2 : g4 ≠ g2:=Nat.ne_of_gt (Nat.lt_of_lt_of_le hB2.lt hg4);have hN4_3 : g4 ≠ g3:=Nat.ne_of_gt (Nat.lt_of_lt_of_le hB3.lt hg4);replace hB1:=hB1.ext hE;replace hB2:=hB2.ext hE;replace hB3:=hB3.ext hE;replace hX:=hX.trans hE;clear hE hg4;simp only[zz];refine aF (hK5 _ _ ?_);refine wp_block ((wpIn_wide (n:=4)).1 ?_);have hbase : w.heap.size ≤ w6.heap.size:=hX.size;obtain ⟨n0,hn0⟩ : ∃ n0,n0 = w.heap.size:=⟨_,rfl⟩
 have hT : iN w6 A ys.length cap ys:=(((hS.ext hX).take (trim xs).length).as (jW xs).symm |> fun h=>by rw [← jW,← hys] at h;exact h)
 have hA : ∀ a,0 < ys.length → A = some a → a.block < w.heap.size:=fun a h0 e=>by
  obtain ⟨a',e',hc⟩:=hS.row 0 (xs[0]'(by omega)) (List.getElem?_eq_getElem (by omega));rw [e] at e';cases e';have:=World.block_lt_of_cell? _ _ hc;rwa [Ca] at this
 refine wpIn_rangeFunc_ownG (F:=Fence.wide) rfl (by omega) (gf:=314) (lb:=#[.pointer (some ⟨g4,0,none⟩)]) rfl trivial (enters_of func314 (by kernel_rfl) rfl)
  (Us Fence.wide 3 trivial rfl (by omega) g4 w.heap.size cap A ys (by omega) w6 hB4.lt hX.size (hB4.cell rfl) hT.row hA) jT.trans (fun W l o o' hl ho _ _=>⟨belowK_b (w:=w6) hX.size W l o o' hl ho ‹_› ‹_›,World.putObj_heap_other (by have:=hB4.lt;omega)⟩) (Below.refl _ _) (fun _=>rfl)
  (fun pre W=>((∃ v,Boxed W g3 300 v ∧ W.ownsRow w.heap.size 5 1 v (Ov pre).length ((Ov pre).map u8v) ∧ True) ∧ fF W g1 [.bool false,.string ⟨#[]⟩] 95 ∧ fF W g4 [.slice A ys.length cap] 233) ∧ Below w.heap.size w W)
  (fun _ _ _=>False)
  (OwnFrom.and (OwnFrom.and (Own.from (holdsRow_own w.heap.size g3 300 5 1 (fun pre=>(Ov pre).length) (fun pre=>(Ov pre).map u8v) (fun _ _=>True)) _) (Own.from (fun s X Y row hs hg hr=>⟨(grownBy_keeps_cells hg hr hs.1 rfl).trans hs.1,(grownBy_keeps_cells hg hr hs.2 rfl).trans hs.2⟩) _)) (ownFrom_below (Nat.le_refl _) hX.size))
  (fun _ _ _ _ _ hs _ _=>hs)
  ⟨⟨⟨_,hB3,⟨rfl,.inr ⟨g2,4 * ys.length,_,rfl,hG2,hB2,Nat.zero_le _,by show _ ≤ 9223372036854775807;omega,by simp,by simp [Ov]⟩⟩,trivial⟩,hB1,hB4⟩,hX⟩
  (fun x=>{ tmps:=#[.slice A ys.length cap,.bool neg,undef,undef,.pointer (some ⟨g1,0,none⟩),.pointer (some ⟨g3,0,none⟩),undef,.int .u64 (x.2 : Int),undef,.slice A xs.length cap,.slice A ys.length cap,.slice A ys.length cap,.int .i64 (ys.length : Int),.int .i64 (4 * (ys.length : Int)),.slice (some ⟨g2,0,none⟩) 0 (4 * ys.length),.slice A ys.length cap,.func (.func 314) #[] #[.pointer (some ⟨g4,0,none⟩)],.int .i64 (x.1 : Int),.int .u64 (x.2 : Int),undef,undef,undef,undef,undef,undef,undef,undef,undef,undef,undef,undef,undef,undef,undef,undef,undef,undef,undef,undef,undef,undef,undef,undef],defers:=[] }) ?assign ?body ?done ?stop
 case assign =>
  intro l x W K hK;clear hys
  gi_wp2
  exact hK
 case stop =>
  rintro D c pre W _ _ h _;exact h.elim
 case body =>
  rintro l pre x W ⟨⟨⟨v,hv,hrow,_⟩,hB1',hB4'⟩,hB⟩ hlt;have hc:=hv.cell;have hwl : (Ov pre).length ≤ 4 * pre.length:=Nat.le_of_eq (Fv pre);clear hys;obtain ⟨i0,hi,hz0,hz1,hz2⟩:=info_parts aet
  gi_wp2_with (gi_at_builtin;refine wpListIn_append_own _ rfl _ _ 300 rfl w.heap.size 5 i0 (.int .u8 0) 1 1 underlying300 hi hz0 hz1 hz2 rfl (by decide) _ _ _ rfl (hrow.alloc _) ⟨W.heap.size,0,none⟩ 4 4 [.int .u8 ((x.2 : Int) / 16777216 % 256),.int .u8 ((x.2 : Int) / 65536 % 256),.int .u8 ((x.2 : Int) / 256 % 256),.int .u8 ((x.2 : Int) % 256)] rfl rfl ((gU W _ 5).row 0) (by simp [Value.oneCell']) (by show _ ≤ 9223372036854775807;omega) (by omega) (by have:=hB.size;simp;omega) ?_;intro v' w1 hown' hgrow _;obtain ⟨g',cap',rfl⟩:=ownsRow_succ hown';obtain ⟨hv1,hv2,hr2,hk2,hb2⟩:=hv.appended (by decide) hrow hB.size hG3 hown' hgrow;have hc1:=hv1.cell;have hf1:=hv1.frozen)
  have e1:=Hq hB1' (by decide) hrow hgrow (Ne.symm hN3_1) (v':=.slice (some ⟨g',0,none⟩) ((Ov pre).length + 3 + 1) cap');have e4:=Hq hB4' (by decide) hrow hgrow hN4_3 (v':=.slice (some ⟨g',0,none⟩) ((Ov pre).length + 3 + 1) cap');refine ⟨hk2.from _,⟨hb2,e4⟩,⟨⟨_,hv2,?_,trivial⟩,e1.trans hB1',e4.trans hB4'⟩,hB.trans hb2⟩;rw [aaO,List.length_append,List.map_append];have e : (wb x.2).map u8v = [.int .u8 ((x.2 : Int) / 16777216 % 256),.int .u8 ((x.2 : Int) / 65536 % 256),.int .u8 ((x.2 : Int) / 256 % 256),.int .u8 ((x.2 : Int) % 256)]:=by simp [wb,UInt8.toNat_ofNat']
  rw [e];exact hr2
 rintro D ls W hD hls ⟨⟨⟨v,hv,hrow,_⟩,hB1',_⟩,hX'⟩ hK';replace hD:=Nat.le_trans hX.size hD;clear hB1 hB2 hB3 hB4 hX hG2 hG4 hN2_1 hN3_2 hN4_1 hN4_2 hN4_3 hbase hT;have hB1:=hB1';have hB3 : fF W g3 [v] 300:=hv;have hX : eB w W:=hX';have hK : Sh W D:=⟨hK'⟩
 have hDg1:=hK.ne hB1;have hlb : (Ov ls).length ≤ 1000000000000000:=by
  have:=congrArg List.length hls;rw [List.length_map,List.length_reverse] at this;rw [Fv];omega
 have hbs : lG (pF (Ov ls)) = nE (Od neg (val 4294967296 xs)):=by
  have e : Ov ls = ys.reverse.flatMap wb:=by rw [← hls,List.flatMap_map];rfl
  have hd : fW 4294967296 ys:=by rw [hys];exact hS.digs.trim
  rw [e,Sv hd neg,hys,Fo]
 dsimp only;refine hK4 _ _ (aD (fun K6 hK6=>wp_region_lit ?_));refine aJ rfl (hB3.lies1 adW rfl) ?_;simp only[zz];refine eY (St underlying300 rX mX rfl hrow) ?_;simp only[zz];refine vP rfl rfl (Ur hlb) ?_;intro w7 hE;replace hB1:=hB1.ext hE;(try replace hK:=hK.ext hE);replace hX:=hX.trans hE;clear hE;simp only[zz];refine aA (aG) ?_;simp only[zz];refine aF ?_;rw [hbs];refine hK6 _ _ (aD (fun K7 hK7=>?_));cases neg
 ·
  refine wp_region_lit (aA (aB) (aA (aB) ?_));simp only[zz];refine dY rfl ?_;simp only[zz];refine dY rfl ?_;simp only[zz];refine aA (iB rfl) (aA (aB) (aA (uS rfl rfl) ?_));simp only[zz];refine fE rfl (by simp only[zz];rfl) (by exact aP) hB1 (by simp) (by simp [Value.oneCell']) ?_;clear hB1;intro w8 hC hB1
  (try replace hK:=hK.chg hC (by first | assumption | rfl));replace hX:=hX.chg hC hG1
  clear hC;simp only[zy,zx,bB,Nat.reduceAdd] at hB1;refine aF (hK7 _ _ ?_);refine wp_ret ?_;try simp only[Exit.inBlock,Exit.then]
  refine Su hK ?_;replace hB1:=hB1.putD hK (o:=.deferred none);replace hX:=hX.putD hD (o:=.deferred none);refine bE rfl ⟨_,rfl,(hB1.lies bN aP rfl rfl)⟩ ?_;try simp only[zD,zE]
  exact ⟨_,rfl,hX,by simp [Lith.W,Vx,Fx]⟩
 ·
  refine wp_region_lit (aA (aB) (aA (aB) ?_));simp only[zz];refine bM rfl (aA (aB) ?_);simp only[zz];refine bM rfl (aA (afD mX rfl rfl) (aA (eK rfl) (aA (aB) ?_)));simp only[zz];refine aA (uS rfl rfl) ?_;simp only[zz];refine fE rfl (by simp only[zz];rfl) (by exact aP) hB1 (by simp) (by simp [Value.oneCell']) ?_;clear hB1;intro w8 hC hB1
  (try replace hK:=hK.chg hC (by first | assumption | rfl));replace hX:=hX.chg hC hG1
  clear hC;simp only[zy,zx,bB,Nat.reduceAdd] at hB1;refine aF (hK7 _ _ ?_);refine wp_ret ?_;try simp only[Exit.inBlock,Exit.then]
  refine Su hK ?_;replace hB1:=hB1.putD hK (o:=.deferred none);replace hX:=hX.putD hD (o:=.deferred none);refine bE rfl ⟨_,rfl,(hB1.lies bN aP rfl rfl)⟩ ?_;try simp only[zD,zE]
  exact ⟨_,rfl,hX,by simp [Lith.W,Vx,Fx]⟩
end Go.Proofs.YtfekpcimgncioaaGreatDoor
namespace Go.Proofs.YtfekpcimgncioaaGreatDoor
open Go.Proofs.Tryz
open Go.RowKit Go.Lith
set_option maxRecDepth 100000
attribute [local irreducible] wpList wpQuiet dB Code.wp
theorem Db {a : Int} (ha : Bd 1000000 a) : eQ prog 191 [W a] (.int .i64 (cA a)):=by
 intro w;refine ⟨agE,?_⟩;have hX:=eB.refl w
 go_enter func191,ntmps191
 refine aD (fun K1 hK1=>wp_region_lit ?_);refine tL (by simp only[zz];rfl) ?_;intro w1 g1 hE hg1 hB1;have hG1:=Nat.le_trans hX.size hg1;replace hX:=hX.trans hE;clear hE hg1;simp only[zz];refine aA (aG) ?_;simp only[zz];refine aF (hK1 _ _ ?_);refine aD (fun K2 hK2=>wp_block (aD (fun K3 hK3=>wp_region_lit ?_)));refine aJ rfl (hB1.lies bN aP rfl rfl) ?_;simp only[zz];refine cD rfl rfl (Kz _ (oN ha)) ?_;rintro v w2 hE ⟨A1,c1,rfl,hN1⟩;replace hB1:=hB1.ext hE;replace hX:=hX.trans hE;clear hE;rw [oM] at hN1 ⊢;simp only[zz];refine aA (bH rfl cL rfl) (aA (tY rfl rfl) (aA (aG) ?_));simp only[zz];refine aF (hK3 _ _ ?_);refine cG rfl (fun hc1=>?_) (fun hc1=>?_)
 ·
  have h0:=Vy.1 hc1;refine aD (fun K4 hK4=>wp_region_lit (aA (aG) ?_));simp only[zz];refine aF (hK4 _ _ ?_);refine wp_ret ?_;try simp only[Exit.inBlock,Exit.then]
  refine bE rfl rfl ?_;try simp only[zD,zE]
  exact ⟨_,rfl,hX,by rw [h0];rfl⟩
 ·
  refine aD (fun K5 hK5=>wp_region_lit (aA (aL (c:=0) nQ rfl gY rfl rfl) ?_));simp only[zz];refine aJ rfl (hB1.lies1 mY rfl) ?_;simp only[zz];refine aA (aG) ?_;simp only[zz];refine aF (hK5 _ _ ?_);refine jO rfl (fun hc2=>?_) (fun hc2=>?_)
  ·
   have hn:=Jy hc2;refine aD (fun K6 hK6=>wp_region_lit (aA (aG) ?_));simp only[zz];refine aF (hK6 _ _ ?_);refine wp_ret ?_;try simp only[Exit.inBlock,Exit.then]
   refine bE rfl rfl ?_;try simp only[zD,zE]
   exact ⟨_,rfl,hX,by rw [Jz hn]⟩
  ·
   have hn:=Fy hc2;have h0 : ¬ a = 0:=fun e=>hc1 (Vy.2 e);refine wp_skip (hK2 _ _ ?_);refine aD (fun K7 hK7=>wp_region_lit (aA (aG) ?_));simp only[zz];refine aF (hK7 _ _ ?_);refine wp_ret ?_;try simp only[Exit.inBlock,Exit.then]
   refine bE rfl rfl ?_;try simp only[zD,zE]
   exact ⟨_,rfl,hX,by rw [Ka (by omega)]⟩
theorem ajR {a : Int} (ha : Bd 1000000 a) : eQ prog 267 [W a] (W (-a)):=by
 intro w;refine ⟨agZ,?_⟩;have hX:=eB.refl w
 go_enter func267,ntmps267
 refine aD (fun K1 hK1=>wp_region_lit ?_);refine tL (by simp only[zz];rfl) ?_;intro w1 g1 hE hg1 hB1;have hG1:=Nat.le_trans hX.size hg1;replace hX:=hX.trans hE;clear hE hg1;simp only[zz];refine nX gM rfl ?_;intro w2 g2 hE hg2 hB2;have hG2:=Nat.le_trans hX.size hg2;have hN2_1 : g2 ≠ g1:=Nat.ne_of_gt (Nat.lt_of_lt_of_le hB1.lt hg2);replace hB1:=hB1.ext hE;replace hX:=hX.trans hE;clear hE hg2;simp only[zz];refine aF (hK1 _ _ ?_);refine aD (fun K2 hK2=>?_);refine gF [(2,true),(0,true),(3,true),(4,true),(1,false),(5,false),(6,false)] aM (by kernel_rfl) (cN (fun _ _ _ _ _ h=>h)) (ol:=?_) ?hol ?_
 case hol=>simp only[zw,zQ,zR];try rfl
 intro w3 hE;replace hB1:=hB1.ext hE;replace hB2:=hB2.ext hE;replace hX:=hX.trans hE;clear hE;refine ⟨_,(qT.blk hB1 qT.nil),?_⟩;refine aS (aL (c:=0) nQ rfl gY rfl rfl) ?_;simp only[zz];refine cI rfl (fun _ ⟨hB1,_⟩=>(hB1.lies bN aP rfl rfl)) ?_;simp only[zz];refine cI rfl (fun _ ⟨hB1,_⟩=>(hB1.lies1 mY rfl)) ?_;simp only[zz];refine aS (fR rfl) ?_;simp only[zz];refine cJ (cD rfl rfl (Kz _ (oN ha)) ?_);rintro v w4 hE ⟨A1,c1,rfl,hN1⟩;replace hB1:=hB1.ext hE;replace hB2:=hB2.ext hE;replace hX:=hX.trans hE;clear hE;rw [oM] at hN1 ⊢;simp only[zz];refine aF (⟨⟨hB1,trivial⟩,?_⟩);refine cJ (cD rfl rfl (yB _ hN1 (Nat.le_trans (xO ha) (by decide))) ?_);rintro v w5 hE rfl;replace hB1:=hB1.ext hE;replace hB2:=hB2.ext hE;replace hX:=hX.trans hE;clear hE;simp only[fT];simp only[zz];refine aF (⟨⟨hB1,trivial⟩,?_⟩);refine cJ ?_;refine fE rfl (by simp only[zz];rfl) (by exact aP) hB2 (by simp) (by simp [Value.oneCell']) ?_;clear hB2;intro w6 hC hB2;replace hB1:=hB1.chg hC (by first | exact hN1_2 | exact Ne.symm hN2_1);replace hX:=hX.chg hC hG2;clear hC;simp only[zy,zx,bB,Nat.reduceAdd] at hB2;refine aF (⟨⟨hB1,trivial⟩,?_⟩);refine aY ?_;rw [adA] at hB2;refine hK2 _ _ (wp_ret ?_);try simp only[Exit.inBlock,Exit.then]
 refine bE rfl ⟨_,rfl,(hB2.lies bN aP rfl rfl)⟩ ?_;try simp only[zD,zE]
 exact ⟨_,rfl,hX,rfl⟩
theorem La {a b : Int} (ha : Bd 1000000 a) (hb : Bd 1000000 b) : eQ prog 121 [W a,W b] (W (a + b)):=by
 intro w;refine ⟨af8,?_⟩;have hX:=eB.refl w;have hla:=xO ha;have hlb:=xO hb;have hls:=xO (Bd.add ha hb)
 go_enter func121,ntmps121
 refine aD (fun K1 hK1=>wp_region_lit ?_);refine tL (by simp only[zz];rfl) ?_;intro w1 g1 hE hg1 hB1;have hG1:=Nat.le_trans hX.size hg1;replace hX:=hX.trans hE;clear hE hg1;simp only[zz];refine tL (by simp only[zz];rfl) ?_;intro w2 g2 hE hg2 hB2;have hG2:=Nat.le_trans hX.size hg2;have hN2_1 : g2 ≠ g1:=Nat.ne_of_gt (Nat.lt_of_lt_of_le hB1.lt hg2);replace hB1:=hB1.ext hE;replace hX:=hX.trans hE;clear hE hg2;simp only[zz];refine nX gM rfl ?_;intro w3 g3 hE hg3 hB3;have hG3:=Nat.le_trans hX.size hg3;have hN3_1 : g3 ≠ g1:=Nat.ne_of_gt (Nat.lt_of_lt_of_le hB1.lt hg3);have hN3_2 : g3 ≠ g2:=Nat.ne_of_gt (Nat.lt_of_lt_of_le hB2.lt hg3);replace hB1:=hB1.ext hE;replace hB2:=hB2.ext hE;replace hX:=hX.trans hE;clear hE hg3;simp only[zz];refine aF (hK1 _ _ ?_);refine aD (fun K2 hK2=>?_);refine gF [(0,true),(2,true),(1,false),(3,false),(4,true),(5,true)] aM (by kernel_rfl) (cN (fun _ _ _ _ _ h=>h)) (ol:=?_) ?hol ?_
 case hol=>simp only[zw,zQ,zR];try rfl
 intro w4 hE;replace hB1:=hB1.ext hE;replace hB2:=hB2.ext hE;replace hB3:=hB3.ext hE;replace hX:=hX.trans hE;clear hE;refine ⟨_,(qT.blk hB1 (qT.blk hB2 qT.nil)),?_⟩;refine cI rfl (fun _ ⟨hB1,hB2,_⟩=>(hB1.lies bN aP rfl rfl)) ?_;simp only[zz];refine cI rfl (fun _ ⟨hB1,hB2,_⟩=>(hB2.lies bN aP rfl rfl)) ?_;simp only[zz];refine cJ (cD rfl rfl (Kz _ (oN ha)) ?_);rintro v w5 hE ⟨A1,c1,rfl,hN1⟩;replace hB1:=hB1.ext hE;replace hB2:=hB2.ext hE;replace hB3:=hB3.ext hE;replace hX:=hX.trans hE;clear hE;rw [oM] at hN1 ⊢;simp only[zz];refine aF (⟨⟨hB1,hB2,trivial⟩,?_⟩);refine cJ (cD rfl rfl (Kz _ (oN hb)) ?_);rintro v w6 hE ⟨A2,c2,rfl,hN2⟩;replace hB1:=hB1.ext hE;replace hB2:=hB2.ext hE;replace hB3:=hB3.ext hE;(try replace hN1:=hN1.ext hE);replace hX:=hX.trans hE;clear hE;rw [oM] at hN2 ⊢;simp only[zz];refine aF (⟨⟨hB1,hB2,trivial⟩,?_⟩);refine aS (aG) (aS (aG) ?_);simp only[zz];refine aY (hK2 _ _ ?_);refine aD (fun K3 hK3=>wp_block (aD (fun K4 hK4=>wp_region_lit (aA (aL (c:=0) nQ rfl gY rfl rfl) ?_))));simp only[zz];refine aJ rfl (hB1.lies1 mY rfl) ?_;simp only[zz];refine aA (aL (c:=0) nQ rfl gY rfl rfl) ?_;simp only[zz];refine aJ rfl (hB2.lies1 mY rfl) ?_;simp only[zz];refine aA (afB aa0 rfl rfl) (aA (aG) ?_);simp only[zz];refine aF (hK4 _ _ ?_);refine cG rfl (fun hc1=>?_) (fun hc1=>?_)
 ·
  refine aD (fun K5 hK5=>?_);refine gF [(0,true),(1,true),(3,true),(4,true),(2,false),(5,false),(6,false)] aM (by kernel_rfl) (cN (fun _ _ _ _ _ h=>h)) (ol:=?_) ?hol ?_
  case hol=>simp only[zw,zQ,zR];try rfl
  intro w7 hE;replace hB1:=hB1.ext hE;replace hB3:=hB3.ext hE;(try replace hN1:=hN1.ext hE);(try replace hN2:=hN2.ext hE);replace hX:=hX.trans hE;clear hE;refine ⟨_,(qT.blk hB1 qT.nil),?_⟩;refine aS (aB) (aS (aB) (aS (aL (c:=0) nQ rfl gY rfl rfl) ?_));simp only[zz];refine cI rfl (fun _ ⟨hB1,_⟩=>(hB1.lies1 mY rfl)) ?_;simp only[zz];refine cJ (cD rfl rfl (ajP _ hN1 hN2 (Nat.le_trans hla (by decide)) (Nat.le_trans hlb (by decide))) ?_);rintro v w8 hE ⟨A3,c3,rfl,hN3⟩;replace hB1:=hB1.ext hE;replace hB3:=hB3.ext hE;replace hX:=hX.trans hE;clear hE;simp only[zz];refine aF (⟨⟨hB1,trivial⟩,?_⟩);refine cJ ?_;simp only[fT] at hN3 ⊢;have hl3 : (digs 4294967296 (a.natAbs + b.natAbs)).length ≤ 100000000000:=Nat.le_trans (Yc ha hb) (by decide);refine cD rfl rfl (yB _ hN3 hl3) ?_;rintro v w9 hE rfl;replace hB1:=hB1.ext hE;replace hB3:=hB3.ext hE;replace hX:=hX.trans hE;clear hE;simp only[fT];simp only[zz];refine aF (⟨⟨hB1,trivial⟩,?_⟩);refine cJ ?_;refine fE rfl (by simp only[zz];rfl) (by exact aP) hB3 (by simp) (by simp [Value.oneCell']) ?_;clear hB3;intro w10 hC hB3;replace hB1:=hB1.chg hC (by first | exact hN1_3 | exact Ne.symm hN3_1);replace hX:=hX.chg hC hG3;clear hC;simp only[zy,zx,bB,Nat.reduceAdd] at hB3;refine aF (⟨⟨hB1,trivial⟩,?_⟩);refine aY ?_;rw [adB hc1] at hB3;refine hK5 _ _ (wp_ret ?_);try simp only[Exit.inBlock,Exit.then]
  refine bE rfl ⟨_,rfl,(hB3.lies bN aP rfl rfl)⟩ ?_;try simp only[zD,zE]
  exact ⟨_,rfl,hX,rfl⟩
 ·
  refine aD (fun K6 hK6=>wp_region_lit (aA (aB) (aA (aB) ?_)));simp only[zz];refine cD rfl rfl (ajO _ hN1 hN2 (uE _) (uE _)) ?_;rintro v w7 hE rfl;replace hB1:=hB1.ext hE;replace hB2:=hB2.ext hE;replace hB3:=hB3.ext hE;(try replace hN1:=hN1.ext hE);(try replace hN2:=hN2.ext hE);replace hX:=hX.trans hE;clear hE;simp only[fT];simp only[zz];refine aA (cW rfl rfl) (aA (aG) ?_);simp only[zz];refine aF (hK6 _ _ ?_);refine cG rfl (fun hc2=>?_) (fun hc2=>?_)
  ·
   have hlt:=Fq.1 hc2;refine aD (fun K7 hK7=>?_);refine gF [(0,true),(1,true),(3,true),(4,true),(2,false),(5,false),(6,false)] aM (by kernel_rfl) (cN (fun _ _ _ _ _ h=>h)) (ol:=?_) ?hol ?_
   case hol=>simp only[zw,zQ,zR];try rfl
   intro w8 hE;replace hB2:=hB2.ext hE;replace hB3:=hB3.ext hE;(try replace hN1:=hN1.ext hE);(try replace hN2:=hN2.ext hE);replace hX:=hX.trans hE;clear hE;refine ⟨_,(qT.blk hB2 qT.nil),?_⟩;refine aS (aB) (aS (aB) (aS (aL (c:=0) nQ rfl gY rfl rfl) ?_));simp only[zz];refine cI rfl (fun _ ⟨hB2,_⟩=>(hB2.lies1 mY rfl)) ?_;simp only[zz];refine cJ ?_;refine cD rfl rfl (afc _ hN2 hN1 (Lw (Nat.le_of_lt hlt)) (by simp only[fT];omega) (Nat.le_trans hlb (by decide))) ?_;rintro v w9 hE ⟨⟨A3,c3,rfl,hN3⟩,_⟩;replace hB2:=hB2.ext hE;replace hB3:=hB3.ext hE;replace hX:=hX.trans hE;clear hE;simp only[fT] at hN3 ⊢;have hl3:=Lw (Nat.sub_le b.natAbs a.natAbs);simp only[zz];refine aF (⟨⟨hB2,trivial⟩,?_⟩);refine cJ (cD rfl rfl (yB _ hN3 (Nat.le_trans hl3 (Nat.le_trans hlb (by decide)))) ?_);rintro v w10 hE rfl;replace hB2:=hB2.ext hE;replace hB3:=hB3.ext hE;replace hX:=hX.trans hE;clear hE;simp only[fT];simp only[zz];refine aF (⟨⟨hB2,trivial⟩,?_⟩);refine cJ ?_;refine fE rfl (by simp only[zz];rfl) (by exact aP) hB3 (by simp) (by simp [Value.oneCell']) ?_;clear hB3;intro w11 hC hB3;replace hB2:=hB2.chg hC (by first | exact hN2_3 | exact Ne.symm hN3_2);replace hX:=hX.chg hC hG3;clear hC;simp only[zy,zx,bB,Nat.reduceAdd] at hB3;refine aF (⟨⟨hB2,trivial⟩,?_⟩);refine aY ?_;rw [afF hc1 hlt] at hB3;refine hK7 _ _ (wp_ret ?_);try simp only[Exit.inBlock,Exit.then]
   refine bE rfl ⟨_,rfl,(hB3.lies bN aP rfl rfl)⟩ ?_;try simp only[zD,zE]
   exact ⟨_,rfl,hX,rfl⟩
  ·
   have hge : b.natAbs ≤ a.natAbs:=Nat.le_of_not_lt fun h=>hc2 (Fq.2 h);refine wp_skip (hK3 _ _ ?_);refine aD (fun K8 hK8=>?_);refine gF [(0,true),(1,true),(3,true),(4,true),(2,false),(5,false),(6,false)] aM (by kernel_rfl) (cN (fun _ _ _ _ _ h=>h)) (ol:=?_) ?hol ?_
   case hol=>simp only[zw,zQ,zR];try rfl
   intro w8 hE;replace hB1:=hB1.ext hE;replace hB3:=hB3.ext hE;(try replace hN1:=hN1.ext hE);(try replace hN2:=hN2.ext hE);replace hX:=hX.trans hE;clear hE;refine ⟨_,(qT.blk hB1 qT.nil),?_⟩;refine aS (aB) (aS (aB) (aS (aL (c:=0) nQ rfl gY rfl rfl) ?_));simp only[zz];refine cI rfl (fun _ ⟨hB1,_⟩=>(hB1.lies1 mY rfl)) ?_;simp only[zz];refine cJ ?_;refine cD rfl rfl (afc _ hN1 hN2 (Lw hge) (by simp only[fT];omega) (Nat.le_trans hla (by decide))) ?_;rintro v w9 hE ⟨⟨A3,c3,rfl,hN3⟩,_⟩;replace hB1:=hB1.ext hE;replace hB3:=hB3.ext hE;replace hX:=hX.trans hE;clear hE;simp only[fT] at hN3 ⊢;have hl3:=Lw (Nat.sub_le a.natAbs b.natAbs);simp only[zz];refine aF (⟨⟨hB1,trivial⟩,?_⟩);refine cJ (cD rfl rfl (yB _ hN3 (Nat.le_trans hl3 (Nat.le_trans hla (by decide)))) ?_);rintro v w10 hE rfl;replace hB1:=hB1.ext hE;replace hB3:=hB3.ext hE;replace hX:=hX.trans hE;clear hE;simp only[fT];simp only[zz];refine aF (⟨⟨hB1,trivial⟩,?_⟩);refine cJ ?_;refine fE rfl (by simp only[zz];rfl) (by exact aP) hB3 (by simp) (by simp [Value.oneCell']) ?_;clear hB3;intro w11 hC hB3;replace hB1:=hB1.chg hC (by first | exact hN1_3 | exact Ne.symm hN3_1);replace hX:=hX.chg hC hG3;clear hC;simp only[zy,zx,bB,Nat.reduceAdd] at hB3;refine aF (⟨⟨hB1,trivial⟩,?_⟩);refine aY ?_;rw [afG hc1 hge] at hB3;refine hK8 _ _ (wp_ret ?_);try simp only[Exit.inBlock,Exit.then]
   refine bE rfl ⟨_,rfl,(hB3.lies bN aP rfl rfl)⟩ ?_;try simp only[zD,zE]
   exact ⟨_,rfl,hX,rfl⟩
end Go.Proofs.YtfekpcimgncioaaGreatDoor
namespace Go.Proofs.YtfekpcimgncioaaGreatDoor
open Go.Proofs.Tryz
open Go.RowKit Go.Lith
set_option maxRecDepth 100000
attribute [local irreducible] wpList wpQuiet dB Code.wp
theorem xK {a b : Int} (ha : Bd 1000000 a) (hb : Bd 1000000 b) : eQ prog 192 [W a,W b] (W (a - b)):=by
 intro w;refine ⟨agF,?_⟩;have hX:=eB.refl w
 go_enter func192,ntmps192
 refine aD (fun K1 hK1=>wp_region_lit ?_);refine tL (by simp only[zz];rfl) ?_;intro w1 g1 hE hg1 hB1;have hG1:=Nat.le_trans hX.size hg1;replace hX:=hX.trans hE;clear hE hg1;simp only[zz];refine tL (by simp only[zz];rfl) ?_;intro w2 g2 hE hg2 hB2;have hG2:=Nat.le_trans hX.size hg2;have hN2_1 : g2 ≠ g1:=Nat.ne_of_gt (Nat.lt_of_lt_of_le hB1.lt hg2);replace hB1:=hB1.ext hE;replace hX:=hX.trans hE;clear hE hg2;simp only[zz];refine nX gM rfl ?_;intro w3 g3 hE hg3 hB3;have hG3:=Nat.le_trans hX.size hg3;have hN3_1 : g3 ≠ g1:=Nat.ne_of_gt (Nat.lt_of_lt_of_le hB1.lt hg3);have hN3_2 : g3 ≠ g2:=Nat.ne_of_gt (Nat.lt_of_lt_of_le hB2.lt hg3);replace hB1:=hB1.ext hE;replace hB2:=hB2.ext hE;replace hX:=hX.trans hE;clear hE hg3;simp only[zz];refine aF (hK1 _ _ ?_);refine aD (fun K2 hK2=>?_);refine oY 4 aM (by kernel_rfl) ?_;simp only[zy];refine tZ rfl (fun _ hE'=>((hB1.ext hE').lies bN aP rfl rfl)) ?_;simp only[zz];refine tZ rfl (fun _ hE'=>((hB2.ext hE').lies bN aP rfl rfl)) ?_;simp only[zz];refine Vu rfl rfl (ajR hb) ?_;simp only[zz];refine Vu rfl rfl (La ha hb.neg) ?_;simp only[zz];refine bZ ?_;intro w4 hE;replace hB3:=hB3.ext hE;replace hX:=hX.trans hE;clear hE;refine fE rfl (by simp only[zz];rfl) (by exact aP) hB3 (by simp) (by simp [Value.oneCell']) ?_;clear hB3;intro w5 hC hB3;replace hX:=hX.chg hC hG3;clear hC;simp only[zy,zx,bB,Nat.reduceAdd] at hB3;refine aF ?_;rw [← Int.sub_eq_add_neg] at hB3;refine hK2 _ _ (wp_ret ?_);try simp only[Exit.inBlock,Exit.then]
 refine bE rfl ⟨_,rfl,(hB3.lies bN aP rfl rfl)⟩ ?_;try simp only[zD,zE]
 exact ⟨_,rfl,hX,rfl⟩
theorem nT {a b : Int} (ha : Bd 1000000 a) (hb : Bd 1000000 b) : eQ prog 122 [W a,W b] (W (a * b)):=by
 intro w;refine ⟨af9,?_⟩;have hX:=eB.refl w;have hla:=xO ha;have hlb:=xO hb;have hls:=xO (Bd.mul ha hb)
 go_enter func122,ntmps122
 refine aD (fun K1 hK1=>wp_region_lit ?_);refine tL (by simp only[zz];rfl) ?_;intro w1 g1 hE hg1 hB1;have hG1:=Nat.le_trans hX.size hg1;replace hX:=hX.trans hE;clear hE hg1;simp only[zz];refine tL (by simp only[zz];rfl) ?_;intro w2 g2 hE hg2 hB2;have hG2:=Nat.le_trans hX.size hg2;have hN2_1 : g2 ≠ g1:=Nat.ne_of_gt (Nat.lt_of_lt_of_le hB1.lt hg2);replace hB1:=hB1.ext hE;replace hX:=hX.trans hE;clear hE hg2;simp only[zz];refine nX gM rfl ?_;intro w3 g3 hE hg3 hB3;have hG3:=Nat.le_trans hX.size hg3;have hN3_1 : g3 ≠ g1:=Nat.ne_of_gt (Nat.lt_of_lt_of_le hB1.lt hg3);have hN3_2 : g3 ≠ g2:=Nat.ne_of_gt (Nat.lt_of_lt_of_le hB2.lt hg3);replace hB1:=hB1.ext hE;replace hB2:=hB2.ext hE;replace hX:=hX.trans hE;clear hE hg3;simp only[zz];refine aF (hK1 _ _ ?_);refine aD (fun K2 hK2=>?_);refine gF [(5,true),(7,true),(0,true),(2,true),(6,true),(8,true),(9,true),(1,false),(3,false),(4,false),(10,false),(11,false)] aM (by kernel_rfl) (cN (fun _ _ _ _ _ h=>h)) (ol:=?_) ?hol ?_
 case hol=>simp only[zw,zQ,zR];try rfl
 intro w4 hE;replace hB1:=hB1.ext hE;replace hB2:=hB2.ext hE;replace hB3:=hB3.ext hE;replace hX:=hX.trans hE;clear hE;refine ⟨_,(qT.blk hB1 (qT.blk hB2 qT.nil)),?_⟩;refine aS (aL (c:=0) nQ rfl gY rfl rfl) (aS (aL (c:=0) nQ rfl gY rfl rfl) ?_);simp only[zz];refine cI rfl (fun _ ⟨hB1,hB2,_⟩=>(hB1.lies bN aP rfl rfl)) ?_;simp only[zz];refine cI rfl (fun _ ⟨hB1,hB2,_⟩=>(hB2.lies bN aP rfl rfl)) ?_;simp only[zz];refine cI rfl (fun _ ⟨hB1,hB2,_⟩=>(hB1.lies1 mY rfl)) ?_;simp only[zz];refine cI rfl (fun _ ⟨hB1,hB2,_⟩=>(hB2.lies1 mY rfl)) ?_;simp only[zz];refine aS (afC aa0 rfl rfl) ?_;simp only[zz];refine cJ (cD rfl rfl (Kz _ (oN ha)) ?_);rintro v w5 hE ⟨A1,c1,rfl,hN1⟩;replace hB1:=hB1.ext hE;replace hB2:=hB2.ext hE;replace hB3:=hB3.ext hE;replace hX:=hX.trans hE;clear hE;rw [oM] at hN1 ⊢;simp only[zz];refine aF (⟨⟨hB1,hB2,trivial⟩,?_⟩);refine cJ (cD rfl rfl (Kz _ (oN hb)) ?_);rintro v w6 hE ⟨A2,c2,rfl,hN2⟩;replace hB1:=hB1.ext hE;replace hB2:=hB2.ext hE;replace hB3:=hB3.ext hE;(try replace hN1:=hN1.ext hE);replace hX:=hX.trans hE;clear hE;rw [oM] at hN2 ⊢;simp only[zz];refine aF (⟨⟨hB1,hB2,trivial⟩,?_⟩);refine cJ (cD rfl rfl (ajQ _ hN1 hN2 (Nat.le_trans hla (by decide)) (Nat.le_trans hlb (by decide))) ?_);rintro v w7 hE ⟨A3,c3,rfl,hN3⟩;replace hB1:=hB1.ext hE;replace hB2:=hB2.ext hE;replace hB3:=hB3.ext hE;replace hX:=hX.trans hE;clear hE;simp only[fT] at hN3 ⊢;rw [← Int.natAbs_mul] at hN3 ⊢;simp only[zz];refine aF (⟨⟨hB1,hB2,trivial⟩,?_⟩);refine cJ (cD rfl rfl (yB _ hN3 (Nat.le_trans hls (by decide))) ?_);rintro v w8 hE rfl;replace hB1:=hB1.ext hE;replace hB2:=hB2.ext hE;replace hB3:=hB3.ext hE;replace hX:=hX.trans hE;clear hE;simp only[fT];simp only[zz];refine aF (⟨⟨hB1,hB2,trivial⟩,?_⟩);refine cJ ?_;refine fE rfl (by simp only[zz];rfl) (by exact aP) hB3 (by simp) (by simp [Value.oneCell']) ?_;clear hB3;intro w9 hC hB3;replace hB1:=hB1.chg hC (by first | exact hN1_3 | exact Ne.symm hN3_1);replace hB2:=hB2.chg hC (by first | exact hN2_3 | exact Ne.symm hN3_2);replace hX:=hX.chg hC hG3;clear hC;simp only[zy,zx,bB,Nat.reduceAdd] at hB3;refine aF (⟨⟨hB1,hB2,trivial⟩,?_⟩);refine aY ?_;rw [Int.natAbs_mul,adC] at hB3;refine hK2 _ _ (wp_ret ?_);try simp only[Exit.inBlock,Exit.then]
 refine bE rfl ⟨_,rfl,(hB3.lies bN aP rfl rfl)⟩ ?_;try simp only[zD,zE]
 exact ⟨_,rfl,hX,rfl⟩
theorem ajS {a b : Int} (ha : Bd 900000 a) (hb : Bd 900000 b) : eQ prog 126 [W a,W b] (.int .i64 (cA (a - b))):=by
 intro w;refine ⟨agc,?_⟩;have hX:=eB.refl w
 go_enter func126,ntmps126
 refine aD (fun K1 hK1=>wp_region_lit ?_);refine tL (by simp only[zz];rfl) ?_;intro w1 g1 hE hg1 hB1;have hG1:=Nat.le_trans hX.size hg1;replace hX:=hX.trans hE;clear hE hg1;simp only[zz];refine tL (by simp only[zz];rfl) ?_;intro w2 g2 hE hg2 hB2;have hG2:=Nat.le_trans hX.size hg2;have hN2_1 : g2 ≠ g1:=Nat.ne_of_gt (Nat.lt_of_lt_of_le hB1.lt hg2);replace hB1:=hB1.ext hE;replace hX:=hX.trans hE;clear hE hg2;simp only[zz];refine aA (aG) ?_;simp only[zz];refine aF (hK1 _ _ ?_);refine aD (fun K2 hK2=>wp_region_lit ?_);refine aJ rfl (hB1.lies bN aP rfl rfl) ?_;simp only[zz];refine aJ rfl (hB2.lies bN aP rfl rfl) ?_;simp only[zz];refine vP rfl rfl (xK (ha.mono (by decide)) (hb.mono (by decide))) ?_;intro w3 hE;replace hX:=hX.trans hE;clear hE;simp only[zz];refine vP rfl rfl (Db ((Bd.sub ha hb).mono (by decide))) ?_;intro w4 hE;replace hX:=hX.trans hE;clear hE;simp only[zz];refine aA (aG) ?_;simp only[zz];refine aF (hK2 _ _ ?_);refine wp_ret ?_;try simp only[Exit.inBlock,Exit.then]
 refine bE rfl rfl ?_;try simp only[zD,zE]
 exact ⟨_,rfl,hX,rfl⟩
theorem lZ {n : Int} (h : tU n) : eQ prog 118 [.int .i64 n] (W n):=by
 intro w;refine ⟨af6,?_⟩;have hX:=eB.refl w;have hna:=h.natAbs
 go_enter func118,ntmps118
 refine aD (fun K1 hK1=>wp_region_lit ?_);refine nX gM rfl ?_;intro w1 g1 hE hg1 hB1;have hG1:=Nat.le_trans hX.size hg1;replace hX:=hX.trans hE;clear hE hg1;simp only[zz];refine aF (hK1 _ _ ?_);refine aD (fun K2 hK2=>?_);rcases (show n < 0 ∨ 0 ≤ n by omega) with h0 | h0
 ·
  refine wp_region_lit (aA (aB) (aA (eU gL gB rfl (adD h h0)) (aA (aG) ?_)));simp only[zz];refine aF (hK2 _ _ ?_);refine aD (fun K3 hK3=>aD (fun K4 hK4=>wp_region_lit (aA (aB) (aA (bF rfl rfl (by omega)) ?_))));simp only[zz];refine aF (hK4 _ _ ?_);refine bK rfl (wp_region_lit (aA (aB) (aA (nO rfl (Yd hna (by omega))) (aA (aG) ?_))));simp only[zz];refine aF (hK3 _ _ ?_);refine aD (fun K5 hK5=>wp_region_lit (aA (aB) (aA (rH rfl rfl (Vv (by omega))) (aA (aB) ?_))));simp only[zz];refine aA (lE rfl rfl (by omega) Sk) ?_;simp only[zz];refine Oo cL (z:=.int .u64 0) (by kernel_rfl) rfl (by simp only[zz];rfl) (by rfl) (by simp only[zz];rfl) (by rfl) ?_;intro w2 g2 hE hg2 hB2;have hG2:=Nat.le_trans hX.size hg2;have hN2_1 : g2 ≠ g1:=Nat.ne_of_gt (Nat.lt_of_lt_of_le hB1.lt hg2);replace hB1:=hB1.ext hE;replace hX:=hX.trans hE;clear hE hg2;simp only[zz];refine aA (aB) (aA (bF rfl rfl (by omega)) ?_);simp only[zz];refine cD rfl rfl (yB _ (hB2.nat (os:=[n.natAbs % 4294967296,n.natAbs / 4294967296]) (Fz (by omega)) rfl (by omega)) (by simp)) ?_;rintro v w3 hE rfl;replace hB1:=hB1.ext hE;replace hX:=hX.trans hE;clear hE;simp only[zz];refine fE rfl (by simp only[zz];rfl) (by exact aP) hB1 (by simp) (by simp [Value.oneCell']) ?_;clear hB1;intro w4 hC hB1;replace hX:=hX.chg hC hG1;clear hC;simp only[zy,zx,bB,Nat.reduceAdd] at hB1;refine aF (hK5 _ _ ?_);refine wp_ret ?_;try simp only[Exit.inBlock,Exit.then]
  refine bE rfl ⟨_,rfl,(hB1.lies bN aP rfl rfl)⟩ ?_;try simp only[zD,zE]
  exact ⟨_,rfl,hX,by rw [Kb,show true = iG n from (decide_eq_true h0).symm,Oy];rfl⟩
 ·
  refine wp_region_lit (aA (aB) (aA (eU gL gB rfl (afH h h0)) (aA (aG) ?_)));simp only[zz];refine aF (hK2 _ _ ?_);refine aD (fun K6 hK6=>aD (fun K7 hK7=>wp_region_lit (aA (aB) (aA (dM rfl rfl (by omega)) ?_))));simp only[zz];refine aF (hK7 _ _ ?_);refine gA rfl (wp_skip ?_);refine hK6 _ _ (aD (fun K8 hK8=>wp_region_lit (aA (aB) (aA (rH rfl rfl (Vv (by omega))) (aA (aB) ?_)))));simp only[zz];refine aA (lE rfl rfl (by omega) Sk) ?_;simp only[zz];refine Oo cL (z:=.int .u64 0) (by kernel_rfl) rfl (by simp only[zz];rfl) (by rfl) (by simp only[zz];rfl) (by rfl) ?_;intro w2 g2 hE hg2 hB2;have hG2:=Nat.le_trans hX.size hg2;have hN2_1 : g2 ≠ g1:=Nat.ne_of_gt (Nat.lt_of_lt_of_le hB1.lt hg2);replace hB1:=hB1.ext hE;replace hX:=hX.trans hE;clear hE hg2;simp only[zz];refine aA (aB) (aA (dM rfl rfl (by omega)) ?_);simp only[zz];refine cD rfl rfl (yB _ (hB2.nat (os:=[n.natAbs % 4294967296,n.natAbs / 4294967296]) (Fz (by omega)) rfl (by omega)) (by simp)) ?_;rintro v w3 hE rfl;replace hB1:=hB1.ext hE;replace hX:=hX.trans hE;clear hE;simp only[zz];refine fE rfl (by simp only[zz];rfl) (by exact aP) hB1 (by simp) (by simp [Value.oneCell']) ?_;clear hB1;intro w4 hC hB1;replace hX:=hX.chg hC hG1;clear hC;simp only[zy,zx,bB,Nat.reduceAdd] at hB1;refine aF (hK8 _ _ ?_);refine wp_ret ?_;try simp only[Exit.inBlock,Exit.then]
  refine bE rfl ⟨_,rfl,(hB1.lies bN aP rfl rfl)⟩ ?_;try simp only[zD,zE]
  exact ⟨_,rfl,hX,by rw [Kb,show false = iG n from (decide_eq_false (by omega)).symm,Oy];rfl⟩
end Go.Proofs.YtfekpcimgncioaaGreatDoor
namespace Go.Proofs.YtfekpcimgncioaaGreatDoor
open Go.Proofs.Tryz
open Go.RowKit Go.Lith
set_option maxRecDepth 100000
attribute [local irreducible] wpList wpQuiet dB Code.wp
end Go.Proofs.YtfekpcimgncioaaGreatDoor
namespace Go.Proofs.YtfekpcimgncioaaGreatDoor
open Go.Proofs.Tryz
open Go.RowKit Go.Lith
set_option maxRecDepth 100000
attribute [local irreducible] wpList wpQuiet dB bL cE Code.wp
theorem ajT {p : P3} : eQ prog 276 [pt p] (.int .i64 p.x):=by
 intro w;refine ⟨aa5,?_⟩;have m:=Mem.refl w
 go_enter func276,ntmps276
 refine aD fun K1 k1=>wp_region_lit (cB m rfl ?_);clear m;intro g1 u m;refine aA (aG) (aF (k1 _ _ ?_));refine aD fun K2 k2=>wp_region_lit (aA (aL (c:=0) Cs rfl aO rfl rfl) ?_);simp only[zz];refine aJ rfl ((m.b 0 rfl).lies1 aX rfl) ?_;simp only[zz];refine aA (aG) (aF (k2 _ _ ?_));refine wp_ret ?_;simp only[zz];try simp only[Exit.inBlock,Exit.then,if_true]
 refine bE rfl rfl ?_;try simp only[zD,zE]
 exact ⟨_,rfl,m.ext,rfl⟩
theorem ajU {p : P3} : eQ prog 277 [pt p] (.int .i64 p.y):=by
 intro w;refine ⟨aa6,?_⟩;have m:=Mem.refl w
 go_enter func277,ntmps277
 refine aD fun K1 k1=>wp_region_lit (cB m rfl ?_);clear m;intro g1 u m;refine aA (aG) (aF (k1 _ _ ?_));refine aD fun K2 k2=>wp_region_lit (aA (aL (c:=0) Cs rfl aO rfl rfl) ?_);simp only[zz];refine aJ rfl ((m.b 0 rfl).lies1 aX rfl) ?_;simp only[zz];refine aA (aG) (aF (k2 _ _ ?_));refine wp_ret ?_;simp only[zz];try simp only[Exit.inBlock,Exit.then,if_true]
 refine bE rfl rfl ?_;try simp only[zD,zE]
 exact ⟨_,rfl,m.ext,rfl⟩
theorem ajV {p : P3} : eQ prog 278 [pt p] (.int .i64 p.z):=by
 intro w;refine ⟨aa7,?_⟩;have m:=Mem.refl w
 go_enter func278,ntmps278
 refine aD fun K1 k1=>wp_region_lit (cB m rfl ?_);clear m;intro g1 u m;refine aA (aG) (aF (k1 _ _ ?_));refine aD fun K2 k2=>wp_region_lit (aA (aL (c:=0) Cs rfl aO rfl rfl) ?_);simp only[zz];refine aJ rfl ((m.b 0 rfl).lies1 aX rfl) ?_;simp only[zz];refine aA (aG) (aF (k2 _ _ ?_));refine wp_ret ?_;simp only[zz];try simp only[Exit.inBlock,Exit.then,if_true]
 refine bE rfl rfl ?_;try simp only[zD,zE]
 exact ⟨_,rfl,m.ext,rfl⟩
theorem ahR  : eQ prog 195 [] (.agg #[.func (.func 276) #[] #[],.func (.func 277) #[] #[],.func (.func 278) #[] #[]]):=by
 intro w;refine ⟨aa4,?_⟩;have m:=Mem.refl w
 go_enter func195,ntmps195
 refine aD fun K1 k1=>wp_region_lit (bA m Gr rfl ?_);clear m;intro g1 u m;refine aF (k1 _ _ ?_);refine aD fun K2 k2=>wp_region_lit (aA (qG rfl rfl rfl) ?_);simp only[zz];refine aT m 0 rfl rfl rfl wA (cU rfl) rfl ?_;clear m;intro u m;simp only[zy,zx,bB,zF,zG,Nat.reduceAdd] at m;refine aF (k2 _ _ ?_);refine wp_ret ?_;try simp only[Exit.inBlock,Exit.then,if_true]
 refine bE rfl ⟨_,rfl,((m.b 0 rfl).full Wf wA)⟩ ?_;try simp only[zD,zE]
 exact ⟨_,rfl,m.ext,rfl⟩
theorem ace  : eQ prog 336 [.int .i64 0] (.tuple #[.int .i64 1,.int .i64 2]):=by
 intro w;refine ⟨Td,?_⟩;have m:=Mem.refl w
 go_enter func336,ntmps336
 refine aD fun K1 k1=>wp_region_lit (aA (aG) (aA (aG) (aF (k1 _ _ ?_))));refine aD fun K2 k2=>wp_region_lit (aA (aB) (aA (aU (m:=0) (n:=1) (r:=1) rfl rfl (by decide)) ?_));simp only[zz];refine aA (gD (m:=1) (n:=3) (r:=1) rfl rfl (by decide) (by decide)) (aA (aB) (aA (aU (m:=0) (n:=2) (r:=2) rfl rfl (by decide)) (aA (gD (m:=2) (n:=3) (r:=2) rfl rfl (by decide) (by decide)) ?_)));simp only[zz];refine aA (aG) (aA (aG) (aF (k2 _ _ ?_)));refine wp_ret ?_;simp only[zz];try simp only[Exit.inBlock,Exit.then,if_true]
 refine uA rfl rfl rfl ?_;try simp only[zD,zE]
 exact ⟨_,rfl,m.ext,rfl⟩
theorem acf  : eQ prog 336 [.int .i64 1] (.tuple #[.int .i64 2,.int .i64 0]):=by
 intro w;refine ⟨Td,?_⟩;have m:=Mem.refl w
 go_enter func336,ntmps336
 refine aD fun K1 k1=>wp_region_lit (aA (aG) (aA (aG) (aF (k1 _ _ ?_))));refine aD fun K2 k2=>wp_region_lit (aA (aB) (aA (aU (m:=1) (n:=1) (r:=2) rfl rfl (by decide)) ?_));simp only[zz];refine aA (gD (m:=2) (n:=3) (r:=2) rfl rfl (by decide) (by decide)) (aA (aB) (aA (aU (m:=1) (n:=2) (r:=3) rfl rfl (by decide)) (aA (gD (m:=3) (n:=3) (r:=0) rfl rfl (by decide) (by decide)) ?_)));simp only[zz];refine aA (aG) (aA (aG) (aF (k2 _ _ ?_)));refine wp_ret ?_;simp only[zz];try simp only[Exit.inBlock,Exit.then,if_true]
 refine uA rfl rfl rfl ?_;try simp only[zD,zE]
 exact ⟨_,rfl,m.ext,rfl⟩
theorem acg  : eQ prog 336 [.int .i64 2] (.tuple #[.int .i64 0,.int .i64 1]):=by
 intro w;refine ⟨Td,?_⟩;have m:=Mem.refl w
 go_enter func336,ntmps336
 refine aD fun K1 k1=>wp_region_lit (aA (aG) (aA (aG) (aF (k1 _ _ ?_))));refine aD fun K2 k2=>wp_region_lit (aA (aB) (aA (aU (m:=2) (n:=1) (r:=3) rfl rfl (by decide)) ?_));simp only[zz];refine aA (gD (m:=3) (n:=3) (r:=0) rfl rfl (by decide) (by decide)) (aA (aB) (aA (aU (m:=2) (n:=2) (r:=4) rfl rfl (by decide)) (aA (gD (m:=4) (n:=3) (r:=1) rfl rfl (by decide) (by decide)) ?_)));simp only[zz];refine aA (aG) (aA (aG) (aF (k2 _ _ ?_)));refine wp_ret ?_;simp only[zz];try simp only[Exit.inBlock,Exit.then,if_true]
 refine uA rfl rfl rfl ?_;try simp only[zD,zE]
 exact ⟨_,rfl,m.ext,rfl⟩
theorem jU {p q : P3} [I3 p] [I3 q] : eQ prog 223 [pt p,pt q] (wv (q.sub p)):=by
 intro w;refine ⟨agJ,?_⟩;have m:=Mem.refl w
 go_enter func223,ntmps223
 refine aD fun K1 k1=>wp_region_lit (cB m rfl ?_);clear m;intro g1 u m;simp only[zz];refine cB m rfl ?_;clear m;intro g2 u m;simp only[zz];refine bA m Ae rfl ?_;clear m;intro g3 u m;refine aF (k1 _ _ ?_);refine aD fun K2 k2=>wp_region_lit ?_;simp only[zz];refine bA m Ae rfl ?_;clear m;intro g4 u m;refine aF (k2 _ _ ?_);refine aD fun K3 k3=>aD fun K4 k4=>wp_region_lit ?_;simp only[zz];refine dH m rfl rfl (ahR) ?_;clear m;intro u m;refine aA (aB) (aF (k4 _ _ ?_));refine wp_block (wp_loop_rounds 4 (bU (aD fun K5 k5=>wp_region_lit (aA (bF (m:=0) (n:=3) rfl rfl (by decide)) (aF (k5 _ _ ?_))))));refine aD fun K6 k6=>bK rfl (wp_skip (k6 _ _ ?_));refine aD fun K7 k7=>wp_block (aD fun K8 k8=>wp_region_lit (aA (aB) ?_));simp only[zz];refine aA (xD rfl rfl) (aA (aG) (aA (aG) (aF (k8 _ _ ?_))));simp only[zz];refine eA m 11 aM (by kernel_rfl) ?_;simp only[zy];refine aK (aB) (aK (aB) ?_);simp only[zz];refine ql rfl (fun u m=>((m.b 2 rfl).full aI aC)) ?_;simp only[zz];refine gV rfl rfl (ajT) ?_;simp only[zz];refine gV rfl rfl (lZ Iw.h) (aK (aB) ?_);simp only[zz];refine ql rfl (fun u m=>((m.b 3 rfl).full aI aC)) ?_;simp only[zz];refine gV rfl rfl (ajT) ?_;simp only[zz];refine gV rfl rfl (lZ Iw.h) ?_;simp only[zz];refine gV rfl rfl (xK Bw.up Bw.up) (aK (aH fM aP rfl rfl (by decide) (by decide) rfl) (bZ ?_));clear m;intro u m;simp only[zz];refine aT m 0 rfl rfl rfl aP (cU rfl) rfl ?_;clear m;intro u m;simp only[zy,zx,bB,zF,zG,Nat.reduceAdd] at m;refine aF (k7 _ _ ?_);refine wp_region_lit (aA (aU (m:=0) (n:=1) (r:=1) rfl rfl (by decide)) (aA (aB) (aF (aQ (aD fun K9 k9=>wp_region_lit (aA (bF (m:=1) (n:=3) rfl rfl (by decide)) (aF (k9 _ _ ?_))))))));refine aD fun K10 k10=>bK rfl (wp_skip (k10 _ _ ?_));refine aD fun K11 k11=>wp_block (aD fun K12 k12=>wp_region_lit (aA (aB) ?_));simp only[zz];refine aA (xE rfl rfl) (aA (aG) (aA (aG) (aF (k12 _ _ ?_))));simp only[zz];refine eA m 11 aM (by kernel_rfl) ?_;simp only[zy];refine aK (aB) (aK (aB) ?_);simp only[zz];refine ql rfl (fun u m=>((m.b 2 rfl).full aI aC)) ?_;simp only[zz];refine gV rfl rfl (ajU) ?_;simp only[zz];refine gV rfl rfl (lZ Iw.h) (aK (aB) ?_);simp only[zz];refine ql rfl (fun u m=>((m.b 3 rfl).full aI aC)) ?_;simp only[zz];refine gV rfl rfl (ajU) ?_;simp only[zz];refine gV rfl rfl (lZ Iw.h) ?_;simp only[zz];refine gV rfl rfl (xK Bw.up Bw.up) (aK (aH fM aP rfl rfl (by decide) (by decide) rfl) (bZ ?_));clear m;intro u m;simp only[zz];refine aT m 0 rfl rfl rfl aP (cU rfl) rfl ?_;clear m;intro u m;simp only[zy,zx,bB,zF,zG,Nat.reduceAdd] at m;refine aF (k11 _ _ ?_);refine wp_region_lit (aA (aU (m:=1) (n:=1) (r:=2) rfl rfl (by decide)) (aA (aB) (aF (aQ (aD fun K13 k13=>wp_region_lit (aA (bF (m:=2) (n:=3) rfl rfl (by decide)) (aF (k13 _ _ ?_))))))));refine aD fun K14 k14=>bK rfl (wp_skip (k14 _ _ ?_));refine aD fun K15 k15=>wp_block (aD fun K16 k16=>wp_region_lit (aA (aB) ?_));simp only[zz];refine aA (xF rfl rfl) (aA (aG) (aA (aG) (aF (k16 _ _ ?_))));simp only[zz];refine eA m 11 aM (by kernel_rfl) ?_;simp only[zy];refine aK (aB) (aK (aB) ?_);simp only[zz];refine ql rfl (fun u m=>((m.b 2 rfl).full aI aC)) ?_;simp only[zz];refine gV rfl rfl (ajV) ?_;simp only[zz];refine gV rfl rfl (lZ Iw.h) (aK (aB) ?_);simp only[zz];refine ql rfl (fun u m=>((m.b 3 rfl).full aI aC)) ?_;simp only[zz];refine gV rfl rfl (ajV) ?_;simp only[zz];refine gV rfl rfl (lZ Iw.h) ?_;simp only[zz];refine gV rfl rfl (xK Bw.up Bw.up) (aK (aH fM aP rfl rfl (by decide) (by decide) rfl) (bZ ?_));clear m;intro u m;simp only[zz];refine aT m 0 rfl rfl rfl aP (cU rfl) rfl ?_;clear m;intro u m;simp only[zy,zx,bB,zF,zG,Nat.reduceAdd] at m;refine aF (k15 _ _ ?_);refine wp_region_lit (aA (aU (m:=2) (n:=1) (r:=3) rfl rfl (by decide)) (aA (aB) (aF (aQ (aD fun K17 k17=>wp_region_lit (aA (dM (m:=3) (n:=3) rfl rfl (by decide)) (aF (k17 _ _ ?_))))))));refine aD fun K18 k18=>gA rfl (wp_exit (k3 _ _ ?_));refine aD fun K19 k19=>wp_region_lit ?_;simp only[zz];refine aJ rfl ((m.b 0 rfl).full Ew oQ) ?_;simp only[zz];refine aT m 1 rfl rfl rfl oQ (cU rfl) rfl ?_;clear m;intro u m;simp only[zy,zx,bB,zF,zG,Nat.reduceAdd] at m;refine aF (k19 _ _ ?_);refine wp_ret ?_;try simp only[Exit.inBlock,Exit.then,if_true]
 refine bE rfl ⟨_,rfl,((m.b 1 rfl).full Ew oQ)⟩ ?_;try simp only[zD,zE]
 exact ⟨_,rfl,m.ext,rfl⟩
theorem tC {u v : P3} (hu : Bv 400000 u) (hv : Bv 400000 v) : eQ prog 302 [wv u,wv v] (wv (u.cross v)):=by
 intro w;refine ⟨ag4,?_⟩;have m:=Mem.refl w
 go_enter func302,ntmps302
 refine aD fun K1 k1=>wp_region_lit (cB m rfl ?_);clear m;intro g1 u m;simp only[zz];refine cB m rfl ?_;clear m;intro g2 u m;simp only[zz];refine bA m Ae rfl ?_;clear m;intro g3 u m;refine aF (k1 _ _ ?_);refine aD fun K2 k2=>wp_region_lit ?_;simp only[zz];refine bA m Ae rfl ?_;clear m;intro g4 u m;refine aF (k2 _ _ ?_);refine aD fun K3 k3=>aD fun K4 k4=>wp_region_lit (aA (aB) (aF (k4 _ _ ?_)));refine wp_block (wp_loop_rounds 4 (bU (aD fun K5 k5=>wp_region_lit (aA (bF (m:=0) (n:=3) rfl rfl (by decide)) (aF (k5 _ _ ?_))))));refine aD fun K6 k6=>bK rfl (wp_skip (k6 _ _ ?_));refine aD fun K7 k7=>wp_block (aD fun K8 k8=>wp_region_lit (aA (aB) ?_));simp only[zz];refine aA (aG) (aF (k8 _ _ ?_));refine aD fun K9 k9=>wp_region_lit (aA (aB) ?_);simp only[zz];refine dH m rfl rfl (ace) ?_;clear m;intro u m;refine aA (aB) (aA (bC rfl rfl) (aA (bC rfl rfl) ?_));simp only[zz];refine aA (aG) (aA (aG) (aF (k9 _ _ ?_)));simp only[zz];refine eA m 17 aM (by kernel_rfl) ?_;simp only[zy];refine aK (aB) (aK (aB) (aK (aH fM aP rfl rfl (by decide) (by decide) rfl) ?_));simp only[zz];refine ql rfl (fun u m=>((m.b 3 rfl).lies bN aP rfl rfl)) ?_;simp only[zz,zy,Nat.zero_add,Nat.reduceAdd,Nat.reduceMul,Int.reduceToNat];refine aK (aB) (aK (aH fM aP rfl rfl (by decide) (by decide) rfl) ?_);simp only[zz];refine ql rfl (fun u m=>((m.b 2 rfl).lies bN aP rfl rfl)) ?_;simp only[zz,zy,Nat.zero_add,Nat.reduceAdd,Nat.reduceMul,Int.reduceToNat];refine gV rfl rfl (nT Bw.up Bw.up) (aK (aB) (aK (aH fM aP rfl rfl (by decide) (by decide) rfl) ?_));simp only[zz];refine ql rfl (fun u m=>((m.b 3 rfl).lies bN aP rfl rfl)) ?_;simp only[zz,zy,Nat.zero_add,Nat.reduceAdd,Nat.reduceMul,Int.reduceToNat];refine aK (aB) (aK (aH fM aP rfl rfl (by decide) (by decide) rfl) ?_);simp only[zz];refine ql rfl (fun u m=>((m.b 2 rfl).lies bN aP rfl rfl)) ?_;simp only[zz,zy,Nat.zero_add,Nat.reduceAdd,Nat.reduceMul,Int.reduceToNat];refine gV rfl rfl (nT Bw.up Bw.up) ?_;simp only[zz];refine gV rfl rfl (xK Bw.up Bw.up) (aK (aH fM aP rfl rfl (by decide) (by decide) rfl) (bZ ?_));clear m;intro u m;simp only[zz];refine aT m 0 rfl rfl rfl aP (cU rfl) rfl ?_;clear m;intro u m;simp only[zy,zx,bB,zF,zG,Nat.reduceAdd] at m;refine aF (k7 _ _ ?_);refine wp_region_lit (aA (aU (m:=0) (n:=1) (r:=1) rfl rfl (by decide)) (aA (aB) (aF (aQ (aD fun K10 k10=>wp_region_lit (aA (bF (m:=1) (n:=3) rfl rfl (by decide)) (aF (k10 _ _ ?_))))))));refine aD fun K11 k11=>bK rfl (wp_skip (k11 _ _ ?_));refine aD fun K12 k12=>wp_block (aD fun K13 k13=>wp_region_lit (aA (aB) ?_));simp only[zz];refine aA (aG) (aF (k13 _ _ ?_));refine aD fun K14 k14=>wp_region_lit (aA (aB) ?_);simp only[zz];refine dH m rfl rfl (acf) ?_;clear m;intro u m;refine aA (aB) (aA (bC rfl rfl) (aA (bC rfl rfl) ?_));simp only[zz];refine aA (aG) (aA (aG) (aF (k14 _ _ ?_)));simp only[zz];refine eA m 17 aM (by kernel_rfl) ?_;simp only[zy];refine aK (aB) (aK (aB) (aK (aH fM aP rfl rfl (by decide) (by decide) rfl) ?_));simp only[zz];refine ql rfl (fun u m=>((m.b 3 rfl).lies bN aP rfl rfl)) ?_;simp only[zz,zy,Nat.zero_add,Nat.reduceAdd,Nat.reduceMul,Int.reduceToNat];refine aK (aB) (aK (aH fM aP rfl rfl (by decide) (by decide) rfl) ?_);simp only[zz];refine ql rfl (fun u m=>((m.b 2 rfl).lies bN aP rfl rfl)) ?_;simp only[zz,zy,Nat.zero_add,Nat.reduceAdd,Nat.reduceMul,Int.reduceToNat];refine gV rfl rfl (nT Bw.up Bw.up) (aK (aB) (aK (aH fM aP rfl rfl (by decide) (by decide) rfl) ?_));simp only[zz];refine ql rfl (fun u m=>((m.b 3 rfl).lies bN aP rfl rfl)) ?_;simp only[zz,zy,Nat.zero_add,Nat.reduceAdd,Nat.reduceMul,Int.reduceToNat];refine aK (aB) (aK (aH fM aP rfl rfl (by decide) (by decide) rfl) ?_);simp only[zz];refine ql rfl (fun u m=>((m.b 2 rfl).lies bN aP rfl rfl)) ?_;simp only[zz,zy,Nat.zero_add,Nat.reduceAdd,Nat.reduceMul,Int.reduceToNat];refine gV rfl rfl (nT Bw.up Bw.up) ?_;simp only[zz];refine gV rfl rfl (xK Bw.up Bw.up) (aK (aH fM aP rfl rfl (by decide) (by decide) rfl) (bZ ?_));clear m;intro u m;simp only[zz];refine aT m 0 rfl rfl rfl aP (cU rfl) rfl ?_;clear m;intro u m;simp only[zy,zx,bB,zF,zG,Nat.reduceAdd] at m;refine aF (k12 _ _ ?_);refine wp_region_lit (aA (aU (m:=1) (n:=1) (r:=2) rfl rfl (by decide)) (aA (aB) (aF (aQ (aD fun K15 k15=>wp_region_lit (aA (bF (m:=2) (n:=3) rfl rfl (by decide)) (aF (k15 _ _ ?_))))))));refine aD fun K16 k16=>bK rfl (wp_skip (k16 _ _ ?_));refine aD fun K17 k17=>wp_block (aD fun K18 k18=>wp_region_lit (aA (aB) ?_));simp only[zz];refine aA (aG) (aF (k18 _ _ ?_));refine aD fun K19 k19=>wp_region_lit (aA (aB) ?_);simp only[zz];refine dH m rfl rfl (acg) ?_;clear m;intro u m;refine aA (aB) (aA (bC rfl rfl) (aA (bC rfl rfl) ?_));simp only[zz];refine aA (aG) (aA (aG) (aF (k19 _ _ ?_)));simp only[zz];refine eA m 17 aM (by kernel_rfl) ?_;simp only[zy];refine aK (aB) (aK (aB) (aK (aH fM aP rfl rfl (by decide) (by decide) rfl) ?_));simp only[zz];refine ql rfl (fun u m=>((m.b 3 rfl).lies bN aP rfl rfl)) ?_;simp only[zz,zy,Nat.zero_add,Nat.reduceAdd,Nat.reduceMul,Int.reduceToNat];refine aK (aB) (aK (aH fM aP rfl rfl (by decide) (by decide) rfl) ?_);simp only[zz];refine ql rfl (fun u m=>((m.b 2 rfl).lies bN aP rfl rfl)) ?_;simp only[zz,zy,Nat.zero_add,Nat.reduceAdd,Nat.reduceMul,Int.reduceToNat];refine gV rfl rfl (nT Bw.up Bw.up) (aK (aB) (aK (aH fM aP rfl rfl (by decide) (by decide) rfl) ?_));simp only[zz];refine ql rfl (fun u m=>((m.b 3 rfl).lies bN aP rfl rfl)) ?_;simp only[zz,zy,Nat.zero_add,Nat.reduceAdd,Nat.reduceMul,Int.reduceToNat];refine aK (aB) (aK (aH fM aP rfl rfl (by decide) (by decide) rfl) ?_);simp only[zz];refine ql rfl (fun u m=>((m.b 2 rfl).lies bN aP rfl rfl)) ?_;simp only[zz,zy,Nat.zero_add,Nat.reduceAdd,Nat.reduceMul,Int.reduceToNat];refine gV rfl rfl (nT Bw.up Bw.up) ?_;simp only[zz];refine gV rfl rfl (xK Bw.up Bw.up) (aK (aH fM aP rfl rfl (by decide) (by decide) rfl) (bZ ?_));clear m;intro u m;simp only[zz];refine aT m 0 rfl rfl rfl aP (cU rfl) rfl ?_;clear m;intro u m;simp only[zy,zx,bB,zF,zG,Nat.reduceAdd] at m;refine aF (k17 _ _ ?_);refine wp_region_lit (aA (aU (m:=2) (n:=1) (r:=3) rfl rfl (by decide)) (aA (aB) (aF (aQ (aD fun K20 k20=>wp_region_lit (aA (dM (m:=3) (n:=3) rfl rfl (by decide)) (aF (k20 _ _ ?_))))))));refine aD fun K21 k21=>gA rfl (wp_exit (k3 _ _ ?_));refine aD fun K22 k22=>wp_region_lit ?_;simp only[zz];refine aJ rfl ((m.b 0 rfl).full Ew oQ) ?_;simp only[zz];refine aT m 1 rfl rfl rfl oQ (cU rfl) rfl ?_;clear m;intro u m;simp only[zy,zx,bB,zF,zG,Nat.reduceAdd] at m;refine aF (k22 _ _ ?_);refine wp_ret ?_;try simp only[Exit.inBlock,Exit.then,if_true]
 refine bE rfl ⟨_,rfl,((m.b 1 rfl).full Ew oQ)⟩ ?_;try simp only[zD,zE]
 exact ⟨_,rfl,m.ext,rfl⟩
theorem ahS {b : Int} (hb : Bd 1000000 b) : eQ prog 121 [.agg #[.bool false,.string ⟨#[]⟩],W b] (W (0 + b)):=by
 rw [← Lx];exact La (Es _) hb
theorem Ed {u v : P3} (hu : Bv 400000 u) (hv : Bv 400000 v) : eQ prog 224 [wv u,wv v] (W (u.dot v)):=by
 intro w;refine ⟨agK,?_⟩;have m:=Mem.refl w
 go_enter func224,ntmps224
 refine aD fun K1 k1=>wp_region_lit (cB m rfl ?_);clear m;intro g1 u m;simp only[zz];refine cB m rfl ?_;clear m;intro g2 u m;simp only[zz];refine bA m gM rfl ?_;clear m;intro g3 u m;refine aF (k1 _ _ ?_);refine aD fun K2 k2=>wp_region_lit ?_;simp only[zz];refine bA m gM rfl ?_;clear m;intro g4 u m;refine aF (k2 _ _ ?_);refine aD fun K3 k3=>aD fun K4 k4=>wp_region_lit (aA (aB) (aF (k4 _ _ ?_)));refine wp_block (wp_loop_rounds 4 (bU (aD fun K5 k5=>wp_region_lit (aA (bF (m:=0) (n:=3) rfl rfl (by decide)) (aF (k5 _ _ ?_))))));refine aD fun K6 k6=>bK rfl (wp_skip (k6 _ _ ?_));refine aD fun K7 k7=>wp_block (aD fun K8 k8=>wp_region_lit (aA (aB) ?_));simp only[zz];refine aA (aG) (aF (k8 _ _ ?_));simp only[zz];refine eA m 9 aM (by kernel_rfl) ?_;simp only[zy];refine ql rfl (fun u m=>((m.b 0 rfl).full bN aP)) ?_;simp only[zz];refine aK (aB) (aK (aH fM aP rfl rfl (by decide) (by decide) rfl) ?_);simp only[zz];refine ql rfl (fun u m=>((m.b 3 rfl).lies bN aP rfl rfl)) ?_;simp only[zz,zy,Nat.zero_add,Nat.reduceAdd,Nat.reduceMul,Int.reduceToNat];refine aK (aB) (aK (aH fM aP rfl rfl (by decide) (by decide) rfl) ?_);simp only[zz];refine ql rfl (fun u m=>((m.b 2 rfl).lies bN aP rfl rfl)) ?_;simp only[zz,zy,Nat.zero_add,Nat.reduceAdd,Nat.reduceMul,Int.reduceToNat];refine gV rfl rfl (nT Bw.up Bw.up) ?_;simp only[zz];refine gV rfl rfl (ahS Bw.up) (bZ ?_);clear m;intro u m;simp only[zz];refine aT m 0 rfl rfl rfl aP (cU rfl) rfl ?_;clear m;intro u m;simp only[zy,zx,bB,zF,zG,Nat.reduceAdd] at m;refine aF (k7 _ _ ?_);refine wp_region_lit (aA (aU (m:=0) (n:=1) (r:=1) rfl rfl (by decide)) (aA (aB) (aF (aQ (aD fun K9 k9=>wp_region_lit (aA (bF (m:=1) (n:=3) rfl rfl (by decide)) (aF (k9 _ _ ?_))))))));refine aD fun K10 k10=>bK rfl (wp_skip (k10 _ _ ?_));refine aD fun K11 k11=>wp_block (aD fun K12 k12=>wp_region_lit (aA (aB) ?_));simp only[zz];refine aA (aG) (aF (k12 _ _ ?_));simp only[zz];refine eA m 9 aM (by kernel_rfl) ?_;simp only[zy];refine ql rfl (fun u m=>((m.b 0 rfl).full bN aP)) ?_;simp only[zz];refine aK (aB) (aK (aH fM aP rfl rfl (by decide) (by decide) rfl) ?_);simp only[zz];refine ql rfl (fun u m=>((m.b 3 rfl).lies bN aP rfl rfl)) ?_;simp only[zz,zy,Nat.zero_add,Nat.reduceAdd,Nat.reduceMul,Int.reduceToNat];refine aK (aB) (aK (aH fM aP rfl rfl (by decide) (by decide) rfl) ?_);simp only[zz];refine ql rfl (fun u m=>((m.b 2 rfl).lies bN aP rfl rfl)) ?_;simp only[zz,zy,Nat.zero_add,Nat.reduceAdd,Nat.reduceMul,Int.reduceToNat];refine gV rfl rfl (nT Bw.up Bw.up) ?_;simp only[zz];refine gV rfl rfl (La Bw.up Bw.up) (bZ ?_);clear m;intro u m;simp only[zz];refine aT m 0 rfl rfl rfl aP (cU rfl) rfl ?_;clear m;intro u m;simp only[zy,zx,bB,zF,zG,Nat.reduceAdd] at m;refine aF (k11 _ _ ?_);refine wp_region_lit (aA (aU (m:=1) (n:=1) (r:=2) rfl rfl (by decide)) (aA (aB) (aF (aQ (aD fun K13 k13=>wp_region_lit (aA (bF (m:=2) (n:=3) rfl rfl (by decide)) (aF (k13 _ _ ?_))))))));refine aD fun K14 k14=>bK rfl (wp_skip (k14 _ _ ?_));refine aD fun K15 k15=>wp_block (aD fun K16 k16=>wp_region_lit (aA (aB) ?_));simp only[zz];refine aA (aG) (aF (k16 _ _ ?_));simp only[zz];refine eA m 9 aM (by kernel_rfl) ?_;simp only[zy];refine ql rfl (fun u m=>((m.b 0 rfl).full bN aP)) ?_;simp only[zz];refine aK (aB) (aK (aH fM aP rfl rfl (by decide) (by decide) rfl) ?_);simp only[zz];refine ql rfl (fun u m=>((m.b 3 rfl).lies bN aP rfl rfl)) ?_;simp only[zz,zy,Nat.zero_add,Nat.reduceAdd,Nat.reduceMul,Int.reduceToNat];refine aK (aB) (aK (aH fM aP rfl rfl (by decide) (by decide) rfl) ?_);simp only[zz];refine ql rfl (fun u m=>((m.b 2 rfl).lies bN aP rfl rfl)) ?_;simp only[zz,zy,Nat.zero_add,Nat.reduceAdd,Nat.reduceMul,Int.reduceToNat];refine gV rfl rfl (nT Bw.up Bw.up) ?_;simp only[zz];refine gV rfl rfl (La Bw.up Bw.up) (bZ ?_);clear m;intro u m;simp only[zz];refine aT m 0 rfl rfl rfl aP (cU rfl) rfl ?_;clear m;intro u m;simp only[zy,zx,bB,zF,zG,Nat.reduceAdd] at m;refine aF (k15 _ _ ?_);refine wp_region_lit (aA (aU (m:=2) (n:=1) (r:=3) rfl rfl (by decide)) (aA (aB) (aF (aQ (aD fun K17 k17=>wp_region_lit (aA (dM (m:=3) (n:=3) rfl rfl (by decide)) (aF (k17 _ _ ?_))))))));refine aD fun K18 k18=>gA rfl (wp_exit (k3 _ _ ?_));refine aD fun K19 k19=>wp_region_lit ?_;simp only[zz];refine aJ rfl ((m.b 0 rfl).full bN aP) ?_;simp only[zz];refine aT m 1 rfl rfl rfl aP (cU rfl) rfl ?_;clear m;intro u m;simp only[zy,zx,bB,zF,zG,Nat.reduceAdd] at m;refine aF (k19 _ _ ?_);refine wp_ret ?_;try simp only[Exit.inBlock,Exit.then,if_true]
 refine bE rfl ⟨_,rfl,((m.b 1 rfl).full bN aP)⟩ ?_;try simp only[zD,zE]
 exact ⟨_,rfl,m.ext,by rw [← P3.dot0];rfl⟩
end Go.Proofs.YtfekpcimgncioaaGreatDoor
namespace Go.Proofs.YtfekpcimgncioaaGreatDoor
open Go.Proofs.Tryz
open Go.RowKit Go.Lith
set_option maxRecDepth 100000
attribute [local irreducible] wpList wpQuiet dB bL cE Code.wp
theorem Hr {t : T3} [IT t] : eQ prog 239 [tr t] (wv t.normal):=by
 intro w;refine ⟨agP,?_⟩;have m:=Mem.refl w
 go_enter func239,ntmps239
 refine aD fun K1 k1=>wp_region_lit (cB m rfl ?_);clear m;intro g1 u m;simp only[zz];refine bA m Pg rfl ?_;clear m;intro g2 u m;refine aF (k1 _ _ ?_);refine aD fun K2 k2=>?_;simp only[zz];refine eA m 11 aM (by kernel_rfl) ?_;simp only[zy];refine aK (aH bD aC rfl rfl (by decide) (by decide) rfl) ?_;simp only[zz];refine ql rfl (fun u m=>((m.b 1 rfl).lies aI aC rfl rfl)) ?_;simp only[zz,zy,Nat.zero_add,Nat.reduceAdd,Nat.reduceMul,Int.reduceToNat];refine aK (aH bD aC rfl rfl (by decide) (by decide) rfl) ?_;simp only[zz];refine ql rfl (fun u m=>((m.b 1 rfl).lies aI aC rfl rfl)) ?_;simp only[zz,zy,Nat.zero_add,Nat.reduceAdd,Nat.reduceMul,Int.reduceToNat];refine gV rfl rfl (jU) (aK (aH bD aC rfl rfl (by decide) (by decide) rfl) ?_);simp only[zz];refine ql rfl (fun u m=>((m.b 1 rfl).lies aI aC rfl rfl)) ?_;simp only[zz,zy,Nat.zero_add,Nat.reduceAdd,Nat.reduceMul,Int.reduceToNat];refine aK (aH bD aC rfl rfl (by decide) (by decide) rfl) ?_;simp only[zz];refine ql rfl (fun u m=>((m.b 1 rfl).lies aI aC rfl rfl)) ?_;simp only[zz,zy,Nat.zero_add,Nat.reduceAdd,Nat.reduceMul,Int.reduceToNat];refine gV rfl rfl (jU) ?_;simp only[zz];refine gV rfl rfl (tC Bv.of Bv.of) (bZ ?_);clear m;intro u m;simp only[zz];refine aT m 0 rfl rfl rfl Ck (cU rfl) rfl ?_;clear m;intro u m;simp only[zy,zx,bB,zF,zG,Nat.reduceAdd] at m;refine aF (k2 _ _ ?_);refine wp_ret ?_;try simp only[Exit.inBlock,Exit.then,if_true]
 refine bE rfl ⟨_,rfl,((m.b 0 rfl).full adU Ck)⟩ ?_;try simp only[zD,zE]
 exact ⟨_,rfl,m.ext,rfl⟩
theorem kV {X : Nat} (w : World) (hX64 : X < 18446744073709551616) : eG prog 255 [.int .u64 X] w (fun v _=>∃ n : Int,v = .int .i64 n ∧ 0 ≤ n ∧ n ≤ 64 ∧ (n ≤ 18 → X < 262144)):=by
 refine ⟨agV,?_⟩;have m:=Mem.refl w
 go_enter func255,ntmps255
 refine aD fun K1 k1=>wp_region_lit (aA (aG) (aF (k1 _ _ ?_)));refine aD fun K2 k2=>aD fun K3 k3=>wp_region_lit (aA (aB) (aA (tJ rfl rfl) (aF (k3 _ _ ?_))));simp only[zz];refine cG rfl (fun hc1=>?_) (fun hc1=>?_)
 ·
  refine aD fun K4 k4=>wp_region_lit (aA (aB) ?_);simp only[zz];refine aA (lE rfl rfl (by omega) Sk) (aA (aG) (aF (k4 _ _ ?_)));refine wp_region_lit (aA (aG) (aF (k2 _ _ ?_)));refine aD fun K5 k5=>aD fun K6 k6=>wp_region_lit (aA (aB) ?_);simp only[zz];refine aA (tJ rfl rfl) (aF (k6 _ _ ?_));simp only[zz];refine cG rfl (fun hc2=>?_) (fun hc2=>?_)
  ·
   refine aD fun K7 k7=>wp_region_lit (aA (aB) ?_);simp only[zz];refine aA (lE rfl rfl (by omega) aaS) (aA (aG) (aF (k7 _ _ ?_)));refine wp_region_lit (aA (aB) (aA (aU (m:=32) (n:=16) (r:=48) rfl rfl (by decide)) ?_));simp only[zz];refine aA (aG) (aF (k5 _ _ ?_));refine aD fun K8 k8=>aD fun K9 k9=>wp_region_lit (aA (aB) (aA (tJ rfl rfl) (aF (k9 _ _ ?_))));simp only[zz];refine cG rfl (fun hc3=>?_) (fun hc3=>?_)
   ·
    refine aD fun K10 k10=>wp_region_lit (aA (aB) ?_);simp only[zz];refine aA (lE rfl rfl (by omega) Wa) (aA (aG) (aF (k10 _ _ ?_)));refine wp_region_lit (aA (aB) (aA (aU (m:=48) (n:=8) (r:=56) rfl rfl (by decide)) ?_));simp only[zz];refine aA (aG) (aF (k8 _ _ ?_));refine aD fun K11 k11=>wp_region_lit (aA (aB) (aA (aB) (aA (eU rX gL rfl (qB (by omega) (by omega))) ?_)));simp only[zz];refine uK mX (by kernel_rfl) rfl (by omega) ?_;intro b hb8 hb2;simp only[tW,mT,pY,List.getD_cons_succ,List.getD_cons_zero,List.set_cons_succ,List.set_cons_zero];refine aA (eU gB rX rfl (aV (by omega) (by omega))) ?_;simp only[zz];refine aA (aU rfl rfl (aV (by omega) (by omega))) (aA (aG) (aF (k11 _ _ ?_)));refine wp_ret ?_;simp only[zz];try simp only[Exit.inBlock,Exit.then,if_true]
    refine bE rfl rfl ?_;try simp only[zD,zE]
    exact ⟨_,rfl,m.ext,_,rfl,by omega,by omega,by omega⟩
   ·
    refine wp_skip (k8 _ _ ?_);refine aD fun K12 k12=>wp_region_lit (aA (aB) (aA (aB) (aA (eU rX gL rfl (qB (by omega) (by omega))) ?_)));simp only[zz];refine uK mX (by kernel_rfl) rfl (by omega) ?_;intro b hb8 hb2;simp only[tW,mT,pY,List.getD_cons_succ,List.getD_cons_zero,List.set_cons_succ,List.set_cons_zero];refine aA (eU gB rX rfl (aV (by omega) (by omega))) ?_;simp only[zz];refine aA (aU rfl rfl (aV (by omega) (by omega))) (aA (aG) (aF (k12 _ _ ?_)));refine wp_ret ?_;simp only[zz];try simp only[Exit.inBlock,Exit.then,if_true]
    refine bE rfl rfl ?_;try simp only[zD,zE]
    exact ⟨_,rfl,m.ext,_,rfl,by omega,by omega,by omega⟩
  ·
   refine wp_skip (k5 _ _ ?_);refine aD fun K13 k13=>aD fun K14 k14=>wp_region_lit (aA (aB) (aA (tJ rfl rfl) (aF (k14 _ _ ?_))));simp only[zz];refine cG rfl (fun hc3=>?_) (fun hc3=>?_)
   ·
    refine aD fun K15 k15=>wp_region_lit (aA (aB) ?_);simp only[zz];refine aA (lE rfl rfl (by omega) Wa) (aA (aG) (aF (k15 _ _ ?_)));refine wp_region_lit (aA (aB) (aA (aU (m:=32) (n:=8) (r:=40) rfl rfl (by decide)) ?_));simp only[zz];refine aA (aG) (aF (k13 _ _ ?_));refine aD fun K16 k16=>wp_region_lit (aA (aB) (aA (aB) (aA (eU rX gL rfl (qB (by omega) (by omega))) ?_)));simp only[zz];refine uK mX (by kernel_rfl) rfl (by omega) ?_;intro b hb8 hb2;simp only[tW,mT,pY,List.getD_cons_succ,List.getD_cons_zero,List.set_cons_succ,List.set_cons_zero];refine aA (eU gB rX rfl (aV (by omega) (by omega))) ?_;simp only[zz];refine aA (aU rfl rfl (aV (by omega) (by omega))) (aA (aG) (aF (k16 _ _ ?_)));refine wp_ret ?_;simp only[zz];try simp only[Exit.inBlock,Exit.then,if_true]
    refine bE rfl rfl ?_;try simp only[zD,zE]
    exact ⟨_,rfl,m.ext,_,rfl,by omega,by omega,by omega⟩
   ·
    refine wp_skip (k13 _ _ ?_);refine aD fun K17 k17=>wp_region_lit (aA (aB) (aA (aB) (aA (eU rX gL rfl (qB (by omega) (by omega))) ?_)));simp only[zz];refine uK mX (by kernel_rfl) rfl (by omega) ?_;intro b hb8 hb2;simp only[tW,mT,pY,List.getD_cons_succ,List.getD_cons_zero,List.set_cons_succ,List.set_cons_zero];refine aA (eU gB rX rfl (aV (by omega) (by omega))) ?_;simp only[zz];refine aA (aU rfl rfl (aV (by omega) (by omega))) (aA (aG) (aF (k17 _ _ ?_)));refine wp_ret ?_;simp only[zz];try simp only[Exit.inBlock,Exit.then,if_true]
    refine bE rfl rfl ?_;try simp only[zD,zE]
    exact ⟨_,rfl,m.ext,_,rfl,by omega,by omega,by omega⟩
 ·
  refine wp_skip (k2 _ _ ?_);refine aD fun K18 k18=>aD fun K19 k19=>wp_region_lit (aA (aB) (aA (tJ rfl rfl) (aF (k19 _ _ ?_))));simp only[zz];refine cG rfl (fun hc2=>?_) (fun hc2=>?_)
  ·
   refine aD fun K20 k20=>wp_region_lit (aA (aB) ?_);simp only[zz];refine aA (lE rfl rfl (by omega) aaS) (aA (aG) (aF (k20 _ _ ?_)));refine wp_region_lit (aA (aB) (aA (aU (m:=0) (n:=16) (r:=16) rfl rfl (by decide)) ?_));simp only[zz];refine aA (aG) (aF (k18 _ _ ?_));refine aD fun K21 k21=>aD fun K22 k22=>wp_region_lit (aA (aB) (aA (tJ rfl rfl) (aF (k22 _ _ ?_))));simp only[zz];refine cG rfl (fun hc3=>?_) (fun hc3=>?_)
   ·
    refine aD fun K23 k23=>wp_region_lit (aA (aB) ?_);simp only[zz];refine aA (lE rfl rfl (by omega) Wa) (aA (aG) (aF (k23 _ _ ?_)));refine wp_region_lit (aA (aB) (aA (aU (m:=16) (n:=8) (r:=24) rfl rfl (by decide)) ?_));simp only[zz];refine aA (aG) (aF (k21 _ _ ?_));refine aD fun K24 k24=>wp_region_lit (aA (aB) (aA (aB) (aA (eU rX gL rfl (qB (by omega) (by omega))) ?_)));simp only[zz];refine uK mX (by kernel_rfl) rfl (by omega) ?_;intro b hb8 hb2;simp only[tW,mT,pY,List.getD_cons_succ,List.getD_cons_zero,List.set_cons_succ,List.set_cons_zero];refine aA (eU gB rX rfl (aV (by omega) (by omega))) ?_;simp only[zz];refine aA (aU rfl rfl (aV (by omega) (by omega))) (aA (aG) (aF (k24 _ _ ?_)));refine wp_ret ?_;simp only[zz];try simp only[Exit.inBlock,Exit.then,if_true]
    refine bE rfl rfl ?_;try simp only[zD,zE]
    exact ⟨_,rfl,m.ext,_,rfl,by omega,by omega,by omega⟩
   ·
    refine wp_skip (k21 _ _ ?_);refine aD fun K25 k25=>wp_region_lit (aA (aB) (aA (aB) (aA (eU rX gL rfl (qB (by omega) (by omega))) ?_)));simp only[zz];refine uK mX (by kernel_rfl) rfl (by omega) ?_;intro b hb8 hb2;simp only[tW,mT,pY,List.getD_cons_succ,List.getD_cons_zero,List.set_cons_succ,List.set_cons_zero];refine aA (eU gB rX rfl (aV (by omega) (by omega))) ?_;simp only[zz];refine aA (aU rfl rfl (aV (by omega) (by omega))) (aA (aG) (aF (k25 _ _ ?_)));refine wp_ret ?_;simp only[zz];try simp only[Exit.inBlock,Exit.then,if_true]
    refine bE rfl rfl ?_;try simp only[zD,zE]
    exact ⟨_,rfl,m.ext,_,rfl,by omega,by omega,by omega⟩
  ·
   refine wp_skip (k18 _ _ ?_);refine aD fun K26 k26=>aD fun K27 k27=>wp_region_lit (aA (aB) (aA (tJ rfl rfl) (aF (k27 _ _ ?_))));simp only[zz];refine cG rfl (fun hc3=>?_) (fun hc3=>?_)
   ·
    refine aD fun K28 k28=>wp_region_lit (aA (aB) ?_);simp only[zz];refine aA (lE rfl rfl (by omega) Wa) (aA (aG) (aF (k28 _ _ ?_)));refine wp_region_lit (aA (aB) (aA (aU (m:=0) (n:=8) (r:=8) rfl rfl (by decide)) ?_));simp only[zz];refine aA (aG) (aF (k26 _ _ ?_));refine aD fun K29 k29=>wp_region_lit (aA (aB) (aA (aB) (aA (eU rX gL rfl (qB (by omega) (by omega))) ?_)));simp only[zz];refine uK mX (by kernel_rfl) rfl (by omega) ?_;intro b hb8 hb2;simp only[tW,mT,pY,List.getD_cons_succ,List.getD_cons_zero,List.set_cons_succ,List.set_cons_zero];refine aA (eU gB rX rfl (aV (by omega) (by omega))) ?_;simp only[zz];refine aA (aU rfl rfl (aV (by omega) (by omega))) (aA (aG) (aF (k29 _ _ ?_)));refine wp_ret ?_;simp only[zz];try simp only[Exit.inBlock,Exit.then,if_true]
    refine bE rfl rfl ?_;try simp only[zD,zE]
    exact ⟨_,rfl,m.ext,_,rfl,by omega,by omega,by omega⟩
   ·
    refine wp_skip (k26 _ _ ?_);refine aD fun K30 k30=>wp_region_lit (aA (aB) (aA (aB) (aA (eU rX gL rfl (qB (by omega) (by omega))) ?_)));simp only[zz];refine uK mX (by kernel_rfl) rfl (by omega) ?_;intro b hb8 hb2;simp only[tW,mT,pY,List.getD_cons_succ,List.getD_cons_zero,List.set_cons_succ,List.set_cons_zero];refine aA (eU gB rX rfl (aV (by omega) (by omega))) ?_;simp only[zz];refine aA (aU rfl rfl (aV (by omega) (by omega))) (aA (aG) (aF (k30 _ _ ?_)));refine wp_ret ?_;simp only[zz];try simp only[Exit.inBlock,Exit.then,if_true]
    refine bE rfl rfl ?_;try simp only[zD,zE]
    exact ⟨_,rfl,m.ext,_,rfl,by omega,by omega,by omega⟩
theorem mA {p q : P3} [hp : S3 p] [hq : S3 q] : eQ prog 299 [pt p,pt q] (nv (q.sub p)):=by
 intro w;refine ⟨ag1,?_⟩;have m:=Mem.refl w;have:=hp.x;have:=hp.y;have:=hp.z;have:=hq.x;have:=hq.y;have:=hq.z
 go_enter func299,ntmps299
 refine aD fun K1 k1=>wp_region_lit (cB m rfl ?_);clear m;intro g1 u m;simp only[zz];refine cB m rfl ?_;clear m;intro g2 u m;simp only[zz];refine bA m Af rfl ?_;clear m;intro g3 u m;refine aF (k1 _ _ ?_);refine aD fun K2 k2=>wp_region_lit (aA (aL (c:=0) dL rfl aO rfl rfl) ?_);simp only[zz];refine aJ rfl ((m.b 1 rfl).lies1 aX rfl) ?_;simp only[zz];refine aA (aL (c:=0) dL rfl aO rfl rfl) ?_;simp only[zz];refine aJ rfl ((m.b 2 rfl).lies1 aX rfl) ?_;simp only[zz];refine aA (oZ rfl rfl (aV (by omega) (by omega))) (aA (aL (c:=0) dL rfl aO rfl rfl) ?_);simp only[zz];refine aJ rfl ((m.b 1 rfl).lies1 aX rfl) ?_;simp only[zz];refine aA (aL (c:=0) dL rfl aO rfl rfl) ?_;simp only[zz];refine aJ rfl ((m.b 2 rfl).lies1 aX rfl) ?_;simp only[zz];refine aA (oZ rfl rfl (aV (by omega) (by omega))) (aA (aL (c:=0) dL rfl aO rfl rfl) ?_);simp only[zz];refine aJ rfl ((m.b 1 rfl).lies1 aX rfl) ?_;simp only[zz];refine aA (aL (c:=0) dL rfl aO rfl rfl) ?_;simp only[zz];refine aJ rfl ((m.b 2 rfl).lies1 aX rfl) ?_;simp only[zz];refine aA (oZ rfl rfl (aV (by omega) (by omega))) (aA (Ak rfl rfl rfl) ?_);simp only[zz];refine aT m 0 rfl rfl rfl rT (cU rfl) rfl ?_;clear m;intro u m;simp only[zy,zx,bB,zF,zG,Nat.reduceAdd] at m;refine aF (k2 _ _ ?_);refine wp_ret ?_;try simp only[Exit.inBlock,Exit.then,if_true]
 refine bE rfl ⟨_,rfl,((m.b 0 rfl).full Mk rT)⟩ ?_;try simp only[zD,zE]
 exact ⟨_,rfl,m.ext,rfl⟩
theorem xL {u v : P3} (hu : N3 u) (hv : N3 v) : eQ prog 300 [nv u,nv v] (nv (u.cross v)):=by
 intro w;refine ⟨ag2,?_⟩;have m:=Mem.refl w
 go_enter func300,ntmps300
 refine aD fun K1 k1=>wp_region_lit (cB m rfl ?_);clear m;intro g1 u m;simp only[zz];refine cB m rfl ?_;clear m;intro g2 u m;simp only[zz];refine bA m Af rfl ?_;clear m;intro g3 u m;refine aF (k1 _ _ ?_);refine aD fun K2 k2=>wp_region_lit ?_;simp only[zz];refine bA m Af rfl ?_;clear m;intro g4 u m;refine aF (k2 _ _ ?_);refine aD fun K3 k3=>aD fun K4 k4=>wp_region_lit (aA (aB) (aF (k4 _ _ ?_)));refine wp_block (wp_loop_rounds 4 (bU (aD fun K5 k5=>wp_region_lit (aA (bF (m:=0) (n:=3) rfl rfl (by decide)) (aF (k5 _ _ ?_))))));refine aD fun K6 k6=>bK rfl (wp_skip (k6 _ _ ?_));refine aD fun K7 k7=>wp_block (aD fun K8 k8=>wp_region_lit (aA (aB) ?_));simp only[zz];refine aA (aG) (aF (k8 _ _ ?_));refine aD fun K9 k9=>wp_region_lit (aA (aB) ?_);simp only[zz];refine dH m rfl rfl (ace) ?_;clear m;intro u m;refine aA (aB) (aA (bC rfl rfl) (aA (bC rfl rfl) ?_));simp only[zz];refine aA (aG) (aA (aG) (aF (k9 _ _ ?_)));simp only[zz];refine eA m 17 aM (by kernel_rfl) ?_;simp only[zy];refine aK (aB) (aK (aB) (aK (aH fY aO rfl rfl (by decide) (by decide) rfl) ?_));simp only[zz];refine ql rfl (fun u m=>((m.b 3 rfl).lies1 aX rfl)) ?_;simp only[zz];refine aK (aB) (aK (aH fY aO rfl rfl (by decide) (by decide) rfl) ?_);simp only[zz];refine ql rfl (fun u m=>((m.b 2 rfl).lies1 aX rfl)) ?_;simp only[zz];refine aK (qA rfl rfl (Kc (tR hu.y hv.z))) (aK (aB) (aK (aH fY aO rfl rfl (by decide) (by decide) rfl) ?_));simp only[zz];refine ql rfl (fun u m=>((m.b 3 rfl).lies1 aX rfl)) ?_;simp only[zz];refine aK (aB) (aK (aH fY aO rfl rfl (by decide) (by decide) rfl) ?_);simp only[zz];refine ql rfl (fun u m=>((m.b 2 rfl).lies1 aX rfl)) ?_;simp only[zz];refine aK (qA rfl rfl (Kc (tR hu.z hv.y))) (aK (oZ rfl rfl (afL (tR hu.y hv.z) (tR hu.z hv.y))) (aK (aH fY aO rfl rfl (by decide) (by decide) rfl) (bZ ?_)));clear m;intro u m;simp only[zz];refine cH m 0 rfl rfl rfl aO (cU rfl) ⟨rfl,rfl⟩ ?_;clear m;intro u m;simp only[zz,zy,zx,bB,Nat.reduceAdd] at m;refine aF (k7 _ _ ?_);refine wp_region_lit (aA (aU (m:=0) (n:=1) (r:=1) rfl rfl (by decide)) (aA (aB) (aF (aQ (aD fun K10 k10=>wp_region_lit (aA (bF (m:=1) (n:=3) rfl rfl (by decide)) (aF (k10 _ _ ?_))))))));refine aD fun K11 k11=>bK rfl (wp_skip (k11 _ _ ?_));refine aD fun K12 k12=>wp_block (aD fun K13 k13=>wp_region_lit (aA (aB) ?_));simp only[zz];refine aA (aG) (aF (k13 _ _ ?_));refine aD fun K14 k14=>wp_region_lit (aA (aB) ?_);simp only[zz];refine dH m rfl rfl (acf) ?_;clear m;intro u m;refine aA (aB) (aA (bC rfl rfl) (aA (bC rfl rfl) ?_));simp only[zz];refine aA (aG) (aA (aG) (aF (k14 _ _ ?_)));simp only[zz];refine eA m 17 aM (by kernel_rfl) ?_;simp only[zy];refine aK (aB) (aK (aB) (aK (aH fY aO rfl rfl (by decide) (by decide) rfl) ?_));simp only[zz];refine ql rfl (fun u m=>((m.b 3 rfl).lies1 aX rfl)) ?_;simp only[zz];refine aK (aB) (aK (aH fY aO rfl rfl (by decide) (by decide) rfl) ?_);simp only[zz];refine ql rfl (fun u m=>((m.b 2 rfl).lies1 aX rfl)) ?_;simp only[zz];refine aK (qA rfl rfl (Kc (tR hu.z hv.x))) (aK (aB) (aK (aH fY aO rfl rfl (by decide) (by decide) rfl) ?_));simp only[zz];refine ql rfl (fun u m=>((m.b 3 rfl).lies1 aX rfl)) ?_;simp only[zz];refine aK (aB) (aK (aH fY aO rfl rfl (by decide) (by decide) rfl) ?_);simp only[zz];refine ql rfl (fun u m=>((m.b 2 rfl).lies1 aX rfl)) ?_;simp only[zz];refine aK (qA rfl rfl (Kc (tR hu.x hv.z))) (aK (oZ rfl rfl (afL (tR hu.z hv.x) (tR hu.x hv.z))) (aK (aH fY aO rfl rfl (by decide) (by decide) rfl) (bZ ?_)));clear m;intro u m;simp only[zz];refine cH m 0 rfl rfl rfl aO (cU rfl) ⟨rfl,rfl⟩ ?_;clear m;intro u m;simp only[zz,zy,zx,bB,Nat.reduceAdd] at m;refine aF (k12 _ _ ?_);refine wp_region_lit (aA (aU (m:=1) (n:=1) (r:=2) rfl rfl (by decide)) (aA (aB) (aF (aQ (aD fun K15 k15=>wp_region_lit (aA (bF (m:=2) (n:=3) rfl rfl (by decide)) (aF (k15 _ _ ?_))))))));refine aD fun K16 k16=>bK rfl (wp_skip (k16 _ _ ?_));refine aD fun K17 k17=>wp_block (aD fun K18 k18=>wp_region_lit (aA (aB) ?_));simp only[zz];refine aA (aG) (aF (k18 _ _ ?_));refine aD fun K19 k19=>wp_region_lit (aA (aB) ?_);simp only[zz];refine dH m rfl rfl (acg) ?_;clear m;intro u m;refine aA (aB) (aA (bC rfl rfl) (aA (bC rfl rfl) ?_));simp only[zz];refine aA (aG) (aA (aG) (aF (k19 _ _ ?_)));simp only[zz];refine eA m 17 aM (by kernel_rfl) ?_;simp only[zy];refine aK (aB) (aK (aB) (aK (aH fY aO rfl rfl (by decide) (by decide) rfl) ?_));simp only[zz];refine ql rfl (fun u m=>((m.b 3 rfl).lies1 aX rfl)) ?_;simp only[zz];refine aK (aB) (aK (aH fY aO rfl rfl (by decide) (by decide) rfl) ?_);simp only[zz];refine ql rfl (fun u m=>((m.b 2 rfl).lies1 aX rfl)) ?_;simp only[zz];refine aK (qA rfl rfl (Kc (tR hu.x hv.y))) (aK (aB) (aK (aH fY aO rfl rfl (by decide) (by decide) rfl) ?_));simp only[zz];refine ql rfl (fun u m=>((m.b 3 rfl).lies1 aX rfl)) ?_;simp only[zz];refine aK (aB) (aK (aH fY aO rfl rfl (by decide) (by decide) rfl) ?_);simp only[zz];refine ql rfl (fun u m=>((m.b 2 rfl).lies1 aX rfl)) ?_;simp only[zz];refine aK (qA rfl rfl (Kc (tR hu.y hv.x))) (aK (oZ rfl rfl (afL (tR hu.x hv.y) (tR hu.y hv.x))) (aK (aH fY aO rfl rfl (by decide) (by decide) rfl) (bZ ?_)));clear m;intro u m;simp only[zz];refine cH m 0 rfl rfl rfl aO (cU rfl) ⟨rfl,rfl⟩ ?_;clear m;intro u m;simp only[zz,zy,zx,bB,Nat.reduceAdd] at m;refine aF (k17 _ _ ?_);refine wp_region_lit (aA (aU (m:=2) (n:=1) (r:=3) rfl rfl (by decide)) (aA (aB) (aF (aQ (aD fun K20 k20=>wp_region_lit (aA (dM (m:=3) (n:=3) rfl rfl (by decide)) (aF (k20 _ _ ?_))))))));refine aD fun K21 k21=>gA rfl (wp_exit (k3 _ _ ?_));refine aD fun K22 k22=>wp_region_lit ?_;simp only[zz];refine aJ rfl ((m.b 0 rfl).full Mk rT) ?_;simp only[zz];refine aT m 1 rfl rfl rfl rT (cU rfl) rfl ?_;clear m;intro u m;simp only[zy,zx,bB,zF,zG,Nat.reduceAdd] at m;refine aF (k22 _ _ ?_);refine wp_ret ?_;try simp only[Exit.inBlock,Exit.then,if_true]
 refine bE rfl ⟨_,rfl,((m.b 1 rfl).full Mk rT)⟩ ?_;try simp only[zD,zE]
 exact ⟨_,rfl,m.ext,rfl⟩
theorem Nl {n : Int} : eQ prog 301 [.int .i64 n] (.int .i64 (cA n)):=by
 intro w;refine ⟨ag3,?_⟩;have m:=Mem.refl w
 go_enter func301,ntmps301
 refine aD fun K1 k1=>wp_region_lit (aA (aG) (aF (k1 _ _ ?_)));refine aD fun K2 k2=>wp_block (aD fun K3 k3=>wp_region_lit (aA (aB) (aA (cW rfl rfl) (aA (aG) ?_))));simp only[zz];refine aF (k3 _ _ ?_);refine cG rfl (fun hc1=>?_) (fun hc1=>?_)
 ·
  refine aD fun K4 k4=>wp_region_lit (aA (aG) (aF (k4 _ _ ?_)));refine wp_ret ?_;simp only[zz];try simp only[Exit.inBlock,Exit.then,if_true]
  refine bE rfl rfl ?_;try simp only[zD,zE]
  exact ⟨_,rfl,m.ext,by rw [Jz (by assumption)]⟩
 ·
  refine aD fun K5 k5=>wp_region_lit (aA (aB) (aA (lD rfl rfl) (aA (aG) (aF (k5 _ _ ?_)))));simp only[zz];refine cG rfl (fun hc2=>?_) (fun hc2=>?_)
  ·
   refine aD fun K6 k6=>wp_region_lit (aA (aG) (aF (k6 _ _ ?_)));refine wp_ret ?_;simp only[zz];try simp only[Exit.inBlock,Exit.then,if_true]
   refine bE rfl rfl ?_;try simp only[zD,zE]
   exact ⟨_,rfl,m.ext,by rw [Ka (by assumption)]⟩
  ·
   refine wp_skip (k2 _ _ ?_);refine aD fun K7 k7=>wp_region_lit (aA (aG) (aF (k7 _ _ ?_)));refine wp_ret ?_;simp only[zz];try simp only[Exit.inBlock,Exit.then,if_true]
   refine bE rfl rfl ?_;try simp only[zD,zE]
   exact ⟨_,rfl,m.ext,by rw [show n = 0 by omega];rfl⟩
end Go.Proofs.YtfekpcimgncioaaGreatDoor
namespace Go.Proofs.YtfekpcimgncioaaGreatDoor
open Go.Proofs.Tryz
open Go.RowKit Go.Lith
set_option maxRecDepth 100000
attribute [local irreducible] wpList wpQuiet dB bL cE Code.wp
theorem Lb {a b c d : P3} [I3 a] [I3 b] [I3 c] [I3 d] {g0 : Nat} (w : World) (hB0 : fF w g0 [.int .i64 a.x,.int .i64 a.y,.int .i64 a.z,.int .i64 b.x,.int .i64 b.y,.int .i64 b.z,.int .i64 c.x,.int .i64 c.y,.int .i64 c.z,.int .i64 d.x,.int .i64 d.y,.int .i64 d.z] 30) : eG prog 298 [.slice (some ⟨g0,0,none⟩) 4 4] w (fun v _=>∃ bo : Bool,v = .bool bo ∧ (bo = true → S3 a ∧ S3 b ∧ S3 c ∧ S3 d)):=by
 refine ⟨ag0,?_⟩;have m:=Mem.refl w
 go_enter func298,ntmps298
 refine aD fun K1 k1=>wp_region_lit (aA (aG) (aF (k1 _ _ ?_)));refine aD fun K2 k2=>aD fun K3 k3=>wp_region_lit (aA (aB) (aA (bH rfl dS rfl) (aA (aB) ?_)));simp only[zz];refine aF (k3 _ _ ?_);refine wp_block (wp_loop_rounds 5 (bU (aD fun K4 k4=>wp_region_lit (aA (bF (m:=0) (n:=4) rfl rfl (by decide)) (aF (k4 _ _ ?_))))));refine aD fun K5 k5=>bK rfl (wp_skip (k5 _ _ ?_));refine aD fun K6 k6=>wp_block (aD fun K7 k7=>wp_region_lit (aA (aN dS aC rfl rfl (by decide) (by decide) rfl) ?_));simp only[zz];refine aJ rfl ((hB0.ext m.ext).lies aI aC rfl rfl) ?_;simp only[zz,zy,Nat.zero_add,Nat.reduceAdd,Nat.reduceMul,Int.reduceToNat];refine bA m bO rfl ?_;clear m;intro g1 u m;simp only[zz];refine aT m 0 rfl rfl rfl aC (cU rfl) rfl ?_;clear m;intro u m;simp only[zy,zx,bB,zF,zG,Nat.reduceAdd] at m;refine aF (k7 _ _ ?_);refine aD fun K8 k8=>wp_region_lit (aA (aL (c:=0) dL rfl aO rfl rfl) ?_);simp only[zz];refine aJ rfl ((m.b 0 rfl).lies1 aX rfl) ?_;simp only[zz];refine aA (aL (c:=0) dL rfl aO rfl rfl) ?_;simp only[zz];refine aJ rfl ((m.b 0 rfl).lies1 aX rfl) ?_;simp only[zz];refine aA (aL (c:=0) dL rfl aO rfl rfl) ?_;simp only[zz];refine aJ rfl ((m.b 0 rfl).lies1 aX rfl) ?_;simp only[zz];refine aA (dP rfl rfl rfl) (aA (aB) (aF (k8 _ _ ?_)));refine wp_block (wp_loop_rounds 4 (bU (aD fun K9 k9=>wp_region_lit (aA (bF (m:=0) (n:=3) rfl rfl (by decide)) (aF (k9 _ _ ?_))))));refine aD fun K10 k10=>bK rfl (wp_skip (k10 _ _ ?_));refine aD fun K11 k11=>wp_block (aD fun K12 k12=>wp_region_lit (aA (gN rfl rfl) ?_));simp only[zz];refine aA (aG) (aF (k12 _ _ ?_));refine aD fun K13 k13=>wp_region_lit (aA (aB) (aA (aB) (aA (nO rfl rfl) ?_)));simp only[zz];refine aA (jK rfl rfl rfl) (aA (eU gL gB rfl (tN Iw.h)) ?_);simp only[zz];refine eE m rfl rfl (kV (X:=(a.x).natAbs) _ (by have:=(Iw.h : tU a.x).natAbs;omega)) ?_;clear m;rintro v u m ⟨n,rfl,hn0,hn1,hax⟩;refine aA (lD rfl rfl) (aF (k13 _ _ ?_));simp only[zz];refine cG rfl (fun hc3=>?_) (fun hc3=>?_)
 ·
  refine aD fun K14 k14=>wp_region_lit (aA (aG) (aF (k14 _ _ ?_)));refine wp_ret ?_;simp only[zz];try simp only[Exit.inBlock,Exit.then,if_true]
  refine bE rfl rfl ?_;try simp only[zD,zE]
  exact ⟨_,rfl,m.ext,false,rfl,fun h=>by cases h⟩
 ·
  replace hax:=hax (by omega);clear hc3 hn0 hn1;refine wp_skip (k11 _ _ ?_);refine wp_region_lit (aA (aU (m:=0) (n:=1) (r:=1) rfl rfl (by decide)) (aA (aB) (aF (aQ (aD fun K15 k15=>wp_region_lit (aA (bF (m:=1) (n:=3) rfl rfl (by decide)) (aF (k15 _ _ ?_))))))));refine aD fun K16 k16=>bK rfl (wp_skip (k16 _ _ ?_));refine aD fun K17 k17=>wp_block (aD fun K18 k18=>wp_region_lit (aA (gP rfl rfl) ?_));simp only[zz];refine aA (aG) (aF (k18 _ _ ?_));refine aD fun K19 k19=>wp_region_lit (aA (aB) (aA (aB) (aA (nO rfl rfl) ?_)));simp only[zz];refine aA (jK rfl rfl rfl) (aA (eU gL gB rfl (tN Iw.h)) ?_);simp only[zz];refine eE m rfl rfl (kV (X:=(a.y).natAbs) _ (by have:=(Iw.h : tU a.y).natAbs;omega)) ?_;clear m;rintro v u m ⟨n,rfl,hn0,hn1,hay⟩;refine aA (lD rfl rfl) (aF (k19 _ _ ?_));simp only[zz];refine cG rfl (fun hc3=>?_) (fun hc3=>?_)
  ·
   refine aD fun K20 k20=>wp_region_lit (aA (aG) (aF (k20 _ _ ?_)));refine wp_ret ?_;simp only[zz];try simp only[Exit.inBlock,Exit.then,if_true]
   refine bE rfl rfl ?_;try simp only[zD,zE]
   exact ⟨_,rfl,m.ext,false,rfl,fun h=>by cases h⟩
  ·
   replace hay:=hay (by omega);clear hc3 hn0 hn1;refine wp_skip (k17 _ _ ?_);refine wp_region_lit (aA (aU (m:=1) (n:=1) (r:=2) rfl rfl (by decide)) (aA (aB) (aF (aQ (aD fun K21 k21=>wp_region_lit (aA (bF (m:=2) (n:=3) rfl rfl (by decide)) (aF (k21 _ _ ?_))))))));refine aD fun K22 k22=>bK rfl (wp_skip (k22 _ _ ?_));refine aD fun K23 k23=>wp_block (aD fun K24 k24=>wp_region_lit (aA (gQ rfl rfl) ?_));simp only[zz];refine aA (aG) (aF (k24 _ _ ?_));refine aD fun K25 k25=>wp_region_lit (aA (aB) (aA (aB) (aA (nO rfl rfl) ?_)));simp only[zz];refine aA (jK rfl rfl rfl) (aA (eU gL gB rfl (tN Iw.h)) ?_);simp only[zz];refine eE m rfl rfl (kV (X:=(a.z).natAbs) _ (by have:=(Iw.h : tU a.z).natAbs;omega)) ?_;clear m;rintro v u m ⟨n,rfl,hn0,hn1,haz⟩;refine aA (lD rfl rfl) (aF (k25 _ _ ?_));simp only[zz];refine cG rfl (fun hc3=>?_) (fun hc3=>?_)
   ·
    refine aD fun K26 k26=>wp_region_lit (aA (aG) (aF (k26 _ _ ?_)));refine wp_ret ?_;simp only[zz];try simp only[Exit.inBlock,Exit.then,if_true]
    refine bE rfl rfl ?_;try simp only[zD,zE]
    exact ⟨_,rfl,m.ext,false,rfl,fun h=>by cases h⟩
   ·
    replace haz:=haz (by omega);clear hc3 hn0 hn1;refine wp_skip (k23 _ _ ?_);refine wp_region_lit (aA (aU (m:=2) (n:=1) (r:=3) rfl rfl (by decide)) (aA (aB) (aF (aQ (aD fun K27 k27=>wp_region_lit (aA (dM (m:=3) (n:=3) rfl rfl (by decide)) (aF (k27 _ _ ?_))))))));refine aD fun K28 k28=>gA rfl (wp_exit (k6 _ _ ?_));refine wp_region_lit (aA (aU (m:=0) (n:=1) (r:=1) rfl rfl (by decide)) ?_);simp only[zz];refine aA (aB) (aF (aQ (aD fun K29 k29=>wp_region_lit (aA (bF (m:=1) (n:=4) rfl rfl (by decide)) (aF (k29 _ _ ?_))))));refine aD fun K30 k30=>bK rfl (wp_skip (k30 _ _ ?_));refine aD fun K31 k31=>wp_block (aD fun K32 k32=>wp_region_lit (aA (aN dS aC rfl rfl (by decide) (by decide) rfl) ?_));simp only[zz];refine aJ rfl ((hB0.ext m.ext).lies aI aC rfl rfl) ?_;simp only[zz,zy,Nat.zero_add,Nat.reduceAdd,Nat.reduceMul,Int.reduceToNat];refine bA m bO rfl ?_;clear m;intro g2 u m;simp only[zz];refine aT m 0 rfl rfl rfl aC (cU rfl) rfl ?_;clear m;intro u m;simp only[zy,zx,bB,zF,zG,Nat.reduceAdd] at m;refine aF (k32 _ _ ?_);refine aD fun K33 k33=>wp_region_lit (aA (aL (c:=0) dL rfl aO rfl rfl) ?_);simp only[zz];refine aJ rfl ((m.b 0 rfl).lies1 aX rfl) ?_;simp only[zz];refine aA (aL (c:=0) dL rfl aO rfl rfl) ?_;simp only[zz];refine aJ rfl ((m.b 0 rfl).lies1 aX rfl) ?_;simp only[zz];refine aA (aL (c:=0) dL rfl aO rfl rfl) ?_;simp only[zz];refine aJ rfl ((m.b 0 rfl).lies1 aX rfl) ?_;simp only[zz];refine aA (dP rfl rfl rfl) (aA (aB) (aF (k33 _ _ ?_)));refine wp_block (wp_loop_rounds 4 (bU (aD fun K34 k34=>wp_region_lit (aA (bF (m:=0) (n:=3) rfl rfl (by decide)) (aF (k34 _ _ ?_))))));refine aD fun K35 k35=>bK rfl (wp_skip (k35 _ _ ?_));refine aD fun K36 k36=>wp_block (aD fun K37 k37=>wp_region_lit (aA (gN rfl rfl) ?_));simp only[zz];refine aA (aG) (aF (k37 _ _ ?_));refine aD fun K38 k38=>wp_region_lit (aA (aB) (aA (aB) (aA (nO rfl rfl) ?_)));simp only[zz];refine aA (jK rfl rfl rfl) (aA (eU gL gB rfl (tN Iw.h)) ?_);simp only[zz];refine eE m rfl rfl (kV (X:=(b.x).natAbs) _ (by have:=(Iw.h : tU b.x).natAbs;omega)) ?_;clear m;rintro v u m ⟨n,rfl,hn0,hn1,hbx⟩;refine aA (lD rfl rfl) (aF (k38 _ _ ?_));simp only[zz];refine cG rfl (fun hc3=>?_) (fun hc3=>?_)
    ·
     refine aD fun K39 k39=>wp_region_lit (aA (aG) (aF (k39 _ _ ?_)));refine wp_ret ?_;simp only[zz];try simp only[Exit.inBlock,Exit.then,if_true]
     refine bE rfl rfl ?_;try simp only[zD,zE]
     exact ⟨_,rfl,m.ext,false,rfl,fun h=>by cases h⟩
    ·
     replace hbx:=hbx (by omega);clear hc3 hn0 hn1;refine wp_skip (k36 _ _ ?_);refine wp_region_lit (aA (aU (m:=0) (n:=1) (r:=1) rfl rfl (by decide)) (aA (aB) (aF (aQ (aD fun K40 k40=>wp_region_lit (aA (bF (m:=1) (n:=3) rfl rfl (by decide)) (aF (k40 _ _ ?_))))))));refine aD fun K41 k41=>bK rfl (wp_skip (k41 _ _ ?_));refine aD fun K42 k42=>wp_block (aD fun K43 k43=>wp_region_lit (aA (gP rfl rfl) ?_));simp only[zz];refine aA (aG) (aF (k43 _ _ ?_));refine aD fun K44 k44=>wp_region_lit (aA (aB) (aA (aB) (aA (nO rfl rfl) ?_)));simp only[zz];refine aA (jK rfl rfl rfl) (aA (eU gL gB rfl (tN Iw.h)) ?_);simp only[zz];refine eE m rfl rfl (kV (X:=(b.y).natAbs) _ (by have:=(Iw.h : tU b.y).natAbs;omega)) ?_;clear m;rintro v u m ⟨n,rfl,hn0,hn1,hby⟩;refine aA (lD rfl rfl) (aF (k44 _ _ ?_));simp only[zz];refine cG rfl (fun hc3=>?_) (fun hc3=>?_)
     ·
      refine aD fun K45 k45=>wp_region_lit (aA (aG) (aF (k45 _ _ ?_)));refine wp_ret ?_;simp only[zz];try simp only[Exit.inBlock,Exit.then,if_true]
      refine bE rfl rfl ?_;try simp only[zD,zE]
      exact ⟨_,rfl,m.ext,false,rfl,fun h=>by cases h⟩
     ·
      replace hby:=hby (by omega);clear hc3 hn0 hn1;refine wp_skip (k42 _ _ ?_);refine wp_region_lit (aA (aU (m:=1) (n:=1) (r:=2) rfl rfl (by decide)) (aA (aB) (aF (aQ (aD fun K46 k46=>wp_region_lit (aA (bF (m:=2) (n:=3) rfl rfl (by decide)) (aF (k46 _ _ ?_))))))));refine aD fun K47 k47=>bK rfl (wp_skip (k47 _ _ ?_));refine aD fun K48 k48=>wp_block (aD fun K49 k49=>wp_region_lit (aA (gQ rfl rfl) ?_));simp only[zz];refine aA (aG) (aF (k49 _ _ ?_));refine aD fun K50 k50=>wp_region_lit (aA (aB) (aA (aB) (aA (nO rfl rfl) ?_)));simp only[zz];refine aA (jK rfl rfl rfl) (aA (eU gL gB rfl (tN Iw.h)) ?_);simp only[zz];refine eE m rfl rfl (kV (X:=(b.z).natAbs) _ (by have:=(Iw.h : tU b.z).natAbs;omega)) ?_;clear m;rintro v u m ⟨n,rfl,hn0,hn1,hbz⟩;refine aA (lD rfl rfl) (aF (k50 _ _ ?_));simp only[zz];refine cG rfl (fun hc3=>?_) (fun hc3=>?_)
      ·
       refine aD fun K51 k51=>wp_region_lit (aA (aG) (aF (k51 _ _ ?_)));refine wp_ret ?_;simp only[zz];try simp only[Exit.inBlock,Exit.then,if_true]
       refine bE rfl rfl ?_;try simp only[zD,zE]
       exact ⟨_,rfl,m.ext,false,rfl,fun h=>by cases h⟩
      ·
       replace hbz:=hbz (by omega);clear hc3 hn0 hn1;refine wp_skip (k48 _ _ ?_);refine wp_region_lit (aA (aU (m:=2) (n:=1) (r:=3) rfl rfl (by decide)) (aA (aB) (aF (aQ (aD fun K52 k52=>wp_region_lit (aA (dM (m:=3) (n:=3) rfl rfl (by decide)) (aF (k52 _ _ ?_))))))));refine aD fun K53 k53=>gA rfl (wp_exit (k31 _ _ ?_));refine wp_region_lit (aA (aU (m:=1) (n:=1) (r:=2) rfl rfl (by decide)) ?_);simp only[zz];refine aA (aB) (aF (aQ (aD fun K54 k54=>wp_region_lit (aA (bF (m:=2) (n:=4) rfl rfl (by decide)) (aF (k54 _ _ ?_))))));refine aD fun K55 k55=>bK rfl (wp_skip (k55 _ _ ?_));refine aD fun K56 k56=>wp_block (aD fun K57 k57=>wp_region_lit (aA (aN dS aC rfl rfl (by decide) (by decide) rfl) ?_));simp only[zz];refine aJ rfl ((hB0.ext m.ext).lies aI aC rfl rfl) ?_;simp only[zz,zy,Nat.zero_add,Nat.reduceAdd,Nat.reduceMul,Int.reduceToNat];refine bA m bO rfl ?_;clear m;intro g3 u m;simp only[zz];refine aT m 0 rfl rfl rfl aC (cU rfl) rfl ?_;clear m;intro u m;simp only[zy,zx,bB,zF,zG,Nat.reduceAdd] at m;refine aF (k57 _ _ ?_);refine aD fun K58 k58=>wp_region_lit (aA (aL (c:=0) dL rfl aO rfl rfl) ?_);simp only[zz];refine aJ rfl ((m.b 0 rfl).lies1 aX rfl) ?_;simp only[zz];refine aA (aL (c:=0) dL rfl aO rfl rfl) ?_;simp only[zz];refine aJ rfl ((m.b 0 rfl).lies1 aX rfl) ?_;simp only[zz];refine aA (aL (c:=0) dL rfl aO rfl rfl) ?_;simp only[zz];refine aJ rfl ((m.b 0 rfl).lies1 aX rfl) ?_;simp only[zz];refine aA (dP rfl rfl rfl) (aA (aB) (aF (k58 _ _ ?_)));refine wp_block (wp_loop_rounds 4 (bU (aD fun K59 k59=>wp_region_lit (aA (bF (m:=0) (n:=3) rfl rfl (by decide)) (aF (k59 _ _ ?_))))));refine aD fun K60 k60=>bK rfl (wp_skip (k60 _ _ ?_));refine aD fun K61 k61=>wp_block (aD fun K62 k62=>wp_region_lit (aA (gN rfl rfl) ?_));simp only[zz];refine aA (aG) (aF (k62 _ _ ?_));refine aD fun K63 k63=>wp_region_lit (aA (aB) (aA (aB) (aA (nO rfl rfl) ?_)));simp only[zz];refine aA (jK rfl rfl rfl) (aA (eU gL gB rfl (tN Iw.h)) ?_);simp only[zz];refine eE m rfl rfl (kV (X:=(c.x).natAbs) _ (by have:=(Iw.h : tU c.x).natAbs;omega)) ?_;clear m;rintro v u m ⟨n,rfl,hn0,hn1,hcx⟩;refine aA (lD rfl rfl) (aF (k63 _ _ ?_));simp only[zz];refine cG rfl (fun hc3=>?_) (fun hc3=>?_)
       ·
        refine aD fun K64 k64=>wp_region_lit (aA (aG) (aF (k64 _ _ ?_)));refine wp_ret ?_;simp only[zz];try simp only[Exit.inBlock,Exit.then,if_true]
        refine bE rfl rfl ?_;try simp only[zD,zE]
        exact ⟨_,rfl,m.ext,false,rfl,fun h=>by cases h⟩
       ·
        replace hcx:=hcx (by omega);clear hc3 hn0 hn1;refine wp_skip (k61 _ _ ?_);refine wp_region_lit (aA (aU (m:=0) (n:=1) (r:=1) rfl rfl (by decide)) (aA (aB) (aF (aQ (aD fun K65 k65=>wp_region_lit (aA (bF (m:=1) (n:=3) rfl rfl (by decide)) (aF (k65 _ _ ?_))))))));refine aD fun K66 k66=>bK rfl (wp_skip (k66 _ _ ?_));refine aD fun K67 k67=>wp_block (aD fun K68 k68=>wp_region_lit (aA (gP rfl rfl) ?_));simp only[zz];refine aA (aG) (aF (k68 _ _ ?_));refine aD fun K69 k69=>wp_region_lit (aA (aB) (aA (aB) (aA (nO rfl rfl) ?_)));simp only[zz];refine aA (jK rfl rfl rfl) (aA (eU gL gB rfl (tN Iw.h)) ?_);simp only[zz];refine eE m rfl rfl (kV (X:=(c.y).natAbs) _ (by have:=(Iw.h : tU c.y).natAbs;omega)) ?_;clear m;rintro v u m ⟨n,rfl,hn0,hn1,hcy⟩;refine aA (lD rfl rfl) (aF (k69 _ _ ?_));simp only[zz];refine cG rfl (fun hc3=>?_) (fun hc3=>?_)
        ·
         refine aD fun K70 k70=>wp_region_lit (aA (aG) (aF (k70 _ _ ?_)));refine wp_ret ?_;simp only[zz];try simp only[Exit.inBlock,Exit.then,if_true]
         refine bE rfl rfl ?_;try simp only[zD,zE]
         exact ⟨_,rfl,m.ext,false,rfl,fun h=>by cases h⟩
        ·
         replace hcy:=hcy (by omega);clear hc3 hn0 hn1;refine wp_skip (k67 _ _ ?_);refine wp_region_lit (aA (aU (m:=1) (n:=1) (r:=2) rfl rfl (by decide)) (aA (aB) (aF (aQ (aD fun K71 k71=>wp_region_lit (aA (bF (m:=2) (n:=3) rfl rfl (by decide)) (aF (k71 _ _ ?_))))))));refine aD fun K72 k72=>bK rfl (wp_skip (k72 _ _ ?_));refine aD fun K73 k73=>wp_block (aD fun K74 k74=>wp_region_lit (aA (gQ rfl rfl) ?_));simp only[zz];refine aA (aG) (aF (k74 _ _ ?_));refine aD fun K75 k75=>wp_region_lit (aA (aB) (aA (aB) (aA (nO rfl rfl) ?_)));simp only[zz];refine aA (jK rfl rfl rfl) (aA (eU gL gB rfl (tN Iw.h)) ?_);simp only[zz];refine eE m rfl rfl (kV (X:=(c.z).natAbs) _ (by have:=(Iw.h : tU c.z).natAbs;omega)) ?_;clear m;rintro v u m ⟨n,rfl,hn0,hn1,hcz⟩;refine aA (lD rfl rfl) (aF (k75 _ _ ?_));simp only[zz];refine cG rfl (fun hc3=>?_) (fun hc3=>?_)
         ·
          refine aD fun K76 k76=>wp_region_lit (aA (aG) (aF (k76 _ _ ?_)));refine wp_ret ?_;simp only[zz];try simp only[Exit.inBlock,Exit.then,if_true]
          refine bE rfl rfl ?_;try simp only[zD,zE]
          exact ⟨_,rfl,m.ext,false,rfl,fun h=>by cases h⟩
         ·
          replace hcz:=hcz (by omega);clear hc3 hn0 hn1;refine wp_skip (k73 _ _ ?_);refine wp_region_lit (aA (aU (m:=2) (n:=1) (r:=3) rfl rfl (by decide)) (aA (aB) (aF (aQ (aD fun K77 k77=>wp_region_lit (aA (dM (m:=3) (n:=3) rfl rfl (by decide)) (aF (k77 _ _ ?_))))))));refine aD fun K78 k78=>gA rfl (wp_exit (k56 _ _ ?_));refine wp_region_lit (aA (aU (m:=2) (n:=1) (r:=3) rfl rfl (by decide)) ?_);simp only[zz];refine aA (aB) (aF (aQ (aD fun K79 k79=>wp_region_lit (aA (bF (m:=3) (n:=4) rfl rfl (by decide)) (aF (k79 _ _ ?_))))));refine aD fun K80 k80=>bK rfl (wp_skip (k80 _ _ ?_));refine aD fun K81 k81=>wp_block (aD fun K82 k82=>wp_region_lit (aA (aN dS aC rfl rfl (by decide) (by decide) rfl) ?_));simp only[zz];refine aJ rfl ((hB0.ext m.ext).lies aI aC rfl rfl) ?_;simp only[zz,zy,Nat.zero_add,Nat.reduceAdd,Nat.reduceMul,Int.reduceToNat];refine bA m bO rfl ?_;clear m;intro g4 u m;simp only[zz];refine aT m 0 rfl rfl rfl aC (cU rfl) rfl ?_;clear m;intro u m;simp only[zy,zx,bB,zF,zG,Nat.reduceAdd] at m;refine aF (k82 _ _ ?_);refine aD fun K83 k83=>wp_region_lit (aA (aL (c:=0) dL rfl aO rfl rfl) ?_);simp only[zz];refine aJ rfl ((m.b 0 rfl).lies1 aX rfl) ?_;simp only[zz];refine aA (aL (c:=0) dL rfl aO rfl rfl) ?_;simp only[zz];refine aJ rfl ((m.b 0 rfl).lies1 aX rfl) ?_;simp only[zz];refine aA (aL (c:=0) dL rfl aO rfl rfl) ?_;simp only[zz];refine aJ rfl ((m.b 0 rfl).lies1 aX rfl) ?_;simp only[zz];refine aA (dP rfl rfl rfl) (aA (aB) (aF (k83 _ _ ?_)));refine wp_block (wp_loop_rounds 4 (bU (aD fun K84 k84=>wp_region_lit (aA (bF (m:=0) (n:=3) rfl rfl (by decide)) (aF (k84 _ _ ?_))))));refine aD fun K85 k85=>bK rfl (wp_skip (k85 _ _ ?_));refine aD fun K86 k86=>wp_block (aD fun K87 k87=>wp_region_lit (aA (gN rfl rfl) ?_));simp only[zz];refine aA (aG) (aF (k87 _ _ ?_));refine aD fun K88 k88=>wp_region_lit (aA (aB) (aA (aB) (aA (nO rfl rfl) ?_)));simp only[zz];refine aA (jK rfl rfl rfl) (aA (eU gL gB rfl (tN Iw.h)) ?_);simp only[zz];refine eE m rfl rfl (kV (X:=(d.x).natAbs) _ (by have:=(Iw.h : tU d.x).natAbs;omega)) ?_;clear m;rintro v u m ⟨n,rfl,hn0,hn1,hdx⟩;refine aA (lD rfl rfl) (aF (k88 _ _ ?_));simp only[zz];refine cG rfl (fun hc3=>?_) (fun hc3=>?_)
          ·
           refine aD fun K89 k89=>wp_region_lit (aA (aG) (aF (k89 _ _ ?_)));refine wp_ret ?_;simp only[zz];try simp only[Exit.inBlock,Exit.then,if_true]
           refine bE rfl rfl ?_;try simp only[zD,zE]
           exact ⟨_,rfl,m.ext,false,rfl,fun h=>by cases h⟩
          ·
           replace hdx:=hdx (by omega);clear hc3 hn0 hn1;refine wp_skip (k86 _ _ ?_);refine wp_region_lit (aA (aU (m:=0) (n:=1) (r:=1) rfl rfl (by decide)) (aA (aB) (aF (aQ (aD fun K90 k90=>wp_region_lit (aA (bF (m:=1) (n:=3) rfl rfl (by decide)) (aF (k90 _ _ ?_))))))));refine aD fun K91 k91=>bK rfl (wp_skip (k91 _ _ ?_));refine aD fun K92 k92=>wp_block (aD fun K93 k93=>wp_region_lit (aA (gP rfl rfl) ?_));simp only[zz];refine aA (aG) (aF (k93 _ _ ?_));refine aD fun K94 k94=>wp_region_lit (aA (aB) (aA (aB) (aA (nO rfl rfl) ?_)));simp only[zz];refine aA (jK rfl rfl rfl) (aA (eU gL gB rfl (tN Iw.h)) ?_);simp only[zz];refine eE m rfl rfl (kV (X:=(d.y).natAbs) _ (by have:=(Iw.h : tU d.y).natAbs;omega)) ?_;clear m;rintro v u m ⟨n,rfl,hn0,hn1,hdy⟩;refine aA (lD rfl rfl) (aF (k94 _ _ ?_));simp only[zz];refine cG rfl (fun hc3=>?_) (fun hc3=>?_)
           ·
            refine aD fun K95 k95=>wp_region_lit (aA (aG) (aF (k95 _ _ ?_)));refine wp_ret ?_;simp only[zz];try simp only[Exit.inBlock,Exit.then,if_true]
            refine bE rfl rfl ?_;try simp only[zD,zE]
            exact ⟨_,rfl,m.ext,false,rfl,fun h=>by cases h⟩
           ·
            replace hdy:=hdy (by omega);clear hc3 hn0 hn1;refine wp_skip (k92 _ _ ?_);refine wp_region_lit (aA (aU (m:=1) (n:=1) (r:=2) rfl rfl (by decide)) (aA (aB) (aF (aQ (aD fun K96 k96=>wp_region_lit (aA (bF (m:=2) (n:=3) rfl rfl (by decide)) (aF (k96 _ _ ?_))))))));refine aD fun K97 k97=>bK rfl (wp_skip (k97 _ _ ?_));refine aD fun K98 k98=>wp_block (aD fun K99 k99=>wp_region_lit (aA (gQ rfl rfl) ?_));simp only[zz];refine aA (aG) (aF (k99 _ _ ?_));refine aD fun K100 k100=>wp_region_lit (aA (aB) (aA (aB) (aA (nO rfl rfl) ?_)));simp only[zz];refine aA (jK rfl rfl rfl) (aA (eU gL gB rfl (tN Iw.h)) ?_);simp only[zz];refine eE m rfl rfl (kV (X:=(d.z).natAbs) _ (by have:=(Iw.h : tU d.z).natAbs;omega)) ?_;clear m;rintro v u m ⟨n,rfl,hn0,hn1,hdz⟩;refine aA (lD rfl rfl) (aF (k100 _ _ ?_));simp only[zz];refine cG rfl (fun hc3=>?_) (fun hc3=>?_)
            ·
             refine aD fun K101 k101=>wp_region_lit (aA (aG) (aF (k101 _ _ ?_)));refine wp_ret ?_;simp only[zz];try simp only[Exit.inBlock,Exit.then,if_true]
             refine bE rfl rfl ?_;try simp only[zD,zE]
             exact ⟨_,rfl,m.ext,false,rfl,fun h=>by cases h⟩
            ·
             replace hdz:=hdz (by omega);clear hc3 hn0 hn1;refine wp_skip (k98 _ _ ?_);refine wp_region_lit (aA (aU (m:=2) (n:=1) (r:=3) rfl rfl (by decide)) (aA (aB) (aF (aQ (aD fun K102 k102=>wp_region_lit (aA (dM (m:=3) (n:=3) rfl rfl (by decide)) (aF (k102 _ _ ?_))))))));refine aD fun K103 k103=>gA rfl (wp_exit (k81 _ _ ?_));refine wp_region_lit (aA (aU (m:=3) (n:=1) (r:=4) rfl rfl (by decide)) ?_);simp only[zz];refine aA (aB) (aF (aQ (aD fun K104 k104=>wp_region_lit (aA (dM (m:=4) (n:=4) rfl rfl (by decide)) (aF (k104 _ _ ?_))))));refine aD fun K105 k105=>gA rfl (wp_exit (k2 _ _ ?_));refine aD fun K106 k106=>wp_region_lit (aA (aG) (aF (k106 _ _ ?_)));refine wp_ret ?_;simp only[zz];try simp only[Exit.inBlock,Exit.then,if_true]
             refine bE rfl rfl ?_;try simp only[zD,zE]
             exact ⟨_,rfl,m.ext,true,rfl,fun _=>⟨⟨hax,hay,haz⟩,⟨hbx,hby,hbz⟩,⟨hcx,hcy,hcz⟩,⟨hdx,hdy,hdz⟩⟩⟩
theorem mS {a b c d : P3} [I3 a] [I3 b] [I3 c] [I3 d] : eQ prog 238 [pt a,pt b,pt c,pt d] (sg ((b.sub a).cross (d.sub c))):=by
 intro w;refine ⟨agO,?_⟩;have m:=Mem.refl w
 go_enter func238,ntmps238
 refine aD fun K1 k1=>wp_region_lit (cB m rfl ?_);clear m;intro g1 u m;simp only[zz];refine cB m rfl ?_;clear m;intro g2 u m;simp only[zz];refine cB m rfl ?_;clear m;intro g3 u m;simp only[zz];refine cB m rfl ?_;clear m;intro g4 u m;simp only[zz];refine bA m zY rfl ?_;clear m;intro g5 u m;refine aF (k1 _ _ ?_);refine aD fun K2 k2=>wp_region_lit ?_;simp only[zz];refine bA m zY rfl ?_;clear m;intro g6 u m;refine aF (k2 _ _ ?_);refine aD fun K3 k3=>aD fun K4 k4=>wp_region_lit ?_;simp only[zz];refine aJ rfl ((m.b 5 rfl).full aI aC) ?_;simp only[zz];refine aJ rfl ((m.b 4 rfl).full aI aC) ?_;simp only[zz];refine aJ rfl ((m.b 3 rfl).full aI aC) ?_;simp only[zz];refine aJ rfl ((m.b 2 rfl).full aI aC) ?_;simp only[zz];refine Kk rfl rfl rfl rfl ?_;intro u g7 e hg hB;replace m:=m.newB e hg hB;clear e hg hB;simp only[zz];refine eE m rfl rfl (Lb _ (m.b 0 rfl)) ?_;clear m;rintro v u m ⟨bo,rfl,hsm⟩;refine aF (k4 _ _ ?_);simp only[zz];refine jO rfl (fun hc1=>?_) (fun hc1=>?_)
 ·
  obtain ⟨_,_,_,_⟩:=hsm hc1;refine aD fun K5 k5=>aD fun K6 k6=>mq m aM (by kernel_rfl) (ql rfl (fun u m=>((m.b 6 rfl).full aI aC)) ?_);simp only[zz];refine ql rfl (fun u m=>((m.b 5 rfl).full aI aC)) ?_;simp only[zz];refine gV rfl rfl (mA) ?_;simp only[zz];refine ql rfl (fun u m=>((m.b 4 rfl).full aI aC)) ?_;simp only[zz];refine ql rfl (fun u m=>((m.b 3 rfl).full aI aC)) ?_;simp only[zz];refine gV rfl rfl (mA) ?_;simp only[zz];refine gV rfl rfl (xL inferInstance inferInstance) (aK (aB) (bZ ?_));clear m;intro u m;refine k6 _ _ (wp_block (wp_loop_rounds 4 (bU (aD fun K7 k7=>wp_region_lit (aA (bF (m:=0) (n:=3) rfl rfl (by decide)) (aF (k7 _ _ ?_)))))));refine aD fun K8 k8=>bK rfl (wp_skip (k8 _ _ ?_));refine aD fun K9 k9=>wp_block (aD fun K10 k10=>wp_region_lit (aA (aB) ?_));simp only[zz];refine aA (Je rfl rfl) (aA (aG) (aA (aG) (aF (k10 _ _ ?_))));refine wp_region_lit (aA (aB) ?_);simp only[zz];refine aA (aB) ?_;simp only[zz];refine dH m rfl rfl (Nl) ?_;clear m;intro u m;refine aA (aH cP aO rfl rfl (by decide) (by decide) rfl) ?_;simp only[zz];refine cH m 1 rfl rfl rfl aO (cU rfl) ⟨rfl,rfl⟩ ?_;clear m;intro u m;simp only[zz,zy,zx,bB,Nat.reduceAdd] at m;refine aF (k9 _ _ ?_);refine wp_region_lit (aA (aU (m:=0) (n:=1) (r:=1) rfl rfl (by decide)) (aA (aB) (aF (aQ (aD fun K11 k11=>wp_region_lit (aA (bF (m:=1) (n:=3) rfl rfl (by decide)) (aF (k11 _ _ ?_))))))));refine aD fun K12 k12=>bK rfl (wp_skip (k12 _ _ ?_));refine aD fun K13 k13=>wp_block (aD fun K14 k14=>wp_region_lit (aA (aB) ?_));simp only[zz];refine aA (Jf rfl rfl) (aA (aG) (aA (aG) (aF (k14 _ _ ?_))));refine wp_region_lit (aA (aB) ?_);simp only[zz];refine aA (aB) ?_;simp only[zz];refine dH m rfl rfl (Nl) ?_;clear m;intro u m;refine aA (aH cP aO rfl rfl (by decide) (by decide) rfl) ?_;simp only[zz];refine cH m 1 rfl rfl rfl aO (cU rfl) ⟨rfl,rfl⟩ ?_;clear m;intro u m;simp only[zz,zy,zx,bB,Nat.reduceAdd] at m;refine aF (k13 _ _ ?_);refine wp_region_lit (aA (aU (m:=1) (n:=1) (r:=2) rfl rfl (by decide)) (aA (aB) (aF (aQ (aD fun K15 k15=>wp_region_lit (aA (bF (m:=2) (n:=3) rfl rfl (by decide)) (aF (k15 _ _ ?_))))))));refine aD fun K16 k16=>bK rfl (wp_skip (k16 _ _ ?_));refine aD fun K17 k17=>wp_block (aD fun K18 k18=>wp_region_lit (aA (aB) ?_));simp only[zz];refine aA (Jg rfl rfl) (aA (aG) (aA (aG) (aF (k18 _ _ ?_))));refine wp_region_lit (aA (aB) ?_);simp only[zz];refine aA (aB) ?_;simp only[zz];refine dH m rfl rfl (Nl) ?_;clear m;intro u m;refine aA (aH cP aO rfl rfl (by decide) (by decide) rfl) ?_;simp only[zz];refine cH m 1 rfl rfl rfl aO (cU rfl) ⟨rfl,rfl⟩ ?_;clear m;intro u m;simp only[zz,zy,zx,bB,Nat.reduceAdd] at m;refine aF (k17 _ _ ?_);refine wp_region_lit (aA (aU (m:=2) (n:=1) (r:=3) rfl rfl (by decide)) (aA (aB) (aF (aQ (aD fun K19 k19=>wp_region_lit (aA (dM (m:=3) (n:=3) rfl rfl (by decide)) (aF (k19 _ _ ?_))))))));refine aD fun K20 k20=>gA rfl (wp_exit (k5 _ _ ?_));refine aD fun K21 k21=>wp_region_lit ?_;simp only[zz];refine aJ rfl ((m.b 1 rfl).full Ch bV) ?_;simp only[zz];refine aT m 2 rfl rfl rfl bV (cU rfl) rfl ?_;clear m;intro u m;simp only[zy,zx,bB,zF,zG,Nat.reduceAdd] at m;refine aF (k21 _ _ ?_);refine wp_ret ?_;try simp only[Exit.inBlock,Exit.then,if_true]
  refine bE rfl ⟨_,rfl,((m.b 2 rfl).full Ch bV)⟩ ?_;try simp only[zD,zE]
  exact ⟨_,rfl,m.ext,rfl⟩
 ·
  refine wp_skip (k3 _ _ ?_);refine aD fun K22 k22=>aD fun K23 k23=>mq m aM (by kernel_rfl) (ql rfl (fun u m=>((m.b 6 rfl).full aI aC)) ?_);simp only[zz];refine ql rfl (fun u m=>((m.b 5 rfl).full aI aC)) ?_;simp only[zz];refine gV rfl rfl (jU) ?_;simp only[zz];refine ql rfl (fun u m=>((m.b 4 rfl).full aI aC)) ?_;simp only[zz];refine ql rfl (fun u m=>((m.b 3 rfl).full aI aC)) ?_;simp only[zz];refine gV rfl rfl (jU) ?_;simp only[zz];refine gV rfl rfl (tC Bv.of Bv.of) (aK (aB) (bZ ?_));clear m;intro u m;refine k23 _ _ (wp_block (wp_loop_rounds 4 (bU (aD fun K24 k24=>wp_region_lit (aA (bF (m:=0) (n:=3) rfl rfl (by decide)) (aF (k24 _ _ ?_)))))));refine aD fun K25 k25=>bK rfl (wp_skip (k25 _ _ ?_));refine aD fun K26 k26=>wp_block (aD fun K27 k27=>wp_region_lit (aA (aB) ?_));simp only[zz];refine aA (Iy rfl rfl) ?_;simp only[zz];refine bA m gM rfl ?_;clear m;intro g8 u m;refine aA (aG) ?_;simp only[zz];refine aT m 0 rfl rfl rfl aP (cU rfl) rfl ?_;clear m;intro u m;simp only[zy,zx,bB,zF,zG,Nat.reduceAdd] at m;refine aF (k27 _ _ ?_);refine wp_region_lit (aA (aB) ?_);simp only[zz];refine aJ rfl ((m.b 0 rfl).full bN aP) ?_;simp only[zz];refine dH m rfl rfl (Db Bw.up) ?_;clear m;intro u m;refine aA (aH cP aO rfl rfl (by decide) (by decide) rfl) ?_;simp only[zz];refine cH m 2 rfl rfl rfl aO (cU rfl) ⟨rfl,rfl⟩ ?_;clear m;intro u m;simp only[zz,zy,zx,bB,Nat.reduceAdd] at m;refine aF (k26 _ _ ?_);refine wp_region_lit (aA (aU (m:=0) (n:=1) (r:=1) rfl rfl (by decide)) (aA (aB) (aF (aQ (aD fun K28 k28=>wp_region_lit (aA (bF (m:=1) (n:=3) rfl rfl (by decide)) (aF (k28 _ _ ?_))))))));refine aD fun K29 k29=>bK rfl (wp_skip (k29 _ _ ?_));refine aD fun K30 k30=>wp_block (aD fun K31 k31=>wp_region_lit (aA (aB) ?_));simp only[zz];refine aA (Iz rfl rfl) ?_;simp only[zz];refine bA m gM rfl ?_;clear m;intro g9 u m;refine aA (aG) ?_;simp only[zz];refine aT m 0 rfl rfl rfl aP (cU rfl) rfl ?_;clear m;intro u m;simp only[zy,zx,bB,zF,zG,Nat.reduceAdd] at m;refine aF (k31 _ _ ?_);refine wp_region_lit (aA (aB) ?_);simp only[zz];refine aJ rfl ((m.b 0 rfl).full bN aP) ?_;simp only[zz];refine dH m rfl rfl (Db Bw.up) ?_;clear m;intro u m;refine aA (aH cP aO rfl rfl (by decide) (by decide) rfl) ?_;simp only[zz];refine cH m 3 rfl rfl rfl aO (cU rfl) ⟨rfl,rfl⟩ ?_;clear m;intro u m;simp only[zz,zy,zx,bB,Nat.reduceAdd] at m;refine aF (k30 _ _ ?_);refine wp_region_lit (aA (aU (m:=1) (n:=1) (r:=2) rfl rfl (by decide)) (aA (aB) (aF (aQ (aD fun K32 k32=>wp_region_lit (aA (bF (m:=2) (n:=3) rfl rfl (by decide)) (aF (k32 _ _ ?_))))))));refine aD fun K33 k33=>bK rfl (wp_skip (k33 _ _ ?_));refine aD fun K34 k34=>wp_block (aD fun K35 k35=>wp_region_lit (aA (aB) ?_));simp only[zz];refine aA (Ja rfl rfl) ?_;simp only[zz];refine bA m gM rfl ?_;clear m;intro g10 u m;refine aA (aG) ?_;simp only[zz];refine aT m 0 rfl rfl rfl aP (cU rfl) rfl ?_;clear m;intro u m;simp only[zy,zx,bB,zF,zG,Nat.reduceAdd] at m;refine aF (k35 _ _ ?_);refine wp_region_lit (aA (aB) ?_);simp only[zz];refine aJ rfl ((m.b 0 rfl).full bN aP) ?_;simp only[zz];refine dH m rfl rfl (Db Bw.up) ?_;clear m;intro u m;refine aA (aH cP aO rfl rfl (by decide) (by decide) rfl) ?_;simp only[zz];refine cH m 4 rfl rfl rfl aO (cU rfl) ⟨rfl,rfl⟩ ?_;clear m;intro u m;simp only[zz,zy,zx,bB,Nat.reduceAdd] at m;refine aF (k34 _ _ ?_);refine wp_region_lit (aA (aU (m:=2) (n:=1) (r:=3) rfl rfl (by decide)) (aA (aB) (aF (aQ (aD fun K36 k36=>wp_region_lit (aA (dM (m:=3) (n:=3) rfl rfl (by decide)) (aF (k36 _ _ ?_))))))));refine aD fun K37 k37=>gA rfl (wp_exit (k22 _ _ ?_));refine aD fun K38 k38=>wp_region_lit ?_;simp only[zz];refine aJ rfl ((m.b 4 rfl).full Ch bV) ?_;simp only[zz];refine aT m 5 rfl rfl rfl bV (cU rfl) rfl ?_;clear m;intro u m;simp only[zy,zx,bB,zF,zG,Nat.reduceAdd] at m;refine aF (k38 _ _ ?_);refine wp_ret ?_;try simp only[Exit.inBlock,Exit.then,if_true]
  refine bE rfl ⟨_,rfl,((m.b 5 rfl).full Ch bV)⟩ ?_;try simp only[zD,zE]
  exact ⟨_,rfl,m.ext,rfl⟩
theorem Nm {t : T3} [IT t] : eQ prog 171 [tr t] (.bool (decide (cA t.normal.x = 0 ∧ cA t.normal.y = 0 ∧ cA t.normal.z = 0))):=by
 intro w;refine ⟨agp,?_⟩;have m:=Mem.refl w
 go_enter func171,ntmps171
 refine aD fun K1 k1=>wp_region_lit (cB m rfl ?_);clear m;intro g1 u m;refine aA (aG) (aF (k1 _ _ ?_));refine aD fun K2 k2=>wp_region_lit (aA (aH bD aC rfl rfl (by decide) (by decide) rfl) ?_);simp only[zz];refine aJ rfl ((m.b 0 rfl).lies aI aC rfl rfl) ?_;simp only[zz,zy,Nat.zero_add,Nat.reduceAdd,Nat.reduceMul,Int.reduceToNat];refine aA (aH bD aC rfl rfl (by decide) (by decide) rfl) ?_;simp only[zz];refine aJ rfl ((m.b 0 rfl).lies aI aC rfl rfl) ?_;simp only[zz,zy,Nat.zero_add,Nat.reduceAdd,Nat.reduceMul,Int.reduceToNat];refine aA (aH bD aC rfl rfl (by decide) (by decide) rfl) ?_;simp only[zz];refine aJ rfl ((m.b 0 rfl).lies aI aC rfl rfl) ?_;simp only[zz,zy,Nat.zero_add,Nat.reduceAdd,Nat.reduceMul,Int.reduceToNat];refine aA (aH bD aC rfl rfl (by decide) (by decide) rfl) ?_;simp only[zz];refine aJ rfl ((m.b 0 rfl).lies aI aC rfl rfl) ?_;simp only[zz,zy,Nat.zero_add,Nat.reduceAdd,Nat.reduceMul,Int.reduceToNat];refine dH m rfl rfl (mS (a:=t.a) (b:=t.b) (c:=t.a) (d:=t.c)) ?_;clear m;intro u m;refine aA (Pk) (aA (Kj rfl rfl) (aA (aG) ?_));simp only[zz];refine aF (k2 _ _ ?_);refine wp_ret ?_;try simp only[Exit.inBlock,Exit.then,if_true]
 refine bE rfl rfl ?_;try simp only[zD,zE]
 exact ⟨_,rfl,m.ext,rfl⟩
end Go.Proofs.YtfekpcimgncioaaGreatDoor
namespace Go.Proofs.YtfekpcimgncioaaGreatDoor
open Go.Proofs.Tryz
open Go.RowKit Go.Lith
set_option maxRecDepth 100000
attribute [local irreducible] wpList wpQuiet dB bL cE Code.wp
theorem ach {t r : T3} [IT t] [IT r] : eQ prog 172 [tr t,tr r] (.int .i64 (abG t r)):=by
 intro w;refine ⟨agq,?_⟩;have m:=Mem.refl w
 go_enter func172,ntmps172
 refine aD fun K1 k1=>wp_region_lit (cB m rfl ?_);clear m;intro g1 u m;simp only[zz];refine cB m rfl ?_;clear m;intro g2 u m;refine aA (aG) (aF (k1 _ _ ?_));try clear k1 K1
 refine aD fun K2 k2=>?_;simp only[zz];refine mq m aM (by kernel_rfl) (ql rfl (fun u m=>((m.b 1 rfl).full bR aR)) ?_);simp only[zz];refine gV rfl rfl (Hr) ?_;simp only[zz];refine ql rfl (fun u m=>((m.b 0 rfl).full bR aR)) ?_;simp only[zz];refine gV rfl rfl (Hr) ?_;simp only[zz];refine gV rfl rfl (Ed Bv.of Bv.of) ?_;simp only[zz];refine gV rfl rfl (Db Bw.up) (aK (aG) (bZ ?_));clear m;intro u m;refine k2 _ _ ?_;try clear k2 K2
 refine wp_ret ?_;simp only[zz];try simp only[Exit.inBlock,Exit.then,if_true]
 refine bE rfl rfl ?_;try simp only[zD,zE]
 exact ⟨_,rfl,m.ext,rfl⟩
theorem Ut {t r : T3} {k : Nat} (hk : k < 3) (h : xZ t k < xY r k) : Ea t r = false:=by
 unfold Ea Zl
 match k,hk with
 | 0,_=>simp [h]
 | 1,_=>simp [h]
 | 2,_=>simp [h]
theorem Uu {t r : T3} {k : Nat} (hk : k < 3) (h : xZ r k < xY t k) : Ea t r = false:=by
 unfold Ea Zl
 match k,hk with
 | 0,_=>simp [h]
 | 1,_=>simp [h]
 | 2,_=>simp [h]
theorem ahT {t r : T3} (h0 : ¬ xZ t 0 < xY r 0) (h1 : ¬ xZ t 1 < xY r 1) (h2 : ¬ xZ t 2 < xY r 2) (g0 : ¬ xZ r 0 < xY t 0) (g1 : ¬ xZ r 1 < xY t 1) (g2 : ¬ xZ r 2 < xY t 2) : Ea t r = true:=by
 unfold Ea Zl;simp [h0,h1,h2,g0,g1,g2]
theorem ahU {t r : T3} : eQ prog 175 [.agg #[.int .i64 (xY t 0),.int .i64 (xY t 1),.int .i64 (xY t 2),.int .i64 (xZ t 0),.int .i64 (xZ t 1),.int .i64 (xZ t 2)],.agg #[.int .i64 (xY r 0),.int .i64 (xY r 1),.int .i64 (xY r 2),.int .i64 (xZ r 0),.int .i64 (xZ r 1),.int .i64 (xZ r 2)]] (.bool (Ea t r)):=by
 intro w;refine ⟨agt,?_⟩;have m:=Mem.refl w
 go_enter func175,ntmps175
 refine aD fun K1 k1=>wp_region_lit (cB m rfl ?_);clear m;intro g1 u m;simp only[zz];refine cB m rfl ?_;clear m;intro g2 u m;refine aA (aG) (aF (k1 _ _ ?_));try clear k1 K1
 refine aD fun K2 k2=>aD fun K3 k3=>wp_region_lit (aA (aB) (aF (k3 _ _ ?_)));try clear k3 K3
 refine wp_block (wp_loop_rounds 4 (bU (aD fun K4 k4=>wp_region_lit (aA (bF (m:=0) (n:=3) rfl rfl (by decide)) ?_))));simp only[zz];refine aF (k4 _ _ ?_);try clear k4 K4
 refine aD fun K5 k5=>bK rfl (wp_skip (k5 _ _ ?_));try clear k5 K5
 refine aD fun K6 k6=>wp_block (aD fun K7 k7=>wp_region_lit (aA (aB) (aA (aG) (aF (k7 _ _ ?_)))));try clear k7 K7
 refine aD fun K8 k8=>?_;simp only[zz];by_cases h0 : xZ t 0 < xY r 0
 · skip
   refine mq m aM (by kernel_rfl) (aK (aB) (aK (aL (c:=2) dR rfl bV rfl rfl) (aK (aH cP aO rfl rfl (by decide) (by decide) rfl) ?_)));simp only[zz];refine ql rfl (fun u m=>((m.b 1 rfl).lies1 aX rfl)) ?_;simp only[zz];refine aK (aB) (aK (aL (c:=2) dR rfl bV rfl rfl) (aK (aH cP aO rfl rfl (by decide) (by decide) rfl) ?_));simp only[zz];refine ql rfl (fun u m=>((m.b 0 rfl).lies1 aX rfl)) ?_;simp only[zz];refine aK (bF rfl rfl (h0)) (aK (aB) (eH rfl (eH rfl ?_)));simp only[zz];refine eH rfl (eH rfl (eH rfl (eH rfl ?_)));simp only[zz];refine eH rfl (eH rfl (eH rfl (aK (eK rfl) ?_)));simp only[zz];refine bZ ?_;clear m;intro u m;refine k8 _ _ ?_;try clear k8 K8
   refine bK rfl (aD fun K9 k9=>wp_region_lit (aA (aG) (aF (k9 _ _ ?_))));try clear k9 K9
   refine wp_ret ?_;simp only[zz];try simp only[Exit.inBlock,Exit.then,if_true]
   refine bE rfl rfl ?_;try simp only[zD,zE]
   exact ⟨_,rfl,m.ext,by rw [Ut (k:=0) (by decide) h0]⟩
 · skip
   refine mq m aM (by kernel_rfl) (aK (aB) (aK (aL (c:=2) dR rfl bV rfl rfl) (aK (aH cP aO rfl rfl (by decide) (by decide) rfl) ?_)));simp only[zz];refine ql rfl (fun u m=>((m.b 1 rfl).lies1 aX rfl)) ?_;simp only[zz];refine aK (aB) (aK (aL (c:=2) dR rfl bV rfl rfl) (aK (aH cP aO rfl rfl (by decide) (by decide) rfl) ?_));simp only[zz];refine ql rfl (fun u m=>((m.b 0 rfl).lies1 aX rfl)) ?_;simp only[zz];refine aK (dM rfl rfl (h0)) (aK (aB) (eF rfl (aK (aB) (eF rfl (aK (aL (c:=2) dR rfl bV rfl rfl) ?_)))));simp only[zz];refine eF rfl (aK (aH cP aO rfl rfl (by decide) (by decide) rfl) (eF rfl ?_));simp only[zz];refine ql rfl (fun u m=>((m.b 0 rfl).lies1 aX rfl)) ?_;simp only[zz];refine eF rfl (aK (aB) (eF rfl (aK (aL (c:=2) dR rfl bV rfl rfl) (eF rfl (aK (aH cP aO rfl rfl (by decide) (by decide) rfl) (eF rfl ?_))))));simp only[zz];refine ql rfl (fun u m=>((m.b 1 rfl).lies1 aX rfl)) ?_;simp only[zz];refine eF rfl (aK (cW rfl rfl) (aK (iB rfl) (bZ ?_)));clear m;intro u m;refine k8 _ _ ?_;try clear k8 K8
   simp only[zz];refine cG rfl (fun hc2=>?_) (fun hc2=>?_)
   · skip
     have q0:=hc2;refine aD fun K10 k10=>wp_region_lit (aA (aG) (aF (k10 _ _ ?_)));try clear k10 K10
     refine wp_ret ?_;simp only[zz];try simp only[Exit.inBlock,Exit.then,if_true]
     refine bE rfl rfl ?_;try simp only[zD,zE]
     exact ⟨_,rfl,m.ext,by rw [Uu (k:=0) (by decide) q0]⟩
   · skip
     have q0:=hc2;refine wp_skip (k6 _ _ ?_);try clear k6 K6
     refine wp_region_lit (aA (aU (m:=0) (n:=1) (r:=1) rfl rfl (by decide)) (aA (aB) (aF (aQ (aD fun K11 k11=>wp_region_lit (aA (bF (m:=1) (n:=3) rfl rfl (by decide)) (aF (k11 _ _ ?_))))))));try clear k11 K11
     refine aD fun K12 k12=>bK rfl (wp_skip (k12 _ _ ?_));try clear k12 K12
     refine aD fun K13 k13=>wp_block (aD fun K14 k14=>wp_region_lit (aA (aB) ?_));simp only[zz];refine aA (aG) (aF (k14 _ _ ?_));try clear k14 K14
     refine aD fun K15 k15=>?_;simp only[zz];by_cases h1 : xZ t 1 < xY r 1
     · skip
       refine mq m aM (by kernel_rfl) (aK (aB) (aK (aL (c:=2) dR rfl bV rfl rfl) (aK (aH cP aO rfl rfl (by decide) (by decide) rfl) ?_)));simp only[zz];refine ql rfl (fun u m=>((m.b 1 rfl).lies1 aX rfl)) ?_;simp only[zz];refine aK (aB) (aK (aL (c:=2) dR rfl bV rfl rfl) (aK (aH cP aO rfl rfl (by decide) (by decide) rfl) ?_));simp only[zz];refine ql rfl (fun u m=>((m.b 0 rfl).lies1 aX rfl)) ?_;simp only[zz];refine aK (bF rfl rfl (h1)) (aK (aB) (eH rfl (eH rfl ?_)));simp only[zz];refine eH rfl (eH rfl (eH rfl (eH rfl ?_)));simp only[zz];refine eH rfl (eH rfl (eH rfl (aK (eK rfl) ?_)));simp only[zz];refine bZ ?_;clear m;intro u m;refine k15 _ _ ?_;try clear k15 K15
       refine bK rfl (aD fun K16 k16=>wp_region_lit (aA (aG) (aF (k16 _ _ ?_))));try clear k16 K16
       refine wp_ret ?_;simp only[zz];try simp only[Exit.inBlock,Exit.then,if_true]
       refine bE rfl rfl ?_;try simp only[zD,zE]
       exact ⟨_,rfl,m.ext,by rw [Ut (k:=1) (by decide) h1]⟩
     · skip
       refine mq m aM (by kernel_rfl) (aK (aB) (aK (aL (c:=2) dR rfl bV rfl rfl) (aK (aH cP aO rfl rfl (by decide) (by decide) rfl) ?_)));simp only[zz];refine ql rfl (fun u m=>((m.b 1 rfl).lies1 aX rfl)) ?_;simp only[zz];refine aK (aB) (aK (aL (c:=2) dR rfl bV rfl rfl) (aK (aH cP aO rfl rfl (by decide) (by decide) rfl) ?_));simp only[zz];refine ql rfl (fun u m=>((m.b 0 rfl).lies1 aX rfl)) ?_;simp only[zz];refine aK (dM rfl rfl (h1)) (aK (aB) (eF rfl (aK (aB) (eF rfl (aK (aL (c:=2) dR rfl bV rfl rfl) ?_)))));simp only[zz];refine eF rfl (aK (aH cP aO rfl rfl (by decide) (by decide) rfl) (eF rfl ?_));simp only[zz];refine ql rfl (fun u m=>((m.b 0 rfl).lies1 aX rfl)) ?_;simp only[zz];refine eF rfl (aK (aB) (eF rfl (aK (aL (c:=2) dR rfl bV rfl rfl) (eF rfl (aK (aH cP aO rfl rfl (by decide) (by decide) rfl) (eF rfl ?_))))));simp only[zz];refine ql rfl (fun u m=>((m.b 1 rfl).lies1 aX rfl)) ?_;simp only[zz];refine eF rfl (aK (cW rfl rfl) (aK (iB rfl) (bZ ?_)));clear m;intro u m;refine k15 _ _ ?_;try clear k15 K15
       simp only[zz];refine cG rfl (fun hc2=>?_) (fun hc2=>?_)
       · skip
         have q1:=hc2;refine aD fun K17 k17=>wp_region_lit (aA (aG) (aF (k17 _ _ ?_)));try clear k17 K17
         refine wp_ret ?_;simp only[zz];try simp only[Exit.inBlock,Exit.then,if_true]
         refine bE rfl rfl ?_;try simp only[zD,zE]
         exact ⟨_,rfl,m.ext,by rw [Uu (k:=1) (by decide) q1]⟩
       · skip
         have q1:=hc2;refine wp_skip (k13 _ _ ?_);try clear k13 K13
         refine wp_region_lit (aA (aU (m:=1) (n:=1) (r:=2) rfl rfl (by decide)) (aA (aB) (aF (aQ (aD fun K18 k18=>wp_region_lit (aA (bF (m:=2) (n:=3) rfl rfl (by decide)) (aF (k18 _ _ ?_))))))));try clear k18 K18
         refine aD fun K19 k19=>bK rfl (wp_skip (k19 _ _ ?_));try clear k19 K19
         refine aD fun K20 k20=>wp_block (aD fun K21 k21=>wp_region_lit (aA (aB) ?_));simp only[zz];refine aA (aG) (aF (k21 _ _ ?_));try clear k21 K21
         refine aD fun K22 k22=>?_;simp only[zz];by_cases h2 : xZ t 2 < xY r 2
         · skip
           refine mq m aM (by kernel_rfl) (aK (aB) (aK (aL (c:=2) dR rfl bV rfl rfl) (aK (aH cP aO rfl rfl (by decide) (by decide) rfl) ?_)));simp only[zz];refine ql rfl (fun u m=>((m.b 1 rfl).lies1 aX rfl)) ?_;simp only[zz];refine aK (aB) (aK (aL (c:=2) dR rfl bV rfl rfl) (aK (aH cP aO rfl rfl (by decide) (by decide) rfl) ?_));simp only[zz];refine ql rfl (fun u m=>((m.b 0 rfl).lies1 aX rfl)) ?_;simp only[zz];refine aK (bF rfl rfl (h2)) (aK (aB) (eH rfl (eH rfl ?_)));simp only[zz];refine eH rfl (eH rfl (eH rfl (eH rfl ?_)));simp only[zz];refine eH rfl (eH rfl (eH rfl (aK (eK rfl) ?_)));simp only[zz];refine bZ ?_;clear m;intro u m;refine k22 _ _ ?_;try clear k22 K22
           refine bK rfl (aD fun K23 k23=>wp_region_lit (aA (aG) (aF (k23 _ _ ?_))));try clear k23 K23
           refine wp_ret ?_;simp only[zz];try simp only[Exit.inBlock,Exit.then,if_true]
           refine bE rfl rfl ?_;try simp only[zD,zE]
           exact ⟨_,rfl,m.ext,by rw [Ut (k:=2) (by decide) h2]⟩
         · skip
           refine mq m aM (by kernel_rfl) (aK (aB) (aK (aL (c:=2) dR rfl bV rfl rfl) (aK (aH cP aO rfl rfl (by decide) (by decide) rfl) ?_)));simp only[zz];refine ql rfl (fun u m=>((m.b 1 rfl).lies1 aX rfl)) ?_;simp only[zz];refine aK (aB) (aK (aL (c:=2) dR rfl bV rfl rfl) (aK (aH cP aO rfl rfl (by decide) (by decide) rfl) ?_));simp only[zz];refine ql rfl (fun u m=>((m.b 0 rfl).lies1 aX rfl)) ?_;simp only[zz];refine aK (dM rfl rfl (h2)) (aK (aB) (eF rfl (aK (aB) (eF rfl (aK (aL (c:=2) dR rfl bV rfl rfl) ?_)))));simp only[zz];refine eF rfl (aK (aH cP aO rfl rfl (by decide) (by decide) rfl) (eF rfl ?_));simp only[zz];refine ql rfl (fun u m=>((m.b 0 rfl).lies1 aX rfl)) ?_;simp only[zz];refine eF rfl (aK (aB) (eF rfl (aK (aL (c:=2) dR rfl bV rfl rfl) (eF rfl (aK (aH cP aO rfl rfl (by decide) (by decide) rfl) (eF rfl ?_))))));simp only[zz];refine ql rfl (fun u m=>((m.b 1 rfl).lies1 aX rfl)) ?_;simp only[zz];refine eF rfl (aK (cW rfl rfl) (aK (iB rfl) (bZ ?_)));clear m;intro u m;refine k22 _ _ ?_;try clear k22 K22
           simp only[zz];refine cG rfl (fun hc2=>?_) (fun hc2=>?_)
           · skip
             have q2:=hc2;refine aD fun K24 k24=>wp_region_lit (aA (aG) (aF (k24 _ _ ?_)));try clear k24 K24
             refine wp_ret ?_;simp only[zz];try simp only[Exit.inBlock,Exit.then,if_true]
             refine bE rfl rfl ?_;try simp only[zD,zE]
             exact ⟨_,rfl,m.ext,by rw [Uu (k:=2) (by decide) q2]⟩
           · skip
             have q2:=hc2;refine wp_skip (k20 _ _ ?_);try clear k20 K20
             refine wp_region_lit (aA (aU (m:=2) (n:=1) (r:=3) rfl rfl (by decide)) (aA (aB) (aF (aQ (aD fun K25 k25=>wp_region_lit (aA (dM (m:=3) (n:=3) rfl rfl (by decide)) (aF (k25 _ _ ?_))))))));try clear k25 K25
             refine aD fun K26 k26=>gA rfl (wp_exit (k2 _ _ ?_));try clear k2 K2
             refine aD fun K27 k27=>wp_region_lit (aA (aG) ?_);simp only[zz];refine aF (k27 _ _ ?_);try clear k27 K27
             refine wp_ret ?_;try simp only[Exit.inBlock,Exit.then,if_true]
             refine bE rfl rfl ?_;try simp only[zD,zE]
             exact ⟨_,rfl,m.ext,by rw [ahT h0 h1 h2 q0 q1 q2]⟩
end Go.Proofs.YtfekpcimgncioaaGreatDoor
namespace Go.Lith
open Go.RowKit
section
variable {P : Program} {l : List Value} {T ty : TypeId} {x y : Operand} {k : IntKind} {m : Int}
theorem aci {n c : Nat} {E : TypeId} {a : Addr} (hu : P.underlying T = some (.array n E)) (hc : dG P E c) (hx : ev l x = .pointer (some a)) :
 fC P l (.slice T x none none none) ty (.slice (some a) n n):=fun w o ho _=>by
 have e : (if n = 0 then a else a.add (0 * c)) = a:=by
  split
  · rfl
  · simp [Addr.add]
 simp [execOp,ho,cM,hx,Instr.sliceAt,Instr.sliceBounds,Instr.sliceBound,asIntOf,run_underlying hu,dQ hc,Instr.sureAddr,e];intro _;simp [Addr.add]
theorem Uv {n c q : Nat} {E : TypeId} {a a' : Addr} (hu : P.underlying T = some (.array n E)) (hc : dG P E c) (hx : ev l x = .pointer (some a)) (hy : ev l y = .int k m) (hq : m.toNat = q) (h0 : 0 ≤ m) (h1 : m ≤ n) (hA : (if n = q then a else a.add (q * c)) = a') :
 fC P l (.slice T x (some y) none none) ty (.slice (some a') (n - q) (n - q)):=fun w o ho _=>by
 subst hq;subst hA;simp [execOp,ho,cM,hx,hy,Instr.sliceAt,Instr.sliceBounds,Instr.sliceBound,asIntOf,run_underlying hu,dQ hc,Instr.sureAddr,h0,h1]
theorem aac {n len cap : Nat} {E : TypeId} {A : Option Addr} (hu : P.underlying T = some (.array n E)) (hx : ev l x = .slice A len cap) (h : n ≤ len) :
 fC P l (.sliceToArrayPointer T x) ty (.pointer A):=fun w o ho _=>by
 have : ¬ len < n:=by omega
 simp [execOp,ho,cM,hx,Instr.arrayAt,run_underlying hu,this]
end
end Go.Lith
