/-
 Texts of one claim, laid together: Wide1, Wide2, Wide3, Wide4, Wide5, Back, Wide7, Wide8, Wide9, Wide10, W6, Pack.
-/
import Derived.RangeFuncNested
import Derived.RangeFuncBound
import Derived.RangeFuncCalls
import Derived.RangeFuncBox
import Derived.RangeFuncLeaves
import Derived.Shelf.Abstract
import Derived.Shelf.RegionOpen
import Derived.WalkKit
import Derived.OwnWalkIn
import Derived.TacticsInMore
import Derived.LoopNIn
import Derived.LoopIn
import Derived.Maps.AppendAt
import Derived.Test.YtfohfflkhpfjeaaGreatDoorF4
set_option maxHeartbeats 8000000
set_option linter.unusedSimpArgs false
set_option linter.unusedVariables false
set_option linter.unusedSectionVars false
namespace Go.Proofs.YtfohfflkhpfjeaaGreatDoor
open Go.Proofs.Tryz
open Go.RowKit Go.Lith
abbrev aW:=@underlying157
set_option maxRecDepth 100000
attribute [local irreducible] wpList wpQuiet dC Code.wp
theorem pY {A : Option Addr} {xs : List Nat} {na cap : Nat} (w : World) (hS : cQ w A na cap xs) : eI prog 132 [.slice A na cap] w (fun v _=>v = .slice A (trim xs).length cap):=by
 skip
 refine ⟨adK,?_⟩;have hX:=dD.refl w;obtain rfl:=hS.eq;have hl:=hS.len;have hle:=hS.le
 go_enter func132,ntmps132
 refine aD (fun K1 hK1=>wp_region_lit (aA (aF) ?_));simp only[zz];refine aG (hK1 _ _ ?_);refine aD (fun K2 hK2=>wp_block ?_);refine bM [0] [3,4,5,6,7,8,9,10,11,12,13,14,15,16,17,18,19] (fun n vs wl=>∃ (k : Nat),vs = [.slice A k cap] ∧ (dD w wl) ∧ (k ≤ xs.length) ∧ (trim (xs.take k) = trim xs) ∧ (n = k)) ?_ ?_
 ·
  apply Exists.intro;simp only[zQ,zR,zD,zE];exact ⟨xs.length,rfl,hX,Nat.le_refl _,by rw [List.take_length],rfl⟩
 ·
  intro n vs wr hI u;obtain ⟨k,rfl,hX,hk,ht,hn⟩:=hI;simp only[zu,zF,zG];refine aD (fun K3 hK3=>aD (fun K4 hK4=>?_));by_cases hk0 : 0 < k
  ·
   obtain ⟨a,rfl,hcell,hlt⟩:=(hS.ext hX).get (show k - 1 < xs.length by omega);refine wp_region_lit (aA (aB) (aA (bF rfl aW rfl) (aA (Co rfl rfl (by omega)) ?_)));simp only[zz];refine aA (aB) ?_;simp only[zz];refine bU rfl (aA (aB) ?_);simp only[zz];refine bU rfl (aA (aB) ?_);simp only[zz];refine bU rfl (aA (bF rfl aW rfl) ?_);simp only[zz];refine bU rfl (aA (gL rfl rfl (aN (by omega) (by omega))) ?_);simp only[zz];refine bU rfl (aA (aM aW aV rfl rfl (by omega) (by omega) (lT (show _ = k - 1 by omega))) ?_);simp only[zz];refine bU rfl (aJ rfl (lies1 hcell eC) ?_);simp only[zz];refine bU rfl (aA (vJ rfl rfl) (aA (gA rfl) ?_));simp only[zz];refine aG (hK4 _ _ ?_);refine cO rfl (fun hc1=>?_) (fun hc1=>?_)
   ·
    refine wp_skip ?_;refine hK3 _ _ (wp_block (wp_region_lit (aA (aB) (aA (aB) (aA (bF rfl aW rfl) ?_)))));simp only[zz];refine aA (gL rfl rfl (aN (by omega) (by omega))) (aA (lC aW aV rfl rfl (show _ = k - 1 by omega) (by omega) (by omega)) (aA (aF) ?_));simp only[zz];refine aG ?_;simp only[Exit.inBlock,Exit.then];refine ⟨k - 1,_,?_,rfl,?_,?_⟩
    · omega
    · simp only[zz,zv]
    ·
     simp only[zQ,zR,zD,zE];exact ⟨k - 1,rfl,hX,by omega,Tu hk0 (by omega) hc1 ht,rfl⟩
   ·
    refine wp_exit ?_;refine hK2 _ _ (aD (fun K5 hK5=>wp_region_lit (aA (aB) (aA (aF) ?_))));simp only[zz];refine aG (hK5 _ _ ?_);refine wp_ret ?_;try simp only[Exit.inBlock,Exit.then]
    refine bS rfl rfl ?_;try simp only[zD,zE]
    exact ⟨_,rfl,hX,by rw [← Xg hk0 (by omega) hc1 ht]⟩
  ·
   obtain rfl : k = 0:=by omega
   refine wp_region_lit (aA (aB) (aA (bF rfl aW rfl) (aA (yP rfl rfl (by omega)) ?_)));simp only[zz];refine aA (aB) ?_;simp only[zz];refine cU rfl ?_;simp only[zz];refine cU rfl ?_;simp only[zz];refine cU rfl ?_;simp only[zz];refine cU rfl ?_;simp only[zz];refine cU rfl ?_;simp only[zz];refine cU rfl ?_;simp only[zz];refine cU rfl ?_;simp only[zz];refine aA (iT rfl) ?_;simp only[zz];refine aG (hK4 _ _ ?_);refine jM rfl (wp_exit ?_);refine hK2 _ _ (aD (fun K6 hK6=>wp_region_lit (aA (aB) (aA (aF) ?_))));simp only[zz];refine aG (hK6 _ _ ?_);refine wp_ret ?_;try simp only[Exit.inBlock,Exit.then]
   refine bS rfl rfl ?_;try simp only[zD,zE]
   exact ⟨_,rfl,hX,by rw [← Xh ht]⟩
theorem Sk {A B : Option Addr} {xs ys : List Nat} {na nb ca cb : Nat} (w : World) (hS : cQ w A na ca xs) (hR : cQ w B nb cb ys) (tx : fN xs) (ty : fN ys) : eI prog 118 [.slice A na ca,.slice B nb cb] w (fun v _=>v = .int .i64 (Xi (val 4294967296 xs) (val 4294967296 ys))):=by
 skip
 refine ⟨adB,?_⟩;have hX:=dD.refl w;obtain rfl:=hS.eq;obtain rfl:=hR.eq;have hl:=hS.len;have hl2:=hR.len
 go_enter func118,ntmps118
 refine aD (fun K1 hK1=>wp_region_lit (aA (aF) ?_));simp only[zz];refine aG (hK1 _ _ ?_);refine aD (fun K2 hK2=>wp_block (aD (fun K3 hK3=>wp_region_lit (aA (aB) (aA (bF rfl aW rfl) (aA (aB) ?_))))));simp only[zz];refine aA (bF rfl aW rfl) (aA (cJ rfl rfl) (aA (aF) ?_));simp only[zz];refine aG (hK3 _ _ ?_);refine cO rfl (fun hc1=>?_) (fun hc1=>?_)
 ·
  refine aD (fun K4 hK4=>wp_region_lit (aA (aF) ?_));simp only[zz];refine aG (hK4 _ _ ?_);refine wp_ret ?_;try simp only[Exit.inBlock,Exit.then]
  refine bS rfl rfl ?_;try simp only[zD,zE]
  exact ⟨_,rfl,hX,by rw [Xi,if_pos (mH (by omega) hS.digs hR.digs ty (by omega))]⟩
 ·
  refine aD (fun K5 hK5=>wp_region_lit (aA (aB) (aA (bF rfl aW rfl) (aA (aB) ?_))));simp only[zz];refine aA (bF rfl aW rfl) (aA (sU rfl rfl) (aA (aF) ?_));simp only[zz];refine aG (hK5 _ _ ?_);refine cO rfl (fun hc2=>?_) (fun hc2=>?_)
  ·
   refine aD (fun K6 hK6=>wp_region_lit (aA (aF) ?_));simp only[zz];refine aG (hK6 _ _ ?_);refine wp_ret ?_;try simp only[Exit.inBlock,Exit.then]
   refine bS rfl rfl ?_;try simp only[zD,zE]
   exact ⟨_,rfl,hX,by have:=mH (B:=4294967296) (by omega) hR.digs hS.digs tx (by omega);rw [Xi,if_neg (by omega),if_pos this]⟩
  ·
   refine wp_skip ?_;refine hK2 _ _ (aD (fun K7 hK7=>aD (fun K8 hK8=>wp_region_lit (aA (aB) (aA (bF rfl aW rfl) (aA (gL rfl rfl (aN (by omega) (by omega))) ?_))))));simp only[zz];refine aA (aF) ?_;simp only[zz];refine aG (hK8 _ _ ?_);refine wp_block (bM [5] [4,21,22,23,24,25,26,27,28,29,30,31,32,33,34,35,36,37,38,39,40,41,42,43,44] (fun n vs wl=>∃ (k : Nat),vs = [.int .i64 ((k:Int) - 1)] ∧ (dD w wl) ∧ (k ≤ xs.length) ∧ (xs.drop k = ys.drop k) ∧ (n = k)) ?_ ?_)
   ·
    apply Exists.intro;simp only[zQ,zR,zD,zE];exact ⟨xs.length,rfl,hX,Nat.le_refl _,by rw [List.drop_length,show xs.length = ys.length by omega,List.drop_length],rfl⟩
   ·
    intro n vs wr hI u;obtain ⟨k,rfl,hX,hk,hd,hn⟩:=hI;simp only[zu,zF,zG];refine aD (fun K9 hK9=>aD (fun K10 hK10=>wp_region_lit (aA (aB) (aA (vI rfl rfl) ?_))));simp only[zz];refine aG (hK10 _ _ ?_);refine cO rfl (fun hc3=>?_) (fun hc3=>?_)
    ·
     refine wp_skip ?_;refine hK9 _ _ (aD (fun K11 hK11=>wp_block (wp_block (aD (fun K12 hK12=>?_)))));obtain ⟨a,rfl,hca,_⟩:=(hS.ext hX).get (show k - 1 < xs.length by omega);obtain ⟨b,rfl,hcb,_⟩:=(hR.ext hX).get (show k - 1 < ys.length by omega);refine kC aO (by kernel_rfl) (aL (aB) (aL (aB) (aL (aM aW aV rfl rfl (by omega) (by omega) (lT (show _ = k - 1 by omega))) ?_)));simp only[zz];refine lQ rfl (fun _ hE'=>(lies1 (hE'.cell hca) eC)) ?_;simp only[zz];refine aL (aB) (aL (aB) (aL (aM aW aV rfl rfl (by omega) (by omega) (lT (show _ = k - 1 by omega))) ?_));simp only[zz];refine lQ rfl (fun _ hE'=>(lies1 (hE'.cell hcb) eC)) ?_;simp only[zz];refine aL (cJ rfl rfl) (aL (aF) ?_);simp only[zz];refine dF ?_;intro w1 hE;replace hX:=hX.trans hE;clear hE;refine hK12 _ _ (cO rfl (fun hc4=>?_) (fun hc4=>?_))
     ·
      refine aD (fun K13 hK13=>wp_region_lit (aA (aF) ?_));simp only[zz];refine aG (hK13 _ _ ?_);refine wp_ret ?_;try simp only[Exit.inBlock,Exit.then]
      refine bS rfl rfl ?_;try simp only[zD,zE]
      exact ⟨_,rfl,hX,by rw [Xi,if_pos (Xj hS.digs (by omega) (by omega) (by omega) hd hc4)]⟩
     ·
      refine aD (fun K14 hK14=>?_);have hca:=(hS.ext hX).at (show k - 1 < xs.length by omega);have hcb:=(hR.ext hX).at (show k - 1 < ys.length by omega);refine kC aO (by kernel_rfl) (aL (aB) (aL (aB) (aL (aM aW aV rfl rfl (by omega) (by omega) (lT (show _ = k - 1 by omega))) ?_)));simp only[zz];refine lQ rfl (fun _ hE'=>(lies1 (hE'.cell hca) eC)) ?_;simp only[zz];refine aL (aB) (aL (aB) (aL (aM aW aV rfl rfl (by omega) (by omega) (lT (show _ = k - 1 by omega))) ?_));simp only[zz];refine lQ rfl (fun _ hE'=>(lies1 (hE'.cell hcb) eC)) ?_;simp only[zz];refine aL (sU rfl rfl) (aL (aF) ?_);simp only[zz];refine dF ?_;intro w2 hE;replace hX:=hX.trans hE;clear hE;refine hK14 _ _ (cO rfl (fun hc5=>?_) (fun hc5=>?_))
      ·
       refine aD (fun K15 hK15=>wp_region_lit (aA (aF) ?_));simp only[zz];refine aG (hK15 _ _ ?_);refine wp_ret ?_;try simp only[Exit.inBlock,Exit.then]
       refine bS rfl rfl ?_;try simp only[zD,zE]
       exact ⟨_,rfl,hX,by have:=Xj hR.digs (by omega) (by omega) (by omega) hd.symm hc5;rw [Xi,if_neg (by omega),if_pos this]⟩
      ·
       refine wp_skip ?_;refine hK11 _ _ (wp_region_lit (aA (aB) (aA (gL rfl rfl (aN (by omega) (by omega))) (aA (aF) ?_))));simp only[zz];refine aG ?_;rw [show ((k:Int) - 1 - 1) = ((k - 1 : Nat) : Int) - 1 by omega];simp only[Exit.inBlock,Exit.then];refine ⟨k - 1,_,?_,rfl,?_,?_⟩
       · omega
       · simp only[zz,zv]
       ·
        simp only[zQ,zR,zD,zE];exact ⟨k - 1,rfl,hX,by omega,Tv (by omega) (by omega) (by omega) hd hc4 hc5,rfl⟩
    ·
     refine wp_exit ?_;refine hK7 _ _ (aD (fun K16 hK16=>wp_region_lit (aA (aF) ?_)));simp only[zz];refine aG (hK16 _ _ ?_);refine wp_ret ?_;try simp only[Exit.inBlock,Exit.then]
     refine bS rfl rfl ?_;try simp only[zD,zE]
     exact ⟨_,rfl,hX,by have h0 : k = 0:=(by omega);subst h0;simp only[List.drop_zero] at hd;rw [hd,Xi,if_neg (by omega),if_neg (by omega)]⟩
theorem acL {A B : Option Addr} {xs ys : List Nat} {na nb ca cb : Nat} (w : World) (hS : cQ w A na ca xs) (hR : cQ w B nb cb ys) (hlx : xs.length ≤ 1099511627776) (hly : ys.length ≤ 1099511627776) : eI prog 116 [.slice A na ca,.slice B nb cb] w (fI (val 4294967296 xs + val 4294967296 ys)):=by
 skip
 refine ⟨adz,?_⟩;have hX:=dD.refl w;obtain rfl:=hS.eq;obtain rfl:=hR.eq
 go_enter func116,ntmps116
 refine aD (fun K1 hK1=>wp_region_lit (aA (aF) ?_));simp only[zz];refine aG (hK1 _ _ ?_);refine aD (fun K2 hK2=>aD (fun K3 hK3=>wp_region_lit (aA (aB) (aA (bF rfl aW rfl) (aA (aB) ?_)))));simp only[zz];refine aA (bF rfl aW rfl) (aA (cJ rfl rfl) ?_);simp only[zz];refine aG (hK3 _ _ ?_);refine cO rfl (fun hc1=>?_) (fun hc1=>?_)
 ·
  obtain ⟨qb,rfl⟩ : ∃ q,q = xs:=⟨_,rfl⟩
  obtain ⟨qa,rfl⟩ : ∃ q,q = ys:=⟨_,rfl⟩
  obtain ⟨Qb,rfl⟩ : ∃ q,q = A:=⟨_,rfl⟩
  obtain ⟨Qa,rfl⟩ : ∃ q,q = B:=⟨_,rfl⟩
  have hSa:=hR;have hSb:=hS;refine wp_region_lit (aA (aB) (aA (aB) (aA (aF) ?_)));simp only[zz];refine aA (aF) ?_;simp only[zz];refine aG (hK2 _ _ ?_);refine aD (fun K4 hK4=>wp_region_lit (aA (aB) (aA (bF rfl aW rfl) (aA (aQ rfl rfl (aN (by omega) (by omega))) ?_))));simp only[zz];refine lR aW kT rfl rfl rfl (show _ = qa.length + 1 by omega) (show _ = qa.length + 1 by omega) (by omega) (by omega) (by omega) (by omega) ?_;intro w1 g1 hE hg1 hB1;have hG1:=Nat.le_trans hX.size hg1;replace hX:=hX.trans hE;clear hE hg1;simp only[zz];refine aA (aF) ?_;simp only[zz];refine aG ?_;rw [fC] at hB1;refine hK4 _ _ (aD (fun K5 hK5=>wp_region_lit (aA (aF) ?_)));simp only[zz];refine aG (hK5 _ _ ?_);refine aD (fun K6 hK6=>aD (fun K7 hK7=>wp_region_lit (aA (aB) (aA (bF rfl aW rfl) (aA (aB) ?_)))));simp only[zz];refine aG (hK7 _ _ ?_);refine wp_block (bM [6,22] [7,8,23,24,25,26,27,28,29,30,31,32,33,34,35,36,37,38,39,40,41,42,43,44,45,46,47,48] (fun n vs wl=>∃ (i c : Nat) (os : List Nat),vs = [.int .u64 (c:Int),.int .i64 (i:Int)] ∧ (dD w wl) ∧ (fX wl g1 (os.map jF) 126) ∧ (i ≤ qa.length) ∧ (os.length = qa.length + 1) ∧ (val 4294967296 os + 4294967296 ^ i * c = val 4294967296 (qa.take i) + val 4294967296 (qb.take i)) ∧ (os.drop i = List.replicate (qa.length + 1 - i) 0) ∧ (dB 4294967296 os) ∧ (c ≤ 1) ∧ (n = qa.length - i)) ?_ ?_)
  ·
   apply Exists.intro;simp only[zQ,zR,zD,zE];exact ⟨0,0,List.replicate (qa.length + 1) 0,rfl,hX,hB1,by omega,by simp,by simp [eO,val],by simp,fun x hx=>by rw [List.eq_of_mem_replicate hx];decide,by omega,rfl⟩
  ·
   intro n vs wr hI u;obtain ⟨i,c,os,rfl,hX,hB1,hi,hlo,hv,hz,hd,hc,hn⟩:=hI;simp only[zu,zF,zG];refine aD (fun K8 hK8=>wp_region_lit (aA (cJ rfl rfl) ?_));simp only[zz];refine aG (hK8 _ _ ?_);refine aD (fun K9 hK9=>?_);refine cO rfl (fun hc2=>?_) (fun hc2=>?_)
   ·
    refine wp_skip ?_;refine hK9 _ _ (aD (fun K10 hK10=>wp_block (aD (fun K11 hK11=>wp_region_lit (aA (aB) (aA (aF) ?_))))));simp only[zz];refine aG (hK11 _ _ ?_);refine aD (fun K12 hK12=>?_);obtain ⟨a,rfl,hca,hla⟩:=(hSa.ext hX).get (show i < qa.length by omega);refine wp_region_lit (aA (aB) (aA (aB) (aA (aM aW aV rfl rfl (by omega) (by omega) (lT (Int.toNat_natCast _))) ?_)));simp only[zz];refine aJ rfl (lies1 hca eC) ?_;simp only[zz];refine aA (aB) (aA (aQ rfl rfl (eM (by omega) (by omega))) (aA (aF) ?_));simp only[zz];refine aG (hK12 _ _ ?_);refine aD (fun K13 hK13=>aD (fun K14 hK14=>wp_region_lit (aA (aB) (aA (aB) (aA (bF rfl aW rfl) ?_)))));simp only[zz];refine aA (cJ rfl rfl) ?_;simp only[zz];refine aG (hK14 _ _ ?_);refine cO rfl (fun hc3=>?_) (fun hc3=>?_)
    ·
     obtain ⟨b,rfl,hcb,hlb⟩:=(hSb.ext hX).get (show i < qb.length by omega);refine wp_region_lit (aA (aB) (aA (aB) (aA (aB) ?_)));simp only[zz];refine aA (aM aW aV rfl rfl (by omega) (by omega) (lT (Int.toNat_natCast _))) ?_;simp only[zz];refine aJ rfl (lies1 hcb eC) ?_;simp only[zz];refine aA (aQ rfl rfl (eM (by omega) (by omega))) (aA (aF) ?_);simp only[zz];refine aG ?_;obtain ⟨s,hs⟩ : ∃ s : Nat,(s : Int) = ↑qa[i] + ↑c + ↑qb[i]:=⟨qa[i] + c + qb[i],by omega⟩
     rw [← hs];have hs2 : s = qa[i] + c + qb[i]?.getD 0:=by rw [List.getElem?_eq_getElem (by omega)];simp;omega
     have hyb : qb[i]?.getD 0 < 4294967296:=by rw [List.getElem?_eq_getElem (by omega)];exact hlb
     refine hK13 _ _ ?_;refine wp_region_lit (aA (aB) (aA (aB) (aA (aB) ?_)));simp only[zz];refine aA (qC rfl rfl (mX (by omega) (by omega))) (aA (aB) (aA (pE rfl rfl (by omega) (Gn (by omega))) ?_));simp only[zz];refine aA (aM aW aV rfl rfl (by omega) (by omega) (fA (Int.toNat_natCast _))) ?_;simp only[zz];refine dL rfl (by simp only[zz];rfl) (by exact aV) hB1 (by simp;omega) (by simp [Value.oneCell']) ?_;clear hB1;intro w2 hC hB1;replace hX:=hX.chg hC hG1;clear hC;rw [show ((s:Int) % 4294967296) = ((s % 4294967296 : Nat) : Int) by omega,eX (by omega)] at hB1;refine aA (aF) ?_;simp only[zz];refine aG (hK10 _ _ ?_);refine wp_region_lit (aA (aQ rfl rfl (aN (by omega) (by omega))) (aA (aB) ?_));simp only[zz];refine aG ?_;obtain ⟨r1,r2,r3,r4⟩:=uO (by omega) hlo hv hz hd hc hs2 hla hyb;rw [show ((i:Int) + 1) = ((i + 1 : Nat) : Int) by omega,show ((s:Int) / 4294967296) = ((s / 4294967296 : Nat) : Int) by omega];simp only[Exit.inBlock,Exit.then];refine ⟨qa.length - (i + 1),_,?_,rfl,?_,?_⟩
     · omega
     · simp only[zz,zv]
     ·
      simp only[zQ,zR,zD,zE];exact ⟨i + 1,s / 4294967296,os.set i (s % 4294967296),rfl,hX,hB1,by omega,by simpa using hlo,r1,r2,r3,r4,rfl⟩
    ·
     obtain ⟨s,hs⟩ : ∃ s : Nat,(s : Int) = ↑qa[i] + ↑c:=⟨qa[i] + c,by omega⟩
     rw [← hs];have hs2 : s = qa[i] + c + qb[i]?.getD 0:=by rw [List.getElem?_eq_none (by omega)];simp;omega
     have hyb : qb[i]?.getD 0 < 4294967296:=by rw [List.getElem?_eq_none (by omega)];decide
     refine wp_skip ?_;refine hK13 _ _ (wp_region_lit (aA (aB) (aA (aB) (aA (aB) ?_))));simp only[zz];refine aA (qC rfl rfl (mX (by omega) (by omega))) (aA (aB) (aA (pE rfl rfl (by omega) (Gn (by omega))) ?_));simp only[zz];refine aA (aM aW aV rfl rfl (by omega) (by omega) (fA (Int.toNat_natCast _))) ?_;simp only[zz];refine dL rfl (by simp only[zz];rfl) (by exact aV) hB1 (by simp;omega) (by simp [Value.oneCell']) ?_;clear hB1;intro w2 hC hB1;replace hX:=hX.chg hC hG1;clear hC;rw [show ((s:Int) % 4294967296) = ((s % 4294967296 : Nat) : Int) by omega,eX (by omega)] at hB1;refine aA (aF) ?_;simp only[zz];refine aG (hK10 _ _ ?_);refine wp_region_lit (aA (aQ rfl rfl (aN (by omega) (by omega))) (aA (aB) ?_));simp only[zz];refine aG ?_;obtain ⟨r1,r2,r3,r4⟩:=uO (by omega) hlo hv hz hd hc hs2 hla hyb;rw [show ((i:Int) + 1) = ((i + 1 : Nat) : Int) by omega,show ((s:Int) / 4294967296) = ((s / 4294967296 : Nat) : Int) by omega];simp only[Exit.inBlock,Exit.then];refine ⟨qa.length - (i + 1),_,?_,rfl,?_,?_⟩
     · omega
     · simp only[zz,zv]
     ·
      simp only[zQ,zR,zD,zE];exact ⟨i + 1,s / 4294967296,os.set i (s % 4294967296),rfl,hX,hB1,by omega,by simpa using hlo,r1,r2,r3,r4,rfl⟩
   ·
    refine wp_exit ?_;refine hK6 _ _ (aD (fun K15 hK15=>?_));obtain rfl : i = qa.length:=by omega
    refine wp_region_lit (aA (aB) (aA (aB) (aA (bF rfl aW rfl) ?_)));simp only[zz];refine aA (aB) (aA (aM aW aV rfl rfl (by omega) (by omega) (fA (Int.toNat_natCast _))) ?_);simp only[zz];refine dL rfl (by simp only[zz];rfl) (by exact aV) hB1 (by simp;omega) (by simp [Value.oneCell']) ?_;clear hB1;intro w2 hC hB1;replace hX:=hX.chg hC hG1;clear hC;rw [eX (by omega)] at hB1;refine aG (hK15 _ _ ?_);refine aD (fun K16 hK16=>wp_region_lit (aA (aB) ?_));simp only[zz];refine bK rfl rfl (pY _ (hB1.nat (hd.set (show c < 4294967296 by omega)) (by simp;omega) (by omega))) ?_;rintro v w3 hE rfl;replace hB1:=hB1.ext hE;replace hX:=hX.trans hE;clear hE;simp only[zz];refine aA (aF) ?_;simp only[zz];refine aG (hK16 _ _ ?_);refine wp_ret ?_;try simp only[Exit.inBlock,Exit.then]
    refine bS rfl rfl ?_;try simp only[zD,zE]
    exact ⟨_,rfl,hX,by first | exact fI.of_trim (hB1.nat (hd.set (show c < 4294967296 by omega)) (by simp;omega) (by omega)) (Bn (by omega) hlo hv hz) | (rw [Nat.add_comm];exact fI.of_trim (hB1.nat (hd.set (show c < 4294967296 by omega)) (by simp;omega) (by omega)) (Bn (by omega) hlo hv hz))⟩
 ·
  obtain ⟨qa,rfl⟩ : ∃ q,q = xs:=⟨_,rfl⟩
  obtain ⟨qb,rfl⟩ : ∃ q,q = ys:=⟨_,rfl⟩
  obtain ⟨Qa,rfl⟩ : ∃ q,q = A:=⟨_,rfl⟩
  obtain ⟨Qb,rfl⟩ : ∃ q,q = B:=⟨_,rfl⟩
  have hSa:=hS;have hSb:=hR;refine wp_skip (hK2 _ _ ?_);refine aD (fun K17 hK17=>wp_region_lit (aA (aB) (aA (bF rfl aW rfl) (aA (aQ rfl rfl (aN (by omega) (by omega))) ?_))));simp only[zz];refine lR aW kT rfl rfl rfl (show _ = qa.length + 1 by omega) (show _ = qa.length + 1 by omega) (by omega) (by omega) (by omega) (by omega) ?_;intro w1 g1 hE hg1 hB1;have hG1:=Nat.le_trans hX.size hg1;replace hX:=hX.trans hE;clear hE hg1;simp only[zz];refine aA (aF) ?_;simp only[zz];refine aG ?_;rw [fC] at hB1;refine hK17 _ _ (aD (fun K18 hK18=>wp_region_lit (aA (aF) ?_)));simp only[zz];refine aG (hK18 _ _ ?_);refine aD (fun K19 hK19=>aD (fun K20 hK20=>wp_region_lit (aA (aB) (aA (bF rfl aW rfl) (aA (aB) ?_)))));simp only[zz];refine aG (hK20 _ _ ?_);refine wp_block (bM [6,22] [7,8,23,24,25,26,27,28,29,30,31,32,33,34,35,36,37,38,39,40,41,42,43,44,45,46,47,48] (fun n vs wl=>∃ (i c : Nat) (os : List Nat),vs = [.int .u64 (c:Int),.int .i64 (i:Int)] ∧ (dD w wl) ∧ (fX wl g1 (os.map jF) 126) ∧ (i ≤ qa.length) ∧ (os.length = qa.length + 1) ∧ (val 4294967296 os + 4294967296 ^ i * c = val 4294967296 (qa.take i) + val 4294967296 (qb.take i)) ∧ (os.drop i = List.replicate (qa.length + 1 - i) 0) ∧ (dB 4294967296 os) ∧ (c ≤ 1) ∧ (n = qa.length - i)) ?_ ?_)
  ·
   apply Exists.intro;simp only[zQ,zR,zD,zE];exact ⟨0,0,List.replicate (qa.length + 1) 0,rfl,hX,hB1,by omega,by simp,by simp [eO,val],by simp,fun x hx=>by rw [List.eq_of_mem_replicate hx];decide,by omega,rfl⟩
  ·
   intro n vs wr hI u;obtain ⟨i,c,os,rfl,hX,hB1,hi,hlo,hv,hz,hd,hc,hn⟩:=hI;simp only[zu,zF,zG];refine aD (fun K21 hK21=>wp_region_lit (aA (cJ rfl rfl) ?_));simp only[zz];refine aG (hK21 _ _ ?_);refine aD (fun K22 hK22=>?_);refine cO rfl (fun hc2=>?_) (fun hc2=>?_)
   ·
    refine wp_skip ?_;refine hK22 _ _ (aD (fun K23 hK23=>wp_block (aD (fun K24 hK24=>wp_region_lit (aA (aB) (aA (aF) ?_))))));simp only[zz];refine aG (hK24 _ _ ?_);refine aD (fun K25 hK25=>?_);obtain ⟨a,rfl,hca,hla⟩:=(hSa.ext hX).get (show i < qa.length by omega);refine wp_region_lit (aA (aB) (aA (aB) (aA (aM aW aV rfl rfl (by omega) (by omega) (lT (Int.toNat_natCast _))) ?_)));simp only[zz];refine aJ rfl (lies1 hca eC) ?_;simp only[zz];refine aA (aB) (aA (aQ rfl rfl (eM (by omega) (by omega))) (aA (aF) ?_));simp only[zz];refine aG (hK25 _ _ ?_);refine aD (fun K26 hK26=>aD (fun K27 hK27=>wp_region_lit (aA (aB) (aA (aB) (aA (bF rfl aW rfl) ?_)))));simp only[zz];refine aA (cJ rfl rfl) ?_;simp only[zz];refine aG (hK27 _ _ ?_);refine cO rfl (fun hc3=>?_) (fun hc3=>?_)
    ·
     obtain ⟨b,rfl,hcb,hlb⟩:=(hSb.ext hX).get (show i < qb.length by omega);refine wp_region_lit (aA (aB) (aA (aB) (aA (aB) ?_)));simp only[zz];refine aA (aM aW aV rfl rfl (by omega) (by omega) (lT (Int.toNat_natCast _))) ?_;simp only[zz];refine aJ rfl (lies1 hcb eC) ?_;simp only[zz];refine aA (aQ rfl rfl (eM (by omega) (by omega))) (aA (aF) ?_);simp only[zz];refine aG ?_;obtain ⟨s,hs⟩ : ∃ s : Nat,(s : Int) = ↑qa[i] + ↑c + ↑qb[i]:=⟨qa[i] + c + qb[i],by omega⟩
     rw [← hs];have hs2 : s = qa[i] + c + qb[i]?.getD 0:=by rw [List.getElem?_eq_getElem (by omega)];simp;omega
     have hyb : qb[i]?.getD 0 < 4294967296:=by rw [List.getElem?_eq_getElem (by omega)];exact hlb
     refine hK26 _ _ ?_;refine wp_region_lit (aA (aB) (aA (aB) (aA (aB) ?_)));simp only[zz];refine aA (qC rfl rfl (mX (by omega) (by omega))) (aA (aB) (aA (pE rfl rfl (by omega) (Gn (by omega))) ?_));simp only[zz];refine aA (aM aW aV rfl rfl (by omega) (by omega) (fA (Int.toNat_natCast _))) ?_;simp only[zz];refine dL rfl (by simp only[zz];rfl) (by exact aV) hB1 (by simp;omega) (by simp [Value.oneCell']) ?_;clear hB1;intro w2 hC hB1;replace hX:=hX.chg hC hG1;clear hC;rw [show ((s:Int) % 4294967296) = ((s % 4294967296 : Nat) : Int) by omega,eX (by omega)] at hB1;refine aA (aF) ?_;simp only[zz];refine aG (hK23 _ _ ?_);refine wp_region_lit (aA (aQ rfl rfl (aN (by omega) (by omega))) (aA (aB) ?_));simp only[zz];refine aG ?_;obtain ⟨r1,r2,r3,r4⟩:=uO (by omega) hlo hv hz hd hc hs2 hla hyb;rw [show ((i:Int) + 1) = ((i + 1 : Nat) : Int) by omega,show ((s:Int) / 4294967296) = ((s / 4294967296 : Nat) : Int) by omega];simp only[Exit.inBlock,Exit.then];refine ⟨qa.length - (i + 1),_,?_,rfl,?_,?_⟩
     · omega
     · simp only[zz,zv]
     ·
      simp only[zQ,zR,zD,zE];exact ⟨i + 1,s / 4294967296,os.set i (s % 4294967296),rfl,hX,hB1,by omega,by simpa using hlo,r1,r2,r3,r4,rfl⟩
    ·
     obtain ⟨s,hs⟩ : ∃ s : Nat,(s : Int) = ↑qa[i] + ↑c:=⟨qa[i] + c,by omega⟩
     rw [← hs];have hs2 : s = qa[i] + c + qb[i]?.getD 0:=by rw [List.getElem?_eq_none (by omega)];simp;omega
     have hyb : qb[i]?.getD 0 < 4294967296:=by rw [List.getElem?_eq_none (by omega)];decide
     refine wp_skip ?_;refine hK26 _ _ (wp_region_lit (aA (aB) (aA (aB) (aA (aB) ?_))));simp only[zz];refine aA (qC rfl rfl (mX (by omega) (by omega))) (aA (aB) (aA (pE rfl rfl (by omega) (Gn (by omega))) ?_));simp only[zz];refine aA (aM aW aV rfl rfl (by omega) (by omega) (fA (Int.toNat_natCast _))) ?_;simp only[zz];refine dL rfl (by simp only[zz];rfl) (by exact aV) hB1 (by simp;omega) (by simp [Value.oneCell']) ?_;clear hB1;intro w2 hC hB1;replace hX:=hX.chg hC hG1;clear hC;rw [show ((s:Int) % 4294967296) = ((s % 4294967296 : Nat) : Int) by omega,eX (by omega)] at hB1;refine aA (aF) ?_;simp only[zz];refine aG (hK23 _ _ ?_);refine wp_region_lit (aA (aQ rfl rfl (aN (by omega) (by omega))) (aA (aB) ?_));simp only[zz];refine aG ?_;obtain ⟨r1,r2,r3,r4⟩:=uO (by omega) hlo hv hz hd hc hs2 hla hyb;rw [show ((i:Int) + 1) = ((i + 1 : Nat) : Int) by omega,show ((s:Int) / 4294967296) = ((s / 4294967296 : Nat) : Int) by omega];simp only[Exit.inBlock,Exit.then];refine ⟨qa.length - (i + 1),_,?_,rfl,?_,?_⟩
     · omega
     · simp only[zz,zv]
     ·
      simp only[zQ,zR,zD,zE];exact ⟨i + 1,s / 4294967296,os.set i (s % 4294967296),rfl,hX,hB1,by omega,by simpa using hlo,r1,r2,r3,r4,rfl⟩
   ·
    refine wp_exit ?_;refine hK19 _ _ (aD (fun K28 hK28=>?_));obtain rfl : i = qa.length:=by omega
    refine wp_region_lit (aA (aB) (aA (aB) (aA (bF rfl aW rfl) ?_)));simp only[zz];refine aA (aB) (aA (aM aW aV rfl rfl (by omega) (by omega) (fA (Int.toNat_natCast _))) ?_);simp only[zz];refine dL rfl (by simp only[zz];rfl) (by exact aV) hB1 (by simp;omega) (by simp [Value.oneCell']) ?_;clear hB1;intro w2 hC hB1;replace hX:=hX.chg hC hG1;clear hC;rw [eX (by omega)] at hB1;refine aG (hK28 _ _ ?_);refine aD (fun K29 hK29=>wp_region_lit (aA (aB) ?_));simp only[zz];refine bK rfl rfl (pY _ (hB1.nat (hd.set (show c < 4294967296 by omega)) (by simp;omega) (by omega))) ?_;rintro v w3 hE rfl;replace hB1:=hB1.ext hE;replace hX:=hX.trans hE;clear hE;simp only[zz];refine aA (aF) ?_;simp only[zz];refine aG (hK29 _ _ ?_);refine wp_ret ?_;try simp only[Exit.inBlock,Exit.then]
    refine bS rfl rfl ?_;try simp only[zD,zE]
    exact ⟨_,rfl,hX,by first | exact fI.of_trim (hB1.nat (hd.set (show c < 4294967296 by omega)) (by simp;omega) (by omega)) (Bn (by omega) hlo hv hz) | (rw [Nat.add_comm];exact fI.of_trim (hB1.nat (hd.set (show c < 4294967296 by omega)) (by simp;omega) (by omega)) (Bn (by omega) hlo hv hz))⟩
theorem aat {A B : Option Addr} {xs ys : List Nat} {na nb ca cb : Nat} (w : World) (hS : cQ w A na ca xs) (hR : cQ w B nb cb ys) (hle : ys.length ≤ xs.length) (hge : val 4294967296 ys ≤ val 4294967296 xs) (hlx : xs.length ≤ 1099511627776) : eI prog 121 [.slice A na ca,.slice B nb cb] w (fun v w'=>fI (val 4294967296 xs - val 4294967296 ys) v w' ∧ xA w v):=by
 skip
 refine ⟨adE,?_⟩;have hX:=dD.refl w;obtain rfl:=hS.eq;obtain rfl:=hR.eq
 go_enter func121,ntmps121
 refine aD (fun K1 hK1=>wp_region_lit (aA (aF) ?_));simp only[zz];refine aG (hK1 _ _ ?_);refine aD (fun K2 hK2=>wp_region_lit (aA (aB) (aA (bF rfl aW rfl) ?_)));simp only[zz];refine lR aW kT rfl rfl rfl (Int.toNat_natCast _) (Int.toNat_natCast _) (by omega) (by omega) (by omega) (by omega) ?_;intro w1 g1 hE hg1 hB1;have hG1:=Nat.le_trans hX.size hg1;replace hX:=hX.trans hE;clear hE hg1;simp only[zz];refine aA (aF) ?_;simp only[zz];refine aG ?_;rw [fC] at hB1;refine hK2 _ _ (aD (fun K3 hK3=>wp_region_lit (aA (aF) ?_)));simp only[zz];refine aG (hK3 _ _ ?_);refine aD (fun K4 hK4=>aD (fun K5 hK5=>wp_region_lit (aA (aB) (aA (bF rfl aW rfl) (aA (aB) ?_)))));simp only[zz];refine aG (hK5 _ _ ?_);refine wp_block (bM [6,14] [7,8,15,16,17,18,19,20,21,22,23,24,25,26,27,28,29,30,31,32,33,34,35,36,37,38,39,40] (fun n vs wl=>∃ (i c : Nat) (os : List Nat),vs = [.int .u64 (c:Int),.int .i64 (i:Int)] ∧ (dD w wl) ∧ (fX wl g1 (os.map jF) 126) ∧ (i ≤ xs.length) ∧ (os.length = xs.length) ∧ (val 4294967296 os + val 4294967296 (ys.take i) = val 4294967296 (xs.take i) + 4294967296 ^ i * c) ∧ (os.drop i = List.replicate (xs.length - i) 0) ∧ (dB 4294967296 os) ∧ (c ≤ 1) ∧ (n = xs.length - i)) ?_ ?_)
 ·
  apply Exists.intro;simp only[zQ,zR,zD,zE];exact ⟨0,0,List.replicate xs.length 0,rfl,hX,hB1,by omega,by simp,by simp [eO,val],by simp,fun x hx=>by rw [List.eq_of_mem_replicate hx];decide,by omega,rfl⟩
 ·
  intro n vs wr hI u;obtain ⟨i,c,os,rfl,hX,hB1,hi,hlo,hv,hz,hd,hc,hn⟩:=hI;simp only[zu,zF,zG];refine aD (fun K6 hK6=>wp_region_lit (aA (cJ rfl rfl) ?_));simp only[zz];refine aG (hK6 _ _ ?_);refine aD (fun K7 hK7=>?_);refine cO rfl (fun hc1=>?_) (fun hc1=>?_)
  ·
   refine wp_skip ?_;refine hK7 _ _ (aD (fun K8 hK8=>wp_block (aD (fun K9 hK9=>wp_region_lit (aA (aB) (aA (aF) ?_))))));simp only[zz];refine aG (hK9 _ _ ?_);refine aD (fun K10 hK10=>?_);obtain ⟨a,rfl,hca,hla⟩:=(hS.ext hX).get (show i < xs.length by omega);refine wp_region_lit (aA (aB) (aA (aB) (aA (aM aW aV rfl rfl (by omega) (by omega) (lT (Int.toNat_natCast _))) ?_)));simp only[zz];refine aJ rfl (lies1 hca eC) ?_;simp only[zz];refine aA (aB) (aA (gL rfl rfl (fO _)) (aA (aF) ?_));simp only[zz];refine aG (hK10 _ _ ?_);refine aD (fun K11 hK11=>aD (fun K12 hK12=>wp_region_lit (aA (aB) (aA (aB) (aA (bF rfl aW rfl) ?_)))));simp only[zz];refine aA (cJ rfl rfl) ?_;simp only[zz];refine aG (hK12 _ _ ?_);refine cO rfl (fun hc2=>?_) (fun hc2=>?_)
   ·
    obtain ⟨b,rfl,hcb,hlb⟩:=(hR.ext hX).get (show i < ys.length by omega);refine wp_region_lit (aA (aB) (aA (aB) (aA (aB) ?_)));simp only[zz];refine aA (aM aW aV rfl rfl (by omega) (by omega) (lT (Int.toNat_natCast _))) ?_;simp only[zz];refine aJ rfl (lies1 hcb eC) ?_;simp only[zz];refine aA (gL rfl rfl (fO _)) (aA (aF) ?_);simp only[zz];refine aG ?_;obtain ⟨s,hs⟩ : ∃ s : Nat,(s : Int) = ((↑xs[i] - ↑c) % 18446744073709551616 - ↑ys[i]) % 18446744073709551616:=⟨(((↑xs[i] - ↑c) % 18446744073709551616 - ↑ys[i]) % 18446744073709551616 : Int).toNat,by omega⟩
    rw [← hs];have hs2 : (s : Int) = ((xs[i] : Nat) - (c : Nat) - (ys[i]?.getD 0 : Nat) : Int) % 18446744073709551616:=by rw [List.getElem?_eq_getElem (by omega)];simp only[Option.getD_some];omega
    have hyb : ys[i]?.getD 0 < 4294967296:=by rw [List.getElem?_eq_getElem (by omega)];exact hlb
    refine hK11 _ _ ?_;have hs64 : s < 18446744073709551616:=by omega
    refine wp_region_lit (aA (aB) (aA (aB) (aA (aB) ?_)));simp only[zz];refine aA (qC rfl rfl (mX (by omega) (by omega))) (aA (aB) (aA (pE rfl rfl (by omega) (acx (by omega))) ?_));simp only[zz];refine aA (aM aW aV rfl rfl (by omega) (by omega) (fA (Int.toNat_natCast _))) ?_;simp only[zz];refine dL rfl (by simp only[zz];rfl) (by exact aV) hB1 (by simp;omega) (by simp [Value.oneCell']) ?_;clear hB1;intro w2 hC hB1;replace hX:=hX.chg hC hG1;clear hC;rw [show ((s:Int) % 4294967296) = ((s % 4294967296 : Nat) : Int) by omega,eX (by omega)] at hB1;refine aA (aF) ?_;simp only[zz];refine aG (hK8 _ _ ?_);refine wp_region_lit (aA (aQ rfl rfl (aN (by omega) (by omega))) (aA (aB) ?_));simp only[zz];refine aG ?_;obtain ⟨r1,r2,r3,r4⟩:=Gp (by omega) hlo hv hz hd hc hs2 hla hyb;rw [show ((i:Int) + 1) = ((i + 1 : Nat) : Int) by omega,show ((s:Int) / 9223372036854775808) = ((s / 9223372036854775808 : Nat) : Int) by omega];simp only[Exit.inBlock,Exit.then];refine ⟨xs.length - (i + 1),_,?_,rfl,?_,?_⟩
    · omega
    · simp only[zz,zv]
    ·
     simp only[zQ,zR,zD,zE];exact ⟨i + 1,s / 9223372036854775808,os.set i (s % 4294967296),rfl,hX,hB1,by omega,by simpa using hlo,r1,r2,r3,r4,rfl⟩
   ·
    obtain ⟨s,hs⟩ : ∃ s : Nat,(s : Int) = (↑xs[i] - ↑c) % 18446744073709551616:=⟨((↑xs[i] - ↑c) % 18446744073709551616 : Int).toNat,by omega⟩
    rw [← hs];have hs2 : (s : Int) = ((xs[i] : Nat) - (c : Nat) - (ys[i]?.getD 0 : Nat) : Int) % 18446744073709551616:=by rw [List.getElem?_eq_none (by omega)];simp only[Option.getD_none];omega
    have hyb : ys[i]?.getD 0 < 4294967296:=by rw [List.getElem?_eq_none (by omega)];decide
    refine wp_skip ?_;refine hK11 _ _ ?_;have hs64 : s < 18446744073709551616:=by omega
    refine wp_region_lit (aA (aB) (aA (aB) (aA (aB) ?_)));simp only[zz];refine aA (qC rfl rfl (mX (by omega) (by omega))) (aA (aB) (aA (pE rfl rfl (by omega) (acx (by omega))) ?_));simp only[zz];refine aA (aM aW aV rfl rfl (by omega) (by omega) (fA (Int.toNat_natCast _))) ?_;simp only[zz];refine dL rfl (by simp only[zz];rfl) (by exact aV) hB1 (by simp;omega) (by simp [Value.oneCell']) ?_;clear hB1;intro w2 hC hB1;replace hX:=hX.chg hC hG1;clear hC;rw [show ((s:Int) % 4294967296) = ((s % 4294967296 : Nat) : Int) by omega,eX (by omega)] at hB1;refine aA (aF) ?_;simp only[zz];refine aG (hK8 _ _ ?_);refine wp_region_lit (aA (aQ rfl rfl (aN (by omega) (by omega))) (aA (aB) ?_));simp only[zz];refine aG ?_;obtain ⟨r1,r2,r3,r4⟩:=Gp (by omega) hlo hv hz hd hc hs2 hla hyb;rw [show ((i:Int) + 1) = ((i + 1 : Nat) : Int) by omega,show ((s:Int) / 9223372036854775808) = ((s / 9223372036854775808 : Nat) : Int) by omega];simp only[Exit.inBlock,Exit.then];refine ⟨xs.length - (i + 1),_,?_,rfl,?_,?_⟩
    · omega
    · simp only[zz,zv]
    ·
     simp only[zQ,zR,zD,zE];exact ⟨i + 1,s / 9223372036854775808,os.set i (s % 4294967296),rfl,hX,hB1,by omega,by simpa using hlo,r1,r2,r3,r4,rfl⟩
  ·
   refine wp_exit ?_;refine hK4 _ _ (aD (fun K13 hK13=>?_));obtain rfl : i = xs.length:=by omega
   refine wp_region_lit (aA (aB) ?_);simp only[zz];refine bK rfl rfl (pY _ (hB1.nat hd (by omega) (by omega))) ?_;rintro v w2 hE rfl;replace hB1:=hB1.ext hE;replace hX:=hX.trans hE;clear hE;simp only[zz];refine aA (aF) ?_;simp only[zz];refine aG (hK13 _ _ ?_);refine wp_ret ?_;try simp only[Exit.inBlock,Exit.then]
   refine bS rfl rfl ?_;try simp only[zD,zE]
   exact ⟨_,rfl,hX,fI.of_trim (hB1.nat hd (n:=xs.length) (by omega) (by omega)) (abb hle hlo hd hv hge),xA.of_blk hG1⟩
theorem aau {A B : Option Addr} {xs ys : List Nat} {na nb ca cb : Nat} (w : World) (hS : cQ w A na ca xs) (hR : cQ w B nb cb ys) (hlx : xs.length ≤ 1099511627776) (hly : ys.length ≤ 1099511627776) : eI prog 120 [.slice A na ca,.slice B nb cb] w (fI (val 4294967296 xs * val 4294967296 ys)):=by
 skip
 refine ⟨adD,?_⟩;have hX:=dD.refl w;obtain rfl:=hS.eq;obtain rfl:=hR.eq
 go_enter func120,ntmps120
 refine aD (fun K1 hK1=>wp_region_lit (aA (aF) ?_));simp only[zz];refine aG (hK1 _ _ ?_);refine aD (fun K2 hK2=>wp_region_lit (aA (aB) (aA (bF rfl aW rfl) (aA (aB) ?_))));simp only[zz];refine aA (bF rfl aW rfl) (aA (aQ rfl rfl (aN (by omega) (by omega))) ?_);simp only[zz];refine lR aW kT rfl rfl rfl (show _ = xs.length + ys.length by omega) (show _ = xs.length + ys.length by omega) (by omega) (by omega) (by omega) (by omega) ?_;intro w1 g1 hE hg1 hB1;have hG1:=Nat.le_trans hX.size hg1;replace hX:=hX.trans hE;clear hE hg1;simp only[zz];refine aA (aF) ?_;simp only[zz];refine aG ?_;rw [fC] at hB1;refine hK2 _ _ (aD (fun K3 hK3=>aD (fun K4 hK4=>wp_region_lit (aA (aB) (aA (bF rfl aW rfl) (aA (aB) ?_))))));simp only[zz];refine aG (hK4 _ _ ?_);refine wp_block (bM [20] [6,7,8,9,10,11,21,22,23,24,25,26,27,28,29,30,31,32,33,34,35,36,37,38,39,40,41,42,43,44,45,46,47,48,49,50,51,52,53,54,55,56,57,58,59,60,61] (fun n vs wl=>∃ (i : Nat) (os : List Nat),vs = [.int .i64 (i:Int)] ∧ (dD w wl) ∧ (fX wl g1 (os.map jF) 126) ∧ (i ≤ xs.length) ∧ (os.length = xs.length + ys.length) ∧ (val 4294967296 os = val 4294967296 (xs.take i) * val 4294967296 ys) ∧ (os.drop (i + ys.length) = List.replicate (xs.length - i) 0) ∧ (dB 4294967296 os) ∧ (n = xs.length - i)) ?_ ?_)
 ·
  apply Exists.intro;simp only[zQ,zR,zD,zE];exact ⟨0,List.replicate (xs.length + ys.length) 0,rfl,hX,hB1,by omega,by simp,by rw [eO,List.take_zero];simp only[val,Nat.zero_mul],by rw [List.drop_replicate];congr 1;omega,fun x hx=>by rw [List.eq_of_mem_replicate hx];decide,rfl⟩
 ·
  intro n vs wr hI u;obtain ⟨i,os,rfl,hX,hB1,hi,hlo,hv,hz,hd,hn⟩:=hI;simp only[zu,zF,zG];refine aD (fun K5 hK5=>wp_region_lit (aA (cJ rfl rfl) ?_));simp only[zz];refine aG (hK5 _ _ ?_);refine aD (fun K6 hK6=>?_);refine cO rfl (fun hc1=>?_) (fun hc1=>?_)
  ·
   refine wp_skip ?_;refine hK6 _ _ (aD (fun K7 hK7=>wp_block (aD (fun K8 hK8=>?_))));obtain ⟨a,rfl,hca,hla⟩:=(hS.ext hX).get (show i < xs.length by omega);refine wp_region_lit (aA (aB) (aA (aM aW aV rfl rfl (by omega) (by omega) (lT (Int.toNat_natCast _))) ?_));simp only[zz];refine aJ rfl (lies1 hca eC) ?_;simp only[zz];refine aA (aF) (aA (aF) ?_);simp only[zz];refine aG (hK8 _ _ ?_);refine aD (fun K9 hK9=>wp_region_lit (aA (aF) ?_));simp only[zz];refine aG (hK9 _ _ ?_);refine aD (fun K10 hK10=>aD (fun K11 hK11=>wp_region_lit (aA (aB) (aA (bF rfl aW rfl) (aA (aB) ?_)))));simp only[zz];refine aG (hK11 _ _ ?_);refine wp_block (bM [8,27] [9,10,11,28,29,30,31,32,33,34,35,36,37,38,39,40,41,42,43,44,45,46,47,48,49,50,51,52,53] (fun n vs wl=>∃ (k c : Nat) (os : List Nat),vs = [.int .u64 (c:Int),.int .i64 (k:Int)] ∧ (dD w wl) ∧ (fX wl g1 (os.map jF) 126) ∧ (k ≤ ys.length) ∧ (os.length = xs.length + ys.length) ∧ (val 4294967296 os + 4294967296 ^ (i + k) * c = val 4294967296 (xs.take i) * val 4294967296 ys + 4294967296 ^ i * (xs[i] * val 4294967296 (ys.take k))) ∧ (os.drop (i + ys.length) = List.replicate (xs.length - i) 0) ∧ (dB 4294967296 os) ∧ (c < 4294967296) ∧ (n = ys.length - k)) ?_ ?_)
   ·
    apply Exists.intro;simp only[zQ,zR,zD,zE];exact ⟨0,0,os,rfl,hX,hB1,by omega,hlo,by rw [List.take_zero,hv];simp only[val,Nat.mul_zero],hz,hd,by omega,rfl⟩
   ·
    intro n vs wr hI u;obtain ⟨k,c,os,rfl,hX,hB1,hk,hlo,hv2,hz,hd,hc,hn2⟩:=hI;simp only[zu,zF,zG];refine aD (fun K12 hK12=>wp_region_lit (aA (cJ rfl rfl) ?_));simp only[zz];refine aG (hK12 _ _ ?_);refine aD (fun K13 hK13=>?_);refine cO rfl (fun hc2=>?_) (fun hc2=>?_)
    ·
     refine wp_skip ?_;refine hK13 _ _ (aD (fun K14 hK14=>wp_block (aD (fun K15 hK15=>?_))));obtain ⟨b,rfl,hcb,hlb⟩:=(hR.ext hX).get (show k < ys.length by omega);refine wp_region_lit (aA (aB) (aA (aM aW aV rfl rfl (by omega) (by omega) (lT (Int.toNat_natCast _))) ?_));simp only[zz];refine aJ rfl (lies1 hcb eC) ?_;simp only[zz];refine aA (aF) (aA (aF) ?_);simp only[zz];refine aG (hK15 _ _ ?_);refine aD (fun K16 hK16=>?_);have hco:=hB1.word (show i + k < os.length by omega);have hlo2:=hd.get (List.getElem?_eq_getElem (show i + k < os.length by omega));obtain ⟨hm0,hm1⟩:=abd hla hlb;refine wp_region_lit (aA (aB) (aA (aB) (aA (aB) ?_)));simp only[zz];refine aA (aQ rfl rfl (aN (by omega) (by omega))) (aA (aM aW aV rfl rfl (by omega) (by omega) (fA (show _ = i + k by omega))) ?_);simp only[zz];refine aJ rfl (lies1 hco eC) ?_;simp only[zz];refine aA (aB) (aA (aB) (aA (eT rfl rfl (eM (by omega) (by omega))) ?_));simp only[zz];refine aA (aQ rfl rfl (eM (by omega) (by omega))) (aA (aB) (aA (aQ rfl rfl (eM (by omega) (by omega))) ?_));simp only[zz];refine aA (aF) ?_;simp only[zz];refine aG ?_;obtain ⟨s,hs⟩ : ∃ s : Nat,s = os[i + k] + xs[i] * ys[k] + c:=⟨_,rfl⟩
     have hsI : (↑os[i + k] + ↑xs[i] * ↑ys[k] + ↑c : Int) = (s : Int):=by rw [hs];simp
     rw [hsI];have hs64 : s < 18446744073709551616:=by omega
     refine hK16 _ _ ?_;refine wp_region_lit (aA (aB) (aA (aB) (aA (aB) ?_)));simp only[zz];refine aA (aQ rfl rfl (aN (by omega) (by omega))) (aA (aB) (aA (qC rfl rfl (mX (by omega) (by omega))) ?_));simp only[zz];refine aA (aB) (aA (pE rfl rfl (by omega) (Gn (by omega))) (aA (aM aW aV rfl rfl (by omega) (by omega) (fA (show _ = i + k by omega))) ?_));simp only[zz];refine dL rfl (by simp only[zz];rfl) (by exact aV) hB1 (by simp;omega) (by simp [Value.oneCell']) ?_;clear hB1;intro w2 hC hB1;replace hX:=hX.chg hC hG1;clear hC;rw [show ((s:Int) % 4294967296) = ((s % 4294967296 : Nat) : Int) by omega,eX (by omega)] at hB1;refine aA (aF) ?_;simp only[zz];refine aG (hK14 _ _ ?_);refine wp_region_lit (aA (aQ rfl rfl (aN (by omega) (by omega))) (aA (aB) ?_));simp only[zz];refine aG ?_;have r1:=Tw (by omega) (by omega) hlo hv2 hs;rw [show ((k:Int) + 1) = ((k + 1 : Nat) : Int) by omega,show ((s:Int) / 4294967296) = ((s / 4294967296 : Nat) : Int) by omega];simp only[Exit.inBlock,Exit.then];refine ⟨ys.length - (k + 1),_,?_,rfl,?_,?_⟩
     · omega
     · simp only[zz,zv]
     ·
      simp only[zQ,zR,zD,zE];exact ⟨k + 1,s / 4294967296,os.set (i + k) (s % 4294967296),rfl,hX,hB1,by omega,by simpa using hlo,r1,by rw [pG (by omega)];exact hz,hd.set (by omega),by omega,rfl⟩
    ·
     refine wp_exit ?_;refine hK10 _ _ ?_;obtain rfl : k = ys.length:=by omega
     refine wp_region_lit (aA (aB) (aA (aB) (aA (aB) ?_)));simp only[zz];refine aA (bF rfl aW rfl) (aA (aQ rfl rfl (aN (by omega) (by omega))) (aA (aB) ?_));simp only[zz];refine aA (aM aW aV rfl rfl (by omega) (by omega) (fA (show _ = i + ys.length by omega))) ?_;simp only[zz];refine dL rfl (by simp only[zz];rfl) (by exact aV) hB1 (by simp;omega) (by simp [Value.oneCell']) ?_;clear hB1;intro w2 hC hB1;replace hX:=hX.chg hC hG1;clear hC;rw [eX (by omega)] at hB1;refine aG (hK7 _ _ ?_);refine wp_region_lit (aA (aQ rfl rfl (aN (by omega) (by omega))) (aA (aB) ?_));simp only[zz];refine aG ?_;obtain ⟨r1,r2⟩:=abc (by omega) hlo hv2 hz;rw [show ((i:Int) + 1) = ((i + 1 : Nat) : Int) by omega];simp only[Exit.inBlock,Exit.then];refine ⟨xs.length - (i + 1),_,?_,rfl,?_,?_⟩
     · omega
     · simp only[zz,zv]
     ·
      simp only[zQ,zR,zD,zE];exact ⟨i + 1,os.set (i + ys.length) c,rfl,hX,hB1,by omega,by simpa using hlo,r1,r2,hd.set (by omega),rfl⟩
  ·
   refine wp_exit ?_;refine hK3 _ _ (aD (fun K17 hK17=>?_));obtain rfl : i = xs.length:=by omega
   refine wp_region_lit (aA (aB) ?_);simp only[zz];refine bK rfl rfl (pY _ (hB1.nat hd (by omega) (by omega))) ?_;rintro v w2 hE rfl;replace hB1:=hB1.ext hE;replace hX:=hX.trans hE;clear hE;simp only[zz];refine aA (aF) ?_;simp only[zz];refine aG (hK17 _ _ ?_);refine wp_ret ?_;try simp only[Exit.inBlock,Exit.then]
   refine bS rfl rfl ?_;try simp only[zD,zE]
   exact ⟨_,rfl,hX,fI.of_trim (hB1.nat hd (n:=xs.length + ys.length) (by omega) (by omega)) (by rw [hv,List.take_length])⟩
end Go.Proofs.YtfohfflkhpfjeaaGreatDoor
namespace Go.Proofs.YtfohfflkhpfjeaaGreatDoor
open Go.Proofs.Tryz
open Go.RowKit Go.Lith
set_option maxRecDepth 100000
attribute [local irreducible] wpList wpQuiet dC Code.wp
theorem Sl {A : Option Addr} {xs : List Nat} {na ca d : Nat} (w : World) (hS : cQ w A na ca xs) (hlx : xs.length ≤ 1099511627776) (h0 : 0 < d) (h32 : d ≤ 4294967296) : eI prog 117 [.slice A na ca,.int .u64 (d : Int)] w (fun v w'=>∃ q,v = .tuple #[q,.int .u64 ((val 4294967296 xs % d : Nat) : Int)] ∧ fI (val 4294967296 xs / d) q w'):=by
 skip
 refine ⟨adA,?_⟩;have hX:=dD.refl w;obtain rfl:=hS.eq
 go_enter func117,ntmps117
 refine aD (fun K1 hK1=>wp_region_lit (aA (aF) (aA (aF) ?_)));simp only[zz];refine aG (hK1 _ _ ?_);refine aD (fun K2 hK2=>wp_region_lit (aA (aB) (aA (bF rfl aW rfl) ?_)));simp only[zz];refine lR aW kT rfl rfl rfl (Int.toNat_natCast _) (Int.toNat_natCast _) (by omega) (by omega) (by omega) (by omega) ?_;intro w1 g1 hE hg1 hB1;have hG1:=Nat.le_trans hX.size hg1;replace hX:=hX.trans hE;clear hE hg1;simp only[zz];refine aA (aF) ?_;simp only[zz];refine aG ?_;rw [fC] at hB1;refine hK2 _ _ (aD (fun K3 hK3=>wp_region_lit (aA (aF) ?_)));simp only[zz];refine aG (hK3 _ _ ?_);refine aD (fun K4 hK4=>aD (fun K5 hK5=>wp_region_lit (aA (aB) (aA (bF rfl aW rfl) (aA (gL rfl rfl (aN (by omega) (by omega))) ?_)))));simp only[zz];refine aA (aF) ?_;simp only[zz];refine aG (hK5 _ _ ?_);refine wp_block (bM [7,8] [15,16,17,18,19,20,21,22,23,24,25,26,27,28,29,30,31,32,33,34] (fun n vs wl=>∃ (k r : Nat) (os : List Nat),vs = [.int .u64 (r:Int),.int .i64 ((k:Int) - 1)] ∧ (dD w wl) ∧ (fX wl g1 (os.map jF) 126) ∧ (k ≤ xs.length) ∧ (os.length = xs.length) ∧ (val 4294967296 (xs.drop k) = d * val 4294967296 (os.drop k) + r) ∧ (r < d) ∧ (dB 4294967296 os) ∧ (n = k)) ?_ ?_)
 ·
  apply Exists.intro;simp only[zQ,zR,zD,zE];exact ⟨xs.length,0,List.replicate xs.length 0,rfl,hX,hB1,by omega,by simp,by rw [List.drop_length,List.drop_of_length_le (by simp)];simp only[val,Nat.mul_zero],h0,fun x hx=>by rw [List.eq_of_mem_replicate hx];decide,rfl⟩
 ·
  intro n vs wr hI u;obtain ⟨k,r,os,rfl,hX,hB1,hk,hlo,hv,hr,hd,hn⟩:=hI;simp only[zu,zF,zG];refine aD (fun K6 hK6=>aD (fun K7 hK7=>wp_region_lit (aA (aB) (aA (vI rfl rfl) ?_))));simp only[zz];refine aG (hK7 _ _ ?_);refine cO rfl (fun hc1=>?_) (fun hc1=>?_)
  ·
   refine wp_skip ?_;refine hK6 _ _ (aD (fun K8 hK8=>wp_block (aD (fun K9 hK9=>?_))));obtain ⟨a,rfl,hca,hla⟩:=(hS.ext hX).get (show k - 1 < xs.length by omega);have hr32 : r < 4294967296:=by omega
   refine wp_region_lit (aA (aB) (aA (Ao rfl rfl (by omega) (rL (n:=32) (by omega) (by omega))) (aA (aB) ?_)));simp only[zz];refine aA (aB) (aA (aM aW aV rfl rfl (by omega) (by omega) (lT (show _ = k - 1 by omega))) ?_);simp only[zz];refine aJ rfl (lies1 hca eC) ?_;simp only[zz];refine aA (Ko rfl rfl (Bo (s:=32) (c:=r) (by omega) (by omega) (by omega))) (aA (aF) ?_);simp only[zz];refine aG (hK9 _ _ ?_);obtain ⟨t,ht⟩ : ∃ t : Nat,t = xs[k - 1] + r * 4294967296:=⟨_,rfl⟩
   rw [← ht];have ht64 : t < 18446744073709551616:=by omega
   have hd64 : (d : Int) ≠ 0:=by omega
   refine Ft [(0,true),(1,true),(2,true),(3,true),(4,true),(5,true),(6,true),(7,true),(8,true),(9,false),(10,true)] aO (by kernel_rfl) (eE (fun _ _ _ _ _ h=>h)) (ol:=?_) ?hol ?_
   case hol=>simp only[zw,zQ,zR];try rfl
   intro w2 hE;replace hB1:=hB1.ext hE;replace hX:=hX.trans hE;clear hE;refine vL (aB) (vL (aB) (vL (aB) ?_));simp only[zz];refine vL (aB) (vL (jE rfl rfl (by omega) (Rn ht64)) (vL (aB) ?_));simp only[zz];refine vL (aB) (vL (dK rfl rfl (by omega) Iu) (vL (aM aW aV rfl rfl (by omega) (by omega) (fA (show _ = k - 1 by omega))) ?_));simp only[zz];refine ac0 ?_;refine dL rfl (by simp only[zz];rfl) (by exact aV) hB1 (by simp;omega) (by simp [Value.oneCell']) ?_;clear hB1;intro w3 hC hB1;replace hX:=hX.chg hC hG1;clear hC;rw [eX (by omega)] at hB1;refine aG (vL (aF) ?_);simp only[zz];refine aeD (hK8 _ _ ?_);refine wp_region_lit (aA (aB) (aA (gL rfl rfl (aN (by omega) (by omega))) (aA (aF) ?_)));simp only[zz];refine aG ?_;obtain ⟨r1,r2,r3⟩:=Kv (by omega) hk hlo hv hr hd hla;rw [← ht] at r1 r2 r3;rw [show ((k:Int) - 1 - 1) = ((k - 1 : Nat) : Int) - 1 by omega];simp only[Exit.inBlock,Exit.then];refine ⟨k - 1,_,?_,rfl,?_,?_⟩
   · omega
   · simp only[zz,zv]
   ·
    simp only[zQ,zR,zD,zE];exact ⟨k - 1,t % d,os.set (k - 1) (t / d),rfl,hX,hB1,by omega,by simpa using hlo,r1,r3,r2,rfl⟩
  ·
   refine wp_exit ?_;refine hK4 _ _ (aD (fun K10 hK10=>?_));obtain rfl : k = 0:=by omega
   refine wp_region_lit (aA (aB) ?_);simp only[zz];refine bK rfl rfl (pY _ (hB1.nat hd (by omega) (by omega))) ?_;rintro v w2 hE rfl;replace hB1:=hB1.ext hE;replace hX:=hX.trans hE;clear hE;simp only[zz];refine aA (aB) (aA (aF) (aA (aF) ?_));simp only[zz];refine aG (hK10 _ _ ?_);refine wp_ret ?_;try simp only[Exit.inBlock,Exit.then]
   refine nV rfl rfl rfl ?_;try simp only[zD,zE]
   (have hq : val 4294967296 os = val 4294967296 xs / d ∧ r = val 4294967296 xs % d:=Cp h0 hr (by simpa using hv));exact ⟨_,rfl,hX,_,by rw [hq.2],fI.of_trim (hB1.nat hd (n:=xs.length) (by omega) (by omega)) hq.1⟩
theorem Sn {A : Option Addr} {xs : List Nat} {na ca sh : Nat} (w : World) (hS : cQ w A na ca xs) (hlx : xs.length ≤ 1099511627776) (hn : sh ≤ 31) : eI prog 133 [.slice A na ca,.int .i64 (sh : Int)] w (fun v w'=>∃ g os,v = .slice (some ⟨g,0,none⟩) (xs.length + 1) (xs.length + 1) ∧ w.heap.size ≤ g ∧ fX w' g (os.map jF) 126 ∧ os.length = xs.length + 1 ∧ dB 4294967296 os ∧ val 4294967296 os = 2 ^ sh * val 4294967296 xs):=by
 skip
 refine ⟨adL,?_⟩;have hX:=dD.refl w;obtain rfl:=hS.eq
 go_enter func133,ntmps133
 refine aD (fun K1 hK1=>wp_region_lit (aA (aF) ?_));simp only[zz];refine aG (hK1 _ _ ?_);refine aD (fun K2 hK2=>wp_region_lit (aA (aB) (aA (bF rfl aW rfl) (aA (aQ rfl rfl (aN (by omega) (by omega))) ?_))));simp only[zz];refine lR aW kT rfl rfl rfl (show _ = xs.length + 1 by omega) (show _ = xs.length + 1 by omega) (by omega) (by omega) (by omega) (by omega) ?_;intro w1 g1 hE hg1 hB1;have hG1:=Nat.le_trans hX.size hg1;replace hX:=hX.trans hE;clear hE hg1;simp only[zz];refine aA (aF) ?_;simp only[zz];refine aG ?_;rw [fC] at hB1;refine hK2 _ _ (aD (fun K3 hK3=>aD (fun K4 hK4=>wp_region_lit (aA (aB) (aA (bF rfl aW rfl) (aA (aB) ?_))))));simp only[zz];refine aG (hK4 _ _ ?_);refine wp_block (bM [14] [6,7,15,16,17,18,19,20,21,22,23,24,25,26,27,28,29,30,31,32,33,34,35,36] (fun n vs wl=>∃ (i : Nat) (os : List Nat),vs = [.int .i64 (i:Int)] ∧ (dD w wl) ∧ (fX wl g1 (os.map jF) 126) ∧ (i ≤ xs.length) ∧ (os.length = xs.length + 1) ∧ (val 4294967296 os = 2 ^ sh * val 4294967296 (xs.take i)) ∧ (os.drop (i + 1) = List.replicate (xs.length - i) 0) ∧ (dB 4294967296 os) ∧ (∀ h : i < os.length,os[i] < 2 ^ sh) ∧ (n = xs.length - i)) ?_ ?_)
 ·
  apply Exists.intro;simp only[zQ,zR,zD,zE];exact ⟨0,List.replicate (xs.length + 1) 0,rfl,hX,hB1,by omega,by simp,by rw [eO,List.take_zero];rfl,by rw [List.drop_replicate];congr 1,fun x hx=>by rw [List.eq_of_mem_replicate hx];decide,fun h=>by rw [List.getElem_replicate];exact Nat.pow_pos (by decide),rfl⟩
 ·
  intro n vs wr hI u;obtain ⟨i,os,rfl,hX,hB1,hi,hlo,hv,hz,hd,hc,hn⟩:=hI;simp only[zu,zF,zG];refine aD (fun K5 hK5=>wp_region_lit (aA (cJ rfl rfl) ?_));simp only[zz];refine aG (hK5 _ _ ?_);refine aD (fun K6 hK6=>?_);refine cO rfl (fun hc1=>?_) (fun hc1=>?_)
  ·
   refine wp_skip ?_;refine hK6 _ _ (aD (fun K7 hK7=>wp_block (aD (fun K8 hK8=>?_))));obtain ⟨a,rfl,hca,hla⟩:=(hS.ext hX).get (show i < xs.length by omega);refine wp_region_lit (aA (aB) (aA (aM aW aV rfl rfl (by omega) (by omega) (lT (Int.toNat_natCast _))) ?_));simp only[zz];refine aJ rfl (lies1 hca eC) ?_;simp only[zz];refine aA (aF) (aA (aF) ?_);simp only[zz];refine aG (hK8 _ _ ?_);refine aD (fun K9 hK9=>?_);have hm64:=On (n:=sh) (by omega) hla;have hf:=Br (x:=xs[i]) (n:=sh) (by omega) (hc (by omega));refine wp_region_lit (aA (aB) (aA (aB) (aA (Ao rfl rfl (by omega) (rL (n:=sh) (by omega) hm64)) ?_)));simp only[zz];refine aA (aF) ?_;simp only[zz];refine aG (hK9 _ _ ?_);refine aD (fun K10 hK10=>?_);have hco:=hB1.word (show i < os.length by omega);have hmm : xs[i] * 2 ^ sh % 4294967296 < 4294967296:=Nat.mod_lt _ (by decide);refine wp_region_lit (aA (aB) (aA (aB) (aA (aM aW aV rfl rfl (by omega) (by omega) (fA (Int.toNat_natCast _))) ?_)));simp only[zz];refine aJ rfl (lies1 hco eC) ?_;simp only[zz];refine aA (aB) (aA (qC rfl rfl (Bp hm64)) (aA (Ko rfl rfl (Is (s:=sh) (hc (by omega)) (Bq (by omega)) (by omega))) ?_));simp only[zz];refine aA (aM aW aV rfl rfl (by omega) (by omega) (fA (Int.toNat_natCast _))) ?_;simp only[zz];refine dL rfl (by simp only[zz];rfl) (by exact aV) hB1 (by simp;omega) (by simp [Value.oneCell']) ?_;clear hB1;intro w2 hC hB1;replace hX:=hX.chg hC hG1;clear hC;rw [eX (by omega)] at hB1;refine aG (hK10 _ _ ?_);refine wp_region_lit (aA (aB) (aA (aB) (aA (aQ rfl rfl (aN (by omega) (by omega))) ?_)));simp only[zz];refine aA (aB) (aA (pE rfl rfl (by omega) Om) (aA (aM aW aV rfl rfl (by omega) (by omega) (fA (show _ = i + 1 by omega))) ?_));simp only[zz];refine dL rfl (by simp only[zz];rfl) (by exact aV) hB1 (by simp;omega) (by simp [Value.oneCell']) ?_;clear hB1;intro w3 hC hB1;replace hX:=hX.chg hC hG1;clear hC;rw [eX (by simp;omega)] at hB1;refine aG (hK7 _ _ ?_);refine wp_region_lit (aA (aQ rfl rfl (aN (by omega) (by omega))) (aA (aB) ?_));simp only[zz];refine aG ?_;obtain ⟨r1,r2,r3,r4⟩:=Kz (by omega) (by omega) hlo hv hz hd (by omega) (hc (by omega)) hla;rw [show ((i:Int) + 1) = ((i + 1 : Nat) : Int) by omega];simp only[Exit.inBlock,Exit.then];refine ⟨xs.length - (i + 1),_,?_,rfl,?_,?_⟩
   · omega
   · simp only[zz,zv]
   ·
    simp only[zQ,zR,zD,zE];exact ⟨i + 1,(os.set i (os[i] + xs[i] * 2 ^ sh % 4294967296)).set (i + 1) (xs[i] * 2 ^ sh / 4294967296),rfl,hX,hB1,by omega,by simpa using hlo,r1,r2,r3,r4,rfl⟩
  ·
   refine wp_exit ?_;refine hK3 _ _ (aD (fun K11 hK11=>?_));obtain rfl : i = xs.length:=by omega
   refine wp_region_lit (aA (aB) (aA (aF) ?_));simp only[zz];refine aG (hK11 _ _ ?_);refine wp_ret ?_;try simp only[Exit.inBlock,Exit.then]
   refine bS rfl rfl ?_;try simp only[zD,zE]
   exact ⟨_,rfl,hX,_,os,rfl,hG1,hB1,hlo,hd,by rw [hv,List.take_length]⟩
theorem Wf {A : Option Addr} {xs : List Nat} {na ca sh : Nat} (w : World) (hS : cQ w A na ca xs) (hlx : xs.length ≤ 1099511627776) (hn : sh ≤ 31) : eI prog 136 [.slice A na ca,.int .i64 (sh : Int)] w (fI (val 4294967296 xs / 2 ^ sh)):=by
 skip
 refine ⟨adO,?_⟩;have hX:=dD.refl w;obtain rfl:=hS.eq
 go_enter func136,ntmps136
 refine aD (fun K1 hK1=>wp_region_lit (aA (aF) ?_));simp only[zz];refine aG (hK1 _ _ ?_);refine aD (fun K2 hK2=>wp_region_lit (aA (aB) (aA (bF rfl aW rfl) ?_)));simp only[zz];refine lR aW kT rfl rfl rfl (Int.toNat_natCast _) (Int.toNat_natCast _) (by omega) (by omega) (by omega) (by omega) ?_;intro w1 g1 hE hg1 hB1;have hG1:=Nat.le_trans hX.size hg1;replace hX:=hX.trans hE;clear hE hg1;simp only[zz];refine aA (aF) ?_;simp only[zz];refine aG ?_;rw [fC] at hB1;refine hK2 _ _ (aD (fun K3 hK3=>aD (fun K4 hK4=>wp_region_lit (aA (aB) (aA (bF rfl aW rfl) (aA (aB) ?_))))));simp only[zz];refine aG (hK4 _ _ ?_);refine wp_block (bM [13] [6,7,14,15,16,17,18,19,20,21,22,23,24,25,26,27,28,29,30,31,32,33,34,35,36,37,38,39,40,41] (fun n vs wl=>∃ (i : Nat) (os : List Nat),vs = [.int .i64 (i:Int)] ∧ (dD w wl) ∧ (fX wl g1 (os.map jF) 126) ∧ (i ≤ xs.length) ∧ (os.length = xs.length) ∧ (val 4294967296 os = val 4294967296 (xs.take i) / 2 ^ sh) ∧ (os.drop i = List.replicate (xs.length - i) 0) ∧ (dB 4294967296 os) ∧ (0 < i → ∀ h : i - 1 < os.length,os[i - 1] < 2 ^ (32 - sh)) ∧ (n = xs.length - i)) ?_ ?_)
 ·
  apply Exists.intro;simp only[zQ,zR,zD,zE];exact ⟨0,List.replicate xs.length 0,rfl,hX,hB1,by omega,by simp,by rw [eO,List.take_zero,show val 4294967296 [] = 0 from rfl,Nat.zero_div],rfl,fun x hx=>by rw [List.eq_of_mem_replicate hx];decide,fun h=>absurd h (by omega),rfl⟩
 ·
  intro n vs wr hI u;obtain ⟨i,os,rfl,hX,hB1,hi,hlo,hv,hz,hd,hc,hn⟩:=hI;simp only[zu,zF,zG];refine aD (fun K5 hK5=>wp_region_lit (aA (cJ rfl rfl) ?_));simp only[zz];refine aG (hK5 _ _ ?_);refine aD (fun K6 hK6=>?_);refine cO rfl (fun hc1=>?_) (fun hc1=>?_)
  ·
   refine wp_skip ?_;refine hK6 _ _ (aD (fun K7 hK7=>wp_block (aD (fun K8 hK8=>?_))));obtain ⟨a,rfl,hca,hla⟩:=(hS.ext hX).get (show i < xs.length by omega);refine wp_region_lit (aA (aB) (aA (aM aW aV rfl rfl (by omega) (by omega) (lT (Int.toNat_natCast _))) ?_));simp only[zz];refine aJ rfl (lies1 hca eC) ?_;simp only[zz];refine aA (aF) (aA (aF) ?_);simp only[zz];refine aG (hK8 _ _ ?_);refine aD (fun K9 hK9=>?_);have hco:=hB1.word (show i < os.length by omega);obtain ⟨z1,z2⟩:=gN hz (by omega);have hq : xs[i] / 2 ^ sh < 4294967296:=Nat.lt_of_le_of_lt (Nat.div_le_self _ _) hla;refine iS 9 aO (by kernel_rfl) ?_;simp only[zy];refine aL (aB) (aL (aB) (aL (aM aW aV rfl rfl (by omega) (by omega) (fA (Int.toNat_natCast _))) ?_));simp only[zz];refine lQ rfl (fun _ hE'=>(lies1 (hE'.cell hco) eC)) ?_;simp only[zz];refine aL (aB) (aL (aB) (aL (pE rfl rfl (by omega) (abe (n:=sh) (by omega))) ?_));simp only[zz];refine aL (Ko rfl rfl (Is (s:=0) (c:=xs[i] / 2 ^ sh) (by omega) (by omega) (by omega))) (aL (aM aW aV rfl rfl (by omega) (by omega) (fA (Int.toNat_natCast _))) ?_);simp only[zz];refine dF ?_;intro w2 hE;replace hB1:=hB1.ext hE;replace hX:=hX.trans hE;clear hE;refine dL rfl (by simp only[zz];rfl) (by exact aV) hB1 (by simp;omega) (by simp [Value.oneCell']) ?_;clear hB1;intro w3 hC hB1;replace hX:=hX.chg hC hG1;clear hC;rw [eX (by omega),z1,Nat.zero_add] at hB1;refine aG (hK9 _ _ ?_);refine aD (fun K10 hK10=>wp_region_lit (aA (aB) (aA (sU rfl rfl) ?_)));simp only[zz];refine aG (hK10 _ _ ?_);refine cO rfl (fun hc2=>?_) (fun hc2=>?_)
   ·
    obtain ⟨j,rfl⟩ : ∃ j,i = j + 1:=⟨i - 1,by omega⟩
    have hm64:=On (x:=xs[j + 1]) (n:=32 - sh) (by omega) hla;have hcj:=hc (by omega) (by omega);simp only[Nat.add_sub_cancel] at hcj;have hf:=Br (x:=xs[j + 1]) (n:=32 - sh) (by omega) hcj;have hmm : xs[j + 1] * 2 ^ (32 - sh) % 4294967296 < 4294967296:=Nat.mod_lt _ (by decide);have hco2:=hB1.word (show j < (os.set (j + 1) (xs[j + 1] / 2 ^ sh)).length by simp;omega);rw [List.getElem_set_ne (by omega)] at hco2;refine iS 12 aO (by kernel_rfl) ?_;simp only[zy];refine aL (aB) (aL (aB) (aL (gL rfl rfl (aN (by omega) (by omega))) ?_));simp only[zz];refine aL (aM aW aV rfl rfl (by omega) (by omega) (fA (show _ = j by omega))) ?_;simp only[zz];refine lQ rfl (fun _ hE'=>(lies1 (hE'.cell hco2) eC)) ?_;simp only[zz];refine aL (aB) (aL (aB) (aL (gL rfl rfl ((aN (by omega) (by omega)).trans (show (32 : Int) - (sh : Int) = ((32 - sh : Nat) : Int) by omega))) ?_));simp only[zz];refine aL (Ao rfl rfl (by omega) (rL (n:=32 - sh) (by omega) hm64)) (aL (qC rfl rfl (Bp hm64)) (aL (Ko rfl rfl (Is (s:=32 - sh) hcj (Bq (by omega)) (by omega))) ?_));simp only[zz];refine aL (aM aW aV rfl rfl (by omega) (by omega) (fA (show _ = j by omega))) ?_;simp only[zz];refine dF ?_;intro w4 hE;replace hB1:=hB1.ext hE;replace hX:=hX.trans hE;clear hE;refine dL rfl (by simp only[zz];rfl) (by exact aV) hB1 (by simp;omega) (by simp [Value.oneCell']) ?_;clear hB1;intro w5 hC hB1;replace hX:=hX.chg hC hG1;clear hC;rw [eX (by simp;omega)] at hB1;refine aG (hK7 _ _ ?_);refine wp_region_lit (aA (aQ rfl rfl (aN (by omega) (by omega))) (aA (aB) ?_));simp only[zz];refine aG ?_;obtain ⟨r1,r2,r3⟩:=Fx (n:=sh) (by omega) (by omega) hlo hv hz hd hS.digs (by omega) hcj;rw [show (((j + 1 : Nat) : Int) + 1) = ((j + 1 + 1 : Nat) : Int) by omega];simp only[Exit.inBlock,Exit.then];refine ⟨xs.length - (j + 1 + 1),_,?_,rfl,?_,?_⟩
    · omega
    · simp only[zz,zv]
    ·
     simp only[zQ,zR,zD,zE];exact ⟨j + 1 + 1,(os.set (j + 1) (xs[j + 1] / 2 ^ sh)).set j (os[j] + xs[j + 1] * 2 ^ (32 - sh) % 4294967296),rfl,hX,hB1,by omega,by simpa using hlo,r1,r2,r3,fun _ h=>by simp only[Nat.add_sub_cancel];rw [List.getElem_set_ne (by omega),List.getElem_set_self];exact Xm (by omega) hla,rfl⟩
   ·
    refine wp_skip ?_;refine hK7 _ _ (wp_region_lit (aA (aQ rfl rfl (aN (by omega) (by omega))) (aA (aB) ?_)));simp only[zz];refine aG ?_;obtain rfl : i = 0:=by omega
    obtain ⟨r1,r2,r3⟩:=Fv (n:=sh) (by omega) (by omega) hlo hv hz hd hla;rw [show (((0 : Nat) : Int) + 1) = ((0 + 1 : Nat) : Int) by omega];simp only[Exit.inBlock,Exit.then];refine ⟨xs.length - (0 + 1),_,?_,rfl,?_,?_⟩
    · omega
    · simp only[zz,zv]
    ·
     simp only[zQ,zR,zD,zE];exact ⟨0 + 1,os.set 0 (xs[0] / 2 ^ sh),rfl,hX,hB1,by omega,by simpa using hlo,r1,r2,r3,fun _ h=>by simp only[Nat.add_sub_cancel];rw [List.getElem_set_self];exact Xm (by omega) hla,rfl⟩
  ·
   refine wp_exit ?_;refine hK3 _ _ (aD (fun K11 hK11=>?_));obtain rfl : i = xs.length:=by omega
   refine wp_region_lit (aA (aB) ?_);simp only[zz];refine bK rfl rfl (pY _ (hB1.nat hd (by omega) (by omega))) ?_;rintro v w2 hE rfl;replace hB1:=hB1.ext hE;replace hX:=hX.trans hE;clear hE;simp only[zz];refine aA (aF) ?_;simp only[zz];refine aG (hK11 _ _ ?_);refine wp_ret ?_;try simp only[Exit.inBlock,Exit.then]
   refine bS rfl rfl ?_;try simp only[zD,zE]
   exact ⟨_,rfl,hX,fI.of_trim (hB1.nat hd (n:=xs.length) (by omega) (by omega)) (by rw [hv,List.take_length])⟩
theorem So {A : Option Addr} {xs : List Nat} {na ca : Nat} (w : World) (hS : cQ w A na ca xs) : eI prog 142 [.slice A na ca] w (abi xs):=by
 skip
 refine ⟨adR,?_⟩;have hX:=dD.refl w;obtain rfl:=hS.eq;have hl:=hS.len
 go_enter func142,ntmps142
 refine aD (fun K1 hK1=>wp_region_lit (aA (aF) ?_));simp only[zz];refine aG (hK1 _ _ ?_);refine aD (fun K2 hK2=>aD (fun K3 hK3=>?_));rcases A with _ | a
 ·
  obtain rfl:=hS.none;refine wp_region_lit (aA (aB) (aA (Kw aW rfl rfl) ?_));simp only[zz];refine aG (hK3 _ _ ?_);refine cK rfl (aD (fun K4 hK4=>wp_region_lit (aA (aF) ?_)));simp only[zz];refine aG (hK4 _ _ ?_);refine wp_ret ?_;try simp only[Exit.inBlock,Exit.then]
  refine bS rfl rfl ?_;try simp only[zD,zE]
  exact ⟨_,rfl,hX,none,0,rfl,cQ.nil _⟩
 ·
  refine wp_region_lit (aA (aB) (aA (Kw aW rfl rfl) ?_));simp only[zz];refine aG (hK3 _ _ ?_);refine jM rfl (wp_skip ?_);refine hK2 _ _ (aD (fun K5 hK5=>wp_region_lit ?_));refine Kx aW (c:=1) (by kernel_rfl)  ?_;intro w1 g1 hE hg1 hB1;have hG1:=Nat.le_trans hX.size hg1;replace hX:=hX.trans hE;clear hE hg1;simp only[zz];refine aA (aB) ?_;simp only[zz];refine Kr rfl aW kT rfl (by decide) rfl (Bh.build0 (base:=g1) hB1 (Nat.le_refl _)) rfl (news:=xs.map jF) (by simp) (hS.ext hX).words (fun u hu=>by obtain ⟨x,_,rfl⟩:=List.mem_map.1 hu;rfl) (by omega) (by omega) (Nat.le_of_lt hB1.lt) ?_;intro v1 w9 hO hGr _;replace hX:=hX.grown hGr hG1;clear hB1 hGr;simp only[List.nil_append,Nat.zero_add] at hO;obtain ⟨A1,c1,rfl,hN⟩:=cQ.of_owns hO rfl hS.digs (by omega);simp only[zz];refine aA (aF) ?_;simp only[zz];refine aG (hK5 _ _ ?_);refine wp_ret ?_;try simp only[Exit.inBlock,Exit.then]
  refine bS rfl rfl ?_;try simp only[zD,zE]
  exact ⟨_,rfl,hX,A1,c1,rfl,hN⟩
end Go.Proofs.YtfohfflkhpfjeaaGreatDoor
namespace Go.Proofs.YtfohfflkhpfjeaaGreatDoor
open Go.Proofs.Tryz
open Go.RowKit Go.Lith
set_option maxRecDepth 100000
attribute [local irreducible] wpList wpQuiet dC Code.wp
theorem Ah {A : Option Addr} {xs : List Nat} {na cap : Nat} (w : World) (hS : cQ w A na cap xs) : eI prog 132 [.slice A na cap] w (fI (val 4294967296 xs)) :=
 (pY w hS).mono fun v w' hE h=>by subst h;exact fI.of_trim (hS.ext hE) rfl
theorem aav {A B : Option Addr} {xs ys : List Nat} {na nb ca cb d : Nat} (w : World) (hS : cQ w A na ca xs) (hR : cQ w B nb cb ys) (hl : ys.length + 1 ≤ xs.length) (hly : ys.length ≤ 1099511627776) (hdd : d < 4294967296) : eI prog 134 [.slice A na ca,.slice B nb cb,.int .u64 (d : Int)] w (fun v _=>v = .bool (decide (val 4294967296 (xs.take (ys.length + 1)) < val 4294967296 ys * d))):=by
 skip
 refine ⟨adM,?_⟩;have hX:=dD.refl w;obtain rfl:=hS.eq;obtain rfl:=hR.eq;have hle:=hS.le;have hcap:=hS.cap
 go_enter func134,ntmps134
 refine aD (fun K1 hK1=>wp_region_lit (aA (aF) ?_));simp only[zz];refine aG (hK1 _ _ ?_);refine aD (fun K2 hK2=>wp_region_lit (aA (aB) (aA (aB) (aA (bF rfl aW rfl) ?_))));simp only[zz];refine aA (aQ rfl rfl (aN (by omega) (by omega))) (aA (lC aW aV rfl rfl (show _ = ys.length + 1 by omega) (by omega) (by omega)) ?_);simp only[zz];refine bK rfl rfl (So _ ((hS.ext hX).head hl)) ?_;rintro v w1 hE ⟨A1,c1,rfl,hN1⟩;replace hX:=hX.trans hE;clear hE;simp only[zz];refine bK rfl rfl (Ah _ hN1) ?_;rintro v w2 hE ⟨A2,c2,rfl,hN2⟩;replace hX:=hX.trans hE;clear hE;simp only[zz];refine aA (aB) (aA (aB) ?_);simp only[zz];refine xC aW (z:=.int .u64 0) (by kernel_rfl) rfl (by simp only[zz];rfl) (by rfl) ?_;intro w3 g1 hE hg1 hB1;have hG1:=Nat.le_trans hX.size hg1
 (try replace hN2:=hN2.ext hE);replace hX:=hX.trans hE
 clear hE hg1;simp only[zz];refine bK rfl rfl (Ah _ (hB1.nat (os:=[d]) (qI hdd) rfl (by omega))) ?_;rintro v w4 hE ⟨A3,c3,rfl,hN3⟩
 (try replace hN2:=hN2.ext hE);replace hX:=hX.trans hE
 clear hE;simp only[zz];refine bK rfl rfl (aau _ (hR.ext hX) hN3 hly (Nat.le_trans (nI (qI hdd)) (by simp))) ?_;rintro v w5 hE ⟨A4,c4,rfl,hN4⟩
 (try replace hN2:=hN2.ext hE);replace hX:=hX.trans hE
 clear hE;simp only[zz];refine bK rfl rfl (Sk _ hN2 hN4 (fE _) (fE _)) ?_;rintro v w6 hE rfl;replace hX:=hX.trans hE;clear hE;simp only[zz];refine aA (cJ rfl rfl) (aA (aF) ?_);simp only[zz];refine aG (hK2 _ _ ?_);refine wp_ret ?_;try simp only[Exit.inBlock,Exit.then]
 refine bS rfl rfl ?_;try simp only[zD,zE]
 exact ⟨_,rfl,hX,by rw [Xo];simp only[bX,lU]⟩
theorem Ke {B : Option Addr} {os ys : List Nat} {g0 off na nb cb d : Nat} (w : World) (hB0 : fX w g0 (os.map jF) 126) (hd : dB 4294967296 os) (hlo : os.length ≤ 1099511627776) (hR : cQ w B nb cb ys) (hoff : off + (ys.length + 1) ≤ os.length) (hna : na = os.length - off) (hdd : d < 4294967296) (hge : val 4294967296 ys * d ≤ val 4294967296 ((os.drop off).take (ys.length + 1))) : Xn prog 135 [.slice (some ⟨g0,off,none⟩) na na,.slice B nb cb,.int .u64 (d : Int)] w g0 (fun _ w'=>fX w' g0 ((laid os off (ys.length + 1) (val 4294967296 ((os.drop off).take (ys.length + 1)) - val 4294967296 ys * d)).map jF) 126):=by
 skip
 refine ⟨adN,?_⟩;have hX:=dD.refl w;obtain rfl:=hR.eq;have hg0:=hB0.lt;have hS : cQ w (some ⟨g0,off,none⟩) na na (os.drop off):=by
  have h:=(hB0.nat hd rfl (by omega)).drop (show off ≤ os.length by omega) hna;rw [fQ,Nat.zero_add] at h;rwa [hna] at *
 have hle : ys.length + 1 ≤ (os.drop off).length:=by simp;omega
 obtain ⟨V,hV⟩ : ∃ V,V = val 4294967296 ((os.drop off).take (ys.length + 1)):=⟨_,rfl⟩
 rw [← hV] at hge ⊢
 go_enter func135,ntmps135
 refine aD (fun K1 hK1=>wp_region_lit (aA (aB) (aA (aB) (aA (bF rfl aW rfl) ?_))));simp only[zz];refine aA (aQ rfl rfl (aN (by omega) (by omega))) (aA (lC aW aV rfl rfl (show _ = ys.length + 1 by omega) (by omega) (by omega)) ?_);simp only[zz];refine bK rfl rfl (So _ ((hS.ext hX).head hle)) ?_;rintro v w1 hE ⟨A1,c1,rfl,hN1⟩;replace hB0:=hB0.ext hE;replace hX:=hX.trans hE;clear hE;simp only[zz];refine aA (aB) (aA (aB) ?_);simp only[zz];refine xC aW (z:=.int .u64 0) (by kernel_rfl) rfl (by simp only[zz];rfl) (by rfl) ?_;intro w2 g1 hE hg1 hB1;have hG1:=Nat.le_trans hX.size hg1;have hN1_0 : g1 ≠ g0:=Nat.ne_of_gt (Nat.lt_of_lt_of_le hB0.lt hg1);replace hB0:=hB0.ext hE;(try replace hN1:=hN1.ext hE);replace hX:=hX.trans hE;clear hE hg1;simp only[zz];refine bK rfl rfl (Ah _ (hB1.nat (os:=[d]) (qI hdd) rfl (by omega))) ?_;rintro v w3 hE ⟨A3,c3,rfl,hN3⟩;replace hB0:=hB0.ext hE;(try replace hN1:=hN1.ext hE);replace hX:=hX.trans hE;clear hE;simp only[zz];refine bK rfl rfl (aau _ (hR.ext hX) hN3 (by omega) (Nat.le_trans (nI (qI hdd)) (by simp))) ?_;rintro v w4 hE ⟨A4,c4,rfl,hN4⟩;replace hB0:=hB0.ext hE;(try replace hN1:=hN1.ext hE);replace hX:=hX.trans hE;clear hE;simp only[zz];have hsz:=hX.size;refine bK rfl rfl (aat _ hN1 hN4 (by simp only[bX,lU];rw [List.length_take,Nat.min_eq_left hle];exact Bi hR.digs hdd) (by simp only[bX,lU];rw [← hV];exact hge) (by rw [List.length_take];omega)) ?_;rintro v w5 hE ⟨⟨A5,c5,rfl,hN5⟩,hne⟩;replace hB0:=hB0.ext hE;replace hX:=hX.trans hE;clear hE;replace hne : ∀ a,A5 = some a → a.block ≠ g0:=fun a e=>by subst e;have:=hne a _ _ rfl;omega
 simp only[bX,lU,← hV] at hN5 ⊢;have hm : (digs 4294967296 (V - val 4294967296 ys * d)).length ≤ ys.length + 1:=dY (by omega) (Nat.lt_of_le_of_lt (Nat.sub_le _ _) (by have h:=iN ((hd.drop off).take (ys.length + 1));rw [List.length_take,Nat.min_eq_left hle,← hV] at h;exact h));simp only[zz];refine aA (aF) ?_;simp only[zz];refine aG (hK1 _ _ ?_);refine aD (fun K2 hK2=>?_);replace hX:=hX.upd g0;have hG0 : w.heap.size ≤ g0 ∨ g0 = g0:=.inr rfl;refine wp_region_lit (aA (aB) (aA (aB) (aA (bF rfl aW rfl) ?_)));simp only[zz];refine aA (aQ rfl rfl (aN (by omega) (by omega))) (aA (lC aW aV rfl rfl (show _ = ys.length + 1 by omega) (by omega) (by omega)) ?_);simp only[zz];refine abg (z:=.int .u64 0) rfl aW (by kernel_rfl) rfl rfl (by omega) hB0 (by simp;omega) rfl ?_;clear hB0;intro w6 hC hB0
 (try replace hN5:=hN5.chg hC (by first | assumption | rfl));replace hX:=hX.chg hC hG0
 clear hC;refine aG (hK2 _ _ ?_);refine wp_region_lit (aA (aB) (aA (aB) ?_));simp only[zz];refine abj rfl aW (by kernel_rfl) rfl rfl (g:=g0) (o:=off) (n:=na) (m:=(digs 4294967296 (V - val 4294967296 ys * d)).length) (us:=(digs 4294967296 (V - val 4294967296 ys * d)).map jF) (by rw [List.length_map];exact (Nat.min_eq_left (by omega)).symm) hN5.src hB0 (by rw [sV (by simp;omega)];simp;omega) Xp ?_;clear hB0;intro w7 hC hB0;replace hX:=hX.chg hC hG0;clear hC;simp only[zz];refine aG ?_;try simp only[Exit.inBlock,Exit.then,if_true]
 exact aeF rfl (⟨_,rfl,hX,by rw [← Ty hoff hm];exact hB0⟩)
end Go.Proofs.YtfohfflkhpfjeaaGreatDoor
namespace Go.Proofs.YtfohfflkhpfjeaaGreatDoor
open Go.Proofs.Tryz
open Go.RowKit Go.Lith
set_option maxRecDepth 100000
attribute [local irreducible] wpList wpQuiet dC Code.wp
theorem afV {A B : Option Addr} {xs ys : List Nat} {na nb ca cb : Nat} (w : World) (hS : cQ w A na ca xs) (hR : cQ w B nb cb ys) (tx : fN xs) (ty : fN ys) (h0 : 0 < val 4294967296 ys) (hlx : xs.length ≤ 1000000000000) (hly : ys.length ≤ 1000000000000) : eI prog 115 [.slice A na ca,.slice B nb cb] w (fun v w'=>∃ q r,v = .tuple #[q,r] ∧ fI (val 4294967296 xs / val 4294967296 ys) q w' ∧ fI (val 4294967296 xs % val 4294967296 ys) r w'):=by
 skip
 refine ⟨ady,?_⟩;have hX:=dD.refl w;obtain rfl:=hS.eq;obtain rfl:=hR.eq
 go_enter func115,ntmps115
 refine aD (fun K1 hK1=>wp_region_lit (aA (aF) (aA (aF) ?_)));simp only[zz];refine aG (hK1 _ _ ?_);refine aD (fun K2 hK2=>aD (fun K3 hK3=>wp_region_lit (aA (aB) (aA (aB) ?_))));simp only[zz];refine bK rfl rfl (Sk _ (hS.ext hX) (hR.ext hX) tx ty) ?_;rintro v w1 hE rfl;replace hX:=hX.trans hE;clear hE;simp only[zz];refine aA (cJ rfl rfl) ?_;simp only[zz];refine aG (hK3 _ _ ?_);refine cO rfl (fun hc1=>?_) (fun hc1=>?_)
 ·
  have hlt:=rM.1 hc1;refine aD (fun K4 hK4=>wp_region_lit (aA (aB) (aA (aF) (aA (aF) ?_))));simp only[zz];refine aG (hK4 _ _ ?_);refine wp_ret ?_;try simp only[Exit.inBlock,Exit.then]
  refine nV rfl rfl rfl ?_;try simp only[zD,zE]
  exact ⟨_,rfl,hX,_,_,rfl,by rw [Nat.div_eq_of_lt hlt];exact fI.zero _,by rw [Nat.mod_eq_of_lt hlt];exact fI.self (hS.ext hX) tx⟩
 ·
  have hYX : val 4294967296 ys ≤ val 4294967296 xs:=Nat.le_of_not_lt fun h=>hc1 (rM.2 h);refine wp_skip (hK2 _ _ ?_);refine aD (fun K5 hK5=>aD (fun K6 hK6=>wp_region_lit (aA (aB) (aA (bF rfl aW rfl) (aA (vJ rfl rfl) ?_)))));simp only[zz];refine aG (hK6 _ _ ?_);refine cO rfl (fun hc2=>?_) (fun hc2=>?_)
  ·
   refine aD (fun K7 hK7=>?_);obtain ⟨y,rfl⟩ : ∃ y,ys = [y]:=List.length_eq_one_iff.1 (by omega);obtain ⟨b,rfl,hcb,hyb⟩:=(hR.ext hX).get (i:=0) (by simp);simp only[List.getElem_cons_zero] at hcb hyb;refine wp_region_lit (aA (aB) (aA (aB) (aA (aM aW aV rfl rfl (by decide) (by omega) rfl) ?_)));simp only[zz];refine aJ rfl (lies1 hcb eC) ?_;simp only[zz];refine bK rfl rfl (Sl _ (hS.ext hX) (by omega) (by rw [lU] at h0;exact h0) (by omega)) ?_;rintro v w2 hE ⟨q,rfl,A1,c1,rfl,hN1⟩;replace hX:=hX.trans hE;clear hE;simp only[zz];refine aA (aB) (aA (aZ rfl rfl) (aA (aZ rfl rfl) ?_));simp only[zz];refine aA (aF) (aA (aF) ?_);simp only[zz];refine aG (hK7 _ _ ?_);refine aD (fun K8 hK8=>wp_region_lit (aA (aB) (aA (aB) ?_)));simp only[zz];refine xC aW (z:=.int .u64 0) (by kernel_rfl) rfl (by simp only[zz];rfl) (by rfl) ?_;intro w3 g1 hE hg1 hB1;have hG1:=Nat.le_trans hX.size hg1
   (try replace hN1:=hN1.ext hE);replace hX:=hX.trans hE
   clear hE hg1;simp only[zz];refine bK rfl rfl (Ah _ (hB1.nat (os:=[val 4294967296 xs % y]) (qI (Nat.lt_of_lt_of_le (Nat.mod_lt _ (by rw [lU] at h0;exact h0)) (by omega))) rfl (by omega))) ?_;rintro v w4 hE ⟨A2,c2,rfl,hN2⟩
   (try replace hN1:=hN1.ext hE);replace hX:=hX.trans hE
   clear hE;simp only[lU] at hN2 ⊢;simp only[zz];refine aA (aF) (aA (aF) ?_);simp only[zz];refine aG (hK8 _ _ ?_);refine wp_ret ?_;try simp only[Exit.inBlock,Exit.then]
   refine nV rfl rfl rfl ?_;try simp only[zD,zE]
   exact ⟨_,rfl,hX,_,_,rfl,by rw [lU];exact ⟨A1,c1,rfl,hN1⟩,by rw [lU];exact ⟨A2,c2,rfl,hN2⟩⟩
  ·
   have hl2 : 2 ≤ ys.length:=by
    rcases ys with _ | ⟨y,ys⟩
    · exact absurd h0 (by simp [val])
    · simp only[List.length_cons] at hc2 ⊢;omega
   have hxy : ys.length ≤ xs.length:=by
    rcases Nat.lt_or_ge xs.length ys.length with h | h
    · have:=mH (B:=4294967296) (by omega) hS.digs hR.digs ty h;omega
    · exact h
   obtain ⟨b,rfl,_,hyb⟩:=hR.get (i:=ys.length - 1) (by omega);have htpy:=Aq ty (by omega);refine wp_skip (hK5 _ _ ?_);refine aD (fun K9 hK9=>wp_region_lit (aA (aF) ?_));simp only[zz];refine aG (hK9 _ _ ?_);refine aD (fun K10 hK10=>wp_block ?_);refine bM [8] [39,40,41,42,43,44,45,46,47,48,49,50] (fun n vs wl=>∃ (sh : Nat),vs = [.int .i64 (sh:Int)] ∧ (dD w wl) ∧ (ys[ys.length - 1] * 2 ^ sh < 4294967296) ∧ (sh ≤ 31) ∧ (n = 32 - sh)) ?_ ?_
   ·
    apply Exists.intro;simp only[zQ,zR,zD,zE];exact ⟨0,rfl,hX,by simpa using hyb,by omega,rfl⟩
   ·
    intro n vs wr hI u;obtain ⟨sh,rfl,hX,hsh,hs31,hn⟩:=hI;simp only[zu,zF,zG];refine aD (fun K11 hK11=>aD (fun K12 hK12=>?_));have hcb:=(hR.ext hX).at (show ys.length - 1 < ys.length by omega);refine wp_region_lit (aA (aB) (aA (aB) (aA (bF rfl aW rfl) ?_)));simp only[zz];refine aA (gL rfl rfl (aN (by omega) (by omega))) (aA (aM aW aV rfl rfl (by omega) (by omega) (lT (show _ = ys.length - 1 by omega))) ?_);simp only[zz];refine aJ rfl (lies1 hcb eC) ?_;simp only[zz];refine aA (aB) (aA (Ao rfl rfl (by omega) (rL (n:=sh) (by omega) (On (by omega) hyb))) (aA (pE rfl rfl (by omega) ac1) ?_));simp only[zz];refine aA (vJ rfl rfl) ?_;simp only[zz];refine aG (hK12 _ _ ?_);refine cO rfl (fun hc3=>?_) (fun hc3=>?_)
    ·
     refine wp_skip ?_;refine hK11 _ _ (wp_block (wp_region_lit (aA (aB) (aA (aQ rfl rfl (aN (by omega) (by omega))) (aA (aF) ?_)))));simp only[zz];refine aG ?_;rw [show ((sh:Int) + 1) = ((sh + 1 : Nat) : Int) by omega];have hlt31 : ys[ys.length - 1] * 2 ^ sh < 2147483648:=by omega
     have hps : 2 ^ sh < 2 ^ 31:=Nat.lt_of_le_of_lt (Nat.le_mul_of_pos_left (2 ^ sh) htpy) hlt31;have hs30 : sh < 31:=(Nat.pow_lt_pow_iff_right (by omega)).1 hps;simp only[Exit.inBlock,Exit.then];refine ⟨32 - (sh + 1),_,?_,rfl,?_,?_⟩
     · omega
     · simp only[zz,zv]
     ·
      simp only[zQ,zR,zD,zE];exact ⟨sh + 1,rfl,hX,by rw [Nat.pow_succ,← Nat.mul_assoc];omega,by omega,rfl⟩
    ·
     refine wp_exit ?_;refine hK10 _ _ (aD (fun K13 hK13=>wp_region_lit (aA (aB) (aA (aB) ?_))));simp only[zz];refine bK rfl rfl (Sn _ (hS.ext hX) (by omega) (by omega)) ?_;rintro v w2 hE ⟨g1,us,rfl,hg1,hB1,hlu,hdu,hvu⟩;have hG1:=Nat.le_trans hX.size hg1;replace hX:=hX.trans hE;clear hE hg1;simp only[zz];refine aA (aB) (aA (aB) ?_);simp only[zz];refine bK rfl rfl (Sn _ (hR.ext hX) (by omega) (by omega)) ?_;rintro v w3 hE ⟨g2,vs0,rfl,hg2,hB2,hlv,hdv,hvv⟩;have hG2:=Nat.le_trans hX.size hg2;have hN2_1 : g2 ≠ g1:=Nat.ne_of_gt (Nat.lt_of_lt_of_le hB1.lt hg2);replace hB1:=hB1.ext hE;replace hX:=hX.trans hE;clear hE hg2;rw [← hlv];simp only[zz];refine bK rfl rfl (pY _ (hB2.nat hdv rfl (by omega))) ?_;rintro v w4 hE rfl;replace hB1:=hB1.ext hE;replace hB2:=hB2.ext hE;replace hX:=hX.trans hE;clear hE;simp only[zz];refine aA (aF) (aA (aF) ?_);simp only[zz];refine aG ?_;obtain ⟨ds,hvs⟩ : ∃ ds,ds = trim vs0:=⟨_,rfl⟩
     rw [← hvs];have hlvs : ds.length = ys.length:=by rw [hvs];exact Tz hdv hvv hR.digs (by omega) hsh htpy hs31
     have hdvs : dB 4294967296 ds:=by rw [hvs];exact hdv.trim
     have hvvs : val 4294967296 ds = 2 ^ sh * val 4294967296 ys:=by rw [hvs,sX,hvv]
     obtain ⟨K,hK⟩ : ∃ K,K = xs.length + 1 - ds.length:=⟨_,rfl⟩
     refine hK13 _ _ ?_;refine aD (fun K14 hK14=>wp_region_lit (aA (aB) (aA (bF rfl aW rfl) (aA (aB) ?_))));simp only[zz];refine aA (bF rfl aW rfl) (aA (gL rfl rfl (aN (by omega) (by omega))) ?_);simp only[zz];refine lR aW kT rfl rfl rfl (show _ = K by omega) (show _ = K by omega) (by omega) (by omega) (by omega) (by omega) ?_;intro w5 g3 hE hg3 hB3;have hG3:=Nat.le_trans hX.size hg3;have hN3_1 : g3 ≠ g1:=Nat.ne_of_gt (Nat.lt_of_lt_of_le hB1.lt hg3);have hN3_2 : g3 ≠ g2:=Nat.ne_of_gt (Nat.lt_of_lt_of_le hB2.lt hg3);replace hB1:=hB1.ext hE;replace hB2:=hB2.ext hE;replace hX:=hX.trans hE;clear hE hg3;simp only[zz];refine aA (aF) ?_;simp only[zz];refine aG ?_;rw [fC] at hB3;refine hK14 _ _ (aD (fun K15 hK15=>?_));have hNv:=oN hB2 hdv (by omega);rw [← hvs] at hNv;have hct:=hNv.at (show ds.length - 1 < ds.length by omega);have hcs:=hNv.at (show ds.length - 2 < ds.length by omega);rw [fQ,Nat.zero_add] at hct hcs;refine kC aO (by kernel_rfl) (aL (aB) (aL (aB) (aL (bF rfl aW rfl) ?_)));simp only[zz];refine aL (gL rfl rfl (aN (by omega) (by omega))) (aL (aM aW aV rfl rfl (by omega) (by omega) (fA (show _ = ds.length - 1 by omega))) ?_);simp only[zz];refine lQ rfl (fun _ hE'=>(lies1 (hE'.cell hct) eC)) ?_;simp only[zz];refine aL (aB) (aL (aB) (aL (bF rfl aW rfl) ?_));simp only[zz];refine aL (gL rfl rfl (aN (by omega) (by omega))) (aL (aM aW aV rfl rfl (by omega) (by omega) (fA (show _ = ds.length - 2 by omega))) ?_);simp only[zz];refine lQ rfl (fun _ hE'=>(lies1 (hE'.cell hcs) eC)) ?_;simp only[zz];refine aL (aF) (aL (aF) ?_);simp only[zz];refine dF ?_;intro w6 hE;replace hB1:=hB1.ext hE;replace hB2:=hB2.ext hE;replace hB3:=hB3.ext hE;replace hX:=hX.trans hE;clear hE;have htv : 0 < ds[ds.length - 1]:=Aq (by rw [hvs];exact wZ _) (by omega);obtain ⟨top,htop⟩ : ∃ top,top = ds[ds.length - 1]:=⟨_,rfl⟩
     obtain ⟨sec,hsec⟩ : ∃ sec,sec = ds[ds.length - 2]:=⟨_,rfl⟩
     have htB : top < 4294967296:=htop ▸ hdvs _ (List.getElem_mem _);have hsB : sec < 4294967296:=hsec ▸ hdvs _ (List.getElem_mem _);rw [← htop] at htv;rw [← htop,← hsec];refine hK15 _ _ (aD (fun K16 hK16=>aD (fun K17 hK17=>?_)));clear hNv hct hcs;refine wp_region_lit (aA (aB) (aA (bF rfl aW rfl) (aA (gL rfl rfl (aN (by omega) (by omega))) ?_)));simp only[zz];refine aA (aF) ?_;simp only[zz];refine aG (hK17 _ _ ?_);refine wp_block (bM [14] [15,16,17,18,79,80,81,82,83,84,85,86,87,88,89,90,91,92,93,94,95,96,97,98,99,100,101,102,103,104,105,106,107,108,109,110,111,112,113,114,115,116,117,118,119,120,121,122,123,124,125,126,127,128,129,130,131,132,133,134,135,136,137,138,139,140,141,142,143,144,145,146] (fun n vs wl=>∃ (k : Nat) (us qs : List Nat),vs = [.int .i64 ((k:Int) - 1)] ∧ (dD w wl) ∧ (fX wl g1 (us.map jF) 126) ∧ (fX wl g2 (vs0.map jF) 126) ∧ (fX wl g3 (qs.map jF) 126) ∧ (k ≤ K) ∧ (us.length = xs.length + 1) ∧ (qs.length = K) ∧ (dB 4294967296 us) ∧ (dB 4294967296 qs) ∧ (val 4294967296 us + val 4294967296 qs * val 4294967296 ds = 2 ^ sh * val 4294967296 xs) ∧ (val 4294967296 (us.drop k) < val 4294967296 ds) ∧ (qs.take k = List.replicate k 0) ∧ (n = k)) ?_ ?_)
     ·
      apply Exists.intro;simp only[zQ,zR,zD,zE];exact ⟨K,us,List.replicate K 0,rfl,hX,hB1,hB2,hB3,Nat.le_refl _,hlu,by simp,hdu,fun x hx=>by rw [List.eq_of_mem_replicate hx];decide,by rw [eO,Nat.zero_mul];exact hvu,by rw [hK];exact Xu hS.digs hlu hvu (by omega) (by omega) hs31 (by rw [hvvs,hlvs];exact Ua (by omega) (by omega)),by rw [List.take_of_length_le (by simp)],rfl⟩
     ·
      intro n vs wr hI u;obtain ⟨k,us,qs,rfl,hX,hB1,hB2,hB3,hk,hlu,hlq,hdu,hdq,hI,hH,hz,hn⟩:=hI;simp only[zu,zF,zG];refine aD (fun K18 hK18=>aD (fun K19 hK19=>wp_region_lit (aA (aB) (aA (vI rfl rfl) ?_))));simp only[zz];refine aG (hK19 _ _ ?_);refine cO rfl (fun hc4=>?_) (fun hc4=>?_)
      ·
       obtain ⟨i,rfl⟩ : ∃ i,k = i + 1:=⟨k - 1,by omega⟩
       rw [show (((i + 1 : Nat) : Int) - 1) = (i : Int) by omega];have hi : i + ds.length < us.length:=by omega
       refine wp_skip ?_;refine hK18 _ _ (aD (fun K20 hK20=>wp_block (aD (fun K21 hK21=>wp_region_lit (aA (aB) (aA (aB) (aA (bF rfl aW rfl) ?_)))))));simp only[zz];refine aA (aQ rfl rfl (aN (by omega) (by omega))) (aA (aF) ?_);simp only[zz];refine aG ?_;rw [show ((i:Int) + (ds.length:Int)) = ((i + ds.length : Nat) : Int) by omega];refine hK21 _ _ (aD (fun K22 hK22=>?_));have hco1:=hB1.word (show i + ds.length < us.length by omega);have hco2:=hB1.word (show i + ds.length - 1 < us.length by omega);have hb1 : us[i + ds.length] < 4294967296:=hdu _ (List.getElem_mem _);have hb2 : us[i + ds.length - 1] < 4294967296:=hdu _ (List.getElem_mem _);obtain ⟨a3,ha3⟩ : ∃ a3,a3 = us[i + ds.length - 2]:=⟨_,rfl⟩
       have hb3 : a3 < 4294967296:=ha3 ▸ hdu _ (List.getElem_mem _);obtain ⟨U,hU⟩ : ∃ U,U = val 4294967296 (us.drop i):=⟨_,rfl⟩
       refine kC aO (by kernel_rfl) (aL (aB) (aL (aB) (aL (aM aW aV rfl rfl (by omega) (by omega) (fA (show _ = i + ds.length by omega))) ?_)));simp only[zz];refine lQ rfl (fun _ hE'=>(lies1 (hE'.cell hco1) eC)) ?_;simp only[zz];refine aL (Ao rfl rfl (by omega) (rL (n:=32) (by omega) (by omega))) (aL (aB) (aL (aB) ?_));simp only[zz];refine aL (gL rfl rfl (aN (by omega) (by omega))) (aL (aM aW aV rfl rfl (by omega) (by omega) (fA (show _ = i + ds.length - 1 by omega))) ?_);simp only[zz];refine lQ rfl (fun _ hE'=>(lies1 (hE'.cell hco2) eC)) ?_;simp only[zz];refine aL (Ko rfl rfl (Bo (s:=32) (c:=us[i + ds.length]) (by omega) (by omega) (by omega))) (aL (aF) ?_);simp only[zz];refine dF ?_;intro w7 hE;replace hB1:=hB1.ext hE;replace hB2:=hB2.ext hE;replace hB3:=hB3.ext hE;replace hX:=hX.trans hE;clear hE;obtain ⟨two,htwo⟩ : ∃ two : Nat,two = us[i + ds.length - 1] + us[i + ds.length] * 4294967296:=⟨_,rfl⟩
       rw [← htwo];have ht64 : two < 18446744073709551616:=by omega
       obtain ⟨P,hP,f1,f2,f3,f4,f5,f6,f7⟩:=Ub hdu hdvs (by omega) hi hH htwo htop hsec ha3 hU;obtain ⟨q,hq⟩ : ∃ q,q = U / val 4294967296 ds:=⟨_,rfl⟩
       have hq1 : q * val 4294967296 ds ≤ U:=by rw [hq];exact Nat.div_mul_le_self _ _
       have hV0 : 0 < val 4294967296 ds:=by omega
       have hq2 : U < (q + 1) * val 4294967296 ds:=by rw [← Nat.div_lt_iff_lt_mul hV0];omega
       have hqB : q < 4294967296:=by rw [hq,Nat.div_lt_iff_lt_mul hV0];exact f7
       refine hK22 _ _ ?_;refine aD (fun K23 hK23=>?_);refine kC aO (by kernel_rfl) (aL (aB) (aL (aB) (aL (jE rfl rfl (by omega) (Rn ht64)) ?_)));simp only[zz];refine aL (aB) (aL (aB) (aL (dK rfl rfl (by omega) Iu) ?_));simp only[zz];refine aL (aF) (aL (aF) ?_);simp only[zz];refine dF ?_;intro w8 hE;replace hB1:=hB1.ext hE;replace hB2:=hB2.ext hE;replace hB3:=hB3.ext hE;replace hX:=hX.trans hE;clear hE;refine hK23 _ _ (aD (fun K24 hK24=>wp_block ?_));refine bM [17,18] [104,105,106,107,108,109,110,111,112,113,114,115,116,117,118,119,120,121,122,123,124,125,126,127,128] (fun n vs wl=>∃ (gq rr : Nat),vs = [.int .u64 (gq:Int),.int .u64 (rr:Int)] ∧ (dD w wl) ∧ (fX wl g1 (us.map jF) 126) ∧ (fX wl g2 (vs0.map jF) 126) ∧ (fX wl g3 (qs.map jF) 126) ∧ (gq * top + rr = two) ∧ (q ≤ gq) ∧ (n = gq)) ?_ ?_
       ·
        apply Exists.intro;simp only[zQ,zR,zD,zE];exact ⟨two / top,two % top,rfl,hX,hB1,hB2,hB3,by rw [Nat.mul_comm];exact Nat.div_add_mod two top,Xr (by omega) f1 f2 hq1 htv,rfl⟩
       ·
        intro n vs wr hI u;obtain ⟨gq,rr,rfl,hX,hB1,hB2,hB3,hgr,hqg,hn3⟩:=hI;simp only[zu,zF,zG];refine aD (fun K25 hK25=>aD (fun K26 hK26=>?_));have hco3:=hB1.word (show i + ds.length - 2 < us.length by omega);rw [← ha3] at hco3;have hgt : gq ≤ two:=Nat.le_trans (Nat.le_mul_of_pos_right gq htv) (by omega);rcases (show 4294967295 < gq ∨ (gq ≤ 4294967295 ∧ 4294967295 < rr) ∨ (gq ≤ 4294967295 ∧ rr ≤ 4294967295) by omega) with hga | ⟨hga,hrr⟩ | ⟨hga,hrr⟩
        ·
         have hqg2 : q < gq:=by omega
         have hco3:=hB1.word (show i + ds.length - 2 < us.length by omega);rw [← ha3] at hco3;have hgt : gq ≤ two:=Nat.le_trans (Nat.le_mul_of_pos_right gq htv) (by omega);refine wp_region_lit (aA (aB) (aA (Co rfl rfl (by omega)) (aA (aB) ?_)));simp only[zz];refine lP rfl ?_;simp only[zz];refine lP rfl ?_;simp only[zz];refine lP rfl ?_;simp only[zz];refine kR rfl ?_;simp only[zz];refine kR rfl ?_;simp only[zz];refine kR rfl ?_;simp only[zz];refine kR rfl ?_;simp only[zz];refine kR rfl ?_;simp only[zz];refine kR rfl ?_;simp only[zz];refine kR rfl ?_;simp only[zz];refine kR rfl ?_;simp only[zz];refine kR rfl ?_;simp only[zz];refine kR rfl ?_;simp only[zz];refine kR rfl ?_;simp only[zz];refine kR rfl ?_;simp only[zz];refine lP rfl ?_;simp only[zz];refine aA (gA rfl) ?_;simp only[zz];refine aG (hK26 _ _ ?_);refine cK rfl (wp_skip ?_);refine hK25 _ _ (wp_block (aD (fun K27 hK27=>wp_region_lit (aA (aB) (aA (gL rfl rfl (eM (by omega) (by omega))) (aA (aF) ?_))))));simp only[zz];refine aG (hK27 _ _ ?_);have hgt2 : rr + top ≤ two:=by have:=Nat.le_mul_of_pos_left top (show 0 < gq by omega);omega
         refine wp_region_lit (aA (aB) (aA (aB) (aA (aQ rfl rfl (eM (by omega) (by omega))) ?_)));simp only[zz];refine aA (aF) ?_;simp only[zz];refine aG ?_;obtain ⟨g9,rfl⟩ : ∃ g9,gq = g9 + 1:=⟨gq - 1,by omega⟩
         rw [show (((g9 + 1 : Nat) : Int) - 1) = (g9 : Int) by omega,show ((rr:Int) + (top:Int)) = ((rr + top : Nat) : Int) by omega];simp only[Exit.inBlock,Exit.then];refine ⟨g9,_,?_,rfl,?_,?_⟩
         · omega
         · simp only[zz,zv]
         ·
          simp only[zQ,zR,zD,zE];exact ⟨g9,rr + top,rfl,hX,hB1,hB2,hB3,by rw [Nat.add_mul,Nat.one_mul] at hgr;omega,by omega,rfl⟩
        ·
         have hx : gq * sec ≤ a3 + rr * 4294967296:=Xw (by omega) hsB (by omega);have hco3:=hB1.word (show i + ds.length - 2 < us.length by omega);rw [← ha3] at hco3;have hgt : gq ≤ two:=Nat.le_trans (Nat.le_mul_of_pos_right gq htv) (by omega);refine wp_region_lit (aA (aB) (aA (yP rfl rfl (by omega)) (aA (aB) ?_)));simp only[zz];refine bU rfl (aA (aB) ?_);simp only[zz];refine bU rfl (aA (Xe rfl rfl (by omega)) ?_);simp only[zz];refine bU rfl (aA (aB) ?_);simp only[zz];refine cU rfl ?_;simp only[zz];refine cU rfl ?_;simp only[zz];refine cU rfl ?_;simp only[zz];refine cU rfl ?_;simp only[zz];refine cU rfl ?_;simp only[zz];refine cU rfl ?_;simp only[zz];refine cU rfl ?_;simp only[zz];refine cU rfl ?_;simp only[zz];refine cU rfl ?_;simp only[zz];refine cU rfl ?_;simp only[zz];refine cU rfl ?_;simp only[zz];refine cU rfl ?_;simp only[zz];refine bU rfl (aA (iT rfl) (aA (iT rfl) ?_));simp only[zz];refine aG (hK26 _ _ ?_);refine jM rfl (wp_exit ?_);refine hK24 _ _ (aD (fun K28 hK28=>aD (fun K29 hK29=>?_)));have hNv:=oN hB2 hdv (by omega);rw [← hvs] at hNv;have hNu:=(hB1.nat hdu rfl (by omega)).drop (show i ≤ us.length by omega) rfl;rw [fQ,Nat.zero_add,hlu] at hNu;have hU2 : val 4294967296 ((us.drop i).take (ds.length + 1)) = U:=by rw [← xE hdvs (by omega) hH,hU]
         have hgl : gq ≤ q + 1:=Lb f4 f6 hq2 (Cq hgr hx) (by omega);obtain ⟨ge1,ge2⟩:=Gq hq1 hq2 hqg hgl;refine wp_region_lit (aA (aB) (aA (aB) (aA (jK aW aV rfl rfl (Int.toNat_natCast _) (by omega) (by omega) (uQ (by omega))) ?_)));simp only[zz];refine aA (aB) (aA (aB) ?_);simp only[zz];refine bK rfl rfl (aav _ hNu hNv (by simp;omega) (by omega) (by omega)) ?_;rintro v w9 hE rfl;replace hB1:=hB1.ext hE;replace hB2:=hB2.ext hE;replace hB3:=hB3.ext hE;replace hX:=hX.trans hE;clear hE;simp only[zz];refine aG (hK29 _ _ ?_);refine cO rfl (fun hc6=>?_) (fun hc6=>?_)
         ·
          have hg1 : 0 < gq:=by
           rcases Nat.eq_zero_or_pos gq with h | h
           · rw [h,Nat.mul_zero] at hc6;exact absurd hc6 (Nat.not_lt_zero _)
           · exact h
          have hgq:=ge1 (by rw [← hU2];exact hc6);refine wp_region_lit (aA (aB) (aA (gL rfl rfl (eM (by omega) (by omega))) (aA (aF) ?_)));simp only[zz];refine aG ?_;rw [show ((gq:Int) - 1) = (q:Int) by omega];refine hK28 _ _ (aD (fun K30 hK30=>?_));clear hNv hNu;have hNv:=oN hB2 hdv (by omega);rw [← hvs] at hNv;refine wp_region_lit (aA (aB) (aA (aB) (aA (jK aW aV rfl rfl (Int.toNat_natCast _) (by omega) (by omega) (uQ (by omega))) ?_)));simp only[zz];refine aA (aB) (aA (aB) ?_);simp only[zz];refine xD rfl rfl (Ke _ hB1 hdu (by omega) hNv (by omega) (by omega) hqB (by rw [hU2,Nat.mul_comm];exact hq1)) ?_;clear hB1;rintro v w10 hU hB1;replace hB2:=hB2.upd hU (by first | exact hN2_1 | exact Ne.symm hN1_2);replace hB3:=hB3.upd hU (by first | exact hN3_1 | exact Ne.symm hN1_3);replace hX:=hX.grownUpd hU hG1;clear hU;simp only[zz];refine aG (hK30 _ _ ?_);clear hNv;refine wp_region_lit (aA (aB) (aA (aB) (aA (aB) ?_)));simp only[zz];refine aA (aM aW aV rfl rfl (by omega) (by omega) (fA (Int.toNat_natCast _))) ?_;simp only[zz];refine dL rfl (by simp only[zz];rfl) (by exact aV) hB3 (by simp;omega) (by simp [Value.oneCell']) ?_;clear hB3;intro w11 hC hB3;replace hB1:=hB1.chg hC (by first | exact hN1_3 | exact Ne.symm hN3_1);replace hB2:=hB2.chg hC (by first | exact hN2_3 | exact Ne.symm hN3_2);replace hX:=hX.chg hC hG3;clear hC;rw [eX (by omega)] at hB3;refine aG (hK20 _ _ ?_);refine wp_region_lit (aA (aB) (aA (gL rfl rfl (aN (by omega) (by omega))) (aA (aF) ?_)));simp only[zz];refine aG ?_;obtain ⟨r1,r2,r3,r4⟩:=uR hdvs hdu hi hH hU hq1 hq2 hI hz (by omega);simp only[Exit.inBlock,Exit.then];refine ⟨i,_,?_,rfl,?_,?_⟩
          · omega
          · simp only[zz,zv]
          ·
           simp only[zQ,zR,zD,zE];exact ⟨i,laid us i (ds.length + 1) (val 4294967296 ((us.drop i).take (ds.length + 1)) - val 4294967296 ds * q),qs.set i q,rfl,hX,hB1,hB2,hB3,by omega,by rw [r4];exact hlu,by simpa using hlq,uP hdu,hdq.set hqB,r1,r2,r3,rfl⟩
         ·
          have hgq:=ge2 (by rw [← hU2];exact hc6);rw [show (gq:Int) = (q:Int) by omega];refine wp_skip (hK28 _ _ ?_);refine aD (fun K31 hK31=>?_);clear hNv hNu;have hNv:=oN hB2 hdv (by omega);rw [← hvs] at hNv;refine wp_region_lit (aA (aB) (aA (aB) (aA (jK aW aV rfl rfl (Int.toNat_natCast _) (by omega) (by omega) (uQ (by omega))) ?_)));simp only[zz];refine aA (aB) (aA (aB) ?_);simp only[zz];refine xD rfl rfl (Ke _ hB1 hdu (by omega) hNv (by omega) (by omega) hqB (by rw [hU2,Nat.mul_comm];exact hq1)) ?_;clear hB1;rintro v w10 hU hB1;replace hB2:=hB2.upd hU (by first | exact hN2_1 | exact Ne.symm hN1_2);replace hB3:=hB3.upd hU (by first | exact hN3_1 | exact Ne.symm hN1_3);replace hX:=hX.grownUpd hU hG1;clear hU;simp only[zz];refine aG (hK31 _ _ ?_);clear hNv;refine wp_region_lit (aA (aB) (aA (aB) (aA (aB) ?_)));simp only[zz];refine aA (aM aW aV rfl rfl (by omega) (by omega) (fA (Int.toNat_natCast _))) ?_;simp only[zz];refine dL rfl (by simp only[zz];rfl) (by exact aV) hB3 (by simp;omega) (by simp [Value.oneCell']) ?_;clear hB3;intro w11 hC hB3;replace hB1:=hB1.chg hC (by first | exact hN1_3 | exact Ne.symm hN3_1);replace hB2:=hB2.chg hC (by first | exact hN2_3 | exact Ne.symm hN3_2);replace hX:=hX.chg hC hG3;clear hC;rw [eX (by omega)] at hB3;refine aG (hK20 _ _ ?_);refine wp_region_lit (aA (aB) (aA (gL rfl rfl (aN (by omega) (by omega))) (aA (aF) ?_)));simp only[zz];refine aG ?_;obtain ⟨r1,r2,r3,r4⟩:=uR hdvs hdu hi hH hU hq1 hq2 hI hz (by omega);simp only[Exit.inBlock,Exit.then];refine ⟨i,_,?_,rfl,?_,?_⟩
          · omega
          · simp only[zz,zv]
          ·
           simp only[zQ,zR,zD,zE];exact ⟨i,laid us i (ds.length + 1) (val 4294967296 ((us.drop i).take (ds.length + 1)) - val 4294967296 ds * q),qs.set i q,rfl,hX,hB1,hB2,hB3,by omega,by rw [r4];exact hlu,by simpa using hlq,uP hdu,hdq.set hqB,r1,r2,r3,rfl⟩
        ·
         have hco3:=hB1.word (show i + ds.length - 2 < us.length by omega);rw [← ha3] at hco3;have hgt : gq ≤ two:=Nat.le_trans (Nat.le_mul_of_pos_right gq htv) (by omega);refine wp_region_lit (aA (aB) (aA (yP rfl rfl (by omega)) (aA (aB) ?_)));simp only[zz];refine bU rfl (aA (aB) ?_);simp only[zz];refine bU rfl (aA (Ol rfl rfl (by omega)) ?_);simp only[zz];refine bU rfl (aA (aB) ?_);simp only[zz];refine bU rfl (aA (aB) ?_);simp only[zz];refine bU rfl (aA (aB) ?_);simp only[zz];refine bU rfl (aA (eT rfl rfl (abl (Nat.lt_of_le_of_lt (Xk (by omega) hsB) (by decide)))) ?_);simp only[zz];refine bU rfl (aA (aB) ?_);simp only[zz];refine bU rfl (aA (Ao rfl rfl (by omega) (rL (n:=32) (by omega) (by omega))) ?_);simp only[zz];refine bU rfl (aA (aB) ?_);simp only[zz];refine bU rfl (aA (aB) ?_);simp only[zz];refine bU rfl (aA (gL rfl rfl (aN (by omega) (by omega))) ?_);simp only[zz];refine bU rfl (aA (aM aW aV rfl rfl (by omega) (by omega) (fA (show _ = i + ds.length - 2 by omega))) ?_);simp only[zz];refine bU rfl (aJ rfl (lies1 hco3 eC) ?_);simp only[zz];refine bU rfl (aA (Ko rfl rfl (Bo (s:=32) (c:=rr) (by omega) (by omega) (by omega))) ?_);simp only[zz];refine bU rfl (aA (sU rfl rfl) ?_);simp only[zz];refine bU rfl (aA (gA rfl) (aA (iT rfl) ?_));simp only[zz];refine aG (hK26 _ _ ?_);refine cO rfl (fun hc5=>?_) (fun hc5=>?_)
         ·
          have hqg2 : q < gq:=Xs hP f3 f5 hq1 (Oo hgr (by omega));refine wp_skip (hK25 _ _ ?_);refine wp_block (aD (fun K32 hK32=>wp_region_lit (aA (aB) (aA (gL rfl rfl (eM (by omega) (by omega))) (aA (aF) ?_)))));simp only[zz];refine aG (hK32 _ _ ?_);have hgt2 : rr + top ≤ two:=by have:=Nat.le_mul_of_pos_left top (show 0 < gq by omega);omega
          refine wp_region_lit (aA (aB) (aA (aB) (aA (aQ rfl rfl (eM (by omega) (by omega))) ?_)));simp only[zz];refine aA (aF) ?_;simp only[zz];refine aG ?_;obtain ⟨g9,rfl⟩ : ∃ g9,gq = g9 + 1:=⟨gq - 1,by omega⟩
          rw [show (((g9 + 1 : Nat) : Int) - 1) = (g9 : Int) by omega,show ((rr:Int) + (top:Int)) = ((rr + top : Nat) : Int) by omega];simp only[Exit.inBlock,Exit.then];refine ⟨g9,_,?_,rfl,?_,?_⟩
          · omega
          · simp only[zz,zv]
          ·
           simp only[zQ,zR,zD,zE];exact ⟨g9,rr + top,rfl,hX,hB1,hB2,hB3,by rw [Nat.add_mul,Nat.one_mul] at hgr;omega,by omega,rfl⟩
         ·
          have hx : gq * sec ≤ a3 + rr * 4294967296:=by omega
          refine wp_exit ?_;refine hK24 _ _ (aD (fun K33 hK33=>aD (fun K34 hK34=>?_)));have hNv:=oN hB2 hdv (by omega);rw [← hvs] at hNv;have hNu:=(hB1.nat hdu rfl (by omega)).drop (show i ≤ us.length by omega) rfl;rw [fQ,Nat.zero_add,hlu] at hNu;have hU2 : val 4294967296 ((us.drop i).take (ds.length + 1)) = U:=by rw [← xE hdvs (by omega) hH,hU]
          have hgl : gq ≤ q + 1:=Lb f4 f6 hq2 (Cq hgr hx) (by omega);obtain ⟨ge1,ge2⟩:=Gq hq1 hq2 hqg hgl;refine wp_region_lit (aA (aB) (aA (aB) (aA (jK aW aV rfl rfl (Int.toNat_natCast _) (by omega) (by omega) (uQ (by omega))) ?_)));simp only[zz];refine aA (aB) (aA (aB) ?_);simp only[zz];refine bK rfl rfl (aav _ hNu hNv (by simp;omega) (by omega) (by omega)) ?_;rintro v w9 hE rfl;replace hB1:=hB1.ext hE;replace hB2:=hB2.ext hE;replace hB3:=hB3.ext hE;replace hX:=hX.trans hE;clear hE;simp only[zz];refine aG (hK34 _ _ ?_);refine cO rfl (fun hc6=>?_) (fun hc6=>?_)
          ·
           have hg1 : 0 < gq:=by
            rcases Nat.eq_zero_or_pos gq with h | h
            · rw [h,Nat.mul_zero] at hc6;exact absurd hc6 (Nat.not_lt_zero _)
            · exact h
           have hgq:=ge1 (by rw [← hU2];exact hc6);refine wp_region_lit (aA (aB) (aA (gL rfl rfl (eM (by omega) (by omega))) (aA (aF) ?_)));simp only[zz];refine aG ?_;rw [show ((gq:Int) - 1) = (q:Int) by omega];refine hK33 _ _ (aD (fun K35 hK35=>?_));clear hNv hNu;have hNv:=oN hB2 hdv (by omega);rw [← hvs] at hNv;refine wp_region_lit (aA (aB) (aA (aB) (aA (jK aW aV rfl rfl (Int.toNat_natCast _) (by omega) (by omega) (uQ (by omega))) ?_)));simp only[zz];refine aA (aB) (aA (aB) ?_);simp only[zz];refine xD rfl rfl (Ke _ hB1 hdu (by omega) hNv (by omega) (by omega) hqB (by rw [hU2,Nat.mul_comm];exact hq1)) ?_;clear hB1;rintro v w10 hU hB1;replace hB2:=hB2.upd hU (by first | exact hN2_1 | exact Ne.symm hN1_2);replace hB3:=hB3.upd hU (by first | exact hN3_1 | exact Ne.symm hN1_3);replace hX:=hX.grownUpd hU hG1;clear hU;simp only[zz];refine aG (hK35 _ _ ?_);clear hNv;refine wp_region_lit (aA (aB) (aA (aB) (aA (aB) ?_)));simp only[zz];refine aA (aM aW aV rfl rfl (by omega) (by omega) (fA (Int.toNat_natCast _))) ?_;simp only[zz];refine dL rfl (by simp only[zz];rfl) (by exact aV) hB3 (by simp;omega) (by simp [Value.oneCell']) ?_;clear hB3;intro w11 hC hB3;replace hB1:=hB1.chg hC (by first | exact hN1_3 | exact Ne.symm hN3_1);replace hB2:=hB2.chg hC (by first | exact hN2_3 | exact Ne.symm hN3_2);replace hX:=hX.chg hC hG3;clear hC;rw [eX (by omega)] at hB3;refine aG (hK20 _ _ ?_);refine wp_region_lit (aA (aB) (aA (gL rfl rfl (aN (by omega) (by omega))) (aA (aF) ?_)));simp only[zz];refine aG ?_;obtain ⟨r1,r2,r3,r4⟩:=uR hdvs hdu hi hH hU hq1 hq2 hI hz (by omega);simp only[Exit.inBlock,Exit.then];refine ⟨i,_,?_,rfl,?_,?_⟩
           · omega
           · simp only[zz,zv]
           ·
            simp only[zQ,zR,zD,zE];exact ⟨i,laid us i (ds.length + 1) (val 4294967296 ((us.drop i).take (ds.length + 1)) - val 4294967296 ds * q),qs.set i q,rfl,hX,hB1,hB2,hB3,by omega,by rw [r4];exact hlu,by simpa using hlq,uP hdu,hdq.set hqB,r1,r2,r3,rfl⟩
          ·
           have hgq:=ge2 (by rw [← hU2];exact hc6);rw [show (gq:Int) = (q:Int) by omega];refine wp_skip (hK33 _ _ ?_);refine aD (fun K36 hK36=>?_);clear hNv hNu;have hNv:=oN hB2 hdv (by omega);rw [← hvs] at hNv;refine wp_region_lit (aA (aB) (aA (aB) (aA (jK aW aV rfl rfl (Int.toNat_natCast _) (by omega) (by omega) (uQ (by omega))) ?_)));simp only[zz];refine aA (aB) (aA (aB) ?_);simp only[zz];refine xD rfl rfl (Ke _ hB1 hdu (by omega) hNv (by omega) (by omega) hqB (by rw [hU2,Nat.mul_comm];exact hq1)) ?_;clear hB1;rintro v w10 hU hB1;replace hB2:=hB2.upd hU (by first | exact hN2_1 | exact Ne.symm hN1_2);replace hB3:=hB3.upd hU (by first | exact hN3_1 | exact Ne.symm hN1_3);replace hX:=hX.grownUpd hU hG1;clear hU;simp only[zz];refine aG (hK36 _ _ ?_);clear hNv;refine wp_region_lit (aA (aB) (aA (aB) (aA (aB) ?_)));simp only[zz];refine aA (aM aW aV rfl rfl (by omega) (by omega) (fA (Int.toNat_natCast _))) ?_;simp only[zz];refine dL rfl (by simp only[zz];rfl) (by exact aV) hB3 (by simp;omega) (by simp [Value.oneCell']) ?_;clear hB3;intro w11 hC hB3;replace hB1:=hB1.chg hC (by first | exact hN1_3 | exact Ne.symm hN3_1);replace hB2:=hB2.chg hC (by first | exact hN2_3 | exact Ne.symm hN3_2);replace hX:=hX.chg hC hG3;clear hC;rw [eX (by omega)] at hB3;refine aG (hK20 _ _ ?_);refine wp_region_lit (aA (aB) (aA (gL rfl rfl (aN (by omega) (by omega))) (aA (aF) ?_)));simp only[zz];refine aG ?_;obtain ⟨r1,r2,r3,r4⟩:=uR hdvs hdu hi hH hU hq1 hq2 hI hz (by omega);simp only[Exit.inBlock,Exit.then];refine ⟨i,_,?_,rfl,?_,?_⟩
           · omega
           · simp only[zz,zv]
           ·
            simp only[zQ,zR,zD,zE];exact ⟨i,laid us i (ds.length + 1) (val 4294967296 ((us.drop i).take (ds.length + 1)) - val 4294967296 ds * q),qs.set i q,rfl,hX,hB1,hB2,hB3,by omega,by rw [r4];exact hlu,by simpa using hlq,uP hdu,hdq.set hqB,r1,r2,r3,rfl⟩
      ·
       obtain rfl : k = 0:=by omega
       rw [List.drop_zero] at hH;obtain ⟨dq,dr⟩:=Xv (X:=val 4294967296 xs) (Y:=val 4294967296 ys) (p:=2 ^ sh) (u:=val 4294967296 us) (q:=val 4294967296 qs) (Nat.pow_pos (by omega)) (by rw [← hvvs];exact hI) (by rw [← hvvs];exact hH);refine wp_exit (hK16 _ _ ?_);refine aD (fun K37 hK37=>wp_region_lit (aA (aB) ?_));simp only[zz];refine bK rfl rfl (Ah _ (hB3.nat hdq (by omega) (by omega))) ?_;rintro v w7 hE ⟨A5,c5,rfl,hN5⟩;replace hB1:=hB1.ext hE;replace hX:=hX.trans hE;clear hE;simp only[zz];refine aA (aB) ?_;simp only[zz];refine bK rfl rfl (Ah _ (hB1.nat hdu (by omega) (by omega))) ?_;rintro v w8 hE ⟨A6,c6,rfl,hN6⟩
       (try replace hN5:=hN5.ext hE);replace hX:=hX.trans hE
       clear hE;simp only[zz];refine aA (aB) ?_;simp only[zz];refine bK rfl rfl (Wf _ hN6 (Nat.le_trans (nI hdu) (by omega)) hs31) ?_;rintro v w9 hE ⟨A7,c7,rfl,hN7⟩
       (try replace hN5:=hN5.ext hE);replace hX:=hX.trans hE
       clear hE;simp only[zz];refine aA (aF) (aA (aF) ?_);simp only[zz];refine aG (hK37 _ _ ?_);refine wp_ret ?_;try simp only[Exit.inBlock,Exit.then]
       refine nV rfl rfl rfl ?_;try simp only[zD,zE]
       exact ⟨_,rfl,hX,_,_,rfl,by rw [← dq];exact ⟨A5,c5,rfl,hN5⟩,by rw [← dr];simp only[bX] at hN7 ⊢;exact ⟨A7,c7,rfl,hN7⟩⟩
end Go.Proofs.YtfohfflkhpfjeaaGreatDoor
namespace Go.Proofs.YtfohfflkhpfjeaaGreatDoor
open Go.Proofs.Tryz
open Go.RowKit Go.Lith
set_option maxRecDepth 100000
attribute [local irreducible] wpList wpQuiet dC Code.wp
theorem Eu {neg : Bool} {s : ByteArray} (w : World) (hs : s.size ≤ 1000000000000) : eI prog 114 [.agg #[.bool neg,.string s]] w (fI (ac6 s)):=by
 skip
 refine ⟨adx,?_⟩;have hX:=dD.refl w
 go_enter func114,ntmps114
 refine aD (fun K1 hK1=>wp_region_lit ?_);refine vK (by simp only[zz];rfl) ?_;intro w1 g1 hE hg1 hB1;have hG1:=Nat.le_trans hX.size hg1;replace hX:=hX.trans hE;clear hE hg1;simp only[zz];refine aA (aF) ?_;simp only[zz];refine aG (hK1 _ _ ?_);refine aD (fun K2 hK2=>wp_region_lit (aA (aK (c:=0) kK rfl xM rfl rfl) ?_));simp only[zz];refine aJ rfl (hB1.lies1 Hg rfl) ?_;simp only[zz];refine aA (qD rfl sS rfl) (aA (aQ rfl rfl (aN (by omega) (by omega))) (aA (gL rfl rfl (aN (by omega) (by omega))) ?_));simp only[zz];rw [show ((s.size : Int) + 4 - 1) = ((s.size + 3 : Nat) : Int) by omega];refine aA (jE rfl rfl (by omega) (Bt (n:=4) (by omega))) ?_;simp only[zz];obtain ⟨K,hK⟩ : ∃ K,K = (s.size + 3) / 4:=⟨_,rfl⟩
 rw [← hK];refine lR aW kT rfl rfl rfl (show _ = K by omega) (show _ = K by omega) (by omega) (by omega) (by omega) (by omega) ?_;intro w2 g2 hE hg2 hB2;have hG2:=Nat.le_trans hX.size hg2;have hN2_1 : g2 ≠ g1:=Nat.ne_of_gt (Nat.lt_of_lt_of_le hB1.lt hg2);replace hB1:=hB1.ext hE;replace hX:=hX.trans hE;clear hE hg2;simp only[zz];refine aA (aF) ?_;simp only[zz];refine aG ?_;rw [fC] at hB2;refine hK2 _ _ (aD (fun K3 hK3=>aD (fun K4 hK4=>wp_region_lit (aA (aK (c:=0) kK rfl xM rfl rfl) ?_))));simp only[zz];refine aJ rfl (hB1.lies1 Hg rfl) ?_;simp only[zz];refine aA (qD rfl sS rfl) (aA (aB) ?_);simp only[zz];refine aG (hK4 _ _ ?_);refine wp_block (bM [16] [4,5,17,18,19,20,21,22,23,24,25,26,27,28,29,30,31,32,33,34,35,36,37,38,39,40,41] (fun n vs wl=>∃ (i : Nat) (os : List Nat),vs = [.int .i64 (i:Int)] ∧ (dD w wl) ∧ (fX wl g1 [.bool neg,.string s] 65) ∧ (fX wl g2 (os.map jF) 126) ∧ (i ≤ s.size) ∧ (os.length = K) ∧ (dB 4294967296 os) ∧ (∀ (j : Nat) (h : j < os.length),256 ^ (s.size - i - 4 * j) ∣ os[j]) ∧ (val 4294967296 os = 256 ^ (s.size - i) * val 256 ((pQ s).drop (s.size - i))) ∧ (n = s.size - i)) ?_ ?_)
 ·
  apply Exists.intro;simp only[zQ,zR,zD,zE];exact ⟨0,List.replicate K 0,rfl,hX,hB1,hB2,by omega,by simp,fun x hx=>by rw [List.eq_of_mem_replicate hx];decide,fun j h=>by rw [List.getElem_replicate];exact Nat.dvd_zero _,by rw [eO,Ya (by rw [vM];omega),Nat.mul_zero],rfl⟩
 ·
  intro n vs wr hI u;obtain ⟨i,os,rfl,hX,hB1,hB2,hi,hlo,hd,hdv,hv,hn⟩:=hI;simp only[zu,zF,zG];refine aD (fun K5 hK5=>wp_region_lit (aA (cJ rfl rfl) ?_));simp only[zz];refine aG (hK5 _ _ ?_);refine aD (fun K6 hK6=>?_);refine cO rfl (fun hc1=>?_) (fun hc1=>?_)
  ·
   refine wp_skip ?_;refine hK6 _ _ (aD (fun K7 hK7=>wp_block (aD (fun K8 hK8=>wp_region_lit (aA (aB) (aA (aF) ?_))))));simp only[zz];refine aG (hK8 _ _ ?_);refine aD (fun K9 hK9=>wp_region_lit (aA (aK (c:=0) kK rfl xM rfl rfl) ?_));simp only[zz];refine aJ rfl (hB1.lies1 Hg rfl) ?_;simp only[zz];refine aA (qD rfl sS rfl) (aA (gL rfl rfl (aN (by omega) (by omega))) (aA (aB) ?_));simp only[zz];refine aA (gL rfl rfl (aN (by omega) (by omega))) (aA (aF) ?_);simp only[zz];refine aG ?_;obtain ⟨p,hp⟩ : ∃ p,p + 1 + i = s.size:=⟨s.size - 1 - i,by omega⟩
   rw [show ((s.size : Int) - 1 - (i : Int)) = (p : Int) by omega];refine hK9 _ _ ?_;obtain ⟨b,hb,hpl,hbp⟩:=Ou hp;have hco:=hB2.word (show p / 4 < os.length by omega);obtain ⟨f1,f2,f3,f4⟩:=Uc (r:=p % 4) (j:=p / 4) hpl (by omega) (by omega) (by omega) hd (Lc s) (by rw [show p + 1 = s.size - i by omega];exact hdv) (by rw [show p + 1 = s.size - i by omega];exact hv);rw [hbp,Cr] at f1 f3 f4;have hb256 : b.toNat < 256:=b.toNat_lt;have f5 : b.toNat * 2 ^ (8 * (p % 4)) < 2 ^ (8 * (p % 4 + 1)):=by
    rw [show 8 * (p % 4 + 1) = 8 + 8 * (p % 4) by omega,Nat.pow_add];exact Nat.mul_lt_mul_of_pos_right hb256 (Nat.pow_pos (by omega))
   obtain ⟨c,f6⟩ : ∃ c,os[p / 4] = 2 ^ (8 * (p % 4 + 1)) * c:=by
    obtain ⟨c,hc⟩:=f2;exact ⟨c,by rw [hc,Cr]⟩
   refine iS 16 aO (by kernel_rfl) ?_;simp only[zy];refine aL (aB) (aL (aB) (aL (jE rfl rfl (by omega) (Bt (n:=4) (by omega))) ?_));simp only[zz];refine aL (aM aW aV rfl rfl (by omega) (by omega) (fA (show _ = p / 4 by omega))) ?_;simp only[zz];refine lQ rfl (fun _ hE'=>(lies1 (hE'.cell hco) eC)) ?_;simp only[zz];refine aL (aK (c:=0) kK rfl xM rfl rfl) ?_;simp only[zz];refine lQ rfl (fun _ hE'=>((hB1.ext hE').lies1 Hg rfl)) ?_;simp only[zz];refine aL (aB) ?_;simp only[zz];refine aL ((rI sS rfl rfl (by omega) (by rw [Int.toNat_natCast];exact hb))) ?_;simp only[zz];refine aL (vZ yX underlying5 rfl (eM (by omega) (by omega))) (aL (aB) (aL (dK rfl rfl (by omega) (Iu (n:=4))) ?_));simp only[zz];refine aL (eT rfl rfl ((aN (by omega) (by omega)).trans (show (8 : Int) * ((p % 4 : Nat) : Int) = ((8 * (p % 4) : Nat) : Int) by omega))) (aL (Ao rfl rfl (by omega) (rL (n:=8 * (p % 4)) (by omega) (by omega))) (aL (Ko rfl rfl ((Bo (s:=8 * (p % 4 + 1)) (a:=b.toNat * 2 ^ (8 * (p % 4))) (b:=os[p / 4]) f5 f6 (by omega)).trans (show (((b.toNat * 2 ^ (8 * (p % 4))) + os[p / 4] : Nat) : Int) = ((os[p / 4] + b.toNat * 2 ^ (8 * (p % 4)) : Nat) : Int) by omega))) ?_));simp only[zz];refine aL (aM aW aV rfl rfl (by omega) (by omega) (fA (show _ = p / 4 by omega))) ?_;simp only[zz];refine dF ?_;intro w3 hE;replace hB1:=hB1.ext hE;replace hB2:=hB2.ext hE;replace hX:=hX.trans hE;clear hE;refine dL rfl (by simp only[zz];rfl) (by exact aV) hB2 (by simp;omega) (by simp [Value.oneCell']) ?_;clear hB2;intro w4 hC hB2;replace hB1:=hB1.chg hC (by first | exact hN1_2 | exact Ne.symm hN2_1);replace hX:=hX.chg hC hG2;clear hC;rw [eX (by omega)] at hB2;refine aG (hK7 _ _ ?_);refine wp_region_lit (aA (aQ rfl rfl (aN (by omega) (by omega))) (aA (aB) ?_));simp only[zz];refine aG ?_;rw [show ((i:Int) + 1) = ((i + 1 : Nat) : Int) by omega];simp only[Exit.inBlock,Exit.then];refine ⟨s.size - (i + 1),_,?_,rfl,?_,?_⟩
   · omega
   · simp only[zz,zv]
   ·
    simp only[zQ,zR,zD,zE];exact ⟨i + 1,os.set (p / 4) (os[p / 4] + b.toNat * 2 ^ (8 * (p % 4))),rfl,hX,hB1,hB2,by omega,by simpa using hlo,hd.set f1,by rw [show s.size - (i + 1) = p by omega];exact f3,by rw [show s.size - (i + 1) = p by omega];exact f4,rfl⟩
  ·
   refine wp_exit ?_;refine hK3 _ _ (aD (fun K10 hK10=>?_));obtain rfl : i = s.size:=by omega
   refine wp_region_lit (aA (aB) ?_);simp only[zz];refine bK rfl rfl (pY _ (hB2.nat hd (by omega) (by omega))) ?_;rintro v w3 hE rfl;replace hB2:=hB2.ext hE;replace hX:=hX.trans hE;clear hE;simp only[zz];refine aA (aF) ?_;simp only[zz];refine aG (hK10 _ _ ?_);refine wp_ret ?_;try simp only[Exit.inBlock,Exit.then]
   refine bS rfl rfl ?_;try simp only[zD,zE]
   exact ⟨_,rfl,hX,fI.of_trim (hB2.nat hd (n:=K) (by omega) (by omega)) (by rw [hv,Nat.sub_self,Nat.pow_zero,Nat.one_mul,List.drop_zero];rfl)⟩
end Go.Proofs.YtfohfflkhpfjeaaGreatDoor
namespace Go.Proofs.YtfohfflkhpfjeaaGreatDoor
open Go.Proofs.Tryz
open Go.RowKit Go.Lith
attribute [local go_sem] Oper.semAt_some
def qV (n₀ Bs : Nat) (W W' : World) : Prop:=Below n₀ W W' ∧ W'.heap[Bs]? = W.heap[Bs]?
theorem qV.refl (n₀ Bs : Nat) (W : World) : qV n₀ Bs W W:=⟨Below.refl _ _,rfl⟩
theorem qV.trans {n₀ Bs : Nat} {A B C : World} (h : qV n₀ Bs A B) (k : qV n₀ Bs B C) : qV n₀ Bs A C:=⟨h.1.trans k.1,k.2.trans h.2⟩
theorem qV.box {n₀ Bs : Nat} {A B : World} (h : qV n₀ Bs A B) {v : Value} (hc : A.cell? ⟨Bs,0,none⟩ = some v) : B.cell? ⟨Bs,0,none⟩ = some v:=(World.cell?_of_block h.2).trans hc
set_option maxRecDepth 100000 in
theorem aaw (F : Fence) (n : Nat) (h7 : F.fn 143) (hro : F.round = none) (hn : 1 ≤ n) (l Bs n₀ cap : Nat) (a : Addr) (xs : List Nat) (hreach : xs.length * 8 ≤ 140737488351232) (hb : a.block < n₀) (J Jx : List (Nat × Nat) → World → Prop)
 (hY : ∀ pre x W,J pre W → pre.length < xs.length → YieldAt F (n - 1) prog l #[.int .i64 (x.1 : Int),.int .u64 (x.2 : Int)] W fun e W' =>
  (e = .returned (.bool true) ∧ J (pre ++ [x]) W' ∧ qV n₀ Bs W W') ∨ (e = .returned (.bool false) ∧ Jx (pre ++ [x]) W'))
 (W : World) (hBs : W.cell? ⟨Bs,0,none⟩ = some (.slice (some a) xs.length cap)) (hc : ∀ j (h : j < xs.length),W.cell? (a.add j) = some (.int .u64 (xs[j] : Nat))) (h0 : J [] W) :
 CallsIn F n prog 143 #[.func (.yield l) #[] #[],.pointer (some ⟨Bs,0,none⟩)] W fun e W'=>(∃ v,e = .returned v) ∧
  ((∃ ys : List (Nat × Nat),ys.map Prod.snd = xs.reverse ∧ J ys W') ∨ (∃ pre,True ∧ Jx pre W')):=by
 refine callsIn_of_wp func143 rfl h7 ?_ hro;simp only[ntmps143,List.size_toArray,List.length_cons,List.length_nil,Nat.reduceAdd,Nat.reduceSub,Array.replicate_succ,Array.replicate_zero,List.push_toArray,List.append_toArray,List.nil_append,List.cons_append]
 gi_wp2
 gi_loopw [3] (fun i wr=>∃ (k : Nat) (pre : List (Nat × Nat)),k ≤ xs.length ∧ i = .int .i64 ((k : Int) - 1) ∧ pre.length = xs.length - k ∧ pre.map Prod.snd = (xs.drop k).reverse ∧ J pre wr ∧ qV n₀ Bs W wr)
  (fun i _=>(intOf i + 1).toNat)
 case atStart=>exact ⟨xs.length,[],Nat.le_refl _,rfl,by simp,by simp,h0,qV.refl _ _ _⟩
 case round =>
  obtain ⟨k,pre,hk,rfl,hpl,hpre,hJs,hnx⟩:=hrel;have hBw : wr.cell? ⟨Bs,0,none⟩ = some (.slice (some a) xs.length cap):=hnx.box hBs;by_cases hk0 : 0 < k
  · have hlt : k - 1 < xs.length:=by omega
    have hcx : wr.cell? (a.add (k - 1)) = some (.int .u64 ((xs[k - 1] : Nat) : Int)):=(hnx.1.cell (by rw [uN];exact hb)).trans (hc _ hlt);obtain ⟨fn,tmps,assign,body,hy,hR⟩:=hY pre (k - 1,xs[k - 1]) wr hJs (by omega);dsimp only at hy;obtain ⟨j,rfl⟩ : ∃ j,k = j + 1:=⟨k - 1,by omega⟩
    rw [show (((j + 1 : Nat) : Int) - 1) = (j : Int) by omega];simp only[Nat.add_sub_cancel] at hy hR hcx hlt
    gi_wp2
    refine hR.mono ?_;rintro e W3 (⟨rfl,hJ3,hk3⟩ | ⟨rfl,hJx3⟩)
    · gi_wp2
      go_roundw
      case rel=>exact ⟨j,pre ++ [(j,xs[j])],by omega,by simp,by simp;omega,by rw [List.drop_eq_getElem_cons hlt,List.reverse_cons,List.map_append,hpre];rfl,hJ3,hnx.trans hk3⟩
      case measure=>simp [intOf]
    · gi_wp2
      refine bodyPost_ret (results_none rfl _ _ _) rfl ?_;exact ⟨⟨_,rfl⟩,.inr ⟨_,trivial,hJx3⟩⟩
  · obtain rfl : k = 0:=by omega
    gi_wp2
    go_end0
    exact ⟨⟨_,rfl⟩,.inl ⟨pre,by rw [hpre];rfl,hJs⟩⟩
set_option maxRecDepth 100000 in
theorem Kf (F : Fence) (n : Nat) (h7 : F.fn 143) (hro : F.round = none) (l Bs cap : Nat) (A : Option Addr) (J : List (Nat × Nat) → World → Prop) (W : World) (hBs : W.cell? ⟨Bs,0,none⟩ = some (.slice A 0 cap)) (h0 : J [] W) :
 CallsIn F n prog 143 #[.func (.yield l) #[] #[],.pointer (some ⟨Bs,0,none⟩)] W fun e W'=>(∃ v,e = .returned v) ∧ J [] W':=by
 refine callsIn_of_wp func143 rfl h7 ?_ hro;simp only[ntmps143,List.size_toArray,List.length_cons,List.length_nil,Nat.reduceAdd,Nat.reduceSub,Array.replicate_succ,Array.replicate_zero,List.push_toArray,List.append_toArray,List.nil_append,List.cons_append]
 gi_wp2
 gi_loopw [3] (fun i wr=>i = .int .i64 (-1) ∧ J [] wr) (fun _ _=>0)
 case atStart=>exact ⟨rfl,h0⟩
 case round =>
  obtain ⟨rfl,hJs⟩:=hrel
  gi_wp2
  go_end0
  exact ⟨⟨_,rfl⟩,hJs⟩
theorem ab1 (F : Fence) (n : Nat) (h5 : F.fn 137) (hro : F.round = none) (a : Option Addr) (len cap : Nat) (w : World) :
 CallsIn F n prog 137 #[.slice a len cap] w fun e w'=>e = .returned (.func (.func 143) #[] #[.pointer (some ⟨w.heap.size,0,none⟩)]) ∧ w' = w.alloc (.cells #[.slice a len cap] 157):=by
 refine callsIn_of_wp func137 rfl h5 ?_ hro;simp only[ntmps137,List.size_toArray,List.length_cons,List.length_nil,Nat.reduceAdd,Nat.reduceSub,Array.replicate_succ,Array.replicate_zero,List.push_toArray,List.append_toArray,List.nil_append,List.cons_append]
 gi_wp2
 go_ret
 exact ⟨rfl,rfl⟩
theorem Qs (F : Fence) (n : Nat) (h7 : F.fn 143) (hro : F.round = none) (hn : 1 ≤ n) (Bs n₀ cap : Nat) (A : Option Addr) (xs : List Nat) (hreach : xs.length * 8 ≤ 140737488351232) (w : World) (hBs : Bs < w.heap.size) (hn₀ : n₀ ≤ w.heap.size)
 (hc : w.cell? ⟨Bs,0,none⟩ = some (.slice A xs.length cap)) (hI : ∀ (i x : Nat),xs[i]? = some x → ∃ a,A = some a ∧ w.cell? (a.add i) = some (.int .u64 (x : Int))) (hA : ∀ a,0 < xs.length → A = some a → a.block < n₀) :
 SeqStopsK F n prog 143 #[.pointer (some ⟨Bs,0,none⟩)] (fun x : Nat × Nat=>#[Value.int .i64 (x.1 : Int),Value.int .u64 (x.2 : Int)]) (qV n₀ Bs) (fun ys=>ys.map Prod.snd = xs.reverse) (fun _=>True) xs.length w:=fun l J Jx W hW _ _ hY h0=>by
 have hc':=(hW.cell (p:=⟨Bs,0,none⟩) hBs).trans hc;rcases Nat.eq_zero_or_pos xs.length with h | h
 · obtain rfl : xs = []:=List.eq_nil_of_length_eq_zero h
   exact (Kf F n h7 hro l Bs cap A J W hc' h0).mono fun e W' ⟨he,hj⟩=>⟨he,.inl ⟨[],rfl,hj⟩⟩
 · obtain ⟨a,rfl,_⟩:=hI 0 xs[0] (List.getElem?_eq_getElem h)
   refine aaw F n h7 hro hn l Bs n₀ cap a xs hreach (hA a h rfl) J Jx hY W hc' (fun j hj=>?_) h0;obtain ⟨a',e,hcl⟩:=hI j xs[j] (List.getElem?_eq_getElem hj);cases e;exact (hW.cell (by rw [uN];exact Nat.lt_of_lt_of_le (hA a h rfl) hn₀)).trans hcl
theorem aeg {A : Option Addr} {n cap : Nat} (w : World) : eI prog 137 [.slice A n cap] w (fun v w'=>∃ g,v = .func (.func 143) #[] #[.pointer (some ⟨g,0,none⟩)] ∧ w.heap.size ≤ g ∧ fX w' g [.slice A n cap] 157):=by
 refine ⟨adP,(callsIn_wide (n:=2)).1 ((ab1 Fence.wide 2 trivial rfl A n cap w).mono ?_)⟩;rintro e w' ⟨rfl,rfl⟩;exact ⟨_,rfl,(dD.refl w).alloc _,_,rfl,Nat.le_refl _,gQ w _ _⟩
end Go.Proofs.YtfohfflkhpfjeaaGreatDoor
namespace Go.Proofs.YtfohfflkhpfjeaaGreatDoor
open Go.Proofs.Tryz
open Go.RowKit Go.Lith
set_option maxRecDepth 100000
attribute [local irreducible] wpList wpQuiet dC Code.wp
attribute [local go_sem] Oper.semAt_some
theorem ab2 : (prog.info? 5).map (fun i=>(i.zero,i.size,i.bytes)) = some (some (.int .u8 0),1,1):=by kernel_rfl
theorem Ev {W w1 : World} {tmp : Obj} {v v' : Value} {base size k g g3 : Nat} {e t : TypeId} {xs cs : List Value} (hB : fX W g cs t) (hte : t ≠ e) (hr : W.ownsRow base e size v k xs) (hg : (W.alloc tmp).grownBy w1 v.ownBlock) (hne : g ≠ g3) : (w1.setCell ⟨g3,0,none⟩ v').heap[g]? = W.heap[g]?:=by
 have h1 : some g ≠ v.ownBlock:=by
  rcases hr.2 with ⟨rfl,_⟩ | ⟨g',cap,cur,rfl,_,hgb,_⟩
  · simp [Value.ownBlock]
  ·
   intro h;obtain rfl : g = g':=by simpa [Value.ownBlock] using h
   rw [hB] at hgb;cases hgb;exact hte rfl
 exact ((Below.heap_setCell w1 ⟨g3,0,none⟩ v' g hne).trans (hg.block g (by simp;have:=hB.lt;omega) h1)).trans (Below.heap_alloc W tmp g hB.lt)
theorem uH {A : Option Addr} {xs : List Nat} {na cap : Nat} {neg : Bool} (w : World) (hS : cQ w A na cap xs) (hl : xs.length ≤ 100000000000) : eI prog 119 [.slice A na cap,.bool neg] w (fun v _=>v = W (Kn neg (val 4294967296 xs))):=by
 skip
 refine ⟨adC,?_⟩;have hX:=dD.refl w;obtain rfl:=hS.eq;have hlt:=sZ xs;have hle:=hS.le;refine (callsIn_wide (n:=4)).1 (callsIn_of_wp_marks func119 rfl trivial ?_ rfl);simp only[ntmps119,List.size_toArray,List.length_cons,List.length_nil,Nat.reduceAdd,Nat.reduceSub,Array.replicate_succ,Array.replicate_zero,List.push_toArray,List.append_toArray,List.nil_append,List.cons_append];refine wpIn_wide.2 (aD (fun K1 hK1=>wp_region_lit ?_));refine nU jR rfl ?_;intro w1 g1 hE hg1 hB1;have hG1:=Nat.le_trans hX.size hg1;replace hX:=hX.trans hE;clear hE hg1;simp only[zz];refine aG (hK1 _ _ ?_);refine aD (fun K2 hK2=>wp_region_lit (aA (aB) ?_));simp only[zz];refine bK rfl rfl (pY _ (hS.ext hX)) ?_;rintro v w2 hE rfl;replace hB1:=hB1.ext hE;replace hX:=hX.trans hE;clear hE;simp only[zz];refine aA (aF) ?_;simp only[zz];refine aG ?_;obtain ⟨ys,hys⟩ : ∃ ys,ys = trim xs:=⟨_,rfl⟩
 rw [← hys] at hlt ⊢;refine hK2 _ _ (aD (fun K3 hK3=>wp_region_lit (aA (aB) (aA (bF rfl aW rfl) (aA (eT rfl rfl (aN (by omega) (by omega))) ?_)))));simp only[zz];refine lR underlying131 afK rfl rfl rfl (show _ = 0 by omega) (show _ = 4 * ys.length by omega) (by omega) (by omega) (by omega) (by omega) ?_;intro w3 g2 hE hg2 hB2;have hG2:=Nat.le_trans hX.size hg2;have hN2_1 : g2 ≠ g1:=Nat.ne_of_gt (Nat.lt_of_lt_of_le hB1.lt hg2);replace hB1:=hB1.ext hE;replace hX:=hX.trans hE;clear hE hg2;simp only[zz];refine nU Zk rfl ?_;intro w4 g3 hE hg3 hB3;have hG3:=Nat.le_trans hX.size hg3;have hN3_1 : g3 ≠ g1:=Nat.ne_of_gt (Nat.lt_of_lt_of_le hB1.lt hg3);have hN3_2 : g3 ≠ g2:=Nat.ne_of_gt (Nat.lt_of_lt_of_le hB2.lt hg3);replace hB1:=hB1.ext hE;replace hB2:=hB2.ext hE;replace hX:=hX.trans hE;clear hE hg3;simp only[zz];refine dL rfl (by simp only[zz];rfl) (by exact Uy) hB3 (by simp) (by simp [Value.oneCell']) ?_;clear hB3;intro w5 hC hB3;replace hB1:=hB1.chg hC (by first | exact hN1_3 | exact Ne.symm hN3_1);replace hB2:=hB2.chg hC (by first | exact hN2_3 | exact Ne.symm hN3_2);replace hX:=hX.chg hC hG3;clear hC;simp only[zy,zx,bG,Nat.reduceAdd] at hB3;refine aG (hK3 _ _ ?_);refine aD (fun K4 hK4=>aD (fun K5 hK5=>wp_region_lit (aA (aB) ?_)));simp only[zz];refine bK rfl rfl (aeg _) ?_;rintro v w6 hE ⟨g4,rfl,hg4,hB4⟩;have hG4:=Nat.le_trans hX.size hg4;have hN4_1 : g4 ≠ g1:=Nat.ne_of_gt (Nat.lt_of_lt_of_le hB1.lt hg4);have hN4_2 : g4 ≠ g2:=Nat.ne_of_gt (Nat.lt_of_lt_of_le hB2.lt hg4);have hN4_3 : g4 ≠ g3:=Nat.ne_of_gt (Nat.lt_of_lt_of_le hB3.lt hg4);replace hB1:=hB1.ext hE;replace hB2:=hB2.ext hE;replace hB3:=hB3.ext hE;replace hX:=hX.trans hE;clear hE hg4;simp only[zz];refine aG (hK5 _ _ ?_);refine wp_block ((wpIn_wide (n:=4)).1 ?_);have hbase : w.heap.size ≤ w6.heap.size:=hX.size;obtain ⟨n0,hn0⟩ : ∃ n0,n0 = w.heap.size:=⟨_,rfl⟩
 have hT : cQ w6 A ys.length cap ys:=(((hS.ext hX).take (trim xs).length).as (iU xs).symm |> fun h=>by rw [← iU,← hys] at h;exact h)
 have hA : ∀ a,0 < ys.length → A = some a → a.block < w.heap.size:=fun a h0 e=>by
  obtain ⟨a',e',hc⟩:=hS.row 0 (xs[0]'(by omega)) (List.getElem?_eq_getElem (by omega));rw [e] at e';cases e';have:=World.block_lt_of_cell? _ _ hc;rwa [uN] at this
 refine wpIn_rangeFunc_ownG (F:=Fence.wide) rfl (by omega) (gf:=143) (lb:=#[.pointer (some ⟨g4,0,none⟩)]) rfl trivial (enters_of func143 (by kernel_rfl) rfl)
  (Qs Fence.wide 3 trivial rfl (by omega) g4 w.heap.size cap A ys (by omega) w6 hB4.lt hX.size (hB4.cell rfl) hT.row hA) qV.trans (fun W l o o' hl ho _ _=>⟨belowK_b (w:=w6) hX.size W l o o' hl ho ‹_› ‹_›,World.putObj_heap_other (by have:=hB4.lt;omega)⟩) (Below.refl _ _) (fun _=>rfl)
  (fun pre W=>((∃ v,Boxed W g3 131 v ∧ W.ownsRow w.heap.size 5 1 v (Le pre).length ((Le pre).map u8v) ∧ True) ∧ fX W g1 [.bool false,.string ⟨#[]⟩] 65 ∧ fX W g4 [.slice A ys.length cap] 157) ∧ Below w.heap.size w W)
  (fun _ _ _=>False)
  (OwnFrom.and (OwnFrom.and (Own.from (holdsRow_own w.heap.size g3 131 5 1 (fun pre=>(Le pre).length) (fun pre=>(Le pre).map u8v) (fun _ _=>True)) _) (Own.from (fun s X Y row hs hg hr=>⟨(grownBy_keeps_cells hg hr hs.1 rfl).trans hs.1,(grownBy_keeps_cells hg hr hs.2 rfl).trans hs.2⟩) _)) (ownFrom_below (Nat.le_refl _) hX.size))
  (fun _ _ _ _ _ hs _ _=>hs)
  ⟨⟨⟨_,hB3,⟨rfl,.inr ⟨g2,4 * ys.length,_,rfl,hG2,hB2,Nat.zero_le _,by show _ ≤ 9223372036854775807;omega,by simp,by simp [Le]⟩⟩,trivial⟩,hB1,hB4⟩,hX⟩
  (fun x=>{ tmps:=#[.slice A ys.length cap,.bool neg,undef,undef,.pointer (some ⟨g1,0,none⟩),.pointer (some ⟨g3,0,none⟩),undef,.int .u64 (x.2 : Int),undef,.slice A xs.length cap,.slice A ys.length cap,.slice A ys.length cap,.int .i64 (ys.length : Int),.int .i64 (4 * (ys.length : Int)),.slice (some ⟨g2,0,none⟩) 0 (4 * ys.length),.slice A ys.length cap,.func (.func 143) #[] #[.pointer (some ⟨g4,0,none⟩)],.int .i64 (x.1 : Int),.int .u64 (x.2 : Int),undef,undef,undef,undef,undef,undef,undef,undef,undef,undef,undef,undef,undef,undef,undef,undef,undef,undef,undef,undef,undef,undef,undef,undef],defers:=[] }) ?assign ?body ?done ?stop
 case assign =>
  intro l x W K hK;clear hys
  gi_wp2
  exact hK
 case stop =>
  rintro D c pre W _ _ h _;exact h.elim
 case body =>
  rintro l pre x W ⟨⟨⟨v,hv,hrow,_⟩,hB1',hB4'⟩,hB⟩ hlt;have hc:=hv.cell;have hwl : (Le pre).length ≤ 4 * pre.length:=Nat.le_of_eq (Ct pre);clear hys;obtain ⟨i0,hi,hz0,hz1,hz2⟩:=info_parts ab2
  gi_wp2_with (gi_at_builtin;refine wpListIn_append_own _ rfl _ _ 131 rfl w.heap.size 5 i0 (.int .u8 0) 1 1 underlying131 hi hz0 hz1 hz2 rfl (by decide) _ _ _ rfl (hrow.alloc _) ⟨W.heap.size,0,none⟩ 4 4 [.int .u8 ((x.2 : Int) / 16777216 % 256),.int .u8 ((x.2 : Int) / 65536 % 256),.int .u8 ((x.2 : Int) / 256 % 256),.int .u8 ((x.2 : Int) % 256)] rfl rfl ((gQ W _ 5).row 0) (by simp [Value.oneCell']) (by show _ ≤ 9223372036854775807;omega) (by omega) (by have:=hB.size;simp;omega) ?_;intro v' w1 hown' hgrow _;obtain ⟨g',cap',rfl⟩:=ownsRow_succ hown';obtain ⟨hv1,hv2,hr2,hk2,hb2⟩:=hv.appended (by decide) hrow hB.size hG3 hown' hgrow;have hc1:=hv1.cell;have hf1:=hv1.frozen)
  have e1:=Ev hB1' (by decide) hrow hgrow (Ne.symm hN3_1) (v':=.slice (some ⟨g',0,none⟩) ((Le pre).length + 3 + 1) cap');have e4:=Ev hB4' (by decide) hrow hgrow hN4_3 (v':=.slice (some ⟨g',0,none⟩) ((Le pre).length + 3 + 1) cap');refine ⟨hk2.from _,⟨hb2,e4⟩,⟨⟨_,hv2,?_,trivial⟩,e1.trans hB1',e4.trans hB4'⟩,hB.trans hb2⟩;rw [Yc,List.length_append,List.map_append];have e : (wb x.2).map u8v = [.int .u8 ((x.2 : Int) / 16777216 % 256),.int .u8 ((x.2 : Int) / 65536 % 256),.int .u8 ((x.2 : Int) / 256 % 256),.int .u8 ((x.2 : Int) % 256)]:=by simp [wb,UInt8.toNat_ofNat']
  rw [e];exact hr2
 rintro D ls W hD hls ⟨⟨⟨v,hv,hrow,_⟩,hB1',_⟩,hX'⟩ hK';replace hD:=Nat.le_trans hX.size hD;clear hB1 hB2 hB3 hB4 hX hG2 hG4 hN2_1 hN3_2 hN4_1 hN4_2 hN4_3 hbase hT;have hB1:=hB1';have hB3 : fX W g3 [v] 131:=hv;have hX : dD w W:=hX';have hK : Yb W D:=⟨hK'⟩
 have hDg1:=hK.ne hB1;have hlb : (Le ls).length ≤ 1000000000000000:=by
  have:=congrArg List.length hls;rw [List.length_map,List.length_reverse] at this;rw [Ct];omega
 have hbs : lF (oO (Le ls)) = nX (Kn neg (val 4294967296 xs)):=by
  have e : Le ls = ys.reverse.flatMap wb:=by rw [← hls,List.flatMap_map];rfl
  have hd : dB 4294967296 ys:=by rw [hys];exact hS.digs.trim
  rw [e,Pa hd neg,hys,sX]
 dsimp only;refine hK4 _ _ (aD (fun K6 hK6=>wp_region_lit ?_));refine aJ rfl (hB3.lies1 abE rfl) ?_;simp only[zz];refine eL (Oz underlying131 underlying5 sS rfl hrow) ?_;simp only[zz];refine Ip rfl rfl (Qr hlb) ?_;intro w7 hE;replace hB1:=hB1.ext hE;(try replace hK:=hK.ext hE);replace hX:=hX.trans hE;clear hE;simp only[zz];refine aA (aF) ?_;simp only[zz];refine aG ?_;rw [hbs];refine hK6 _ _ (aD (fun K7 hK7=>?_));cases neg
 ·
  refine wp_region_lit (aA (aB) (aA (aB) ?_));simp only[zz];refine cU rfl ?_;simp only[zz];refine cU rfl ?_;simp only[zz];refine aA (iT rfl) (aA (aB) (aA (tV rfl rfl) ?_));simp only[zz];refine dL rfl (by simp only[zz];rfl) (by exact bB) hB1 (by simp) (by simp [Value.oneCell']) ?_;clear hB1;intro w8 hC hB1
  (try replace hK:=hK.chg hC (by first | assumption | rfl));replace hX:=hX.chg hC hG1
  clear hC;simp only[zy,zx,bG,Nat.reduceAdd] at hB1;refine aG (hK7 _ _ ?_);refine wp_ret ?_;try simp only[Exit.inBlock,Exit.then]
  refine aeG hK ?_;replace hB1:=hB1.putD hK (o:=.deferred none);replace hX:=hX.putD hD (o:=.deferred none);refine bS rfl ⟨_,rfl,(hB1.lies dV bB rfl rfl)⟩ ?_;try simp only[zD,zE]
  exact ⟨_,rfl,hX,by simp [Lith.W,Ro,Cv]⟩
 ·
  refine wp_region_lit (aA (aB) (aA (aB) ?_));simp only[zz];refine bU rfl (aA (aB) ?_);simp only[zz];refine bU rfl (aA (ac5 sS rfl rfl) (aA (gA rfl) (aA (aB) ?_)));simp only[zz];refine aA (tV rfl rfl) ?_;simp only[zz];refine dL rfl (by simp only[zz];rfl) (by exact bB) hB1 (by simp) (by simp [Value.oneCell']) ?_;clear hB1;intro w8 hC hB1
  (try replace hK:=hK.chg hC (by first | assumption | rfl));replace hX:=hX.chg hC hG1
  clear hC;simp only[zy,zx,bG,Nat.reduceAdd] at hB1;refine aG (hK7 _ _ ?_);refine wp_ret ?_;try simp only[Exit.inBlock,Exit.then]
  refine aeG hK ?_;replace hB1:=hB1.putD hK (o:=.deferred none);replace hX:=hX.putD hD (o:=.deferred none);refine bS rfl ⟨_,rfl,(hB1.lies dV bB rfl rfl)⟩ ?_;try simp only[zD,zE]
  exact ⟨_,rfl,hX,by simp [Lith.W,Ro,Cv]⟩
end Go.Proofs.YtfohfflkhpfjeaaGreatDoor
namespace Go.Proofs.YtfohfflkhpfjeaaGreatDoor
open Go.Proofs.Tryz
open Go.RowKit Go.Lith
set_option maxRecDepth 100000
attribute [local irreducible] wpList wpQuiet dC Code.wp
theorem afW {a : Int} (ha : Bd 1000000 a) : kV prog 96 [W a] (W (-a)):=by
 intro w;refine ⟨afJ,?_⟩;have hX:=dD.refl w
 go_enter func96,ntmps96
 refine aD (fun K1 hK1=>wp_region_lit ?_);refine vK (by simp only[zz];rfl) ?_;intro w1 g1 hE hg1 hB1;have hG1:=Nat.le_trans hX.size hg1;replace hX:=hX.trans hE;clear hE hg1;simp only[zz];refine nU jR rfl ?_;intro w2 g2 hE hg2 hB2;have hG2:=Nat.le_trans hX.size hg2;have hN2_1 : g2 ≠ g1:=Nat.ne_of_gt (Nat.lt_of_lt_of_le hB1.lt hg2);replace hB1:=hB1.ext hE;replace hX:=hX.trans hE;clear hE hg2;simp only[zz];refine aG (hK1 _ _ ?_);refine aD (fun K2 hK2=>?_);refine gD [(2,true),(0,true),(3,true),(4,true),(1,false),(5,false),(6,false)] aO (by kernel_rfl) (eE (fun _ _ _ _ _ h=>h)) (ol:=?_) ?hol ?_
 case hol=>simp only[zw,zQ,zR];try rfl
 intro w3 hE;replace hB1:=hB1.ext hE;replace hB2:=hB2.ext hE;replace hX:=hX.trans hE;clear hE;refine ⟨_,(pO.blk hB1 pO.nil),?_⟩;refine bO (aK (c:=0) kK rfl jQ rfl rfl) ?_;simp only[zz];refine dU rfl (fun _ ⟨hB1,_⟩=>(hB1.lies dV bB rfl rfl)) ?_;simp only[zz];refine dU rfl (fun _ ⟨hB1,_⟩=>(hB1.lies1 oT rfl)) ?_;simp only[zz];refine bO (gX rfl) ?_;simp only[zz];refine dT (bK rfl rfl (Eu _ (mJ ha)) ?_);rintro v w4 hE ⟨A1,c1,rfl,hN1⟩;replace hB1:=hB1.ext hE;replace hB2:=hB2.ext hE;replace hX:=hX.trans hE;clear hE;rw [lE] at hN1 ⊢;simp only[zz];refine aG (⟨⟨hB1,trivial⟩,?_⟩);refine dT (bK rfl rfl (uH _ hN1 (Nat.le_trans (tD ha) (by decide))) ?_);rintro v w5 hE rfl;replace hB1:=hB1.ext hE;replace hB2:=hB2.ext hE;replace hX:=hX.trans hE;clear hE;simp only[bX];simp only[zz];refine aG (⟨⟨hB1,trivial⟩,?_⟩);refine dT ?_;refine dL rfl (by simp only[zz];rfl) (by exact bB) hB2 (by simp) (by simp [Value.oneCell']) ?_;clear hB2;intro w6 hC hB2;replace hB1:=hB1.chg hC (by first | exact hN1_2 | exact Ne.symm hN2_1);replace hX:=hX.chg hC hG2;clear hC;simp only[zy,zx,bG,Nat.reduceAdd] at hB2;refine aG (⟨⟨hB1,trivial⟩,?_⟩);refine eF ?_;rw [abm] at hB2;refine hK2 _ _ (wp_ret ?_);try simp only[Exit.inBlock,Exit.then]
 refine bS rfl ⟨_,rfl,(hB2.lies dV bB rfl rfl)⟩ ?_;try simp only[zD,zE]
 exact ⟨_,rfl,hX,rfl⟩
theorem Ng {a b : Int} (ha : Bd 1000000 a) (hb : Bd 1000000 b) : kV prog 79 [W a,W b] (W (a + b)):=by
 intro w;refine ⟨afB,?_⟩;have hX:=dD.refl w;have hla:=tD ha;have hlb:=tD hb;have hls:=tD (Bd.add ha hb)
 go_enter func79,ntmps79
 refine aD (fun K1 hK1=>wp_region_lit ?_);refine vK (by simp only[zz];rfl) ?_;intro w1 g1 hE hg1 hB1;have hG1:=Nat.le_trans hX.size hg1;replace hX:=hX.trans hE;clear hE hg1;simp only[zz];refine vK (by simp only[zz];rfl) ?_;intro w2 g2 hE hg2 hB2;have hG2:=Nat.le_trans hX.size hg2;have hN2_1 : g2 ≠ g1:=Nat.ne_of_gt (Nat.lt_of_lt_of_le hB1.lt hg2);replace hB1:=hB1.ext hE;replace hX:=hX.trans hE;clear hE hg2;simp only[zz];refine nU jR rfl ?_;intro w3 g3 hE hg3 hB3;have hG3:=Nat.le_trans hX.size hg3;have hN3_1 : g3 ≠ g1:=Nat.ne_of_gt (Nat.lt_of_lt_of_le hB1.lt hg3);have hN3_2 : g3 ≠ g2:=Nat.ne_of_gt (Nat.lt_of_lt_of_le hB2.lt hg3);replace hB1:=hB1.ext hE;replace hB2:=hB2.ext hE;replace hX:=hX.trans hE;clear hE hg3;simp only[zz];refine aG (hK1 _ _ ?_);refine aD (fun K2 hK2=>?_);refine gD [(0,true),(2,true),(1,false),(3,false),(4,true),(5,true)] aO (by kernel_rfl) (eE (fun _ _ _ _ _ h=>h)) (ol:=?_) ?hol ?_
 case hol=>simp only[zw,zQ,zR];try rfl
 intro w4 hE;replace hB1:=hB1.ext hE;replace hB2:=hB2.ext hE;replace hB3:=hB3.ext hE;replace hX:=hX.trans hE;clear hE;refine ⟨_,(pO.blk hB1 (pO.blk hB2 pO.nil)),?_⟩;refine dU rfl (fun _ ⟨hB1,hB2,_⟩=>(hB1.lies dV bB rfl rfl)) ?_;simp only[zz];refine dU rfl (fun _ ⟨hB1,hB2,_⟩=>(hB2.lies dV bB rfl rfl)) ?_;simp only[zz];refine dT (bK rfl rfl (Eu _ (mJ ha)) ?_);rintro v w5 hE ⟨A1,c1,rfl,hN1⟩;replace hB1:=hB1.ext hE;replace hB2:=hB2.ext hE;replace hB3:=hB3.ext hE;replace hX:=hX.trans hE;clear hE;rw [lE] at hN1 ⊢;simp only[zz];refine aG (⟨⟨hB1,hB2,trivial⟩,?_⟩);refine dT (bK rfl rfl (Eu _ (mJ hb)) ?_);rintro v w6 hE ⟨A2,c2,rfl,hN2⟩;replace hB1:=hB1.ext hE;replace hB2:=hB2.ext hE;replace hB3:=hB3.ext hE;(try replace hN1:=hN1.ext hE);replace hX:=hX.trans hE;clear hE;rw [lE] at hN2 ⊢;simp only[zz];refine aG (⟨⟨hB1,hB2,trivial⟩,?_⟩);refine bO (aF) (bO (aF) ?_);simp only[zz];refine eF (hK2 _ _ ?_);refine aD (fun K3 hK3=>wp_block (aD (fun K4 hK4=>wp_region_lit (aA (aK (c:=0) kK rfl jQ rfl rfl) ?_))));simp only[zz];refine aJ rfl (hB1.lies1 oT rfl) ?_;simp only[zz];refine aA (aK (c:=0) kK rfl jQ rfl rfl) ?_;simp only[zz];refine aJ rfl (hB2.lies1 oT rfl) ?_;simp only[zz];refine aA (ac3 Zc rfl rfl) (aA (aF) ?_);simp only[zz];refine aG (hK4 _ _ ?_);refine cO rfl (fun hc1=>?_) (fun hc1=>?_)
 ·
  refine aD (fun K5 hK5=>?_);refine gD [(0,true),(1,true),(3,true),(4,true),(2,false),(5,false),(6,false)] aO (by kernel_rfl) (eE (fun _ _ _ _ _ h=>h)) (ol:=?_) ?hol ?_
  case hol=>simp only[zw,zQ,zR];try rfl
  intro w7 hE;replace hB1:=hB1.ext hE;replace hB3:=hB3.ext hE;(try replace hN1:=hN1.ext hE);(try replace hN2:=hN2.ext hE);replace hX:=hX.trans hE;clear hE;refine ⟨_,(pO.blk hB1 pO.nil),?_⟩;refine bO (aB) (bO (aB) (bO (aK (c:=0) kK rfl jQ rfl rfl) ?_));simp only[zz];refine dU rfl (fun _ ⟨hB1,_⟩=>(hB1.lies1 oT rfl)) ?_;simp only[zz];refine dT (bK rfl rfl (acL _ hN1 hN2 (Nat.le_trans hla (by decide)) (Nat.le_trans hlb (by decide))) ?_);rintro v w8 hE ⟨A3,c3,rfl,hN3⟩;replace hB1:=hB1.ext hE;replace hB3:=hB3.ext hE;replace hX:=hX.trans hE;clear hE;simp only[zz];refine aG (⟨⟨hB1,trivial⟩,?_⟩);refine dT ?_;simp only[bX] at hN3 ⊢;have hl3 : (digs 4294967296 (a.natAbs + b.natAbs)).length ≤ 100000000000:=Nat.le_trans (Ug ha hb) (by decide);refine bK rfl rfl (uH _ hN3 hl3) ?_;rintro v w9 hE rfl;replace hB1:=hB1.ext hE;replace hB3:=hB3.ext hE;replace hX:=hX.trans hE;clear hE;simp only[bX];simp only[zz];refine aG (⟨⟨hB1,trivial⟩,?_⟩);refine dT ?_;refine dL rfl (by simp only[zz];rfl) (by exact bB) hB3 (by simp) (by simp [Value.oneCell']) ?_;clear hB3;intro w10 hC hB3;replace hB1:=hB1.chg hC (by first | exact hN1_3 | exact Ne.symm hN3_1);replace hX:=hX.chg hC hG3;clear hC;simp only[zy,zx,bG,Nat.reduceAdd] at hB3;refine aG (⟨⟨hB1,trivial⟩,?_⟩);refine eF ?_;rw [abn hc1] at hB3;refine hK5 _ _ (wp_ret ?_);try simp only[Exit.inBlock,Exit.then]
  refine bS rfl ⟨_,rfl,(hB3.lies dV bB rfl rfl)⟩ ?_;try simp only[zD,zE]
  exact ⟨_,rfl,hX,rfl⟩
 ·
  refine aD (fun K6 hK6=>wp_region_lit (aA (aB) (aA (aB) ?_)));simp only[zz];refine bK rfl rfl (Sk _ hN1 hN2 (fE _) (fE _)) ?_;rintro v w7 hE rfl;replace hB1:=hB1.ext hE;replace hB2:=hB2.ext hE;replace hB3:=hB3.ext hE;(try replace hN1:=hN1.ext hE);(try replace hN2:=hN2.ext hE);replace hX:=hX.trans hE;clear hE;simp only[bX];simp only[zz];refine aA (cJ rfl rfl) (aA (aF) ?_);simp only[zz];refine aG (hK6 _ _ ?_);refine cO rfl (fun hc2=>?_) (fun hc2=>?_)
  ·
   have hlt:=rM.1 hc2;refine aD (fun K7 hK7=>?_);refine gD [(0,true),(1,true),(3,true),(4,true),(2,false),(5,false),(6,false)] aO (by kernel_rfl) (eE (fun _ _ _ _ _ h=>h)) (ol:=?_) ?hol ?_
   case hol=>simp only[zw,zQ,zR];try rfl
   intro w8 hE;replace hB2:=hB2.ext hE;replace hB3:=hB3.ext hE;(try replace hN1:=hN1.ext hE);(try replace hN2:=hN2.ext hE);replace hX:=hX.trans hE;clear hE;refine ⟨_,(pO.blk hB2 pO.nil),?_⟩;refine bO (aB) (bO (aB) (bO (aK (c:=0) kK rfl jQ rfl rfl) ?_));simp only[zz];refine dU rfl (fun _ ⟨hB2,_⟩=>(hB2.lies1 oT rfl)) ?_;simp only[zz];refine dT ?_;refine bK rfl rfl (aat _ hN2 hN1 (Cw (Nat.le_of_lt hlt)) (by simp only[bX];omega) (Nat.le_trans hlb (by decide))) ?_;rintro v w9 hE ⟨⟨A3,c3,rfl,hN3⟩,_⟩;replace hB2:=hB2.ext hE;replace hB3:=hB3.ext hE;replace hX:=hX.trans hE;clear hE;simp only[bX] at hN3 ⊢;have hl3:=Cw (Nat.sub_le b.natAbs a.natAbs);simp only[zz];refine aG (⟨⟨hB2,trivial⟩,?_⟩);refine dT (bK rfl rfl (uH _ hN3 (Nat.le_trans hl3 (Nat.le_trans hlb (by decide)))) ?_);rintro v w10 hE rfl;replace hB2:=hB2.ext hE;replace hB3:=hB3.ext hE;replace hX:=hX.trans hE;clear hE;simp only[bX];simp only[zz];refine aG (⟨⟨hB2,trivial⟩,?_⟩);refine dT ?_;refine dL rfl (by simp only[zz];rfl) (by exact bB) hB3 (by simp) (by simp [Value.oneCell']) ?_;clear hB3;intro w11 hC hB3;replace hB2:=hB2.chg hC (by first | exact hN2_3 | exact Ne.symm hN3_2);replace hX:=hX.chg hC hG3;clear hC;simp only[zy,zx,bG,Nat.reduceAdd] at hB3;refine aG (⟨⟨hB2,trivial⟩,?_⟩);refine eF ?_;rw [ac7 hc1 hlt] at hB3;refine hK7 _ _ (wp_ret ?_);try simp only[Exit.inBlock,Exit.then]
   refine bS rfl ⟨_,rfl,(hB3.lies dV bB rfl rfl)⟩ ?_;try simp only[zD,zE]
   exact ⟨_,rfl,hX,rfl⟩
  ·
   have hge : b.natAbs ≤ a.natAbs:=Nat.le_of_not_lt fun h=>hc2 (rM.2 h);refine wp_skip (hK3 _ _ ?_);refine aD (fun K8 hK8=>?_);refine gD [(0,true),(1,true),(3,true),(4,true),(2,false),(5,false),(6,false)] aO (by kernel_rfl) (eE (fun _ _ _ _ _ h=>h)) (ol:=?_) ?hol ?_
   case hol=>simp only[zw,zQ,zR];try rfl
   intro w8 hE;replace hB1:=hB1.ext hE;replace hB3:=hB3.ext hE;(try replace hN1:=hN1.ext hE);(try replace hN2:=hN2.ext hE);replace hX:=hX.trans hE;clear hE;refine ⟨_,(pO.blk hB1 pO.nil),?_⟩;refine bO (aB) (bO (aB) (bO (aK (c:=0) kK rfl jQ rfl rfl) ?_));simp only[zz];refine dU rfl (fun _ ⟨hB1,_⟩=>(hB1.lies1 oT rfl)) ?_;simp only[zz];refine dT ?_;refine bK rfl rfl (aat _ hN1 hN2 (Cw hge) (by simp only[bX];omega) (Nat.le_trans hla (by decide))) ?_;rintro v w9 hE ⟨⟨A3,c3,rfl,hN3⟩,_⟩;replace hB1:=hB1.ext hE;replace hB3:=hB3.ext hE;replace hX:=hX.trans hE;clear hE;simp only[bX] at hN3 ⊢;have hl3:=Cw (Nat.sub_le a.natAbs b.natAbs);simp only[zz];refine aG (⟨⟨hB1,trivial⟩,?_⟩);refine dT (bK rfl rfl (uH _ hN3 (Nat.le_trans hl3 (Nat.le_trans hla (by decide)))) ?_);rintro v w10 hE rfl;replace hB1:=hB1.ext hE;replace hB3:=hB3.ext hE;replace hX:=hX.trans hE;clear hE;simp only[bX];simp only[zz];refine aG (⟨⟨hB1,trivial⟩,?_⟩);refine dT ?_;refine dL rfl (by simp only[zz];rfl) (by exact bB) hB3 (by simp) (by simp [Value.oneCell']) ?_;clear hB3;intro w11 hC hB3;replace hB1:=hB1.chg hC (by first | exact hN1_3 | exact Ne.symm hN3_1);replace hX:=hX.chg hC hG3;clear hC;simp only[zy,zx,bG,Nat.reduceAdd] at hB3;refine aG (⟨⟨hB1,trivial⟩,?_⟩);refine eF ?_;rw [ac8 hc1 hge] at hB3;refine hK8 _ _ (wp_ret ?_);try simp only[Exit.inBlock,Exit.then]
   refine bS rfl ⟨_,rfl,(hB3.lies dV bB rfl rfl)⟩ ?_;try simp only[zD,zE]
   exact ⟨_,rfl,hX,rfl⟩
end Go.Proofs.YtfohfflkhpfjeaaGreatDoor
namespace Go.Proofs.YtfohfflkhpfjeaaGreatDoor
open Go.Proofs.Tryz
open Go.RowKit Go.Lith
set_option maxRecDepth 100000
attribute [local irreducible] wpList wpQuiet dC Code.wp
theorem aax {a b : Int} (ha : Bd 1000000 a) (hb : Bd 1000000 b) : kV prog 54 [W a,W b] (W (a - b)):=by
 intro w;refine ⟨afk,?_⟩;have hX:=dD.refl w
 go_enter func54,ntmps54
 refine aD (fun K1 hK1=>wp_region_lit ?_);refine vK (by simp only[zz];rfl) ?_;intro w1 g1 hE hg1 hB1;have hG1:=Nat.le_trans hX.size hg1;replace hX:=hX.trans hE;clear hE hg1;simp only[zz];refine vK (by simp only[zz];rfl) ?_;intro w2 g2 hE hg2 hB2;have hG2:=Nat.le_trans hX.size hg2;have hN2_1 : g2 ≠ g1:=Nat.ne_of_gt (Nat.lt_of_lt_of_le hB1.lt hg2);replace hB1:=hB1.ext hE;replace hX:=hX.trans hE;clear hE hg2;simp only[zz];refine nU jR rfl ?_;intro w3 g3 hE hg3 hB3;have hG3:=Nat.le_trans hX.size hg3;have hN3_1 : g3 ≠ g1:=Nat.ne_of_gt (Nat.lt_of_lt_of_le hB1.lt hg3);have hN3_2 : g3 ≠ g2:=Nat.ne_of_gt (Nat.lt_of_lt_of_le hB2.lt hg3);replace hB1:=hB1.ext hE;replace hB2:=hB2.ext hE;replace hX:=hX.trans hE;clear hE hg3;simp only[zz];refine aG (hK1 _ _ ?_);refine aD (fun K2 hK2=>?_);refine iS 4 aO (by kernel_rfl) ?_;simp only[zy];refine lQ rfl (fun _ hE'=>((hB1.ext hE').lies dV bB rfl rfl)) ?_;simp only[zz];refine lQ rfl (fun _ hE'=>((hB2.ext hE').lies dV bB rfl rfl)) ?_;simp only[zz];refine Rl rfl rfl (afW hb) ?_;simp only[zz];refine Rl rfl rfl (Ng ha hb.neg) ?_;simp only[zz];refine dF ?_;intro w4 hE;replace hB3:=hB3.ext hE;replace hX:=hX.trans hE;clear hE;refine dL rfl (by simp only[zz];rfl) (by exact bB) hB3 (by simp) (by simp [Value.oneCell']) ?_;clear hB3;intro w5 hC hB3;replace hX:=hX.chg hC hG3;clear hC;simp only[zy,zx,bG,Nat.reduceAdd] at hB3;refine aG ?_;rw [← Int.sub_eq_add_neg] at hB3;refine hK2 _ _ (wp_ret ?_);try simp only[Exit.inBlock,Exit.then]
 refine bS rfl ⟨_,rfl,(hB3.lies dV bB rfl rfl)⟩ ?_;try simp only[zD,zE]
 exact ⟨_,rfl,hX,rfl⟩
theorem Sp {a b : Int} (ha : Bd 1000000 a) (hb : Bd 1000000 b) : kV prog 78 [W a,W b] (W (a * b)):=by
 intro w;refine ⟨afA,?_⟩;have hX:=dD.refl w;have hla:=tD ha;have hlb:=tD hb;have hls:=tD (Bd.mul ha hb)
 go_enter func78,ntmps78
 refine aD (fun K1 hK1=>wp_region_lit ?_);refine vK (by simp only[zz];rfl) ?_;intro w1 g1 hE hg1 hB1;have hG1:=Nat.le_trans hX.size hg1;replace hX:=hX.trans hE;clear hE hg1;simp only[zz];refine vK (by simp only[zz];rfl) ?_;intro w2 g2 hE hg2 hB2;have hG2:=Nat.le_trans hX.size hg2;have hN2_1 : g2 ≠ g1:=Nat.ne_of_gt (Nat.lt_of_lt_of_le hB1.lt hg2);replace hB1:=hB1.ext hE;replace hX:=hX.trans hE;clear hE hg2;simp only[zz];refine nU jR rfl ?_;intro w3 g3 hE hg3 hB3;have hG3:=Nat.le_trans hX.size hg3;have hN3_1 : g3 ≠ g1:=Nat.ne_of_gt (Nat.lt_of_lt_of_le hB1.lt hg3);have hN3_2 : g3 ≠ g2:=Nat.ne_of_gt (Nat.lt_of_lt_of_le hB2.lt hg3);replace hB1:=hB1.ext hE;replace hB2:=hB2.ext hE;replace hX:=hX.trans hE;clear hE hg3;simp only[zz];refine aG (hK1 _ _ ?_);refine aD (fun K2 hK2=>?_);refine gD [(5,true),(7,true),(0,true),(2,true),(6,true),(8,true),(9,true),(1,false),(3,false),(4,false),(10,false),(11,false)] aO (by kernel_rfl) (eE (fun _ _ _ _ _ h=>h)) (ol:=?_) ?hol ?_
 case hol=>simp only[zw,zQ,zR];try rfl
 intro w4 hE;replace hB1:=hB1.ext hE;replace hB2:=hB2.ext hE;replace hB3:=hB3.ext hE;replace hX:=hX.trans hE;clear hE;refine ⟨_,(pO.blk hB1 (pO.blk hB2 pO.nil)),?_⟩;refine bO (aK (c:=0) kK rfl jQ rfl rfl) (bO (aK (c:=0) kK rfl jQ rfl rfl) ?_);simp only[zz];refine dU rfl (fun _ ⟨hB1,hB2,_⟩=>(hB1.lies dV bB rfl rfl)) ?_;simp only[zz];refine dU rfl (fun _ ⟨hB1,hB2,_⟩=>(hB2.lies dV bB rfl rfl)) ?_;simp only[zz];refine dU rfl (fun _ ⟨hB1,hB2,_⟩=>(hB1.lies1 oT rfl)) ?_;simp only[zz];refine dU rfl (fun _ ⟨hB1,hB2,_⟩=>(hB2.lies1 oT rfl)) ?_;simp only[zz];refine bO (ac4 Zc rfl rfl) ?_;simp only[zz];refine dT (bK rfl rfl (Eu _ (mJ ha)) ?_);rintro v w5 hE ⟨A1,c1,rfl,hN1⟩;replace hB1:=hB1.ext hE;replace hB2:=hB2.ext hE;replace hB3:=hB3.ext hE;replace hX:=hX.trans hE;clear hE;rw [lE] at hN1 ⊢;simp only[zz];refine aG (⟨⟨hB1,hB2,trivial⟩,?_⟩);refine dT (bK rfl rfl (Eu _ (mJ hb)) ?_);rintro v w6 hE ⟨A2,c2,rfl,hN2⟩;replace hB1:=hB1.ext hE;replace hB2:=hB2.ext hE;replace hB3:=hB3.ext hE;(try replace hN1:=hN1.ext hE);replace hX:=hX.trans hE;clear hE;rw [lE] at hN2 ⊢;simp only[zz];refine aG (⟨⟨hB1,hB2,trivial⟩,?_⟩);refine dT (bK rfl rfl (aau _ hN1 hN2 (Nat.le_trans hla (by decide)) (Nat.le_trans hlb (by decide))) ?_);rintro v w7 hE ⟨A3,c3,rfl,hN3⟩;replace hB1:=hB1.ext hE;replace hB2:=hB2.ext hE;replace hB3:=hB3.ext hE;replace hX:=hX.trans hE;clear hE;simp only[bX] at hN3 ⊢;rw [← Int.natAbs_mul] at hN3 ⊢;simp only[zz];refine aG (⟨⟨hB1,hB2,trivial⟩,?_⟩);refine dT (bK rfl rfl (uH _ hN3 (Nat.le_trans hls (by decide))) ?_);rintro v w8 hE rfl;replace hB1:=hB1.ext hE;replace hB2:=hB2.ext hE;replace hB3:=hB3.ext hE;replace hX:=hX.trans hE;clear hE;simp only[bX];simp only[zz];refine aG (⟨⟨hB1,hB2,trivial⟩,?_⟩);refine dT ?_;refine dL rfl (by simp only[zz];rfl) (by exact bB) hB3 (by simp) (by simp [Value.oneCell']) ?_;clear hB3;intro w9 hC hB3;replace hB1:=hB1.chg hC (by first | exact hN1_3 | exact Ne.symm hN3_1);replace hB2:=hB2.chg hC (by first | exact hN2_3 | exact Ne.symm hN3_2);replace hX:=hX.chg hC hG3;clear hC;simp only[zy,zx,bG,Nat.reduceAdd] at hB3;refine aG (⟨⟨hB1,hB2,trivial⟩,?_⟩);refine eF ?_;rw [Int.natAbs_mul,abo] at hB3;refine hK2 _ _ (wp_ret ?_);try simp only[Exit.inBlock,Exit.then]
 refine bS rfl ⟨_,rfl,(hB3.lies dV bB rfl rfl)⟩ ?_;try simp only[zD,zE]
 exact ⟨_,rfl,hX,rfl⟩
theorem wO {n : Int} (h : nJ n) : kV prog 80 [.int .i64 n] (W n):=by
 intro w;refine ⟨afC,?_⟩;have hX:=dD.refl w;have hna:=h.natAbs
 go_enter func80,ntmps80
 refine aD (fun K1 hK1=>wp_region_lit ?_);refine nU jR rfl ?_;intro w1 g1 hE hg1 hB1;have hG1:=Nat.le_trans hX.size hg1;replace hX:=hX.trans hE;clear hE hg1;simp only[zz];refine aG (hK1 _ _ ?_);refine aD (fun K2 hK2=>?_);rcases (show n < 0 ∨ 0 ≤ n by omega) with h0 | h0
 ·
  refine wp_region_lit (aA (aB) (aA (vZ yX kJ rfl (abp h h0)) (aA (aF) ?_)));simp only[zz];refine aG (hK2 _ _ ?_);refine aD (fun K3 hK3=>aD (fun K4 hK4=>wp_region_lit (aA (aB) (aA (bT rfl rfl (by omega)) ?_))));simp only[zz];refine aG (hK4 _ _ ?_);refine cK rfl (wp_region_lit (aA (aB) (aA (acv rfl (Uh hna (by omega))) (aA (aF) ?_))));simp only[zz];refine aG (hK3 _ _ ?_);refine aD (fun K5 hK5=>wp_region_lit (aA (aB) (aA (qC rfl rfl (Bp (by omega))) (aA (aB) ?_))));simp only[zz];refine aA (pE rfl rfl (by omega) Om) ?_;simp only[zz];refine Ky aW (z:=.int .u64 0) (by kernel_rfl) rfl (by simp only[zz];rfl) (by rfl) (by simp only[zz];rfl) (by rfl) ?_;intro w2 g2 hE hg2 hB2;have hG2:=Nat.le_trans hX.size hg2;have hN2_1 : g2 ≠ g1:=Nat.ne_of_gt (Nat.lt_of_lt_of_le hB1.lt hg2);replace hB1:=hB1.ext hE;replace hX:=hX.trans hE;clear hE hg2;simp only[zz];refine aA (aB) (aA (bT rfl rfl (by omega)) ?_);simp only[zz];refine bK rfl rfl (uH _ (hB2.nat (os:=[n.natAbs % 4294967296,n.natAbs / 4294967296]) (Cx (by omega)) rfl (by omega)) (by simp)) ?_;rintro v w3 hE rfl;replace hB1:=hB1.ext hE;replace hX:=hX.trans hE;clear hE;simp only[zz];refine dL rfl (by simp only[zz];rfl) (by exact bB) hB1 (by simp) (by simp [Value.oneCell']) ?_;clear hB1;intro w4 hC hB1;replace hX:=hX.chg hC hG1;clear hC;simp only[zy,zx,bG,Nat.reduceAdd] at hB1;refine aG (hK5 _ _ ?_);refine wp_ret ?_;try simp only[Exit.inBlock,Exit.then]
  refine bS rfl ⟨_,rfl,(hB1.lies dV bB rfl rfl)⟩ ?_;try simp only[zD,zE]
  exact ⟨_,rfl,hX,by rw [Gt,show true = gT n from (decide_eq_true h0).symm,Lg];rfl⟩
 ·
  refine wp_region_lit (aA (aB) (aA (vZ yX kJ rfl (ac9 h h0)) (aA (aF) ?_)));simp only[zz];refine aG (hK2 _ _ ?_);refine aD (fun K6 hK6=>aD (fun K7 hK7=>wp_region_lit (aA (aB) (aA (fT rfl rfl (by omega)) ?_))));simp only[zz];refine aG (hK7 _ _ ?_);refine jM rfl (wp_skip ?_);refine hK6 _ _ (aD (fun K8 hK8=>wp_region_lit (aA (aB) (aA (qC rfl rfl (Bp (by omega))) (aA (aB) ?_)))));simp only[zz];refine aA (pE rfl rfl (by omega) Om) ?_;simp only[zz];refine Ky aW (z:=.int .u64 0) (by kernel_rfl) rfl (by simp only[zz];rfl) (by rfl) (by simp only[zz];rfl) (by rfl) ?_;intro w2 g2 hE hg2 hB2;have hG2:=Nat.le_trans hX.size hg2;have hN2_1 : g2 ≠ g1:=Nat.ne_of_gt (Nat.lt_of_lt_of_le hB1.lt hg2);replace hB1:=hB1.ext hE;replace hX:=hX.trans hE;clear hE hg2;simp only[zz];refine aA (aB) (aA (fT rfl rfl (by omega)) ?_);simp only[zz];refine bK rfl rfl (uH _ (hB2.nat (os:=[n.natAbs % 4294967296,n.natAbs / 4294967296]) (Cx (by omega)) rfl (by omega)) (by simp)) ?_;rintro v w3 hE rfl;replace hB1:=hB1.ext hE;replace hX:=hX.trans hE;clear hE;simp only[zz];refine dL rfl (by simp only[zz];rfl) (by exact bB) hB1 (by simp) (by simp [Value.oneCell']) ?_;clear hB1;intro w4 hC hB1;replace hX:=hX.chg hC hG1;clear hC;simp only[zy,zx,bG,Nat.reduceAdd] at hB1;refine aG (hK8 _ _ ?_);refine wp_ret ?_;try simp only[Exit.inBlock,Exit.then]
  refine bS rfl ⟨_,rfl,(hB1.lies dV bB rfl rfl)⟩ ?_;try simp only[zD,zE]
  exact ⟨_,rfl,hX,by rw [Gt,show false = gT n from (decide_eq_false (by omega)).symm,Lg];rfl⟩
end Go.Proofs.YtfohfflkhpfjeaaGreatDoor
namespace Go.Proofs.YtfohfflkhpfjeaaGreatDoor
open Go.Proofs.Tryz
open Go.RowKit Go.Lith
set_option maxRecDepth 100000
attribute [local irreducible] wpList wpQuiet dC Code.wp
theorem Wg {K n R Y M : Nat} (hM : M = 4294967296 ^ (K + 1)) (hRM : R < M) (hy : Y < 4294967296 ^ n) : (digs 4294967296 (R + Y)).length ≤ K + 1 + n + 1:=dY (by omega) (ada (hM ▸ hRM) hy)
theorem aeh {a : Int} (ha : Bd 1000000 a) (h0 : 0 ≤ a) : kV prog 77 [W a] (.tuple #[W (dG a.natAbs : Int),.bool true]):=by
 intro w;refine ⟨afz,?_⟩;have hX:=dD.refl w;have hla:=tD ha;obtain ⟨X,hXa⟩ : ∃ X,X = a.natAbs:=⟨_,rfl⟩
 obtain ⟨K,hK⟩ : ∃ K,K = ((digs 4294967296 X).length + 1) / 2:=⟨_,rfl⟩
 rw [← hXa] at hla;obtain ⟨M,hM⟩ : ∃ M,M = 4294967296 ^ (K + 1):=⟨_,rfl⟩
 have hlen : ∀ V : Nat,V < M → (digs 4294967296 V).length ≤ 1000001:=fun V h=>Nat.le_trans (dY (by omega) (by rw [← hM];exact h)) (by omega);have hXd : X < 4294967296 ^ (digs 4294967296 X).length:=by have:=iN (iP X);rwa [bX] at this
 have hst:=Pc hXd;rw [← hK] at hst;have hMK : 4294967296 ^ K < M:=by rw [hM];exact Nat.pow_lt_pow_right (by omega) (by omega)
 have hp0 : 0 < 4294967296 ^ K:=Nat.pow_pos (by omega);obtain ⟨R0,hR0⟩ : ∃ R0,R0 = 4294967296 ^ K:=⟨_,rfl⟩
 rw [← hR0] at hst hMK hp0;rw [← hXa]
 go_enter func77,ntmps77
 refine aD (fun K1 hK1=>wp_region_lit ?_);refine vK (by simp only[zz];rfl) ?_;intro w1 g1 hE hg1 hB1;have hG1:=Nat.le_trans hX.size hg1;replace hX:=hX.trans hE;clear hE;simp only[zz];refine nU jR rfl ?_;intro w2 g2 hE hg2 hB2;have hG2:=Nat.le_trans hX.size hg2;have hN2_1 : g2 ≠ g1:=Nat.ne_of_gt (Nat.lt_of_lt_of_le hB1.lt hg2);have hL2_1:=Nat.lt_of_lt_of_le hB1.lt hg2;replace hB1:=hB1.ext hE;replace hX:=hX.trans hE;clear hE;simp only[zz];refine aA (aF) ?_;simp only[zz];refine aG (hK1 _ _ ?_);refine aD (fun K2 hK2=>wp_region_lit ?_);refine aJ rfl (hB1.lies dV bB rfl rfl) ?_;simp only[zz];refine bK rfl rfl (Eu _ (mJ ha)) ?_;rintro v w3 hE ⟨A1,c1,rfl,hN1⟩;replace hB1:=hB1.ext hE;replace hB2:=hB2.ext hE;replace hX:=hX.trans hE;clear hE;rw [lE,← hXa] at hN1 ⊢;simp only[zz];refine aA (aF) ?_;simp only[zz];refine aG (hK2 _ _ ?_);refine aD (fun K3 hK3=>aD (fun K4 hK4=>?_));rcases Nat.eq_zero_or_pos X with hX0 | hX0
 ·
  subst hX0;refine wp_region_lit (aA (aB) (aA (bF rfl aW rfl) (aA (pM rfl rfl (by rfl)) ?_)));simp only[zz];refine aG (hK4 _ _ ?_);refine cK rfl (aD (fun K5 hK5=>wp_region_lit (aA (Mb) ?_)));simp only[zz];refine dL rfl (by simp only[zz];rfl) (by exact bB) hB2 (by simp) (by simp [Value.oneCell']) ?_;clear hB2;intro w4 hC hB2;replace hX:=hX.chg hC hG2;clear hC;simp only[zy,zx,bG,Nat.reduceAdd] at hB2;refine aA (aF) ?_;simp only[zz];refine aG (hK5 _ _ ?_);refine wp_ret ?_;try simp only[Exit.inBlock,Exit.then]
  refine nV rfl ⟨_,rfl,(hB2.lies dV bB rfl rfl)⟩ rfl ?_;try simp only[zD,zE]
  exact ⟨_,rfl,hX,rfl⟩
 ·
  refine wp_region_lit (aA (aB) (aA (bF rfl aW rfl) (aA (acY rfl rfl (fun e=>by have h1:=(sY (B:=4294967296) (by omega)).1 (List.eq_nil_of_length_eq_zero (show (digs 4294967296 X).length = 0 by omega));omega)) ?_)));simp only[zz];refine aG (hK4 _ _ ?_);refine jM rfl (wp_skip ?_);refine hK3 _ _ (aD (fun K6 hK6=>aD (fun K7 hK7=>wp_region_lit (aA (aK (c:=0) kK rfl jQ rfl rfl) ?_))));simp only[zz];refine aJ rfl (hB1.lies1 oT rfl) ?_;simp only[zz];refine aG (hK7 _ _ ?_);refine kW rfl (fun hc2=>?_) (fun hc2=>?_)
  ·
   exact absurd (Gs hc2) (by omega)
  ·
   refine wp_skip ?_;refine hK6 _ _ (aD (fun K8 hK8=>wp_region_lit (aA (aB) (aA (bF rfl aW rfl) (aA (aQ rfl rfl (aN (by omega) (by omega))) ?_)))));simp only[zz];refine aA (jE rfl rfl (by omega) ((Bt (m:=(digs 4294967296 X).length + 1) (n:=2) (by omega)).trans (congrArg (fun q : Nat=>(q : Int)) hK.symm))) ?_;simp only[zz];have hN0:=hN1;have hE0:=dD.refl_of hB1;refine lR aW kT rfl rfl rfl (show _ = K by omega) (show _ = K by omega) (by omega) (by omega) (by omega) (by omega) ?_;intro w4 g3 hE hg3 hB3;have hG3:=Nat.le_trans hX.size hg3;have hN3_1 : g3 ≠ g1:=Nat.ne_of_gt (Nat.lt_of_lt_of_le hB1.lt hg3);have hN3_2 : g3 ≠ g2:=Nat.ne_of_gt (Nat.lt_of_lt_of_le hB2.lt hg3);have hL3_1:=Nat.lt_of_lt_of_le hB1.lt hg3;have hL3_2:=Nat.lt_of_lt_of_le hB2.lt hg3;replace hB1:=hB1.ext hE;replace hB2:=hB2.ext hE;(try replace hE0:=hE0.ext hE);replace hX:=hX.trans hE;clear hE;simp only[zz];refine xC aW (z:=.int .u64 0) (by kernel_rfl) rfl (by simp only[zz];rfl) (by rfl) ?_;intro w5 g4 hE hg4 hB4;have hG4:=Nat.le_trans hX.size hg4;have hN4_1 : g4 ≠ g1:=Nat.ne_of_gt (Nat.lt_of_lt_of_le hB1.lt hg4);have hN4_2 : g4 ≠ g2:=Nat.ne_of_gt (Nat.lt_of_lt_of_le hB2.lt hg4);have hN4_3 : g4 ≠ g3:=Nat.ne_of_gt (Nat.lt_of_lt_of_le hB3.lt hg4);have hL4_1:=Nat.lt_of_lt_of_le hB1.lt hg4;have hL4_2:=Nat.lt_of_lt_of_le hB2.lt hg4;have hL4_3:=Nat.lt_of_lt_of_le hB3.lt hg4;replace hB2:=hB2.ext hE;replace hB3:=hB3.ext hE;(try replace hE0:=hE0.ext hE);replace hX:=hX.trans hE;clear hE;simp only[zz];refine Kr rfl aW kT rfl (by decide) rfl (Bh.full (base:=g3) hB3 (Nat.le_refl _) (by simp) (by omega)) rfl (news:=[jF 1]) rfl (hB4.row 0) (by simp [Value.oneCell']) (by omega) (by omega) (Nat.le_of_lt hB3.lt) ?_;intro v1 w9 hO hGr _;replace hX:=hX.grown hGr hG3;replace hB2:=hB2.grew hGr hL3_2;replace hN1:=hN0.grew hE0 hGr hg3;obtain ⟨A5,c5,rfl,hN5⟩:=cQ.of_owns (xs:=List.replicate K 0 ++ [1]) (by have h:=hO;rw [fC] at h;rw [List.map_append];exact h) (by simp) (by rw [Gv];exact iP _) (by omega);rw [Gv,← hR0] at hN5;have hl5:=hN5.eq;rw [hl5] at hN5 ⊢;clear hB3 hB4;simp only[zz];refine aA (aF) ?_;simp only[zz];refine aG (hK8 _ _ ?_);refine wp_block (bM [5] [3,6,7,8,9,26,27,28,29,30,31,32,33,34,35,36,37,38,39,40,41,42,43,44,45] (fun n vs wl=>∃ (R : Nat) (A5 : Option Addr) (c5 : Nat),vs = [.slice A5 (digs 4294967296 R).length c5] ∧ (dD w wl) ∧ (fX wl g2 [.bool false,.string ⟨#[]⟩] 65) ∧ (cQ wl A1 (digs 4294967296 X).length c1 (digs 4294967296 X)) ∧ (cQ wl A5 (digs 4294967296 R).length c5 (digs 4294967296 R)) ∧ (0 < R) ∧ (X < (R + 1) * (R + 1)) ∧ (R < M) ∧ (n = R)) ?_ ?_)
   ·
    apply Exists.intro;simp only[zQ,zR,zD,zE];exact ⟨R0,A5,c5,rfl,hX,hB2,hN1,hN5,hp0,hst,hMK,rfl⟩
   ·
    intro n vs wr hI u;obtain ⟨R,A5,c5,rfl,hX,hB2,hN1,hN5,hp1,hRx,hRM,hn⟩:=hI;simp only[zu,zF,zG];refine wp_block (aD (fun K9 hK9=>wp_region_lit (aA (aB) (aA (aB) ?_))));simp only[zz];refine bK rfl rfl (afV _ hN1 hN5 (fE _) (fE _) (by rw [bX];exact hp1) (by omega) (Nat.le_trans (hlen _ hRM) (by decide))) ?_;rintro v w6 hE ⟨_,_,rfl,⟨A3,c3,rfl,hN3⟩,⟨A4,c4,rfl,hN4⟩⟩;replace hB2:=hB2.ext hE;(try replace hN1:=hN1.ext hE);(try replace hN5:=hN5.ext hE);replace hX:=hX.trans hE;clear hE;simp only[bX] at hN3 hN4 ⊢;have hl3:=Cw (Nat.div_le_self X R);simp only[zz];refine aA (aB) (aA (aZ rfl rfl) (aA (aZ rfl rfl) ?_));simp only[zz];refine aA (aF) (aA (aF) ?_);simp only[zz];refine aG (hK9 _ _ ?_);refine aD (fun K10 hK10=>wp_region_lit (aA (aB) (aA (aB) ?_)));simp only[zz];refine bK rfl rfl (acL _ hN5 hN3 (Nat.le_trans (hlen _ hRM) (by decide)) (by omega)) ?_;rintro v w7 hE ⟨A6,c6,rfl,hN6⟩;replace hB2:=hB2.ext hE;(try replace hN1:=hN1.ext hE);(try replace hN5:=hN5.ext hE);replace hX:=hX.trans hE;clear hE;simp only[bX] at hN6 ⊢;simp only[zz];have hl6 : (digs 4294967296 (R + X / R)).length ≤ 1099511627776:=by
     have h1:=iN (iP X);rw [bX] at h1;have h2 : X / R ≤ X:=Nat.div_le_self _ _;exact Nat.le_trans (Wg hM hRM (Nat.lt_of_le_of_lt h2 h1)) (by omega)
    refine bK rfl rfl (Sl (d:=2) _ hN6 hl6 (by omega) (by omega)) ?_;rintro v w8 hE ⟨q,rfl,A7,c7,rfl,hN7⟩;replace hB2:=hB2.ext hE;(try replace hN1:=hN1.ext hE);(try replace hN5:=hN5.ext hE);replace hX:=hX.trans hE;clear hE;simp only[bX] at hN7 ⊢;simp only[zz];refine aA (aB) (aA (aZ rfl rfl) (aA (aZ rfl rfl) ?_));simp only[zz];refine aA (aF) (aA (aF) ?_);simp only[zz];refine aG (hK10 _ _ ?_);refine aD (fun K11 hK11=>aD (fun K12 hK12=>wp_region_lit (aA (aB) (aA (aB) ?_))));simp only[zz];refine bK rfl rfl (Sk _ hN7 hN5 (fE _) (fE _)) ?_;rintro v w9 hE rfl;replace hB2:=hB2.ext hE;(try replace hN1:=hN1.ext hE);(try replace hN5:=hN5.ext hE);(try replace hN7:=hN7.ext hE);replace hX:=hX.trans hE;clear hE;simp only[bX];simp only[zz];refine aA (vI rfl rfl) ?_;simp only[zz];refine aG (hK12 _ _ ?_);refine cO rfl (fun hc3=>?_) (fun hc3=>?_)
    ·
     have hge:=Cy.1 hc3;have hres:=Uj hp1 hRx hge;refine aD (fun K13 hK13=>wp_region_lit (aA (aB) ?_));simp only[zz];refine bK rfl rfl (uH _ hN5 (Nat.le_trans (hlen _ hRM) (by decide))) ?_;rintro v w10 hE rfl;replace hB2:=hB2.ext hE;replace hX:=hX.trans hE;clear hE;simp only[bX];simp only[zz];refine dL rfl (by simp only[zz];rfl) (by exact bB) hB2 (by simp) (by simp [Value.oneCell']) ?_;clear hB2;intro w11 hC hB2;replace hX:=hX.chg hC hG2;clear hC;simp only[zy,zx,bG,Nat.reduceAdd] at hB2;refine aA (aF) ?_;simp only[zz];refine aG (hK13 _ _ ?_);refine wp_ret ?_;try simp only[Exit.inBlock,Exit.then]
     refine nV rfl ⟨_,rfl,(hB2.lies dV bB rfl rfl)⟩ rfl ?_;try simp only[zD,zE]
     exact ⟨_,rfl,hX,by rw [← hres,oG];rfl⟩
    ·
     have hlt : ¬ R ≤ (R + X / R) / 2:=fun h=>hc3 (Cy.2 h);refine wp_skip (hK11 _ _ ?_);refine wp_region_lit (aA (aB) (aA (aF) ?_));simp only[zz];refine aG ?_;simp only[Exit.inBlock,Exit.then];refine ⟨(R + X / R) / 2,_,?_,rfl,?_,?_⟩
     · rw [hn];exact Gu hlt
     · simp only[zz,zv]
     ·
      simp only[zQ,zR,zD,zE];exact ⟨(R + X / R) / 2,A7,c7,rfl,hX,hB2,hN1,hN7,Yd hp1 hRx hX0,Ui hp1,Nat.lt_trans (Gu hlt) hRM,rfl⟩
end Go.Proofs.YtfohfflkhpfjeaaGreatDoor
namespace Go.Proofs.YtfohfflkhpfjeaaGreatDoor
open Go.Proofs.Tryz
open Go.RowKit Go.Lith
set_option maxRecDepth 100000
attribute [local irreducible] wpList wpQuiet dC cS cR Code.wp
theorem afX {X k : Nat} (hk : k < (digs 4294967296 X).length) (h2 : (digs 4294967296 X).length ≤ 2) : IntKind.u64.wrap ((BitVec.ofInt IntKind.u64.bits ((val 4294967296 ((digs 4294967296 X).take k) : Nat) : Int) ||| BitVec.ofInt IntKind.u64.bits (((digs 4294967296 X)[k] * 4294967296 ^ k : Nat) : Int)).toNat : Int) = ((val 4294967296 ((digs 4294967296 X).take (k + 1)) : Nat) : Int):=by
 have hd:=iP X;have h1:=iN (fun x hx=>hd x (List.mem_of_mem_take hx) : dB 4294967296 ((digs 4294967296 X).take k));rw [List.length_take,Nat.min_eq_left (by omega)] at h1;rw [agr h1 (hd _ (List.getElem_mem hk)) (by omega),cW hk,Nat.mul_comm]
theorem ab3 {X : Nat} (hl : (digs 4294967296 X).length ≤ 2) : X < 18446744073709551616:=by
 have h:=iN (iP X);rw [bX] at h;have h3 : 4294967296 ^ (digs 4294967296 X).length ≤ 4294967296 ^ 2:=Nat.pow_le_pow_right (by omega) hl;omega
theorem aei {a : Int} (ha : Bd 1000000 a) : kV prog 81 [W a] (.tuple #[.int .i64 (Wa a),.bool (decide (nJ a))]):=by
 intro w;refine ⟨afD,?_⟩;have m:=bR.refl w;obtain ⟨X,hXa⟩ : ∃ X,X = a.natAbs:=⟨_,rfl⟩
 go_enter func81,ntmps81
 refine aD fun K1 k1=>wp_region_lit (eY m rfl ?_);clear m;intro g1 u m;refine aA (aF) (aA (aF) (aG (k1 _ _ ?_)));refine aD fun K2 k2=>wp_region_lit ?_;simp only[zz];refine aJ rfl ((m.b 0 rfl).full dV bB) ?_;simp only[zz];refine gF m rfl rfl (Eu _ (mJ ha)) ?_;clear m;rintro v u m ⟨A1,c1,rfl,hN1⟩;simp only[zz];rw [lE,← hXa] at hN1;rw [lE,← hXa];have hx1:=m.ext;refine aA (aF) (aG (k2 _ _ ?_));refine aD fun K3 k3=>aD fun K4 k4=>wp_region_lit (aA (aB) (aA (bF rfl aW rfl) (aA (sU rfl rfl) ?_)));simp only[zz];refine aG (k4 _ _ ?_);refine cO rfl (fun hc1=>?_) (fun hc1=>?_)
 ·
  have hbig : ¬ nJ a:=aas hXa (by omega);refine aD fun K5 k5=>wp_region_lit (aA (aF) (aA (aF) (aG (k5 _ _ ?_))));refine wp_ret ?_;simp only[zz];try simp only[Exit.inBlock,Exit.then,if_true]
  refine nV rfl rfl rfl ?_;try simp only[zD,zE]
  exact ⟨_,rfl,m.ext,Qq hbig⟩
 ·
  have hl2 : (digs 4294967296 X).length ≤ 2:=by omega
  have hX64:=ab3 hl2;refine wp_skip (k3 _ _ ?_);refine aD fun K6 k6=>wp_region_lit (aA (aF) (aG (k6 _ _ ?_)));refine aD fun K7 k7=>aD fun K8 k8=>wp_region_lit (aA (aB) (aA (bF rfl aW rfl) (aA (aB) ?_)));simp only[zz];refine aG (k8 _ _ ?_);refine wp_block ?_;try simp only[Nat.zero_add,Nat.reduceAdd,Nat.reduceMul,Int.reduceToNat]
  refine bM [5,15] [6,7,16,17,18,19,20,21,22,23,24,25,26] (fun n vs wl=>∃ (k : Nat),vs = [.int .u64 ((val 4294967296 ((digs 4294967296 X).take k) : Nat) : Int),.int .i64 (k:Int)] ∧ bR w wl [bI g1 [.bool (gT a),.string (nX a)] 65] ∧ (cQ wl A1 (digs 4294967296 X).length c1 (digs 4294967296 X)) ∧ (k ≤ (digs 4294967296 X).length) ∧ (n = (digs 4294967296 X).length - k)) ?_ ?_
  ·
   apply Exists.intro;simp only[zQ,zR,zD,zE];exact ⟨0,rfl,m,hN1,Nat.zero_le _,rfl⟩
  ·
   intro n vs wr hI u;clear m;obtain ⟨k,rfl,m,hN1,hk,hn⟩:=hI;simp only[zu,zF,zG];refine aD fun K9 k9=>wp_region_lit (aA (cJ rfl rfl) (aG (k9 _ _ ?_)));refine aD fun K10 k10=>?_;simp only[zz];refine cO rfl (fun hc2=>?_) (fun hc2=>?_)
   ·
    have hkl : k < (digs 4294967296 X).length:=by omega
    obtain ⟨p,rfl,hca,hlt⟩:=hN1.get hkl;refine wp_skip (k10 _ _ ?_);refine aD fun K11 k11=>wp_block (aD fun K12 k12=>wp_region_lit (aA (aB) ?_));simp only[zz];refine aA (aM aW aV rfl rfl (by omega) (by omega) (lT (Int.toNat_natCast _))) ?_;simp only[zz];refine aJ rfl (lies1 hca eC) ?_;simp only[zz];refine aA (aF) (aA (aF) (aG (k12 _ _ ?_)));refine wp_region_lit (aA (aB) (aA (aB) ?_));simp only[zz];refine aA (aB) ?_;simp only[zz];refine aA (eT rfl rfl (aN (by omega) (by omega))) ?_;simp only[zz];refine aA (Ao rfl rfl (by omega) (afU hlt (by omega))) (aA (Ko rfl rfl (afX hkl hl2)) (aA (aF) (aG (k11 _ _ ?_))));refine wp_region_lit ?_;simp only[zz];refine aA (aQ rfl rfl (aN (by omega) (by omega))) (aA (aB) (aG ?_));simp only[zz];simp only[Exit.inBlock,Exit.then];refine ⟨(digs 4294967296 X).length - (k + 1),_,?_,rfl,?_,?_⟩
    · omega
    · simp only[zz,zv]
    ·
     simp only[zQ,zR,zD,zE];exact ⟨k + 1,rfl,m,hN1,by omega,rfl⟩
   ·
    obtain rfl : k = (digs 4294967296 X).length:=by omega
    rw [List.take_length,bX];refine wp_exit (k7 _ _ ?_);refine aD fun K13 k13=>wp_block (aD fun K14 k14=>?_);rcases Wb hXa with ⟨h1,h2,h3,h4⟩ | ⟨h1,h2,h3⟩ | ⟨h1,h2,h3⟩ | ⟨h1,h2,h3,h4⟩
    ·
     rw [h1] at m;refine wp_region_lit (aA (aK (c:=0) kK rfl jQ rfl rfl) ?_);simp only[zz];refine aJ rfl ((m.b 0 rfl).lies1 oT rfl) ?_;simp only[zz];refine aA (aB) (bU rfl (aA (aB) (bU rfl ?_)));simp only[zz];refine aA (Ol rfl rfl (by omega)) (aA (gA rfl) (aA (aF) (aG (k14 _ _ ?_))));refine cK rfl (aD fun K15 k15=>wp_region_lit (aA (aB) ?_));simp only[zz];refine aA (acv rfl rfl) (aA (vZ kJ yX rfl (aao h2)) (aA (aF) (aA (aF) ?_)));simp only[zz];refine aG (k15 _ _ ?_);refine wp_ret ?_;try simp only[Exit.inBlock,Exit.then,if_true]
     refine nV rfl rfl rfl ?_;try simp only[zD,zE]
     exact ⟨_,rfl,m.ext,Sj h3 h4.symm⟩
    ·
     rw [h1] at m;refine wp_region_lit (aA (aK (c:=0) kK rfl jQ rfl rfl) ?_);simp only[zz];refine aJ rfl ((m.b 0 rfl).lies1 oT rfl) ?_;simp only[zz];refine aA (aB) (bU rfl (aA (aB) (bU rfl ?_)));simp only[zz];refine aA (Xe rfl rfl (by omega)) (aA (gA rfl) (aA (aF) (aG (k14 _ _ ?_))));refine jM rfl (aD fun K16 k16=>wp_region_lit (aA (aB) ?_));simp only[zz];refine aA (Xf rfl rfl (by omega)) (aA (aF) (aG (k16 _ _ ?_)));refine cK rfl (aD fun K17 k17=>wp_region_lit (aA (aF) (aA (aF) ?_)));simp only[zz];refine aG (k17 _ _ ?_);refine wp_ret ?_;try simp only[Exit.inBlock,Exit.then,if_true]
     refine nV rfl rfl rfl ?_;try simp only[zD,zE]
     exact ⟨_,rfl,m.ext,Qq h3⟩
    ·
     rw [h1] at m;refine wp_region_lit (aA (aK (c:=0) kK rfl jQ rfl rfl) ?_);simp only[zz];refine aJ rfl ((m.b 0 rfl).lies1 oT rfl) ?_;simp only[zz];refine aA (aB) (cU rfl (cU rfl (aA (iT rfl) ?_)));simp only[zz];refine aA (aF) (aG (k14 _ _ ?_));refine jM rfl (aD fun K18 k18=>wp_region_lit (aA (aB) ?_));simp only[zz];refine aA (Xf rfl rfl (by omega)) (aA (aF) (aG (k18 _ _ ?_)));refine cK rfl (aD fun K19 k19=>wp_region_lit (aA (aF) (aA (aF) ?_)));simp only[zz];refine aG (k19 _ _ ?_);refine wp_ret ?_;try simp only[Exit.inBlock,Exit.then,if_true]
     refine nV rfl rfl rfl ?_;try simp only[zD,zE]
     exact ⟨_,rfl,m.ext,Qq h3⟩
    ·
     rw [h1] at m;refine wp_region_lit (aA (aK (c:=0) kK rfl jQ rfl rfl) ?_);simp only[zz];refine aJ rfl ((m.b 0 rfl).lies1 oT rfl) ?_;simp only[zz];refine aA (aB) (cU rfl (cU rfl (aA (iT rfl) ?_)));simp only[zz];refine aA (aF) (aG (k14 _ _ ?_));refine jM rfl (aD fun K20 k20=>wp_region_lit (aA (aB) ?_));simp only[zz];refine aA (acX rfl rfl (by omega)) (aA (aF) (aG (k20 _ _ ?_)));refine jM rfl (wp_skip (k13 _ _ ?_));refine aD fun K21 k21=>wp_region_lit (aA (aB) (aA (vZ kJ yX rfl (aN (by omega) (by omega))) ?_));simp only[zz];refine aA (aF) (aA (aF) (aG (k21 _ _ ?_)));refine wp_ret ?_;simp only[zz];try simp only[Exit.inBlock,Exit.then,if_true]
     refine nV rfl rfl rfl ?_;try simp only[zD,zE]
     exact ⟨_,rfl,m.ext,Sj h3 h4.symm⟩
end Go.Proofs.YtfohfflkhpfjeaaGreatDoor
namespace Go.Lith
open Go.RowKit Go.ChangeMaps Go.MapKept
def Hz (is : List It) : It where
 own b:=∃ i ∈ is,i.own b
 P w:=(∀ i ∈ is,i.P w) ∧ is.Pairwise Ap
 lt w b h e:=by obtain ⟨i,hi,ho⟩:=e;exact i.lt w b (h.1 i hi) ho
 st w w' h s k:=⟨fun i hi=>i.st w w' (h.1 i hi) s fun b hb=>k b ⟨i,hi,hb⟩,h.2⟩
section
variable {w0 w : World} {a is : List It}
theorem bR.pack (a : List It) (m : bR w0 w (a ++ is)) : bR w0 w (a ++ [Hz is]):=by
 have h:=List.pairwise_append.1 m.nd;refine ⟨m.ext,fun i hi=>?_,fun i hi b hb=>?_,List.pairwise_append.2 ⟨h.1,List.pairwise_singleton _ _,fun x hx y hy b h1 h2=>?_⟩⟩
 · rcases List.mem_append.1 hi with hi | hi
   · exact m.all i (List.mem_append_left _ hi)
   · obtain rfl:=List.mem_singleton.1 hi
     exact ⟨fun i hi=>m.all i (List.mem_append_right _ hi),h.2.1⟩
 · rcases List.mem_append.1 hi with hi | hi
   · exact m.ge i (List.mem_append_left _ hi) b hb
   · obtain rfl:=List.mem_singleton.1 hi
     obtain ⟨j,hj,hb⟩:=hb;exact m.ge j (List.mem_append_right _ hj) b hb
 · obtain rfl:=List.mem_singleton.1 hy
   obtain ⟨j,hj,hb⟩:=h2;exact h.2.2 x hx j hj b h1 hb
theorem bR.unpack (a : List It) (m : bR w0 w (a ++ [Hz is])) : bR w0 w (a ++ is):=by
 have h:=List.pairwise_append.1 m.nd;have hP : (∀ i ∈ is,i.P w) ∧ is.Pairwise Ap:=m.all _ (List.mem_append_right _ (List.mem_singleton_self _));refine ⟨m.ext,fun i hi=>?_,fun i hi b hb=>?_,List.pairwise_append.2 ⟨h.1,hP.2,fun x hx y hy b h1 h2=>?_⟩⟩
 · rcases List.mem_append.1 hi with hi | hi
   · exact m.all i (List.mem_append_left _ hi)
   · exact hP.1 i hi
 · rcases List.mem_append.1 hi with hi | hi
   · exact m.ge i (List.mem_append_left _ hi) b hb
   · exact m.ge _ (List.mem_append_right _ (List.mem_singleton_self _)) b ⟨i,hi,hb⟩
 · exact h.2.2 x hx _ (List.mem_singleton_self _) b h1 ⟨y,hy,h2⟩
end
def Sq (P : Program) (f : FuncId) (args : List Value) (w : World) (R : Value → World → Prop) : Prop :=
 bE P f ∧ Calls P f args.toArray w fun e w'=>∃ v,e = .returned v ∧ R v w'
section
variable {P : Program} {ds : List Deferred} {l : List Value} {ty : TypeId} {w : World}
variable {ops : Array Oper} {Q : Exit → Act → World → Prop} {rest : List Oper} {d : Nat} {pos : String} {after : Array Edge}
theorem Kg {f : FuncId} {fo : Operand} {xs : Array Operand} {args : List Value} {first cap : Array Value} {a0 : Array TypeId} {R : Value → World → Prop} (hf : ev l fo = .func (.func f) first cap) (hxs : first.toList ++ xs.toList.map (ev l) ++ cap.toList = args) (hc : Sq P f args w R)
 (h : ∀ v u,R v u → wpList P ops Q rest (Fr (l.set d v) ds) u) : wpList P ops Q (Oper.mk (some d) (.call { callee:=.value fo,args:=xs,argTypes:=a0 }) ty pos after none :: rest) (Fr l ds) w:=by
 refine wpList_plain rfl fun K hK=>?_;unfold Oper.wp;rw [fY,kD hc.1 hf hxs _ rfl];refine hc.2.mono ?_;rintro e w' ⟨v,rfl,hR⟩;show K ((Fr l ds).put (some d) v) w'
 rw [iJ];exact hK _ _ (h v w' hR)
end
end Go.Lith
