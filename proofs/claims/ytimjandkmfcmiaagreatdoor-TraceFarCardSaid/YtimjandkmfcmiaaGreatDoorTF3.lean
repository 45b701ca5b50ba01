/-
 Texts of one claim, laid together: Wide6, Wide1, Wide2, Wide3, Wide4, Wide5, Back, Wide7, Wide8, Wide9, Wide10, Ops4.
-/
import Derived.RangeFuncNested
import Derived.RangeFuncBound
import Derived.RangeFuncCalls
import Derived.RangeFuncBox
import Derived.RangeFuncLeaves
import Derived.Shelf.Abstract
import Derived.Shelf.RegionOpen
import Derived.WalkKit
import Derived.OwnWalkIn
import Derived.TacticsInMore
import Derived.LoopNIn
import Derived.LoopIn
import Derived.Maps.AppendAt
import Derived.Test.YtimjandkmfcmiaaGreatDoorTF2
set_option maxHeartbeats 8000000
set_option linter.unusedSimpArgs false
set_option linter.unusedVariables false
set_option linter.unusedSectionVars false
namespace Go.Proofs.YtimjandkmfcmiaaGreatDoor
open Tryz
open Go.RowKit Go.Lith
abbrev cE:=@underlying97
set_option maxRecDepth 100000
attribute [local irreducible] wpList wpQuiet eS Code.wp
theorem Bt {l : List UInt8} (hl : l.length ≤ 1000000000000000) : dP prog 125 [.string (lD l),.int .u8 0] (.string (lD (iN l))):=by
 intro w;refine ⟨Zx,?_⟩;have hX:=dL.refl w
 go_enter func125,ntmps125
 refine aF (fun K1 hK1=>wp_region_lit (aA (aD) ?_));simp only[zz];refine aC (hK1 _ _ ?_);refine aF (fun K2 hK2=>wp_block ?_);refine dI [0] [5,6,7,8,9,10,11,12,13,14,15] (fun n vs wl=>∃ (k : List UInt8),vs = [.string (lD k)] ∧ (dL w wl) ∧ (iN k = iN l) ∧ (k.length ≤ 1000000000000000) ∧ (n = k.length)) ?_ ?_
 ·
  apply Exists.intro;simp only[zQ,zR,zD,zE];exact ⟨l,rfl,hX,rfl,hl,rfl⟩
 ·
  intro n vs wr hI u;obtain ⟨k,rfl,hX,hk,hl,hn⟩:=hI;have hsz:=vC k;simp only[zv,zF,zG];refine aF (fun K3 hK3=>aF (fun K4 hK4=>?_));by_cases hk0 : 0 < k.length
  ·
   obtain ⟨b,hb⟩ : ∃ b,k[0]? = some b:=⟨k[0],List.getElem?_eq_getElem hk0⟩
   refine wp_region_lit (aA (aB) (aA (oX rfl mH rfl) (aA (kT rfl rfl (by omega)) ?_)));simp only[zz];refine aA (aB) ?_;simp only[zz];refine aP rfl (aA (aB) ?_);simp only[zz];refine aP rfl ?_;refine aA ((lU mH rfl rfl (by omega) (by rw [Oo]; exact hb))) ?_;simp only[zz];refine aP rfl (aA (aB) ?_);simp only[zz];refine aP rfl (aA (nA rfl rfl) (aA (cG rfl) ?_));simp only[zz];refine aC (hK4 _ _ ?_);refine cQ rfl (fun hc1=>?_) (fun hc1=>?_)
   ·
    refine wp_skip ?_;refine hK3 _ _ (wp_block (wp_region_lit (aA (aB) (aA (Qm mH rfl rfl (by omega) (by omega)) (aA (aD) ?_)))));simp only[zz];refine aC ?_;rw [show (1 : Int).toNat = 1 from rfl,La];simp only[Exit.inBlock,Exit.then];refine ⟨(k.drop 1).length,_,?_,rfl,?_,?_⟩
    · rw [List.length_drop]; omega
    · simp only[zz,zv]
    ·
     simp only[zQ,zR,zD,zE];exact ⟨k.drop 1,rfl,hX,by rw [Lb hb (by omega)]; exact hk,by rw [List.length_drop]; omega,rfl⟩
   ·
    refine wp_exit ?_;refine hK2 _ _ (aF (fun K5 hK5=>wp_region_lit (aA (aB) (aA (aD) ?_))));simp only[zz];refine aC (hK5 _ _ ?_);refine wp_ret ?_;try simp only[Exit.inBlock,Exit.then]
    refine bU rfl rfl ?_;try simp only[zD,zE]
    exact ⟨_,rfl,hX,by rw [← hk,Lc hb (by omega)]⟩
  ·
   obtain rfl : k = []:=List.eq_nil_of_length_eq_zero (by omega);refine wp_region_lit (aA (aB) (aA (oX rfl mH rfl) (aA (jZ rfl rfl (by omega)) ?_)));simp only[zz];refine aA (aB) ?_;simp only[zz];refine bM rfl ?_;simp only[zz];refine bM rfl ?_;simp only[zz];refine bM rfl ?_;simp only[zz];refine bM rfl ?_;simp only[zz];refine aA (cO rfl) ?_;simp only[zz];refine aC (hK4 _ _ ?_);refine eQ rfl (wp_exit ?_);refine hK2 _ _ (aF (fun K6 hK6=>wp_region_lit (aA (aB) (aA (aD) ?_))));simp only[zz];refine aC (hK6 _ _ ?_);refine wp_ret ?_;try simp only[Exit.inBlock,Exit.then]
   refine bU rfl rfl ?_;try simp only[zD,zE]
   exact ⟨_,rfl,hX,by rw [← hk,Oq]⟩
theorem Lh {l : List UInt8} (hl : l.length ≤ 1000000000000000) : dP prog 98 [.string (lD l),.string ⟨#[0]⟩] (.string (lD (iN l))):=by
 intro w;refine ⟨acL,?_⟩;have hX:=dL.refl w;have hsz:=vC l
 go_enter func98,ntmps98
 refine aF (fun K1 hK1=>wp_region_lit (aA (aD) ?_));simp only[zz];refine aC (hK1 _ _ ?_);refine aF (fun K2 hK2=>aF (fun K3 hK3=>?_));by_cases hk0 : l = []
 ·
  subst hk0;refine wp_region_lit (aA (aB) (aA (qW (Ko mH rfl rfl) (show _ = Value.bool true by simp [lD])) (aA (aB) ?_)));simp only[zz];refine bG rfl ?_;simp only[zz];refine bG rfl ?_;simp only[zz];refine aA (cG rfl) ?_;simp only[zz];refine aC (hK3 _ _ ?_);refine bX rfl (aF (fun K4 hK4=>wp_region_lit (aA (aB) (aA (aD) ?_))));simp only[zz];refine aC (hK4 _ _ ?_);refine wp_ret ?_;try simp only[Exit.inBlock,Exit.then]
  refine bU rfl rfl ?_;try simp only[zD,zE]
  exact ⟨_,rfl,hX,rfl⟩
 ·
  refine wp_region_lit (aA (aB) (aA (qW (Ko mH rfl rfl) (show _ = Value.bool false by simp only[Is,hk0,decide_false])) (aA (aB) ?_)));simp only[zz];refine aP rfl (aA (aB) ?_);simp only[zz];refine aP rfl (aA (qW (Ko mH rfl rfl) (show _ = Value.bool false by simp)) (aA (cO rfl) ?_));simp only[zz];refine aC (hK3 _ _ ?_);refine eQ rfl (wp_skip ?_);refine hK2 _ _ (aF (fun K5 hK5=>aF (fun K6 hK6=>wp_region_lit (aA (aB) (aA (oX rfl mH rfl) (aA (nD rfl rfl rfl) ?_))))));simp only[zz];refine aA (aB) ?_;simp only[zz];refine aP rfl (aA (aB) ?_);simp only[zz];refine aP rfl (aA ((lU (b:=0) mH rfl rfl (by omega) rfl)) ?_);simp only[zz];refine aP rfl (aA (cK rfl rfl (by decide)) (aA (cG rfl) ?_));simp only[zz];refine aC (hK6 _ _ ?_);refine bX rfl (aF (fun K7 hK7=>wp_region_lit (aA (aB) (aA (aB) ?_))));simp only[zz];refine aA ((lU (b:=0) mH rfl rfl (by omega) rfl)) ?_;simp only[zz];refine gA rfl rfl (Bt hl) ?_;intro w1 hE;replace hX:=hX.trans hE;clear hE;simp only[zz];refine aA (aD) ?_;simp only[zz];refine aC (hK7 _ _ ?_);refine wp_ret ?_;try simp only[Exit.inBlock,Exit.then]
  refine bU rfl rfl ?_;try simp only[zD,zE]
  exact ⟨_,rfl,hX,rfl⟩
end Go.Proofs.YtimjandkmfcmiaaGreatDoor
namespace Go.Proofs.YtimjandkmfcmiaaGreatDoor
open Tryz
open Go.RowKit Go.Lith
set_option maxRecDepth 100000
attribute [local irreducible] wpList wpQuiet eS Code.wp
theorem qM {A : Option Addr} {xs : List Nat} {na cap : Nat} (w : World) (hS : eC w A na cap xs) : iL prog 96 [.slice A na cap] w (fun v _=>v = .slice A (trim xs).length cap):=by
 skip
 refine ⟨acJ,?_⟩;have hX:=dL.refl w;obtain rfl:=hS.eq;have hl:=hS.len;have hle:=hS.le
 go_enter func96,ntmps96
 refine aF (fun K1 hK1=>wp_region_lit (aA (aD) ?_));simp only[zz];refine aC (hK1 _ _ ?_);refine aF (fun K2 hK2=>wp_block ?_);refine dI [0] [3,4,5,6,7,8,9,10,11,12,13,14,15,16,17,18,19] (fun n vs wl=>∃ (k : Nat),vs = [.slice A k cap] ∧ (dL w wl) ∧ (k ≤ xs.length) ∧ (trim (xs.take k) = trim xs) ∧ (n = k)) ?_ ?_
 ·
  apply Exists.intro;simp only[zQ,zR,zD,zE];exact ⟨xs.length,rfl,hX,Nat.le_refl _,by rw [List.take_length],rfl⟩
 ·
  intro n vs wr hI u;obtain ⟨k,rfl,hX,hk,ht,hn⟩:=hI;simp only[zv,zF,zG];refine aF (fun K3 hK3=>aF (fun K4 hK4=>?_));by_cases hk0 : 0 < k
  ·
   obtain ⟨a,rfl,hcell,hlt⟩:=(hS.ext hX).get (show k - 1 < xs.length by omega);refine wp_region_lit (aA (aB) (aA (bR rfl cE rfl) (aA (kT rfl rfl (by omega)) ?_)));simp only[zz];refine aA (aB) ?_;simp only[zz];refine aP rfl (aA (aB) ?_);simp only[zz];refine aP rfl (aA (aB) ?_);simp only[zz];refine aP rfl (aA (bR rfl cE rfl) ?_);simp only[zz];refine aP rfl (aA (dU rfl rfl (aQ (by omega) (by omega))) ?_);simp only[zz];refine aP rfl (aA (aU cE bJ rfl rfl (by omega) (by omega) (fT (show _ = k - 1 by omega))) ?_);simp only[zz];refine aP rfl (aI rfl (lies1 hcell fM) ?_);simp only[zz];refine aP rfl (aA (nA rfl rfl) (aA (cG rfl) ?_));simp only[zz];refine aC (hK4 _ _ ?_);refine cQ rfl (fun hc1=>?_) (fun hc1=>?_)
   ·
    refine wp_skip ?_;refine hK3 _ _ (wp_block (wp_region_lit (aA (aB) (aA (aB) (aA (bR rfl cE rfl) ?_)))));simp only[zz];refine aA (dU rfl rfl (aQ (by omega) (by omega))) (aA (qV cE bJ rfl rfl (show _ = k - 1 by omega) (by omega) (by omega)) (aA (aD) ?_));simp only[zz];refine aC ?_;simp only[Exit.inBlock,Exit.then];refine ⟨k - 1,_,?_,rfl,?_,?_⟩
    · omega
    · simp only[zz,zv]
    ·
     simp only[zQ,zR,zD,zE];exact ⟨k - 1,rfl,hX,by omega,Ee hk0 (by omega) hc1 ht,rfl⟩
   ·
    refine wp_exit ?_;refine hK2 _ _ (aF (fun K5 hK5=>wp_region_lit (aA (aB) (aA (aD) ?_))));simp only[zz];refine aC (hK5 _ _ ?_);refine wp_ret ?_;try simp only[Exit.inBlock,Exit.then]
    refine bU rfl rfl ?_;try simp only[zD,zE]
    exact ⟨_,rfl,hX,by rw [← Ik hk0 (by omega) hc1 ht]⟩
  ·
   obtain rfl : k = 0:=by omega
   refine wp_region_lit (aA (aB) (aA (bR rfl cE rfl) (aA (jZ rfl rfl (by omega)) ?_)));simp only[zz];refine aA (aB) ?_;simp only[zz];refine bM rfl ?_;simp only[zz];refine bM rfl ?_;simp only[zz];refine bM rfl ?_;simp only[zz];refine bM rfl ?_;simp only[zz];refine bM rfl ?_;simp only[zz];refine bM rfl ?_;simp only[zz];refine bM rfl ?_;simp only[zz];refine aA (cO rfl) ?_;simp only[zz];refine aC (hK4 _ _ ?_);refine eQ rfl (wp_exit ?_);refine hK2 _ _ (aF (fun K6 hK6=>wp_region_lit (aA (aB) (aA (aD) ?_))));simp only[zz];refine aC (hK6 _ _ ?_);refine wp_ret ?_;try simp only[Exit.inBlock,Exit.then]
   refine bU rfl rfl ?_;try simp only[zD,zE]
   exact ⟨_,rfl,hX,by rw [← Il ht]⟩
theorem Si {A B : Option Addr} {xs ys : List Nat} {na nb ca cb : Nat} (w : World) (hS : eC w A na ca xs) (hR : eC w B nb cb ys) (tx : gC xs) (ty : gC ys) : iL prog 122 [.slice A na ca,.slice B nb cb] w (fun v _=>v = .int .i64 (Gi (val 4294967296 xs) (val 4294967296 ys))):=by
 skip
 refine ⟨Zv,?_⟩;have hX:=dL.refl w;obtain rfl:=hS.eq;obtain rfl:=hR.eq;have hl:=hS.len;have hl2:=hR.len
 go_enter func122,ntmps122
 refine aF (fun K1 hK1=>wp_region_lit (aA (aD) ?_));simp only[zz];refine aC (hK1 _ _ ?_);refine aF (fun K2 hK2=>wp_block (aF (fun K3 hK3=>wp_region_lit (aA (aB) (aA (bR rfl cE rfl) (aA (aB) ?_))))));simp only[zz];refine aA (bR rfl cE rfl) (aA (eA rfl rfl) (aA (aD) ?_));simp only[zz];refine aC (hK3 _ _ ?_);refine cQ rfl (fun hc1=>?_) (fun hc1=>?_)
 ·
  refine aF (fun K4 hK4=>wp_region_lit (aA (aD) ?_));simp only[zz];refine aC (hK4 _ _ ?_);refine wp_ret ?_;try simp only[Exit.inBlock,Exit.then]
  refine bU rfl rfl ?_;try simp only[zD,zE]
  exact ⟨_,rfl,hX,by rw [Gi,if_pos (jV (by omega) hS.digs hR.digs ty (by omega))]⟩
 ·
  refine aF (fun K5 hK5=>wp_region_lit (aA (aB) (aA (bR rfl cE rfl) (aA (aB) ?_))));simp only[zz];refine aA (bR rfl cE rfl) (aA (gS rfl rfl) (aA (aD) ?_));simp only[zz];refine aC (hK5 _ _ ?_);refine cQ rfl (fun hc2=>?_) (fun hc2=>?_)
  ·
   refine aF (fun K6 hK6=>wp_region_lit (aA (aD) ?_));simp only[zz];refine aC (hK6 _ _ ?_);refine wp_ret ?_;try simp only[Exit.inBlock,Exit.then]
   refine bU rfl rfl ?_;try simp only[zD,zE]
   exact ⟨_,rfl,hX,by have:=jV (B:=4294967296) (by omega) hR.digs hS.digs tx (by omega); rw [Gi,if_neg (by omega),if_pos this]⟩
  ·
   refine wp_skip ?_;refine hK2 _ _ (aF (fun K7 hK7=>aF (fun K8 hK8=>wp_region_lit (aA (aB) (aA (bR rfl cE rfl) (aA (dU rfl rfl (aQ (by omega) (by omega))) ?_))))));simp only[zz];refine aA (aD) ?_;simp only[zz];refine aC (hK8 _ _ ?_);refine wp_block (dI [5] [4,21,22,23,24,25,26,27,28,29,30,31,32,33,34,35,36,37,38,39,40,41,42,43,44] (fun n vs wl=>∃ (k : Nat),vs = [.int .i64 ((k:Int) - 1)] ∧ (dL w wl) ∧ (k ≤ xs.length) ∧ (xs.drop k = ys.drop k) ∧ (n = k)) ?_ ?_)
   ·
    apply Exists.intro;simp only[zQ,zR,zD,zE];exact ⟨xs.length,rfl,hX,Nat.le_refl _,by rw [List.drop_length,show xs.length = ys.length by omega,List.drop_length],rfl⟩
   ·
    intro n vs wr hI u;obtain ⟨k,rfl,hX,hk,hd,hn⟩:=hI;simp only[zv,zF,zG];refine aF (fun K9 hK9=>aF (fun K10 hK10=>wp_region_lit (aA (aB) (aA (lC rfl rfl) ?_))));simp only[zz];refine aC (hK10 _ _ ?_);refine cQ rfl (fun hc3=>?_) (fun hc3=>?_)
    ·
     refine wp_skip ?_;refine hK9 _ _ (aF (fun K11 hK11=>wp_block (wp_block (aF (fun K12 hK12=>?_)))));obtain ⟨a,rfl,hca,_⟩:=(hS.ext hX).get (show k - 1 < xs.length by omega);obtain ⟨b,rfl,hcb,_⟩:=(hR.ext hX).get (show k - 1 < ys.length by omega);refine gR aN (by kernel_rfl) (aS (aB) (aS (aB) (aS (aU cE bJ rfl rfl (by omega) (by omega) (fT (show _ = k - 1 by omega))) ?_)));simp only[zz];refine gL rfl (fun _ hE'=>(lies1 (hE'.cell hca) fM)) ?_;simp only[zz];refine aS (aB) (aS (aB) (aS (aU cE bJ rfl rfl (by omega) (by omega) (fT (show _ = k - 1 by omega))) ?_));simp only[zz];refine gL rfl (fun _ hE'=>(lies1 (hE'.cell hcb) fM)) ?_;simp only[zz];refine aS (eA rfl rfl) (aS (aD) ?_);simp only[zz];refine dW ?_;intro w1 hE;replace hX:=hX.trans hE;clear hE;refine hK12 _ _ (cQ rfl (fun hc4=>?_) (fun hc4=>?_))
     ·
      refine aF (fun K13 hK13=>wp_region_lit (aA (aD) ?_));simp only[zz];refine aC (hK13 _ _ ?_);refine wp_ret ?_;try simp only[Exit.inBlock,Exit.then]
      refine bU rfl rfl ?_;try simp only[zD,zE]
      exact ⟨_,rfl,hX,by rw [Gi,if_pos (Rm hS.digs (by omega) (by omega) (by omega) hd hc4)]⟩
     ·
      refine aF (fun K14 hK14=>?_);have hca:=(hS.ext hX).at (show k - 1 < xs.length by omega);have hcb:=(hR.ext hX).at (show k - 1 < ys.length by omega);refine gR aN (by kernel_rfl) (aS (aB) (aS (aB) (aS (aU cE bJ rfl rfl (by omega) (by omega) (fT (show _ = k - 1 by omega))) ?_)));simp only[zz];refine gL rfl (fun _ hE'=>(lies1 (hE'.cell hca) fM)) ?_;simp only[zz];refine aS (aB) (aS (aB) (aS (aU cE bJ rfl rfl (by omega) (by omega) (fT (show _ = k - 1 by omega))) ?_));simp only[zz];refine gL rfl (fun _ hE'=>(lies1 (hE'.cell hcb) fM)) ?_;simp only[zz];refine aS (gS rfl rfl) (aS (aD) ?_);simp only[zz];refine dW ?_;intro w2 hE;replace hX:=hX.trans hE;clear hE;refine hK14 _ _ (cQ rfl (fun hc5=>?_) (fun hc5=>?_))
      ·
       refine aF (fun K15 hK15=>wp_region_lit (aA (aD) ?_));simp only[zz];refine aC (hK15 _ _ ?_);refine wp_ret ?_;try simp only[Exit.inBlock,Exit.then]
       refine bU rfl rfl ?_;try simp only[zD,zE]
       exact ⟨_,rfl,hX,by have:=Rm hR.digs (by omega) (by omega) (by omega) hd.symm hc5; rw [Gi,if_neg (by omega),if_pos this]⟩
      ·
       refine wp_skip ?_;refine hK11 _ _ (wp_region_lit (aA (aB) (aA (dU rfl rfl (aQ (by omega) (by omega))) (aA (aD) ?_))));simp only[zz];refine aC ?_;rw [show ((k:Int) - 1 - 1) = ((k - 1 : Nat) : Int) - 1 by omega];simp only[Exit.inBlock,Exit.then];refine ⟨k - 1,_,?_,rfl,?_,?_⟩
       · omega
       · simp only[zz,zv]
       ·
        simp only[zQ,zR,zD,zE];exact ⟨k - 1,rfl,hX,by omega,Oe (by omega) (by omega) (by omega) hd hc4 hc5,rfl⟩
    ·
     refine wp_exit ?_;refine hK7 _ _ (aF (fun K16 hK16=>wp_region_lit (aA (aD) ?_)));simp only[zz];refine aC (hK16 _ _ ?_);refine wp_ret ?_;try simp only[Exit.inBlock,Exit.then]
     refine bU rfl rfl ?_;try simp only[zD,zE]
     exact ⟨_,rfl,hX,by have h0 : k = 0:=(by omega); subst h0; simp only[List.drop_zero] at hd; rw [hd,Gi,if_neg (by omega),if_neg (by omega)]⟩
theorem acS {A B : Option Addr} {xs ys : List Nat} {na nb ca cb : Nat} (w : World) (hS : eC w A na ca xs) (hR : eC w B nb cb ys) (hlx : xs.length ≤ 1099511627776) (hly : ys.length ≤ 1099511627776) : iL prog 121 [.slice A na ca,.slice B nb cb] w (gZ (val 4294967296 xs + val 4294967296 ys)):=by
 skip
 refine ⟨Zu,?_⟩;have hX:=dL.refl w;obtain rfl:=hS.eq;obtain rfl:=hR.eq
 go_enter func121,ntmps121
 refine aF (fun K1 hK1=>wp_region_lit (aA (aD) ?_));simp only[zz];refine aC (hK1 _ _ ?_);refine aF (fun K2 hK2=>aF (fun K3 hK3=>wp_region_lit (aA (aB) (aA (bR rfl cE rfl) (aA (aB) ?_)))));simp only[zz];refine aA (bR rfl cE rfl) (aA (eA rfl rfl) ?_);simp only[zz];refine aC (hK3 _ _ ?_);refine cQ rfl (fun hc1=>?_) (fun hc1=>?_)
 ·
  obtain ⟨qb,rfl⟩ : ∃ q,q = xs:=⟨_,rfl⟩
  obtain ⟨qa,rfl⟩ : ∃ q,q = ys:=⟨_,rfl⟩
  obtain ⟨Qb,rfl⟩ : ∃ q,q = A:=⟨_,rfl⟩
  obtain ⟨Qa,rfl⟩ : ∃ q,q = B:=⟨_,rfl⟩
  have hSa:=hR;have hSb:=hS;refine wp_region_lit (aA (aB) (aA (aB) (aA (aD) ?_)));simp only[zz];refine aA (aD) ?_;simp only[zz];refine aC (hK2 _ _ ?_);refine aF (fun K4 hK4=>wp_region_lit (aA (aB) (aA (bR rfl cE rfl) (aA (bD rfl rfl (aQ (by omega) (by omega))) ?_))));simp only[zz];refine lP cE nN rfl rfl rfl (show _ = qa.length + 1 by omega) (show _ = qa.length + 1 by omega) (by omega) (by omega) (by omega) (by omega) ?_;intro w1 g1 hE hg1 hB1;have hG1:=Nat.le_trans hX.size hg1;replace hX:=hX.trans hE;clear hE hg1;simp only[zz];refine aA (aD) ?_;simp only[zz];refine aC ?_;rw [iF] at hB1;refine hK4 _ _ (aF (fun K5 hK5=>wp_region_lit (aA (aD) ?_)));simp only[zz];refine aC (hK5 _ _ ?_);refine aF (fun K6 hK6=>aF (fun K7 hK7=>wp_region_lit (aA (aB) (aA (bR rfl cE rfl) (aA (aB) ?_)))));simp only[zz];refine aC (hK7 _ _ ?_);refine wp_block (dI [6,22] [7,8,23,24,25,26,27,28,29,30,31,32,33,34,35,36,37,38,39,40,41,42,43,44,45,46,47,48] (fun n vs wl=>∃ (i c : Nat) (os : List Nat),vs = [.int .u64 (c:Int),.int .i64 (i:Int)] ∧ (dL w wl) ∧ (fW wl g1 (os.map kO) 101) ∧ (i ≤ qa.length) ∧ (os.length = qa.length + 1) ∧ (val 4294967296 os + 4294967296 ^ i * c = val 4294967296 (qa.take i) + val 4294967296 (qb.take i)) ∧ (os.drop i = List.replicate (qa.length + 1 - i) 0) ∧ (dD 4294967296 os) ∧ (c ≤ 1) ∧ (n = qa.length - i)) ?_ ?_)
  ·
   apply Exists.intro;simp only[zQ,zR,zD,zE];exact ⟨0,0,List.replicate (qa.length + 1) 0,rfl,hX,hB1,by omega,by simp,by simp [gH,val],by simp,fun x hx=>by rw [List.eq_of_mem_replicate hx]; decide,by omega,rfl⟩
  ·
   intro n vs wr hI u;obtain ⟨i,c,os,rfl,hX,hB1,hi,hlo,hv,hz,hd,hc,hn⟩:=hI;simp only[zv,zF,zG];refine aF (fun K8 hK8=>wp_region_lit (aA (eA rfl rfl) ?_));simp only[zz];refine aC (hK8 _ _ ?_);refine aF (fun K9 hK9=>?_);refine cQ rfl (fun hc2=>?_) (fun hc2=>?_)
   ·
    refine wp_skip ?_;refine hK9 _ _ (aF (fun K10 hK10=>wp_block (aF (fun K11 hK11=>wp_region_lit (aA (aB) (aA (aD) ?_))))));simp only[zz];refine aC (hK11 _ _ ?_);refine aF (fun K12 hK12=>?_);obtain ⟨a,rfl,hca,hla⟩:=(hSa.ext hX).get (show i < qa.length by omega);refine wp_region_lit (aA (aB) (aA (aB) (aA (aU cE bJ rfl rfl (by omega) (by omega) (fT (Int.toNat_natCast _))) ?_)));simp only[zz];refine aI rfl (lies1 hca fM) ?_;simp only[zz];refine aA (aB) (aA (bD rfl rfl (fX (by omega) (by omega))) (aA (aD) ?_));simp only[zz];refine aC (hK12 _ _ ?_);refine aF (fun K13 hK13=>aF (fun K14 hK14=>wp_region_lit (aA (aB) (aA (aB) (aA (bR rfl cE rfl) ?_)))));simp only[zz];refine aA (eA rfl rfl) ?_;simp only[zz];refine aC (hK14 _ _ ?_);refine cQ rfl (fun hc3=>?_) (fun hc3=>?_)
    ·
     obtain ⟨b,rfl,hcb,hlb⟩:=(hSb.ext hX).get (show i < qb.length by omega);refine wp_region_lit (aA (aB) (aA (aB) (aA (aB) ?_)));simp only[zz];refine aA (aU cE bJ rfl rfl (by omega) (by omega) (fT (Int.toNat_natCast _))) ?_;simp only[zz];refine aI rfl (lies1 hcb fM) ?_;simp only[zz];refine aA (bD rfl rfl (fX (by omega) (by omega))) (aA (aD) ?_);simp only[zz];refine aC ?_;obtain ⟨s,hs⟩ : ∃ s : Nat,(s : Int) = ↑qa[i] + ↑c + ↑qb[i]:=⟨qa[i] + c + qb[i],by omega⟩
     rw [← hs];have hs2 : s = qa[i] + c + qb[i]?.getD 0:=by rw [List.getElem?_eq_getElem (by omega)]; simp; omega
     have hyb : qb[i]?.getD 0 < 4294967296:=by rw [List.getElem?_eq_getElem (by omega)]; exact hlb
     refine hK13 _ _ ?_;refine wp_region_lit (aA (aB) (aA (aB) (aA (aB) ?_)));simp only[zz];refine aA (sY rfl rfl (nS (by omega) (by omega))) (aA (aB) (aA (mL rfl rfl (by omega) (Ef (by omega))) ?_));simp only[zz];refine aA (aU cE bJ rfl rfl (by omega) (by omega) (fK (Int.toNat_natCast _))) ?_;simp only[zz];refine cC rfl (by simp only[zz]; rfl) (by exact bJ) hB1 (by simp; omega) (by simp [Value.oneCell']) ?_;clear hB1; intro w2 hC hB1;replace hX:=hX.chg hC hG1;clear hC;rw [show ((s:Int) % 4294967296) = ((s % 4294967296 : Nat) : Int) by omega,gN (by omega)] at hB1;refine aA (aD) ?_;simp only[zz];refine aC (hK10 _ _ ?_);refine wp_region_lit (aA (bD rfl rfl (aQ (by omega) (by omega))) (aA (aB) ?_));simp only[zz];refine aC ?_;obtain ⟨r1,r2,r3,r4⟩:=tX (by omega) hlo hv hz hd hc hs2 hla hyb;rw [show ((i:Int) + 1) = ((i + 1 : Nat) : Int) by omega,show ((s:Int) / 4294967296) = ((s / 4294967296 : Nat) : Int) by omega];simp only[Exit.inBlock,Exit.then];refine ⟨qa.length - (i + 1),_,?_,rfl,?_,?_⟩
     · omega
     · simp only[zz,zv]
     ·
      simp only[zQ,zR,zD,zE];exact ⟨i + 1,s / 4294967296,os.set i (s % 4294967296),rfl,hX,hB1,by omega,by simpa using hlo,r1,r2,r3,r4,rfl⟩
    ·
     obtain ⟨s,hs⟩ : ∃ s : Nat,(s : Int) = ↑qa[i] + ↑c:=⟨qa[i] + c,by omega⟩
     rw [← hs];have hs2 : s = qa[i] + c + qb[i]?.getD 0:=by rw [List.getElem?_eq_none (by omega)]; simp; omega
     have hyb : qb[i]?.getD 0 < 4294967296:=by rw [List.getElem?_eq_none (by omega)]; decide
     refine wp_skip ?_;refine hK13 _ _ (wp_region_lit (aA (aB) (aA (aB) (aA (aB) ?_))));simp only[zz];refine aA (sY rfl rfl (nS (by omega) (by omega))) (aA (aB) (aA (mL rfl rfl (by omega) (Ef (by omega))) ?_));simp only[zz];refine aA (aU cE bJ rfl rfl (by omega) (by omega) (fK (Int.toNat_natCast _))) ?_;simp only[zz];refine cC rfl (by simp only[zz]; rfl) (by exact bJ) hB1 (by simp; omega) (by simp [Value.oneCell']) ?_;clear hB1; intro w2 hC hB1;replace hX:=hX.chg hC hG1;clear hC;rw [show ((s:Int) % 4294967296) = ((s % 4294967296 : Nat) : Int) by omega,gN (by omega)] at hB1;refine aA (aD) ?_;simp only[zz];refine aC (hK10 _ _ ?_);refine wp_region_lit (aA (bD rfl rfl (aQ (by omega) (by omega))) (aA (aB) ?_));simp only[zz];refine aC ?_;obtain ⟨r1,r2,r3,r4⟩:=tX (by omega) hlo hv hz hd hc hs2 hla hyb;rw [show ((i:Int) + 1) = ((i + 1 : Nat) : Int) by omega,show ((s:Int) / 4294967296) = ((s / 4294967296 : Nat) : Int) by omega];simp only[Exit.inBlock,Exit.then];refine ⟨qa.length - (i + 1),_,?_,rfl,?_,?_⟩
     · omega
     · simp only[zz,zv]
     ·
      simp only[zQ,zR,zD,zE];exact ⟨i + 1,s / 4294967296,os.set i (s % 4294967296),rfl,hX,hB1,by omega,by simpa using hlo,r1,r2,r3,r4,rfl⟩
   ·
    refine wp_exit ?_;refine hK6 _ _ (aF (fun K15 hK15=>?_));obtain rfl : i = qa.length:=by omega
    refine wp_region_lit (aA (aB) (aA (aB) (aA (bR rfl cE rfl) ?_)));simp only[zz];refine aA (aB) (aA (aU cE bJ rfl rfl (by omega) (by omega) (fK (Int.toNat_natCast _))) ?_);simp only[zz];refine cC rfl (by simp only[zz]; rfl) (by exact bJ) hB1 (by simp; omega) (by simp [Value.oneCell']) ?_;clear hB1; intro w2 hC hB1;replace hX:=hX.chg hC hG1;clear hC;rw [gN (by omega)] at hB1;refine aC (hK15 _ _ ?_);refine aF (fun K16 hK16=>wp_region_lit (aA (aB) ?_));simp only[zz];refine bS rfl rfl (qM _ (hB1.nat (hd.set (show c < 4294967296 by omega)) (by simp; omega) (by omega))) ?_;rintro v w3 hE rfl;replace hB1:=hB1.ext hE; replace hX:=hX.trans hE;clear hE;simp only[zz];refine aA (aD) ?_;simp only[zz];refine aC (hK16 _ _ ?_);refine wp_ret ?_;try simp only[Exit.inBlock,Exit.then]
    refine bU rfl rfl ?_;try simp only[zD,zE]
    exact ⟨_,rfl,hX,by first | exact gZ.of_trim (hB1.nat (hd.set (show c < 4294967296 by omega)) (by simp; omega) (by omega)) (zW (by omega) hlo hv hz) | (rw [Nat.add_comm]; exact gZ.of_trim (hB1.nat (hd.set (show c < 4294967296 by omega)) (by simp; omega) (by omega)) (zW (by omega) hlo hv hz))⟩
 ·
  obtain ⟨qa,rfl⟩ : ∃ q,q = xs:=⟨_,rfl⟩
  obtain ⟨qb,rfl⟩ : ∃ q,q = ys:=⟨_,rfl⟩
  obtain ⟨Qa,rfl⟩ : ∃ q,q = A:=⟨_,rfl⟩
  obtain ⟨Qb,rfl⟩ : ∃ q,q = B:=⟨_,rfl⟩
  have hSa:=hS;have hSb:=hR;refine wp_skip (hK2 _ _ ?_);refine aF (fun K17 hK17=>wp_region_lit (aA (aB) (aA (bR rfl cE rfl) (aA (bD rfl rfl (aQ (by omega) (by omega))) ?_))));simp only[zz];refine lP cE nN rfl rfl rfl (show _ = qa.length + 1 by omega) (show _ = qa.length + 1 by omega) (by omega) (by omega) (by omega) (by omega) ?_;intro w1 g1 hE hg1 hB1;have hG1:=Nat.le_trans hX.size hg1;replace hX:=hX.trans hE;clear hE hg1;simp only[zz];refine aA (aD) ?_;simp only[zz];refine aC ?_;rw [iF] at hB1;refine hK17 _ _ (aF (fun K18 hK18=>wp_region_lit (aA (aD) ?_)));simp only[zz];refine aC (hK18 _ _ ?_);refine aF (fun K19 hK19=>aF (fun K20 hK20=>wp_region_lit (aA (aB) (aA (bR rfl cE rfl) (aA (aB) ?_)))));simp only[zz];refine aC (hK20 _ _ ?_);refine wp_block (dI [6,22] [7,8,23,24,25,26,27,28,29,30,31,32,33,34,35,36,37,38,39,40,41,42,43,44,45,46,47,48] (fun n vs wl=>∃ (i c : Nat) (os : List Nat),vs = [.int .u64 (c:Int),.int .i64 (i:Int)] ∧ (dL w wl) ∧ (fW wl g1 (os.map kO) 101) ∧ (i ≤ qa.length) ∧ (os.length = qa.length + 1) ∧ (val 4294967296 os + 4294967296 ^ i * c = val 4294967296 (qa.take i) + val 4294967296 (qb.take i)) ∧ (os.drop i = List.replicate (qa.length + 1 - i) 0) ∧ (dD 4294967296 os) ∧ (c ≤ 1) ∧ (n = qa.length - i)) ?_ ?_)
  ·
   apply Exists.intro;simp only[zQ,zR,zD,zE];exact ⟨0,0,List.replicate (qa.length + 1) 0,rfl,hX,hB1,by omega,by simp,by simp [gH,val],by simp,fun x hx=>by rw [List.eq_of_mem_replicate hx]; decide,by omega,rfl⟩
  ·
   intro n vs wr hI u;obtain ⟨i,c,os,rfl,hX,hB1,hi,hlo,hv,hz,hd,hc,hn⟩:=hI;simp only[zv,zF,zG];refine aF (fun K21 hK21=>wp_region_lit (aA (eA rfl rfl) ?_));simp only[zz];refine aC (hK21 _ _ ?_);refine aF (fun K22 hK22=>?_);refine cQ rfl (fun hc2=>?_) (fun hc2=>?_)
   ·
    refine wp_skip ?_;refine hK22 _ _ (aF (fun K23 hK23=>wp_block (aF (fun K24 hK24=>wp_region_lit (aA (aB) (aA (aD) ?_))))));simp only[zz];refine aC (hK24 _ _ ?_);refine aF (fun K25 hK25=>?_);obtain ⟨a,rfl,hca,hla⟩:=(hSa.ext hX).get (show i < qa.length by omega);refine wp_region_lit (aA (aB) (aA (aB) (aA (aU cE bJ rfl rfl (by omega) (by omega) (fT (Int.toNat_natCast _))) ?_)));simp only[zz];refine aI rfl (lies1 hca fM) ?_;simp only[zz];refine aA (aB) (aA (bD rfl rfl (fX (by omega) (by omega))) (aA (aD) ?_));simp only[zz];refine aC (hK25 _ _ ?_);refine aF (fun K26 hK26=>aF (fun K27 hK27=>wp_region_lit (aA (aB) (aA (aB) (aA (bR rfl cE rfl) ?_)))));simp only[zz];refine aA (eA rfl rfl) ?_;simp only[zz];refine aC (hK27 _ _ ?_);refine cQ rfl (fun hc3=>?_) (fun hc3=>?_)
    ·
     obtain ⟨b,rfl,hcb,hlb⟩:=(hSb.ext hX).get (show i < qb.length by omega);refine wp_region_lit (aA (aB) (aA (aB) (aA (aB) ?_)));simp only[zz];refine aA (aU cE bJ rfl rfl (by omega) (by omega) (fT (Int.toNat_natCast _))) ?_;simp only[zz];refine aI rfl (lies1 hcb fM) ?_;simp only[zz];refine aA (bD rfl rfl (fX (by omega) (by omega))) (aA (aD) ?_);simp only[zz];refine aC ?_;obtain ⟨s,hs⟩ : ∃ s : Nat,(s : Int) = ↑qa[i] + ↑c + ↑qb[i]:=⟨qa[i] + c + qb[i],by omega⟩
     rw [← hs];have hs2 : s = qa[i] + c + qb[i]?.getD 0:=by rw [List.getElem?_eq_getElem (by omega)]; simp; omega
     have hyb : qb[i]?.getD 0 < 4294967296:=by rw [List.getElem?_eq_getElem (by omega)]; exact hlb
     refine hK26 _ _ ?_;refine wp_region_lit (aA (aB) (aA (aB) (aA (aB) ?_)));simp only[zz];refine aA (sY rfl rfl (nS (by omega) (by omega))) (aA (aB) (aA (mL rfl rfl (by omega) (Ef (by omega))) ?_));simp only[zz];refine aA (aU cE bJ rfl rfl (by omega) (by omega) (fK (Int.toNat_natCast _))) ?_;simp only[zz];refine cC rfl (by simp only[zz]; rfl) (by exact bJ) hB1 (by simp; omega) (by simp [Value.oneCell']) ?_;clear hB1; intro w2 hC hB1;replace hX:=hX.chg hC hG1;clear hC;rw [show ((s:Int) % 4294967296) = ((s % 4294967296 : Nat) : Int) by omega,gN (by omega)] at hB1;refine aA (aD) ?_;simp only[zz];refine aC (hK23 _ _ ?_);refine wp_region_lit (aA (bD rfl rfl (aQ (by omega) (by omega))) (aA (aB) ?_));simp only[zz];refine aC ?_;obtain ⟨r1,r2,r3,r4⟩:=tX (by omega) hlo hv hz hd hc hs2 hla hyb;rw [show ((i:Int) + 1) = ((i + 1 : Nat) : Int) by omega,show ((s:Int) / 4294967296) = ((s / 4294967296 : Nat) : Int) by omega];simp only[Exit.inBlock,Exit.then];refine ⟨qa.length - (i + 1),_,?_,rfl,?_,?_⟩
     · omega
     · simp only[zz,zv]
     ·
      simp only[zQ,zR,zD,zE];exact ⟨i + 1,s / 4294967296,os.set i (s % 4294967296),rfl,hX,hB1,by omega,by simpa using hlo,r1,r2,r3,r4,rfl⟩
    ·
     obtain ⟨s,hs⟩ : ∃ s : Nat,(s : Int) = ↑qa[i] + ↑c:=⟨qa[i] + c,by omega⟩
     rw [← hs];have hs2 : s = qa[i] + c + qb[i]?.getD 0:=by rw [List.getElem?_eq_none (by omega)]; simp; omega
     have hyb : qb[i]?.getD 0 < 4294967296:=by rw [List.getElem?_eq_none (by omega)]; decide
     refine wp_skip ?_;refine hK26 _ _ (wp_region_lit (aA (aB) (aA (aB) (aA (aB) ?_))));simp only[zz];refine aA (sY rfl rfl (nS (by omega) (by omega))) (aA (aB) (aA (mL rfl rfl (by omega) (Ef (by omega))) ?_));simp only[zz];refine aA (aU cE bJ rfl rfl (by omega) (by omega) (fK (Int.toNat_natCast _))) ?_;simp only[zz];refine cC rfl (by simp only[zz]; rfl) (by exact bJ) hB1 (by simp; omega) (by simp [Value.oneCell']) ?_;clear hB1; intro w2 hC hB1;replace hX:=hX.chg hC hG1;clear hC;rw [show ((s:Int) % 4294967296) = ((s % 4294967296 : Nat) : Int) by omega,gN (by omega)] at hB1;refine aA (aD) ?_;simp only[zz];refine aC (hK23 _ _ ?_);refine wp_region_lit (aA (bD rfl rfl (aQ (by omega) (by omega))) (aA (aB) ?_));simp only[zz];refine aC ?_;obtain ⟨r1,r2,r3,r4⟩:=tX (by omega) hlo hv hz hd hc hs2 hla hyb;rw [show ((i:Int) + 1) = ((i + 1 : Nat) : Int) by omega,show ((s:Int) / 4294967296) = ((s / 4294967296 : Nat) : Int) by omega];simp only[Exit.inBlock,Exit.then];refine ⟨qa.length - (i + 1),_,?_,rfl,?_,?_⟩
     · omega
     · simp only[zz,zv]
     ·
      simp only[zQ,zR,zD,zE];exact ⟨i + 1,s / 4294967296,os.set i (s % 4294967296),rfl,hX,hB1,by omega,by simpa using hlo,r1,r2,r3,r4,rfl⟩
   ·
    refine wp_exit ?_;refine hK19 _ _ (aF (fun K28 hK28=>?_));obtain rfl : i = qa.length:=by omega
    refine wp_region_lit (aA (aB) (aA (aB) (aA (bR rfl cE rfl) ?_)));simp only[zz];refine aA (aB) (aA (aU cE bJ rfl rfl (by omega) (by omega) (fK (Int.toNat_natCast _))) ?_);simp only[zz];refine cC rfl (by simp only[zz]; rfl) (by exact bJ) hB1 (by simp; omega) (by simp [Value.oneCell']) ?_;clear hB1; intro w2 hC hB1;replace hX:=hX.chg hC hG1;clear hC;rw [gN (by omega)] at hB1;refine aC (hK28 _ _ ?_);refine aF (fun K29 hK29=>wp_region_lit (aA (aB) ?_));simp only[zz];refine bS rfl rfl (qM _ (hB1.nat (hd.set (show c < 4294967296 by omega)) (by simp; omega) (by omega))) ?_;rintro v w3 hE rfl;replace hB1:=hB1.ext hE; replace hX:=hX.trans hE;clear hE;simp only[zz];refine aA (aD) ?_;simp only[zz];refine aC (hK29 _ _ ?_);refine wp_ret ?_;try simp only[Exit.inBlock,Exit.then]
    refine bU rfl rfl ?_;try simp only[zD,zE]
    exact ⟨_,rfl,hX,by first | exact gZ.of_trim (hB1.nat (hd.set (show c < 4294967296 by omega)) (by simp; omega) (by omega)) (zW (by omega) hlo hv hz) | (rw [Nat.add_comm]; exact gZ.of_trim (hB1.nat (hd.set (show c < 4294967296 by omega)) (by simp; omega) (by omega)) (zW (by omega) hlo hv hz))⟩
theorem Sj {A B : Option Addr} {xs ys : List Nat} {na nb ca cb : Nat} (w : World) (hS : eC w A na ca xs) (hR : eC w B nb cb ys) (hle : ys.length ≤ xs.length) (hge : val 4294967296 ys ≤ val 4294967296 xs) (hlx : xs.length ≤ 1099511627776) : iL prog 123 [.slice A na ca,.slice B nb cb] w (fun v w'=>gZ (val 4294967296 xs - val 4294967296 ys) v w' ∧ pD w v):=by
 skip
 refine ⟨Zw,?_⟩;have hX:=dL.refl w;obtain rfl:=hS.eq;obtain rfl:=hR.eq
 go_enter func123,ntmps123
 refine aF (fun K1 hK1=>wp_region_lit (aA (aD) ?_));simp only[zz];refine aC (hK1 _ _ ?_);refine aF (fun K2 hK2=>wp_region_lit (aA (aB) (aA (bR rfl cE rfl) ?_)));simp only[zz];refine lP cE nN rfl rfl rfl (Int.toNat_natCast _) (Int.toNat_natCast _) (by omega) (by omega) (by omega) (by omega) ?_;intro w1 g1 hE hg1 hB1;have hG1:=Nat.le_trans hX.size hg1;replace hX:=hX.trans hE;clear hE hg1;simp only[zz];refine aA (aD) ?_;simp only[zz];refine aC ?_;rw [iF] at hB1;refine hK2 _ _ (aF (fun K3 hK3=>wp_region_lit (aA (aD) ?_)));simp only[zz];refine aC (hK3 _ _ ?_);refine aF (fun K4 hK4=>aF (fun K5 hK5=>wp_region_lit (aA (aB) (aA (bR rfl cE rfl) (aA (aB) ?_)))));simp only[zz];refine aC (hK5 _ _ ?_);refine wp_block (dI [6,14] [7,8,15,16,17,18,19,20,21,22,23,24,25,26,27,28,29,30,31,32,33,34,35,36,37,38,39,40] (fun n vs wl=>∃ (i c : Nat) (os : List Nat),vs = [.int .u64 (c:Int),.int .i64 (i:Int)] ∧ (dL w wl) ∧ (fW wl g1 (os.map kO) 101) ∧ (i ≤ xs.length) ∧ (os.length = xs.length) ∧ (val 4294967296 os + val 4294967296 (ys.take i) = val 4294967296 (xs.take i) + 4294967296 ^ i * c) ∧ (os.drop i = List.replicate (xs.length - i) 0) ∧ (dD 4294967296 os) ∧ (c ≤ 1) ∧ (n = xs.length - i)) ?_ ?_)
 ·
  apply Exists.intro;simp only[zQ,zR,zD,zE];exact ⟨0,0,List.replicate xs.length 0,rfl,hX,hB1,by omega,by simp,by simp [gH,val],by simp,fun x hx=>by rw [List.eq_of_mem_replicate hx]; decide,by omega,rfl⟩
 ·
  intro n vs wr hI u;obtain ⟨i,c,os,rfl,hX,hB1,hi,hlo,hv,hz,hd,hc,hn⟩:=hI;simp only[zv,zF,zG];refine aF (fun K6 hK6=>wp_region_lit (aA (eA rfl rfl) ?_));simp only[zz];refine aC (hK6 _ _ ?_);refine aF (fun K7 hK7=>?_);refine cQ rfl (fun hc1=>?_) (fun hc1=>?_)
  ·
   refine wp_skip ?_;refine hK7 _ _ (aF (fun K8 hK8=>wp_block (aF (fun K9 hK9=>wp_region_lit (aA (aB) (aA (aD) ?_))))));simp only[zz];refine aC (hK9 _ _ ?_);refine aF (fun K10 hK10=>?_);obtain ⟨a,rfl,hca,hla⟩:=(hS.ext hX).get (show i < xs.length by omega);refine wp_region_lit (aA (aB) (aA (aB) (aA (aU cE bJ rfl rfl (by omega) (by omega) (fT (Int.toNat_natCast _))) ?_)));simp only[zz];refine aI rfl (lies1 hca fM) ?_;simp only[zz];refine aA (aB) (aA (dU rfl rfl (jO _)) (aA (aD) ?_));simp only[zz];refine aC (hK10 _ _ ?_);refine aF (fun K11 hK11=>aF (fun K12 hK12=>wp_region_lit (aA (aB) (aA (aB) (aA (bR rfl cE rfl) ?_)))));simp only[zz];refine aA (eA rfl rfl) ?_;simp only[zz];refine aC (hK12 _ _ ?_);refine cQ rfl (fun hc2=>?_) (fun hc2=>?_)
   ·
    obtain ⟨b,rfl,hcb,hlb⟩:=(hR.ext hX).get (show i < ys.length by omega);refine wp_region_lit (aA (aB) (aA (aB) (aA (aB) ?_)));simp only[zz];refine aA (aU cE bJ rfl rfl (by omega) (by omega) (fT (Int.toNat_natCast _))) ?_;simp only[zz];refine aI rfl (lies1 hcb fM) ?_;simp only[zz];refine aA (dU rfl rfl (jO _)) (aA (aD) ?_);simp only[zz];refine aC ?_;obtain ⟨s,hs⟩ : ∃ s : Nat,(s : Int) = ((↑xs[i] - ↑c) % 18446744073709551616 - ↑ys[i]) % 18446744073709551616:=⟨(((↑xs[i] - ↑c) % 18446744073709551616 - ↑ys[i]) % 18446744073709551616 : Int).toNat,by omega⟩
    rw [← hs];have hs2 : (s : Int) = ((xs[i] : Nat) - (c : Nat) - (ys[i]?.getD 0 : Nat) : Int) % 18446744073709551616:=by rw [List.getElem?_eq_getElem (by omega)]; simp only[Option.getD_some]; omega
    have hyb : ys[i]?.getD 0 < 4294967296:=by rw [List.getElem?_eq_getElem (by omega)]; exact hlb
    refine hK11 _ _ ?_;have hs64 : s < 18446744073709551616:=by omega
    refine wp_region_lit (aA (aB) (aA (aB) (aA (aB) ?_)));simp only[zz];refine aA (sY rfl rfl (nS (by omega) (by omega))) (aA (aB) (aA (mL rfl rfl (by omega) (Ye (by omega))) ?_));simp only[zz];refine aA (aU cE bJ rfl rfl (by omega) (by omega) (fK (Int.toNat_natCast _))) ?_;simp only[zz];refine cC rfl (by simp only[zz]; rfl) (by exact bJ) hB1 (by simp; omega) (by simp [Value.oneCell']) ?_;clear hB1; intro w2 hC hB1;replace hX:=hX.chg hC hG1;clear hC;rw [show ((s:Int) % 4294967296) = ((s % 4294967296 : Nat) : Int) by omega,gN (by omega)] at hB1;refine aA (aD) ?_;simp only[zz];refine aC (hK8 _ _ ?_);refine wp_region_lit (aA (bD rfl rfl (aQ (by omega) (by omega))) (aA (aB) ?_));simp only[zz];refine aC ?_;obtain ⟨r1,r2,r3,r4⟩:=Eg (by omega) hlo hv hz hd hc hs2 hla hyb;rw [show ((i:Int) + 1) = ((i + 1 : Nat) : Int) by omega,show ((s:Int) / 9223372036854775808) = ((s / 9223372036854775808 : Nat) : Int) by omega];simp only[Exit.inBlock,Exit.then];refine ⟨xs.length - (i + 1),_,?_,rfl,?_,?_⟩
    · omega
    · simp only[zz,zv]
    ·
     simp only[zQ,zR,zD,zE];exact ⟨i + 1,s / 9223372036854775808,os.set i (s % 4294967296),rfl,hX,hB1,by omega,by simpa using hlo,r1,r2,r3,r4,rfl⟩
   ·
    obtain ⟨s,hs⟩ : ∃ s : Nat,(s : Int) = (↑xs[i] - ↑c) % 18446744073709551616:=⟨((↑xs[i] - ↑c) % 18446744073709551616 : Int).toNat,by omega⟩
    rw [← hs];have hs2 : (s : Int) = ((xs[i] : Nat) - (c : Nat) - (ys[i]?.getD 0 : Nat) : Int) % 18446744073709551616:=by rw [List.getElem?_eq_none (by omega)]; simp only[Option.getD_none]; omega
    have hyb : ys[i]?.getD 0 < 4294967296:=by rw [List.getElem?_eq_none (by omega)]; decide
    refine wp_skip ?_;refine hK11 _ _ ?_;have hs64 : s < 18446744073709551616:=by omega
    refine wp_region_lit (aA (aB) (aA (aB) (aA (aB) ?_)));simp only[zz];refine aA (sY rfl rfl (nS (by omega) (by omega))) (aA (aB) (aA (mL rfl rfl (by omega) (Ye (by omega))) ?_));simp only[zz];refine aA (aU cE bJ rfl rfl (by omega) (by omega) (fK (Int.toNat_natCast _))) ?_;simp only[zz];refine cC rfl (by simp only[zz]; rfl) (by exact bJ) hB1 (by simp; omega) (by simp [Value.oneCell']) ?_;clear hB1; intro w2 hC hB1;replace hX:=hX.chg hC hG1;clear hC;rw [show ((s:Int) % 4294967296) = ((s % 4294967296 : Nat) : Int) by omega,gN (by omega)] at hB1;refine aA (aD) ?_;simp only[zz];refine aC (hK8 _ _ ?_);refine wp_region_lit (aA (bD rfl rfl (aQ (by omega) (by omega))) (aA (aB) ?_));simp only[zz];refine aC ?_;obtain ⟨r1,r2,r3,r4⟩:=Eg (by omega) hlo hv hz hd hc hs2 hla hyb;rw [show ((i:Int) + 1) = ((i + 1 : Nat) : Int) by omega,show ((s:Int) / 9223372036854775808) = ((s / 9223372036854775808 : Nat) : Int) by omega];simp only[Exit.inBlock,Exit.then];refine ⟨xs.length - (i + 1),_,?_,rfl,?_,?_⟩
    · omega
    · simp only[zz,zv]
    ·
     simp only[zQ,zR,zD,zE];exact ⟨i + 1,s / 9223372036854775808,os.set i (s % 4294967296),rfl,hX,hB1,by omega,by simpa using hlo,r1,r2,r3,r4,rfl⟩
  ·
   refine wp_exit ?_;refine hK4 _ _ (aF (fun K13 hK13=>?_));obtain rfl : i = xs.length:=by omega
   refine wp_region_lit (aA (aB) ?_);simp only[zz];refine bS rfl rfl (qM _ (hB1.nat hd (by omega) (by omega))) ?_;rintro v w2 hE rfl;replace hB1:=hB1.ext hE; replace hX:=hX.trans hE;clear hE;simp only[zz];refine aA (aD) ?_;simp only[zz];refine aC (hK13 _ _ ?_);refine wp_ret ?_;try simp only[Exit.inBlock,Exit.then]
   refine bU rfl rfl ?_;try simp only[zD,zE]
   exact ⟨_,rfl,hX,gZ.of_trim (hB1.nat hd (n:=xs.length) (by omega) (by omega)) (Ve hle hlo hd hv hge),pD.of_blk hG1⟩
theorem Sk {A B : Option Addr} {xs ys : List Nat} {na nb ca cb : Nat} (w : World) (hS : eC w A na ca xs) (hR : eC w B nb cb ys) (hlx : xs.length ≤ 1099511627776) (hly : ys.length ≤ 1099511627776) : iL prog 58 [.slice A na ca,.slice B nb cb] w (gZ (val 4294967296 xs * val 4294967296 ys)):=by
 skip
 refine ⟨acc,?_⟩;have hX:=dL.refl w;obtain rfl:=hS.eq;obtain rfl:=hR.eq
 go_enter func58,ntmps58
 refine aF (fun K1 hK1=>wp_region_lit (aA (aD) ?_));simp only[zz];refine aC (hK1 _ _ ?_);refine aF (fun K2 hK2=>wp_region_lit (aA (aB) (aA (bR rfl cE rfl) (aA (aB) ?_))));simp only[zz];refine aA (bR rfl cE rfl) (aA (bD rfl rfl (aQ (by omega) (by omega))) ?_);simp only[zz];refine lP cE nN rfl rfl rfl (show _ = xs.length + ys.length by omega) (show _ = xs.length + ys.length by omega) (by omega) (by omega) (by omega) (by omega) ?_;intro w1 g1 hE hg1 hB1;have hG1:=Nat.le_trans hX.size hg1;replace hX:=hX.trans hE;clear hE hg1;simp only[zz];refine aA (aD) ?_;simp only[zz];refine aC ?_;rw [iF] at hB1;refine hK2 _ _ (aF (fun K3 hK3=>aF (fun K4 hK4=>wp_region_lit (aA (aB) (aA (bR rfl cE rfl) (aA (aB) ?_))))));simp only[zz];refine aC (hK4 _ _ ?_);refine wp_block (dI [20] [6,7,8,9,10,11,21,22,23,24,25,26,27,28,29,30,31,32,33,34,35,36,37,38,39,40,41,42,43,44,45,46,47,48,49,50,51,52,53,54,55,56,57,58,59,60,61] (fun n vs wl=>∃ (i : Nat) (os : List Nat),vs = [.int .i64 (i:Int)] ∧ (dL w wl) ∧ (fW wl g1 (os.map kO) 101) ∧ (i ≤ xs.length) ∧ (os.length = xs.length + ys.length) ∧ (val 4294967296 os = val 4294967296 (xs.take i) * val 4294967296 ys) ∧ (os.drop (i + ys.length) = List.replicate (xs.length - i) 0) ∧ (dD 4294967296 os) ∧ (n = xs.length - i)) ?_ ?_)
 ·
  apply Exists.intro;simp only[zQ,zR,zD,zE];exact ⟨0,List.replicate (xs.length + ys.length) 0,rfl,hX,hB1,by omega,by simp,by rw [gH,List.take_zero]; simp only[val,Nat.zero_mul],by rw [List.drop_replicate]; congr 1; omega,fun x hx=>by rw [List.eq_of_mem_replicate hx]; decide,rfl⟩
 ·
  intro n vs wr hI u;obtain ⟨i,os,rfl,hX,hB1,hi,hlo,hv,hz,hd,hn⟩:=hI;simp only[zv,zF,zG];refine aF (fun K5 hK5=>wp_region_lit (aA (eA rfl rfl) ?_));simp only[zz];refine aC (hK5 _ _ ?_);refine aF (fun K6 hK6=>?_);refine cQ rfl (fun hc1=>?_) (fun hc1=>?_)
  ·
   refine wp_skip ?_;refine hK6 _ _ (aF (fun K7 hK7=>wp_block (aF (fun K8 hK8=>?_))));obtain ⟨a,rfl,hca,hla⟩:=(hS.ext hX).get (show i < xs.length by omega);refine wp_region_lit (aA (aB) (aA (aU cE bJ rfl rfl (by omega) (by omega) (fT (Int.toNat_natCast _))) ?_));simp only[zz];refine aI rfl (lies1 hca fM) ?_;simp only[zz];refine aA (aD) (aA (aD) ?_);simp only[zz];refine aC (hK8 _ _ ?_);refine aF (fun K9 hK9=>wp_region_lit (aA (aD) ?_));simp only[zz];refine aC (hK9 _ _ ?_);refine aF (fun K10 hK10=>aF (fun K11 hK11=>wp_region_lit (aA (aB) (aA (bR rfl cE rfl) (aA (aB) ?_)))));simp only[zz];refine aC (hK11 _ _ ?_);refine wp_block (dI [8,27] [9,10,11,28,29,30,31,32,33,34,35,36,37,38,39,40,41,42,43,44,45,46,47,48,49,50,51,52,53] (fun n vs wl=>∃ (k c : Nat) (os : List Nat),vs = [.int .u64 (c:Int),.int .i64 (k:Int)] ∧ (dL w wl) ∧ (fW wl g1 (os.map kO) 101) ∧ (k ≤ ys.length) ∧ (os.length = xs.length + ys.length) ∧ (val 4294967296 os + 4294967296 ^ (i + k) * c = val 4294967296 (xs.take i) * val 4294967296 ys + 4294967296 ^ i * (xs[i] * val 4294967296 (ys.take k))) ∧ (os.drop (i + ys.length) = List.replicate (xs.length - i) 0) ∧ (dD 4294967296 os) ∧ (c < 4294967296) ∧ (n = ys.length - k)) ?_ ?_)
   ·
    apply Exists.intro;simp only[zQ,zR,zD,zE];exact ⟨0,0,os,rfl,hX,hB1,by omega,hlo,by rw [List.take_zero,hv]; simp only[val,Nat.mul_zero],hz,hd,by omega,rfl⟩
   ·
    intro n vs wr hI u;obtain ⟨k,c,os,rfl,hX,hB1,hk,hlo,hv2,hz,hd,hc,hn2⟩:=hI;simp only[zv,zF,zG];refine aF (fun K12 hK12=>wp_region_lit (aA (eA rfl rfl) ?_));simp only[zz];refine aC (hK12 _ _ ?_);refine aF (fun K13 hK13=>?_);refine cQ rfl (fun hc2=>?_) (fun hc2=>?_)
    ·
     refine wp_skip ?_;refine hK13 _ _ (aF (fun K14 hK14=>wp_block (aF (fun K15 hK15=>?_))));obtain ⟨b,rfl,hcb,hlb⟩:=(hR.ext hX).get (show k < ys.length by omega);refine wp_region_lit (aA (aB) (aA (aU cE bJ rfl rfl (by omega) (by omega) (fT (Int.toNat_natCast _))) ?_));simp only[zz];refine aI rfl (lies1 hcb fM) ?_;simp only[zz];refine aA (aD) (aA (aD) ?_);simp only[zz];refine aC (hK15 _ _ ?_);refine aF (fun K16 hK16=>?_);have hco:=hB1.word (show i + k < os.length by omega);have hlo2:=hd.get (List.getElem?_eq_getElem (show i + k < os.length by omega));obtain ⟨hm0,hm1⟩:=Vg hla hlb;refine wp_region_lit (aA (aB) (aA (aB) (aA (aB) ?_)));simp only[zz];refine aA (bD rfl rfl (aQ (by omega) (by omega))) (aA (aU cE bJ rfl rfl (by omega) (by omega) (fK (show _ = i + k by omega))) ?_);simp only[zz];refine aI rfl (lies1 hco fM) ?_;simp only[zz];refine aA (aB) (aA (aB) (aA (lB rfl rfl (fX (by omega) (by omega))) ?_));simp only[zz];refine aA (bD rfl rfl (fX (by omega) (by omega))) (aA (aB) (aA (bD rfl rfl (fX (by omega) (by omega))) ?_));simp only[zz];refine aA (aD) ?_;simp only[zz];refine aC ?_;obtain ⟨s,hs⟩ : ∃ s : Nat,s = os[i + k] + xs[i] * ys[k] + c:=⟨_,rfl⟩
     have hsI : (↑os[i + k] + ↑xs[i] * ↑ys[k] + ↑c : Int) = (s : Int):=by rw [hs]; simp
     rw [hsI];have hs64 : s < 18446744073709551616:=by omega
     refine hK16 _ _ ?_;refine wp_region_lit (aA (aB) (aA (aB) (aA (aB) ?_)));simp only[zz];refine aA (bD rfl rfl (aQ (by omega) (by omega))) (aA (aB) (aA (sY rfl rfl (nS (by omega) (by omega))) ?_));simp only[zz];refine aA (aB) (aA (mL rfl rfl (by omega) (Ef (by omega))) (aA (aU cE bJ rfl rfl (by omega) (by omega) (fK (show _ = i + k by omega))) ?_));simp only[zz];refine cC rfl (by simp only[zz]; rfl) (by exact bJ) hB1 (by simp; omega) (by simp [Value.oneCell']) ?_;clear hB1; intro w2 hC hB1;replace hX:=hX.chg hC hG1;clear hC;rw [show ((s:Int) % 4294967296) = ((s % 4294967296 : Nat) : Int) by omega,gN (by omega)] at hB1;refine aA (aD) ?_;simp only[zz];refine aC (hK14 _ _ ?_);refine wp_region_lit (aA (bD rfl rfl (aQ (by omega) (by omega))) (aA (aB) ?_));simp only[zz];refine aC ?_;have r1:=Of (by omega) (by omega) hlo hv2 hs;rw [show ((k:Int) + 1) = ((k + 1 : Nat) : Int) by omega,show ((s:Int) / 4294967296) = ((s / 4294967296 : Nat) : Int) by omega];simp only[Exit.inBlock,Exit.then];refine ⟨ys.length - (k + 1),_,?_,rfl,?_,?_⟩
     · omega
     · simp only[zz,zv]
     ·
      simp only[zQ,zR,zD,zE];exact ⟨k + 1,s / 4294967296,os.set (i + k) (s % 4294967296),rfl,hX,hB1,by omega,by simpa using hlo,r1,by rw [mD (by omega)]; exact hz,hd.set (by omega),by omega,rfl⟩
    ·
     refine wp_exit ?_;refine hK10 _ _ ?_;obtain rfl : k = ys.length:=by omega
     refine wp_region_lit (aA (aB) (aA (aB) (aA (aB) ?_)));simp only[zz];refine aA (bR rfl cE rfl) (aA (bD rfl rfl (aQ (by omega) (by omega))) (aA (aB) ?_));simp only[zz];refine aA (aU cE bJ rfl rfl (by omega) (by omega) (fK (show _ = i + ys.length by omega))) ?_;simp only[zz];refine cC rfl (by simp only[zz]; rfl) (by exact bJ) hB1 (by simp; omega) (by simp [Value.oneCell']) ?_;clear hB1; intro w2 hC hB1;replace hX:=hX.chg hC hG1;clear hC;rw [gN (by omega)] at hB1;refine aC (hK7 _ _ ?_);refine wp_region_lit (aA (bD rfl rfl (aQ (by omega) (by omega))) (aA (aB) ?_));simp only[zz];refine aC ?_;obtain ⟨r1,r2⟩:=Vf (by omega) hlo hv2 hz;rw [show ((i:Int) + 1) = ((i + 1 : Nat) : Int) by omega];simp only[Exit.inBlock,Exit.then];refine ⟨xs.length - (i + 1),_,?_,rfl,?_,?_⟩
     · omega
     · simp only[zz,zv]
     ·
      simp only[zQ,zR,zD,zE];exact ⟨i + 1,os.set (i + ys.length) c,rfl,hX,hB1,by omega,by simpa using hlo,r1,r2,hd.set (by omega),rfl⟩
  ·
   refine wp_exit ?_;refine hK3 _ _ (aF (fun K17 hK17=>?_));obtain rfl : i = xs.length:=by omega
   refine wp_region_lit (aA (aB) ?_);simp only[zz];refine bS rfl rfl (qM _ (hB1.nat hd (by omega) (by omega))) ?_;rintro v w2 hE rfl;replace hB1:=hB1.ext hE; replace hX:=hX.trans hE;clear hE;simp only[zz];refine aA (aD) ?_;simp only[zz];refine aC (hK17 _ _ ?_);refine wp_ret ?_;try simp only[Exit.inBlock,Exit.then]
   refine bU rfl rfl ?_;try simp only[zD,zE]
   exact ⟨_,rfl,hX,gZ.of_trim (hB1.nat hd (n:=xs.length + ys.length) (by omega) (by omega)) (by rw [hv,List.take_length])⟩
end Go.Proofs.YtimjandkmfcmiaaGreatDoor
namespace Go.Proofs.YtimjandkmfcmiaaGreatDoor
open Tryz
open Go.RowKit Go.Lith
set_option maxRecDepth 100000
attribute [local irreducible] wpList wpQuiet eS Code.wp
theorem Vp {A : Option Addr} {xs : List Nat} {na ca d : Nat} (w : World) (hS : eC w A na ca xs) (hlx : xs.length ≤ 1099511627776) (h0 : 0 < d) (h32 : d ≤ 4294967296) : iL prog 169 [.slice A na ca,.int .u64 (d : Int)] w (fun v w'=>∃ q,v = .tuple #[q,.int .u64 ((val 4294967296 xs % d : Nat) : Int)] ∧ gZ (val 4294967296 xs / d) q w'):=by
 skip
 refine ⟨aaq,?_⟩;have hX:=dL.refl w;obtain rfl:=hS.eq
 go_enter func169,ntmps169
 refine aF (fun K1 hK1=>wp_region_lit (aA (aD) (aA (aD) ?_)));simp only[zz];refine aC (hK1 _ _ ?_);refine aF (fun K2 hK2=>wp_region_lit (aA (aB) (aA (bR rfl cE rfl) ?_)));simp only[zz];refine lP cE nN rfl rfl rfl (Int.toNat_natCast _) (Int.toNat_natCast _) (by omega) (by omega) (by omega) (by omega) ?_;intro w1 g1 hE hg1 hB1;have hG1:=Nat.le_trans hX.size hg1;replace hX:=hX.trans hE;clear hE hg1;simp only[zz];refine aA (aD) ?_;simp only[zz];refine aC ?_;rw [iF] at hB1;refine hK2 _ _ (aF (fun K3 hK3=>wp_region_lit (aA (aD) ?_)));simp only[zz];refine aC (hK3 _ _ ?_);refine aF (fun K4 hK4=>aF (fun K5 hK5=>wp_region_lit (aA (aB) (aA (bR rfl cE rfl) (aA (dU rfl rfl (aQ (by omega) (by omega))) ?_)))));simp only[zz];refine aA (aD) ?_;simp only[zz];refine aC (hK5 _ _ ?_);refine wp_block (dI [7,8] [15,16,17,18,19,20,21,22,23,24,25,26,27,28,29,30,31,32,33,34] (fun n vs wl=>∃ (k r : Nat) (os : List Nat),vs = [.int .u64 (r:Int),.int .i64 ((k:Int) - 1)] ∧ (dL w wl) ∧ (fW wl g1 (os.map kO) 101) ∧ (k ≤ xs.length) ∧ (os.length = xs.length) ∧ (val 4294967296 (xs.drop k) = d * val 4294967296 (os.drop k) + r) ∧ (r < d) ∧ (dD 4294967296 os) ∧ (n = k)) ?_ ?_)
 ·
  apply Exists.intro;simp only[zQ,zR,zD,zE];exact ⟨xs.length,0,List.replicate xs.length 0,rfl,hX,hB1,by omega,by simp,by rw [List.drop_length,List.drop_of_length_le (by simp)]; simp only[val,Nat.mul_zero],h0,fun x hx=>by rw [List.eq_of_mem_replicate hx]; decide,rfl⟩
 ·
  intro n vs wr hI u;obtain ⟨k,r,os,rfl,hX,hB1,hk,hlo,hv,hr,hd,hn⟩:=hI;simp only[zv,zF,zG];refine aF (fun K6 hK6=>aF (fun K7 hK7=>wp_region_lit (aA (aB) (aA (lC rfl rfl) ?_))));simp only[zz];refine aC (hK7 _ _ ?_);refine cQ rfl (fun hc1=>?_) (fun hc1=>?_)
  ·
   refine wp_skip ?_;refine hK6 _ _ (aF (fun K8 hK8=>wp_block (aF (fun K9 hK9=>?_))));obtain ⟨a,rfl,hca,hla⟩:=(hS.ext hX).get (show k - 1 < xs.length by omega);have hr32 : r < 4294967296:=by omega
   refine wp_region_lit (aA (aB) (aA (An rfl rfl (by omega) (sB (n:=32) (by omega) (by omega))) (aA (aB) ?_)));simp only[zz];refine aA (aB) (aA (aU cE bJ rfl rfl (by omega) (by omega) (fT (show _ = k - 1 by omega))) ?_);simp only[zz];refine aI rfl (lies1 hca fM) ?_;simp only[zz];refine aA (Kl rfl rfl (zX (s:=32) (c:=r) (by omega) (by omega) (by omega))) (aA (aD) ?_);simp only[zz];refine aC (hK9 _ _ ?_);obtain ⟨t,ht⟩ : ∃ t : Nat,t = xs[k - 1] + r * 4294967296:=⟨_,rfl⟩
   rw [← ht];have ht64 : t < 18446744073709551616:=by omega
   have hd64 : (d : Int) ≠ 0:=by omega
   refine De [(0,true),(1,true),(2,true),(3,true),(4,true),(5,true),(6,true),(7,true),(8,true),(9,false),(10,true)] aN (by kernel_rfl) (cW (fun _ _ _ _ _ h=>h)) (ol:=?_) ?hol ?_
   case hol=>simp only[zw,zQ,zR]; try rfl
   intro w2 hE;replace hB1:=hB1.ext hE; replace hX:=hX.trans hE;clear hE;refine uN (aB) (uN (aB) (uN (aB) ?_));simp only[zz];refine uN (aB) (uN (oH rfl rfl (by omega) (zZ ht64)) (uN (aB) ?_));simp only[zz];refine uN (aB) (uN (kD rfl rfl (by omega) kZ) (uN (aU cE bJ rfl rfl (by omega) (by omega) (fK (show _ = k - 1 by omega))) ?_));simp only[zz];refine Yx ?_;refine cC rfl (by simp only[zz]; rfl) (by exact bJ) hB1 (by simp; omega) (by simp [Value.oneCell']) ?_;clear hB1; intro w3 hC hB1;replace hX:=hX.chg hC hG1;clear hC;rw [gN (by omega)] at hB1;refine aC (uN (aD) ?_);simp only[zz];refine aby (hK8 _ _ ?_);refine wp_region_lit (aA (aB) (aA (dU rfl rfl (aQ (by omega) (by omega))) (aA (aD) ?_)));simp only[zz];refine aC ?_;obtain ⟨r1,r2,r3⟩:=Io (by omega) hk hlo hv hr hd hla;rw [← ht] at r1 r2 r3;rw [show ((k:Int) - 1 - 1) = ((k - 1 : Nat) : Int) - 1 by omega];simp only[Exit.inBlock,Exit.then];refine ⟨k - 1,_,?_,rfl,?_,?_⟩
   · omega
   · simp only[zz,zv]
   ·
    simp only[zQ,zR,zD,zE];exact ⟨k - 1,t % d,os.set (k - 1) (t / d),rfl,hX,hB1,by omega,by simpa using hlo,r1,r3,r2,rfl⟩
  ·
   refine wp_exit ?_;refine hK4 _ _ (aF (fun K10 hK10=>?_));obtain rfl : k = 0:=by omega
   refine wp_region_lit (aA (aB) ?_);simp only[zz];refine bS rfl rfl (qM _ (hB1.nat hd (by omega) (by omega))) ?_;rintro v w2 hE rfl;replace hB1:=hB1.ext hE; replace hX:=hX.trans hE;clear hE;simp only[zz];refine aA (aB) (aA (aD) (aA (aD) ?_));simp only[zz];refine aC (hK10 _ _ ?_);refine wp_ret ?_;try simp only[Exit.inBlock,Exit.then]
   refine jL rfl rfl rfl ?_;try simp only[zD,zE]
   (have hq : val 4294967296 os = val 4294967296 xs / d ∧ r = val 4294967296 xs % d:=vA h0 hr (by simpa using hv)); exact ⟨_,rfl,hX,_,by rw [hq.2],gZ.of_trim (hB1.nat hd (n:=xs.length) (by omega) (by omega)) hq.1⟩
theorem My {A : Option Addr} {xs : List Nat} {na ca sh : Nat} (w : World) (hS : eC w A na ca xs) (hlx : xs.length ≤ 1099511627776) (hn : sh ≤ 31) : iL prog 170 [.slice A na ca,.int .i64 (sh : Int)] w (fun v w'=>∃ g os,v = .slice (some ⟨g,0,none⟩) (xs.length + 1) (xs.length + 1) ∧ w.heap.size ≤ g ∧ fW w' g (os.map kO) 101 ∧ os.length = xs.length + 1 ∧ dD 4294967296 os ∧ val 4294967296 os = 2 ^ sh * val 4294967296 xs):=by
 skip
 refine ⟨aar,?_⟩;have hX:=dL.refl w;obtain rfl:=hS.eq
 go_enter func170,ntmps170
 refine aF (fun K1 hK1=>wp_region_lit (aA (aD) ?_));simp only[zz];refine aC (hK1 _ _ ?_);refine aF (fun K2 hK2=>wp_region_lit (aA (aB) (aA (bR rfl cE rfl) (aA (bD rfl rfl (aQ (by omega) (by omega))) ?_))));simp only[zz];refine lP cE nN rfl rfl rfl (show _ = xs.length + 1 by omega) (show _ = xs.length + 1 by omega) (by omega) (by omega) (by omega) (by omega) ?_;intro w1 g1 hE hg1 hB1;have hG1:=Nat.le_trans hX.size hg1;replace hX:=hX.trans hE;clear hE hg1;simp only[zz];refine aA (aD) ?_;simp only[zz];refine aC ?_;rw [iF] at hB1;refine hK2 _ _ (aF (fun K3 hK3=>aF (fun K4 hK4=>wp_region_lit (aA (aB) (aA (bR rfl cE rfl) (aA (aB) ?_))))));simp only[zz];refine aC (hK4 _ _ ?_);refine wp_block (dI [14] [6,7,15,16,17,18,19,20,21,22,23,24,25,26,27,28,29,30,31,32,33,34,35,36] (fun n vs wl=>∃ (i : Nat) (os : List Nat),vs = [.int .i64 (i:Int)] ∧ (dL w wl) ∧ (fW wl g1 (os.map kO) 101) ∧ (i ≤ xs.length) ∧ (os.length = xs.length + 1) ∧ (val 4294967296 os = 2 ^ sh * val 4294967296 (xs.take i)) ∧ (os.drop (i + 1) = List.replicate (xs.length - i) 0) ∧ (dD 4294967296 os) ∧ (∀ h : i < os.length,os[i] < 2 ^ sh) ∧ (n = xs.length - i)) ?_ ?_)
 ·
  apply Exists.intro;simp only[zQ,zR,zD,zE];exact ⟨0,List.replicate (xs.length + 1) 0,rfl,hX,hB1,by omega,by simp,by rw [gH,List.take_zero]; rfl,by rw [List.drop_replicate]; congr 1,fun x hx=>by rw [List.eq_of_mem_replicate hx]; decide,fun h=>by rw [List.getElem_replicate]; exact Nat.pow_pos (by decide),rfl⟩
 ·
  intro n vs wr hI u;obtain ⟨i,os,rfl,hX,hB1,hi,hlo,hv,hz,hd,hc,hn⟩:=hI;simp only[zv,zF,zG];refine aF (fun K5 hK5=>wp_region_lit (aA (eA rfl rfl) ?_));simp only[zz];refine aC (hK5 _ _ ?_);refine aF (fun K6 hK6=>?_);refine cQ rfl (fun hc1=>?_) (fun hc1=>?_)
  ·
   refine wp_skip ?_;refine hK6 _ _ (aF (fun K7 hK7=>wp_block (aF (fun K8 hK8=>?_))));obtain ⟨a,rfl,hca,hla⟩:=(hS.ext hX).get (show i < xs.length by omega);refine wp_region_lit (aA (aB) (aA (aU cE bJ rfl rfl (by omega) (by omega) (fT (Int.toNat_natCast _))) ?_));simp only[zz];refine aI rfl (lies1 hca fM) ?_;simp only[zz];refine aA (aD) (aA (aD) ?_);simp only[zz];refine aC (hK8 _ _ ?_);refine aF (fun K9 hK9=>?_);have hm64:=Ky (n:=sh) (by omega) hla;have hf:=Ab (x:=xs[i]) (n:=sh) (by omega) (hc (by omega));refine wp_region_lit (aA (aB) (aA (aB) (aA (An rfl rfl (by omega) (sB (n:=sh) (by omega) hm64)) ?_)));simp only[zz];refine aA (aD) ?_;simp only[zz];refine aC (hK9 _ _ ?_);refine aF (fun K10 hK10=>?_);have hco:=hB1.word (show i < os.length by omega);have hmm : xs[i] * 2 ^ sh % 4294967296 < 4294967296:=Nat.mod_lt _ (by decide);refine wp_region_lit (aA (aB) (aA (aB) (aA (aU cE bJ rfl rfl (by omega) (by omega) (fK (Int.toNat_natCast _))) ?_)));simp only[zz];refine aI rfl (lies1 hco fM) ?_;simp only[zz];refine aA (aB) (aA (sY rfl rfl (zY hm64)) (aA (Kl rfl rfl (Gj (s:=sh) (hc (by omega)) (Aa (by omega)) (by omega))) ?_));simp only[zz];refine aA (aU cE bJ rfl rfl (by omega) (by omega) (fK (Int.toNat_natCast _))) ?_;simp only[zz];refine cC rfl (by simp only[zz]; rfl) (by exact bJ) hB1 (by simp; omega) (by simp [Value.oneCell']) ?_;clear hB1; intro w2 hC hB1;replace hX:=hX.chg hC hG1;clear hC;rw [gN (by omega)] at hB1;refine aC (hK10 _ _ ?_);refine wp_region_lit (aA (aB) (aA (aB) (aA (bD rfl rfl (aQ (by omega) (by omega))) ?_)));simp only[zz];refine aA (aB) (aA (mL rfl rfl (by omega) Gk) (aA (aU cE bJ rfl rfl (by omega) (by omega) (fK (show _ = i + 1 by omega))) ?_));simp only[zz];refine cC rfl (by simp only[zz]; rfl) (by exact bJ) hB1 (by simp; omega) (by simp [Value.oneCell']) ?_;clear hB1; intro w3 hC hB1;replace hX:=hX.chg hC hG1;clear hC;rw [gN (by simp; omega)] at hB1;refine aC (hK7 _ _ ?_);refine wp_region_lit (aA (bD rfl rfl (aQ (by omega) (by omega))) (aA (aB) ?_));simp only[zz];refine aC ?_;obtain ⟨r1,r2,r3,r4⟩:=Ip (by omega) (by omega) hlo hv hz hd (by omega) (hc (by omega)) hla;rw [show ((i:Int) + 1) = ((i + 1 : Nat) : Int) by omega];simp only[Exit.inBlock,Exit.then];refine ⟨xs.length - (i + 1),_,?_,rfl,?_,?_⟩
   · omega
   · simp only[zz,zv]
   ·
    simp only[zQ,zR,zD,zE];exact ⟨i + 1,(os.set i (os[i] + xs[i] * 2 ^ sh % 4294967296)).set (i + 1) (xs[i] * 2 ^ sh / 4294967296),rfl,hX,hB1,by omega,by simpa using hlo,r1,r2,r3,r4,rfl⟩
  ·
   refine wp_exit ?_;refine hK3 _ _ (aF (fun K11 hK11=>?_));obtain rfl : i = xs.length:=by omega
   refine wp_region_lit (aA (aB) (aA (aD) ?_));simp only[zz];refine aC (hK11 _ _ ?_);refine wp_ret ?_;try simp only[Exit.inBlock,Exit.then]
   refine bU rfl rfl ?_;try simp only[zD,zE]
   exact ⟨_,rfl,hX,_,os,rfl,hG1,hB1,hlo,hd,by rw [hv,List.take_length]⟩
theorem Pb {A : Option Addr} {xs : List Nat} {na ca sh : Nat} (w : World) (hS : eC w A na ca xs) (hlx : xs.length ≤ 1099511627776) (hn : sh ≤ 31) : iL prog 173 [.slice A na ca,.int .i64 (sh : Int)] w (gZ (val 4294967296 xs / 2 ^ sh)):=by
 skip
 refine ⟨aau,?_⟩;have hX:=dL.refl w;obtain rfl:=hS.eq
 go_enter func173,ntmps173
 refine aF (fun K1 hK1=>wp_region_lit (aA (aD) ?_));simp only[zz];refine aC (hK1 _ _ ?_);refine aF (fun K2 hK2=>wp_region_lit (aA (aB) (aA (bR rfl cE rfl) ?_)));simp only[zz];refine lP cE nN rfl rfl rfl (Int.toNat_natCast _) (Int.toNat_natCast _) (by omega) (by omega) (by omega) (by omega) ?_;intro w1 g1 hE hg1 hB1;have hG1:=Nat.le_trans hX.size hg1;replace hX:=hX.trans hE;clear hE hg1;simp only[zz];refine aA (aD) ?_;simp only[zz];refine aC ?_;rw [iF] at hB1;refine hK2 _ _ (aF (fun K3 hK3=>aF (fun K4 hK4=>wp_region_lit (aA (aB) (aA (bR rfl cE rfl) (aA (aB) ?_))))));simp only[zz];refine aC (hK4 _ _ ?_);refine wp_block (dI [13] [6,7,14,15,16,17,18,19,20,21,22,23,24,25,26,27,28,29,30,31,32,33,34,35,36,37,38,39,40,41] (fun n vs wl=>∃ (i : Nat) (os : List Nat),vs = [.int .i64 (i:Int)] ∧ (dL w wl) ∧ (fW wl g1 (os.map kO) 101) ∧ (i ≤ xs.length) ∧ (os.length = xs.length) ∧ (val 4294967296 os = val 4294967296 (xs.take i) / 2 ^ sh) ∧ (os.drop i = List.replicate (xs.length - i) 0) ∧ (dD 4294967296 os) ∧ (0 < i → ∀ h : i - 1 < os.length,os[i - 1] < 2 ^ (32 - sh)) ∧ (n = xs.length - i)) ?_ ?_)
 ·
  apply Exists.intro;simp only[zQ,zR,zD,zE];exact ⟨0,List.replicate xs.length 0,rfl,hX,hB1,by omega,by simp,by rw [gH,List.take_zero,show val 4294967296 [] = 0 from rfl,Nat.zero_div],rfl,fun x hx=>by rw [List.eq_of_mem_replicate hx]; decide,fun h=>absurd h (by omega),rfl⟩
 ·
  intro n vs wr hI u;obtain ⟨i,os,rfl,hX,hB1,hi,hlo,hv,hz,hd,hc,hn⟩:=hI;simp only[zv,zF,zG];refine aF (fun K5 hK5=>wp_region_lit (aA (eA rfl rfl) ?_));simp only[zz];refine aC (hK5 _ _ ?_);refine aF (fun K6 hK6=>?_);refine cQ rfl (fun hc1=>?_) (fun hc1=>?_)
  ·
   refine wp_skip ?_;refine hK6 _ _ (aF (fun K7 hK7=>wp_block (aF (fun K8 hK8=>?_))));obtain ⟨a,rfl,hca,hla⟩:=(hS.ext hX).get (show i < xs.length by omega);refine wp_region_lit (aA (aB) (aA (aU cE bJ rfl rfl (by omega) (by omega) (fT (Int.toNat_natCast _))) ?_));simp only[zz];refine aI rfl (lies1 hca fM) ?_;simp only[zz];refine aA (aD) (aA (aD) ?_);simp only[zz];refine aC (hK8 _ _ ?_);refine aF (fun K9 hK9=>?_);have hco:=hB1.word (show i < os.length by omega);obtain ⟨z1,z2⟩:=iG hz (by omega);have hq : xs[i] / 2 ^ sh < 4294967296:=Nat.lt_of_le_of_lt (Nat.div_le_self _ _) hla;refine iW 9 aN (by kernel_rfl) ?_;simp only[zy];refine aS (aB) (aS (aB) (aS (aU cE bJ rfl rfl (by omega) (by omega) (fK (Int.toNat_natCast _))) ?_));simp only[zz];refine gL rfl (fun _ hE'=>(lies1 (hE'.cell hco) fM)) ?_;simp only[zz];refine aS (aB) (aS (aB) (aS (mL rfl rfl (by omega) (Vh (n:=sh) (by omega))) ?_));simp only[zz];refine aS (Kl rfl rfl (Gj (s:=0) (c:=xs[i] / 2 ^ sh) (by omega) (by omega) (by omega))) (aS (aU cE bJ rfl rfl (by omega) (by omega) (fK (Int.toNat_natCast _))) ?_);simp only[zz];refine dW ?_;intro w2 hE;replace hB1:=hB1.ext hE; replace hX:=hX.trans hE;clear hE;refine cC rfl (by simp only[zz]; rfl) (by exact bJ) hB1 (by simp; omega) (by simp [Value.oneCell']) ?_;clear hB1; intro w3 hC hB1;replace hX:=hX.chg hC hG1;clear hC;rw [gN (by omega),z1,Nat.zero_add] at hB1;refine aC (hK9 _ _ ?_);refine aF (fun K10 hK10=>wp_region_lit (aA (aB) (aA (gS rfl rfl) ?_)));simp only[zz];refine aC (hK10 _ _ ?_);refine cQ rfl (fun hc2=>?_) (fun hc2=>?_)
   ·
    obtain ⟨j,rfl⟩ : ∃ j,i = j + 1:=⟨i - 1,by omega⟩
    have hm64:=Ky (x:=xs[j + 1]) (n:=32 - sh) (by omega) hla;have hcj:=hc (by omega) (by omega);simp only[Nat.add_sub_cancel] at hcj;have hf:=Ab (x:=xs[j + 1]) (n:=32 - sh) (by omega) hcj;have hmm : xs[j + 1] * 2 ^ (32 - sh) % 4294967296 < 4294967296:=Nat.mod_lt _ (by decide);have hco2:=hB1.word (show j < (os.set (j + 1) (xs[j + 1] / 2 ^ sh)).length by simp; omega);rw [List.getElem_set_ne (by omega)] at hco2;refine iW 12 aN (by kernel_rfl) ?_;simp only[zy];refine aS (aB) (aS (aB) (aS (dU rfl rfl (aQ (by omega) (by omega))) ?_));simp only[zz];refine aS (aU cE bJ rfl rfl (by omega) (by omega) (fK (show _ = j by omega))) ?_;simp only[zz];refine gL rfl (fun _ hE'=>(lies1 (hE'.cell hco2) fM)) ?_;simp only[zz];refine aS (aB) (aS (aB) (aS (dU rfl rfl ((aQ (by omega) (by omega)).trans (show (32 : Int) - (sh : Int) = ((32 - sh : Nat) : Int) by omega))) ?_));simp only[zz];refine aS (An rfl rfl (by omega) (sB (n:=32 - sh) (by omega) hm64)) (aS (sY rfl rfl (zY hm64)) (aS (Kl rfl rfl (Gj (s:=32 - sh) hcj (Aa (by omega)) (by omega))) ?_));simp only[zz];refine aS (aU cE bJ rfl rfl (by omega) (by omega) (fK (show _ = j by omega))) ?_;simp only[zz];refine dW ?_;intro w4 hE;replace hB1:=hB1.ext hE; replace hX:=hX.trans hE;clear hE;refine cC rfl (by simp only[zz]; rfl) (by exact bJ) hB1 (by simp; omega) (by simp [Value.oneCell']) ?_;clear hB1; intro w5 hC hB1;replace hX:=hX.chg hC hG1;clear hC;rw [gN (by simp; omega)] at hB1;refine aC (hK7 _ _ ?_);refine wp_region_lit (aA (bD rfl rfl (aQ (by omega) (by omega))) (aA (aB) ?_));simp only[zz];refine aC ?_;obtain ⟨r1,r2,r3⟩:=Di (n:=sh) (by omega) (by omega) hlo hv hz hd hS.digs (by omega) hcj;rw [show (((j + 1 : Nat) : Int) + 1) = ((j + 1 + 1 : Nat) : Int) by omega];simp only[Exit.inBlock,Exit.then];refine ⟨xs.length - (j + 1 + 1),_,?_,rfl,?_,?_⟩
    · omega
    · simp only[zz,zv]
    ·
     simp only[zQ,zR,zD,zE];exact ⟨j + 1 + 1,(os.set (j + 1) (xs[j + 1] / 2 ^ sh)).set j (os[j] + xs[j + 1] * 2 ^ (32 - sh) % 4294967296),rfl,hX,hB1,by omega,by simpa using hlo,r1,r2,r3,fun _ h=>by simp only[Nat.add_sub_cancel]; rw [List.getElem_set_ne (by omega),List.getElem_set_self]; exact Ro (by omega) hla,rfl⟩
   ·
    refine wp_skip ?_;refine hK7 _ _ (wp_region_lit (aA (bD rfl rfl (aQ (by omega) (by omega))) (aA (aB) ?_)));simp only[zz];refine aC ?_;obtain rfl : i = 0:=by omega
    obtain ⟨r1,r2,r3⟩:=Dg (n:=sh) (by omega) (by omega) hlo hv hz hd hla;rw [show (((0 : Nat) : Int) + 1) = ((0 + 1 : Nat) : Int) by omega];simp only[Exit.inBlock,Exit.then];refine ⟨xs.length - (0 + 1),_,?_,rfl,?_,?_⟩
    · omega
    · simp only[zz,zv]
    ·
     simp only[zQ,zR,zD,zE];exact ⟨0 + 1,os.set 0 (xs[0] / 2 ^ sh),rfl,hX,hB1,by omega,by simpa using hlo,r1,r2,r3,fun _ h=>by simp only[Nat.add_sub_cancel]; rw [List.getElem_set_self]; exact Ro (by omega) hla,rfl⟩
  ·
   refine wp_exit ?_;refine hK3 _ _ (aF (fun K11 hK11=>?_));obtain rfl : i = xs.length:=by omega
   refine wp_region_lit (aA (aB) ?_);simp only[zz];refine bS rfl rfl (qM _ (hB1.nat hd (by omega) (by omega))) ?_;rintro v w2 hE rfl;replace hB1:=hB1.ext hE; replace hX:=hX.trans hE;clear hE;simp only[zz];refine aA (aD) ?_;simp only[zz];refine aC (hK11 _ _ ?_);refine wp_ret ?_;try simp only[Exit.inBlock,Exit.then]
   refine bU rfl rfl ?_;try simp only[zD,zE]
   exact ⟨_,rfl,hX,gZ.of_trim (hB1.nat hd (n:=xs.length) (by omega) (by omega)) (by rw [hv,List.take_length])⟩
theorem Mz {A : Option Addr} {xs : List Nat} {na ca : Nat} (w : World) (hS : eC w A na ca xs) : iL prog 183 [.slice A na ca] w (Vj xs):=by
 skip
 refine ⟨aav,?_⟩;have hX:=dL.refl w;obtain rfl:=hS.eq;have hl:=hS.len
 go_enter func183,ntmps183
 refine aF (fun K1 hK1=>wp_region_lit (aA (aD) ?_));simp only[zz];refine aC (hK1 _ _ ?_);refine aF (fun K2 hK2=>aF (fun K3 hK3=>?_));rcases A with _ | a
 ·
  obtain rfl:=hS.none;refine wp_region_lit (aA (aB) (aA (Ic cE rfl rfl) ?_));simp only[zz];refine aC (hK3 _ _ ?_);refine bX rfl (aF (fun K4 hK4=>wp_region_lit (aA (aD) ?_)));simp only[zz];refine aC (hK4 _ _ ?_);refine wp_ret ?_;try simp only[Exit.inBlock,Exit.then]
  refine bU rfl rfl ?_;try simp only[zD,zE]
  exact ⟨_,rfl,hX,none,0,rfl,eC.nil _⟩
 ·
  refine wp_region_lit (aA (aB) (aA (Ic cE rfl rfl) ?_));simp only[zz];refine aC (hK3 _ _ ?_);refine eQ rfl (wp_skip ?_);refine hK2 _ _ (aF (fun K5 hK5=>wp_region_lit ?_));refine Qp cE (c:=1) (by kernel_rfl)  ?_;intro w1 g1 hE hg1 hB1;have hG1:=Nat.le_trans hX.size hg1;replace hX:=hX.trans hE;clear hE hg1;simp only[zz];refine aA (aB) ?_;simp only[zz];refine gT rfl cE nN rfl (by decide) rfl (jT.build0 (base:=g1) hB1 (Nat.le_refl _)) rfl (news:=xs.map kO) (by simp) (hS.ext hX).words (fun u hu=>by obtain ⟨x,_,rfl⟩:=List.mem_map.1 hu; rfl) (by omega) (by omega) (Nat.le_of_lt hB1.lt) ?_;intro v1 w9 hO hGr _;replace hX:=hX.grown hGr hG1;clear hB1 hGr;simp only[List.nil_append,Nat.zero_add] at hO;obtain ⟨A1,c1,rfl,hN⟩:=eC.of_owns hO rfl hS.digs (by omega);simp only[zz];refine aA (aD) ?_;simp only[zz];refine aC (hK5 _ _ ?_);refine wp_ret ?_;try simp only[Exit.inBlock,Exit.then]
  refine bU rfl rfl ?_;try simp only[zD,zE]
  exact ⟨_,rfl,hX,A1,c1,rfl,hN⟩
end Go.Proofs.YtimjandkmfcmiaaGreatDoor
namespace Go.Proofs.YtimjandkmfcmiaaGreatDoor
open Tryz
open Go.RowKit Go.Lith
set_option maxRecDepth 100000
attribute [local irreducible] wpList wpQuiet eS Code.wp
theorem xP {A : Option Addr} {xs : List Nat} {na cap : Nat} (w : World) (hS : eC w A na cap xs) : iL prog 96 [.slice A na cap] w (gZ (val 4294967296 xs)) :=
 (qM w hS).mono fun v w' hE h=>by subst h; exact gZ.of_trim (hS.ext hE) rfl
theorem Sl {A B : Option Addr} {xs ys : List Nat} {na nb ca cb d : Nat} (w : World) (hS : eC w A na ca xs) (hR : eC w B nb cb ys) (hl : ys.length + 1 ≤ xs.length) (hly : ys.length ≤ 1099511627776) (hdd : d < 4294967296) : iL prog 171 [.slice A na ca,.slice B nb cb,.int .u64 (d : Int)] w (fun v _=>v = .bool (decide (val 4294967296 (xs.take (ys.length + 1)) < val 4294967296 ys * d))):=by
 skip
 refine ⟨aas,?_⟩;have hX:=dL.refl w;obtain rfl:=hS.eq;obtain rfl:=hR.eq;have hle:=hS.le;have hcap:=hS.cap
 go_enter func171,ntmps171
 refine aF (fun K1 hK1=>wp_region_lit (aA (aD) ?_));simp only[zz];refine aC (hK1 _ _ ?_);refine aF (fun K2 hK2=>wp_region_lit (aA (aB) (aA (aB) (aA (bR rfl cE rfl) ?_))));simp only[zz];refine aA (bD rfl rfl (aQ (by omega) (by omega))) (aA (qV cE bJ rfl rfl (show _ = ys.length + 1 by omega) (by omega) (by omega)) ?_);simp only[zz];refine bS rfl rfl (Mz _ ((hS.ext hX).head hl)) ?_;rintro v w1 hE ⟨A1,c1,rfl,hN1⟩;replace hX:=hX.trans hE;clear hE;simp only[zz];refine bS rfl rfl (xP _ hN1) ?_;rintro v w2 hE ⟨A2,c2,rfl,hN2⟩;replace hX:=hX.trans hE;clear hE;simp only[zz];refine aA (aB) (aA (aB) ?_);simp only[zz];refine cH cE (z:=.int .u64 0) (by kernel_rfl) rfl (by simp only[zz]; rfl) (by rfl) ?_;intro w3 g1 hE hg1 hB1;have hG1:=Nat.le_trans hX.size hg1
 (try replace hN2:=hN2.ext hE); replace hX:=hX.trans hE
 clear hE hg1;simp only[zz];refine bS rfl rfl (xP _ (hB1.nat (os:=[d]) (rG hdd) rfl (by omega))) ?_;rintro v w4 hE ⟨A3,c3,rfl,hN3⟩
 (try replace hN2:=hN2.ext hE); replace hX:=hX.trans hE
 clear hE;simp only[zz];refine bS rfl rfl (Sk _ (hR.ext hX) hN3 hly (Nat.le_trans (oA (rG hdd)) (by simp))) ?_;rintro v w5 hE ⟨A4,c4,rfl,hN4⟩
 (try replace hN2:=hN2.ext hE); replace hX:=hX.trans hE
 clear hE;simp only[zz];refine bS rfl rfl (Si _ hN2 hN4 (iJ _) (iJ _)) ?_;rintro v w6 hE rfl;replace hX:=hX.trans hE;clear hE;simp only[zz];refine aA (eA rfl rfl) (aA (aD) ?_);simp only[zz];refine aC (hK2 _ _ ?_);refine wp_ret ?_;try simp only[Exit.inBlock,Exit.then]
 refine bU rfl rfl ?_;try simp only[zD,zE]
 exact ⟨_,rfl,hX,by rw [Rp]; simp only[dR,mQ]⟩
theorem Gu {B : Option Addr} {os ys : List Nat} {g0 off na nb cb d : Nat} (w : World) (hB0 : fW w g0 (os.map kO) 101) (hd : dD 4294967296 os) (hlo : os.length ≤ 1099511627776) (hR : eC w B nb cb ys) (hoff : off + (ys.length + 1) ≤ os.length) (hna : na = os.length - off) (hdd : d < 4294967296) (hge : val 4294967296 ys * d ≤ val 4294967296 ((os.drop off).take (ys.length + 1))) : Qr prog 172 [.slice (some ⟨g0,off,none⟩) na na,.slice B nb cb,.int .u64 (d : Int)] w g0 (fun _ w'=>fW w' g0 ((laid os off (ys.length + 1) (val 4294967296 ((os.drop off).take (ys.length + 1)) - val 4294967296 ys * d)).map kO) 101):=by
 skip
 refine ⟨aat,?_⟩;have hX:=dL.refl w;obtain rfl:=hR.eq;have hg0:=hB0.lt;have hS : eC w (some ⟨g0,off,none⟩) na na (os.drop off):=by
  have h:=(hB0.nat hd rfl (by omega)).drop (show off ≤ os.length by omega) hna;rw [fN,Nat.zero_add] at h;rwa [hna] at *
 have hle : ys.length + 1 ≤ (os.drop off).length:=by simp; omega
 obtain ⟨V,hV⟩ : ∃ V,V = val 4294967296 ((os.drop off).take (ys.length + 1)):=⟨_,rfl⟩
 rw [← hV] at hge ⊢
 go_enter func172,ntmps172
 refine aF (fun K1 hK1=>wp_region_lit (aA (aB) (aA (aB) (aA (bR rfl cE rfl) ?_))));simp only[zz];refine aA (bD rfl rfl (aQ (by omega) (by omega))) (aA (qV cE bJ rfl rfl (show _ = ys.length + 1 by omega) (by omega) (by omega)) ?_);simp only[zz];refine bS rfl rfl (Mz _ ((hS.ext hX).head hle)) ?_;rintro v w1 hE ⟨A1,c1,rfl,hN1⟩;replace hB0:=hB0.ext hE; replace hX:=hX.trans hE;clear hE;simp only[zz];refine aA (aB) (aA (aB) ?_);simp only[zz];refine cH cE (z:=.int .u64 0) (by kernel_rfl) rfl (by simp only[zz]; rfl) (by rfl) ?_;intro w2 g1 hE hg1 hB1;have hG1:=Nat.le_trans hX.size hg1; have hN1_0 : g1 ≠ g0:=Nat.ne_of_gt (Nat.lt_of_lt_of_le hB0.lt hg1);replace hB0:=hB0.ext hE; (try replace hN1:=hN1.ext hE); replace hX:=hX.trans hE;clear hE hg1;simp only[zz];refine bS rfl rfl (xP _ (hB1.nat (os:=[d]) (rG hdd) rfl (by omega))) ?_;rintro v w3 hE ⟨A3,c3,rfl,hN3⟩;replace hB0:=hB0.ext hE; (try replace hN1:=hN1.ext hE); replace hX:=hX.trans hE;clear hE;simp only[zz];refine bS rfl rfl (Sk _ (hR.ext hX) hN3 (by omega) (Nat.le_trans (oA (rG hdd)) (by simp))) ?_;rintro v w4 hE ⟨A4,c4,rfl,hN4⟩;replace hB0:=hB0.ext hE; (try replace hN1:=hN1.ext hE); replace hX:=hX.trans hE;clear hE;simp only[zz];have hsz:=hX.size;refine bS rfl rfl (Sj _ hN1 hN4 (by simp only[dR,mQ]; rw [List.length_take,Nat.min_eq_left hle]; exact yV hR.digs hdd) (by simp only[dR,mQ]; rw [← hV]; exact hge) (by rw [List.length_take]; omega)) ?_;rintro v w5 hE ⟨⟨A5,c5,rfl,hN5⟩,hne⟩;replace hB0:=hB0.ext hE; replace hX:=hX.trans hE;clear hE;replace hne : ∀ a,A5 = some a → a.block ≠ g0:=fun a e=>by subst e; have:=hne a _ _ rfl; omega
 simp only[dR,mQ,← hV] at hN5 ⊢;have hm : (digs 4294967296 (V - val 4294967296 ys * d)).length ≤ ys.length + 1:=eO (by omega) (Nat.lt_of_le_of_lt (Nat.sub_le _ _) (by have h:=jC ((hd.drop off).take (ys.length + 1)); rw [List.length_take,Nat.min_eq_left hle,← hV] at h; exact h));simp only[zz];refine aA (aD) ?_;simp only[zz];refine aC (hK1 _ _ ?_);refine aF (fun K2 hK2=>?_);replace hX:=hX.upd g0;have hG0 : w.heap.size ≤ g0 ∨ g0 = g0:=.inr rfl;refine wp_region_lit (aA (aB) (aA (aB) (aA (bR rfl cE rfl) ?_)));simp only[zz];refine aA (bD rfl rfl (aQ (by omega) (by omega))) (aA (qV cE bJ rfl rfl (show _ = ys.length + 1 by omega) (by omega) (by omega)) ?_);simp only[zz];refine Va (z:=.int .u64 0) rfl cE (by kernel_rfl) rfl rfl (by omega) hB0 (by simp; omega) rfl ?_;clear hB0; intro w6 hC hB0
 (try replace hN5:=hN5.chg hC (by first | assumption | rfl)); replace hX:=hX.chg hC hG0
 clear hC;refine aC (hK2 _ _ ?_);refine wp_region_lit (aA (aB) (aA (aB) ?_));simp only[zz];refine Vb rfl cE (by kernel_rfl) rfl rfl (g:=g0) (o:=off) (n:=na) (m:=(digs 4294967296 (V - val 4294967296 ys * d)).length) (us:=(digs 4294967296 (V - val 4294967296 ys * d)).map kO) (by rw [List.length_map]; exact (Nat.min_eq_left (by omega)).symm) hN5.src hB0 (by rw [Hz (by simp; omega)]; simp; omega) Rq ?_;clear hB0; intro w7 hC hB0;replace hX:=hX.chg hC hG0;clear hC;simp only[zz];refine aC ?_;try simp only[Exit.inBlock,Exit.then,if_true]
 exact abz rfl (⟨_,rfl,hX,by rw [← Oh hoff hm]; exact hB0⟩)
end Go.Proofs.YtimjandkmfcmiaaGreatDoor
namespace Go.Proofs.YtimjandkmfcmiaaGreatDoor
open Tryz
open Go.RowKit Go.Lith
set_option maxRecDepth 100000
attribute [local irreducible] wpList wpQuiet eS Code.wp
theorem Yf {A B : Option Addr} {xs ys : List Nat} {na nb ca cb : Nat} (w : World) (hS : eC w A na ca xs) (hR : eC w B nb cb ys) (tx : gC xs) (ty : gC ys) (h0 : 0 < val 4294967296 ys) (hlx : xs.length ≤ 1000000000000) (hly : ys.length ≤ 1000000000000) : iL prog 148 [.slice A na ca,.slice B nb cb] w (fun v w'=>∃ q r,v = .tuple #[q,r] ∧ gZ (val 4294967296 xs / val 4294967296 ys) q w' ∧ gZ (val 4294967296 xs % val 4294967296 ys) r w'):=by
 skip
 refine ⟨aaj,?_⟩;have hX:=dL.refl w;obtain rfl:=hS.eq;obtain rfl:=hR.eq
 go_enter func148,ntmps148
 refine aF (fun K1 hK1=>wp_region_lit (aA (aD) (aA (aD) ?_)));simp only[zz];refine aC (hK1 _ _ ?_);refine aF (fun K2 hK2=>aF (fun K3 hK3=>wp_region_lit (aA (aB) (aA (aB) ?_))));simp only[zz];refine bS rfl rfl (Si _ (hS.ext hX) (hR.ext hX) tx ty) ?_;rintro v w1 hE rfl;replace hX:=hX.trans hE;clear hE;simp only[zz];refine aA (eA rfl rfl) ?_;simp only[zz];refine aC (hK3 _ _ ?_);refine cQ rfl (fun hc1=>?_) (fun hc1=>?_)
 ·
  have hlt:=pG.1 hc1;refine aF (fun K4 hK4=>wp_region_lit (aA (aB) (aA (aD) (aA (aD) ?_))));simp only[zz];refine aC (hK4 _ _ ?_);refine wp_ret ?_;try simp only[Exit.inBlock,Exit.then]
  refine jL rfl rfl rfl ?_;try simp only[zD,zE]
  exact ⟨_,rfl,hX,_,_,rfl,by rw [Nat.div_eq_of_lt hlt]; exact gZ.zero _,by rw [Nat.mod_eq_of_lt hlt]; exact gZ.self (hS.ext hX) tx⟩
 ·
  have hYX : val 4294967296 ys ≤ val 4294967296 xs:=Nat.le_of_not_lt fun h=>hc1 (pG.2 h);refine wp_skip (hK2 _ _ ?_);refine aF (fun K5 hK5=>aF (fun K6 hK6=>wp_region_lit (aA (aB) (aA (bR rfl cE rfl) (aA (nA rfl rfl) ?_)))));simp only[zz];refine aC (hK6 _ _ ?_);refine cQ rfl (fun hc2=>?_) (fun hc2=>?_)
  ·
   refine aF (fun K7 hK7=>?_);obtain ⟨y,rfl⟩ : ∃ y,ys = [y]:=List.length_eq_one_iff.1 (by omega);obtain ⟨b,rfl,hcb,hyb⟩:=(hR.ext hX).get (i:=0) (by simp);simp only[List.getElem_cons_zero] at hcb hyb;refine wp_region_lit (aA (aB) (aA (aB) (aA (aU cE bJ rfl rfl (by decide) (by omega) rfl) ?_)));simp only[zz];refine aI rfl (lies1 hcb fM) ?_;simp only[zz];refine bS rfl rfl (Vp _ (hS.ext hX) (by omega) (by rw [mQ] at h0; exact h0) (by omega)) ?_;rintro v w2 hE ⟨q,rfl,A1,c1,rfl,hN1⟩;replace hX:=hX.trans hE;clear hE;simp only[zz];refine aA (aB) (aA (aT rfl rfl) (aA (aT rfl rfl) ?_));simp only[zz];refine aA (aD) (aA (aD) ?_);simp only[zz];refine aC (hK7 _ _ ?_);refine aF (fun K8 hK8=>wp_region_lit (aA (aB) (aA (aB) ?_)));simp only[zz];refine cH cE (z:=.int .u64 0) (by kernel_rfl) rfl (by simp only[zz]; rfl) (by rfl) ?_;intro w3 g1 hE hg1 hB1;have hG1:=Nat.le_trans hX.size hg1
   (try replace hN1:=hN1.ext hE); replace hX:=hX.trans hE
   clear hE hg1;simp only[zz];refine bS rfl rfl (xP _ (hB1.nat (os:=[val 4294967296 xs % y]) (rG (Nat.lt_of_lt_of_le (Nat.mod_lt _ (by rw [mQ] at h0; exact h0)) (by omega))) rfl (by omega))) ?_;rintro v w4 hE ⟨A2,c2,rfl,hN2⟩
   (try replace hN1:=hN1.ext hE); replace hX:=hX.trans hE
   clear hE;simp only[mQ] at hN2 ⊢;simp only[zz];refine aA (aD) (aA (aD) ?_);simp only[zz];refine aC (hK8 _ _ ?_);refine wp_ret ?_;try simp only[Exit.inBlock,Exit.then]
   refine jL rfl rfl rfl ?_;try simp only[zD,zE]
   exact ⟨_,rfl,hX,_,_,rfl,by rw [mQ]; exact ⟨A1,c1,rfl,hN1⟩,by rw [mQ]; exact ⟨A2,c2,rfl,hN2⟩⟩
  ·
   have hl2 : 2 ≤ ys.length:=by
    rcases ys with _ | ⟨y,ys⟩
    · exact absurd h0 (by simp [val])
    · simp only[List.length_cons] at hc2 ⊢; omega
   have hxy : ys.length ≤ xs.length:=by
    rcases Nat.lt_or_ge xs.length ys.length with h | h
    · have:=jV (B:=4294967296) (by omega) hS.digs hR.digs ty h; omega
    · exact h
   obtain ⟨b,rfl,_,hyb⟩:=hR.get (i:=ys.length - 1) (by omega);have htpy:=tA ty (by omega);refine wp_skip (hK5 _ _ ?_);refine aF (fun K9 hK9=>wp_region_lit (aA (aD) ?_));simp only[zz];refine aC (hK9 _ _ ?_);refine aF (fun K10 hK10=>wp_block ?_);refine dI [8] [39,40,41,42,43,44,45,46,47,48,49,50] (fun n vs wl=>∃ (sh : Nat),vs = [.int .i64 (sh:Int)] ∧ (dL w wl) ∧ (ys[ys.length - 1] * 2 ^ sh < 4294967296) ∧ (sh ≤ 31) ∧ (n = 32 - sh)) ?_ ?_
   ·
    apply Exists.intro;simp only[zQ,zR,zD,zE];exact ⟨0,rfl,hX,by simpa using hyb,by omega,rfl⟩
   ·
    intro n vs wr hI u;obtain ⟨sh,rfl,hX,hsh,hs31,hn⟩:=hI;simp only[zv,zF,zG];refine aF (fun K11 hK11=>aF (fun K12 hK12=>?_));have hcb:=(hR.ext hX).at (show ys.length - 1 < ys.length by omega);refine wp_region_lit (aA (aB) (aA (aB) (aA (bR rfl cE rfl) ?_)));simp only[zz];refine aA (dU rfl rfl (aQ (by omega) (by omega))) (aA (aU cE bJ rfl rfl (by omega) (by omega) (fT (show _ = ys.length - 1 by omega))) ?_);simp only[zz];refine aI rfl (lies1 hcb fM) ?_;simp only[zz];refine aA (aB) (aA (An rfl rfl (by omega) (sB (n:=sh) (by omega) (Ky (by omega) hyb))) (aA (mL rfl rfl (by omega) aaJ) ?_));simp only[zz];refine aA (nA rfl rfl) ?_;simp only[zz];refine aC (hK12 _ _ ?_);refine cQ rfl (fun hc3=>?_) (fun hc3=>?_)
    ·
     refine wp_skip ?_;refine hK11 _ _ (wp_block (wp_region_lit (aA (aB) (aA (bD rfl rfl (aQ (by omega) (by omega))) (aA (aD) ?_)))));simp only[zz];refine aC ?_;rw [show ((sh:Int) + 1) = ((sh + 1 : Nat) : Int) by omega];have hlt31 : ys[ys.length - 1] * 2 ^ sh < 2147483648:=by omega
     have hps : 2 ^ sh < 2 ^ 31:=Nat.lt_of_le_of_lt (Nat.le_mul_of_pos_left (2 ^ sh) htpy) hlt31;have hs30 : sh < 31:=(Nat.pow_lt_pow_iff_right (by omega)).1 hps;simp only[Exit.inBlock,Exit.then];refine ⟨32 - (sh + 1),_,?_,rfl,?_,?_⟩
     · omega
     · simp only[zz,zv]
     ·
      simp only[zQ,zR,zD,zE];exact ⟨sh + 1,rfl,hX,by rw [Nat.pow_succ,← Nat.mul_assoc]; omega,by omega,rfl⟩
    ·
     refine wp_exit ?_;refine hK10 _ _ (aF (fun K13 hK13=>wp_region_lit (aA (aB) (aA (aB) ?_))));simp only[zz];refine bS rfl rfl (My _ (hS.ext hX) (by omega) (by omega)) ?_;rintro v w2 hE ⟨g1,us,rfl,hg1,hB1,hlu,hdu,hvu⟩;have hG1:=Nat.le_trans hX.size hg1;replace hX:=hX.trans hE;clear hE hg1;simp only[zz];refine aA (aB) (aA (aB) ?_);simp only[zz];refine bS rfl rfl (My _ (hR.ext hX) (by omega) (by omega)) ?_;rintro v w3 hE ⟨g2,vs0,rfl,hg2,hB2,hlv,hdv,hvv⟩;have hG2:=Nat.le_trans hX.size hg2; have hN2_1 : g2 ≠ g1:=Nat.ne_of_gt (Nat.lt_of_lt_of_le hB1.lt hg2);replace hB1:=hB1.ext hE; replace hX:=hX.trans hE;clear hE hg2;rw [← hlv];simp only[zz];refine bS rfl rfl (qM _ (hB2.nat hdv rfl (by omega))) ?_;rintro v w4 hE rfl;replace hB1:=hB1.ext hE; replace hB2:=hB2.ext hE; replace hX:=hX.trans hE;clear hE;simp only[zz];refine aA (aD) (aA (aD) ?_);simp only[zz];refine aC ?_;obtain ⟨ds,hvs⟩ : ∃ ds,ds = trim vs0:=⟨_,rfl⟩
     rw [← hvs];have hlvs : ds.length = ys.length:=by rw [hvs]; exact Oi hdv hvv hR.digs (by omega) hsh htpy hs31
     have hdvs : dD 4294967296 ds:=by rw [hvs]; exact hdv.trim
     have hvvs : val 4294967296 ds = 2 ^ sh * val 4294967296 ys:=by rw [hvs,rC,hvv]
     obtain ⟨K,hK⟩ : ∃ K,K = xs.length + 1 - ds.length:=⟨_,rfl⟩
     refine hK13 _ _ ?_;refine aF (fun K14 hK14=>wp_region_lit (aA (aB) (aA (bR rfl cE rfl) (aA (aB) ?_))));simp only[zz];refine aA (bR rfl cE rfl) (aA (dU rfl rfl (aQ (by omega) (by omega))) ?_);simp only[zz];refine lP cE nN rfl rfl rfl (show _ = K by omega) (show _ = K by omega) (by omega) (by omega) (by omega) (by omega) ?_;intro w5 g3 hE hg3 hB3;have hG3:=Nat.le_trans hX.size hg3; have hN3_1 : g3 ≠ g1:=Nat.ne_of_gt (Nat.lt_of_lt_of_le hB1.lt hg3); have hN3_2 : g3 ≠ g2:=Nat.ne_of_gt (Nat.lt_of_lt_of_le hB2.lt hg3);replace hB1:=hB1.ext hE; replace hB2:=hB2.ext hE; replace hX:=hX.trans hE;clear hE hg3;simp only[zz];refine aA (aD) ?_;simp only[zz];refine aC ?_;rw [iF] at hB3;refine hK14 _ _ (aF (fun K15 hK15=>?_));have hNv:=pH hB2 hdv (by omega);rw [← hvs] at hNv;have hct:=hNv.at (show ds.length - 1 < ds.length by omega);have hcs:=hNv.at (show ds.length - 2 < ds.length by omega);rw [fN,Nat.zero_add] at hct hcs;refine gR aN (by kernel_rfl) (aS (aB) (aS (aB) (aS (bR rfl cE rfl) ?_)));simp only[zz];refine aS (dU rfl rfl (aQ (by omega) (by omega))) (aS (aU cE bJ rfl rfl (by omega) (by omega) (fK (show _ = ds.length - 1 by omega))) ?_);simp only[zz];refine gL rfl (fun _ hE'=>(lies1 (hE'.cell hct) fM)) ?_;simp only[zz];refine aS (aB) (aS (aB) (aS (bR rfl cE rfl) ?_));simp only[zz];refine aS (dU rfl rfl (aQ (by omega) (by omega))) (aS (aU cE bJ rfl rfl (by omega) (by omega) (fK (show _ = ds.length - 2 by omega))) ?_);simp only[zz];refine gL rfl (fun _ hE'=>(lies1 (hE'.cell hcs) fM)) ?_;simp only[zz];refine aS (aD) (aS (aD) ?_);simp only[zz];refine dW ?_;intro w6 hE;replace hB1:=hB1.ext hE; replace hB2:=hB2.ext hE; replace hB3:=hB3.ext hE; replace hX:=hX.trans hE;clear hE;have htv : 0 < ds[ds.length - 1]:=tA (by rw [hvs]; exact rY _) (by omega);obtain ⟨top,htop⟩ : ∃ top,top = ds[ds.length - 1]:=⟨_,rfl⟩
     obtain ⟨sec,hsec⟩ : ∃ sec,sec = ds[ds.length - 2]:=⟨_,rfl⟩
     have htB : top < 4294967296:=htop ▸ hdvs _ (List.getElem_mem _);have hsB : sec < 4294967296:=hsec ▸ hdvs _ (List.getElem_mem _);rw [← htop] at htv;rw [← htop,← hsec];refine hK15 _ _ (aF (fun K16 hK16=>aF (fun K17 hK17=>?_)));clear hNv hct hcs;refine wp_region_lit (aA (aB) (aA (bR rfl cE rfl) (aA (dU rfl rfl (aQ (by omega) (by omega))) ?_)));simp only[zz];refine aA (aD) ?_;simp only[zz];refine aC (hK17 _ _ ?_);refine wp_block (dI [14] [15,16,17,18,79,80,81,82,83,84,85,86,87,88,89,90,91,92,93,94,95,96,97,98,99,100,101,102,103,104,105,106,107,108,109,110,111,112,113,114,115,116,117,118,119,120,121,122,123,124,125,126,127,128,129,130,131,132,133,134,135,136,137,138,139,140,141,142,143,144,145,146] (fun n vs wl=>∃ (k : Nat) (us qs : List Nat),vs = [.int .i64 ((k:Int) - 1)] ∧ (dL w wl) ∧ (fW wl g1 (us.map kO) 101) ∧ (fW wl g2 (vs0.map kO) 101) ∧ (fW wl g3 (qs.map kO) 101) ∧ (k ≤ K) ∧ (us.length = xs.length + 1) ∧ (qs.length = K) ∧ (dD 4294967296 us) ∧ (dD 4294967296 qs) ∧ (val 4294967296 us + val 4294967296 qs * val 4294967296 ds = 2 ^ sh * val 4294967296 xs) ∧ (val 4294967296 (us.drop k) < val 4294967296 ds) ∧ (qs.take k = List.replicate k 0) ∧ (n = k)) ?_ ?_)
     ·
      apply Exists.intro;simp only[zQ,zR,zD,zE];exact ⟨K,us,List.replicate K 0,rfl,hX,hB1,hB2,hB3,Nat.le_refl _,hlu,by simp,hdu,fun x hx=>by rw [List.eq_of_mem_replicate hx]; decide,by rw [gH,Nat.zero_mul]; exact hvu,by rw [hK]; exact Rv hS.digs hlu hvu (by omega) (by omega) hs31 (by rw [hvvs,hlvs]; exact Oj (by omega) (by omega)),by rw [List.take_of_length_le (by simp)],rfl⟩
     ·
      intro n vs wr hI u;obtain ⟨k,us,qs,rfl,hX,hB1,hB2,hB3,hk,hlu,hlq,hdu,hdq,hI,hH,hz,hn⟩:=hI;simp only[zv,zF,zG];refine aF (fun K18 hK18=>aF (fun K19 hK19=>wp_region_lit (aA (aB) (aA (lC rfl rfl) ?_))));simp only[zz];refine aC (hK19 _ _ ?_);refine cQ rfl (fun hc4=>?_) (fun hc4=>?_)
      ·
       obtain ⟨i,rfl⟩ : ∃ i,k = i + 1:=⟨k - 1,by omega⟩
       rw [show (((i + 1 : Nat) : Int) - 1) = (i : Int) by omega];have hi : i + ds.length < us.length:=by omega
       refine wp_skip ?_;refine hK18 _ _ (aF (fun K20 hK20=>wp_block (aF (fun K21 hK21=>wp_region_lit (aA (aB) (aA (aB) (aA (bR rfl cE rfl) ?_)))))));simp only[zz];refine aA (bD rfl rfl (aQ (by omega) (by omega))) (aA (aD) ?_);simp only[zz];refine aC ?_;rw [show ((i:Int) + (ds.length:Int)) = ((i + ds.length : Nat) : Int) by omega];refine hK21 _ _ (aF (fun K22 hK22=>?_));have hco1:=hB1.word (show i + ds.length < us.length by omega);have hco2:=hB1.word (show i + ds.length - 1 < us.length by omega);have hb1 : us[i + ds.length] < 4294967296:=hdu _ (List.getElem_mem _);have hb2 : us[i + ds.length - 1] < 4294967296:=hdu _ (List.getElem_mem _);obtain ⟨a3,ha3⟩ : ∃ a3,a3 = us[i + ds.length - 2]:=⟨_,rfl⟩
       have hb3 : a3 < 4294967296:=ha3 ▸ hdu _ (List.getElem_mem _);obtain ⟨U,hU⟩ : ∃ U,U = val 4294967296 (us.drop i):=⟨_,rfl⟩
       refine gR aN (by kernel_rfl) (aS (aB) (aS (aB) (aS (aU cE bJ rfl rfl (by omega) (by omega) (fK (show _ = i + ds.length by omega))) ?_)));simp only[zz];refine gL rfl (fun _ hE'=>(lies1 (hE'.cell hco1) fM)) ?_;simp only[zz];refine aS (An rfl rfl (by omega) (sB (n:=32) (by omega) (by omega))) (aS (aB) (aS (aB) ?_));simp only[zz];refine aS (dU rfl rfl (aQ (by omega) (by omega))) (aS (aU cE bJ rfl rfl (by omega) (by omega) (fK (show _ = i + ds.length - 1 by omega))) ?_);simp only[zz];refine gL rfl (fun _ hE'=>(lies1 (hE'.cell hco2) fM)) ?_;simp only[zz];refine aS (Kl rfl rfl (zX (s:=32) (c:=us[i + ds.length]) (by omega) (by omega) (by omega))) (aS (aD) ?_);simp only[zz];refine dW ?_;intro w7 hE;replace hB1:=hB1.ext hE; replace hB2:=hB2.ext hE; replace hB3:=hB3.ext hE; replace hX:=hX.trans hE;clear hE;obtain ⟨two,htwo⟩ : ∃ two : Nat,two = us[i + ds.length - 1] + us[i + ds.length] * 4294967296:=⟨_,rfl⟩
       rw [← htwo];have ht64 : two < 18446744073709551616:=by omega
       obtain ⟨P,hP,f1,f2,f3,f4,f5,f6,f7⟩:=Ol hdu hdvs (by omega) hi hH htwo htop hsec ha3 hU;obtain ⟨q,hq⟩ : ∃ q,q = U / val 4294967296 ds:=⟨_,rfl⟩
       have hq1 : q * val 4294967296 ds ≤ U:=by rw [hq]; exact Nat.div_mul_le_self _ _
       have hV0 : 0 < val 4294967296 ds:=by omega
       have hq2 : U < (q + 1) * val 4294967296 ds:=by rw [← Nat.div_lt_iff_lt_mul hV0]; omega
       have hqB : q < 4294967296:=by rw [hq,Nat.div_lt_iff_lt_mul hV0]; exact f7
       refine hK22 _ _ ?_;refine aF (fun K23 hK23=>?_);refine gR aN (by kernel_rfl) (aS (aB) (aS (aB) (aS (oH rfl rfl (by omega) (zZ ht64)) ?_)));simp only[zz];refine aS (aB) (aS (aB) (aS (kD rfl rfl (by omega) kZ) ?_));simp only[zz];refine aS (aD) (aS (aD) ?_);simp only[zz];refine dW ?_;intro w8 hE;replace hB1:=hB1.ext hE; replace hB2:=hB2.ext hE; replace hB3:=hB3.ext hE; replace hX:=hX.trans hE;clear hE;refine hK23 _ _ (aF (fun K24 hK24=>wp_block ?_));refine dI [17,18] [104,105,106,107,108,109,110,111,112,113,114,115,116,117,118,119,120,121,122,123,124,125,126,127,128] (fun n vs wl=>∃ (gq rr : Nat),vs = [.int .u64 (gq:Int),.int .u64 (rr:Int)] ∧ (dL w wl) ∧ (fW wl g1 (us.map kO) 101) ∧ (fW wl g2 (vs0.map kO) 101) ∧ (fW wl g3 (qs.map kO) 101) ∧ (gq * top + rr = two) ∧ (q ≤ gq) ∧ (n = gq)) ?_ ?_
       ·
        apply Exists.intro;simp only[zQ,zR,zD,zE];exact ⟨two / top,two % top,rfl,hX,hB1,hB2,hB3,by rw [Nat.mul_comm]; exact Nat.div_add_mod two top,Rs (by omega) f1 f2 hq1 htv,rfl⟩
       ·
        intro n vs wr hI u;obtain ⟨gq,rr,rfl,hX,hB1,hB2,hB3,hgr,hqg,hn3⟩:=hI;simp only[zv,zF,zG];refine aF (fun K25 hK25=>aF (fun K26 hK26=>?_));have hco3:=hB1.word (show i + ds.length - 2 < us.length by omega);rw [← ha3] at hco3;have hgt : gq ≤ two:=Nat.le_trans (Nat.le_mul_of_pos_right gq htv) (by omega);rcases (show 4294967295 < gq ∨ (gq ≤ 4294967295 ∧ 4294967295 < rr) ∨ (gq ≤ 4294967295 ∧ rr ≤ 4294967295) by omega) with hga | ⟨hga,hrr⟩ | ⟨hga,hrr⟩
        ·
         have hqg2 : q < gq:=by omega
         have hco3:=hB1.word (show i + ds.length - 2 < us.length by omega);rw [← ha3] at hco3;have hgt : gq ≤ two:=Nat.le_trans (Nat.le_mul_of_pos_right gq htv) (by omega);refine wp_region_lit (aA (aB) (aA (kT rfl rfl (by omega)) (aA (aB) ?_)));simp only[zz];refine bG rfl ?_;simp only[zz];refine bG rfl ?_;simp only[zz];refine bG rfl ?_;simp only[zz];refine dM rfl ?_;simp only[zz];refine dM rfl ?_;simp only[zz];refine dM rfl ?_;simp only[zz];refine dM rfl ?_;simp only[zz];refine dM rfl ?_;simp only[zz];refine dM rfl ?_;simp only[zz];refine dM rfl ?_;simp only[zz];refine dM rfl ?_;simp only[zz];refine dM rfl ?_;simp only[zz];refine dM rfl ?_;simp only[zz];refine dM rfl ?_;simp only[zz];refine dM rfl ?_;simp only[zz];refine bG rfl ?_;simp only[zz];refine aA (cG rfl) ?_;simp only[zz];refine aC (hK26 _ _ ?_);refine bX rfl (wp_skip ?_);refine hK25 _ _ (wp_block (aF (fun K27 hK27=>wp_region_lit (aA (aB) (aA (dU rfl rfl (fX (by omega) (by omega))) (aA (aD) ?_))))));simp only[zz];refine aC (hK27 _ _ ?_);have hgt2 : rr + top ≤ two:=by have:=Nat.le_mul_of_pos_left top (show 0 < gq by omega); omega
         refine wp_region_lit (aA (aB) (aA (aB) (aA (bD rfl rfl (fX (by omega) (by omega))) ?_)));simp only[zz];refine aA (aD) ?_;simp only[zz];refine aC ?_;obtain ⟨g9,rfl⟩ : ∃ g9,gq = g9 + 1:=⟨gq - 1,by omega⟩
         rw [show (((g9 + 1 : Nat) : Int) - 1) = (g9 : Int) by omega,show ((rr:Int) + (top:Int)) = ((rr + top : Nat) : Int) by omega];simp only[Exit.inBlock,Exit.then];refine ⟨g9,_,?_,rfl,?_,?_⟩
         · omega
         · simp only[zz,zv]
         ·
          simp only[zQ,zR,zD,zE];exact ⟨g9,rr + top,rfl,hX,hB1,hB2,hB3,by rw [Nat.add_mul,Nat.one_mul] at hgr; omega,by omega,rfl⟩
        ·
         have hx : gq * sec ≤ a3 + rr * 4294967296:=Rx (by omega) hsB (by omega);have hco3:=hB1.word (show i + ds.length - 2 < us.length by omega);rw [← ha3] at hco3;have hgt : gq ≤ two:=Nat.le_trans (Nat.le_mul_of_pos_right gq htv) (by omega);refine wp_region_lit (aA (aB) (aA (jZ rfl rfl (by omega)) (aA (aB) ?_)));simp only[zz];refine aP rfl (aA (aB) ?_);simp only[zz];refine aP rfl (aA (As rfl rfl (by omega)) ?_);simp only[zz];refine aP rfl (aA (aB) ?_);simp only[zz];refine bM rfl ?_;simp only[zz];refine bM rfl ?_;simp only[zz];refine bM rfl ?_;simp only[zz];refine bM rfl ?_;simp only[zz];refine bM rfl ?_;simp only[zz];refine bM rfl ?_;simp only[zz];refine bM rfl ?_;simp only[zz];refine bM rfl ?_;simp only[zz];refine bM rfl ?_;simp only[zz];refine bM rfl ?_;simp only[zz];refine bM rfl ?_;simp only[zz];refine bM rfl ?_;simp only[zz];refine aP rfl (aA (cO rfl) (aA (cO rfl) ?_));simp only[zz];refine aC (hK26 _ _ ?_);refine eQ rfl (wp_exit ?_);refine hK24 _ _ (aF (fun K28 hK28=>aF (fun K29 hK29=>?_)));have hNv:=pH hB2 hdv (by omega);rw [← hvs] at hNv;have hNu:=(hB1.nat hdu rfl (by omega)).drop (show i ≤ us.length by omega) rfl;rw [fN,Nat.zero_add,hlu] at hNu;have hU2 : val 4294967296 ((us.drop i).take (ds.length + 1)) = U:=by rw [← wD hdvs (by omega) hH,hU]
         have hgl : gq ≤ q + 1:=Ir f4 f6 hq2 (Bb hgr hx) (by omega);obtain ⟨ge1,ge2⟩:=Eh hq1 hq2 hqg hgl;refine wp_region_lit (aA (aB) (aA (aB) (aA (oS cE bJ rfl rfl (Int.toNat_natCast _) (by omega) (by omega) (tZ (by omega))) ?_)));simp only[zz];refine aA (aB) (aA (aB) ?_);simp only[zz];refine bS rfl rfl (Sl _ hNu hNv (by simp; omega) (by omega) (by omega)) ?_;rintro v w9 hE rfl;replace hB1:=hB1.ext hE; replace hB2:=hB2.ext hE; replace hB3:=hB3.ext hE; replace hX:=hX.trans hE;clear hE;simp only[zz];refine aC (hK29 _ _ ?_);refine cQ rfl (fun hc6=>?_) (fun hc6=>?_)
         ·
          have hg1 : 0 < gq:=by
           rcases Nat.eq_zero_or_pos gq with h | h
           · rw [h,Nat.mul_zero] at hc6; exact absurd hc6 (Nat.not_lt_zero _)
           · exact h
          have hgq:=ge1 (by rw [← hU2]; exact hc6);refine wp_region_lit (aA (aB) (aA (dU rfl rfl (fX (by omega) (by omega))) (aA (aD) ?_)));simp only[zz];refine aC ?_;rw [show ((gq:Int) - 1) = (q:Int) by omega];refine hK28 _ _ (aF (fun K30 hK30=>?_));clear hNv hNu;have hNv:=pH hB2 hdv (by omega);rw [← hvs] at hNv;refine wp_region_lit (aA (aB) (aA (aB) (aA (oS cE bJ rfl rfl (Int.toNat_natCast _) (by omega) (by omega) (tZ (by omega))) ?_)));simp only[zz];refine aA (aB) (aA (aB) ?_);simp only[zz];refine vS rfl rfl (Gu _ hB1 hdu (by omega) hNv (by omega) (by omega) hqB (by rw [hU2,Nat.mul_comm]; exact hq1)) ?_;clear hB1;rintro v w10 hU hB1;replace hB2:=hB2.upd hU (by first | exact hN2_1 | exact Ne.symm hN1_2); replace hB3:=hB3.upd hU (by first | exact hN3_1 | exact Ne.symm hN1_3); replace hX:=hX.grownUpd hU hG1;clear hU;simp only[zz];refine aC (hK30 _ _ ?_);clear hNv;refine wp_region_lit (aA (aB) (aA (aB) (aA (aB) ?_)));simp only[zz];refine aA (aU cE bJ rfl rfl (by omega) (by omega) (fK (Int.toNat_natCast _))) ?_;simp only[zz];refine cC rfl (by simp only[zz]; rfl) (by exact bJ) hB3 (by simp; omega) (by simp [Value.oneCell']) ?_;clear hB3; intro w11 hC hB3;replace hB1:=hB1.chg hC (by first | exact hN1_3 | exact Ne.symm hN3_1); replace hB2:=hB2.chg hC (by first | exact hN2_3 | exact Ne.symm hN3_2); replace hX:=hX.chg hC hG3;clear hC;rw [gN (by omega)] at hB3;refine aC (hK20 _ _ ?_);refine wp_region_lit (aA (aB) (aA (dU rfl rfl (aQ (by omega) (by omega))) (aA (aD) ?_)));simp only[zz];refine aC ?_;obtain ⟨r1,r2,r3,r4⟩:=uA hdvs hdu hi hH hU hq1 hq2 hI hz (by omega);simp only[Exit.inBlock,Exit.then];refine ⟨i,_,?_,rfl,?_,?_⟩
          · omega
          · simp only[zz,zv]
          ·
           simp only[zQ,zR,zD,zE];exact ⟨i,laid us i (ds.length + 1) (val 4294967296 ((us.drop i).take (ds.length + 1)) - val 4294967296 ds * q),qs.set i q,rfl,hX,hB1,hB2,hB3,by omega,by rw [r4]; exact hlu,by simpa using hlq,tY hdu,hdq.set hqB,r1,r2,r3,rfl⟩
         ·
          have hgq:=ge2 (by rw [← hU2]; exact hc6);rw [show (gq:Int) = (q:Int) by omega];refine wp_skip (hK28 _ _ ?_);refine aF (fun K31 hK31=>?_);clear hNv hNu;have hNv:=pH hB2 hdv (by omega);rw [← hvs] at hNv;refine wp_region_lit (aA (aB) (aA (aB) (aA (oS cE bJ rfl rfl (Int.toNat_natCast _) (by omega) (by omega) (tZ (by omega))) ?_)));simp only[zz];refine aA (aB) (aA (aB) ?_);simp only[zz];refine vS rfl rfl (Gu _ hB1 hdu (by omega) hNv (by omega) (by omega) hqB (by rw [hU2,Nat.mul_comm]; exact hq1)) ?_;clear hB1;rintro v w10 hU hB1;replace hB2:=hB2.upd hU (by first | exact hN2_1 | exact Ne.symm hN1_2); replace hB3:=hB3.upd hU (by first | exact hN3_1 | exact Ne.symm hN1_3); replace hX:=hX.grownUpd hU hG1;clear hU;simp only[zz];refine aC (hK31 _ _ ?_);clear hNv;refine wp_region_lit (aA (aB) (aA (aB) (aA (aB) ?_)));simp only[zz];refine aA (aU cE bJ rfl rfl (by omega) (by omega) (fK (Int.toNat_natCast _))) ?_;simp only[zz];refine cC rfl (by simp only[zz]; rfl) (by exact bJ) hB3 (by simp; omega) (by simp [Value.oneCell']) ?_;clear hB3; intro w11 hC hB3;replace hB1:=hB1.chg hC (by first | exact hN1_3 | exact Ne.symm hN3_1); replace hB2:=hB2.chg hC (by first | exact hN2_3 | exact Ne.symm hN3_2); replace hX:=hX.chg hC hG3;clear hC;rw [gN (by omega)] at hB3;refine aC (hK20 _ _ ?_);refine wp_region_lit (aA (aB) (aA (dU rfl rfl (aQ (by omega) (by omega))) (aA (aD) ?_)));simp only[zz];refine aC ?_;obtain ⟨r1,r2,r3,r4⟩:=uA hdvs hdu hi hH hU hq1 hq2 hI hz (by omega);simp only[Exit.inBlock,Exit.then];refine ⟨i,_,?_,rfl,?_,?_⟩
          · omega
          · simp only[zz,zv]
          ·
           simp only[zQ,zR,zD,zE];exact ⟨i,laid us i (ds.length + 1) (val 4294967296 ((us.drop i).take (ds.length + 1)) - val 4294967296 ds * q),qs.set i q,rfl,hX,hB1,hB2,hB3,by omega,by rw [r4]; exact hlu,by simpa using hlq,tY hdu,hdq.set hqB,r1,r2,r3,rfl⟩
        ·
         have hco3:=hB1.word (show i + ds.length - 2 < us.length by omega);rw [← ha3] at hco3;have hgt : gq ≤ two:=Nat.le_trans (Nat.le_mul_of_pos_right gq htv) (by omega);refine wp_region_lit (aA (aB) (aA (jZ rfl rfl (by omega)) (aA (aB) ?_)));simp only[zz];refine aP rfl (aA (aB) ?_);simp only[zz];refine aP rfl (aA (Kn rfl rfl (by omega)) ?_);simp only[zz];refine aP rfl (aA (aB) ?_);simp only[zz];refine aP rfl (aA (aB) ?_);simp only[zz];refine aP rfl (aA (aB) ?_);simp only[zz];refine aP rfl (aA (lB rfl rfl (Vl (Nat.lt_of_le_of_lt (Rn (by omega) hsB) (by decide)))) ?_);simp only[zz];refine aP rfl (aA (aB) ?_);simp only[zz];refine aP rfl (aA (An rfl rfl (by omega) (sB (n:=32) (by omega) (by omega))) ?_);simp only[zz];refine aP rfl (aA (aB) ?_);simp only[zz];refine aP rfl (aA (aB) ?_);simp only[zz];refine aP rfl (aA (dU rfl rfl (aQ (by omega) (by omega))) ?_);simp only[zz];refine aP rfl (aA (aU cE bJ rfl rfl (by omega) (by omega) (fK (show _ = i + ds.length - 2 by omega))) ?_);simp only[zz];refine aP rfl (aI rfl (lies1 hco3 fM) ?_);simp only[zz];refine aP rfl (aA (Kl rfl rfl (zX (s:=32) (c:=rr) (by omega) (by omega) (by omega))) ?_);simp only[zz];refine aP rfl (aA (gS rfl rfl) ?_);simp only[zz];refine aP rfl (aA (cG rfl) (aA (cO rfl) ?_));simp only[zz];refine aC (hK26 _ _ ?_);refine cQ rfl (fun hc5=>?_) (fun hc5=>?_)
         ·
          have hqg2 : q < gq:=Rt hP f3 f5 hq1 (Kz hgr (by omega));refine wp_skip (hK25 _ _ ?_);refine wp_block (aF (fun K32 hK32=>wp_region_lit (aA (aB) (aA (dU rfl rfl (fX (by omega) (by omega))) (aA (aD) ?_)))));simp only[zz];refine aC (hK32 _ _ ?_);have hgt2 : rr + top ≤ two:=by have:=Nat.le_mul_of_pos_left top (show 0 < gq by omega); omega
          refine wp_region_lit (aA (aB) (aA (aB) (aA (bD rfl rfl (fX (by omega) (by omega))) ?_)));simp only[zz];refine aA (aD) ?_;simp only[zz];refine aC ?_;obtain ⟨g9,rfl⟩ : ∃ g9,gq = g9 + 1:=⟨gq - 1,by omega⟩
          rw [show (((g9 + 1 : Nat) : Int) - 1) = (g9 : Int) by omega,show ((rr:Int) + (top:Int)) = ((rr + top : Nat) : Int) by omega];simp only[Exit.inBlock,Exit.then];refine ⟨g9,_,?_,rfl,?_,?_⟩
          · omega
          · simp only[zz,zv]
          ·
           simp only[zQ,zR,zD,zE];exact ⟨g9,rr + top,rfl,hX,hB1,hB2,hB3,by rw [Nat.add_mul,Nat.one_mul] at hgr; omega,by omega,rfl⟩
         ·
          have hx : gq * sec ≤ a3 + rr * 4294967296:=by omega
          refine wp_exit ?_;refine hK24 _ _ (aF (fun K33 hK33=>aF (fun K34 hK34=>?_)));have hNv:=pH hB2 hdv (by omega);rw [← hvs] at hNv;have hNu:=(hB1.nat hdu rfl (by omega)).drop (show i ≤ us.length by omega) rfl;rw [fN,Nat.zero_add,hlu] at hNu;have hU2 : val 4294967296 ((us.drop i).take (ds.length + 1)) = U:=by rw [← wD hdvs (by omega) hH,hU]
          have hgl : gq ≤ q + 1:=Ir f4 f6 hq2 (Bb hgr hx) (by omega);obtain ⟨ge1,ge2⟩:=Eh hq1 hq2 hqg hgl;refine wp_region_lit (aA (aB) (aA (aB) (aA (oS cE bJ rfl rfl (Int.toNat_natCast _) (by omega) (by omega) (tZ (by omega))) ?_)));simp only[zz];refine aA (aB) (aA (aB) ?_);simp only[zz];refine bS rfl rfl (Sl _ hNu hNv (by simp; omega) (by omega) (by omega)) ?_;rintro v w9 hE rfl;replace hB1:=hB1.ext hE; replace hB2:=hB2.ext hE; replace hB3:=hB3.ext hE; replace hX:=hX.trans hE;clear hE;simp only[zz];refine aC (hK34 _ _ ?_);refine cQ rfl (fun hc6=>?_) (fun hc6=>?_)
          ·
           have hg1 : 0 < gq:=by
            rcases Nat.eq_zero_or_pos gq with h | h
            · rw [h,Nat.mul_zero] at hc6; exact absurd hc6 (Nat.not_lt_zero _)
            · exact h
           have hgq:=ge1 (by rw [← hU2]; exact hc6);refine wp_region_lit (aA (aB) (aA (dU rfl rfl (fX (by omega) (by omega))) (aA (aD) ?_)));simp only[zz];refine aC ?_;rw [show ((gq:Int) - 1) = (q:Int) by omega];refine hK33 _ _ (aF (fun K35 hK35=>?_));clear hNv hNu;have hNv:=pH hB2 hdv (by omega);rw [← hvs] at hNv;refine wp_region_lit (aA (aB) (aA (aB) (aA (oS cE bJ rfl rfl (Int.toNat_natCast _) (by omega) (by omega) (tZ (by omega))) ?_)));simp only[zz];refine aA (aB) (aA (aB) ?_);simp only[zz];refine vS rfl rfl (Gu _ hB1 hdu (by omega) hNv (by omega) (by omega) hqB (by rw [hU2,Nat.mul_comm]; exact hq1)) ?_;clear hB1;rintro v w10 hU hB1;replace hB2:=hB2.upd hU (by first | exact hN2_1 | exact Ne.symm hN1_2); replace hB3:=hB3.upd hU (by first | exact hN3_1 | exact Ne.symm hN1_3); replace hX:=hX.grownUpd hU hG1;clear hU;simp only[zz];refine aC (hK35 _ _ ?_);clear hNv;refine wp_region_lit (aA (aB) (aA (aB) (aA (aB) ?_)));simp only[zz];refine aA (aU cE bJ rfl rfl (by omega) (by omega) (fK (Int.toNat_natCast _))) ?_;simp only[zz];refine cC rfl (by simp only[zz]; rfl) (by exact bJ) hB3 (by simp; omega) (by simp [Value.oneCell']) ?_;clear hB3; intro w11 hC hB3;replace hB1:=hB1.chg hC (by first | exact hN1_3 | exact Ne.symm hN3_1); replace hB2:=hB2.chg hC (by first | exact hN2_3 | exact Ne.symm hN3_2); replace hX:=hX.chg hC hG3;clear hC;rw [gN (by omega)] at hB3;refine aC (hK20 _ _ ?_);refine wp_region_lit (aA (aB) (aA (dU rfl rfl (aQ (by omega) (by omega))) (aA (aD) ?_)));simp only[zz];refine aC ?_;obtain ⟨r1,r2,r3,r4⟩:=uA hdvs hdu hi hH hU hq1 hq2 hI hz (by omega);simp only[Exit.inBlock,Exit.then];refine ⟨i,_,?_,rfl,?_,?_⟩
           · omega
           · simp only[zz,zv]
           ·
            simp only[zQ,zR,zD,zE];exact ⟨i,laid us i (ds.length + 1) (val 4294967296 ((us.drop i).take (ds.length + 1)) - val 4294967296 ds * q),qs.set i q,rfl,hX,hB1,hB2,hB3,by omega,by rw [r4]; exact hlu,by simpa using hlq,tY hdu,hdq.set hqB,r1,r2,r3,rfl⟩
          ·
           have hgq:=ge2 (by rw [← hU2]; exact hc6);rw [show (gq:Int) = (q:Int) by omega];refine wp_skip (hK33 _ _ ?_);refine aF (fun K36 hK36=>?_);clear hNv hNu;have hNv:=pH hB2 hdv (by omega);rw [← hvs] at hNv;refine wp_region_lit (aA (aB) (aA (aB) (aA (oS cE bJ rfl rfl (Int.toNat_natCast _) (by omega) (by omega) (tZ (by omega))) ?_)));simp only[zz];refine aA (aB) (aA (aB) ?_);simp only[zz];refine vS rfl rfl (Gu _ hB1 hdu (by omega) hNv (by omega) (by omega) hqB (by rw [hU2,Nat.mul_comm]; exact hq1)) ?_;clear hB1;rintro v w10 hU hB1;replace hB2:=hB2.upd hU (by first | exact hN2_1 | exact Ne.symm hN1_2); replace hB3:=hB3.upd hU (by first | exact hN3_1 | exact Ne.symm hN1_3); replace hX:=hX.grownUpd hU hG1;clear hU;simp only[zz];refine aC (hK36 _ _ ?_);clear hNv;refine wp_region_lit (aA (aB) (aA (aB) (aA (aB) ?_)));simp only[zz];refine aA (aU cE bJ rfl rfl (by omega) (by omega) (fK (Int.toNat_natCast _))) ?_;simp only[zz];refine cC rfl (by simp only[zz]; rfl) (by exact bJ) hB3 (by simp; omega) (by simp [Value.oneCell']) ?_;clear hB3; intro w11 hC hB3;replace hB1:=hB1.chg hC (by first | exact hN1_3 | exact Ne.symm hN3_1); replace hB2:=hB2.chg hC (by first | exact hN2_3 | exact Ne.symm hN3_2); replace hX:=hX.chg hC hG3;clear hC;rw [gN (by omega)] at hB3;refine aC (hK20 _ _ ?_);refine wp_region_lit (aA (aB) (aA (dU rfl rfl (aQ (by omega) (by omega))) (aA (aD) ?_)));simp only[zz];refine aC ?_;obtain ⟨r1,r2,r3,r4⟩:=uA hdvs hdu hi hH hU hq1 hq2 hI hz (by omega);simp only[Exit.inBlock,Exit.then];refine ⟨i,_,?_,rfl,?_,?_⟩
           · omega
           · simp only[zz,zv]
           ·
            simp only[zQ,zR,zD,zE];exact ⟨i,laid us i (ds.length + 1) (val 4294967296 ((us.drop i).take (ds.length + 1)) - val 4294967296 ds * q),qs.set i q,rfl,hX,hB1,hB2,hB3,by omega,by rw [r4]; exact hlu,by simpa using hlq,tY hdu,hdq.set hqB,r1,r2,r3,rfl⟩
      ·
       obtain rfl : k = 0:=by omega
       rw [List.drop_zero] at hH;obtain ⟨dq,dr⟩:=Rw (X:=val 4294967296 xs) (Y:=val 4294967296 ys) (p:=2 ^ sh) (u:=val 4294967296 us) (q:=val 4294967296 qs) (Nat.pow_pos (by omega)) (by rw [← hvvs]; exact hI) (by rw [← hvvs]; exact hH);refine wp_exit (hK16 _ _ ?_);refine aF (fun K37 hK37=>wp_region_lit (aA (aB) ?_));simp only[zz];refine bS rfl rfl (xP _ (hB3.nat hdq (by omega) (by omega))) ?_;rintro v w7 hE ⟨A5,c5,rfl,hN5⟩;replace hB1:=hB1.ext hE; replace hX:=hX.trans hE;clear hE;simp only[zz];refine aA (aB) ?_;simp only[zz];refine bS rfl rfl (xP _ (hB1.nat hdu (by omega) (by omega))) ?_;rintro v w8 hE ⟨A6,c6,rfl,hN6⟩
       (try replace hN5:=hN5.ext hE); replace hX:=hX.trans hE
       clear hE;simp only[zz];refine aA (aB) ?_;simp only[zz];refine bS rfl rfl (Pb _ hN6 (Nat.le_trans (oA hdu) (by omega)) hs31) ?_;rintro v w9 hE ⟨A7,c7,rfl,hN7⟩
       (try replace hN5:=hN5.ext hE); replace hX:=hX.trans hE
       clear hE;simp only[zz];refine aA (aD) (aA (aD) ?_);simp only[zz];refine aC (hK37 _ _ ?_);refine wp_ret ?_;try simp only[Exit.inBlock,Exit.then]
       refine jL rfl rfl rfl ?_;try simp only[zD,zE]
       exact ⟨_,rfl,hX,_,_,rfl,by rw [← dq]; exact ⟨A5,c5,rfl,hN5⟩,by rw [← dr]; simp only[dR] at hN7 ⊢; exact ⟨A7,c7,rfl,hN7⟩⟩
end Go.Proofs.YtimjandkmfcmiaaGreatDoor
namespace Go.Proofs.YtimjandkmfcmiaaGreatDoor
open Tryz
open Go.RowKit Go.Lith
set_option maxRecDepth 100000
attribute [local irreducible] wpList wpQuiet eS Code.wp
theorem uR {neg : Bool} {s : ByteArray} (w : World) (hs : s.size ≤ 1000000000000) : iL prog 57 [.agg #[.bool neg,.string s]] w (gZ (Vm s)):=by
 skip
 refine ⟨acb,?_⟩;have hX:=dL.refl w
 go_enter func57,ntmps57
 refine aF (fun K1 hK1=>wp_region_lit ?_);refine gK (by simp only[zz]; rfl) ?_;intro w1 g1 hE hg1 hB1;have hG1:=Nat.le_trans hX.size hg1;replace hX:=hX.trans hE;clear hE hg1;simp only[zz];refine aA (aD) ?_;simp only[zz];refine aC (hK1 _ _ ?_);refine aF (fun K2 hK2=>wp_region_lit (aA (aH (c:=0) gU rfl pU rfl rfl) ?_));simp only[zz];refine aI rfl (hB1.lies1 vU rfl) ?_;simp only[zz];refine aA (oX rfl mH rfl) (aA (bD rfl rfl (aQ (by omega) (by omega))) (aA (dU rfl rfl (aQ (by omega) (by omega))) ?_));simp only[zz];rw [show ((s.size : Int) + 4 - 1) = ((s.size + 3 : Nat) : Int) by omega];refine aA (oH rfl rfl (by omega) (mR (n:=4) (by omega))) ?_;simp only[zz];obtain ⟨K,hK⟩ : ∃ K,K = (s.size + 3) / 4:=⟨_,rfl⟩
 rw [← hK];refine lP cE nN rfl rfl rfl (show _ = K by omega) (show _ = K by omega) (by omega) (by omega) (by omega) (by omega) ?_;intro w2 g2 hE hg2 hB2;have hG2:=Nat.le_trans hX.size hg2; have hN2_1 : g2 ≠ g1:=Nat.ne_of_gt (Nat.lt_of_lt_of_le hB1.lt hg2);replace hB1:=hB1.ext hE; replace hX:=hX.trans hE;clear hE hg2;simp only[zz];refine aA (aD) ?_;simp only[zz];refine aC ?_;rw [iF] at hB2;refine hK2 _ _ (aF (fun K3 hK3=>aF (fun K4 hK4=>wp_region_lit (aA (aH (c:=0) gU rfl pU rfl rfl) ?_))));simp only[zz];refine aI rfl (hB1.lies1 vU rfl) ?_;simp only[zz];refine aA (oX rfl mH rfl) (aA (aB) ?_);simp only[zz];refine aC (hK4 _ _ ?_);refine wp_block (dI [16] [4,5,17,18,19,20,21,22,23,24,25,26,27,28,29,30,31,32,33,34,35,36,37,38,39,40,41] (fun n vs wl=>∃ (i : Nat) (os : List Nat),vs = [.int .i64 (i:Int)] ∧ (dL w wl) ∧ (fW wl g1 [.bool neg,.string s] 35) ∧ (fW wl g2 (os.map kO) 101) ∧ (i ≤ s.size) ∧ (os.length = K) ∧ (dD 4294967296 os) ∧ (∀ (j : Nat) (h : j < os.length),256 ^ (s.size - i - 4 * j) ∣ os[j]) ∧ (val 4294967296 os = 256 ^ (s.size - i) * val 256 ((lX s).drop (s.size - i))) ∧ (n = s.size - i)) ?_ ?_)
 ·
  apply Exists.intro;simp only[zQ,zR,zD,zE];exact ⟨0,List.replicate K 0,rfl,hX,hB1,hB2,by omega,by simp,fun x hx=>by rw [List.eq_of_mem_replicate hx]; decide,fun j h=>by rw [List.getElem_replicate]; exact Nat.dvd_zero _,by rw [gH,Rz (by rw [qK]; omega),Nat.mul_zero],rfl⟩
 ·
  intro n vs wr hI u;obtain ⟨i,os,rfl,hX,hB1,hB2,hi,hlo,hd,hdv,hv,hn⟩:=hI;simp only[zv,zF,zG];refine aF (fun K5 hK5=>wp_region_lit (aA (eA rfl rfl) ?_));simp only[zz];refine aC (hK5 _ _ ?_);refine aF (fun K6 hK6=>?_);refine cQ rfl (fun hc1=>?_) (fun hc1=>?_)
  ·
   refine wp_skip ?_;refine hK6 _ _ (aF (fun K7 hK7=>wp_block (aF (fun K8 hK8=>wp_region_lit (aA (aB) (aA (aD) ?_))))));simp only[zz];refine aC (hK8 _ _ ?_);refine aF (fun K9 hK9=>wp_region_lit (aA (aH (c:=0) gU rfl pU rfl rfl) ?_));simp only[zz];refine aI rfl (hB1.lies1 vU rfl) ?_;simp only[zz];refine aA (oX rfl mH rfl) (aA (dU rfl rfl (aQ (by omega) (by omega))) (aA (aB) ?_));simp only[zz];refine aA (dU rfl rfl (aQ (by omega) (by omega))) (aA (aD) ?_);simp only[zz];refine aC ?_;obtain ⟨p,hp⟩ : ∃ p,p + 1 + i = s.size:=⟨s.size - 1 - i,by omega⟩
   rw [show ((s.size : Int) - 1 - (i : Int)) = (p : Int) by omega];refine hK9 _ _ ?_;obtain ⟨b,hb,hpl,hbp⟩:=vB hp;have hco:=hB2.word (show p / 4 < os.length by omega);obtain ⟨f1,f2,f3,f4⟩:=Om (r:=p % 4) (j:=p / 4) hpl (by omega) (by omega) (by omega) hd (yJ s) (by rw [show p + 1 = s.size - i by omega]; exact hdv) (by rw [show p + 1 = s.size - i by omega]; exact hv);rw [hbp,Bc] at f1 f3 f4;have hb256 : b.toNat < 256:=b.toNat_lt;have f5 : b.toNat * 2 ^ (8 * (p % 4)) < 2 ^ (8 * (p % 4 + 1)):=by
    rw [show 8 * (p % 4 + 1) = 8 + 8 * (p % 4) by omega,Nat.pow_add];exact Nat.mul_lt_mul_of_pos_right hb256 (Nat.pow_pos (by omega))
   obtain ⟨c,f6⟩ : ∃ c,os[p / 4] = 2 ^ (8 * (p % 4 + 1)) * c:=by
    obtain ⟨c,hc⟩:=f2;exact ⟨c,by rw [hc,Bc]⟩
   refine iW 16 aN (by kernel_rfl) ?_;simp only[zy];refine aS (aB) (aS (aB) (aS (oH rfl rfl (by omega) (mR (n:=4) (by omega))) ?_));simp only[zz];refine aS (aU cE bJ rfl rfl (by omega) (by omega) (fK (show _ = p / 4 by omega))) ?_;simp only[zz];refine gL rfl (fun _ hE'=>(lies1 (hE'.cell hco) fM)) ?_;simp only[zz];refine aS (aH (c:=0) gU rfl pU rfl rfl) ?_;simp only[zz];refine gL rfl (fun _ hE'=>((hB1.ext hE').lies1 vU rfl)) ?_;simp only[zz];refine aS (aB) ?_;simp only[zz];refine aS ((lU mH rfl rfl (by omega) (by rw [Int.toNat_natCast]; exact hb))) ?_;simp only[zz];refine aS (eL gM nT rfl (fX (by omega) (by omega))) (aS (aB) (aS (kD rfl rfl (by omega) (kZ (n:=4))) ?_));simp only[zz];refine aS (lB rfl rfl ((aQ (by omega) (by omega)).trans (show (8 : Int) * ((p % 4 : Nat) : Int) = ((8 * (p % 4) : Nat) : Int) by omega))) (aS (An rfl rfl (by omega) (sB (n:=8 * (p % 4)) (by omega) (by omega))) (aS (Kl rfl rfl ((zX (s:=8 * (p % 4 + 1)) (a:=b.toNat * 2 ^ (8 * (p % 4))) (b:=os[p / 4]) f5 f6 (by omega)).trans (show (((b.toNat * 2 ^ (8 * (p % 4))) + os[p / 4] : Nat) : Int) = ((os[p / 4] + b.toNat * 2 ^ (8 * (p % 4)) : Nat) : Int) by omega))) ?_));simp only[zz];refine aS (aU cE bJ rfl rfl (by omega) (by omega) (fK (show _ = p / 4 by omega))) ?_;simp only[zz];refine dW ?_;intro w3 hE;replace hB1:=hB1.ext hE; replace hB2:=hB2.ext hE; replace hX:=hX.trans hE;clear hE;refine cC rfl (by simp only[zz]; rfl) (by exact bJ) hB2 (by simp; omega) (by simp [Value.oneCell']) ?_;clear hB2; intro w4 hC hB2;replace hB1:=hB1.chg hC (by first | exact hN1_2 | exact Ne.symm hN2_1); replace hX:=hX.chg hC hG2;clear hC;rw [gN (by omega)] at hB2;refine aC (hK7 _ _ ?_);refine wp_region_lit (aA (bD rfl rfl (aQ (by omega) (by omega))) (aA (aB) ?_));simp only[zz];refine aC ?_;rw [show ((i:Int) + 1) = ((i + 1 : Nat) : Int) by omega];simp only[Exit.inBlock,Exit.then];refine ⟨s.size - (i + 1),_,?_,rfl,?_,?_⟩
   · omega
   · simp only[zz,zv]
   ·
    simp only[zQ,zR,zD,zE];exact ⟨i + 1,os.set (p / 4) (os[p / 4] + b.toNat * 2 ^ (8 * (p % 4))),rfl,hX,hB1,hB2,by omega,by simpa using hlo,hd.set f1,by rw [show s.size - (i + 1) = p by omega]; exact f3,by rw [show s.size - (i + 1) = p by omega]; exact f4,rfl⟩
  ·
   refine wp_exit ?_;refine hK3 _ _ (aF (fun K10 hK10=>?_));obtain rfl : i = s.size:=by omega
   refine wp_region_lit (aA (aB) ?_);simp only[zz];refine bS rfl rfl (qM _ (hB2.nat hd (by omega) (by omega))) ?_;rintro v w3 hE rfl;replace hB2:=hB2.ext hE; replace hX:=hX.trans hE;clear hE;simp only[zz];refine aA (aD) ?_;simp only[zz];refine aC (hK10 _ _ ?_);refine wp_ret ?_;try simp only[Exit.inBlock,Exit.then]
   refine bU rfl rfl ?_;try simp only[zD,zE]
   exact ⟨_,rfl,hX,gZ.of_trim (hB2.nat hd (n:=K) (by omega) (by omega)) (by rw [hv,Nat.sub_self,Nat.pow_zero,Nat.one_mul,List.drop_zero]; rfl)⟩
end Go.Proofs.YtimjandkmfcmiaaGreatDoor
namespace Go.Proofs.YtimjandkmfcmiaaGreatDoor
open Tryz
open Go.RowKit Go.Lith
attribute [local go_sem] Oper.semAt_some
def rJ (n₀ Bs : Nat) (W W' : World) : Prop:=Below n₀ W W' ∧ W'.heap[Bs]? = W.heap[Bs]?
theorem rJ.refl (n₀ Bs : Nat) (W : World) : rJ n₀ Bs W W:=⟨Below.refl _ _,rfl⟩
theorem rJ.trans {n₀ Bs : Nat} {A B C : World} (h : rJ n₀ Bs A B) (k : rJ n₀ Bs B C) : rJ n₀ Bs A C:=⟨h.1.trans k.1,k.2.trans h.2⟩
theorem rJ.box {n₀ Bs : Nat} {A B : World} (h : rJ n₀ Bs A B) {v : Value} (hc : A.cell? ⟨Bs,0,none⟩ = some v) : B.cell? ⟨Bs,0,none⟩ = some v:=(World.cell?_of_block h.2).trans hc
set_option maxRecDepth 100000 in
theorem Sm (F : Fence) (n : Nat) (h7 : F.fn 124) (hro : F.round = none) (hn : 1 ≤ n) (l Bs n₀ cap : Nat) (a : Addr) (xs : List Nat) (hreach : xs.length * 8 ≤ 140737488351232) (hb : a.block < n₀) (J Jx : List (Nat × Nat) → World → Prop)
 (hY : ∀ pre x W,J pre W → pre.length < xs.length → YieldAt F (n - 1) prog l #[.int .i64 (x.1 : Int),.int .u64 (x.2 : Int)] W fun e W' =>
  (e = .returned (.bool true) ∧ J (pre ++ [x]) W' ∧ rJ n₀ Bs W W') ∨ (e = .returned (.bool false) ∧ Jx (pre ++ [x]) W'))
 (W : World) (hBs : W.cell? ⟨Bs,0,none⟩ = some (.slice (some a) xs.length cap)) (hc : ∀ j (h : j < xs.length),W.cell? (a.add j) = some (.int .u64 (xs[j] : Nat))) (h0 : J [] W) :
 CallsIn F n prog 124 #[.func (.yield l) #[] #[],.pointer (some ⟨Bs,0,none⟩)] W fun e W'=>(∃ v,e = .returned v) ∧
  ((∃ ys : List (Nat × Nat),ys.map Prod.snd = xs.reverse ∧ J ys W') ∨ (∃ pre,True ∧ Jx pre W')):=by
 refine callsIn_of_wp func124 rfl h7 ?_ hro;simp only[ntmps124,List.size_toArray,List.length_cons,List.length_nil,Nat.reduceAdd,Nat.reduceSub,Array.replicate_succ,Array.replicate_zero,List.push_toArray,List.append_toArray,List.nil_append,List.cons_append]
 gi_wp2
 gi_loopw [3] (fun i wr=>∃ (k : Nat) (pre : List (Nat × Nat)),k ≤ xs.length ∧ i = .int .i64 ((k : Int) - 1) ∧ pre.length = xs.length - k ∧ pre.map Prod.snd = (xs.drop k).reverse ∧ J pre wr ∧ rJ n₀ Bs W wr)
  (fun i _=>(intOf i + 1).toNat)
 case atStart=>exact ⟨xs.length,[],Nat.le_refl _,rfl,by simp,by simp,h0,rJ.refl _ _ _⟩
 case round =>
  obtain ⟨k,pre,hk,rfl,hpl,hpre,hJs,hnx⟩:=hrel;have hBw : wr.cell? ⟨Bs,0,none⟩ = some (.slice (some a) xs.length cap):=hnx.box hBs;by_cases hk0 : 0 < k
  · have hlt : k - 1 < xs.length:=by omega
    have hcx : wr.cell? (a.add (k - 1)) = some (.int .u64 ((xs[k - 1] : Nat) : Int)):=(hnx.1.cell (by rw [mB]; exact hb)).trans (hc _ hlt);obtain ⟨fn,tmps,assign,body,hy,hR⟩:=hY pre (k - 1,xs[k - 1]) wr hJs (by omega);dsimp only at hy;obtain ⟨j,rfl⟩ : ∃ j,k = j + 1:=⟨k - 1,by omega⟩
    rw [show (((j + 1 : Nat) : Int) - 1) = (j : Int) by omega];simp only[Nat.add_sub_cancel] at hy hR hcx hlt
    gi_wp2
    refine hR.mono ?_;rintro e W3 (⟨rfl,hJ3,hk3⟩ | ⟨rfl,hJx3⟩)
    · gi_wp2
      go_roundw
      case rel=>exact ⟨j,pre ++ [(j,xs[j])],by omega,by simp,by simp; omega,by rw [List.drop_eq_getElem_cons hlt,List.reverse_cons,List.map_append,hpre]; rfl,hJ3,hnx.trans hk3⟩
      case measure=>simp [intOf]
    · gi_wp2
      refine bodyPost_ret (results_none rfl _ _ _) rfl ?_;exact ⟨⟨_,rfl⟩,.inr ⟨_,trivial,hJx3⟩⟩
  · obtain rfl : k = 0:=by omega
    gi_wp2
    go_end0
    exact ⟨⟨_,rfl⟩,.inl ⟨pre,by rw [hpre]; rfl,hJs⟩⟩
set_option maxRecDepth 100000 in
theorem Gv (F : Fence) (n : Nat) (h7 : F.fn 124) (hro : F.round = none) (l Bs cap : Nat) (A : Option Addr) (J : List (Nat × Nat) → World → Prop) (W : World) (hBs : W.cell? ⟨Bs,0,none⟩ = some (.slice A 0 cap)) (h0 : J [] W) :
 CallsIn F n prog 124 #[.func (.yield l) #[] #[],.pointer (some ⟨Bs,0,none⟩)] W fun e W'=>(∃ v,e = .returned v) ∧ J [] W':=by
 refine callsIn_of_wp func124 rfl h7 ?_ hro;simp only[ntmps124,List.size_toArray,List.length_cons,List.length_nil,Nat.reduceAdd,Nat.reduceSub,Array.replicate_succ,Array.replicate_zero,List.push_toArray,List.append_toArray,List.nil_append,List.cons_append]
 gi_wp2
 gi_loopw [3] (fun i wr=>i = .int .i64 (-1) ∧ J [] wr) (fun _ _=>0)
 case atStart=>exact ⟨rfl,h0⟩
 case round =>
  obtain ⟨rfl,hJs⟩:=hrel
  gi_wp2
  go_end0
  exact ⟨⟨_,rfl⟩,hJs⟩
theorem Vq (F : Fence) (n : Nat) (h5 : F.fn 97) (hro : F.round = none) (a : Option Addr) (len cap : Nat) (w : World) :
 CallsIn F n prog 97 #[.slice a len cap] w fun e w'=>e = .returned (.func (.func 124) #[] #[.pointer (some ⟨w.heap.size,0,none⟩)]) ∧ w' = w.alloc (.cells #[.slice a len cap] 97):=by
 refine callsIn_of_wp func97 rfl h5 ?_ hro;simp only[ntmps97,List.size_toArray,List.length_cons,List.length_nil,Nat.reduceAdd,Nat.reduceSub,Array.replicate_succ,Array.replicate_zero,List.push_toArray,List.append_toArray,List.nil_append,List.cons_append]
 gi_wp2
 go_ret
 exact ⟨rfl,rfl⟩
theorem Li (F : Fence) (n : Nat) (h7 : F.fn 124) (hro : F.round = none) (hn : 1 ≤ n) (Bs n₀ cap : Nat) (A : Option Addr) (xs : List Nat) (hreach : xs.length * 8 ≤ 140737488351232) (w : World) (hBs : Bs < w.heap.size) (hn₀ : n₀ ≤ w.heap.size)
 (hc : w.cell? ⟨Bs,0,none⟩ = some (.slice A xs.length cap)) (hI : ∀ (i x : Nat),xs[i]? = some x → ∃ a,A = some a ∧ w.cell? (a.add i) = some (.int .u64 (x : Int))) (hA : ∀ a,0 < xs.length → A = some a → a.block < n₀) :
 SeqStopsK F n prog 124 #[.pointer (some ⟨Bs,0,none⟩)] (fun x : Nat × Nat=>#[Value.int .i64 (x.1 : Int),Value.int .u64 (x.2 : Int)]) (rJ n₀ Bs) (fun ys=>ys.map Prod.snd = xs.reverse) (fun _=>True) xs.length w:=fun l J Jx W hW _ _ hY h0=>by
 have hc':=(hW.cell (p:=⟨Bs,0,none⟩) hBs).trans hc;rcases Nat.eq_zero_or_pos xs.length with h | h
 · obtain rfl : xs = []:=List.eq_nil_of_length_eq_zero h
   exact (Gv F n h7 hro l Bs cap A J W hc' h0).mono fun e W' ⟨he,hj⟩=>⟨he,.inl ⟨[],rfl,hj⟩⟩
 · obtain ⟨a,rfl,_⟩:=hI 0 xs[0] (List.getElem?_eq_getElem h)
   refine Sm F n h7 hro hn l Bs n₀ cap a xs hreach (hA a h rfl) J Jx hY W hc' (fun j hj=>?_) h0;obtain ⟨a',e,hcl⟩:=hI j xs[j] (List.getElem?_eq_getElem hj);cases e;exact (hW.cell (by rw [mB]; exact Nat.lt_of_lt_of_le (hA a h rfl) hn₀)).trans hcl
theorem aaS {A : Option Addr} {n cap : Nat} (w : World) : iL prog 97 [.slice A n cap] w (fun v w'=>∃ g,v = .func (.func 124) #[] #[.pointer (some ⟨g,0,none⟩)] ∧ w.heap.size ≤ g ∧ fW w' g [.slice A n cap] 97):=by
 refine ⟨acK,(callsIn_wide (n:=2)).1 ((Vq Fence.wide 2 trivial rfl A n cap w).mono ?_)⟩;rintro e w' ⟨rfl,rfl⟩;exact ⟨_,rfl,(dL.refl w).alloc _,_,rfl,Nat.le_refl _,jD w _ _⟩
end Go.Proofs.YtimjandkmfcmiaaGreatDoor
namespace Go.Proofs.YtimjandkmfcmiaaGreatDoor
open Tryz
open Go.RowKit Go.Lith
set_option maxRecDepth 100000
attribute [local irreducible] wpList wpQuiet eS Code.wp
attribute [local go_sem] Oper.semAt_some
theorem Vr : (prog.info? 5).map (fun i=>(i.zero,i.size,i.bytes)) = some (some (.int .u8 0),1,1):=by kernel_rfl
theorem Bu {W w1 : World} {tmp : Obj} {v v' : Value} {base size k g g3 : Nat} {e t : TypeId} {xs cs : List Value} (hB : fW W g cs t) (hte : t ≠ e) (hr : W.ownsRow base e size v k xs) (hg : (W.alloc tmp).grownBy w1 v.ownBlock) (hne : g ≠ g3) : (w1.setCell ⟨g3,0,none⟩ v').heap[g]? = W.heap[g]?:=by
 have h1 : some g ≠ v.ownBlock:=by
  rcases hr.2 with ⟨rfl,_⟩ | ⟨g',cap,cur,rfl,_,hgb,_⟩
  · simp [Value.ownBlock]
  ·
   intro h;obtain rfl : g = g':=by simpa [Value.ownBlock] using h
   rw [hB] at hgb;cases hgb;exact hte rfl
 exact ((Below.heap_setCell w1 ⟨g3,0,none⟩ v' g hne).trans (hg.block g (by simp; have:=hB.lt; omega) h1)).trans (Below.heap_alloc W tmp g hB.lt)
theorem qN {A : Option Addr} {xs : List Nat} {na cap : Nat} {neg : Bool} (w : World) (hS : eC w A na cap xs) (hl : xs.length ≤ 100000000000) : iL prog 59 [.slice A na cap,.bool neg] w (fun v _=>v = W (Bg neg (val 4294967296 xs))):=by
 skip
 refine ⟨acd,?_⟩;have hX:=dL.refl w;obtain rfl:=hS.eq;have hlt:=pF xs;have hle:=hS.le;refine (callsIn_wide (n:=4)).1 (callsIn_of_wp_marks func59 rfl trivial ?_ rfl);simp only[ntmps59,List.size_toArray,List.length_cons,List.length_nil,Nat.reduceAdd,Nat.reduceSub,Array.replicate_succ,Array.replicate_zero,List.push_toArray,List.append_toArray,List.nil_append,List.cons_append];refine wpIn_wide.2 (aF (fun K1 hK1=>wp_region_lit ?_));refine dX cI rfl ?_;intro w1 g1 hE hg1 hB1;have hG1:=Nat.le_trans hX.size hg1;replace hX:=hX.trans hE;clear hE hg1;simp only[zz];refine aC (hK1 _ _ ?_);refine aF (fun K2 hK2=>wp_region_lit (aA (aB) ?_));simp only[zz];refine bS rfl rfl (qM _ (hS.ext hX)) ?_;rintro v w2 hE rfl;replace hB1:=hB1.ext hE; replace hX:=hX.trans hE;clear hE;simp only[zz];refine aA (aD) ?_;simp only[zz];refine aC ?_;obtain ⟨ys,hys⟩ : ∃ ys,ys = trim xs:=⟨_,rfl⟩
 rw [← hys] at hlt ⊢;refine hK2 _ _ (aF (fun K3 hK3=>wp_region_lit (aA (aB) (aA (bR rfl cE rfl) (aA (lB rfl rfl (aQ (by omega) (by omega))) ?_)))));simp only[zz];refine lP lV Dx rfl rfl rfl (show _ = 0 by omega) (show _ = 4 * ys.length by omega) (by omega) (by omega) (by omega) (by omega) ?_;intro w3 g2 hE hg2 hB2;have hG2:=Nat.le_trans hX.size hg2; have hN2_1 : g2 ≠ g1:=Nat.ne_of_gt (Nat.lt_of_lt_of_le hB1.lt hg2);replace hB1:=hB1.ext hE; replace hX:=hX.trans hE;clear hE hg2;simp only[zz];refine dX Rf rfl ?_;intro w4 g3 hE hg3 hB3;have hG3:=Nat.le_trans hX.size hg3; have hN3_1 : g3 ≠ g1:=Nat.ne_of_gt (Nat.lt_of_lt_of_le hB1.lt hg3); have hN3_2 : g3 ≠ g2:=Nat.ne_of_gt (Nat.lt_of_lt_of_le hB2.lt hg3);replace hB1:=hB1.ext hE; replace hB2:=hB2.ext hE; replace hX:=hX.trans hE;clear hE hg3;simp only[zz];refine cC rfl (by simp only[zz]; rfl) (by exact Ny) hB3 (by simp) (by simp [Value.oneCell']) ?_;clear hB3; intro w5 hC hB3;replace hB1:=hB1.chg hC (by first | exact hN1_3 | exact Ne.symm hN3_1); replace hB2:=hB2.chg hC (by first | exact hN2_3 | exact Ne.symm hN3_2); replace hX:=hX.chg hC hG3;clear hC;simp only[zy,zx,aX,Nat.reduceAdd] at hB3;refine aC (hK3 _ _ ?_);refine aF (fun K4 hK4=>aF (fun K5 hK5=>wp_region_lit (aA (aB) ?_)));simp only[zz];refine bS rfl rfl (aaS _) ?_;rintro v w6 hE ⟨g4,rfl,hg4,hB4⟩;have hG4:=Nat.le_trans hX.size hg4; have hN4_1 : g4 ≠ g1:=Nat.ne_of_gt (Nat.lt_of_lt_of_le hB1.lt hg4); have hN4_2 : g4 ≠ g2:=Nat.ne_of_gt (Nat.lt_of_lt_of_le hB2.lt hg4); have hN4_3 : g4 ≠ g3:=Nat.ne_of_gt (Nat.lt_of_lt_of_le hB3.lt hg4);replace hB1:=hB1.ext hE; replace hB2:=hB2.ext hE; replace hB3:=hB3.ext hE; replace hX:=hX.trans hE;clear hE hg4;simp only[zz];refine aC (hK5 _ _ ?_);refine wp_block ((wpIn_wide (n:=4)).1 ?_);have hbase : w.heap.size ≤ w6.heap.size:=hX.size;obtain ⟨n0,hn0⟩ : ∃ n0,n0 = w.heap.size:=⟨_,rfl⟩
 have hT : eC w6 A ys.length cap ys:=(((hS.ext hX).take (trim xs).length).as (iE xs).symm |> fun h=>by rw [← iE,← hys] at h; exact h)
 have hA : ∀ a,0 < ys.length → A = some a → a.block < w.heap.size:=fun a h0 e=>by
  obtain ⟨a',e',hc⟩:=hS.row 0 (xs[0]'(by omega)) (List.getElem?_eq_getElem (by omega));rw [e] at e'; cases e';have:=World.block_lt_of_cell? _ _ hc;rwa [mB] at this
 refine wpIn_rangeFunc_ownG (F:=Fence.wide) rfl (by omega) (gf:=124) (lb:=#[.pointer (some ⟨g4,0,none⟩)]) rfl trivial (enters_of func124 (by kernel_rfl) rfl)
  (Li Fence.wide 3 trivial rfl (by omega) g4 w.heap.size cap A ys (by omega) w6 hB4.lt hX.size (hB4.cell rfl) hT.row hA) rJ.trans (fun W l o o' hl ho _ _=>⟨belowK_b (w:=w6) hX.size W l o o' hl ho ‹_› ‹_›,World.putObj_heap_other (by have:=hB4.lt; omega)⟩) (Below.refl _ _) (fun _=>rfl)
  (fun pre W=>((∃ v,Boxed W g3 139 v ∧ W.ownsRow w.heap.size 5 1 v (Iu pre).length ((Iu pre).map Vn) ∧ True) ∧ fW W g1 [.bool false,.string ⟨#[]⟩] 35 ∧ fW W g4 [.slice A ys.length cap] 97) ∧ Below w.heap.size w W)
  (fun _ _ _=>False)
  (OwnFrom.and (OwnFrom.and (Own.from (holdsRow_own w.heap.size g3 139 5 1 (fun pre=>(Iu pre).length) (fun pre=>(Iu pre).map Vn) (fun _ _=>True)) _) (Own.from (fun s X Y row hs hg hr=>⟨(grownBy_keeps_cells hg hr hs.1 rfl).trans hs.1,(grownBy_keeps_cells hg hr hs.2 rfl).trans hs.2⟩) _)) (ownFrom_below (Nat.le_refl _) hX.size))
  (fun _ _ _ _ _ hs _ _=>hs)
  ⟨⟨⟨_,hB3,⟨rfl,.inr ⟨g2,4 * ys.length,_,rfl,hG2,hB2,Nat.zero_le _,by show _ ≤ 9223372036854775807; omega,by simp,by simp [Iu]⟩⟩,trivial⟩,hB1,hB4⟩,hX⟩
  (fun x=>{ tmps:=#[.slice A ys.length cap,.bool neg,undef,undef,.pointer (some ⟨g1,0,none⟩),.pointer (some ⟨g3,0,none⟩),undef,.int .u64 (x.2 : Int),undef,.slice A xs.length cap,.slice A ys.length cap,.slice A ys.length cap,.int .i64 (ys.length : Int),.int .i64 (4 * (ys.length : Int)),.slice (some ⟨g2,0,none⟩) 0 (4 * ys.length),.slice A ys.length cap,.func (.func 124) #[] #[.pointer (some ⟨g4,0,none⟩)],.int .i64 (x.1 : Int),.int .u64 (x.2 : Int),undef,undef,undef,undef,undef,undef,undef,undef,undef,undef,undef,undef,undef,undef,undef,undef,undef,undef,undef,undef,undef,undef,undef,undef],defers:=[] }) ?assign ?body ?done ?stop
 case assign =>
  intro l x W K hK;clear hys
  gi_wp2
  exact hK
 case stop =>
  rintro D c pre W _ _ h _;exact h.elim
 case body =>
  rintro l pre x W ⟨⟨⟨v,hv,hrow,_⟩,hB1',hB4'⟩,hB⟩ hlt;have hc:=hv.cell;have hwl : (Iu pre).length ≤ 4 * pre.length:=Nat.le_of_eq (Bf pre);clear hys;obtain ⟨i0,hi,hz0,hz1,hz2⟩:=info_parts Vr
  gi_wp2_with (gi_at_builtin; refine wpListIn_append_own _ rfl _ _ 139 rfl w.heap.size 5 i0 (.int .u8 0) 1 1 lV hi hz0 hz1 hz2 rfl (by decide) _ _ _ rfl (hrow.alloc _) ⟨W.heap.size,0,none⟩ 4 4 [.int .u8 ((x.2 : Int) / 16777216 % 256),.int .u8 ((x.2 : Int) / 65536 % 256),.int .u8 ((x.2 : Int) / 256 % 256),.int .u8 ((x.2 : Int) % 256)] rfl rfl ((jD W _ 5).row 0) (by simp [Value.oneCell']) (by show _ ≤ 9223372036854775807; omega) (by omega) (by have:=hB.size; simp; omega) ?_; intro v' w1 hown' hgrow _; obtain ⟨g',cap',rfl⟩:=ownsRow_succ hown'; obtain ⟨hv1,hv2,hr2,hk2,hb2⟩:=hv.appended (by decide) hrow hB.size hG3 hown' hgrow; have hc1:=hv1.cell; have hf1:=hv1.frozen)
  have e1:=Bu hB1' (by decide) hrow hgrow (Ne.symm hN3_1) (v':=.slice (some ⟨g',0,none⟩) ((Iu pre).length + 3 + 1) cap');have e4:=Bu hB4' (by decide) hrow hgrow hN4_3 (v':=.slice (some ⟨g',0,none⟩) ((Iu pre).length + 3 + 1) cap');refine ⟨hk2.from _,⟨hb2,e4⟩,⟨⟨_,hv2,?_,trivial⟩,e1.trans hB1',e4.trans hB4'⟩,hB.trans hb2⟩;rw [Sb,List.length_append,List.map_append];have e : (wb x.2).map Vn = [.int .u8 ((x.2 : Int) / 16777216 % 256),.int .u8 ((x.2 : Int) / 65536 % 256),.int .u8 ((x.2 : Int) / 256 % 256),.int .u8 ((x.2 : Int) % 256)]:=by simp [wb,UInt8.toNat_ofNat']
  rw [e];exact hr2
 rintro D ls W hD hls ⟨⟨⟨v,hv,hrow,_⟩,hB1',_⟩,hX'⟩ hK';replace hD:=Nat.le_trans hX.size hD;clear hB1 hB2 hB3 hB4 hX hG2 hG4 hN2_1 hN3_2 hN4_1 hN4_2 hN4_3 hbase hT;have hB1:=hB1';have hB3 : fW W g3 [v] 139:=hv;have hX : dL w W:=hX';have hK : Sa W D:=⟨hK'⟩
 have hDg1:=hK.ne hB1;have hlb : (Iu ls).length ≤ 1000000000000000:=by
  have:=congrArg List.length hls;rw [List.length_map,List.length_reverse] at this;rw [Bf];omega
 have hbs : lD (iN (Iu ls)) = cX (Bg neg (val 4294967296 xs)):=by
  have e : Iu ls = ys.reverse.flatMap wb:=by rw [← hls,List.flatMap_map]; rfl
  have hd : dD 4294967296 ys:=by rw [hys]; exact hS.digs.trim
  rw [e,Ld hd neg,hys,rC]
 dsimp only;refine hK4 _ _ (aF (fun K6 hK6=>wp_region_lit ?_));refine aI rfl (hB3.lies1 Vd rfl) ?_;simp only[zz];refine sX (Be lV nT mH rfl hrow) ?_;simp only[zz];refine gA rfl rfl (Lh hlb) ?_;intro w7 hE;replace hB1:=hB1.ext hE; (try replace hK:=hK.ext hE); replace hX:=hX.trans hE;clear hE;simp only[zz];refine aA (aD) ?_;simp only[zz];refine aC ?_;rw [hbs];refine hK6 _ _ (aF (fun K7 hK7=>?_));cases neg
 ·
  refine wp_region_lit (aA (aB) (aA (aB) ?_));simp only[zz];refine bM rfl ?_;simp only[zz];refine bM rfl ?_;simp only[zz];refine aA (cO rfl) (aA (aB) (aA (pB rfl rfl) ?_));simp only[zz];refine cC rfl (by simp only[zz]; rfl) (by exact aG) hB1 (by simp) (by simp [Value.oneCell']) ?_;clear hB1; intro w8 hC hB1
  (try replace hK:=hK.chg hC (by first | assumption | rfl)); replace hX:=hX.chg hC hG1
  clear hC;simp only[zy,zx,aX,Nat.reduceAdd] at hB1;refine aC (hK7 _ _ ?_);refine wp_ret ?_;try simp only[Exit.inBlock,Exit.then]
  refine acR hK ?_;replace hB1:=hB1.putD hK (o:=.deferred none); replace hX:=hX.putD hD (o:=.deferred none);refine bU rfl ⟨_,rfl,(hB1.lies aR aG rfl rfl)⟩ ?_;try simp only[zD,zE]
  exact ⟨_,rfl,hX,by simp [Lith.W,Gn,Bh]⟩
 ·
  refine wp_region_lit (aA (aB) (aA (aB) ?_));simp only[zz];refine aP rfl (aA (aB) ?_);simp only[zz];refine aP rfl (aA (Yz mH rfl rfl) (aA (cG rfl) (aA (aB) ?_)));simp only[zz];refine aA (pB rfl rfl) ?_;simp only[zz];refine cC rfl (by simp only[zz]; rfl) (by exact aG) hB1 (by simp) (by simp [Value.oneCell']) ?_;clear hB1; intro w8 hC hB1
  (try replace hK:=hK.chg hC (by first | assumption | rfl)); replace hX:=hX.chg hC hG1
  clear hC;simp only[zy,zx,aX,Nat.reduceAdd] at hB1;refine aC (hK7 _ _ ?_);refine wp_ret ?_;try simp only[Exit.inBlock,Exit.then]
  refine acR hK ?_;replace hB1:=hB1.putD hK (o:=.deferred none); replace hX:=hX.putD hD (o:=.deferred none);refine bU rfl ⟨_,rfl,(hB1.lies aR aG rfl rfl)⟩ ?_;try simp only[zD,zE]
  exact ⟨_,rfl,hX,by simp [Lith.W,Gn,Bh]⟩
end Go.Proofs.YtimjandkmfcmiaaGreatDoor
namespace Go.Proofs.YtimjandkmfcmiaaGreatDoor
open Tryz
open Go.RowKit Go.Lith
set_option maxRecDepth 100000
attribute [local irreducible] wpList wpQuiet eS Code.wp
theorem lF {a : Int} (ha : Bd 1000000 a) : dP prog 55 [W a] (.int .i64 (dG a)):=by
 intro w;refine ⟨ab9,?_⟩;have hX:=dL.refl w
 go_enter func55,ntmps55
 refine aF (fun K1 hK1=>wp_region_lit ?_);refine gK (by simp only[zz]; rfl) ?_;intro w1 g1 hE hg1 hB1;have hG1:=Nat.le_trans hX.size hg1;replace hX:=hX.trans hE;clear hE hg1;simp only[zz];refine aA (aD) ?_;simp only[zz];refine aC (hK1 _ _ ?_);refine aF (fun K2 hK2=>wp_block (aF (fun K3 hK3=>wp_region_lit ?_)));refine aI rfl (hB1.lies aR aG rfl rfl) ?_;simp only[zz];refine bS rfl rfl (uR _ (fF ha)) ?_;rintro v w2 hE ⟨A1,c1,rfl,hN1⟩;replace hB1:=hB1.ext hE; replace hX:=hX.trans hE;clear hE;rw [fE] at hN1 ⊢;simp only[zz];refine aA (bR rfl cE rfl) (aA (nA rfl rfl) (aA (aD) ?_));simp only[zz];refine aC (hK3 _ _ ?_);refine cQ rfl (fun hc1=>?_) (fun hc1=>?_)
 ·
  have h0:=Gq.1 hc1;refine aF (fun K4 hK4=>wp_region_lit (aA (aD) ?_));simp only[zz];refine aC (hK4 _ _ ?_);refine wp_ret ?_;try simp only[Exit.inBlock,Exit.then]
  refine bU rfl rfl ?_;try simp only[zD,zE]
  exact ⟨_,rfl,hX,by rw [h0]; rfl⟩
 ·
  refine aF (fun K5 hK5=>wp_region_lit (aA (aH (c:=0) gU rfl eJ rfl rfl) ?_));simp only[zz];refine aI rfl (hB1.lies1 iV rfl) ?_;simp only[zz];refine aA (aD) ?_;simp only[zz];refine aC (hK5 _ _ ?_);refine oZ rfl (fun hc2=>?_) (fun hc2=>?_)
  ·
   have hn:=xM hc2;refine aF (fun K6 hK6=>wp_region_lit (aA (aD) ?_));simp only[zz];refine aC (hK6 _ _ ?_);refine wp_ret ?_;try simp only[Exit.inBlock,Exit.then]
   refine bU rfl rfl ?_;try simp only[zD,zE]
   exact ⟨_,rfl,hX,by rw [mF hn]⟩
  ·
   have hn:=vE hc2;have h0 : ¬ a = 0:=fun e=>hc1 (Gq.2 e);refine wp_skip (hK2 _ _ ?_);refine aF (fun K7 hK7=>wp_region_lit (aA (aD) ?_));simp only[zz];refine aC (hK7 _ _ ?_);refine wp_ret ?_;try simp only[Exit.inBlock,Exit.then]
   refine bU rfl rfl ?_;try simp only[zD,zE]
   exact ⟨_,rfl,hX,by rw [lA (by omega)]⟩
theorem acT {a : Int} (ha : Bd 1000000 a) : dP prog 95 [W a] (W (-a)):=by
 intro w;refine ⟨acI,?_⟩;have hX:=dL.refl w
 go_enter func95,ntmps95
 refine aF (fun K1 hK1=>wp_region_lit ?_);refine gK (by simp only[zz]; rfl) ?_;intro w1 g1 hE hg1 hB1;have hG1:=Nat.le_trans hX.size hg1;replace hX:=hX.trans hE;clear hE hg1;simp only[zz];refine dX cI rfl ?_;intro w2 g2 hE hg2 hB2;have hG2:=Nat.le_trans hX.size hg2; have hN2_1 : g2 ≠ g1:=Nat.ne_of_gt (Nat.lt_of_lt_of_le hB1.lt hg2);replace hB1:=hB1.ext hE; replace hX:=hX.trans hE;clear hE hg2;simp only[zz];refine aC (hK1 _ _ ?_);refine aF (fun K2 hK2=>?_);refine dS [(2,true),(0,true),(3,true),(4,true),(1,false),(5,false),(6,false)] aN (by kernel_rfl) (cW (fun _ _ _ _ _ h=>h)) (ol:=?_) ?hol ?_
 case hol=>simp only[zw,zQ,zR]; try rfl
 intro w3 hE;replace hB1:=hB1.ext hE; replace hB2:=hB2.ext hE; replace hX:=hX.trans hE;clear hE;refine ⟨_,(jM.blk hB1 jM.nil),?_⟩;refine aY (aH (c:=0) gU rfl eJ rfl rfl) ?_;simp only[zz];refine cF rfl (fun _ ⟨hB1,_⟩=>(hB1.lies aR aG rfl rfl)) ?_;simp only[zz];refine cF rfl (fun _ ⟨hB1,_⟩=>(hB1.lies1 iV rfl)) ?_;simp only[zz];refine aY (eT rfl) ?_;simp only[zz];refine cZ (bS rfl rfl (uR _ (fF ha)) ?_);rintro v w4 hE ⟨A1,c1,rfl,hN1⟩;replace hB1:=hB1.ext hE; replace hB2:=hB2.ext hE; replace hX:=hX.trans hE;clear hE;rw [fE] at hN1 ⊢;simp only[zz];refine aC (⟨⟨hB1,trivial⟩,?_⟩);refine cZ (bS rfl rfl (qN _ hN1 (Nat.le_trans (pJ ha) (by decide))) ?_);rintro v w5 hE rfl;replace hB1:=hB1.ext hE; replace hB2:=hB2.ext hE; replace hX:=hX.trans hE;clear hE;simp only[dR];simp only[zz];refine aC (⟨⟨hB1,trivial⟩,?_⟩);refine cZ ?_;refine cC rfl (by simp only[zz]; rfl) (by exact aG) hB2 (by simp) (by simp [Value.oneCell']) ?_;clear hB2; intro w6 hC hB2;replace hB1:=hB1.chg hC (by first | exact hN1_2 | exact Ne.symm hN2_1); replace hX:=hX.chg hC hG2;clear hC;simp only[zy,zx,aX,Nat.reduceAdd] at hB2;refine aC (⟨⟨hB1,trivial⟩,?_⟩);refine bA ?_;rw [Mq] at hB2;refine hK2 _ _ (wp_ret ?_);try simp only[Exit.inBlock,Exit.then]
 refine bU rfl ⟨_,rfl,(hB2.lies aR aG rfl rfl)⟩ ?_;try simp only[zD,zE]
 exact ⟨_,rfl,hX,rfl⟩
theorem Na {a b : Int} (ha : Bd 1000000 a) (hb : Bd 1000000 b) : dP prog 94 [W a,W b] (W (a + b)):=by
 intro w;refine ⟨acH,?_⟩;have hX:=dL.refl w;have hla:=pJ ha;have hlb:=pJ hb;have hls:=pJ (Bd.add ha hb)
 go_enter func94,ntmps94
 refine aF (fun K1 hK1=>wp_region_lit ?_);refine gK (by simp only[zz]; rfl) ?_;intro w1 g1 hE hg1 hB1;have hG1:=Nat.le_trans hX.size hg1;replace hX:=hX.trans hE;clear hE hg1;simp only[zz];refine gK (by simp only[zz]; rfl) ?_;intro w2 g2 hE hg2 hB2;have hG2:=Nat.le_trans hX.size hg2; have hN2_1 : g2 ≠ g1:=Nat.ne_of_gt (Nat.lt_of_lt_of_le hB1.lt hg2);replace hB1:=hB1.ext hE; replace hX:=hX.trans hE;clear hE hg2;simp only[zz];refine dX cI rfl ?_;intro w3 g3 hE hg3 hB3;have hG3:=Nat.le_trans hX.size hg3; have hN3_1 : g3 ≠ g1:=Nat.ne_of_gt (Nat.lt_of_lt_of_le hB1.lt hg3); have hN3_2 : g3 ≠ g2:=Nat.ne_of_gt (Nat.lt_of_lt_of_le hB2.lt hg3);replace hB1:=hB1.ext hE; replace hB2:=hB2.ext hE; replace hX:=hX.trans hE;clear hE hg3;simp only[zz];refine aC (hK1 _ _ ?_);refine aF (fun K2 hK2=>?_);refine dS [(0,true),(2,true),(1,false),(3,false),(4,true),(5,true)] aN (by kernel_rfl) (cW (fun _ _ _ _ _ h=>h)) (ol:=?_) ?hol ?_
 case hol=>simp only[zw,zQ,zR]; try rfl
 intro w4 hE;replace hB1:=hB1.ext hE; replace hB2:=hB2.ext hE; replace hB3:=hB3.ext hE; replace hX:=hX.trans hE;clear hE;refine ⟨_,(jM.blk hB1 (jM.blk hB2 jM.nil)),?_⟩;refine cF rfl (fun _ ⟨hB1,hB2,_⟩=>(hB1.lies aR aG rfl rfl)) ?_;simp only[zz];refine cF rfl (fun _ ⟨hB1,hB2,_⟩=>(hB2.lies aR aG rfl rfl)) ?_;simp only[zz];refine cZ (bS rfl rfl (uR _ (fF ha)) ?_);rintro v w5 hE ⟨A1,c1,rfl,hN1⟩;replace hB1:=hB1.ext hE; replace hB2:=hB2.ext hE; replace hB3:=hB3.ext hE; replace hX:=hX.trans hE;clear hE;rw [fE] at hN1 ⊢;simp only[zz];refine aC (⟨⟨hB1,hB2,trivial⟩,?_⟩);refine cZ (bS rfl rfl (uR _ (fF hb)) ?_);rintro v w6 hE ⟨A2,c2,rfl,hN2⟩;replace hB1:=hB1.ext hE; replace hB2:=hB2.ext hE; replace hB3:=hB3.ext hE; (try replace hN1:=hN1.ext hE); replace hX:=hX.trans hE;clear hE;rw [fE] at hN2 ⊢;simp only[zz];refine aC (⟨⟨hB1,hB2,trivial⟩,?_⟩);refine aY (aD) (aY (aD) ?_);simp only[zz];refine bA (hK2 _ _ ?_);refine aF (fun K3 hK3=>wp_block (aF (fun K4 hK4=>wp_region_lit (aA (aH (c:=0) gU rfl eJ rfl rfl) ?_))));simp only[zz];refine aI rfl (hB1.lies1 iV rfl) ?_;simp only[zz];refine aA (aH (c:=0) gU rfl eJ rfl rfl) ?_;simp only[zz];refine aI rfl (hB2.lies1 iV rfl) ?_;simp only[zz];refine aA (Av xF rfl rfl) (aA (aD) ?_);simp only[zz];refine aC (hK4 _ _ ?_);refine cQ rfl (fun hc1=>?_) (fun hc1=>?_)
 ·
  refine aF (fun K5 hK5=>?_);refine dS [(0,true),(1,true),(3,true),(4,true),(2,false),(5,false),(6,false)] aN (by kernel_rfl) (cW (fun _ _ _ _ _ h=>h)) (ol:=?_) ?hol ?_
  case hol=>simp only[zw,zQ,zR]; try rfl
  intro w7 hE;replace hB1:=hB1.ext hE; replace hB3:=hB3.ext hE; (try replace hN1:=hN1.ext hE); (try replace hN2:=hN2.ext hE); replace hX:=hX.trans hE;clear hE;refine ⟨_,(jM.blk hB1 jM.nil),?_⟩;refine aY (aB) (aY (aB) (aY (aH (c:=0) gU rfl eJ rfl rfl) ?_));simp only[zz];refine cF rfl (fun _ ⟨hB1,_⟩=>(hB1.lies1 iV rfl)) ?_;simp only[zz];refine cZ (bS rfl rfl (acS _ hN1 hN2 (Nat.le_trans hla (by decide)) (Nat.le_trans hlb (by decide))) ?_);rintro v w8 hE ⟨A3,c3,rfl,hN3⟩;replace hB1:=hB1.ext hE; replace hB3:=hB3.ext hE; replace hX:=hX.trans hE;clear hE;simp only[zz];refine aC (⟨⟨hB1,trivial⟩,?_⟩);refine cZ ?_;simp only[dR] at hN3 ⊢;have hl3 : (digs 4294967296 (a.natAbs + b.natAbs)).length ≤ 100000000000:=Nat.le_trans (Ot ha hb) (by decide);refine bS rfl rfl (qN _ hN3 hl3) ?_;rintro v w9 hE rfl;replace hB1:=hB1.ext hE; replace hB3:=hB3.ext hE; replace hX:=hX.trans hE;clear hE;simp only[dR];simp only[zz];refine aC (⟨⟨hB1,trivial⟩,?_⟩);refine cZ ?_;refine cC rfl (by simp only[zz]; rfl) (by exact aG) hB3 (by simp) (by simp [Value.oneCell']) ?_;clear hB3; intro w10 hC hB3;replace hB1:=hB1.chg hC (by first | exact hN1_3 | exact Ne.symm hN3_1); replace hX:=hX.chg hC hG3;clear hC;simp only[zy,zx,aX,Nat.reduceAdd] at hB3;refine aC (⟨⟨hB1,trivial⟩,?_⟩);refine bA ?_;rw [Mr hc1] at hB3;refine hK5 _ _ (wp_ret ?_);try simp only[Exit.inBlock,Exit.then]
  refine bU rfl ⟨_,rfl,(hB3.lies aR aG rfl rfl)⟩ ?_;try simp only[zD,zE]
  exact ⟨_,rfl,hX,rfl⟩
 ·
  refine aF (fun K6 hK6=>wp_region_lit (aA (aB) (aA (aB) ?_)));simp only[zz];refine bS rfl rfl (Si _ hN1 hN2 (iJ _) (iJ _)) ?_;rintro v w7 hE rfl;replace hB1:=hB1.ext hE; replace hB2:=hB2.ext hE; replace hB3:=hB3.ext hE; (try replace hN1:=hN1.ext hE); (try replace hN2:=hN2.ext hE); replace hX:=hX.trans hE;clear hE;simp only[dR];simp only[zz];refine aA (eA rfl rfl) (aA (aD) ?_);simp only[zz];refine aC (hK6 _ _ ?_);refine cQ rfl (fun hc2=>?_) (fun hc2=>?_)
  ·
   have hlt:=pG.1 hc2;refine aF (fun K7 hK7=>?_);refine dS [(0,true),(1,true),(3,true),(4,true),(2,false),(5,false),(6,false)] aN (by kernel_rfl) (cW (fun _ _ _ _ _ h=>h)) (ol:=?_) ?hol ?_
   case hol=>simp only[zw,zQ,zR]; try rfl
   intro w8 hE;replace hB2:=hB2.ext hE; replace hB3:=hB3.ext hE; (try replace hN1:=hN1.ext hE); (try replace hN2:=hN2.ext hE); replace hX:=hX.trans hE;clear hE;refine ⟨_,(jM.blk hB2 jM.nil),?_⟩;refine aY (aB) (aY (aB) (aY (aH (c:=0) gU rfl eJ rfl rfl) ?_));simp only[zz];refine cF rfl (fun _ ⟨hB2,_⟩=>(hB2.lies1 iV rfl)) ?_;simp only[zz];refine cZ ?_;refine bS rfl rfl (Sj _ hN2 hN1 (Gp (Nat.le_of_lt hlt)) (by simp only[dR]; omega) (Nat.le_trans hlb (by decide))) ?_;rintro v w9 hE ⟨⟨A3,c3,rfl,hN3⟩,_⟩;replace hB2:=hB2.ext hE; replace hB3:=hB3.ext hE; replace hX:=hX.trans hE;clear hE;simp only[dR] at hN3 ⊢;have hl3:=Gp (Nat.sub_le b.natAbs a.natAbs);simp only[zz];refine aC (⟨⟨hB2,trivial⟩,?_⟩);refine cZ (bS rfl rfl (qN _ hN3 (Nat.le_trans hl3 (Nat.le_trans hlb (by decide)))) ?_);rintro v w10 hE rfl;replace hB2:=hB2.ext hE; replace hB3:=hB3.ext hE; replace hX:=hX.trans hE;clear hE;simp only[dR];simp only[zz];refine aC (⟨⟨hB2,trivial⟩,?_⟩);refine cZ ?_;refine cC rfl (by simp only[zz]; rfl) (by exact aG) hB3 (by simp) (by simp [Value.oneCell']) ?_;clear hB3; intro w11 hC hB3;replace hB2:=hB2.chg hC (by first | exact hN2_3 | exact Ne.symm hN3_2); replace hX:=hX.chg hC hG3;clear hC;simp only[zy,zx,aX,Nat.reduceAdd] at hB3;refine aC (⟨⟨hB2,trivial⟩,?_⟩);refine bA ?_;rw [Sc hc1 hlt] at hB3;refine hK7 _ _ (wp_ret ?_);try simp only[Exit.inBlock,Exit.then]
   refine bU rfl ⟨_,rfl,(hB3.lies aR aG rfl rfl)⟩ ?_;try simp only[zD,zE]
   exact ⟨_,rfl,hX,rfl⟩
  ·
   have hge : b.natAbs ≤ a.natAbs:=Nat.le_of_not_lt fun h=>hc2 (pG.2 h);refine wp_skip (hK3 _ _ ?_);refine aF (fun K8 hK8=>?_);refine dS [(0,true),(1,true),(3,true),(4,true),(2,false),(5,false),(6,false)] aN (by kernel_rfl) (cW (fun _ _ _ _ _ h=>h)) (ol:=?_) ?hol ?_
   case hol=>simp only[zw,zQ,zR]; try rfl
   intro w8 hE;replace hB1:=hB1.ext hE; replace hB3:=hB3.ext hE; (try replace hN1:=hN1.ext hE); (try replace hN2:=hN2.ext hE); replace hX:=hX.trans hE;clear hE;refine ⟨_,(jM.blk hB1 jM.nil),?_⟩;refine aY (aB) (aY (aB) (aY (aH (c:=0) gU rfl eJ rfl rfl) ?_));simp only[zz];refine cF rfl (fun _ ⟨hB1,_⟩=>(hB1.lies1 iV rfl)) ?_;simp only[zz];refine cZ ?_;refine bS rfl rfl (Sj _ hN1 hN2 (Gp hge) (by simp only[dR]; omega) (Nat.le_trans hla (by decide))) ?_;rintro v w9 hE ⟨⟨A3,c3,rfl,hN3⟩,_⟩;replace hB1:=hB1.ext hE; replace hB3:=hB3.ext hE; replace hX:=hX.trans hE;clear hE;simp only[dR] at hN3 ⊢;have hl3:=Gp (Nat.sub_le a.natAbs b.natAbs);simp only[zz];refine aC (⟨⟨hB1,trivial⟩,?_⟩);refine cZ (bS rfl rfl (qN _ hN3 (Nat.le_trans hl3 (Nat.le_trans hla (by decide)))) ?_);rintro v w10 hE rfl;replace hB1:=hB1.ext hE; replace hB3:=hB3.ext hE; replace hX:=hX.trans hE;clear hE;simp only[dR];simp only[zz];refine aC (⟨⟨hB1,trivial⟩,?_⟩);refine cZ ?_;refine cC rfl (by simp only[zz]; rfl) (by exact aG) hB3 (by simp) (by simp [Value.oneCell']) ?_;clear hB3; intro w11 hC hB3;replace hB1:=hB1.chg hC (by first | exact hN1_3 | exact Ne.symm hN3_1); replace hX:=hX.chg hC hG3;clear hC;simp only[zy,zx,aX,Nat.reduceAdd] at hB3;refine aC (⟨⟨hB1,trivial⟩,?_⟩);refine bA ?_;rw [Sd hc1 hge] at hB3;refine hK8 _ _ (wp_ret ?_);try simp only[Exit.inBlock,Exit.then]
   refine bU rfl ⟨_,rfl,(hB3.lies aR aG rfl rfl)⟩ ?_;try simp only[zD,zE]
   exact ⟨_,rfl,hX,rfl⟩
end Go.Proofs.YtimjandkmfcmiaaGreatDoor
namespace Go.Proofs.YtimjandkmfcmiaaGreatDoor
open Tryz
open Go.RowKit Go.Lith
set_option maxRecDepth 100000
attribute [local irreducible] wpList wpQuiet eS Code.wp
theorem rK {a b : Int} (ha : Bd 1000000 a) (hb : Bd 1000000 b) : dP prog 56 [W a,W b] (W (a - b)):=by
 intro w;refine ⟨aca,?_⟩;have hX:=dL.refl w
 go_enter func56,ntmps56
 refine aF (fun K1 hK1=>wp_region_lit ?_);refine gK (by simp only[zz]; rfl) ?_;intro w1 g1 hE hg1 hB1;have hG1:=Nat.le_trans hX.size hg1;replace hX:=hX.trans hE;clear hE hg1;simp only[zz];refine gK (by simp only[zz]; rfl) ?_;intro w2 g2 hE hg2 hB2;have hG2:=Nat.le_trans hX.size hg2; have hN2_1 : g2 ≠ g1:=Nat.ne_of_gt (Nat.lt_of_lt_of_le hB1.lt hg2);replace hB1:=hB1.ext hE; replace hX:=hX.trans hE;clear hE hg2;simp only[zz];refine dX cI rfl ?_;intro w3 g3 hE hg3 hB3;have hG3:=Nat.le_trans hX.size hg3; have hN3_1 : g3 ≠ g1:=Nat.ne_of_gt (Nat.lt_of_lt_of_le hB1.lt hg3); have hN3_2 : g3 ≠ g2:=Nat.ne_of_gt (Nat.lt_of_lt_of_le hB2.lt hg3);replace hB1:=hB1.ext hE; replace hB2:=hB2.ext hE; replace hX:=hX.trans hE;clear hE hg3;simp only[zz];refine aC (hK1 _ _ ?_);refine aF (fun K2 hK2=>?_);refine iW 4 aN (by kernel_rfl) ?_;simp only[zy];refine gL rfl (fun _ hE'=>((hB1.ext hE').lies aR aG rfl rfl)) ?_;simp only[zz];refine gL rfl (fun _ hE'=>((hB2.ext hE').lies aR aG rfl rfl)) ?_;simp only[zz];refine nL rfl rfl (acT hb) ?_;simp only[zz];refine nL rfl rfl (Na ha hb.neg) ?_;simp only[zz];refine dW ?_;intro w4 hE;replace hB3:=hB3.ext hE; replace hX:=hX.trans hE;clear hE;refine cC rfl (by simp only[zz]; rfl) (by exact aG) hB3 (by simp) (by simp [Value.oneCell']) ?_;clear hB3; intro w5 hC hB3;replace hX:=hX.chg hC hG3;clear hC;simp only[zy,zx,aX,Nat.reduceAdd] at hB3;refine aC ?_;rw [← Int.sub_eq_add_neg] at hB3;refine hK2 _ _ (wp_ret ?_);try simp only[Exit.inBlock,Exit.then]
 refine bU rfl ⟨_,rfl,(hB3.lies aR aG rfl rfl)⟩ ?_;try simp only[zD,zE]
 exact ⟨_,rfl,hX,rfl⟩
theorem jY {a b : Int} (ha : Bd 1000000 a) (hb : Bd 1000000 b) : dP prog 38 [W a,W b] (W (a * b)):=by
 intro w;refine ⟨abU,?_⟩;have hX:=dL.refl w;have hla:=pJ ha;have hlb:=pJ hb;have hls:=pJ (Bd.mul ha hb)
 go_enter func38,ntmps38
 refine aF (fun K1 hK1=>wp_region_lit ?_);refine gK (by simp only[zz]; rfl) ?_;intro w1 g1 hE hg1 hB1;have hG1:=Nat.le_trans hX.size hg1;replace hX:=hX.trans hE;clear hE hg1;simp only[zz];refine gK (by simp only[zz]; rfl) ?_;intro w2 g2 hE hg2 hB2;have hG2:=Nat.le_trans hX.size hg2; have hN2_1 : g2 ≠ g1:=Nat.ne_of_gt (Nat.lt_of_lt_of_le hB1.lt hg2);replace hB1:=hB1.ext hE; replace hX:=hX.trans hE;clear hE hg2;simp only[zz];refine dX cI rfl ?_;intro w3 g3 hE hg3 hB3;have hG3:=Nat.le_trans hX.size hg3; have hN3_1 : g3 ≠ g1:=Nat.ne_of_gt (Nat.lt_of_lt_of_le hB1.lt hg3); have hN3_2 : g3 ≠ g2:=Nat.ne_of_gt (Nat.lt_of_lt_of_le hB2.lt hg3);replace hB1:=hB1.ext hE; replace hB2:=hB2.ext hE; replace hX:=hX.trans hE;clear hE hg3;simp only[zz];refine aC (hK1 _ _ ?_);refine aF (fun K2 hK2=>?_);refine dS [(5,true),(7,true),(0,true),(2,true),(6,true),(8,true),(9,true),(1,false),(3,false),(4,false),(10,false),(11,false)] aN (by kernel_rfl) (cW (fun _ _ _ _ _ h=>h)) (ol:=?_) ?hol ?_
 case hol=>simp only[zw,zQ,zR]; try rfl
 intro w4 hE;replace hB1:=hB1.ext hE; replace hB2:=hB2.ext hE; replace hB3:=hB3.ext hE; replace hX:=hX.trans hE;clear hE;refine ⟨_,(jM.blk hB1 (jM.blk hB2 jM.nil)),?_⟩;refine aY (aH (c:=0) gU rfl eJ rfl rfl) (aY (aH (c:=0) gU rfl eJ rfl rfl) ?_);simp only[zz];refine cF rfl (fun _ ⟨hB1,hB2,_⟩=>(hB1.lies aR aG rfl rfl)) ?_;simp only[zz];refine cF rfl (fun _ ⟨hB1,hB2,_⟩=>(hB2.lies aR aG rfl rfl)) ?_;simp only[zz];refine cF rfl (fun _ ⟨hB1,hB2,_⟩=>(hB1.lies1 iV rfl)) ?_;simp only[zz];refine cF rfl (fun _ ⟨hB1,hB2,_⟩=>(hB2.lies1 iV rfl)) ?_;simp only[zz];refine aY (Aw xF rfl rfl) ?_;simp only[zz];refine cZ (bS rfl rfl (uR _ (fF ha)) ?_);rintro v w5 hE ⟨A1,c1,rfl,hN1⟩;replace hB1:=hB1.ext hE; replace hB2:=hB2.ext hE; replace hB3:=hB3.ext hE; replace hX:=hX.trans hE;clear hE;rw [fE] at hN1 ⊢;simp only[zz];refine aC (⟨⟨hB1,hB2,trivial⟩,?_⟩);refine cZ (bS rfl rfl (uR _ (fF hb)) ?_);rintro v w6 hE ⟨A2,c2,rfl,hN2⟩;replace hB1:=hB1.ext hE; replace hB2:=hB2.ext hE; replace hB3:=hB3.ext hE; (try replace hN1:=hN1.ext hE); replace hX:=hX.trans hE;clear hE;rw [fE] at hN2 ⊢;simp only[zz];refine aC (⟨⟨hB1,hB2,trivial⟩,?_⟩);refine cZ (bS rfl rfl (Sk _ hN1 hN2 (Nat.le_trans hla (by decide)) (Nat.le_trans hlb (by decide))) ?_);rintro v w7 hE ⟨A3,c3,rfl,hN3⟩;replace hB1:=hB1.ext hE; replace hB2:=hB2.ext hE; replace hB3:=hB3.ext hE; replace hX:=hX.trans hE;clear hE;simp only[dR] at hN3 ⊢;rw [← Int.natAbs_mul] at hN3 ⊢;simp only[zz];refine aC (⟨⟨hB1,hB2,trivial⟩,?_⟩);refine cZ (bS rfl rfl (qN _ hN3 (Nat.le_trans hls (by decide))) ?_);rintro v w8 hE rfl;replace hB1:=hB1.ext hE; replace hB2:=hB2.ext hE; replace hB3:=hB3.ext hE; replace hX:=hX.trans hE;clear hE;simp only[dR];simp only[zz];refine aC (⟨⟨hB1,hB2,trivial⟩,?_⟩);refine cZ ?_;refine cC rfl (by simp only[zz]; rfl) (by exact aG) hB3 (by simp) (by simp [Value.oneCell']) ?_;clear hB3; intro w9 hC hB3;replace hB1:=hB1.chg hC (by first | exact hN1_3 | exact Ne.symm hN3_1); replace hB2:=hB2.chg hC (by first | exact hN2_3 | exact Ne.symm hN3_2); replace hX:=hX.chg hC hG3;clear hC;simp only[zy,zx,aX,Nat.reduceAdd] at hB3;refine aC (⟨⟨hB1,hB2,trivial⟩,?_⟩);refine bA ?_;rw [Int.natAbs_mul,Ms] at hB3;refine hK2 _ _ (wp_ret ?_);try simp only[Exit.inBlock,Exit.then]
 refine bU rfl ⟨_,rfl,(hB3.lies aR aG rfl rfl)⟩ ?_;try simp only[zD,zE]
 exact ⟨_,rfl,hX,rfl⟩
theorem Bx {a b : Int} (ha : Bd 900000 a) (hb : Bd 900000 b) : dP prog 37 [W a,W b] (.int .i64 (dG (a - b))):=by
 intro w;refine ⟨abT,?_⟩;have hX:=dL.refl w
 go_enter func37,ntmps37
 refine aF (fun K1 hK1=>wp_region_lit ?_);refine gK (by simp only[zz]; rfl) ?_;intro w1 g1 hE hg1 hB1;have hG1:=Nat.le_trans hX.size hg1;replace hX:=hX.trans hE;clear hE hg1;simp only[zz];refine gK (by simp only[zz]; rfl) ?_;intro w2 g2 hE hg2 hB2;have hG2:=Nat.le_trans hX.size hg2; have hN2_1 : g2 ≠ g1:=Nat.ne_of_gt (Nat.lt_of_lt_of_le hB1.lt hg2);replace hB1:=hB1.ext hE; replace hX:=hX.trans hE;clear hE hg2;simp only[zz];refine aA (aD) ?_;simp only[zz];refine aC (hK1 _ _ ?_);refine aF (fun K2 hK2=>wp_region_lit ?_);refine aI rfl (hB1.lies aR aG rfl rfl) ?_;simp only[zz];refine aI rfl (hB2.lies aR aG rfl rfl) ?_;simp only[zz];refine gA rfl rfl (rK (ha.mono (by decide)) (hb.mono (by decide))) ?_;intro w3 hE;replace hX:=hX.trans hE;clear hE;simp only[zz];refine gA rfl rfl (lF ((Bd.sub ha hb).mono (by decide))) ?_;intro w4 hE;replace hX:=hX.trans hE;clear hE;simp only[zz];refine aA (aD) ?_;simp only[zz];refine aC (hK2 _ _ ?_);refine wp_ret ?_;try simp only[Exit.inBlock,Exit.then]
 refine bU rfl rfl ?_;try simp only[zD,zE]
 exact ⟨_,rfl,hX,rfl⟩
theorem lG {n : Int} (h : jG n) : dP prog 40 [.int .i64 n] (W n):=by
 intro w;refine ⟨abW,?_⟩;have hX:=dL.refl w;have hna:=h.natAbs
 go_enter func40,ntmps40
 refine aF (fun K1 hK1=>wp_region_lit ?_);refine dX cI rfl ?_;intro w1 g1 hE hg1 hB1;have hG1:=Nat.le_trans hX.size hg1;replace hX:=hX.trans hE;clear hE hg1;simp only[zz];refine aC (hK1 _ _ ?_);refine aF (fun K2 hK2=>?_);rcases (show n < 0 ∨ 0 ≤ n by omega) with h0 | h0
 ·
  refine wp_region_lit (aA (aB) (aA (eL gM jB rfl (Mv h h0)) (aA (aD) ?_)));simp only[zz];refine aC (hK2 _ _ ?_);refine aF (fun K3 hK3=>aF (fun K4 hK4=>wp_region_lit (aA (aB) (aA (cK rfl rfl (by omega)) ?_))));simp only[zz];refine aC (hK4 _ _ ?_);refine bX rfl (wp_region_lit (aA (aB) (aA (oW rfl (Ej hna (by omega))) (aA (aD) ?_))));simp only[zz];refine aC (hK3 _ _ ?_);refine aF (fun K5 hK5=>wp_region_lit (aA (aB) (aA (sY rfl rfl (zY (by omega))) (aA (aB) ?_))));simp only[zz];refine aA (mL rfl rfl (by omega) Gk) ?_;simp only[zz];refine pA cE (z:=.int .u64 0) (by kernel_rfl) rfl (by simp only[zz]; rfl) (by rfl) (by simp only[zz]; rfl) (by rfl) ?_;intro w2 g2 hE hg2 hB2;have hG2:=Nat.le_trans hX.size hg2; have hN2_1 : g2 ≠ g1:=Nat.ne_of_gt (Nat.lt_of_lt_of_le hB1.lt hg2);replace hB1:=hB1.ext hE; replace hX:=hX.trans hE;clear hE hg2;simp only[zz];refine aA (aB) (aA (cK rfl rfl (by omega)) ?_);simp only[zz];refine bS rfl rfl (qN _ (hB2.nat (os:=[n.natAbs % 4294967296,n.natAbs / 4294967296]) (Bi (by omega)) rfl (by omega)) (by simp)) ?_;rintro v w3 hE rfl;replace hB1:=hB1.ext hE; replace hX:=hX.trans hE;clear hE;simp only[zz];refine cC rfl (by simp only[zz]; rfl) (by exact aG) hB1 (by simp) (by simp [Value.oneCell']) ?_;clear hB1; intro w4 hC hB1;replace hX:=hX.chg hC hG1;clear hC;simp only[zy,zx,aX,Nat.reduceAdd] at hB1;refine aC (hK5 _ _ ?_);refine wp_ret ?_;try simp only[Exit.inBlock,Exit.then]
  refine bU rfl ⟨_,rfl,(hB1.lies aR aG rfl rfl)⟩ ?_;try simp only[zD,zE]
  exact ⟨_,rfl,hX,by rw [Ek,show true = cN n from (decide_eq_true h0).symm,wE]; rfl⟩
 ·
  refine wp_region_lit (aA (aB) (aA (eL gM jB rfl (Se h h0)) (aA (aD) ?_)));simp only[zz];refine aC (hK2 _ _ ?_);refine aF (fun K6 hK6=>aF (fun K7 hK7=>wp_region_lit (aA (aB) (aA (fA rfl rfl (by omega)) ?_))));simp only[zz];refine aC (hK7 _ _ ?_);refine eQ rfl (wp_skip ?_);refine hK6 _ _ (aF (fun K8 hK8=>wp_region_lit (aA (aB) (aA (sY rfl rfl (zY (by omega))) (aA (aB) ?_)))));simp only[zz];refine aA (mL rfl rfl (by omega) Gk) ?_;simp only[zz];refine pA cE (z:=.int .u64 0) (by kernel_rfl) rfl (by simp only[zz]; rfl) (by rfl) (by simp only[zz]; rfl) (by rfl) ?_;intro w2 g2 hE hg2 hB2;have hG2:=Nat.le_trans hX.size hg2; have hN2_1 : g2 ≠ g1:=Nat.ne_of_gt (Nat.lt_of_lt_of_le hB1.lt hg2);replace hB1:=hB1.ext hE; replace hX:=hX.trans hE;clear hE hg2;simp only[zz];refine aA (aB) (aA (fA rfl rfl (by omega)) ?_);simp only[zz];refine bS rfl rfl (qN _ (hB2.nat (os:=[n.natAbs % 4294967296,n.natAbs / 4294967296]) (Bi (by omega)) rfl (by omega)) (by simp)) ?_;rintro v w3 hE rfl;replace hB1:=hB1.ext hE; replace hX:=hX.trans hE;clear hE;simp only[zz];refine cC rfl (by simp only[zz]; rfl) (by exact aG) hB1 (by simp) (by simp [Value.oneCell']) ?_;clear hB1; intro w4 hC hB1;replace hX:=hX.chg hC hG1;clear hC;simp only[zy,zx,aX,Nat.reduceAdd] at hB1;refine aC (hK8 _ _ ?_);refine wp_ret ?_;try simp only[Exit.inBlock,Exit.then]
  refine bU rfl ⟨_,rfl,(hB1.lies aR aG rfl rfl)⟩ ?_;try simp only[zD,zE]
  exact ⟨_,rfl,hX,by rw [Ek,show false = cN n from (decide_eq_false (by omega)).symm,wE]; rfl⟩
theorem Yg {a b : Int} (ha : Bd 1000000 a) (hb : Bd 1000000 b) (h0 : b ≠ 0) : dP prog 132 [W a,W b] (.tuple #[W (a.tdiv b),W (a.tmod b),.bool true]):=by
 intro w;refine ⟨aab,?_⟩;have hX:=dL.refl w;have hla:=pJ ha;have hlb:=pJ hb;have hq:=pJ (show Bd 1000000 (a.tdiv b) from ha.of_le (by rw [Int.natAbs_tdiv]; exact Nat.div_le_self ..));have hr:=pJ (show Bd 1000000 (a.tmod b) from ha.of_le (by rw [Int.natAbs_tmod]; exact Nat.mod_le ..));rw [Int.natAbs_tdiv] at hq;rw [Int.natAbs_tmod] at hr
 go_enter func132,ntmps132
 refine aF (fun K1 hK1=>wp_region_lit ?_);refine gK (by simp only[zz]; rfl) ?_;intro w1 g1 hE hg1 hB1;have hG1:=Nat.le_trans hX.size hg1;replace hX:=hX.trans hE;clear hE hg1;simp only[zz];refine gK (by simp only[zz]; rfl) ?_;intro w2 g2 hE hg2 hB2;have hG2:=Nat.le_trans hX.size hg2; have hN2_1 : g2 ≠ g1:=Nat.ne_of_gt (Nat.lt_of_lt_of_le hB1.lt hg2);replace hB1:=hB1.ext hE; replace hX:=hX.trans hE;clear hE hg2;simp only[zz];refine dX cI rfl ?_;intro w3 g3 hE hg3 hB3;have hG3:=Nat.le_trans hX.size hg3; have hN3_1 : g3 ≠ g1:=Nat.ne_of_gt (Nat.lt_of_lt_of_le hB1.lt hg3); have hN3_2 : g3 ≠ g2:=Nat.ne_of_gt (Nat.lt_of_lt_of_le hB2.lt hg3);replace hB1:=hB1.ext hE; replace hB2:=hB2.ext hE; replace hX:=hX.trans hE;clear hE hg3;simp only[zz];refine dX cI rfl ?_;intro w4 g4 hE hg4 hB4;have hG4:=Nat.le_trans hX.size hg4; have hN4_1 : g4 ≠ g1:=Nat.ne_of_gt (Nat.lt_of_lt_of_le hB1.lt hg4); have hN4_2 : g4 ≠ g2:=Nat.ne_of_gt (Nat.lt_of_lt_of_le hB2.lt hg4); have hN4_3 : g4 ≠ g3:=Nat.ne_of_gt (Nat.lt_of_lt_of_le hB3.lt hg4);replace hB1:=hB1.ext hE; replace hB2:=hB2.ext hE; replace hB3:=hB3.ext hE; replace hX:=hX.trans hE;clear hE hg4;simp only[zz];refine aA (aD) ?_;simp only[zz];refine aC (hK1 _ _ ?_);refine aF (fun K2 hK2=>wp_region_lit ?_);refine aI rfl (hB2.lies aR aG rfl rfl) ?_;simp only[zz];refine bS rfl rfl (uR _ (fF hb)) ?_;rintro v w5 hE ⟨A1,c1,rfl,hN1⟩;replace hB1:=hB1.ext hE; replace hB2:=hB2.ext hE; replace hB3:=hB3.ext hE; replace hB4:=hB4.ext hE; replace hX:=hX.trans hE;clear hE;rw [fE] at hN1 ⊢;simp only[zz];refine aA (aD) ?_;simp only[zz];refine aC (hK2 _ _ ?_);refine aF (fun K3 hK3=>aF (fun K4 hK4=>wp_region_lit (aA (aB) (aA (bR rfl cE rfl) (aA (kL rfl rfl (fun e=>h0 (Gq.1 e))) ?_)))));simp only[zz];refine aC (hK4 _ _ ?_);refine eQ rfl (wp_skip ?_);refine hK3 _ _ (aF (fun K5 hK5=>wp_region_lit ?_));refine aI rfl (hB1.lies aR aG rfl rfl) ?_;simp only[zz];refine bS rfl rfl (uR _ (fF ha)) ?_;rintro v w6 hE ⟨A2,c2,rfl,hN2⟩;replace hB1:=hB1.ext hE; replace hB2:=hB2.ext hE; replace hB3:=hB3.ext hE; replace hB4:=hB4.ext hE; (try replace hN1:=hN1.ext hE); replace hX:=hX.trans hE;clear hE;rw [fE] at hN2 ⊢;simp only[zz];refine aA (aB) ?_;simp only[zz];refine bS rfl rfl (Yf _ hN2 hN1 (iJ _) (iJ _) (by rw [dR]; omega) (Nat.le_trans hla (by decide)) (Nat.le_trans hlb (by decide))) ?_;rintro v w7 hE ⟨_,_,rfl,⟨A3,c3,rfl,hN3⟩,⟨A4,c4,rfl,hN4⟩⟩;replace hB1:=hB1.ext hE; replace hB2:=hB2.ext hE; replace hB3:=hB3.ext hE; replace hB4:=hB4.ext hE; replace hX:=hX.trans hE;clear hE;simp only[dR] at hN3 hN4 ⊢;simp only[zz];refine aA (aB) (aA (aT rfl rfl) (aA (aT rfl rfl) ?_));simp only[zz];refine aA (aD) (aA (aD) ?_);simp only[zz];refine aC (hK5 _ _ ?_);refine aF (fun K6 hK6=>?_);refine dS [(0,true),(1,true),(3,true),(7,true),(8,true),(2,true),(4,true),(5,true),(9,true),(6,false),(10,false),(11,false),(12,false),(13,true)] aN (by kernel_rfl) (cW (fun _ _ _ _ _ h=>h)) (ol:=?_) ?hol ?_
 case hol=>simp only[zw,zQ,zR]; try rfl
 intro w8 hE;replace hB1:=hB1.ext hE; replace hB2:=hB2.ext hE; replace hB3:=hB3.ext hE; replace hB4:=hB4.ext hE; (try replace hN3:=hN3.ext hE); (try replace hN4:=hN4.ext hE); replace hX:=hX.trans hE;clear hE;refine ⟨_,(jM.blk hB1 (jM.blk hB2 jM.nil)),?_⟩;refine aY (aB) (aY (aH (c:=0) gU rfl eJ rfl rfl) (aY (aH (c:=0) gU rfl eJ rfl rfl) ?_));simp only[zz];refine aY (aB) (aY (aH (c:=0) gU rfl eJ rfl rfl) ?_);simp only[zz];refine cF rfl (fun _ ⟨hB1,hB2,_⟩=>(hB1.lies1 iV rfl)) ?_;simp only[zz];refine cF rfl (fun _ ⟨hB1,hB2,_⟩=>(hB2.lies1 iV rfl)) ?_;simp only[zz];refine aY (Aw xF rfl rfl) ?_;simp only[zz];refine cF rfl (fun _ ⟨hB1,hB2,_⟩=>(hB1.lies1 iV rfl)) ?_;simp only[zz];refine cZ (bS rfl rfl (qN _ hN3 (Nat.le_trans hq (by decide))) ?_);rintro v w9 hE rfl;replace hB1:=hB1.ext hE; replace hB2:=hB2.ext hE; replace hB3:=hB3.ext hE; replace hB4:=hB4.ext hE; (try replace hN4:=hN4.ext hE); replace hX:=hX.trans hE;clear hE;simp only[dR,Mt];simp only[zz];refine aC (⟨⟨hB1,hB2,trivial⟩,?_⟩);refine cZ (bS rfl rfl (qN _ hN4 (Nat.le_trans hr (by decide))) ?_);rintro v w10 hE rfl;replace hB1:=hB1.ext hE; replace hB2:=hB2.ext hE; replace hB3:=hB3.ext hE; replace hB4:=hB4.ext hE; replace hX:=hX.trans hE;clear hE;simp only[dR,Mu];simp only[zz];refine aC (⟨⟨hB1,hB2,trivial⟩,?_⟩);refine cZ ?_;refine cC rfl (by simp only[zz]; rfl) (by exact aG) hB3 (by simp) (by simp [Value.oneCell']) ?_;clear hB3; intro w11 hC hB3;replace hB1:=hB1.chg hC (by first | exact hN1_3 | exact Ne.symm hN3_1); replace hB2:=hB2.chg hC (by first | exact hN2_3 | exact Ne.symm hN3_2); replace hB4:=hB4.chg hC (by first | exact hN4_3 | exact Ne.symm hN3_4); replace hX:=hX.chg hC hG3;clear hC;simp only[zy,zx,aX,Nat.reduceAdd] at hB3;refine aC (⟨⟨hB1,hB2,trivial⟩,?_⟩);refine cZ ?_;refine cC rfl (by simp only[zz]; rfl) (by exact aG) hB4 (by simp) (by simp [Value.oneCell']) ?_;clear hB4; intro w12 hC hB4;replace hB1:=hB1.chg hC (by first | exact hN1_4 | exact Ne.symm hN4_1); replace hB2:=hB2.chg hC (by first | exact hN2_4 | exact Ne.symm hN4_2); replace hB3:=hB3.chg hC (by first | exact hN3_4 | exact Ne.symm hN4_3); replace hX:=hX.chg hC hG4;clear hC;simp only[zy,zx,aX,Nat.reduceAdd] at hB4;refine aC (⟨⟨hB1,hB2,trivial⟩,?_⟩);refine aY (aD) ?_;simp only[zz];refine bA (hK6 _ _ ?_);refine wp_ret ?_;try simp only[Exit.inBlock,Exit.then]
 refine oJ rfl ⟨_,rfl,(hB3.lies aR aG rfl rfl)⟩ ⟨_,rfl,(hB4.lies aR aG rfl rfl)⟩ rfl ?_;try simp only[zD,zE]
 exact ⟨_,rfl,hX,rfl⟩
theorem acU {a b : Int} (ha : Bd 1000000 a) (hb : Bd 1000000 b) : dP prog 131 [W a,W b] (W (Int.gcd a b : Int)):=by
 intro w;refine ⟨aaa,?_⟩;have hX:=dL.refl w;obtain ⟨K,hK⟩ : ∃ K,K = 2 ^ 1000000:=⟨_,rfl⟩
 have ha' : a.natAbs < K:=by rw [hK]; exact ha
 have hb' : b.natAbs < K:=by rw [hK]; exact hb
 have hlen : ∀ V : Nat,V < K → (digs 4294967296 V).length ≤ 1000000:=fun V h=>pI (by rw [← hK]; exact h);clear hK
 go_enter func131,ntmps131
 refine aF (fun K1 hK1=>wp_region_lit ?_);refine gK (by simp only[zz]; rfl) ?_;intro w1 g1 hE hg1 hB1;have hG1:=Nat.le_trans hX.size hg1;replace hX:=hX.trans hE;clear hE hg1;simp only[zz];refine gK (by simp only[zz]; rfl) ?_;intro w2 g2 hE hg2 hB2;have hG2:=Nat.le_trans hX.size hg2; have hN2_1 : g2 ≠ g1:=Nat.ne_of_gt (Nat.lt_of_lt_of_le hB1.lt hg2);replace hB1:=hB1.ext hE; replace hX:=hX.trans hE;clear hE hg2;simp only[zz];refine dX cI rfl ?_;intro w3 g3 hE hg3 hB3;have hG3:=Nat.le_trans hX.size hg3; have hN3_1 : g3 ≠ g1:=Nat.ne_of_gt (Nat.lt_of_lt_of_le hB1.lt hg3); have hN3_2 : g3 ≠ g2:=Nat.ne_of_gt (Nat.lt_of_lt_of_le hB2.lt hg3);replace hB1:=hB1.ext hE; replace hB2:=hB2.ext hE; replace hX:=hX.trans hE;clear hE hg3;simp only[zz];refine aC (hK1 _ _ ?_);refine aF (fun K2 hK2=>?_);refine dS [(0,true),(2,true),(1,false),(3,false),(4,true),(5,true)] aN (by kernel_rfl) (cW (fun _ _ _ _ _ h=>h)) (ol:=?_) ?hol ?_
 case hol=>simp only[zw,zQ,zR]; try rfl
 intro w4 hE;replace hB1:=hB1.ext hE; replace hB2:=hB2.ext hE; replace hB3:=hB3.ext hE; replace hX:=hX.trans hE;clear hE;refine ⟨_,(jM.blk hB1 (jM.blk hB2 jM.nil)),?_⟩;refine cF rfl (fun _ ⟨hB1,hB2,_⟩=>(hB1.lies aR aG rfl rfl)) ?_;simp only[zz];refine cF rfl (fun _ ⟨hB1,hB2,_⟩=>(hB2.lies aR aG rfl rfl)) ?_;simp only[zz];refine cZ (bS rfl rfl (uR _ (fF ha)) ?_);rintro v w5 hE ⟨A1,c1,rfl,hN1⟩;replace hB1:=hB1.ext hE; replace hB2:=hB2.ext hE; replace hB3:=hB3.ext hE; replace hX:=hX.trans hE;clear hE;rw [fE] at hN1 ⊢;simp only[zz];refine aC (⟨⟨hB1,hB2,trivial⟩,?_⟩);refine cZ (bS rfl rfl (uR _ (fF hb)) ?_);rintro v w6 hE ⟨A2,c2,rfl,hN2⟩;replace hB1:=hB1.ext hE; replace hB2:=hB2.ext hE; replace hB3:=hB3.ext hE; (try replace hN1:=hN1.ext hE); replace hX:=hX.trans hE;clear hE;rw [fE] at hN2 ⊢;simp only[zz];refine aC (⟨⟨hB1,hB2,trivial⟩,?_⟩);refine aY (aD) (aY (aD) ?_);simp only[zz];refine bA (hK2 _ _ ?_);refine aF (fun K3 hK3=>wp_block ?_);refine dI [5,6] [7,8,13,14,15,16,17,18,19,20,21,22,23] (fun n vs wl=>∃ (X Y : Nat) (A1 A2 : Option Addr) (c1 c2 : Nat),vs = [.slice A1 (digs 4294967296 X).length c1,.slice A2 (digs 4294967296 Y).length c2] ∧ (dL w wl) ∧ (fW wl g3 [.bool false,.string ⟨#[]⟩] 35) ∧ (eC wl A1 (digs 4294967296 X).length c1 (digs 4294967296 X)) ∧ (eC wl A2 (digs 4294967296 Y).length c2 (digs 4294967296 Y)) ∧ (Nat.gcd X Y = Int.gcd a b) ∧ (X < K) ∧ (Y < K) ∧ (n = Y)) ?_ ?_
 ·
  apply Exists.intro;simp only[zQ,zR,zD,zE];exact ⟨a.natAbs,b.natAbs,A1,A2,c1,c2,rfl,hX,hB3,hN1,hN2,rfl,ha',hb',rfl⟩
 ·
  intro n vs wr hI u;obtain ⟨X,Y,A1,A2,c1,c2,rfl,hX,hB3,hN1,hN2,hg,hXK,hYK,hn⟩:=hI;simp only[zv,zF,zG];refine aF (fun K4 hK4=>aF (fun K5 hK5=>wp_region_lit (aA (aB) (aA (bR rfl cE rfl) (aA (gS rfl rfl) ?_)))));simp only[zz];refine aC (hK5 _ _ ?_);refine cQ rfl (fun hc1=>?_) (fun hc1=>?_)
  ·
   have hY0 : 0 < Y:=by
    rcases Nat.eq_zero_or_pos Y with h | h
    · subst h; exact absurd hc1 (by decide)
    · exact h
   refine wp_skip ?_;refine hK4 _ _ (wp_block (aF (fun K6 hK6=>wp_region_lit (aA (aB) (aA (aB) ?_)))));simp only[zz];refine bS rfl rfl (Yf _ hN1 hN2 (iJ _) (iJ _) (by rw [dR]; exact hY0) (Nat.le_trans (hlen _ hXK) (by decide)) (Nat.le_trans (hlen _ hYK) (by decide))) ?_;rintro v w7 hE ⟨_,_,rfl,⟨A3,c3,rfl,hN3⟩,⟨A4,c4,rfl,hN4⟩⟩;replace hB3:=hB3.ext hE; (try replace hN2:=hN2.ext hE); replace hX:=hX.trans hE;clear hE;simp only[dR] at hN3 hN4 ⊢;simp only[zz];refine aA (aB) (aA (aT rfl rfl) (aA (aT rfl rfl) ?_));simp only[zz];refine aA (aD) (aA (aD) ?_);simp only[zz];refine aC (hK6 _ _ ?_);refine wp_region_lit (aA (aB) (aA (aB) (aA (aD) ?_)));simp only[zz];refine aA (aD) ?_;simp only[zz];refine aC ?_;simp only[Exit.inBlock,Exit.then];refine ⟨X % Y,_,?_,rfl,?_,?_⟩
   · rw [hn]; exact Nat.mod_lt _ hY0
   · simp only[zz,zv]
   ·
    simp only[zQ,zR,zD,zE];exact ⟨Y,X % Y,A2,A4,c2,c4,rfl,hX,hB3,hN2,hN4,Iv.trans hg,hYK,Nat.lt_of_le_of_lt (Nat.mod_le _ _) hXK,rfl⟩
  ·
   obtain rfl : Y = 0:=(mA (B:=4294967296) (by omega)).1 (List.eq_nil_of_length_eq_zero (by omega));rw [Nat.gcd_zero_right] at hg;subst hg;refine wp_exit (hK3 _ _ ?_);refine aF (fun K7 hK7=>wp_region_lit (aA (aB) ?_));simp only[zz];refine bS rfl rfl (qN _ hN1 (Nat.le_trans (hlen _ hXK) (by decide))) ?_;rintro v w7 hE rfl;replace hB3:=hB3.ext hE; replace hX:=hX.trans hE;clear hE;simp only[dR];simp only[zz];refine cC rfl (by simp only[zz]; rfl) (by exact aG) hB3 (by simp) (by simp [Value.oneCell']) ?_;clear hB3; intro w8 hC hB3;replace hX:=hX.chg hC hG3;clear hC;simp only[zy,zx,aX,Nat.reduceAdd] at hB3;refine aC (hK7 _ _ ?_);refine wp_ret ?_;try simp only[Exit.inBlock,Exit.then]
   refine bU rfl ⟨_,rfl,(hB3.lies aR aG rfl rfl)⟩ ?_;try simp only[zD,zE]
   exact ⟨_,rfl,hX,by rw [mE]; rfl⟩
end Go.Proofs.YtimjandkmfcmiaaGreatDoor
namespace Go.Proofs.YtimjandkmfcmiaaGreatDoor
open Tryz
open Go.RowKit Go.Lith
set_option maxRecDepth 100000
attribute [local irreducible] wpList wpQuiet eS Code.wp
theorem aaT {n d : Int} (hn : Bd 400000 n) (hd : Bd 400000 d) (h0 : d ≠ 0) : dP prog 103 [W n,W d] (.tuple #[Q (Rat.divInt n d),.bool true]):=by
 intro w;refine ⟨Zc,?_⟩;have hX:=dL.refl w;obtain ⟨e1,hg0⟩:=Bj (n:=n) h0;have e2:=Bk (n:=n) h0;have hn':=hn.mono (show 400000 ≤ 1000000 by decide);have hd':=hd.mono (show 400000 ≤ 1000000 by decide);have hs : jG (dG d):=by unfold jG dG; split <;> (try split) <;> omega
 have hs1 : Bd 1 (dG d):=by unfold Bd dG; split <;> (try split) <;> decide
 have hg : Bd 400001 ((Int.gcd n d : Int)):=by
  have h1 : Int.gcd n d ∣ d.natAbs:=Nat.gcd_dvd_right ..;have h2:=Nat.le_of_dvd (by omega) h1;exact (hd.of_le (by simpa using h2)).mono (by decide)
 have hG : Bd 1000000 ((Int.gcd n d : Int) * dG d):=(hg.mul hs1).mono (by decide)
 go_enter func103,ntmps103
 refine aF (fun K1 hK1=>wp_region_lit ?_);refine gK (by simp only[zz]; rfl) ?_;intro w1 g1 hE hg1 hB1;have hG1:=Nat.le_trans hX.size hg1;replace hX:=hX.trans hE;clear hE hg1;simp only[zz];refine gK (by simp only[zz]; rfl) ?_;intro w2 g2 hE hg2 hB2;have hG2:=Nat.le_trans hX.size hg2; have hN2_1 : g2 ≠ g1:=Nat.ne_of_gt (Nat.lt_of_lt_of_le hB1.lt hg2);replace hB1:=hB1.ext hE; replace hX:=hX.trans hE;clear hE hg2;simp only[zz];refine dX cD rfl ?_;intro w3 g3 hE hg3 hB3;have hG3:=Nat.le_trans hX.size hg3; have hN3_1 : g3 ≠ g1:=Nat.ne_of_gt (Nat.lt_of_lt_of_le hB1.lt hg3); have hN3_2 : g3 ≠ g2:=Nat.ne_of_gt (Nat.lt_of_lt_of_le hB2.lt hg3);replace hB1:=hB1.ext hE; replace hB2:=hB2.ext hE; replace hX:=hX.trans hE;clear hE hg3;simp only[zz];refine aA (aD) ?_;simp only[zz];refine aC (hK1 _ _ ?_);refine aF (fun K2 hK2=>wp_region_lit ?_);refine aI rfl (hB2.lies aR aG rfl rfl) ?_;simp only[zz];refine gA rfl rfl (lF hd') ?_;intro w4 hE;replace hB1:=hB1.ext hE; replace hB2:=hB2.ext hE; replace hB3:=hB3.ext hE; replace hX:=hX.trans hE;clear hE;simp only[zz];refine aA (aD) ?_;simp only[zz];refine aC (hK2 _ _ ?_);refine aF (fun K3 hK3=>aF (fun K4 hK4=>wp_region_lit (aA (aB) (aA (kL rfl rfl (by unfold dG; split <;> (try split) <;> omega)) ?_))));simp only[zz];refine aC (hK4 _ _ ?_);refine eQ rfl (wp_skip ?_);refine hK3 _ _ (aF (fun K5 hK5=>wp_region_lit ?_));refine aI rfl (hB1.lies aR aG rfl rfl) ?_;simp only[zz];refine aI rfl (hB2.lies aR aG rfl rfl) ?_;simp only[zz];refine gA rfl rfl (acU hn' hd') ?_;intro w5 hE;replace hB1:=hB1.ext hE; replace hB2:=hB2.ext hE; replace hB3:=hB3.ext hE; replace hX:=hX.trans hE;clear hE;simp only[zz];refine aA (aB) ?_;simp only[zz];refine gA rfl rfl (lG hs) ?_;intro w6 hE;replace hB1:=hB1.ext hE; replace hB2:=hB2.ext hE; replace hB3:=hB3.ext hE; replace hX:=hX.trans hE;clear hE;simp only[zz];refine gA rfl rfl (jY (hg.mono (by decide)) (hs1.mono (by decide))) ?_;intro w7 hE;replace hB1:=hB1.ext hE; replace hB2:=hB2.ext hE; replace hB3:=hB3.ext hE; replace hX:=hX.trans hE;clear hE;simp only[zz];refine dX cI rfl ?_;intro w8 g4 hE hg4 hB4;have hG4:=Nat.le_trans hX.size hg4; have hN4_1 : g4 ≠ g1:=Nat.ne_of_gt (Nat.lt_of_lt_of_le hB1.lt hg4); have hN4_2 : g4 ≠ g2:=Nat.ne_of_gt (Nat.lt_of_lt_of_le hB2.lt hg4); have hN4_3 : g4 ≠ g3:=Nat.ne_of_gt (Nat.lt_of_lt_of_le hB3.lt hg4);replace hB1:=hB1.ext hE; replace hB2:=hB2.ext hE; replace hB3:=hB3.ext hE; replace hX:=hX.trans hE;clear hE hg4;simp only[zz];refine cC rfl (by simp only[zz]; rfl) (by exact aG) hB4 (by simp) (by simp [Value.oneCell']) ?_;clear hB4; intro w9 hC hB4;replace hB1:=hB1.chg hC (by first | exact hN1_4 | exact Ne.symm hN4_1); replace hB2:=hB2.chg hC (by first | exact hN2_4 | exact Ne.symm hN4_2); replace hB3:=hB3.chg hC (by first | exact hN3_4 | exact Ne.symm hN4_3); replace hX:=hX.chg hC hG4;clear hC;simp only[zy,zx,aX,Nat.reduceAdd] at hB4;refine aC (hK5 _ _ ?_);refine aF (fun K6 hK6=>wp_region_lit ?_);refine aI rfl (hB1.lies aR aG rfl rfl) ?_;simp only[zz];refine aI rfl (hB4.lies aR aG rfl rfl) ?_;simp only[zz];refine gA rfl rfl (Yg hn' hG hg0) ?_;intro w10 hE;replace hB1:=hB1.ext hE; replace hB2:=hB2.ext hE; replace hB3:=hB3.ext hE; replace hB4:=hB4.ext hE; replace hX:=hX.trans hE;clear hE;simp only[zz];refine aA (aB) (aA (aT rfl rfl) (aA (aT rfl rfl) ?_));simp only[zz];refine aA (aT rfl rfl) ?_;simp only[zz];refine cC rfl (by simp only[zz]; rfl) (by exact aG) hB1 (by simp) (by simp [Value.oneCell']) ?_;clear hB1; intro w11 hC hB1;replace hB2:=hB2.chg hC (by first | exact hN2_1 | exact Ne.symm hN1_2); replace hB3:=hB3.chg hC (by first | exact hN3_1 | exact Ne.symm hN1_3); replace hB4:=hB4.chg hC (by first | exact hN4_1 | exact Ne.symm hN1_4); replace hX:=hX.chg hC hG1;clear hC;simp only[zy,zx,aX,Nat.reduceAdd] at hB1;refine aC (hK6 _ _ ?_);refine aF (fun K7 hK7=>wp_region_lit ?_);refine aI rfl (hB2.lies aR aG rfl rfl) ?_;simp only[zz];refine aI rfl (hB4.lies aR aG rfl rfl) ?_;simp only[zz];refine gA rfl rfl (Yg hd' hG hg0) ?_;intro w12 hE;replace hB2:=hB2.ext hE; replace hB3:=hB3.ext hE; replace hB1:=hB1.ext hE; replace hX:=hX.trans hE;clear hE;simp only[zz];refine aA (aB) (aA (aT rfl rfl) (aA (aT rfl rfl) ?_));simp only[zz];refine aA (aT rfl rfl) ?_;simp only[zz];refine cC rfl (by simp only[zz]; rfl) (by exact aG) hB2 (by simp) (by simp [Value.oneCell']) ?_;clear hB2; intro w13 hC hB2;replace hB3:=hB3.chg hC (by first | exact hN3_2 | exact Ne.symm hN2_3); replace hB1:=hB1.chg hC (by first | exact hN1_2 | exact Ne.symm hN2_1); replace hX:=hX.chg hC hG2;clear hC;simp only[zy,zx,aX,Nat.reduceAdd] at hB2;refine aC (hK7 _ _ ?_);refine aF (fun K8 hK8=>wp_region_lit ?_);refine aI rfl (hB1.lies aR aG rfl rfl) ?_;simp only[zz];refine aI rfl (hB2.lies aR aG rfl rfl) ?_;simp only[zz];refine aA (gG rfl rfl) ?_;simp only[zz];refine cC rfl (by simp only[zz]; rfl) (by exact aK) hB3 (by simp) (by simp [Value.oneCell']) ?_;clear hB3; intro w14 hC hB3;replace hX:=hX.chg hC hG3;clear hC;simp only[zy,zx,aX,Nat.reduceAdd] at hB3;refine aA (aD) ?_;simp only[zz];refine aC (hK8 _ _ ?_);refine wp_ret ?_;try simp only[Exit.inBlock,Exit.then]
 refine jL rfl ⟨_,rfl,(hB3.lies bB aK rfl rfl)⟩ rfl ?_;try simp only[zD,zE]
 exact ⟨_,rfl,hX,by rw [e1,e2] at *; rfl⟩
theorem Nb {q : Rat} (hq : Bq 400000 q) : dP prog 36 [Q q] (.tuple #[W q.num,W q.den]):=by
 intro w;refine ⟨abS,?_⟩;have hX:=dL.refl w;have h0 : (0 : Int) < q.den:=by have:=q.den_pos; omega
 have hd:=hq.d.mono (show 400000 ≤ 1000000 by decide)
 go_enter func36,ntmps36
 refine aF (fun K1 hK1=>wp_region_lit ?_);refine gK (by simp only[zz]; rfl) ?_;intro w1 g1 hE hg1 hB1;have hG1:=Nat.le_trans hX.size hg1;replace hX:=hX.trans hE;clear hE hg1;simp only[zz];refine dX cI rfl ?_;intro w2 g2 hE hg2 hB2;have hG2:=Nat.le_trans hX.size hg2; have hN2_1 : g2 ≠ g1:=Nat.ne_of_gt (Nat.lt_of_lt_of_le hB1.lt hg2);replace hB1:=hB1.ext hE; replace hX:=hX.trans hE;clear hE hg2;simp only[zz];refine dX cI rfl ?_;intro w3 g3 hE hg3 hB3;have hG3:=Nat.le_trans hX.size hg3; have hN3_1 : g3 ≠ g1:=Nat.ne_of_gt (Nat.lt_of_lt_of_le hB1.lt hg3); have hN3_2 : g3 ≠ g2:=Nat.ne_of_gt (Nat.lt_of_lt_of_le hB2.lt hg3);replace hB1:=hB1.ext hE; replace hB2:=hB2.ext hE; replace hX:=hX.trans hE;clear hE hg3;simp only[zz];refine aC (hK1 _ _ ?_);refine aF (fun K2 hK2=>aF (fun K3 hK3=>wp_region_lit (aA (aH (c:=1) kU rfl aG rfl rfl) ?_)));simp only[zz];refine aI rfl (hB1.lies aR aG rfl rfl) ?_;simp only[zz];refine gA rfl rfl (lF (a:=(q.den : Int)) hd) ?_;intro w4 hE;replace hB1:=hB1.ext hE; replace hB2:=hB2.ext hE; replace hB3:=hB3.ext hE; replace hX:=hX.trans hE;clear hE;simp only[zz];refine aA (kT rfl rfl (by rw [lA h0]; decide)) ?_;simp only[zz];refine aC (hK3 _ _ ?_);refine bX rfl (aF (fun K4 hK4=>?_));refine dS [(0,true),(2,true),(1,true),(3,true),(4,false),(5,false)] aN (by kernel_rfl) (cW (fun _ _ _ _ _ h=>h)) (ol:=?_) ?hol ?_
 case hol=>simp only[zw,zQ,zR]; try rfl
 intro w5 hE;replace hB1:=hB1.ext hE; replace hB2:=hB2.ext hE; replace hB3:=hB3.ext hE; replace hX:=hX.trans hE;clear hE;refine ⟨_,(jM.blk hB1 jM.nil),?_⟩;refine aY (aH (c:=1) kU rfl aG rfl rfl) (aY (aH (c:=1) kU rfl aG rfl rfl) ?_);simp only[zz];refine cF rfl (fun _ ⟨hB1,_⟩=>(hB1.lies aR aG rfl rfl)) ?_;simp only[zz];refine cF rfl (fun _ ⟨hB1,_⟩=>(hB1.lies aR aG rfl rfl)) ?_;simp only[zz];refine cZ ?_;refine cC rfl (by simp only[zz]; rfl) (by exact aG) hB2 (by simp) (by simp [Value.oneCell']) ?_;clear hB2; intro w6 hC hB2;replace hB1:=hB1.chg hC (by first | exact hN1_2 | exact Ne.symm hN2_1); replace hB3:=hB3.chg hC (by first | exact hN3_2 | exact Ne.symm hN2_3); replace hX:=hX.chg hC hG2;clear hC;simp only[zy,zx,aX,Nat.reduceAdd] at hB2;refine aC (⟨⟨hB1,trivial⟩,?_⟩);refine cZ ?_;refine cC rfl (by simp only[zz]; rfl) (by exact aG) hB3 (by simp) (by simp [Value.oneCell']) ?_;clear hB3; intro w7 hC hB3;replace hB1:=hB1.chg hC (by first | exact hN1_3 | exact Ne.symm hN3_1); replace hB2:=hB2.chg hC (by first | exact hN2_3 | exact Ne.symm hN3_2); replace hX:=hX.chg hC hG3;clear hC;simp only[zy,zx,aX,Nat.reduceAdd] at hB3;refine aC (⟨⟨hB1,trivial⟩,?_⟩);refine bA (hK4 _ _ ?_);refine wp_ret ?_;try simp only[Exit.inBlock,Exit.then]
 refine jL rfl ⟨_,rfl,(hB2.lies aR aG rfl rfl)⟩ ⟨_,rfl,(hB3.lies aR aG rfl rfl)⟩ ?_;try simp only[zD,zE]
 exact ⟨_,rfl,hX,rfl⟩
theorem jW {p q : Rat} (hp : Bq 400000 p) (hq : Bq 400000 q) : dP prog 20 [Q p,Q q] (.int .i64 (Gr p q)):=by
 intro w;refine ⟨abF,?_⟩;have hX:=dL.refl w
 go_enter func20,ntmps20
 refine aF (fun K1 hK1=>wp_region_lit ?_);refine gK (by simp only[zz]; rfl) ?_;intro w1 g1 hE hg1 hB1;have hG1:=Nat.le_trans hX.size hg1;replace hX:=hX.trans hE;clear hE hg1;simp only[zz];refine gK (by simp only[zz]; rfl) ?_;intro w2 g2 hE hg2 hB2;have hG2:=Nat.le_trans hX.size hg2; have hN2_1 : g2 ≠ g1:=Nat.ne_of_gt (Nat.lt_of_lt_of_le hB1.lt hg2);replace hB1:=hB1.ext hE; replace hX:=hX.trans hE;clear hE hg2;simp only[zz];refine aA (aD) ?_;simp only[zz];refine aC (hK1 _ _ ?_);refine aF (fun K2 hK2=>wp_region_lit ?_);refine aI rfl (hB1.lies bB aK rfl rfl) ?_;simp only[zz];refine gA rfl rfl (Nb hp) ?_;intro w3 hE;replace hB1:=hB1.ext hE; replace hB2:=hB2.ext hE; replace hX:=hX.trans hE;clear hE;simp only[zz];refine aA (aB) (aA (aT rfl rfl) (aA (aT rfl rfl) ?_));simp only[zz];refine dX cI rfl ?_;intro w4 g3 hE hg3 hB3;have hG3:=Nat.le_trans hX.size hg3; have hN3_1 : g3 ≠ g1:=Nat.ne_of_gt (Nat.lt_of_lt_of_le hB1.lt hg3); have hN3_2 : g3 ≠ g2:=Nat.ne_of_gt (Nat.lt_of_lt_of_le hB2.lt hg3);replace hB1:=hB1.ext hE; replace hB2:=hB2.ext hE; replace hX:=hX.trans hE;clear hE hg3;simp only[zz];refine dX cI rfl ?_;intro w5 g4 hE hg4 hB4;have hG4:=Nat.le_trans hX.size hg4; have hN4_1 : g4 ≠ g1:=Nat.ne_of_gt (Nat.lt_of_lt_of_le hB1.lt hg4); have hN4_2 : g4 ≠ g2:=Nat.ne_of_gt (Nat.lt_of_lt_of_le hB2.lt hg4); have hN4_3 : g4 ≠ g3:=Nat.ne_of_gt (Nat.lt_of_lt_of_le hB3.lt hg4);replace hB1:=hB1.ext hE; replace hB2:=hB2.ext hE; replace hB3:=hB3.ext hE; replace hX:=hX.trans hE;clear hE hg4;simp only[zz];refine cC rfl (by simp only[zz]; rfl) (by exact aG) hB3 (by simp) (by simp [Value.oneCell']) ?_;clear hB3; intro w6 hC hB3;replace hB1:=hB1.chg hC (by first | exact hN1_3 | exact Ne.symm hN3_1); replace hB2:=hB2.chg hC (by first | exact hN2_3 | exact Ne.symm hN3_2); replace hB4:=hB4.chg hC (by first | exact hN4_3 | exact Ne.symm hN3_4); replace hX:=hX.chg hC hG3;clear hC;simp only[zy,zx,aX,Nat.reduceAdd] at hB3;refine cC rfl (by simp only[zz]; rfl) (by exact aG) hB4 (by simp) (by simp [Value.oneCell']) ?_;clear hB4; intro w7 hC hB4;replace hB1:=hB1.chg hC (by first | exact hN1_4 | exact Ne.symm hN4_1); replace hB2:=hB2.chg hC (by first | exact hN2_4 | exact Ne.symm hN4_2); replace hB3:=hB3.chg hC (by first | exact hN3_4 | exact Ne.symm hN4_3); replace hX:=hX.chg hC hG4;clear hC;simp only[zy,zx,aX,Nat.reduceAdd] at hB4;refine aC (hK2 _ _ ?_);refine aF (fun K3 hK3=>wp_region_lit ?_);refine aI rfl (hB2.lies bB aK rfl rfl) ?_;simp only[zz];refine gA rfl rfl (Nb hq) ?_;intro w8 hE;replace hB1:=hB1.ext hE; replace hB2:=hB2.ext hE; replace hB3:=hB3.ext hE; replace hB4:=hB4.ext hE; replace hX:=hX.trans hE;clear hE;simp only[zz];refine aA (aB) (aA (aT rfl rfl) (aA (aT rfl rfl) ?_));simp only[zz];refine dX cI rfl ?_;intro w9 g5 hE hg5 hB5;have hG5:=Nat.le_trans hX.size hg5; have hN5_1 : g5 ≠ g1:=Nat.ne_of_gt (Nat.lt_of_lt_of_le hB1.lt hg5); have hN5_2 : g5 ≠ g2:=Nat.ne_of_gt (Nat.lt_of_lt_of_le hB2.lt hg5); have hN5_3 : g5 ≠ g3:=Nat.ne_of_gt (Nat.lt_of_lt_of_le hB3.lt hg5); have hN5_4 : g5 ≠ g4:=Nat.ne_of_gt (Nat.lt_of_lt_of_le hB4.lt hg5);replace hB1:=hB1.ext hE; replace hB2:=hB2.ext hE; replace hB3:=hB3.ext hE; replace hB4:=hB4.ext hE; replace hX:=hX.trans hE;clear hE hg5;simp only[zz];refine dX cI rfl ?_;intro w10 g6 hE hg6 hB6;have hG6:=Nat.le_trans hX.size hg6; have hN6_1 : g6 ≠ g1:=Nat.ne_of_gt (Nat.lt_of_lt_of_le hB1.lt hg6); have hN6_2 : g6 ≠ g2:=Nat.ne_of_gt (Nat.lt_of_lt_of_le hB2.lt hg6); have hN6_3 : g6 ≠ g3:=Nat.ne_of_gt (Nat.lt_of_lt_of_le hB3.lt hg6); have hN6_4 : g6 ≠ g4:=Nat.ne_of_gt (Nat.lt_of_lt_of_le hB4.lt hg6); have hN6_5 : g6 ≠ g5:=Nat.ne_of_gt (Nat.lt_of_lt_of_le hB5.lt hg6);replace hB3:=hB3.ext hE; replace hB4:=hB4.ext hE; replace hB5:=hB5.ext hE; replace hX:=hX.trans hE;clear hE hg6;simp only[zz];refine cC rfl (by simp only[zz]; rfl) (by exact aG) hB5 (by simp) (by simp [Value.oneCell']) ?_;clear hB5; intro w11 hC hB5;replace hB3:=hB3.chg hC (by first | exact hN3_5 | exact Ne.symm hN5_3); replace hB4:=hB4.chg hC (by first | exact hN4_5 | exact Ne.symm hN5_4); replace hB6:=hB6.chg hC (by first | exact hN6_5 | exact Ne.symm hN5_6); replace hX:=hX.chg hC hG5;clear hC;simp only[zy,zx,aX,Nat.reduceAdd] at hB5;refine cC rfl (by simp only[zz]; rfl) (by exact aG) hB6 (by simp) (by simp [Value.oneCell']) ?_;clear hB6; intro w12 hC hB6;replace hB3:=hB3.chg hC (by first | exact hN3_6 | exact Ne.symm hN6_3); replace hB4:=hB4.chg hC (by first | exact hN4_6 | exact Ne.symm hN6_4); replace hB5:=hB5.chg hC (by first | exact hN5_6 | exact Ne.symm hN6_5); replace hX:=hX.chg hC hG6;clear hC;simp only[zy,zx,aX,Nat.reduceAdd] at hB6;refine aC (hK3 _ _ ?_);refine aF (fun K4 hK4=>?_);refine gR aN (by kernel_rfl) (gL rfl (fun _ hE'=>((hB3.ext hE').lies aR aG rfl rfl)) ?_);simp only[zz];refine gL rfl (fun _ hE'=>((hB6.ext hE').lies aR aG rfl rfl)) ?_;simp only[zz];refine nL rfl rfl (jY (hp.n.mono (by decide)) (hq.d.mono (by decide))) ?_;simp only[zz];refine gL rfl (fun _ hE'=>((hB5.ext hE').lies aR aG rfl rfl)) ?_;simp only[zz];refine gL rfl (fun _ hE'=>((hB4.ext hE').lies aR aG rfl rfl)) ?_;simp only[zz];refine nL rfl rfl (jY (hq.n.mono (by decide)) (hp.d.mono (by decide))) ?_;simp only[zz];refine nL rfl rfl (Bx ((hp.n.mul hq.d).mono (by decide)) ((hq.n.mul hp.d).mono (by decide))) ?_;simp only[zz];refine aS (aD) ?_;simp only[zz];refine dW ?_;intro w13 hE;replace hX:=hX.trans hE;clear hE;refine hK4 _ _ (wp_ret ?_);try simp only[Exit.inBlock,Exit.then]
 refine bU rfl rfl ?_;try simp only[zD,zE]
 exact ⟨_,rfl,hX,rfl⟩
end Go.Proofs.YtimjandkmfcmiaaGreatDoor
namespace Go.Lith
open Go.RowKit
section
variable {P : Program} {ds : List Deferred} {l : List Value} {T ty : TypeId} {ops : Array Oper} {Q : Exit → Act → World → Prop} {rest : List Oper} {d : Nat} {pos : String} {after : Array Edge} {w : World}
theorem mV {E : TypeId} {c n : Nat} {z : Value} {parts : Array (Nat × Operand)} {vs : Array (Nat × Value)} {base : Array Value} {cs : List Value} (hu : P.underlying T = some (.slice E)) (hi : (P.info? E).map (fun i=>(i.size,i.zero)) = some (c,some z)) (h0 : n * c ≠ 0) (h24 : n * c ≤ 16777216)
 (hb : ((Array.range (n * c)).map fun i=>z.cells[i % z.cells.size]!) = base) (hp : (parts.map fun (i,x)=>(i,ev l x)) = vs) (hf : Instr.fill (fun i=>some (i * c,c)) base vs.toList = some cs.toArray)
 (h : ∀ w' g,dL w w' → w.heap.size ≤ g → fW w' g cs E → wpList P ops Q rest (Fr (l.set d (.slice (some ⟨g,0,none⟩) n n)) ds) w') :
 wpList P ops Q (Oper.mk (some d) (.buildSlice T n parts) ty pos after none :: rest) (Fr l ds) w:=by
 subst hb;subst hp;cases hq : P.info? E with
 | none=>rw [hq] at hi; cases hi
 | some i =>
  rw [hq] at hi;simp only[Option.map_some,Option.some.injEq,Prod.mk.injEq] at hi;obtain ⟨e1,e2⟩:=hi;have e : (Fr l).eval = ev l:=funext dH;have h24' : ¬ 16777216 < n * c:=by omega
  refine lE (w':=w.alloc (.cells cs.toArray E)) (v:=.slice (some ⟨w.heap.size,0,none⟩) n n) (fun o ho _=>?_) (h _ _ ((dL.refl w).alloc _) (Nat.le_refl _) (jD w cs E));simp only[execOp,ho,e];simp [Instr.buildSlice,run_underlying hu,sizeOf,typeInfo,zeroValue,hq,e1,e2,h24',newRow,newObj,Sem.run] at hf ⊢;rw [if_neg h0];simp [hf];rfl
end
end Go.Lith
