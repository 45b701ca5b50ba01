/-
 Texts of one claim, laid together: Rchk, Rchk2, Sort, Sets, Box, Wa, Wb, Wc, Wd, Guard2, V1, Cj, V2, Cmp, Grow2, SortPt, Maps1.
-/
import Derived.Shelf.SlSortCmp.WholeK
import Derived.Shelf.SlSortCmp.NoneTotal
import Derived.Shelf.SlLaysF0
import Derived.Test.YtfohfflkhpfjeaaGreatDoorProg
import Derived.Test.YtfohfflkhpfjeaaGreatDoorF2
set_option maxHeartbeats 8000000
set_option linter.unusedSimpArgs false
set_option linter.unusedVariables false
set_option linter.unusedSectionVars false
namespace Go.Proofs.YtfohfflkhpfjeaaGreatDoor
open Go.Proofs.Tryz
open Go.RowKit Go.Lith
abbrev zY:=@underlying152
set_option maxRecDepth 100000
attribute [local irreducible] wpList wpQuiet dC cS cR Code.wp
theorem Jr {p q : P3} : kV prog 82 [pt p,pt q] (.bool (decide (p.Lt q))):=by
 intro w;refine ⟨afE,?_⟩;have m:=bR.refl w
 go_enter func82,ntmps82
 refine aD fun K1 k1=>wp_region_lit (eY m rfl ?_);clear m;intro g1 u m;simp only[zz];refine eY m rfl ?_;clear m;intro g2 u m;refine aA (aF) (aG (k1 _ _ ?_));refine aD fun K2 k2=>aD fun K3 k3=>wp_region_lit (aA (aK (c:=0) cN rfl bA rfl rfl) ?_);simp only[zz];refine aJ rfl ((m.b 1 rfl).lies1 bQ rfl) ?_;simp only[zz];refine aA (aK (c:=0) cN rfl bA rfl rfl) ?_;simp only[zz];refine aJ rfl ((m.b 0 rfl).lies1 bQ rfl) ?_;simp only[zz];refine aA (nS rfl rfl) (aG (k3 _ _ ?_));simp only[zz];refine cO rfl (fun hc1=>?_) (fun hc1=>?_)
 ·
  refine aD fun K4 k4=>wp_region_lit (aA (aK (c:=0) cN rfl bA rfl rfl) ?_);simp only[zz];refine aJ rfl ((m.b 1 rfl).lies1 bQ rfl) ?_;simp only[zz];refine aA (aK (c:=0) cN rfl bA rfl rfl) ?_;simp only[zz];refine aJ rfl ((m.b 0 rfl).lies1 bQ rfl) ?_;simp only[zz];refine aA (cJ rfl rfl) (aA (aF) (aG (k4 _ _ ?_)));refine wp_ret ?_;simp only[zz];try simp only[Exit.inBlock,Exit.then,if_true]
  refine bS rfl rfl ?_;try simp only[zD,zE]
  exact ⟨_,rfl,m.ext,by simp only[P3.lt_x hc1]⟩
 ·
  have ex : p.x = q.x:=by omega
  refine wp_skip (k2 _ _ ?_);refine aD fun K5 k5=>aD fun K6 k6=>wp_region_lit (aA (aK (c:=0) cN rfl bA rfl rfl) ?_);simp only[zz];refine aJ rfl ((m.b 1 rfl).lies1 bQ rfl) ?_;simp only[zz];refine aA (aK (c:=0) cN rfl bA rfl rfl) ?_;simp only[zz];refine aJ rfl ((m.b 0 rfl).lies1 bQ rfl) ?_;simp only[zz];refine aA (nS rfl rfl) (aG (k6 _ _ ?_));simp only[zz];refine cO rfl (fun hc2=>?_) (fun hc2=>?_)
  ·
   refine aD fun K7 k7=>wp_region_lit (aA (aK (c:=0) cN rfl bA rfl rfl) ?_);simp only[zz];refine aJ rfl ((m.b 1 rfl).lies1 bQ rfl) ?_;simp only[zz];refine aA (aK (c:=0) cN rfl bA rfl rfl) ?_;simp only[zz];refine aJ rfl ((m.b 0 rfl).lies1 bQ rfl) ?_;simp only[zz];refine aA (cJ rfl rfl) (aA (aF) (aG (k7 _ _ ?_)));refine wp_ret ?_;simp only[zz];try simp only[Exit.inBlock,Exit.then,if_true]
   refine bS rfl rfl ?_;try simp only[zD,zE]
   exact ⟨_,rfl,m.ext,by simp only[P3.lt_y ex hc2]⟩
  ·
   have ey : p.y = q.y:=by omega
   refine wp_skip (k5 _ _ ?_);refine aD fun K8 k8=>wp_region_lit (aA (aK (c:=0) cN rfl bA rfl rfl) ?_);simp only[zz];refine aJ rfl ((m.b 1 rfl).lies1 bQ rfl) ?_;simp only[zz];refine aA (aK (c:=0) cN rfl bA rfl rfl) ?_;simp only[zz];refine aJ rfl ((m.b 0 rfl).lies1 bQ rfl) ?_;simp only[zz];refine aA (cJ rfl rfl) (aA (aF) (aG (k8 _ _ ?_)));refine wp_ret ?_;simp only[zz];try simp only[Exit.inBlock,Exit.then,if_true]
   refine bS rfl rfl ?_;try simp only[zD,zE]
   exact ⟨_,rfl,m.ext,by simp only[P3.lt_z ex ey]⟩
theorem Zq {a b : E3} : kV prog 38 [ed a,ed b] (.bool (Rw a b)):=by
 intro w;refine ⟨afe,?_⟩;have m:=bR.refl w
 go_enter func38,ntmps38
 refine aD fun K1 k1=>wp_region_lit (eY m rfl ?_);clear m;intro g1 u m;simp only[zz];refine eY m rfl ?_;clear m;intro g2 u m;refine aA (aF) (aG (k1 _ _ ?_));refine aD fun K2 k2=>aD fun K3 k3=>wp_region_lit (aA (aH jH aC rfl rfl (by decide) (by decide) rfl) ?_);simp only[zz];refine aJ rfl ((m.b 1 rfl).lies aI aC rfl rfl) ?_;simp only[zz,zy,Nat.zero_add,Nat.reduceAdd,Nat.reduceMul,Int.reduceToNat];refine aA (aH jH aC rfl rfl (by decide) (by decide) rfl) ?_;simp only[zz];refine aJ rfl ((m.b 0 rfl).lies aI aC rfl rfl) ?_;simp only[zz,zy,Nat.zero_add,Nat.reduceAdd,Nat.reduceMul,Int.reduceToNat];refine aA (iD rfl rfl) (aG (k3 _ _ ?_));simp only[zz];refine cO rfl (fun hc1=>?_) (fun hc1=>?_)
 ·
  refine aD fun K4 k4=>wp_region_lit (aA (aH jH aC rfl rfl (by decide) (by decide) rfl) ?_);simp only[zz];refine aJ rfl ((m.b 1 rfl).lies aI aC rfl rfl) ?_;simp only[zz,zy,Nat.zero_add,Nat.reduceAdd,Nat.reduceMul,Int.reduceToNat];refine aA (aH jH aC rfl rfl (by decide) (by decide) rfl) ?_;simp only[zz];refine aJ rfl ((m.b 0 rfl).lies aI aC rfl rfl) ?_;simp only[zz,zy,Nat.zero_add,Nat.reduceAdd,Nat.reduceMul,Int.reduceToNat];refine iV m rfl rfl (Jr (p:=a.1) (q:=b.1)) ?_;clear m;intro u m;refine aA (aF) (aG (k4 _ _ ?_));refine wp_ret ?_;simp only[zz];try simp only[Exit.inBlock,Exit.then,if_true]
  refine bS rfl rfl ?_;try simp only[zD,zE]
  exact ⟨_,rfl,m.ext,by rw [Rw,if_pos (fun h=>hc1 (by rw [h];exact ⟨rfl,rfl,rfl⟩))]⟩
 ·
  refine wp_skip (k2 _ _ ?_);refine aD fun K5 k5=>wp_region_lit (aA (aH jH aC rfl rfl (by decide) (by decide) rfl) ?_);simp only[zz];refine aJ rfl ((m.b 1 rfl).lies aI aC rfl rfl) ?_;simp only[zz,zy,Nat.zero_add,Nat.reduceAdd,Nat.reduceMul,Int.reduceToNat];refine aA (aH jH aC rfl rfl (by decide) (by decide) rfl) ?_;simp only[zz];refine aJ rfl ((m.b 0 rfl).lies aI aC rfl rfl) ?_;simp only[zz,zy,Nat.zero_add,Nat.reduceAdd,Nat.reduceMul,Int.reduceToNat];refine iV m rfl rfl (Jr (p:=a.2) (q:=b.2)) ?_;clear m;intro u m;refine aA (aF) (aG (k5 _ _ ?_));refine wp_ret ?_;simp only[zz];try simp only[Exit.inBlock,Exit.then,if_true]
  refine bS rfl rfl ?_;try simp only[zD,zE]
  exact ⟨_,rfl,m.ext,by rw [Rw,if_neg (fun h=>h (P3.eq (Classical.not_not.1 hc1).1 (Classical.not_not.1 hc1).2.1 (Classical.not_not.1 hc1).2.2))]⟩
theorem Ry {ts : List T3} {N cap : Nat} {A : Option Addr} (w : World) (hT : eG w A N ts) (hN : N ≤ 1000000000) : eI prog 36 [.slice A N cap] w (SL 57 6 ((aP ts).flatMap bJ) (aP ts).length w):=by
 refine ⟨afc,?_⟩;have m:=bR.refl w
 go_enter func36,ntmps36
 refine aD fun K1 k1=>wp_region_lit (aA (aF) (aG (k1 _ _ ?_)));refine aD fun K2 k2=>wp_region_lit (aA (aF) ?_);replace m:=m.nilO 57 6;refine aG (k2 _ _ ?_);refine aD fun K3 k3=>aD fun K4 k4=>wp_region_lit (aA (aF) (aG (k4 _ _ ?_)));refine wp_block ?_;simp only[zz];try simp only[Nat.zero_add,Nat.reduceAdd,Nat.reduceMul,Int.reduceToNat]
 refine bM [3,4] [5,6,7,8,9,10,11,12,13,14,15,16,17,18,19,20,21,22,23,24,25,26,27,28,29,30,31,32,33] (fun n vs wl=>∃ (k : Nat) (A3 : Option Addr) (cap3 : Nat),vs = [.slice A3 (aP (ts.take k)).length cap3,.int .i64 (k:Int)] ∧ bR w wl [oI 57 6 A3 (aP (ts.take k)).length cap3 ((aP (ts.take k)).flatMap bJ)] ∧ (k ≤ N) ∧ (n = N - k)) ?_ ?_
 ·
  apply Exists.intro;simp only[zQ,zR,zD,zE];exact ⟨0,_,_,rfl,m,Nat.zero_le _,rfl⟩
 ·
  intro n vs wr hI u;clear m;obtain ⟨k,A3,cap3,rfl,m,hk,hn⟩:=hI;simp only[zu,zF,zG];refine aD fun K5 k5=>aD fun K6 k6=>wp_region_lit (aA (aB) (aA (aB) (aA (bF rfl bZ rfl) (aA (cJ rfl rfl) ?_))));simp only[zz];refine aG (k6 _ _ ?_);refine cO rfl (fun hc1=>?_) (fun hc1=>?_)
  ·
   obtain ⟨t,ht,_,a,rfl,hrow⟩:=hT.get (i:=k) (by omega);refine wp_skip (k5 _ _ ?_);refine aD fun K7 k7=>wp_block (aD fun K8 k8=>wp_region_lit (aA (aB) (aA (aB) ?_)));simp only[zz];refine aA (aM bZ aU rfl rfl (by omega) (by omega) (cA (Int.toNat_natCast _))) ?_;simp only[zz];refine aJ rfl ((hrow.ext m.ext).lies eQ aU) ?_;simp only[zz];refine bC m iY rfl ?_;clear m;intro g1 u m;simp only[zz];refine aS m 0 rfl rfl rfl aU (dX rfl) rfl ?_;clear m;intro u m;simp only[zy,zx,bG,zF,zG,Nat.reduceAdd] at m;refine aG (k8 _ _ ?_);refine wp_region_lit (aA (aB) (aA (aH bL aC rfl rfl (by decide) (by decide) rfl) ?_));simp only[zz];refine aJ rfl ((m.b 0 rfl).lies aI aC rfl rfl) ?_;simp only[zz,zy,Nat.zero_add,Nat.reduceAdd,Nat.reduceMul,Int.reduceToNat];refine aA (aH bL aC rfl rfl (by decide) (by decide) rfl) ?_;simp only[zz];refine aJ rfl ((m.b 0 rfl).lies aI aC rfl rfl) ?_;simp only[zz,zy,Nat.zero_add,Nat.reduceAdd,Nat.reduceMul,Int.reduceToNat];refine aA (bW rfl rfl) (aA (aH bL aC rfl rfl (by decide) (by decide) rfl) ?_);simp only[zz];refine aJ rfl ((m.b 0 rfl).lies aI aC rfl rfl) ?_;simp only[zz,zy,Nat.zero_add,Nat.reduceAdd,Nat.reduceMul,Int.reduceToNat];refine aA (aH bL aC rfl rfl (by decide) (by decide) rfl) ?_;simp only[zz];refine aJ rfl ((m.b 0 rfl).lies aI aC rfl rfl) ?_;simp only[zz,zy,Nat.zero_add,Nat.reduceAdd,Nat.reduceMul,Int.reduceToNat];refine aA (bW rfl rfl) (aA (aH bL aC rfl rfl (by decide) (by decide) rfl) ?_);simp only[zz];refine aJ rfl ((m.b 0 rfl).lies aI aC rfl rfl) ?_;simp only[zz,zy,Nat.zero_add,Nat.reduceAdd,Nat.reduceMul,Int.reduceToNat];refine aA (aH bL aC rfl rfl (by decide) (by decide) rfl) ?_;simp only[zz];refine aJ rfl ((m.b 0 rfl).lies aI aC rfl rfl) ?_;simp only[zz,zy,Nat.zero_add,Nat.reduceAdd,Nat.reduceMul,Int.reduceToNat];refine aA (bW rfl rfl) ?_;simp only[zz];refine Vh rfl rfl rfl ?_;intro u g2 e hg hB;replace m:=m.newB e hg hB;clear e hg hB;simp only[zz];refine dM m 2 rfl rfl fL tU rfl (by decide) rfl rfl rfl (m.b 0 rfl).rowsO (pD rfl) (by have:=lG (ts.take k);rw [List.length_take] at this;omega) (by have:=lG (ts.take k);rw [List.length_take] at this;omega) ?_;clear m;intro A3 cap3 u m;simp only[zF,zG] at m;rw [show (aP (ts.take k)).flatMap bJ ++ _ = (aP (ts.take (k + 1))).flatMap bJ by rw [oR ht,List.flatMap_append];rfl,show (aP (ts.take k)).length + 3 = (aP (ts.take (k + 1))).length by rw [oR ht,List.length_append];rfl] at m;rw [show (aP (ts.take k)).length + 3 = (aP (ts.take (k + 1))).length by rw [oR ht,List.length_append];rfl];refine aA (aF) (aG (k7 _ _ ?_));refine wp_region_lit (aA (aB) ?_);simp only[zz];refine aA (aQ rfl rfl (aN (by omega) (by omega))) (aA (aF) (aG ?_));simp only[zz];simp only[Exit.inBlock,Exit.then];refine ⟨N - (k + 1),_,?_,rfl,?_,?_⟩
   · omega
   · simp only[zz,zv]
   ·
    simp only[zQ,zR,zD,zE];exact ⟨k + 1,_,_,rfl,(m.sel [false,false,true]),by omega,rfl⟩
  ·
   have hkN : k = N:=by omega
   rw [hkN,show ts.take N = ts from List.take_of_length_le (by rw [hT.len];exact Nat.le_refl _)] at m ⊢;refine wp_exit (k3 _ _ ?_);refine aD fun K9 k9=>wp_region_lit (aA (aB) (aA (aF) (aG (k9 _ _ ?_))));refine wp_ret ?_;simp only[zz];try simp only[Exit.inBlock,Exit.then,if_true]
   refine bS rfl rfl ?_;try simp only[zD,zE]
   exact ⟨_,rfl,m.ext,⟨_,_,_,rfl,rfl,(m.o 0 rfl)⟩⟩
theorem Ca {es : List E3} {N cap : Nat} {A : Option Addr} {e : E3} (w : World) (hL : sR bJ 6 w A N es) (hN : N ≤ 1000000000) : eI prog 37 [.slice A N cap,ed e] w (fun v _=>v = .int .i64 ((iW es e : Nat) : Int)):=by
 refine ⟨afd,?_⟩;have m:=bR.refl w
 go_enter func37,ntmps37
 refine aD fun K1 k1=>wp_region_lit (eY m rfl ?_);clear m;intro g1 u m;refine aA (aF) (aG (k1 _ _ ?_));refine aD fun K2 k2=>wp_region_lit (aA (aF) (aG (k2 _ _ ?_)));refine aD fun K3 k3=>aD fun K4 k4=>wp_region_lit (aA (aF) ?_);simp only[zz];refine aG (k4 _ _ ?_);refine wp_block ?_;try simp only[Nat.zero_add,Nat.reduceAdd,Nat.reduceMul,Int.reduceToNat]
 refine bM [5,6] [7,8,9,10,11,12,13,14,15,16,17,18,19,20] (fun n vs wl=>∃ (k q : Nat),vs = [.int .i64 (q : Int),.int .i64 (k:Int)] ∧ bR w wl [bI g1 (bJ e) 57] ∧ (q = iW (es.take k) e) ∧ (k ≤ N) ∧ (n = N - k)) ?_ ?_
 ·
  apply Exists.intro;simp only[zQ,zR,zD,zE];exact ⟨0,0,rfl,m,rfl,Nat.zero_le _,rfl⟩
 ·
  intro n vs wr hI u;clear m;obtain ⟨k,q,rfl,m,hq,hk,hn⟩:=hI;subst hq;simp only[zu,zF,zG];refine aD fun K5 k5=>aD fun K6 k6=>wp_region_lit (aA (aB) (aA (aB) (aA (bF rfl fL rfl) (aA (cJ rfl rfl) ?_))));simp only[zz];refine aG (k6 _ _ ?_);refine cO rfl (fun hc1=>?_) (fun hc1=>?_)
  ·
   obtain ⟨x,hx,a,rfl,hrow⟩:=hL.get (i:=k) (by omega);refine wp_skip (k5 _ _ ?_);refine aD fun K7 k7=>wp_block (aD fun K8 k8=>mq m aO (by kernel_rfl) (aL (aB) (aL (aB) ?_)));simp only[zz];refine aL (aM fL cE rfl rfl (by omega) (by omega) (cA (Int.toNat_natCast _))) ?_;simp only[zz];refine ql rfl (fun u m=>((hrow.ext m.ext).lies jV cE)) ?_;simp only[zz];refine ql rfl (fun u m=>((m.b 0 rfl).full jV cE)) ?_;simp only[zz];refine aL (Vc rfl rfl) (dF ?_);clear m;intro u m;refine k8 _ _ ?_;simp only[zz];refine cO rfl (fun hc2=>?_) (fun hc2=>?_)
   ·
    have hxe : x = e:=Prod.ext (P3.eq hc2.1 hc2.2.1 hc2.2.2.1) (P3.eq hc2.2.2.2.1 hc2.2.2.2.2.1 hc2.2.2.2.2.2);have hcl : iW (es.take k) e ≤ N:=Nat.le_trans adj (by rw [List.length_take];omega);have hs:=Lw (e:=e) hx;rw [if_pos hxe] at hs;refine wp_region_lit (aA (aB) ?_);simp only[zz];refine aA (aQ rfl rfl (aN (by omega) (by omega))) (aA (aF) (aG (k7 _ _ ?_)));refine wp_region_lit (aA (aB) ?_);simp only[zz];refine aA (aQ rfl rfl (aN (by omega) (by omega))) (aA (aF) (aG ?_));simp only[zz];rw [show ((iW (es.take k) e : Nat) : Int) + 1 = ((iW (es.take (k + 1)) e : Nat) : Int) by rw [hs];rfl];simp only[Exit.inBlock,Exit.then];refine ⟨N - (k + 1),_,?_,rfl,?_,?_⟩
    · omega
    · simp only[zz,zv]
    ·
     simp only[zQ,zR,zD,zE];exact ⟨k + 1,iW (es.take (k + 1)) e,rfl,m,rfl,by omega,rfl⟩
   ·
    have hs : iW (es.take (k + 1)) e = iW (es.take k) e:=(Lw (e:=e) hx).trans (by rw [if_neg (fun h=>hc2 (by rw [h];exact ⟨rfl,rfl,rfl,rfl,rfl,rfl⟩))];rfl);refine wp_skip (k7 _ _ ?_);refine wp_region_lit (aA (aB) ?_);simp only[zz];refine aA (aQ rfl rfl (aN (by omega) (by omega))) (aA (aF) (aG ?_));simp only[zz];rw [← hs];simp only[Exit.inBlock,Exit.then];refine ⟨N - (k + 1),_,?_,rfl,?_,?_⟩
    · omega
    · simp only[zz,zv]
    ·
     simp only[zQ,zR,zD,zE];exact ⟨k + 1,iW (es.take (k + 1)) e,rfl,m,rfl,by omega,rfl⟩
  ·
   have hkN : k = N:=by omega
   rw [hkN,show es.take N = es from List.take_of_length_le (by rw [hL.len];exact Nat.le_refl _)];refine wp_exit (k3 _ _ ?_);refine aD fun K9 k9=>wp_region_lit (aA (aB) (aA (aF) (aG (k9 _ _ ?_))));refine wp_ret ?_;simp only[zz];try simp only[Exit.inBlock,Exit.then,if_true]
   refine bS rfl rfl ?_;try simp only[zD,zE]
   exact ⟨_,rfl,m.ext,rfl⟩
theorem abJ {ps : List P3} {N cap : Nat} {A : Option Addr} {p : P3} (w : World) (hL : sR wF 3 w A N ps) (hN : N ≤ 1000000000) (hcap : N ≤ cap) : eI prog 100 [.slice A N cap,pt p] w (fun v w'=>(v = .slice A N cap ∧ gH ps p = ps) ∨ SL 48 3 ((gH ps p).flatMap wF) (gH ps p).length w v w'):=by
 refine ⟨Jl,?_⟩;have m:=bR.refl w;obtain rfl : ps.length = N:=hL.len
 go_enter func100,ntmps100
 refine aD fun K1 k1=>wp_region_lit (eY m rfl ?_);clear m;intro g1 u m;refine aA (aF) (aG (k1 _ _ ?_));refine aD fun K2 k2=>wp_region_lit (aA (aF) (aG (k2 _ _ ?_)));refine aD fun K3 k3=>wp_block ?_;simp only[zz];try simp only[Nat.zero_add,Nat.reduceAdd,Nat.reduceMul,Int.reduceToNat]
 refine bM [5] [6,8,9,10,11,12,13,14,15,16,17,18,19,20,21] (fun n vs wl=>∃ (k : Nat),vs = [.int .i64 (k:Int)] ∧ bR w wl [bI g1 (wF p) 48] ∧ (Pre (fun x=>decide (x.Lt p)) ps k) ∧ (k ≤ ps.length) ∧ (n = ps.length - k)) ?_ ?_
 ·
  apply Exists.intro;simp only[zQ,zR,zD,zE];exact ⟨0,rfl,m,Pre.zero,Nat.zero_le _,rfl⟩
 ·
  intro n vs wr hI u;clear m;obtain ⟨k,rfl,m,hpre,hk,hn⟩:=hI;simp only[zu,zF,zG];refine aD fun K4 k4=>aD fun K5 k5=>wp_region_lit (aA (aB) (aA (aB) (aA (bF rfl jI rfl) (aA (cJ rfl rfl) ?_))));simp only[zz];refine aG (k5 _ _ ?_);refine cO rfl (fun hc1=>?_) (fun hc1=>?_)
  ·
   obtain ⟨x,hx,a,rfl,hrow⟩:=hL.get (i:=k) (by omega);refine wp_skip (k4 _ _ ?_);refine wp_block (aD fun K6 k6=>mq m aO (by kernel_rfl) (aL (aB) (aL (aB) ?_)));simp only[zz];refine aL (aM jI aC rfl rfl (by omega) (by omega) (cA (Int.toNat_natCast _))) ?_;simp only[zz];refine ql rfl (fun u m=>((hrow.ext m.ext).lies aI aC)) ?_;simp only[zz];refine ql rfl (fun u m=>((m.b 0 rfl).full aI aC)) ?_;simp only[zz];refine wU rfl rfl (Jr) (aL (aF) (dF ?_));clear m;intro u m;refine k6 _ _ ?_;refine aD fun K7 k7=>aD fun K8 k8=>wp_region_lit (aA (aB) (aA (gX rfl) ?_));simp only[zz];refine aG (k8 _ _ ?_);refine kW rfl (fun hc2=>?_) (fun hc2=>?_)
   ·
    have hpos : Ur ps p = k:=acF hpre hx (by simpa using hc2);refine wp_exit (k3 _ _ ?_);refine aD fun K9 k9=>aD fun K10 k10=>mq m aO (by kernel_rfl) (aL (aB) (aL (aB) (aL (bF rfl jI rfl) ?_)));simp only[zz];refine aL (bT rfl rfl (by omega)) (aL (aB) (fS rfl (aL (aB) (fS rfl (aL (aB) ?_)))));simp only[zz];refine fS rfl (aL (aM jI aC rfl rfl (by omega) (by omega) (cA (Int.toNat_natCast _))) (fS rfl ?_));simp only[zz];refine ql rfl (fun u m=>((hrow.ext m.ext).lies aI aC)) ?_;simp only[zz];refine fS rfl (ql rfl (fun u m=>((m.b 0 rfl).full aI aC)) ?_);simp only[zz];refine fS rfl (aL (cP rfl rfl) (aL (gA rfl) (dF ?_)));clear m;intro u m;refine k10 _ _ ?_;simp only[zz];refine cO rfl (fun hc3=>?_) (fun hc3=>?_)
    ·
     have hxp : x = p:=P3.eq hc3.1 hc3.2.1 hc3.2.2;refine aD fun K11 k11=>wp_region_lit (aA (aB) (aA (aF) (aG (k11 _ _ ?_))));refine wp_ret ?_;simp only[zz];try simp only[Exit.inBlock,Exit.then,if_true]
     refine bS rfl rfl ?_;try simp only[zD,zE]
     exact ⟨_,rfl,m.ext,.inl ⟨rfl,by rw [gH,hpos,hx,if_pos (by rw [hxp])]⟩⟩
    ·
     have hw : gH ps p = ps.take k ++ [p] ++ ps.drop k:=by unfold gH;rw [hpos,if_neg (by rw [hx];exact fun h=>hc3 (by cases h;exact ⟨rfl,rfl,rfl⟩))]
     refine wp_skip (k9 _ _ ?_);refine aD fun K12 k12=>wp_region_lit (aA (aF) ?_);replace m:=m.nilO 48 3;refine aG (k12 _ _ ?_);refine aD fun K13 k13=>wp_region_lit (aA (aB) (aA (aB) (aA (aB) ?_)));simp only[zz];refine aA (lC jI aC rfl rfl (Int.toNat_natCast _) (by omega) (by omega)) ?_;simp only[zz];refine dM m 0 rfl rfl jI tR rfl (by decide) rfl rfl (by rw [iC Lv,List.length_take,Nat.min_eq_left (by omega)]) (((hL.take (by omega)).ext m.ext).cells Lv (by decide)) (Jj _) (by omega) (by omega) ?_;clear m;intro A7 cap7 u m;simp only[zF,zG] at m;rw [List.nil_append,Nat.zero_add] at m;rw [Nat.zero_add];refine aA (aF) (aG (k13 _ _ ?_));refine aD fun K14 k14=>wp_region_lit (aA (aB) ?_);simp only[zz];refine aJ rfl ((m.b 1 rfl).full aI aC) ?_;simp only[zz];refine uY rfl ?_;intro u g2 e hg hB;replace m:=m.newB e hg hB;clear e hg hB;simp only[zz];refine dM m 1 rfl rfl jI tR rfl (by decide) rfl rfl rfl (m.b 0 rfl).rowsO (pD rfl) (by omega) (by omega) ?_;clear m;intro A7 cap7 u m;simp only[zF,zG] at m;refine aA (aF) (aG (k14 _ _ ?_));refine aD fun K15 k15=>wp_region_lit (aA (aB) (aA (aB) ?_));simp only[zz];refine aA (aB) ?_;simp only[zz];refine aA (jK jI aC rfl rfl (Int.toNat_natCast _) (by omega) (by omega) rfl) ?_;simp only[zz];refine dM m 1 rfl rfl jI tR rfl (by decide) rfl rfl (by rw [iC Lv,List.length_drop]) ((hL.ext m.ext).cellsD Lv (by decide) hcap) (Jj _) (by omega) (by omega) ?_;clear m;intro A7 cap7 u m;simp only[zF,zG] at m;refine aA (aF) (aG (k15 _ _ ?_));refine wp_ret ?_;simp only[zz];try simp only[Exit.inBlock,Exit.then,if_true]
     refine bS rfl rfl ?_;try simp only[zD,zE]
     exact ⟨_,rfl,m.ext,.inr ⟨_,_,_,by rw [hw];simp;omega,rfl,(m.o 1 rfl).as (by rw [hw,List.flatMap_append,List.flatMap_append];rfl)⟩⟩
   ·
    have hpre2:=hpre.step hx (by simpa using hc2);refine wp_skip (k7 _ _ ?_);refine wp_region_lit (aA (aB) ?_);simp only[zz];refine aA (aQ rfl rfl (aN (by omega) (by omega))) (aA (aF) (aG ?_));simp only[zz];simp only[Exit.inBlock,Exit.then];refine ⟨ps.length - (k + 1),_,?_,rfl,?_,?_⟩
    · omega
    · simp only[zz,zv]
    ·
     simp only[zQ,zR,zD,zE];exact ⟨k + 1,rfl,m,hpre2,by omega,rfl⟩
  ·
   obtain rfl : k = ps.length:=by omega
   have hpos : Ur ps p = ps.length:=Yy hpre;have hw : gH ps p = ps.take ps.length ++ [p] ++ ps.drop ps.length:=by unfold gH;rw [hpos,if_neg (by rw [List.getElem?_eq_none (Nat.le_refl _)];simp)]
   refine wp_exit (k3 _ _ ?_);refine aD fun K16 k16=>aD fun K17 k17=>mq m aO (by kernel_rfl) (aL (aB) (aL (aB) (aL (bF rfl jI rfl) ?_)));simp only[zz];refine aL (fT rfl rfl (by omega)) (aL (aB) (fZ rfl (fZ rfl ?_)));simp only[zz];refine fZ rfl (fZ rfl (fZ rfl (fZ rfl ?_)));simp only[zz];refine aL (iT rfl) (dF ?_);clear m;intro u m;refine k17 _ _ (jM rfl (wp_skip (k16 _ _ ?_)));refine aD fun K18 k18=>wp_region_lit (aA (aF) ?_);replace m:=m.nilO 48 3;refine aG (k18 _ _ ?_);refine aD fun K19 k19=>wp_region_lit (aA (aB) (aA (aB) ?_));simp only[zz];refine aA (aB) ?_;simp only[zz];refine aA (lC jI aC rfl rfl (Int.toNat_natCast _) (by omega) (by omega)) ?_;simp only[zz];refine dM m 0 rfl rfl jI tR rfl (by decide) rfl rfl (by rw [iC Lv,List.length_take,Nat.min_eq_left (by omega)]) (((hL.take (by omega)).ext m.ext).cells Lv (by decide)) (Jj _) (by omega) (by omega) ?_;clear m;intro A7 cap7 u m;simp only[zF,zG] at m;rw [List.nil_append,Nat.zero_add] at m;rw [Nat.zero_add];refine aA (aF) (aG (k19 _ _ ?_));refine aD fun K20 k20=>wp_region_lit (aA (aB) ?_);simp only[zz];refine aJ rfl ((m.b 1 rfl).full aI aC) ?_;simp only[zz];refine uY rfl ?_;intro u g2 e hg hB;replace m:=m.newB e hg hB;clear e hg hB;simp only[zz];refine dM m 1 rfl rfl jI tR rfl (by decide) rfl rfl rfl (m.b 0 rfl).rowsO (pD rfl) (by omega) (by omega) ?_;clear m;intro A7 cap7 u m;simp only[zF,zG] at m;refine aA (aF) (aG (k20 _ _ ?_));refine aD fun K21 k21=>wp_region_lit (aA (aB) (aA (aB) ?_));simp only[zz];refine aA (aB) ?_;simp only[zz];refine aA (jK jI aC rfl rfl (Int.toNat_natCast _) (by omega) (by omega) rfl) ?_;simp only[zz];refine dM m 1 rfl rfl jI tR rfl (by decide) rfl rfl (by rw [iC Lv,List.length_drop]) ((hL.ext m.ext).cellsD Lv (by decide) hcap) (Jj _) (by omega) (by omega) ?_;clear m;intro A7 cap7 u m;simp only[zF,zG] at m;refine aA (aF) (aG (k21 _ _ ?_));refine wp_ret ?_;simp only[zz];try simp only[Exit.inBlock,Exit.then,if_true]
   refine bS rfl rfl ?_;try simp only[zD,zE]
   exact ⟨_,rfl,m.ext,.inr ⟨_,_,_,by rw [hw];simp,rfl,(m.o 1 rfl).as (by rw [hw,List.flatMap_append,List.flatMap_append];rfl)⟩⟩
theorem Px {w0 w : World} {is : List It} {A : Option Addr} {n cap : Nat} {ps : List P3} {p : P3} (m : bR w0 w is) (k : Nat) (hi : is[k]? = some (oI 48 3 A n cap (ps.flatMap wF))) (hN : n ≤ 1000000000) :
 Calls prog 100 [.slice A n cap,pt p].toArray w fun e w'=>∃ v i,e = .returned v ∧ bR w0 w' (is.set k i) ∧ ∃ A' cap' n',n' = (gH ps p).length ∧ v = .slice A' n' cap' ∧ i = oI 48 3 A' n' cap' ((gH ps p).flatMap wF):=by
 have hO:=m.o k hi;refine (abJ (p:=p) w (hO.lat Lv (by decide)) hN hO.le).2.mono ?_;rintro e w' ⟨v,rfl,hE,h⟩;rcases h with ⟨rfl,h⟩ | ⟨A',cap',n',rfl,rfl,hN'⟩
 · exact ⟨_,oI 48 3 A n cap (ps.flatMap wF),rfl,by rw [adk hi];exact m.ext' hE,A,cap,n,by rw [h];exact (hO.num Lv (by decide)).symm,rfl,by rw [h]⟩
 · exact ⟨_,_,rfl,(m.newO hE hN').mv k hi,_,_,_,rfl,rfl,rfl⟩
theorem Vm {ts : List T3} {N cap : Nat} {A : Option Addr} (w : World) (hT : eG w A N ts) (hN : N ≤ 100000000) : eI prog 63 [.slice A N cap] w (SL 48 3 ((dR ts).flatMap wF) (dR ts).length w):=by
 refine ⟨afl,?_⟩;have m:=bR.refl w
 go_enter func63,ntmps63
 refine aD fun K1 k1=>wp_region_lit (aA (aF) (aG (k1 _ _ ?_)));refine aD fun K2 k2=>wp_region_lit (aA (aF) ?_);replace m:=m.nilO 48 3;refine aG (k2 _ _ ?_);refine aD fun K3 k3=>aD fun K4 k4=>wp_region_lit (aA (aF) (aG (k4 _ _ ?_)));refine wp_block ?_;simp only[zz];try simp only[Nat.zero_add,Nat.reduceAdd,Nat.reduceMul,Int.reduceToNat]
 refine bM [3,4] [5,6,7,8,9,10,11,12,13,14,15,16,17,18,19,20,21,22,23] (fun n vs wl=>∃ (k n3 : Nat) (A3 : Option Addr) (cap3 : Nat),vs = [.slice A3 n3 cap3,.int .i64 (k:Int)] ∧ bR w wl [oI 48 3 A3 n3 cap3 ((dR (ts.take k)).flatMap wF)] ∧ (n3 = (dR (ts.take k)).length) ∧ (k ≤ N) ∧ (n = N - k)) ?_ ?_
 ·
  apply Exists.intro;simp only[zQ,zR,zD,zE];exact ⟨0,0,_,_,rfl,m,rfl,Nat.zero_le _,rfl⟩
 ·
  intro n vs wr hI u;clear m;obtain ⟨k,n3,A3,cap3,rfl,m,hn3,hk,hn⟩:=hI;simp only[zu,zF,zG];refine aD fun K5 k5=>aD fun K6 k6=>wp_region_lit (aA (aB) (aA (aB) (aA (bF rfl bZ rfl) (aA (cJ rfl rfl) ?_))));simp only[zz];refine aG (k6 _ _ ?_);refine cO rfl (fun hc1=>?_) (fun hc1=>?_)
  ·
   obtain ⟨t,ht,_,a,rfl,hrow⟩:=hT.get (i:=k) (by omega);have hb0:=As (ts.take k);have hb1:=qJ (dR (ts.take k)) t.a;have hb2:=qJ (gH (dR (ts.take k)) t.a) t.b;rw [List.length_take] at hb0;refine wp_skip (k5 _ _ ?_);refine aD fun K7 k7=>wp_block (aD fun K8 k8=>wp_region_lit (aA (aF) (aG (k8 _ _ ?_))));refine wp_block (wp_loop_rounds 4 (cZ (aD fun K9 k9=>aD fun K10 k10=>wp_region_lit (aA (aB) (aA (bT (m:=0) (n:=3) rfl rfl (by decide)) (aG (k10 _ _ ?_)))))));refine cK rfl (wp_skip (k9 _ _ ?_));refine aD fun K11 k11=>wp_block (wp_region_lit (aA (aB) ?_));simp only[zz];refine aA (aB) (aA (aB) (aA (aB) ?_));simp only[zz];refine aA (aM bZ aU rfl rfl (by omega) (by omega) (cA (Int.toNat_natCast _))) (aA (aH bL aC rfl rfl (by decide) (by decide) rfl) ?_);simp only[zz];refine aJ rfl ((jP.cor (hrow.ext m.ext) (c:=0) (by decide)).lies aI aC) ?_;simp only[zz];refine nN m 0 Jl rfl rfl (fun m=>Px (p:=t.a) m 0 rfl (by omega)) ?_;clear m;rintro v i u m ⟨A3,cap3,n3,hn3,rfl,rfl⟩;simp only[zF,zG] at m;refine aA (aF) (aG (k11 _ _ ?_));refine wp_region_lit (aA (aB) (aA (aQ (m:=0) (n:=1) (r:=1) rfl rfl (by decide)) ?_));simp only[zz];refine aA (aF) (aG (aT (aD fun K12 k12=>aD fun K13 k13=>wp_region_lit (aA (aB) (aA (bT (m:=1) (n:=3) rfl rfl (by decide)) (aG (k13 _ _ ?_)))))));refine cK rfl (wp_skip (k12 _ _ ?_));refine aD fun K14 k14=>wp_block (wp_region_lit (aA (aB) ?_));simp only[zz];refine aA (aB) (aA (aB) (aA (aB) ?_));simp only[zz];refine aA (aM bZ aU rfl rfl (by omega) (by omega) (cA (Int.toNat_natCast _))) (aA (aH bL aC rfl rfl (by decide) (by decide) rfl) ?_);simp only[zz];refine aJ rfl ((jP.cor (hrow.ext m.ext) (c:=1) (by decide)).lies aI aC) ?_;simp only[zz];refine nN m 0 Jl rfl rfl (fun m=>Px (p:=t.b) m 0 rfl (by omega)) ?_;clear m;rintro v i u m ⟨A3,cap3,n3,hn3,rfl,rfl⟩;simp only[zF,zG] at m;refine aA (aF) (aG (k14 _ _ ?_));refine wp_region_lit (aA (aB) (aA (aQ (m:=1) (n:=1) (r:=2) rfl rfl (by decide)) ?_));simp only[zz];refine aA (aF) (aG (aT (aD fun K15 k15=>aD fun K16 k16=>wp_region_lit (aA (aB) (aA (bT (m:=2) (n:=3) rfl rfl (by decide)) (aG (k16 _ _ ?_)))))));refine cK rfl (wp_skip (k15 _ _ ?_));refine aD fun K17 k17=>wp_block (wp_region_lit (aA (aB) ?_));simp only[zz];refine aA (aB) (aA (aB) (aA (aB) ?_));simp only[zz];refine aA (aM bZ aU rfl rfl (by omega) (by omega) (cA (Int.toNat_natCast _))) (aA (aH bL aC rfl rfl (by decide) (by decide) rfl) ?_);simp only[zz];refine aJ rfl ((jP.cor (hrow.ext m.ext) (c:=2) (by decide)).lies aI aC) ?_;simp only[zz];refine nN m 0 Jl rfl rfl (fun m=>Px (p:=t.c) m 0 rfl (by omega)) ?_;clear m;rintro v i u m ⟨A3,cap3,n3,hn3,rfl,rfl⟩;simp only[zF,zG] at m;refine aA (aF) (aG (k17 _ _ ?_));refine wp_region_lit (aA (aB) (aA (aQ (m:=2) (n:=1) (r:=3) rfl rfl (by decide)) ?_));simp only[zz];refine aA (aF) (aG (aT (aD fun K18 k18=>aD fun K19 k19=>wp_region_lit (aA (aB) (aA (fT (m:=3) (n:=3) rfl rfl (by decide)) (aG (k19 _ _ ?_)))))));refine jM rfl (wp_exit (k7 _ _ ?_));refine wp_region_lit (aA (aB) ?_);simp only[zz];refine aA (aQ rfl rfl (aN (by omega) (by omega))) (aA (aF) (aG ?_));simp only[zz];simp only[Exit.inBlock,Exit.then];refine ⟨N - (k + 1),_,?_,rfl,?_,?_⟩
   · omega
   · simp only[zz,zv]
   ·
    simp only[zQ,zR,zD,zE];exact ⟨k + 1,_,_,_,rfl,(m.reO 0 rfl ((m.o 0 rfl).as (by rw [xJ ht]))),by rw [xJ ht];exact hn3,by omega,rfl⟩
  ·
   have hkN : k = N:=by omega
   rw [hkN,show ts.take N = ts from List.take_of_length_le (by rw [hT.len];exact Nat.le_refl _)] at m hn3;refine wp_exit (k3 _ _ ?_);refine aD fun K20 k20=>wp_region_lit (aA (aB) (aA (aF) (aG (k20 _ _ ?_))));refine wp_ret ?_;simp only[zz];try simp only[Exit.inBlock,Exit.then,if_true]
   refine bS rfl rfl ?_;try simp only[zD,zE]
   exact ⟨_,rfl,m.ext,⟨_,_,_,hn3,rfl,(m.o 0 rfl)⟩⟩
theorem Zr {ts : List T3} {N cap : Nat} {A : Option Addr} {p q : P3} (w : World) (hT : sR aX 9 w A N ts) (hN : N ≤ 1000000000) : eI prog 101 [.slice A N cap,pt p,pt q] w (fun v _=>v = .tuple #[pt ((bD ts p q).getD p),.bool (bD ts p q).isSome]):=by
 refine ⟨adm,?_⟩;have m:=bR.refl w
 go_enter func101,ntmps101
 refine aD fun K1 k1=>wp_region_lit (eY m rfl ?_);clear m;intro g1 u m;simp only[zz];refine eY m rfl ?_;clear m;intro g2 u m;simp only[zz];refine bC m bP rfl ?_;clear m;intro g3 u m;refine aA (aF) (aG (k1 _ _ ?_));refine aD fun K2 k2=>aD fun K3 k3=>wp_region_lit (aA (aF) (aG (k3 _ _ ?_)));refine wp_block ?_;simp only[zz];try simp only[Nat.zero_add,Nat.reduceAdd,Nat.reduceMul,Int.reduceToNat]
 refine bM [8] [7,9,10,11,12,13,14,15,16,17,18,19,20,21,22,23,24,25,26,27,28,29,30,31,32,33,34,35,36,37,38,39,40,41,42,43,44,45,46,47] (fun n vs wl=>∃ (k : Nat),vs = [.int .i64 (k:Int)] ∧ bR w wl [bI g3 [.int .i64 0,.int .i64 0,.int .i64 0] 48,bI g2 (wF q) 48,bI g1 (wF p) 48] ∧ (bD (ts.take k) p q = none) ∧ (k ≤ N) ∧ (n = N - k)) ?_ ?_
 ·
  apply Exists.intro;simp only[zQ,zR,zD,zE];exact ⟨0,rfl,m,rfl,Nat.zero_le _,rfl⟩
 ·
  intro n vs wr hI u;clear m;obtain ⟨k,rfl,m,hb0,hk,hn⟩:=hI;simp only[zu,zF,zG];refine aD fun K4 k4=>aD fun K5 k5=>wp_region_lit (aA (aB) (aA (aB) (aA (bF rfl bZ rfl) (aA (cJ rfl rfl) ?_))));simp only[zz];refine aG (k5 _ _ ?_);refine cO rfl (fun hc1=>?_) (fun hc1=>?_)
  ·
   obtain ⟨t,ht,a,rfl,hrow⟩:=hT.get (i:=k) (by omega);refine wp_skip (k4 _ _ ?_);refine aD fun K6 k6=>wp_block (aD fun K7 k7=>wp_region_lit (aA (aF) (aG (k7 _ _ ?_))));refine wp_block (wp_loop_rounds 4 (cZ (aD fun K8 k8=>aD fun K9 k9=>wp_region_lit (aA (aB) (aA (bT (m:=0) (n:=3) rfl rfl (by decide)) (aG (k9 _ _ ?_)))))));refine cK rfl (wp_skip (k8 _ _ ?_));refine aD fun K10 k10=>wp_block (aD fun K11 k11=>?_);simp only[zz];refine mq m aO (by kernel_rfl) (aL (aB) (aL (aB) (aL (aB) ?_)));simp only[zz];refine aL (aM bZ aU rfl rfl (by omega) (by omega) (cA (Int.toNat_natCast _))) (aL (aH bL aC rfl rfl (by decide) (by decide) rfl) ?_);simp only[zz];refine ql rfl (fun u m=>((jP.cor (hrow.ext m.ext) (c:=0) (by omega)).lies aI aC)) ?_;simp only[zz];refine ql rfl (fun u m=>((m.b 2 rfl).full aI aC)) ?_;simp only[zz];refine aL (cP rfl rfl) (aL (aB) (cG rfl (fun hb=>aB) (cG rfl (fun hb=>aB) ?_)));simp only[zz];refine cG rfl (fun hb=>aB) (cG rfl (fun hb=>aQ (m:=0) (n:=1) (r:=1) (bH hb rfl) rfl (by decide)) (cG rfl (fun hb=>dK (m:=1) (n:=3) (r:=1) (bH hb rfl) rfl (by decide) (by decide)) ?_));simp only[zz];refine cG rfl (fun hb=>aM bZ aU (bH hb rfl) (bH hb rfl) (by omega) (by omega) (cA (Int.toNat_natCast _))) (cG rfl (fun hb=>aH bL aC (bH hb rfl) (bH hb rfl) (by decide) (by decide) rfl) ?_);simp only[zz];refine gK rfl (fun hb u m=>cF (bH hb rfl) ((jP.cor (hrow.ext m.ext) (c:=1) (by omega)).lies aI aC)) (gK rfl (fun hb u m=>cF rfl ((m.b 1 rfl).full aI aC)) (cG rfl (fun hb=>cP (bH hb rfl) (bH hb rfl)) (aL (dA rfl rfl rfl) (dF ?_))));clear m;intro u m;refine k11 _ _ ?_;simp only[zz];refine kW rfl (fun hc3=>?_) (fun hc3=>?_)
   ·
    have hf:=tO ((mZ ht hb0).trans (aeR  (rR.1 hc3)));refine aD fun K12 k12=>wp_region_lit (aA (aB) (aA (aB) (aA (aB) (aA (aQ (m:=0) (n:=2) (r:=2) rfl rfl (by decide)) ?_))));simp only[zz];refine aA (dK (m:=2) (n:=3) (r:=2) rfl rfl (by decide) (by decide)) ?_;simp only[zz];refine aA (aM bZ aU rfl rfl (by omega) (by omega) (cA (Int.toNat_natCast _))) (aA (aH bL aC rfl rfl (by decide) (by decide) rfl) ?_);simp only[zz];refine aJ rfl ((jP.cor (hrow.ext m.ext) (c:=2) (by omega)).lies aI aC) ?_;simp only[zz];refine aS m 0 rfl rfl rfl aC (dX rfl) rfl ?_;clear m;intro u m;simp only[zy,zx,bG,zF,zG,Nat.reduceAdd] at m;refine aA (aF) (aG (k12 _ _ ?_));refine wp_ret ?_;simp only[zz];try simp only[Exit.inBlock,Exit.then,if_true]
    refine nV rfl ⟨_,rfl,((m.b 0 rfl).full aI aC)⟩ rfl ?_;try simp only[zD,zE]
    exact ⟨_,rfl,m.ext,by rw [hf];rfl⟩
   ·
    have hq0:=yW hc3;refine wp_skip (k10 _ _ ?_);refine wp_region_lit (aA (aB) (aA (aQ (m:=0) (n:=1) (r:=1) rfl rfl (by decide)) (aA (aF) (aG (aT (aD fun K13 k13=>aD fun K14 k14=>wp_region_lit (aA (aB) ?_)))))));simp only[zz];refine aA (bT (m:=1) (n:=3) rfl rfl (by decide)) (aG (k14 _ _ ?_));refine cK rfl (wp_skip (k13 _ _ ?_));refine aD fun K15 k15=>wp_block (aD fun K16 k16=>?_);simp only[zz];refine mq m aO (by kernel_rfl) (aL (aB) (aL (aB) (aL (aB) ?_)));simp only[zz];refine aL (aM bZ aU rfl rfl (by omega) (by omega) (cA (Int.toNat_natCast _))) (aL (aH bL aC rfl rfl (by decide) (by decide) rfl) ?_);simp only[zz];refine ql rfl (fun u m=>((jP.cor (hrow.ext m.ext) (c:=1) (by omega)).lies aI aC)) ?_;simp only[zz];refine ql rfl (fun u m=>((m.b 2 rfl).full aI aC)) ?_;simp only[zz];refine aL (cP rfl rfl) (aL (aB) (cG rfl (fun hb=>aB) (cG rfl (fun hb=>aB) ?_)));simp only[zz];refine cG rfl (fun hb=>aB) (cG rfl (fun hb=>aQ (m:=1) (n:=1) (r:=2) (bH hb rfl) rfl (by decide)) (cG rfl (fun hb=>dK (m:=2) (n:=3) (r:=2) (bH hb rfl) rfl (by decide) (by decide)) ?_));simp only[zz];refine cG rfl (fun hb=>aM bZ aU (bH hb rfl) (bH hb rfl) (by omega) (by omega) (cA (Int.toNat_natCast _))) (cG rfl (fun hb=>aH bL aC (bH hb rfl) (bH hb rfl) (by decide) (by decide) rfl) ?_);simp only[zz];refine gK rfl (fun hb u m=>cF (bH hb rfl) ((jP.cor (hrow.ext m.ext) (c:=2) (by omega)).lies aI aC)) (gK rfl (fun hb u m=>cF rfl ((m.b 1 rfl).full aI aC)) (cG rfl (fun hb=>cP (bH hb rfl) (bH hb rfl)) (aL (dA rfl rfl rfl) (dF ?_))));clear m;intro u m;refine k16 _ _ ?_;simp only[zz];refine kW rfl (fun hc3=>?_) (fun hc3=>?_)
    ·
     have hf:=tO ((mZ ht hb0).trans (aeS hq0 (rR.1 hc3)));refine aD fun K17 k17=>wp_region_lit (aA (aB) (aA (aB) (aA (aB) (aA (aQ (m:=1) (n:=2) (r:=3) rfl rfl (by decide)) ?_))));simp only[zz];refine aA (dK (m:=3) (n:=3) (r:=0) rfl rfl (by decide) (by decide)) ?_;simp only[zz];refine aA (aM bZ aU rfl rfl (by omega) (by omega) (cA (Int.toNat_natCast _))) (aA (aH bL aC rfl rfl (by decide) (by decide) rfl) ?_);simp only[zz];refine aJ rfl ((jP.cor (hrow.ext m.ext) (c:=0) (by omega)).lies aI aC) ?_;simp only[zz];refine aS m 0 rfl rfl rfl aC (dX rfl) rfl ?_;clear m;intro u m;simp only[zy,zx,bG,zF,zG,Nat.reduceAdd] at m;refine aA (aF) (aG (k17 _ _ ?_));refine wp_ret ?_;simp only[zz];try simp only[Exit.inBlock,Exit.then,if_true]
     refine nV rfl ⟨_,rfl,((m.b 0 rfl).full aI aC)⟩ rfl ?_;try simp only[zD,zE]
     exact ⟨_,rfl,m.ext,by rw [hf];rfl⟩
    ·
     have hq1:=yW hc3;refine wp_skip (k15 _ _ ?_);refine wp_region_lit (aA (aB) (aA (aQ (m:=1) (n:=1) (r:=2) rfl rfl (by decide)) (aA (aF) (aG (aT (aD fun K18 k18=>aD fun K19 k19=>wp_region_lit (aA (aB) ?_)))))));simp only[zz];refine aA (bT (m:=2) (n:=3) rfl rfl (by decide)) (aG (k19 _ _ ?_));refine cK rfl (wp_skip (k18 _ _ ?_));refine aD fun K20 k20=>wp_block (aD fun K21 k21=>?_);simp only[zz];refine mq m aO (by kernel_rfl) (aL (aB) (aL (aB) (aL (aB) ?_)));simp only[zz];refine aL (aM bZ aU rfl rfl (by omega) (by omega) (cA (Int.toNat_natCast _))) (aL (aH bL aC rfl rfl (by decide) (by decide) rfl) ?_);simp only[zz];refine ql rfl (fun u m=>((jP.cor (hrow.ext m.ext) (c:=2) (by omega)).lies aI aC)) ?_;simp only[zz];refine ql rfl (fun u m=>((m.b 2 rfl).full aI aC)) ?_;simp only[zz];refine aL (cP rfl rfl) (aL (aB) (cG rfl (fun hb=>aB) (cG rfl (fun hb=>aB) ?_)));simp only[zz];refine cG rfl (fun hb=>aB) (cG rfl (fun hb=>aQ (m:=2) (n:=1) (r:=3) (bH hb rfl) rfl (by decide)) (cG rfl (fun hb=>dK (m:=3) (n:=3) (r:=0) (bH hb rfl) rfl (by decide) (by decide)) ?_));simp only[zz];refine cG rfl (fun hb=>aM bZ aU (bH hb rfl) (bH hb rfl) (by omega) (by omega) (cA (Int.toNat_natCast _))) (cG rfl (fun hb=>aH bL aC (bH hb rfl) (bH hb rfl) (by decide) (by decide) rfl) ?_);simp only[zz];refine gK rfl (fun hb u m=>cF (bH hb rfl) ((jP.cor (hrow.ext m.ext) (c:=0) (by omega)).lies aI aC)) (gK rfl (fun hb u m=>cF rfl ((m.b 1 rfl).full aI aC)) (cG rfl (fun hb=>cP (bH hb rfl) (bH hb rfl)) (aL (dA rfl rfl rfl) (dF ?_))));clear m;intro u m;refine k21 _ _ ?_;simp only[zz];refine kW rfl (fun hc3=>?_) (fun hc3=>?_)
     ·
      have hf:=tO ((mZ ht hb0).trans (aeT hq0 hq1 (rR.1 hc3)));refine aD fun K22 k22=>wp_region_lit (aA (aB) (aA (aB) (aA (aB) (aA (aQ (m:=2) (n:=2) (r:=4) rfl rfl (by decide)) ?_))));simp only[zz];refine aA (dK (m:=4) (n:=3) (r:=1) rfl rfl (by decide) (by decide)) ?_;simp only[zz];refine aA (aM bZ aU rfl rfl (by omega) (by omega) (cA (Int.toNat_natCast _))) (aA (aH bL aC rfl rfl (by decide) (by decide) rfl) ?_);simp only[zz];refine aJ rfl ((jP.cor (hrow.ext m.ext) (c:=1) (by omega)).lies aI aC) ?_;simp only[zz];refine aS m 0 rfl rfl rfl aC (dX rfl) rfl ?_;clear m;intro u m;simp only[zy,zx,bG,zF,zG,Nat.reduceAdd] at m;refine aA (aF) (aG (k22 _ _ ?_));refine wp_ret ?_;simp only[zz];try simp only[Exit.inBlock,Exit.then,if_true]
      refine nV rfl ⟨_,rfl,((m.b 0 rfl).full aI aC)⟩ rfl ?_;try simp only[zD,zE]
      exact ⟨_,rfl,m.ext,by rw [hf];rfl⟩
     ·
      have hq2:=yW hc3;refine wp_skip (k20 _ _ ?_);refine wp_region_lit (aA (aB) (aA (aQ (m:=2) (n:=1) (r:=3) rfl rfl (by decide)) (aA (aF) (aG (aT (aD fun K23 k23=>aD fun K24 k24=>wp_region_lit (aA (aB) ?_)))))));simp only[zz];refine aA (fT (m:=3) (n:=3) rfl rfl (by decide)) (aG (k24 _ _ ?_));refine jM rfl (wp_exit (k6 _ _ ?_));refine wp_region_lit (aA (aB) ?_);simp only[zz];refine aA (aQ rfl rfl (aN (by omega) (by omega))) (aA (aF) (aG ?_));simp only[zz];simp only[Exit.inBlock,Exit.then];refine ⟨N - (k + 1),_,?_,rfl,?_,?_⟩
      · omega
      · simp only[zz,zv]
      ·
       simp only[zQ,zR,zD,zE];exact ⟨k + 1,rfl,m,(mZ ht hb0).trans (aeU hq0 hq1 hq2),by omega,rfl⟩
  ·
   have hkN : k = N:=by omega
   rw [hkN,show ts.take N = ts from List.take_of_length_le (by rw [hT.len];exact Nat.le_refl _)] at hb0;refine wp_exit (k2 _ _ ?_);refine aD fun K25 k25=>wp_region_lit (aJ rfl ((m.b 2 rfl).full aI aC) ?_);simp only[zz];refine aS m 0 rfl rfl rfl aC (dX rfl) rfl ?_;clear m;intro u m;simp only[zy,zx,bG,zF,zG,Nat.reduceAdd] at m;refine aA (aF) (aG (k25 _ _ ?_));refine wp_ret ?_;simp only[zz];try simp only[Exit.inBlock,Exit.then,if_true]
   refine nV rfl ⟨_,rfl,((m.b 0 rfl).full aI aC)⟩ rfl ?_;try simp only[zD,zE]
   exact ⟨_,rfl,m.ext,by rw [hb0];rfl⟩
theorem Vn {ts : List T3} {N cap : Nat} {A : Option Addr} {p : P3} (w : World) (hT : eG w A N ts) (hN : N ≤ 100000000) : eI prog 64 [.slice A N cap,pt p] w (fun v _=>v = .bool (xK ts p)):=by
 refine ⟨afm,?_⟩;have m:=bR.refl w
 go_enter func64,ntmps64
 refine aD fun K1 k1=>wp_region_lit (eY m rfl ?_);clear m;intro g1 u m;refine aA (aF) (aG (k1 _ _ ?_));refine aD fun K2 k2=>wp_region_lit (aA (aF) ?_);replace m:=m.nilO 53 9;refine aG (k2 _ _ ?_);refine aD fun K3 k3=>wp_region_lit (aA (aF) ?_);simp only[zz];replace m:=m.nilO 48 3;refine aG (k3 _ _ ?_);refine aD fun K4 k4=>aD fun K5 k5=>wp_region_lit (aA (aF) (aG (k5 _ _ ?_)));refine wp_block ?_;simp only[zz];try simp only[Nat.zero_add,Nat.reduceAdd,Nat.reduceMul,Int.reduceToNat]
 refine bM [5,6,7] [8,14,15,16,17,18,19,20,21,22,23,24,25,26,27,28,29,30,31,32,33,34,35,36,37,38,39,40,41,42,43,44,45,46,47,48,49] (fun n vs wl=>∃ (k n5 n6 cap5 cap6 : Nat) (A5 A6 : Option Addr),vs = [.slice A5 n5 cap5,.slice A6 n6 cap6,.int .i64 (k:Int)] ∧ bR w wl [oI 48 3 A6 n6 cap6 ((oS (ts.take k) p).flatMap wF),oI 53 9 A5 n5 cap5 ((kH (ts.take k) p).flatMap aX),bI g1 (wF p) 48] ∧ (n5 ≤ k * 3) ∧ (n6 ≤ k * 3) ∧ (k ≤ N) ∧ (n = N - k)) ?_ ?_
 ·
  apply Exists.intro;simp only[zQ,zR,zD,zE];exact ⟨0,_,_,_,_,_,_,rfl,m,Nat.le_refl _,Nat.le_refl _,Nat.zero_le _,rfl⟩
 ·
  intro n vs wr hI u;clear m;obtain ⟨k,n5,n6,cap5,cap6,A5,A6,rfl,m,hl5,hl6,hk,hn⟩:=hI;simp only[zu,zF,zG];refine aD fun K6 k6=>aD fun K7 k7=>wp_region_lit (aA (aB) (aA (aB) (aA (bF rfl bZ rfl) (aA (cJ rfl rfl) ?_))));simp only[zz];refine aG (k7 _ _ ?_);refine cO rfl (fun hc1=>?_) (fun hc1=>?_)
  ·
   obtain ⟨t,ht,_,a,rfl,hrow⟩:=hT.get (i:=k) (by omega);refine wp_skip (k6 _ _ ?_);refine aD fun K8 k8=>wp_block (aD fun K9 k9=>wp_region_lit (aA (aF) (aG (k9 _ _ ?_))));refine wp_block ?_;simp only[zz];try simp only[Nat.zero_add,Nat.reduceAdd,Nat.reduceMul,Int.reduceToNat]
   refine bM [5,6,8] [20,21,22,23,24,25,26,27,28,29,30,31,32,33,34,35,36,37,38,39,40,41,42,43,44,45,46,47,48,49] (fun n vs wl=>∃ (c n5 n6 cap5 cap6 : Nat) (A5 A6 : Option Addr),vs = [.slice A5 n5 cap5,.slice A6 n6 cap6,.int .i64 (c:Int)] ∧ bR w wl [oI 48 3 A6 n6 cap6 ((pS ts p (k) t (c)).flatMap wF),oI 53 9 A5 n5 cap5 ((vR ts p (k) t (c)).flatMap aX),bI g1 (wF p) 48] ∧ (n5 ≤ k * 3 + c) ∧ (n6 ≤ k * 3 + c) ∧ (c ≤ 3) ∧ (n = 3 - c)) ?_ ?_
   ·
    rw [← abA (t:=t),← Za (t:=t)] at m;apply Exists.intro;simp only[zQ,zR,zD,zE];exact ⟨0,_,_,_,_,_,_,rfl,m,hl5,hl6,Nat.zero_le _,rfl⟩
   ·
    intro n vs wr hI u;clear m;obtain ⟨c,n5,n6,cap5,cap6,A5,A6,rfl,m,hl5,hl6,hc,hn2⟩:=hI;simp only[zu,zF,zG];refine aD fun K10 k10=>aD fun K11 k11=>wp_region_lit (aA (aB) (aA (cJ rfl rfl) (aG (k11 _ _ ?_))));simp only[zz];refine cO rfl (fun hc2=>?_) (fun hc2=>?_)
    ·
     have hc3 : c < 3:=by omega
     refine wp_skip (k10 _ _ ?_);refine aD fun K12 k12=>wp_block (aD fun K13 k13=>mq m aO (by kernel_rfl) (aL (aB) (aL (aB) (aL (aB) ?_))));simp only[zz];refine aL (aM bZ aU rfl rfl (by omega) (by omega) (cA (Int.toNat_natCast _))) ?_;simp only[zz];refine aL (aH bL aC rfl rfl (by omega) (by omega) (cA (Int.toNat_natCast _))) ?_;simp only[zz];refine ql rfl (fun u m=>((jP.cor (hrow.ext m.ext) (c:=c) (by omega)).lies aI aC)) ?_;simp only[zz];refine ql rfl (fun u m=>((m.b 2 rfl).full aI aC)) ?_;simp only[zz];refine aL (cP rfl rfl) (dF ?_);clear m;intro u m;refine k13 _ _ ?_;simp only[zz];refine cO rfl (fun hc3=>?_) (fun hc3=>?_)
     ·
      have hcp : t.cor c = p:=P3.eq hc3.1 hc3.2.1 hc3.2.2;refine aD fun K14 k14=>wp_region_lit (aA (aB) (aA (aB) (aA (aB) ?_)));simp only[zz];refine aA (aM bZ aU rfl rfl (by omega) (by omega) (cA (Int.toNat_natCast _))) ?_;simp only[zz];refine aJ rfl ((hrow.ext m.ext).lies eQ aU) ?_;simp only[zz];refine Hk rfl ?_;intro u g2 e hg hB;replace m:=m.newB e hg hB;clear e hg hB;simp only[zz];refine dM m 2 rfl rfl bZ nM rfl (by decide) rfl rfl rfl (m.b 0 rfl).rowsO (pD rfl) (by omega) (by omega) ?_;clear m;intro A5 cap5 u m;simp only[zF,zG] at m;refine aA (aF) (aG (k14 _ _ ?_));refine wp_region_lit (aA (aB) (aA (aB) ?_));simp only[zz];refine aA (aB) (aA (aB) ?_);simp only[zz];refine aA (aQ rfl rfl (aN (by omega) (by omega))) ?_;simp only[zz];refine aA (dK rfl rfl (by omega) (Gz (k:=c + 1))) ?_;simp only[zz];refine aA (aM bZ aU rfl rfl (by omega) (by omega) (cA (Int.toNat_natCast _))) ?_;simp only[zz];refine aA (aH bL aC rfl rfl (by omega) (by omega) (cA (Int.toNat_natCast _))) ?_;simp only[zz];refine aJ rfl ((jP.cor (hrow.ext m.ext) (c:=(c + 1) % 3) (by omega)).lies aI aC) ?_;simp only[zz];refine uY rfl ?_;intro u g3 e hg hB;replace m:=m.newB e hg hB;clear e hg hB;simp only[zz];refine dM m 2 rfl rfl jI tR rfl (by decide) rfl rfl rfl (m.b 0 rfl).rowsO (pD rfl) (by omega) (by omega) ?_;clear m;intro A6 cap6 u m;simp only[zF,zG] at m;refine aA (aF) (aG (k12 _ _ ?_));refine wp_region_lit (aA (aB) ?_);simp only[zz];refine aA (aQ rfl rfl (aN (by omega) (by omega))) (aA (aF) (aG ?_));simp only[zz];simp only[Exit.inBlock,Exit.then];refine ⟨3 - (c + 1),_,?_,rfl,?_,?_⟩
      · omega
      · simp only[zz,zv]
      ·
       simp only[zQ,zR,zD,zE];exact ⟨c + 1,_,_,_,_,_,_,rfl,(((m.reO 3 rfl ((m.o 3 rfl).as (by rw [Uv hcp,List.flatMap_append];rfl))).reO 2 rfl ((m.o 2 rfl).as (by rw [Pm hcp,List.flatMap_append];rfl))).sel [false,false,true,true,true]),by omega,by omega,by omega,rfl⟩
     ·
      have hcp : ¬ t.cor c = p:=fun h=>hc3 (by rw [h];exact ⟨rfl,rfl,rfl⟩);refine wp_skip (k12 _ _ ?_);refine wp_region_lit (aA (aB) ?_);simp only[zz];refine aA (aQ rfl rfl (aN (by omega) (by omega))) (aA (aF) (aG ?_));simp only[zz];simp only[Exit.inBlock,Exit.then];refine ⟨3 - (c + 1),_,?_,rfl,?_,?_⟩
      · omega
      · simp only[zz,zv]
      ·
       simp only[zQ,zR,zD,zE];exact ⟨c + 1,_,_,_,_,_,_,rfl,((m.reO 1 rfl ((m.o 1 rfl).as (by rw [Yz hcp]))).reO 0 rfl ((m.o 0 rfl).as (by rw [Uw hcp]))),by omega,by omega,by omega,rfl⟩
    ·
     obtain rfl : c = 3:=by omega
     rw [abB ht,Zb ht] at m;refine wp_exit (k8 _ _ ?_);refine wp_region_lit (aA (aB) ?_);simp only[zz];refine aA (aQ rfl rfl (aN (by omega) (by omega))) (aA (aF) (aG ?_));simp only[zz];simp only[Exit.inBlock,Exit.then];refine ⟨N - (k + 1),_,?_,rfl,?_,?_⟩
     · omega
     · simp only[zz,zv]
     ·
      simp only[zQ,zR,zD,zE];exact ⟨k + 1,_,_,_,_,_,_,rfl,m,by omega,by omega,by omega,rfl⟩
  ·
   have hkN : k = N:=by omega
   rw [hkN,show ts.take N = ts from List.take_of_length_le (by rw [hT.len];exact Nat.le_refl _)] at m;obtain ⟨M,hM⟩ : ∃ M,M = kH ts p:=⟨_,rfl⟩
   obtain ⟨S,hS⟩ : ∃ S,S = oS ts p:=⟨_,rfl⟩
   rw [← hM,← hS] at m;have h5 : M.length = n5:=(m.o 1 rfl).num adi (by decide);have h6 : S.length = n6:=(m.o 0 rfl).num Lv (by decide);have hle6:=(m.o 0 rfl).le;have hP : xK ts p = S.any (fun s=>kI M p s (M.length - 1) s):=by rw [hM,hS];rfl
   clear hM hS;refine wp_exit (k4 _ _ ?_);refine aD fun K15 k15=>aD fun K16 k16=>wp_region_lit (aA (aF) (aG (k16 _ _ ?_)));refine wp_block ?_;simp only[zz];try simp only[Nat.zero_add,Nat.reduceAdd,Nat.reduceMul,Int.reduceToNat]
   refine bM [9] [4,10,11,12,13,50,51,52,53,54,55,56,57,58,59,60,61,62,63,64,65,66,67,68,69,70,71,72,73,74,75,76,77,78,79,80,81] (fun n vs wl=>∃ (k2 : Nat),vs = [.int .i64 (k2:Int)] ∧ bR w wl [oI 48 3 A6 n6 cap6 ((S).flatMap wF),oI 53 9 A5 n5 cap5 ((M).flatMap aX),bI g1 (wF p) 48] ∧ ((S.take k2).any (fun s=>kI M p s (M.length - 1) s) = false) ∧ (k2 ≤ n6) ∧ (n = n6 - k2)) ?_ ?_
   ·
    apply Exists.intro;simp only[zQ,zR,zD,zE];exact ⟨0,rfl,m,rfl,Nat.zero_le _,rfl⟩
   ·
    intro n vs wr hI u;clear m;obtain ⟨k2,rfl,m,hno,hk2,hn3⟩:=hI;simp only[zu,zF,zG];refine aD fun K17 k17=>aD fun K18 k18=>wp_region_lit (aA (aB) (aA (aB) (aA (bF rfl jI rfl) (aA (cJ rfl rfl) ?_))));simp only[zz];refine aG (k18 _ _ ?_);refine cO rfl (fun hc4=>?_) (fun hc4=>?_)
    ·
     obtain ⟨sx,hsx⟩ : ∃ sx,S[k2]? = some sx:=⟨_,List.getElem?_eq_getElem (by omega)⟩
     obtain ⟨gO,rfl⟩:=(m.o 0 rfl).some (by omega);refine wp_skip (k17 _ _ ?_);refine aD fun K19 k19=>wp_block (aD fun K20 k20=>wp_region_lit (aA (aB) (aA (aB) ?_)));simp only[zz];refine aA (aM jI aC rfl rfl (by omega) (by omega) (cA (Int.toNat_natCast _))) ?_;simp only[zz];refine aJ rfl (((m.o 0 rfl).at Lv hsx).lies aI aC) ?_;simp only[zz];refine bC m bP rfl ?_;clear m;intro g2 u m;simp only[zz];refine aS m 0 rfl rfl rfl aC (dX rfl) rfl ?_;clear m;intro u m;simp only[zy,zx,bG,zF,zG,Nat.reduceAdd] at m;refine aG (k20 _ _ ?_);refine aD fun K21 k21=>wp_region_lit (aA (aF) (aG (k21 _ _ ?_)));refine wp_block ?_;simp only[zz];try simp only[Nat.zero_add,Nat.reduceAdd,Nat.reduceMul,Int.reduceToNat]
     refine bM [11] [4,12,13,60,61,62,63,64,65,66,67,68,69,70,71,72,73,74,75,76,77,78,79,80,81] (fun n vs wl=>∃ (j : Nat) (x : P3),vs = [.int .i64 (j:Int)] ∧ bR w wl [bI g2 (wF x) 48,oI 48 3 (some ⟨gO,0,none⟩) n6 cap6 (S.flatMap wF),oI 53 9 A5 n5 cap5 ((M).flatMap aX),bI g1 (wF p) 48] ∧ (kI M p sx (M.length - 1) sx = kI M p sx (M.length - j) x) ∧ (1 ≤ j) ∧ (j ≤ n5 + 1) ∧ (n = n5 + 1 - j)) ?_ ?_
     ·
      apply Exists.intro;simp only[zQ,zR,zD,zE];exact ⟨1,sx,rfl,m,rfl,Nat.le_refl _,by omega,rfl⟩
     ·
      intro n vs wr hI u;clear m;obtain ⟨j,x,rfl,m,hrg,hj,hj2,hn4⟩:=hI;simp only[zu,zF,zG];refine aD fun K22 k22=>aD fun K23 k23=>wp_region_lit (aA (aB) (aA (aB) (aA (bF rfl bZ rfl) (aA (cJ rfl rfl) ?_))));simp only[zz];refine aG (k23 _ _ ?_);refine cO rfl (fun hc5=>?_) (fun hc5=>?_)
      ·
       obtain ⟨f,hf⟩ : ∃ f,M.length - j = f + 1:=⟨M.length - j - 1,by omega⟩
       rw [hf] at hrg;refine wp_skip (k22 _ _ ?_);refine aD fun K24 k24=>wp_block (aD fun K25 k25=>wp_region_lit (aA (aB) ?_));simp only[zz];refine aJ rfl ((m.b 3 rfl).full aI aC) ?_;simp only[zz];refine aJ rfl ((m.b 0 rfl).full aI aC) ?_;simp only[zz];refine gF m rfl rfl (Zr (p:=p) (q:=x) _ ((m.o 2 rfl).lat adi (by decide)) (by omega)) ?_;clear m;rintro v u m rfl;refine aA (aB) (aA (aZ rfl rfl) (aA (aZ rfl rfl) ?_));simp only[zz];refine bC m bP rfl ?_;clear m;intro g3 u m;simp only[zz];refine aS m 0 rfl rfl rfl aC (dX rfl) rfl ?_;clear m;intro u m;simp only[zy,zx,bG,zF,zG,Nat.reduceAdd] at m;refine aA (aF) (aG (k25 _ _ ?_));refine aD fun K26 k26=>aD fun K27 k27=>wp_region_lit (aA (aB) (aA (gX rfl) (aG (k27 _ _ ?_))));simp only[zz];refine kW rfl (fun hc6=>?_) (fun hc6=>?_)
       ·
        have hbn : bD M p x = none:=by cases hb : bD M p x with | none=>rfl | some y=>rw [hb] at hc6;cases hc6
        have hz : kI M p sx (M.length - 1) sx = false:=by rw [hrg,Hd hbn]
        have hno2 : (S.take (k2 + 1)).any (fun s=>kI M p s (M.length - 1) s) = false:=by rw [nA hsx,hno,hz];rfl
        refine wp_exit (k19 _ _ ?_);refine wp_region_lit (aA (aB) ?_);simp only[zz];refine aA (aQ rfl rfl (aN (by omega) (by omega))) (aA (aF) (aG ?_));simp only[zz];simp only[Exit.inBlock,Exit.then];refine ⟨n6 - (k2 + 1),_,?_,rfl,?_,?_⟩
        · omega
        · simp only[zz,zv]
        ·
         simp only[zQ,zR,zD,zE];exact ⟨k2 + 1,rfl,(m.sel [false,false,true,true,true]),hno2,by omega,rfl⟩
       ·
        obtain ⟨y,hy⟩ : ∃ y,bD M p x = some y:=by cases hb : bD M p x with | none=>rw [hb] at hc6;cases hc6 | some y=>exact ⟨y,rfl⟩
        rw [hy] at m;simp only[Option.getD_some] at m;refine wp_skip (k26 _ _ ?_);refine aD fun K28 k28=>wp_region_lit (aJ rfl ((m.b 0 rfl).full aI aC) ?_);simp only[zz];refine aS m 1 rfl rfl rfl aC (dX rfl) rfl ?_;clear m;intro u m;simp only[zy,zx,bG,zF,zG,Nat.reduceAdd] at m;refine aG (k28 _ _ ?_);refine aD fun K29 k29=>mq m aO (by kernel_rfl) (ql rfl (fun u m=>((m.b 1 rfl).full aI aC)) ?_);simp only[zz];refine aL (aB) (aL (aB) ?_);simp only[zz];refine aL (aM jI aC rfl rfl (by omega) (by omega) (cA (Int.toNat_natCast _))) ?_;simp only[zz];refine ql rfl (fun u m=>(((m.o 2 rfl).at Lv hsx).lies aI aC)) ?_;simp only[zz];refine aL (cP rfl rfl) (dF ?_);clear m;intro u m;refine k29 _ _ ?_;simp only[zz];refine cO rfl (fun hc7=>?_) (fun hc7=>?_)
        ·
         have hys : y = sx:=P3.eq hc7.1 hc7.2.1 hc7.2.2;have hz : S.any (fun s=>kI M p s (M.length - 1) s) = true:=rS hsx (by show kI M p sx (M.length - 1) sx = true;rw [hrg];exact Lx (by rw [hy,hys]));refine aD fun K30 k30=>wp_region_lit (aA (aF) (aG (k30 _ _ ?_)));refine wp_ret ?_;simp only[zz];try simp only[Exit.inBlock,Exit.then,if_true]
         refine bS rfl rfl ?_;try simp only[zD,zE]
         exact ⟨_,rfl,m.ext,by rw [hP,hz]⟩
        ·
         have hys : ¬ y = sx:=fun h=>hc7 (by rw [h];exact ⟨rfl,rfl,rfl⟩);refine wp_skip (k24 _ _ ?_);refine wp_region_lit (aA (aB) ?_);simp only[zz];refine aA (aQ rfl rfl (aN (by omega) (by omega))) (aA (aF) (aG ?_));simp only[zz];simp only[Exit.inBlock,Exit.then];refine ⟨n5 + 1 - (j + 1),_,?_,rfl,?_,?_⟩
         · omega
         · simp only[zz,zv]
         ·
          simp only[zQ,zR,zD,zE];exact ⟨j + 1,y,rfl,(m.sel [false,true,true,true,true]),by rw [hrg,He hy hys,show M.length - (j + 1) = f by omega],by omega,by omega,rfl⟩
      ·
       have hz : kI M p sx (M.length - 1) sx = false:=by rw [hrg,show M.length - j = 0 by omega];rfl
       have hno2 : (S.take (k2 + 1)).any (fun s=>kI M p s (M.length - 1) s) = false:=by rw [nA hsx,hno,hz];rfl
       refine wp_exit (k19 _ _ ?_);refine wp_region_lit (aA (aB) ?_);simp only[zz];refine aA (aQ rfl rfl (aN (by omega) (by omega))) (aA (aF) (aG ?_));simp only[zz];simp only[Exit.inBlock,Exit.then];refine ⟨n6 - (k2 + 1),_,?_,rfl,?_,?_⟩
       · omega
       · simp only[zz,zv]
       ·
        simp only[zQ,zR,zD,zE];exact ⟨k2 + 1,rfl,(m.sel [false,true,true,true]),hno2,by omega,rfl⟩
    ·
     have hk2 : k2 = S.length:=by omega
     rw [hk2,List.take_length] at hno;refine wp_exit (k15 _ _ ?_);refine aD fun K31 k31=>wp_region_lit (aA (aF) (aG (k31 _ _ ?_)));refine wp_ret ?_;simp only[zz];try simp only[Exit.inBlock,Exit.then,if_true]
     refine bS rfl rfl ?_;try simp only[zD,zE]
     exact ⟨_,rfl,m.ext,by rw [hP,hno]⟩
end Go.Proofs.YtfohfflkhpfjeaaGreatDoor
namespace Go.Proofs.YtfohfflkhpfjeaaGreatDoor
open Go.Proofs.Tryz
open Go.RowKit Go.Lith
set_option maxRecDepth 100000
attribute [local irreducible] wpList wpQuiet dC cS cR Code.wp
theorem Dv {all out : List E3} {e : E3} (h : 0 < iW all (e.2,e.1) ∨ 0 < iW out e) : lZ all out e = out:=if_pos h
theorem Hm {all out : List E3} {e : E3} {k : Nat} (h1 : ¬ 0 < iW all (e.2,e.1)) (h2 : ¬ 0 < iW out e) (h : Us out e = k) : lZ all out e = out.take k ++ [e] ++ out.drop k:=by
 rw [lZ,if_neg (fun h=>h.elim h1 h2),Pj,h]
theorem ad3 {w : World} {a : Addr} {e : E3} (h : jP w a (bJ e)) : jP w a [.int .i64 e.1.x,.int .i64 e.1.y,.int .i64 e.1.z,.int .i64 e.2.x,.int .i64 e.2.y,.int .i64 e.2.z]:=h
theorem gt0 {n : Nat} : ((0 : Int) < (n : Int)) ↔ 0 < n:=by omega
theorem Zs {ts : List T3} {N cap : Nat} {A : Option Addr} (w : World) (hT : eG w A N ts) (hN : N ≤ 100000000) : eI prog 18 [.slice A N cap] w (SL 57 6 ((aR ts).flatMap bJ) (aR ts).length w):=by
 refine ⟨aeZ,?_⟩;have m:=bR.refl w
 go_enter func18,ntmps18
 refine aD fun K1 k1=>wp_region_lit (aA (aF) (aG (k1 _ _ ?_)));refine aD fun K2 k2=>wp_region_lit (aA (aB) ?_);simp only[zz];refine bK rfl rfl (Ry _ (hT.ext m.ext) (by omega)) ?_;rintro v u e ⟨A3,cap3,n3,hn3,rfl,hN⟩;replace m:=m.newO e hN;clear e hN;have he3:=lG ts;have htl:=hT.len;refine aA (aF) (aG (k2 _ _ ?_));refine aD fun K3 k3=>wp_region_lit (aA (aF) ?_);replace m:=m.nilO 57 6;refine aG (k3 _ _ ?_);refine aD fun K4 k4=>aD fun K5 k5=>wp_region_lit (aA (aF) ?_);simp only[zz];refine aG (k5 _ _ ?_);refine wp_block ?_;try simp only[Nat.zero_add,Nat.reduceAdd,Nat.reduceMul,Int.reduceToNat]
 refine bM [4,5] [6,7,8,9,12,13,14,15,16,17,18,19,20,21,22,23,24,25,26,27,28,29,30,31,32,33,34,35,36,37,38,39,40,41,42,43,44,45,46,47,48,49,50,51,52,53,54,55,56,57,58,59,60,61,62,63] (fun n vs wl=>∃ (k n4 cap4 : Nat) (A4 : Option Addr),vs = [.slice A4 n4 cap4,.int .i64 (k:Int)] ∧ bR w wl [oI 57 6 A4 n4 cap4 ((((aP ts).take k).foldl (lZ (aP ts)) []).flatMap bJ),oI 57 6 A3 n3 cap3 ((aP ts).flatMap bJ)] ∧ (n4 ≤ k) ∧ (k ≤ n3) ∧ (n = n3 - k)) ?_ ?_
 ·
  apply Exists.intro;simp only[zQ,zR,zD,zE];exact ⟨0,_,_,_,rfl,m,Nat.le_refl _,Nat.zero_le _,rfl⟩
 ·
  intro n vs wr hI u;clear m;obtain ⟨k,n4,cap4,A4,rfl,m,hl4,hk,hn⟩:=hI;simp only[zu,zF,zG];refine aD fun K6 k6=>aD fun K7 k7=>wp_region_lit (aA (aB) (aA (aB) (aA (bF rfl fL rfl) (aA (cJ rfl rfl) ?_))));simp only[zz];refine aG (k7 _ _ ?_);refine cO rfl (fun hc1=>?_) (fun hc1=>?_)
  ·
   obtain ⟨e,he⟩ : ∃ e,(aP ts)[k]? = some e:=⟨_,List.getElem?_eq_getElem (by omega)⟩
   obtain ⟨gO,rfl⟩:=(m.o 1 rfl).some (by omega);refine wp_skip (k6 _ _ ?_);refine aD fun K8 k8=>wp_block (aD fun K9 k9=>wp_region_lit (aA (aB) (aA (aB) ?_)));simp only[zz];refine aA (aM fL cE rfl rfl (by omega) (by omega) (cA (Int.toNat_natCast _))) ?_;simp only[zz];refine aJ rfl ((ad3 ((m.o 1 rfl).at pR he)).lies jV cE) ?_;simp only[zz];refine bC m rU rfl ?_;clear m;intro g1 u m;simp only[zz];refine aS m 0 rfl rfl rfl cE (dX rfl) rfl ?_;clear m;intro u m;simp only[zy,zx,bG,zF,zG,Nat.reduceAdd] at m;refine aG (k9 _ _ ?_);refine aD fun K10 k10=>aD fun K11 k11=>?_;obtain ⟨B,hB⟩ : ∃ B,B = ((aP ts).take k).foldl (lZ (aP ts)) []:=⟨_,rfl⟩
   rw [← hB] at m;have h4 : B.length = n4:=(m.o 1 rfl).num pR (by decide);have hle4:=(m.o 1 rfl).le;have hs:=Ut (all:=aP ts) he;rw [← hB] at hs;rcases Nat.eq_zero_or_pos (iW (aP ts) (e.2,e.1)) with hz | hz
   ·
    refine wp_region_lit (aA (aB) (aA (aH jH aC rfl rfl (by decide) (by decide) rfl) ?_));simp only[zz];refine aJ rfl ((m.b 0 rfl).lies aI aC rfl rfl) ?_;simp only[zz,zy,Nat.zero_add,Nat.reduceAdd,Nat.reduceMul,Int.reduceToNat];refine aA (aH jH aC rfl rfl (by decide) (by decide) rfl) ?_;simp only[zz];refine aJ rfl ((m.b 0 rfl).lies aI aC rfl rfl) ?_;simp only[zz,zy,Nat.zero_add,Nat.reduceAdd,Nat.reduceMul,Int.reduceToNat];refine aA (bW rfl rfl) ?_;simp only[zz];refine gF m rfl rfl (Ca (es:=aP ts) (e:=(e.2,e.1)) _ ((m.o 2 rfl).lat pR (by decide)) (by omega)) ?_;clear m;rintro v u m rfl;simp only[zz];refine aA (yP rfl rfl (by omega)) (aA (aB) (bU rfl (aA (aB) (bU rfl ?_))));simp only[zz];refine aJ rfl ((m.b 0 rfl).full jV cE) ?_;simp only[zz];refine bU rfl (gF m rfl rfl (Ca (es:=B) (e:=e) _ ((m.o 1 rfl).lat pR (by decide)) (by omega)) ?_);clear m;rintro v u m rfl;refine bU rfl (aA (sU rfl rfl) (aA (iT rfl) (aG (k11 _ _ ?_))));simp only[zz];refine cO rfl (fun hc2=>?_) (fun hc2=>?_)
    ·
     rw [Dv (.inr (gt0.1 hc2))] at hs;refine wp_exit (k8 _ _ ?_);refine wp_region_lit (aA (aB) ?_);simp only[zz];refine aA (aQ rfl rfl (aN (by omega) (by omega))) (aA (aF) (aG ?_));simp only[zz];simp only[Exit.inBlock,Exit.then];refine ⟨n3 - (k + 1),_,?_,rfl,?_,?_⟩
     · omega
     · simp only[zz,zv]
     ·
      simp only[zQ,zR,zD,zE];exact ⟨k + 1,_,_,_,rfl,((m.reO 1 rfl ((m.o 1 rfl).as (by rw [hs]))).sel [false,true,true]),by omega,by omega,rfl⟩
    ·
     have hz2 : ¬ 0 < iW B e:=fun h=>hc2 (gt0.2 h);refine wp_skip (k10 _ _ ?_);refine aD fun K12 k12=>wp_region_lit (aA (aF) (aG (k12 _ _ ?_)));refine aD fun K13 k13=>wp_block ?_;simp only[zz];try simp only[Nat.zero_add,Nat.reduceAdd,Nat.reduceMul,Int.reduceToNat]
     refine bM [7] [8,36,37,38,39,40,41,42,43,44,45,46,47,48,49] (fun n vs wl=>∃ (j : Nat),vs = [.int .i64 (j:Int)] ∧ bR w wl [bI g1 (bJ e) 57,oI 57 6 A4 n4 cap4 ((B).flatMap bJ),oI 57 6 (some ⟨gO,0,none⟩) n3 cap3 ((aP ts).flatMap bJ)] ∧ (Pre (fun x=>Rw x e) B j) ∧ (j ≤ n4) ∧ (n = n4 - j)) ?_ ?_
     ·
      apply Exists.intro;simp only[zQ,zR,zD,zE];exact ⟨0,rfl,m,Pre.zero,Nat.zero_le _,rfl⟩
     ·
      intro n vs wr hI u;clear m;obtain ⟨j,rfl,m,hpre,hj,hn2⟩:=hI;simp only[zu,zF,zG];refine aD fun K14 k14=>aD fun K15 k15=>wp_region_lit (aA (aB) (aA (aB) (aA (bF rfl fL rfl) (aA (cJ rfl rfl) ?_))));simp only[zz];refine aG (k15 _ _ ?_);refine cO rfl (fun hc3=>?_) (fun hc3=>?_)
      ·
       obtain ⟨x,hx⟩ : ∃ x,B[j]? = some x:=⟨_,List.getElem?_eq_getElem (by omega)⟩
       obtain ⟨gP,rfl⟩:=(m.o 1 rfl).some (by omega);refine wp_skip (k14 _ _ ?_);refine wp_block (aD fun K16 k16=>mq m aO (by kernel_rfl) (aL (aB) (aL (aB) ?_)));simp only[zz];refine aL (aM fL cE rfl rfl (by omega) (by omega) (cA (Int.toNat_natCast _))) ?_;simp only[zz];refine ql rfl (fun u m=>(((m.o 1 rfl).at pR hx).lies jV cE)) ?_;simp only[zz];refine ql rfl (fun u m=>((m.b 0 rfl).full jV cE)) ?_;simp only[zz];refine wU rfl rfl (Zq (a:=x) (b:=e)) (aL (aF) (dF ?_));clear m;intro u m;refine k16 _ _ ?_;refine aD fun K17 k17=>aD fun K18 k18=>wp_region_lit (aA (aB) (aA (gX rfl) ?_));simp only[zz];refine aG (k18 _ _ ?_);refine kW rfl (fun hc4=>?_) (fun hc4=>?_)
       ·
        have hpos : Us B e = j:=acF hpre hx (by simpa using hc4);rw [Hm (by omega) hz2 hpos] at hs;refine wp_exit (k13 _ _ ?_);refine aD fun K19 k19=>wp_region_lit (aA (aF) ?_);replace m:=m.nilO 57 6;refine aG (k19 _ _ ?_);refine aD fun K20 k20=>wp_region_lit (aA (aB) (aA (aB) (aA (aB) ?_)));simp only[zz];refine aA (lC fL cE rfl rfl (Int.toNat_natCast _) (by omega) (by omega)) ?_;simp only[zz];refine dM m 0 rfl rfl fL tU rfl (by decide) rfl rfl (by rw [iC pR,List.length_take,Nat.min_eq_left (show j ≤ B.length by omega)]) ((((m.o 2 rfl).lat pR (by decide)).take (k:=j) (by omega)).cells pR (by decide)) (Di _) (by omega) (by omega) ?_;clear m;intro A9 cap9 u m;simp only[zF,zG] at m;rw [List.nil_append,Nat.zero_add] at m;rw [Nat.zero_add];refine aA (aF) (aG (k20 _ _ ?_));refine aD fun K21 k21=>wp_region_lit (aA (aB) ?_);simp only[zz];refine aJ rfl ((m.b 1 rfl).full jV cE) ?_;simp only[zz];refine yZ rfl ?_;intro u g2 e hg hB;replace m:=m.newB e hg hB;clear e hg hB;simp only[zz];refine dM m 1 rfl rfl fL tU rfl (by decide) rfl rfl rfl (m.b 0 rfl).rowsO (pD rfl) (by omega) (by omega) ?_;clear m;intro A9 cap9 u m;simp only[zF,zG] at m;refine aA (aF) (aG (k21 _ _ ?_));refine wp_region_lit (aA (aB) (aA (aB) ?_));simp only[zz];refine aA (aB) ?_;simp only[zz];refine aA (jK fL cE rfl rfl (Int.toNat_natCast _) (by omega) (by omega) rfl) ?_;simp only[zz];refine dM m 1 rfl rfl fL tU rfl (by decide) rfl rfl (by rw [iC pR,List.length_drop,h4]) (((m.o 3 rfl).lat pR (by decide)).cellsD pR (by decide) (by omega)) (Di _) (by omega) (by omega) ?_;clear m;intro A9 cap9 u m;simp only[zF,zG] at m;refine aA (aF) ?_;simp only[zz];replace m:=(m.pull 1 rfl).mv 2 rfl;simp only[wG,wH,zF,zG] at m;refine aG (k8 _ _ ?_);refine wp_region_lit (aA (aB) ?_);simp only[zz];refine aA (aQ rfl rfl (aN (by omega) (by omega))) (aA (aF) (aG ?_));simp only[zz];simp only[Exit.inBlock,Exit.then];refine ⟨n3 - (k + 1),_,?_,rfl,?_,?_⟩
        · omega
        · simp only[zz,zv]
        ·
         simp only[zQ,zR,zD,zE];exact ⟨k + 1,_,_,_,rfl,((m.reO 2 rfl ((m.o 2 rfl).as (by rw [hs,List.flatMap_append,List.flatMap_append];rfl))).sel [false,false,true,true]),by omega,by omega,rfl⟩
       ·
        have hpre2:=hpre.step hx (by simpa using hc4);refine wp_skip (k17 _ _ ?_);refine wp_region_lit (aA (aB) ?_);simp only[zz];refine aA (aQ rfl rfl (aN (by omega) (by omega))) (aA (aF) (aG ?_));simp only[zz];simp only[Exit.inBlock,Exit.then];refine ⟨n4 - (j + 1),_,?_,rfl,?_,?_⟩
        · omega
        · simp only[zz,zv]
        ·
         simp only[zQ,zR,zD,zE];exact ⟨j + 1,rfl,m,hpre2,by omega,rfl⟩
      ·
       have hjl : j = B.length:=by omega
       have hpos : Us B e = j:=by rw [hjl] at hpre ⊢;exact Yy hpre
       rw [Hm (by omega) hz2 hpos] at hs;refine wp_exit (k13 _ _ ?_);refine aD fun K22 k22=>wp_region_lit (aA (aF) ?_);replace m:=m.nilO 57 6;refine aG (k22 _ _ ?_);refine aD fun K23 k23=>wp_region_lit (aA (aB) (aA (aB) (aA (aB) ?_)));simp only[zz];refine aA (lC fL cE rfl rfl (Int.toNat_natCast _) (by omega) (by omega)) ?_;simp only[zz];refine dM m 0 rfl rfl fL tU rfl (by decide) rfl rfl (by rw [iC pR,List.length_take,Nat.min_eq_left (show j ≤ B.length by omega)]) ((((m.o 2 rfl).lat pR (by decide)).take (k:=j) (by omega)).cells pR (by decide)) (Di _) (by omega) (by omega) ?_;clear m;intro A9 cap9 u m;simp only[zF,zG] at m;rw [List.nil_append,Nat.zero_add] at m;rw [Nat.zero_add];refine aA (aF) (aG (k23 _ _ ?_));refine aD fun K24 k24=>wp_region_lit (aA (aB) ?_);simp only[zz];refine aJ rfl ((m.b 1 rfl).full jV cE) ?_;simp only[zz];refine yZ rfl ?_;intro u g2 e hg hB;replace m:=m.newB e hg hB;clear e hg hB;simp only[zz];refine dM m 1 rfl rfl fL tU rfl (by decide) rfl rfl rfl (m.b 0 rfl).rowsO (pD rfl) (by omega) (by omega) ?_;clear m;intro A9 cap9 u m;simp only[zF,zG] at m;refine aA (aF) (aG (k24 _ _ ?_));refine wp_region_lit (aA (aB) (aA (aB) ?_));simp only[zz];refine aA (aB) ?_;simp only[zz];refine aA (jK fL cE rfl rfl (Int.toNat_natCast _) (by omega) (by omega) rfl) ?_;simp only[zz];refine dM m 1 rfl rfl fL tU rfl (by decide) rfl rfl (by rw [iC pR,List.length_drop,h4]) (((m.o 3 rfl).lat pR (by decide)).cellsD pR (by decide) (by omega)) (Di _) (by omega) (by omega) ?_;clear m;intro A9 cap9 u m;simp only[zF,zG] at m;refine aA (aF) ?_;simp only[zz];replace m:=(m.pull 1 rfl).mv 2 rfl;simp only[wG,wH,zF,zG] at m;refine aG (k8 _ _ ?_);refine wp_region_lit (aA (aB) ?_);simp only[zz];refine aA (aQ rfl rfl (aN (by omega) (by omega))) (aA (aF) (aG ?_));simp only[zz];simp only[Exit.inBlock,Exit.then];refine ⟨n3 - (k + 1),_,?_,rfl,?_,?_⟩
       · omega
       · simp only[zz,zv]
       ·
        simp only[zQ,zR,zD,zE];exact ⟨k + 1,_,_,_,rfl,((m.reO 2 rfl ((m.o 2 rfl).as (by rw [hs,List.flatMap_append,List.flatMap_append];rfl))).sel [false,false,true,true]),by omega,by omega,rfl⟩
   ·
    rw [Dv (.inl hz)] at hs;refine wp_region_lit (aA (aB) (aA (aH jH aC rfl rfl (by decide) (by decide) rfl) ?_));simp only[zz];refine aJ rfl ((m.b 0 rfl).lies aI aC rfl rfl) ?_;simp only[zz,zy,Nat.zero_add,Nat.reduceAdd,Nat.reduceMul,Int.reduceToNat];refine aA (aH jH aC rfl rfl (by decide) (by decide) rfl) ?_;simp only[zz];refine aJ rfl ((m.b 0 rfl).lies aI aC rfl rfl) ?_;simp only[zz,zy,Nat.zero_add,Nat.reduceAdd,Nat.reduceMul,Int.reduceToNat];refine aA (bW rfl rfl) ?_;simp only[zz];refine gF m rfl rfl (Ca (es:=aP ts) (e:=(e.2,e.1)) _ ((m.o 2 rfl).lat pR (by decide)) (by omega)) ?_;clear m;rintro v u m rfl;simp only[zz];refine aA (Co rfl rfl (by omega)) (aA (aB) (lP rfl (lP rfl ?_)));simp only[zz];refine lP rfl (lP rfl (aA (gA rfl) (aG (k11 _ _ ?_))));refine cK rfl (wp_exit (k8 _ _ ?_));refine wp_region_lit (aA (aB) ?_);simp only[zz];refine aA (aQ rfl rfl (aN (by omega) (by omega))) (aA (aF) (aG ?_));simp only[zz];simp only[Exit.inBlock,Exit.then];refine ⟨n3 - (k + 1),_,?_,rfl,?_,?_⟩
    · omega
    · simp only[zz,zv]
    ·
     simp only[zQ,zR,zD,zE];exact ⟨k + 1,_,_,_,rfl,((m.reO 1 rfl ((m.o 1 rfl).as (by rw [hs]))).sel [false,true,true]),by omega,by omega,rfl⟩
  ·
   have hkN : k = (aP ts).length:=by omega
   rw [hkN,List.take_length] at m;refine wp_exit (k4 _ _ ?_);refine aD fun K25 k25=>wp_region_lit (aA (aB) (aA (aF) (aG (k25 _ _ ?_))));refine wp_ret ?_;simp only[zz];try simp only[Exit.inBlock,Exit.then,if_true]
   refine bS rfl rfl ?_;try simp only[zD,zE]
   exact ⟨_,rfl,m.ext,⟨_,_,_,((m.o 0 rfl).num pR (by decide)).symm,rfl,(m.o 0 rfl)⟩⟩
theorem Rz {op : Bool} {ts : List T3} (h : ts.any jN = true) : cV op ts = 20:=by simp [cV,h]
theorem Sa {op : Bool} {ts : List T3} (h : ts.any jN = false) (h2 : (aP ts).any (fun e=>decide (1 < iW (aP ts) e)) = true) : cV op ts = 21:=by rw [cV,h,h2];rfl
theorem Sb {op : Bool} {ts : List T3} (h : ts.any jN = false) (h2 : (aP ts).any (fun e=>decide (1 < iW (aP ts) e)) = false) (h3 : (!op && decide (0 < (aR ts).length)) = false) (h4 : (dR ts).any (xK ts) = true) : cV op ts = 23:=by rw [cV,h,h2,h3,h4];rfl
theorem Zt {op : Bool} {ts : List T3} (h : ts.any jN = false) (h2 : (aP ts).any (fun e=>decide (1 < iW (aP ts) e)) = false) (h3 : (!op && decide (0 < (aR ts).length)) = false) (h4 : (dR ts).any (xK ts) = false) : cV op ts = 0:=by rw [cV,h,h2,h3,h4];rfl
theorem gt1 {n : Nat} : ((1 : Int) < (n : Int)) ↔ 1 < n:=by omega
theorem abK {ts : List T3} {N cap : Nat} {A : Option Addr} (w : World) (hT : eG w A N ts) (hN : N ≤ 100000000) : eI prog 30 [.slice A N cap,.bool true] w (fun v _=>v = .int .i64 (cV true ts)):=by
 refine ⟨ae6,?_⟩;have m:=bR.refl w;have htl:=hT.len;have he3:=lG ts;have hcl:=As ts
 go_enter func30,ntmps30
 refine aD fun K1 k1=>wp_region_lit (aA (aF) (aG (k1 _ _ ?_)));refine aD fun K2 k2=>aD fun K3 k3=>wp_region_lit (aA (aF) (aG (k3 _ _ ?_)));refine wp_block ?_;simp only[zz];try simp only[Nat.zero_add,Nat.reduceAdd,Nat.reduceMul,Int.reduceToNat]
 refine bM [5] [4,11,12,13,14,15,16,17,18,19,20,21,22,23,24,25,26,27,28,29,30,31,32,33,34,35,36,37,38,39,40,41,42,43,44,45,46,47,48,49,50,51,52,53] (fun n vs wl=>∃ (k : Nat),vs = [.int .i64 (k:Int)] ∧ bR w wl [] ∧ ((ts.take k).any jN = false) ∧ (k ≤ N) ∧ (n = N - k)) ?_ ?_
 ·
  apply Exists.intro;simp only[zQ,zR,zD,zE];exact ⟨0,rfl,m,rfl,Nat.zero_le _,rfl⟩
 ·
  intro n vs wr hI u;clear m;obtain ⟨k,rfl,m,hd0,hk,hn⟩:=hI;simp only[zu,zF,zG];refine aD fun K4 k4=>aD fun K5 k5=>wp_region_lit (aA (aB) (aA (aB) (aA (bF rfl bZ rfl) (aA (cJ rfl rfl) ?_))));simp only[zz];refine aG (k5 _ _ ?_);refine cO rfl (fun hc1=>?_) (fun hc1=>?_)
  ·
   obtain ⟨t,ht,_,a,rfl,hrow⟩:=hT.get (i:=k) (by omega);refine wp_skip (k4 _ _ ?_);refine aD fun K6 k6=>wp_block (aD fun K7 k7=>mq m aO (by kernel_rfl) (aL (aB) (aL (aB) ?_)));simp only[zz];refine aL (aM bZ aU rfl rfl (by omega) (by omega) (cA (Int.toNat_natCast _))) (aL (aH bL aC rfl rfl (by decide) (by decide) rfl) ?_);simp only[zz];refine ql rfl (fun u m=>((jP.cor ((hrow.ext m.ext)) (c:=0) (by decide)).lies aI aC)) ?_;simp only[zz];refine aL (aB) (aL (aB) ?_);simp only[zz];refine aL (aM bZ aU rfl rfl (by omega) (by omega) (cA (Int.toNat_natCast _))) (aL (aH bL aC rfl rfl (by decide) (by decide) rfl) ?_);simp only[zz];refine ql rfl (fun u m=>((jP.cor ((hrow.ext m.ext)) (c:=1) (by decide)).lies aI aC)) ?_;simp only[zz];refine aL (cP rfl rfl) (aL (aB) (cY rfl (fun hb=>aB) (cY rfl (fun hb=>aB) ?_)));simp only[zz];refine cY rfl (fun hb=>aM bZ aU (bH hb rfl) (bH hb rfl) (by omega) (by omega) (cA (Int.toNat_natCast _))) (cY rfl (fun hb=>aH bL aC (bH hb rfl) rfl (by decide) (by decide) rfl) ?_);simp only[zz];refine fP rfl (fun hb u m=>cF (bH hb rfl) ((jP.cor ((hrow.ext m.ext)) (c:=1) (by decide)).lies aI aC)) (cY rfl (fun hb=>aB) (cY rfl (fun hb=>aB) ?_));simp only[zz];refine cY rfl (fun hb=>aM bZ aU (bH hb rfl) (bH hb rfl) (by omega) (by omega) (cA (Int.toNat_natCast _))) (cY rfl (fun hb=>aH bL aC (bH hb rfl) rfl (by decide) (by decide) rfl) ?_);simp only[zz];refine fP rfl (fun hb u m=>cF (bH hb rfl) ((jP.cor ((hrow.ext m.ext)) (c:=2) (by decide)).lies aI aC)) (cY rfl (fun hb=>cP (bH hb rfl) (bH hb rfl)) (aL (gU rfl rfl rfl) (aL (aB) (cY rfl (fun hb=>aB) ?_))));simp only[zz];refine cY rfl (fun hb=>aB) ?_;simp only[zz];refine cY rfl (fun hb=>aM bZ aU (bH hb rfl) (bH hb rfl) (by omega) (by omega) (cA (Int.toNat_natCast _))) (cY rfl (fun hb=>aH bL aC (bH hb rfl) rfl (by decide) (by decide) rfl) ?_);simp only[zz];refine fP rfl (fun hb u m=>cF (bH hb rfl) ((jP.cor ((hrow.ext m.ext)) (c:=2) (by decide)).lies aI aC)) (cY rfl (fun hb=>aB) (cY rfl (fun hb=>aB) ?_));simp only[zz];refine cY rfl (fun hb=>aM bZ aU (bH hb rfl) (bH hb rfl) (by omega) (by omega) (cA (Int.toNat_natCast _))) (cY rfl (fun hb=>aH bL aC (bH hb rfl) rfl (by decide) (by decide) rfl) ?_);simp only[zz];refine fP rfl (fun hb u m=>cF (bH hb rfl) ((jP.cor ((hrow.ext m.ext)) (c:=0) (by decide)).lies aI aC)) (cY rfl (fun hb=>cP (bH hb rfl) (bH hb rfl)) (aL (gU rfl rfl rfl) (dF ?_)));clear m;intro u m;refine k7 _ _ ?_;simp only[zz];refine kW rfl (fun hc2=>?_) (fun hc2=>?_)
   ·
    have hd:=rS (p:=jN) ht (Jk.symm.trans hc2);refine aD fun K8 k8=>wp_region_lit (aA (aF) (aG (k8 _ _ ?_)));refine wp_ret ?_;simp only[zz];try simp only[Exit.inBlock,Exit.then,if_true]
    refine bS rfl rfl ?_;try simp only[zD,zE]
    exact ⟨_,rfl,m.ext,by rw [Rz hd]⟩
   ·
    have hd1 : (ts.take (k + 1)).any jN = false:=by rw [nA ht,hd0,← Jk];exact hc2
    refine wp_skip (k6 _ _ ?_);refine wp_region_lit (aA (aB) ?_);simp only[zz];refine aA (aQ rfl rfl (aN (by omega) (by omega))) (aA (aF) (aG ?_));simp only[zz];simp only[Exit.inBlock,Exit.then];refine ⟨N - (k + 1),_,?_,rfl,?_,?_⟩
    · omega
    · simp only[zz,zv]
    ·
     simp only[zQ,zR,zD,zE];exact ⟨k + 1,rfl,m,hd1,by omega,rfl⟩
  ·
   have hkN : k = N:=by omega
   rw [hkN,show ts.take N = ts from List.take_of_length_le (by omega)] at hd0;refine wp_exit (k2 _ _ ?_);refine aD fun K9 k9=>wp_region_lit (aA (aB) ?_);simp only[zz];refine bK rfl rfl (Ry _ (hT.ext m.ext) (by omega)) ?_;rintro v u e ⟨A3,cap3,n3,hn3,rfl,hN⟩;replace m:=m.newO e hN;clear e hN;have hle3:=(m.o 0 rfl).le;refine aA (aF) (aG (k9 _ _ ?_));refine aD fun K10 k10=>aD fun K11 k11=>wp_region_lit (aA (aF) (aG (k11 _ _ ?_)));refine wp_block ?_;simp only[zz];try simp only[Nat.zero_add,Nat.reduceAdd,Nat.reduceMul,Int.reduceToNat]
   refine bM [7] [4,56,57,58,59,60,61,62,63,64,65,66,67,68] (fun n vs wl=>∃ (k : Nat),vs = [.int .i64 (k:Int)] ∧ bR w wl [oI 57 6 A3 n3 cap3 ((aP ts).flatMap bJ)] ∧ (((aP ts).take k).any (fun e=>decide (1 < iW (aP ts) e)) = false) ∧ (k ≤ n3) ∧ (n = n3 - k)) ?_ ?_
   ·
    apply Exists.intro;simp only[zQ,zR,zD,zE];exact ⟨0,rfl,m,rfl,Nat.zero_le _,rfl⟩
   ·
    intro n vs wr hI u;clear m;obtain ⟨k,rfl,m,hc0,hk,hn⟩:=hI;simp only[zu,zF,zG];refine aD fun K12 k12=>aD fun K13 k13=>wp_region_lit (aA (aB) (aA (aB) (aA (bF rfl fL rfl) (aA (cJ rfl rfl) ?_))));simp only[zz];refine aG (k13 _ _ ?_);refine cO rfl (fun hc3=>?_) (fun hc3=>?_)
    ·
     obtain ⟨e,he⟩ : ∃ e,(aP ts)[k]? = some e:=⟨_,List.getElem?_eq_getElem (by omega)⟩
     obtain ⟨gO,rfl⟩:=(m.o 0 rfl).some (by omega);refine wp_skip (k12 _ _ ?_);refine aD fun K14 k14=>wp_block (aD fun K15 k15=>wp_region_lit (aA (aB) (aA (aB) (aA (aB) ?_))));simp only[zz];refine aA (aM fL cE rfl rfl (by omega) (by omega) (cA (Int.toNat_natCast _))) ?_;simp only[zz];refine aJ rfl (((m.o 0 rfl).at pR he).lies jV cE) ?_;simp only[zz];refine gF m rfl rfl (Ca (es:=aP ts) (e:=e) _ ((m.o 0 rfl).lat pR (by decide)) (by omega)) ?_;clear m;rintro v u m rfl;refine aA (sU rfl rfl) (aG (k15 _ _ ?_));simp only[zz];refine cO rfl (fun hc4=>?_) (fun hc4=>?_)
     ·
      have hc:=rS (p:=(fun e=>decide (1 < iW (aP ts) e))) he (decide_eq_true (gt1.1 hc4));refine aD fun K16 k16=>wp_region_lit (aA (aF) (aG (k16 _ _ ?_)));refine wp_ret ?_;simp only[zz];try simp only[Exit.inBlock,Exit.then,if_true]
      refine bS rfl rfl ?_;try simp only[zD,zE]
      exact ⟨_,rfl,m.ext,by rw [Sa hd0 hc]⟩
     ·
      have hc01 : ((aP ts).take (k + 1)).any (fun e=>decide (1 < iW (aP ts) e)) = false:=by rw [nA he,hc0,decide_eq_false (fun h=>hc4 (gt1.2 h))];rfl
      refine wp_skip (k14 _ _ ?_);refine wp_region_lit (aA (aB) ?_);simp only[zz];refine aA (aQ rfl rfl (aN (by omega) (by omega))) (aA (aF) (aG ?_));simp only[zz];simp only[Exit.inBlock,Exit.then];refine ⟨n3 - (k + 1),_,?_,rfl,?_,?_⟩
      · omega
      · simp only[zz,zv]
      ·
       simp only[zQ,zR,zD,zE];exact ⟨k + 1,rfl,m,hc01,by omega,rfl⟩
    ·
     have hkN : k = (aP ts).length:=by omega
     rw [hkN,List.take_length] at hc0;refine wp_exit (k10 _ _ ?_);refine aD fun K17 k17=>aD fun K18 k18=>wp_region_lit (aA (aB) (aA (gX rfl) (aA (aB) (cU rfl ?_))));simp only[zz];refine cU rfl (cU rfl (cU rfl (aA (iT rfl) ?_)));simp only[zz];refine aG (k18 _ _ ?_);refine jM rfl (wp_skip (k17 _ _ ?_));refine aD fun K19 k19=>wp_region_lit (aA (aB) ?_);simp only[zz];refine bK rfl rfl (Vm _ (hT.ext m.ext) hN) ?_;rintro v u e ⟨A8,cap8,n8,hn8,rfl,hN⟩;replace m:=m.newO e hN;clear e hN;have hle8:=(m.o 0 rfl).le;refine aA (aF) (aG (k19 _ _ ?_));refine aD fun K20 k20=>aD fun K21 k21=>wp_region_lit (aA (aF) (aG (k21 _ _ ?_)));refine wp_block ?_;simp only[zz];try simp only[Nat.zero_add,Nat.reduceAdd,Nat.reduceMul,Int.reduceToNat]
     refine bM [9] [4,10,79,80,81,82,83,84,85,86,87,88,89,90,91] (fun n vs wl=>∃ (k : Nat),vs = [.int .i64 (k:Int)] ∧ bR w wl [oI 48 3 A8 n8 cap8 ((dR ts).flatMap wF)] ∧ (((dR ts).take k).any (xK ts) = false) ∧ (k ≤ n8) ∧ (n = n8 - k)) ?_ ?_
     ·
      apply Exists.intro;simp only[zQ,zR,zD,zE];exact ⟨0,rfl,(m.sel [true,false]),rfl,Nat.zero_le _,rfl⟩
     ·
      intro n vs wr hI u;clear m;obtain ⟨k,rfl,m,hp0,hk,hn⟩:=hI;simp only[zu,zF,zG];refine aD fun K22 k22=>aD fun K23 k23=>wp_region_lit (aA (aB) (aA (aB) (aA (bF rfl jI rfl) (aA (cJ rfl rfl) ?_))));simp only[zz];refine aG (k23 _ _ ?_);refine cO rfl (fun hc6=>?_) (fun hc6=>?_)
      ·
       obtain ⟨x,hx⟩ : ∃ x,(dR ts)[k]? = some x:=⟨_,List.getElem?_eq_getElem (by omega)⟩
       obtain ⟨gO,rfl⟩:=(m.o 0 rfl).some (by omega);refine wp_skip (k22 _ _ ?_);refine aD fun K24 k24=>wp_block (aD fun K25 k25=>wp_region_lit (aA (aB) (aA (aB) (aA (aB) ?_))));simp only[zz];refine aA (aM jI aC rfl rfl (by omega) (by omega) (cA (Int.toNat_natCast _))) ?_;simp only[zz];refine aJ rfl (((m.o 0 rfl).at Lv hx).lies aI aC) ?_;simp only[zz];refine gF m rfl rfl (Vn (p:=x) _ (hT.ext m.ext) (by omega)) ?_;clear m;rintro v u m rfl;refine aA (aF) (aG (k25 _ _ ?_));refine aD fun K26 k26=>wp_region_lit (aA (aB) (aG (k26 _ _ ?_)));simp only[zz];refine kW rfl (fun hc7=>?_) (fun hc7=>?_)
       ·
        have hp:=rS (p:=xK ts) hx hc7;refine aD fun K27 k27=>wp_region_lit (aA (aF) (aG (k27 _ _ ?_)));refine wp_ret ?_;simp only[zz];try simp only[Exit.inBlock,Exit.then,if_true]
        refine bS rfl rfl ?_;try simp only[zD,zE]
        exact ⟨_,rfl,m.ext,by rw [Sb hd0 hc0 rfl hp]⟩
       ·
        have hp1 : ((dR ts).take (k + 1)).any (xK ts) = false:=by rw [nA hx,hp0,hc7];rfl
        refine wp_skip (k24 _ _ ?_);refine wp_region_lit (aA (aB) ?_);simp only[zz];refine aA (aQ rfl rfl (aN (by omega) (by omega))) (aA (aF) (aG ?_));simp only[zz];simp only[Exit.inBlock,Exit.then];refine ⟨n8 - (k + 1),_,?_,rfl,?_,?_⟩
        · omega
        · simp only[zz,zv]
        ·
         simp only[zQ,zR,zD,zE];exact ⟨k + 1,rfl,m,hp1,by omega,rfl⟩
      ·
       have hkN : k = (dR ts).length:=by omega
       rw [hkN,List.take_length] at hp0;refine wp_exit (k20 _ _ ?_);refine aD fun K28 k28=>wp_region_lit (aA (aF) (aG (k28 _ _ ?_)));refine wp_ret ?_;simp only[zz];try simp only[Exit.inBlock,Exit.then,if_true]
       refine bS rfl rfl ?_;try simp only[zD,zE]
       exact ⟨_,rfl,m.ext,by rw [Zt hd0 hc0 rfl hp0]⟩
theorem Js {ts : List T3} {N cap : Nat} {A : Option Addr} (w : World) (hT : eG w A N ts) (hN : N ≤ 100000000) : eI prog 16 [.slice A N cap] w (fun v _=>v = .int .i64 (cV true ts)):=by
 refine ⟨aeX,?_⟩;have m:=bR.refl w
 go_enter func16,ntmps16
 refine aD fun K1 k1=>wp_region_lit (aA (aF) (aG (k1 _ _ ?_)));refine aD fun K2 k2=>wp_region_lit (aA (aB) ?_);simp only[zz];refine gF m rfl rfl (abK _ (hT.ext m.ext) hN) ?_;clear m;rintro v u m rfl;refine aA (aF) (aG (k2 _ _ ?_));refine wp_ret ?_;simp only[zz];try simp only[Exit.inBlock,Exit.then,if_true]
 refine bS rfl rfl ?_;try simp only[zD,zE]
 exact ⟨_,rfl,m.ext,rfl⟩
end Go.Proofs.YtfohfflkhpfjeaaGreatDoor
namespace Go.Lith
open Go.RowKit Go.Proofs Go.Sort Go.Shelf
theorem Zu {α : Type} {enc : α → List Value} {k : Nat} (hk : ∀ x,(enc x).length = k) (h0 : 0 < k) : ∀ (L : List α) (t : Nat),(L.flatMap enc)[t]? = (L[t / k]?).bind fun x=>(enc x)[t % k]?
 | [],t=>by simp
 | x :: L,t=>by
  rw [List.flatMap_cons,List.getElem?_append];by_cases h : t < k
  · rw [if_pos (by rw [hk];exact h),Nat.div_eq_of_lt h,Nat.mod_eq_of_lt h]
    rfl
  · rw [if_neg (by rw [hk];exact h),hk,Zu hk h0 L (t - k)]
    have e1 : t / k = (t - k) / k + 1:=by rw [Nat.div_eq t k,if_pos ⟨h0,Nat.le_of_not_lt h⟩]
    have e2 : t % k = (t - k) % k:=Nat.mod_eq_sub_mod (Nat.le_of_not_lt h);rw [e1,e2,List.getElem?_cons_succ]
theorem rY {α : Type} [Inhabited α] {enc : α → List Value} {k : Nat} (hk : ∀ x,(enc x).length = k) (h0 : 0 < k) (L : List α) : (flatK enc k L.toArray).toList = L.flatMap enc:=by
 have hlen : (L.flatMap enc).length = L.length * k:=by
  induction L with
  | nil=>simp
  | cons x L ih=>rw [List.flatMap_cons,List.length_append,ih,hk,List.length_cons,Nat.add_mul];omega
 apply List.ext_getElem?;intro t;by_cases ht : t < L.length * k
 · have hd : t / k < L.length:=by
    rw [Nat.div_lt_iff_lt_mul h0];exact ht
   have hm : t % k < k:=Nat.mod_lt _ h0;have h1:=get_flatK enc k L.toArray t (by simpa using ht);rw [getElem!_pos _ t (by simpa using ht)] at h1;rw [Zu hk h0,List.getElem?_eq_getElem hd,Option.bind_some,Array.getElem?_toList,Array.getElem?_eq_getElem (by simpa using ht),h1,List.getElem?_eq_getElem (show t % k < (enc L[t / k]).length by rw [hk];exact hm)]
   congr 1
   rw [getElem!_pos L.toArray _ (by simpa using hd),List.getElem_toArray,getElem!_pos _ _ (by rw [hk];exact hm)]
 · rw [List.getElem?_eq_none (by simpa using Nat.le_of_not_lt ht),List.getElem?_eq_none (by rw [hlen];exact Nat.le_of_not_lt ht)]
section
variable {α : Type} [Inhabited α] {P : Program} {ρ : Ren} {enc : α → List Value} {c : Nat} {E : TypeId} {w w0 : World} {is : List It} {A : Option Addr} {n cap : Nat}
theorem Vo {g : Nat} {xs : List α} {cur : Array Value} (hk : ∀ x,(enc x).length = c) (h0 : 0 < c) (hg : w.heap[g]? = some (.cells cur E (0,0))) (h : cur.toList.take (xs.length * c) = xs.flatMap enc) : HoldsK enc c w g 0 xs.toArray:=by
 intro j hj;have hl:=rY hk h0 xs;have hj' : j < xs.length * c:=by simpa using hj
 have e : (flatK enc c xs.toArray)[j]? = cur[j]?:=by
  rw [← Array.getElem?_toList,hl,← h,List.getElem?_take,if_pos hj',Array.getElem?_toList]
 rw [Array.getElem?_eq_getElem hj] at e;refine ⟨?_,?_⟩
 · simp only[World.cell?,hg,Nat.zero_add,Option.isSome_none,Bool.false_eq_true,if_false]
   rw [← e,getElem!_pos _ j hj];rfl
 · simp [World.frozen?,hg]
theorem Gg {g : Nat} {xs ys : List α} {cur : Array Value} {q : Nat} {os : Array Obj} (hk : ∀ x,(enc x).length = c) (h0 : 0 < c) (hg : w.heap[g]? = some (.cells cur E (0,0))) (hl : xs.length * c ≤ cur.size) (hlen : ys.length = xs.length) :
 ∃ cur' : Array Value,(sortWorldK enc c w g 0 q ys.toArray os).heap[g]? = some (.cells cur' E (0,0)) ∧ cur'.size = cur.size ∧ cur'.toList.take (xs.length * c) = ys.flatMap enc:=by
 have hlt : g < w.heap.size:=(Array.getElem?_eq_some_iff.1 hg).1;refine ⟨putCells id 0 (flatK enc c ys.toArray) cur,?_,by simp [putCells],?_⟩
 · unfold sortWorldK putRowK putRow mapBlock grow
   simp only;rw [Array.getElem?_append_left (by simpa [ahead] using hlt),Array.getElem?_modify];simp [ahead,hg,onCells]
 · have hf:=rY hk h0 ys
   apply List.ext_getElem?;intro t;rw [List.getElem?_take,← hf,Array.getElem?_toList,Array.getElem?_toList];have hs : (flatK enc c ys.toArray).size = xs.length * c:=by simp [hlen]
   split
   · rename_i ht
     have : t < cur.size:=Nat.lt_of_lt_of_le ht hl;simp only[putCells,Array.getElem?_mapIdx,Array.getElem?_eq_getElem this,Option.map_some,Nat.zero_le,Nat.zero_add,true_and,Nat.sub_zero,hs,ht,if_true];rw [Array.getElem?_eq_getElem (by rw [hs];exact ht),getElem!_pos _ t (by rw [hs];exact ht)];rfl
   · rename_i ht
     rw [Array.getElem?_eq_none (by rw [hs];exact Nat.le_of_not_lt ht)]
theorem Mk (L : SlLaysF0.n6 P ρ) (aE : ∀ w,(isAgg (ρ.t 24)).run P w = .ok true w) (zE : ∀ w,(Go.sizeOf (ρ.t 24)).run P w = .ok c w) (hk : ∀ x,(enc x).length = c) (h0 : 0 < c) (h1 : ∀ x,∀ v ∈ enc x,v.oneCell' = true)
 (cf : α → α → Int) (hO : SWO (ltOf cf)) {f : FuncId} (hcmp : ∀ x y,sM P f [.agg (enc x).toArray,.agg (enc y).toArray] (.int .i64 (cf x y))) {xs : List α} (m : bR w0 w is) (k : Nat) (hi : is[k]? = some (oI E c A n cap (xs.flatMap enc))) (hsz : n < 4611686018427387904) :
 Calls P (ρ.f 6) #[.slice A n cap,.func (.func f) #[] #[]] w fun e w'=>∃ v i,e = .returned v ∧ bR w0 w' (is.set k i) ∧ (v = .tuple #[] ∧ ∃ ys : List α,i = oI E c A n cap (ys.flatMap enc) ∧ ys.Perm xs ∧ ys.Pairwise fun a b=>ltOf cf b a = false):=by
 have h : w.ownsRow 0 E c (.slice A n cap) n (xs.flatMap enc):=m.get k hi;have hlen : (xs.flatMap enc).length = xs.length * c:=by
  have:=rY hk h0 xs;rw [← this];simp
 have hn : xs.length = n:=by
  have:=h.1;rw [hlen] at this;exact Nat.eq_of_mul_eq_mul_right h0 this
 have hge:=fun b hb=>m.ge _ (List.mem_of_getElem? hi) b hb;rcases kF h with ⟨rfl,rfl,rfl,hx⟩ | ⟨g,cur,rfl,_,hg,hcap,hmax,hcur,htake⟩
 · refine (AnyF.slices_SortFunc_none L none 0 _ w).mono ?_
   rintro e w' ⟨rfl,rfl⟩;obtain rfl : xs = []:=List.eq_nil_of_length_eq_zero hn;refine ⟨_,oI E c none 0 0 [],rfl,?_,rfl,[],rfl,List.Perm.refl _,.nil⟩;have : is.set k (oI E c none 0 0 []) = is:=by
    apply List.ext_getElem?;intro j;rw [List.getElem?_set];split
    · rename_i e;subst e
      have:=(List.getElem?_eq_some_iff.1 hi).1;rw [if_pos this,hi];rfl
    · rfl
   rw [this];exact m
 · have hlt : g < w.heap.size:=(Array.getElem?_eq_some_iff.1 hg).1
   rw [← hn] at htake;have hH:=Vo (xs:=xs) hk h0 hg htake;have hx:=AnyQ.slices_SortFunc L c aE zE enc hk h1 cf hO f #[] g 0 cap xs.toArray w (fun args w'=>wX (hcmp default default w').1) (fun mm os dk _ x y=>by
    have:=((hcmp x y (sortWorldK enc c w g 0 mm dk os)).2.mono fun e w' h=>(show e = .returned (.int .i64 (cf x y)) ∧ ∃ q os',w' = grow ((sortWorldK enc c w g 0 mm dk os).drewN q) os' from by obtain ⟨u,rfl,hX,rfl⟩:=h;exact ⟨rfl,hX.grow⟩))
    simpa using this) hH hlt (by simpa [hn] using hsz)
   have es : xs.toArray.size = n:=by simpa using hn
   rw [es] at hx;refine hx.mono ?_;rintro e w' ⟨rfl,d',q,os,hp,hs,rfl⟩;have hd : d'.size = n:=by rw [hp.1];exact es
   obtain ⟨ys,rfl⟩ : ∃ ys : List α,d' = ys.toArray:=⟨d'.toList,by simp⟩
   have hyl : ys.length = n:=by simpa using hd
   have hcs : xs.length * c ≤ cur.size:=by rw [hn,hcur];exact Nat.mul_le_mul_right _ hcap
   obtain ⟨cur',e1,e2,e3⟩:=Gg (q:=q) (os:=os) (ys:=ys) hk h0 hg hcs (by rw [hyl,hn]);refine ⟨_,oI E c (some ⟨g,0,none⟩) n cap (ys.flatMap enc),rfl,?_,rfl,ys,rfl,?_,?_⟩
   · refine m.put k hi rfl rfl rfl ?_ (fun b hb hne=>?_) ?_ (.inl fun _ h=>h)
     · simp [sortWorldK,putRowK,putRow,mapBlock,grow,ahead]
     · have hbg : g ≠ b:=fun e=>hne (by rw [e];rfl)
       unfold sortWorldK putRowK putRow mapBlock grow;simp only;rw [Array.getElem?_append_left (by simpa [ahead] using hb),Array.getElem?_modify,if_neg hbg];rfl
     · refine ⟨?_,.inr ⟨g,cap,cur',rfl,Nat.zero_le _,e1,hcap,hmax,by rw [e2,hcur],?_⟩⟩
       · have:=rY hk h0 ys
         rw [← this];simp [hyl]
       · rw [← hn];exact e3
   · have:=hp.2.2
     simpa [hyl,hn,List.take_of_length_le (Nat.le_of_eq hyl),List.take_of_length_le (Nat.le_of_eq hn),List.extract_eq_take_drop] using this
   · rw [List.pairwise_iff_getElem]
     intro i j hi' hj' hij;have:=hs i j (Nat.zero_le _) hij (by rw [← hyl];exact hj');rw [getElem!_pos _ i (by simpa using hi'),getElem!_pos _ j (by simpa using hj')] at this;simpa using this
end
end Go.Lith
namespace Go.Lith
open Go.RowKit Go.Sort
instance : Inhabited P3:=⟨⟨0,0,0⟩⟩
def oB (p : P3) : List Value:=[.int .i64 p.x,.int .i64 p.y,.int .i64 p.z]
theorem Ml (p : P3) : ∀ v ∈ oB p,v.oneCell' = true:=fun v h=>by
 simp only[oB,List.mem_cons,List.not_mem_nil,or_false] at h;rcases h with rfl | rfl | rfl <;> rfl
theorem qR (p q : P3) : (xF p q < 0) ↔ p.Lt q:=by
 unfold xF;split
 · simp [*]
 · split <;> simp [*]
theorem Zv : SWO (Go.Proofs.ltOf xF) where
 irrefl x:=by simp [Go.Proofs.ltOf,qR,P3.lt_irrefl]
 trans x y z h1 h2:=by
  simp only[Go.Proofs.ltOf,decide_eq_true_eq,qR] at *
  exact P3.lt_trans h1 h2
 ntrans x y z h1 h2:=by
  simp only[Go.Proofs.ltOf,decide_eq_false_iff_not,qR] at *
  unfold P3.Lt at *
  omega
theorem kZ.len {K V : Type} [DecidableEq K] {ek : K → Value} {en : V → Value} {D dn rs : List (K × V)} {es : Array MapEntry} {seen : Array Nat} (h : kZ ek en D es seen dn rs) : dn.length + rs.length = D.length:=by
 have:=h.1.length_eq;simpa using this
theorem Dw {K V : Type} [DecidableEq K] {ek : K → Value} {en : V → Value} {D dn rs : List (K × V)} {es : Array MapEntry} {b : Bool} {kv vv : Value} {sn : Array Nat} (hb : b = false) (h : Nxt ek en D es dn rs b kv vv sn) : rs = []:=by
 rcases h with ⟨_,h⟩ | ⟨h,_⟩
 · exact h
 · rw [h] at hb;cases hb
theorem Dx {K V : Type} [DecidableEq K] {ek : K → Value} {en : V → Value} {D dn rs : List (K × V)} {es : Array MapEntry} {b : Bool} {kv vv : Value} {sn : Array Nat} (hb : b = true) (h : Nxt ek en D es dn rs b kv vv sn) :
 ∃ k v rs',rs.Perm ((k,v) :: rs') ∧ kZ ek en D es sn (dn ++ [(k,v)]) rs':=by
 rcases h with ⟨h,_⟩ | ⟨_,k,v,rs',h1,_,_,h2⟩
 · rw [h] at hb;cases hb
 · exact ⟨k,v,rs',h1,h2⟩
def tW (D : List (P3 × Bool)) (ps : List P3) : List (P3 × Bool):=ps.foldl (fun D p=>fJ D p true) D
theorem Mm {K V : Type} [DecidableEq K] (D : List (K × V)) (k a : K) (v : V) : a ∈ (fJ D k v).map (·.1) ↔ a ∈ D.map (·.1) ∨ a = k:=by
 rw [zW];split
 · exact ⟨.inl,fun h=>h.elim id (fun e=>e ▸ ‹_›)⟩
 · simp
theorem Hn : ∀ (ps : List P3) (D : List (P3 × Bool)) (a : P3),a ∈ (tW D ps).map (·.1) ↔ a ∈ D.map (·.1) ∨ a ∈ ps
 | [],D,a=>by simp [tW]
 | p :: ps,D,a=>by
  have:=Hn ps (fJ D p true) a;unfold tW at this ⊢;rw [List.foldl_cons,this,Mm,List.mem_cons,or_assoc]
theorem Ay : ∀ (ps : List P3) (D : List (P3 × Bool)),(D.map (·.1)).Nodup → ((tW D ps).map (·.1)).Nodup
 | [],_,h=>h
 | p :: ps,D,h=>Ay ps (fJ D p true) (wJ h p true)
theorem tX {K V : Type} [DecidableEq K] : ∀ (D : List (K × V)) (k : K) (v : V),(fJ D k v).length ≤ D.length + 1
 | [],_,_=>by simp [fJ]
 | x :: D,k,v=>by
  unfold fJ;split
  · simp
  · simp only[List.length_cons]
    exact Nat.succ_le_succ (tX D k v)
theorem xU : ∀ (ps : List P3) (D : List (P3 × Bool)),(tW D ps).length ≤ D.length + ps.length
 | [],D=>Nat.le_refl _
 | p :: ps,D=>Nat.le_trans (xU ps (fJ D p true)) (by
  have:=tX D p true;simp only[List.length_cons];omega)
theorem Vp (D : List (P3 × Bool)) (ps qs : List P3) : tW D (ps ++ qs) = tW (tW D ps) qs:=List.foldl_append ..
def aY (ts : List T3) : List P3:=ts.flatMap fun t=>[t.a,t.b,t.c]
def Zw (ps : List P3) : Prop:=ps.Pairwise fun a b=>a.Lt b
theorem Vq {ps : List P3} (hn : ps.Nodup) (h : ps.Pairwise fun a b=>¬ b.Lt a) : Zw ps:=by
 have:=hn.and h;exact this.imp fun {a b} h=>(P3.lt_tri a b).resolve_right (by rintro (e | e);exact h.1 e;exact h.2 e)
end Go.Lith
namespace Go.Lith
open Go.RowKit
theorem Vr {α : Type} {ps : List α} {k : Nat} {p : α} (h : ps[k]? = some p) : ps.take (k + 1) = ps.take k ++ [p]:=by
 rw [List.take_add_one,h];rfl
theorem Dy {ts : List T3} {k : Nat} {t : T3} (h : ts[k]? = some t) : aY (ts.take (k + 1)) = aY (ts.take k) ++ [t.a,t.b,t.c]:=by
 unfold aY;rw [Vr h,List.flatMap_append];simp
theorem Py {ts : List T3} {k : Nat} {t : T3} (h : ts[k]? = some t) : tW [] (aY (ts.take (k + 1))) = fJ (fJ (fJ (tW [] (aY (ts.take k))) t.a true) t.b true) t.c true:=by
 rw [Dy h,Vp];rfl
theorem xV (ts : List T3) : (aY ts).length = ts.length * 3:=by
 unfold aY
 induction ts with
 | nil=>rfl
 | cons t ts ih=>rw [List.flatMap_cons,List.length_append,ih];simp only[List.length_cons,List.length_nil];omega
theorem Ow.max {w0 w : World} {S : List (Option Nat)} {E : TypeId} {c n cap : Nat} {A : Option Addr} {xs : List Value} (h : Ow w0 w S E c A n cap xs) : cap ≤ 9223372036854775807:=by
 rcases h.cases with ⟨_,_,rfl,_⟩ | ⟨_,_,_,_,_,_,h,_⟩
 · exact Nat.zero_le _
 · exact h
end Go.Lith
namespace Go.Lith
open Go.RowKit
theorem Dz {α : Type} {R : α → α → Prop} (irr : ∀ a,¬ R a a) (tr : ∀ a b c,R a b → R b c → R a c) : ∀ {l m : List α},l.Pairwise R → m.Pairwise R → (∀ a,a ∈ l ↔ a ∈ m) → l = m
 | [],[],_,_,_=>rfl
 | [],y :: m,_,_,h=>absurd ((h y).2 (List.mem_cons_self ..)) (by simp)
 | x :: l,[],_,_,h=>absurd ((h x).1 (List.mem_cons_self ..)) (by simp)
 | x :: l,y :: m,hl,hm,h=>by
  obtain ⟨h1,h2⟩:=List.pairwise_cons.1 hl;obtain ⟨k1,k2⟩:=List.pairwise_cons.1 hm;have e : x = y:=by
   rcases List.mem_cons.1 ((h x).1 (List.mem_cons_self ..)) with e | hx
   · exact e
   · rcases List.mem_cons.1 ((h y).2 (List.mem_cons_self ..)) with e | hy
     · exact e.symm
     · exact absurd (tr _ _ _ (h1 y hy) (k1 x hx)) (irr x)
  subst e;rw [Dz irr tr h2 k2 fun a=>⟨fun ha=>?_,fun ha=>?_⟩]
  · rcases List.mem_cons.1 ((h a).1 (List.mem_cons_of_mem _ ha)) with rfl | k
    · exact absurd (h1 a ha) (irr a)
    · exact k
  · rcases List.mem_cons.1 ((h a).2 (List.mem_cons_of_mem _ ha)) with rfl | k
    · exact absurd (k1 a ha) (irr a)
    · exact k
/-! ### Edges in order -/
def yN (a b : E3) : Prop:=a.1.Lt b.1 ∨ a.1 = b.1 ∧ a.2.Lt b.2
theorem Sc {a b : E3} : Rw a b = true ↔ yN a b:=by
 unfold Rw yN;by_cases h : a.1 = b.1
 · rw [if_neg (not_not_intro h),decide_eq_true_eq]
   exact ⟨fun k=>.inr ⟨h,k⟩,fun k=>k.elim (fun k=>absurd (h ▸ k) (P3.lt_irrefl _)) (·.2)⟩
 · rw [if_pos h,decide_eq_true_eq]
   exact ⟨.inl,fun k=>k.elim id (fun k=>absurd k.1 h)⟩
theorem yN.irrefl (a : E3) : ¬ yN a a:=fun h=>h.elim (P3.lt_irrefl _) fun h=>P3.lt_irrefl _ h.2
theorem yN.trans {a b c : E3} (h : yN a b) (k : yN b c) : yN a c:=by
 rcases h with h | ⟨h,h'⟩
 · rcases k with k | ⟨k,_⟩
   · exact .inl (P3.lt_trans h k)
   · exact .inl (k ▸ h)
 · rcases k with k | ⟨k,k'⟩
   · exact .inl (h ▸ k)
   · exact .inr ⟨h.trans k,P3.lt_trans h' k'⟩
theorem yN.tri (a b : E3) : yN a b ∨ a = b ∨ yN b a:=by
 rcases P3.lt_tri a.1 b.1 with h | h | h
 · exact .inl (.inl h)
 · rcases P3.lt_tri a.2 b.2 with k | k | k
   · exact .inl (.inr ⟨h,k⟩)
   · exact .inr (.inl (Prod.ext h k))
   · exact .inr (.inr (.inr ⟨h.symm,k⟩))
 · exact .inr (.inr (.inl h))
def kU (es : List E3) : Prop:=es.Pairwise yN
theorem Az {es fs : List E3} (h : kU es) (k : kU fs) (e : ∀ a,a ∈ es ↔ a ∈ fs) : es = fs:=Dz yN.irrefl (fun _ _ _=>yN.trans) h k e
theorem Sd {α : Type} {p : α → Bool} : ∀ (l : List α),l.take (l.takeWhile p).length = l.takeWhile p
 | []=>rfl
 | x :: l=>by
  rw [List.takeWhile_cons];split
  · rw [List.length_cons,List.take_succ_cons,Sd l]
  · rfl
theorem Se {α : Type} {p : α → Bool} : ∀ (l : List α),l.drop (l.takeWhile p).length = l.dropWhile p
 | []=>rfl
 | x :: l=>by
  rw [List.takeWhile_cons,List.dropWhile_cons];split
  · rw [List.length_cons,List.drop_succ_cons,Se l]
  · rfl
theorem Sf (es : List E3) (e : E3) : Pj es e = es.takeWhile (fun x=>Rw x e) ++ [e] ++ es.dropWhile (fun x=>Rw x e):=by
 unfold Pj Us;rw [Sd,Se]
theorem Zx {es : List E3} {e x : E3} : x ∈ Pj es e ↔ x = e ∨ x ∈ es:=by
 rw [Sf]
 conv=>rhs;rw [← List.takeWhile_append_dropWhile (p:=fun x=>Rw x e) (l:=es)]
 simp only[List.mem_append,List.mem_singleton];exact ⟨fun h=>h.elim (fun h=>h.elim (fun h=>.inr (.inl h)) .inl) (fun h=>.inr (.inr h)),fun h=>h.elim (fun h=>.inl (.inr h)) (fun h=>h.elim (fun h=>.inl (.inl h)) .inr)⟩
theorem acG {e : E3} : ∀ {es : List E3},kU es → e ∉ es → ∀ x ∈ es.dropWhile (fun x=>Rw x e),yN e x
 | [],_,_,x,h=>by cases h
 | y :: ys,hs,he,x,h=>by
  obtain ⟨h1,h2⟩:=List.pairwise_cons.1 hs;rw [List.dropWhile_cons] at h;split at h
  · exact acG h2 (fun k=>he (List.mem_cons_of_mem _ k)) x h
  · rename_i hy
    have hy' : yN e y:=by
     rcases yN.tri y e with k | k | k
     · exact absurd (Sc.2 k) hy
     · exact absurd (k ▸ List.mem_cons_self ..) he
     · exact k
    rcases List.mem_cons.1 h with rfl | h
    · exact hy'
    · exact hy'.trans (h1 x h)
theorem Zy {α : Type} {p : α → Bool} {x : α} : ∀ {l : List α},x ∈ l.takeWhile p → p x = true
 | [],h=>by cases h
 | y :: l,h=>by
  rw [List.takeWhile_cons] at h;split at h
  · rename_i hy
    rcases List.mem_cons.1 h with rfl | h
    · exact hy
    · exact Zy h
  · cases h
theorem afN {e : E3} {es : List E3} : ∀ x ∈ es.takeWhile (fun x=>Rw x e),yN x e:=fun x h=>Sc.1 (Zy (p:=fun x=>Rw x e) h)
theorem Mn {es : List E3} {e : E3} (hs : kU es) (he : e ∉ es) : kU (Pj es e):=by
 rw [Sf];have h0:=hs;rw [kU,← List.takeWhile_append_dropWhile (p:=fun x=>Rw x e) (l:=es)] at h0;obtain ⟨h1,h2,h3⟩:=List.pairwise_append.1 h0;refine List.pairwise_append.2 ⟨List.pairwise_append.2 ⟨h1,List.pairwise_singleton _ _,fun x hx y hy=>?_⟩,h2,fun x hx y hy=>?_⟩
 · rw [List.mem_singleton.1 hy];exact afN x hx
 · rcases List.mem_append.1 hx with hx | hx
   · exact h3 x hx y hy
   · rw [List.mem_singleton.1 hx];exact acG hs he y hy
theorem oX {es : List E3} {e : E3} : 0 < iW es e ↔ e ∈ es:=by
 unfold iW;rw [List.length_pos_iff_exists_mem];simp
theorem zZ {all : List E3} : ∀ (es out : List E3),kU out → kU (es.foldl (lZ all) out) ∧ ∀ x,x ∈ es.foldl (lZ all) out ↔ x ∈ out ∨ x ∈ es ∧ (x.2,x.1) ∉ all
 | [],out,h=>⟨h,fun x=>by simp⟩
 | e :: es,out,h=>by
  have key : kU (lZ all out e) ∧ ∀ x,x ∈ lZ all out e ↔ x ∈ out ∨ x = e ∧ (x.2,x.1) ∉ all:=by
   unfold lZ;split
   · rename_i hc
     refine ⟨h,fun x=>⟨.inl,fun k=>k.elim id fun q=>?_⟩⟩;obtain ⟨rfl,q⟩:=q;exact hc.elim (fun hc=>absurd (oX.1 hc) q) (fun hc=>oX.1 hc)
   · rename_i hc
     have h1 : e ∉ out:=fun k=>hc (.inr (oX.2 k));have h2 : (e.2,e.1) ∉ all:=fun k=>hc (.inl (oX.2 k));refine ⟨Mn h h1,fun x=>Zx.trans ⟨fun k=>k.elim (fun k=>.inr ⟨k,k ▸ h2⟩) .inl,fun k=>k.elim .inr fun k=>.inl k.1⟩⟩
  obtain ⟨i1,i2⟩:=zZ es (lZ all out e) key.1;refine ⟨i1,fun x=>?_⟩;rw [List.foldl_cons,i2,key.2,List.mem_cons,or_assoc];refine or_congr Iff.rfl ⟨fun k=>k.elim (fun k=>⟨.inl k.1,k.2⟩) (fun k=>⟨.inr k.1,k.2⟩),fun k=>k.1.elim (fun h=>.inl ⟨h,k.2⟩) (fun h=>.inr ⟨h,k.2⟩)⟩
theorem mV (ts : List T3) : kU (aR ts):=(zZ (all:=aP ts) (aP ts) [] List.Pairwise.nil).1
theorem oY {ts : List T3} {e : E3} : e ∈ aR ts ↔ e ∈ aP ts ∧ (e.2,e.1) ∉ aP ts:=by
 have:=(zZ (all:=aP ts) (aP ts) [] List.Pairwise.nil).2 e;unfold aR;rw [this];simp
/-! ### Keys put into a set -/
section
variable {K : Type} [DecidableEq K]
def fG (D : List (K × Bool)) (ks : List K) : List (K × Bool):=ks.foldl (fun D k=>fJ D k true) D
theorem tY : ∀ (ks : List K) (D : List (K × Bool)) (a : K),a ∈ (fG D ks).map (·.1) ↔ a ∈ D.map (·.1) ∨ a ∈ ks
 | [],D,a=>by simp [fG]
 | k :: ks,D,a=>by
  have:=tY ks (fJ D k true) a;unfold fG at this ⊢;rw [List.foldl_cons,this,Mm,List.mem_cons,or_assoc]
theorem mO : ∀ (ks : List K) (D : List (K × Bool)),(D.map (·.1)).Nodup → ((fG D ks).map (·.1)).Nodup
 | [],_,h=>h
 | k :: ks,D,h=>mO ks (fJ D k true) (wJ h k true)
theorem tZ : ∀ (ks : List K) (D : List (K × Bool)),(fG D ks).length ≤ D.length + ks.length
 | [],_=>Nat.le_refl _
 | k :: ks,D=>by
  have h1:=tZ ks (fJ D k true);have h2:=tX D k true;show (fG (fJ D k true) ks).length ≤ _
  rw [List.length_cons];omega
theorem xW : ∀ (ks : List K) (D : List (K × Bool)) (a : K),cD (fG D ks) a = if a ∈ ks then some true else cD D a
 | [],D,a=>by simp [fG]
 | k :: ks,D,a=>by
  have h:=xW ks (fJ D k true) a;show cD (fG (fJ D k true) ks) a = _
  rw [h,lI];by_cases h1 : a ∈ ks
  · rw [if_pos h1,if_pos (List.mem_cons_of_mem _ h1)]
  · rw [if_neg h1]
    by_cases h2 : k = a
    · rw [if_pos h2,if_pos (h2 ▸ List.mem_cons_self ..)]
    · rw [if_neg h2,if_neg (fun k'=>(List.mem_cons.1 k').elim (fun e=>h2 e.symm) h1)]
theorem Mo (D : List (K × Bool)) (ks ls : List K) : fG D (ks ++ ls) = fG (fG D ks) ls:=List.foldl_append ..
theorem oZ (ks : List K) (a : K) : (cD (fG [] ks) a).getD false = decide (a ∈ ks):=by
 rw [xW];by_cases h : a ∈ ks
 · rw [if_pos h,decide_eq_true h];rfl
 · rw [if_neg h,decide_eq_false h];rfl
theorem Ea {ks : List K} {a : K} : (cD (fG [] ks) a).getD false = true ↔ a ∈ ks:=by
 rw [xW];by_cases h : a ∈ ks
 · rw [if_pos h];exact ⟨fun _=>h,fun _=>rfl⟩
 · rw [if_neg h];exact ⟨fun k=>(by cases k),fun k=>absurd k h⟩
end
/-! ### No edge twice -/
theorem Aa {x e : E3} {es : List E3} : iW (x :: es) e = (if x = e then 1 else 0) + iW es e:=by
 unfold iW;by_cases h : x = e
 · rw [List.filter_cons_of_pos (by simpa using h),List.length_cons,if_pos h];omega
 · rw [List.filter_cons_of_neg (by simpa using h),if_neg h];omega
theorem Ho : ∀ {es : List E3},es.Nodup ↔ ∀ e,iW es e ≤ 1
 | []=>by simp [iW]
 | x :: es=>by
  rw [List.nodup_cons,Ho (es:=es)];constructor
  · rintro ⟨h1,h2⟩ e
    rw [Aa];by_cases h : x = e
    · have : ¬ 0 < iW es e:=fun k=>h1 (h ▸ oX.1 k)
      rw [if_pos h];omega
    · rw [if_neg h];have:=h2 e;omega
  · intro h
    refine ⟨fun k=>?_,fun e=>?_⟩
    · have h1:=h x
      rw [Aa,if_pos rfl] at h1;have:=oX.2 k;omega
    · have:=h e
      rw [Aa] at this;omega
theorem xX {es : List E3} : (es.any fun e=>decide (1 < iW es e)) = decide (¬ es.Nodup):=by
 rw [Bool.eq_iff_iff,List.any_eq_true,decide_eq_true_eq,Ho];constructor
 · rintro ⟨e,_,h⟩ k
   have:=k e;simp only[decide_eq_true_eq] at h;omega
 · intro h
   obtain ⟨e,he⟩:=Classical.not_forall.1 h;exact ⟨e,oX.1 (by omega),by simpa using Nat.not_le.1 he⟩
theorem wL {α : Type} {es : List α} {e : α} : (es ++ [e]).Nodup ↔ es.Nodup ∧ e ∉ es:=by
 rw [List.nodup_append];constructor
 · rintro ⟨h1,_,h3⟩
   exact ⟨h1,fun k=>h3 e k e (by simp) rfl⟩
 · rintro ⟨h1,h2⟩
   exact ⟨h1,by simp,fun a ha b hb e'=>h2 (by rw [← List.mem_singleton.1 hb,← e'];exact ha)⟩
end Go.Lith
namespace Go.Lith
open Go.RowKit
section
variable {K V : Type} [DecidableEq K]
def lM (D : List (K × V)) (xs : List (K × V)) : List (K × V):=xs.foldl (fun D x=>fJ D x.1 x.2) D
theorem Eb : ∀ (xs D : List (K × V)) (k : K),(xs.map (·.1)).Nodup → cD (lM D xs) k = match cD xs k with | some v=>some v | none=>cD D k
 | [],D,k,_=>rfl
 | (a,v) :: xs,D,k,h=>by
  rw [List.map_cons,List.nodup_cons] at h;have ih:=Eb xs (fJ D a v) k h.2;show cD (lM (fJ D a v) xs) k = _
  rw [ih,lI,cD];by_cases e : a = k
  · rw [if_pos e,if_pos e]
    have : cD xs k = none:=qP.2 (e ▸ h.1);rw [this]
  · rw [if_neg e,if_neg e]
theorem Mp (D xs ys : List (K × V)) : lM D (xs ++ ys) = lM (lM D xs) ys:=List.foldl_append ..
def pW (D : List (K × Nat)) (ks : List K) : List (K × Nat):=ks.foldl (fun D k=>fJ D k ((cD D k).getD 0 + 1)) D
def lN (ks : List K) (a : K) : Nat:=(ks.filter fun x=>decide (x = a)).length
theorem mP {x a : K} {ks : List K} : lN (x :: ks) a = (if x = a then 1 else 0) + lN ks a:=by
 unfold lN;by_cases h : x = a
 · rw [List.filter_cons_of_pos (by simpa using h),List.length_cons,if_pos h];omega
 · rw [List.filter_cons_of_neg (by simpa using h),if_neg h];omega
theorem Ec {a : K} {ks ls : List K} : lN (ks ++ ls) a = lN ks a + lN ls a:=by simp [lN]
theorem Mq : ∀ (ks : List K) (D : List (K × Nat)) (a : K),(cD (pW D ks) a).getD 0 = (cD D a).getD 0 + lN ks a
 | [],D,a=>rfl
 | k :: ks,D,a=>by
  have h:=Mq ks (fJ D k ((cD D k).getD 0 + 1)) a;show (cD (pW (fJ D k ((cD D k).getD 0 + 1)) ks) a).getD 0 = _
  rw [h,lI,mP];by_cases e : k = a
  · subst e
    rw [if_pos rfl,if_pos rfl,Option.getD_some];omega
  · rw [if_neg e,if_neg e];omega
theorem Zz (D : List (K × Nat)) (ks ls : List K) : pW D (ks ++ ls) = pW (pW D ks) ls:=List.foldl_append ..
theorem rZ : ∀ {l m : List K},l.Nodup → (∀ a ∈ l,a ∈ m) → l.length ≤ m.length
 | [],_,_,_=>Nat.zero_le _
 | x :: l,m,h,k=>by
  rw [List.nodup_cons] at h;have hx:=k x (List.mem_cons_self ..);have h1:=rZ (m:=m.erase x) h.2 fun a ha=>(List.mem_erase_of_ne (fun (e : a = x)=>h.1 (e ▸ ha))).2 (k a (List.mem_cons_of_mem _ ha));rw [List.length_erase_of_mem hx] at h1;have:=List.length_pos_of_mem hx;rw [List.length_cons];omega
end
/-! ### What lies behind an edge -/
def dS (ts : List T3) : List (E3 × P3):=ts.flatMap fun t=>[((t.a,t.b),t.c),((t.b,t.c),t.a),((t.c,t.a),t.b)]
theorem jD : ∀ ts : List T3,(dS ts).map (·.1) = aP ts
 | []=>rfl
 | t :: ts=>by
  have:=jD ts;unfold dS aP at this ⊢;rw [List.flatMap_cons,List.map_append,this];rfl
theorem Ed {ts : List T3} {k : Nat} {t : T3} (h : ts[k]? = some t) : dS (ts.take (k + 1)) = dS (ts.take k) ++ [((t.a,t.b),t.c),((t.b,t.c),t.a),((t.c,t.a),t.b)]:=by
 unfold dS;rw [dN h,List.flatMap_append];simp
theorem sA (p q : P3) : ∀ ts : List T3,bD ts p q = cD (dS ts) (p,q)
 | []=>rfl
 | t :: ts=>by
  have ih:=sA p q ts;have e : dS (t :: ts) = ((t.a,t.b),t.c) :: ((t.b,t.c),t.a) :: ((t.c,t.a),t.b) :: dS ts:=rfl;rw [e,bD,cD,cD,cD,← ih,T3.fnd];by_cases h1 : t.a = p ∧ t.b = q
  · rw [if_pos h1,if_pos (Prod.ext h1.1 h1.2)]
  · rw [if_neg h1,if_neg (fun e=>h1 ⟨congrArg Prod.fst e,congrArg Prod.snd e⟩)]
    by_cases h2 : t.b = p ∧ t.c = q
    · rw [if_pos h2,if_pos (Prod.ext h2.1 h2.2)]
    · rw [if_neg h2,if_neg (fun e=>h2 ⟨congrArg Prod.fst e,congrArg Prod.snd e⟩)]
      by_cases h3 : t.c = p ∧ t.a = q
      · rw [if_pos h3,if_pos (Prod.ext h3.1 h3.2)]
      · rw [if_neg h3,if_neg (fun e=>h3 ⟨congrArg Prod.fst e,congrArg Prod.snd e⟩)]
theorem qS {ts : List T3} (h : (aP ts).Nodup) (p q : P3) : cD (lM [] (dS ts)) (p,q) = bD ts p q:=by
 rw [Eb _ _ _ (by rw [jD];exact h),sA];cases cD (dS ts) (p,q) <;> rfl
theorem fM {ts : List T3} {x y z : P3} (h : ((x,y),z) ∈ dS ts) : ((y,z),x) ∈ dS ts:=by
 obtain ⟨t,ht,hx⟩:=List.mem_flatMap.1 h;refine List.mem_flatMap.2 ⟨t,ht,?_⟩;simp only[List.mem_cons,List.not_mem_nil,or_false,Prod.mk.injEq] at hx ⊢;rcases hx with ⟨⟨rfl,rfl⟩,rfl⟩ | ⟨⟨rfl,rfl⟩,rfl⟩ | ⟨⟨rfl,rfl⟩,rfl⟩
 · exact .inr (.inl ⟨⟨rfl,rfl⟩,rfl⟩)
 · exact .inr (.inr ⟨⟨rfl,rfl⟩,rfl⟩)
 · exact .inl ⟨⟨rfl,rfl⟩,rfl⟩
theorem sB {ts : List T3} (h : (aP ts).Nodup) {e : E3} {x y : P3} (h1 : (e,x) ∈ dS ts) (h2 : (e,y) ∈ dS ts) : x = y:=by
 have k : ((dS ts).map (·.1)).Nodup:=by rw [jD];exact h
 have a:=lJ k h1;rw [lJ k h2] at a;exact (Option.some.inj a).symm
theorem lA {ts : List T3} {p q x : P3} (h : bD ts p q = some x) : ((p,q),x) ∈ dS ts:=xT (by rw [← sA];exact h)
theorem nC {ts : List T3} {p q x : P3} (h : bD ts p q = some x) : (p,q) ∈ aP ts:=by
 rw [← jD];exact List.mem_map.2 ⟨_,lA h,rfl⟩
theorem pI {ts : List T3} {p q : P3} (h : (p,q) ∈ aP ts) : ∃ x,bD ts p q = some x:=by
 rw [sA];cases e : cD (dS ts) (p,q) with
 | some x=>exact ⟨x,rfl⟩
 | none =>
  have:=qP.1 e;rw [jD] at this;exact absurd h this
theorem Ee {ts : List T3} (h : (aP ts).Nodup) {p x y z : P3} (h1 : bD ts p x = some z) (h2 : bD ts p y = some z) : x = y :=
 sB h (fM (fM (lA h1))) (fM (fM (lA h2)))
theorem Mr {ts : List T3} {p x z : P3} (h : bD ts p x = some z) : (z,p) ∈ aP ts:=by
 rw [← jD];exact List.mem_map.2 ⟨_,fM (fM (lA h)),rfl⟩
def kM (ts : List T3) (p : P3) : Nat → P3 → Option P3
 | 0,x=>some x
 | n + 1,x=>(bD ts p x).bind (kM ts p n)
theorem kN {ts : List T3} {p : P3} : ∀ (n : Nat) (x : P3),kM ts p (n + 1) x = (kM ts p n x).bind (bD ts p)
 | 0,x=>by simp [kM]
 | n + 1,x=>by
  rw [kM];cases h : bD ts p x with
  | none=>simp [kM,h]
  | some y =>
   rw [Option.bind_some,kN n y,kM,h];rfl
theorem Ef {ms : List T3} {p s : P3} : ∀ (n : Nat) (x : P3),kI ms p s n x = true ↔ ∃ j,1 ≤ j ∧ j ≤ n ∧ kM ms p j x = some s
 | 0,x=>⟨fun h=>(by cases h),fun ⟨j,h1,h2,_⟩=>by omega⟩
 | n + 1,x=>by
  cases h : bD ms p x with
  | none =>
   rw [Hd h];refine ⟨fun k=>(by cases k),fun ⟨j,h1,_,h3⟩=>?_⟩;obtain ⟨i,rfl⟩ : ∃ i,j = i + 1:=⟨j - 1,by omega⟩
   rw [kM,h] at h3;cases h3
  | some y =>
   by_cases e : y = s
   · subst e
     rw [Lx h];exact ⟨fun _=>⟨1,Nat.le_refl _,by omega,by simp [kM,h]⟩,fun _=>rfl⟩
   · rw [He h e,Ef n y]
     constructor
     · rintro ⟨j,h1,h2,h3⟩
       exact ⟨j + 1,by omega,by omega,by rw [kM,h];exact h3⟩
     · rintro ⟨j,h1,h2,h3⟩
       obtain ⟨i,rfl⟩ : ∃ i,j = i + 1:=⟨j - 1,by omega⟩
       rw [kM,h,Option.bind_some] at h3;cases i with
       | zero=>exact absurd (Option.some.inj h3) e
       | succ i=>exact ⟨i + 1,by omega,by omega,h3⟩
def uA (nx : P3 → Option P3) (s : P3) : Nat → P3 → Nat → P3 × Nat
 | 0,a,z=>(a,z)
 | n + 1,a,z=>if a = s then (a,z) else match nx a with | none=>(a,z) | some b=>uA nx s n b (z + 1)
theorem aaa {nx : P3 → Option P3} {s : P3} {n z : Nat} : uA nx s n s z = (s,z):=by
 cases n with
 | zero=>rfl
 | succ n=>rw [uA,if_pos rfl]
theorem Jt {ts : List T3} {p s : P3} {M : Nat} : ∀ (n : Nat) (a : P3) (z : Nat),n = M + 1 - z → ((uA (bD ts p) s n a z).1 = s ∧ (uA (bD ts p) s n a z).2 < M ↔ ∃ j,z ≤ j ∧ j < M ∧ kM ts p (j - z) a = some s)
 | 0,a,z,h=>by
  rw [uA];refine ⟨fun k=>?_,fun ⟨j,h1,h2,_⟩=>?_⟩
  · have:=k.2;simp only at this;omega
  · omega
 | n + 1,a,z,h=>by
  rw [uA];by_cases e : a = s
  · rw [if_pos e]
    refine ⟨fun k=>⟨z,Nat.le_refl _,k.2,by rw [Nat.sub_self,kM,e]⟩,fun ⟨j,h1,h2,_⟩=>⟨e,by simp only;omega⟩⟩
  · rw [if_neg e]
    cases hb : bD ts p a with
    | none =>
     refine ⟨fun k=>absurd k.1 e,fun ⟨j,h1,h2,h3⟩=>?_⟩;cases hj : j - z with
     | zero=>rw [hj,kM] at h3;exact absurd (Option.some.inj h3) e
     | succ i=>rw [hj,kM,hb] at h3;cases h3
    | some b =>
     rw [Jt n b (z + 1) (by omega)];constructor
     · rintro ⟨j,h1,h2,h3⟩
       refine ⟨j,by omega,h2,?_⟩;rw [show j - z = (j - (z + 1)) + 1 by omega,kM,hb];exact h3
     · rintro ⟨j,h1,h2,h3⟩
       rcases Nat.lt_or_ge z j with hz | hz
       · refine ⟨j,by omega,h2,?_⟩
         rw [show j - z = (j - (z + 1)) + 1 by omega,kM,hb] at h3;exact h3
       · rw [show j - z = 0 by omega,kM] at h3
         exact absurd (Option.some.inj h3) e
/-! ### The triangles of a corner -/
theorem abL {t : T3} {p q x : P3} (h : t.fnd p q = some x) : ∃ c,c < 3 ∧ t.cor c = p:=by
 unfold T3.fnd at h;split at h
 · rename_i h';exact ⟨0,by decide,h'.1⟩
 · split at h
   · rename_i h';exact ⟨1,by decide,h'.1⟩
   · split at h
     · rename_i h';exact ⟨2,by decide,h'.1⟩
     · cases h
theorem Pz {ts us : List T3} {p q : P3} : bD (ts ++ us) p q = match bD ts p q with | some x=>some x | none=>bD us p q:=by
 induction ts with
 | nil=>rfl
 | cons t ts ih =>
  rw [List.cons_append,bD,bD];cases t.fnd p q with
  | some x=>rfl
  | none=>exact ih
theorem Vs {t u : T3} {p : P3} (h : u ∈ qK p t 3) : u = t ∧ ∃ c,c < 3 ∧ t.cor c = p:=by
 obtain ⟨c,hc,h⟩:=List.mem_flatMap.1 h;unfold Dj at h;split at h
 · rename_i e
   exact ⟨List.mem_singleton.1 h,c,List.mem_range.1 hc,e⟩
 · cases h
theorem Qc {t : T3} {p : P3} {c : Nat} (hc : c < 3) (h : t.cor c = p) : t ∈ qK p t 3 :=
 List.mem_flatMap.2 ⟨c,List.mem_range.2 hc,by rw [Dj,if_pos h];exact List.mem_singleton.2 rfl⟩
theorem Eg {t : T3} {p q : P3} : ∀ us : List T3,(∀ u ∈ us,u = t) → bD us p q = if us = [] then none else t.fnd p q
 | [],_=>rfl
 | u :: us,h=>by
  have e:=h u (List.mem_cons_self ..);have ih:=Eg (p:=p) (q:=q) us fun v hv=>h v (List.mem_cons_of_mem _ hv);rw [bD,e,if_neg (by simp)];cases hf : t.fnd p q with
  | some x=>rfl
  | none =>
   simp only;rw [ih];split
   · rfl
   · exact hf
theorem Ba (p q : P3) : ∀ ts : List T3,bD (kH ts p) p q = bD ts p q
 | []=>rfl
 | t :: ts=>by
  have e : kH (t :: ts) p = qK p t 3 ++ kH ts p:=by simp [kH]
  rw [e,Pz,Ba p q ts,bD,Eg (t:=t) _ (fun u hu=>(Vs hu).1)];by_cases h : qK p t 3 = []
  · rw [if_pos h]
    cases hf : t.fnd p q with
    | none=>rfl
    | some x =>
     obtain ⟨c,hc,k⟩:=abL hf;have:=Qc hc k;rw [h] at this;cases this
  · rw [if_neg h]
    rfl
theorem xY (ts : List T3) (p : P3) : ∀ (n : Nat) (x : P3),kM (kH ts p) p n x = kM ts p n x
 | 0,_=>rfl
 | n + 1,x=>by
  rw [kM,kM,Ba];cases bD ts p x with
  | none=>rfl
  | some y=>exact xY ts p n y
theorem Eh (p : P3) : ∀ ts : List T3,(kH ts p).length = lN (aY ts) p
 | []=>rfl
 | t :: ts=>by
  have ih:=Eh p ts;have e : kH (t :: ts) p = qK p t 3 ++ kH ts p:=by simp [kH]
  have e2 : aY (t :: ts) = [t.a,t.b,t.c] ++ aY ts:=rfl;rw [e,e2,List.length_append,Ec,ih]
  congr 1
  have r3 : List.range 3 = [0,1,2]:=rfl;unfold qK;rw [r3];simp only[List.flatMap_cons,List.flatMap_nil,List.append_nil,List.length_append,Dj];rw [mP,mP,mP];have k : ∀ (c : Nat) (x : P3),t.cor c = x → (if t.cor c = p then [t] else []).length = if x = p then 1 else 0:=fun c x hx=>by
   subst hx;split <;> rfl
  rw [k 0 t.a rfl,k 1 t.b rfl,k 2 t.c rfl];rfl
theorem Hp {p s : P3} {ts : List T3} : s ∈ oS ts p ↔ (p,s) ∈ aP ts:=by
 unfold oS aP;rw [List.mem_flatMap,List.mem_flatMap];refine exists_congr fun t=>and_congr Iff.rfl ?_;unfold tP;rw [show List.range 3 = [0,1,2] from rfl];simp only[List.flatMap_cons,List.flatMap_nil,List.append_nil,List.mem_append,Dk,List.mem_cons,List.not_mem_nil,or_false,Prod.mk.injEq];have k : ∀ (c : Nat) (x y : P3),t.cor c = x → t.cor ((c + 1) % 3) = y → (s ∈ (if t.cor c = p then [t.cor ((c + 1) % 3)] else []) ↔ p = x ∧ s = y):=fun c x y hx hy=>by
  subst hx;subst hy;split
  · rename_i h;rw [List.mem_singleton];exact ⟨fun e=>⟨h.symm,e⟩,fun e=>e.2⟩
  · rename_i h;exact ⟨fun e=>(by cases e),fun e=>absurd e.1.symm h⟩
 rw [k 0 t.a t.b rfl rfl,k 1 t.b t.c rfl rfl,k 2 t.c t.a rfl rfl]
theorem Ab {ps : List P3} {p x : P3} : x ∈ gH ps p ↔ x = p ∨ x ∈ ps:=by
 unfold gH;split
 · rename_i h
   exact ⟨.inr,fun k=>k.elim (fun e=>e ▸ List.mem_of_getElem? h) id⟩
 · conv=>rhs;rw [← List.take_append_drop (Ur ps p) ps]
   simp only[List.mem_append,List.mem_singleton];exact ⟨fun h=>h.elim (fun h=>h.elim (fun h=>.inr (.inl h)) .inl) (fun h=>.inr (.inr h)),fun h=>h.elim (fun h=>.inl (.inr h)) (fun h=>h.elim (fun h=>.inl (.inl h)) .inr)⟩
theorem Ms {x : P3} {ts : List T3} : x ∈ dR ts ↔ x ∈ aY ts:=by
 have : ∀ (ts : List T3) (ps : List P3),x ∈ ts.foldl (fun ps t=>gH (gH (gH ps t.a) t.b) t.c) ps ↔ x ∈ ps ∨ x ∈ aY ts:=by
  intro ts
  induction ts with
  | nil=>intro ps;simp [aY]
  | cons t ts ih =>
   intro ps;rw [List.foldl_cons,ih,Ab,Ab,Ab];have e : aY (t :: ts) = [t.a,t.b,t.c] ++ aY ts:=rfl;rw [e];simp only[List.mem_append,List.mem_cons,List.not_mem_nil,or_false];constructor
   · rintro ((h | h | h | h) | h)
     · exact .inr (.inl (.inr (.inr h)))
     · exact .inr (.inl (.inr (.inl h)))
     · exact .inr (.inl (.inl h))
     · exact .inl h
     · exact .inr (.inr h)
   · rintro (h | (h | h | h) | h)
     · exact .inl (.inr (.inr (.inr h)))
     · exact .inl (.inr (.inr (.inl h)))
     · exact .inl (.inr (.inl h))
     · exact .inl (.inl h)
     · exact .inr h
 have:=this ts [];simpa [dR] using this
theorem qT {ts : List T3} {e : E3} (h : e ∈ aP ts) : e.1 ∈ aY ts ∧ e.2 ∈ aY ts:=by
 obtain ⟨t,ht,hx⟩:=List.mem_flatMap.1 h;have key : ∀ x,x = t.a ∨ x = t.b ∨ x = t.c → x ∈ aY ts:=fun x hx=>List.mem_flatMap.2 ⟨t,ht,by simpa using hx⟩;simp only[List.mem_cons,List.not_mem_nil,or_false] at hx;rcases hx with rfl | rfl | rfl
 · exact ⟨key _ (.inl rfl),key _ (.inr (.inl rfl))⟩
 · exact ⟨key _ (.inr (.inl rfl)),key _ (.inr (.inr rfl))⟩
 · exact ⟨key _ (.inr (.inr rfl)),key _ (.inl rfl)⟩
def Ju (ts : List T3) (e : E3) : Prop:=∃ x,bD ts e.1 e.2 = some x ∧ (uA (bD ts e.1) e.2 (lN (aY ts) e.1 + 1 - 1) x 1).1 = e.2 ∧ (uA (bD ts e.1) e.2 (lN (aY ts) e.1 + 1 - 1) x 1).2 < lN (aY ts) e.1
theorem Ei {ts : List T3} {e : E3} : Ju ts e ↔ e ∈ aP ts ∧ kI (kH ts e.1) e.1 e.2 ((kH ts e.1).length - 1) e.2 = true:=by
 rw [Ef,Eh];constructor
 · rintro ⟨x,hx,h⟩
   obtain ⟨j,h1,h2,h3⟩:=(Jt (M:=lN (aY ts) e.1) _ x 1 (by omega)).1 h;refine ⟨nC hx,j,h1,by omega,?_⟩;rw [xY,show j = (j - 1) + 1 by omega,kM,hx];exact h3
 · rintro ⟨he,j,h1,h2,h3⟩
   obtain ⟨x,hx⟩:=pI he;refine ⟨x,hx,(Jt (M:=lN (aY ts) e.1) _ x 1 (by omega)).2 ⟨j,h1,by omega,?_⟩⟩;rw [xY,show j = (j - 1) + 1 by omega,kM,hx] at h3;exact h3
theorem pinned {ts : List T3} : (dR ts).any (xK ts) = true ↔ ∃ e,Ju ts e:=by
 rw [List.any_eq_true];constructor
 · rintro ⟨p,_,h⟩
   obtain ⟨s,hs,hr⟩:=List.any_eq_true.1 h;exact ⟨(p,s),Ei.2 ⟨Hp.1 hs,hr⟩⟩
 · rintro ⟨e,h⟩
   obtain ⟨he,hr⟩:=Ei.1 h;exact ⟨e.1,Ms.2 (qT he).1,List.any_eq_true.2 ⟨e.2,Hp.2 he,hr⟩⟩
end Go.Lith
namespace Go.Lith
open Go.RowKit
/-! ### The ends of fans -/
def Jv (ts : List T3) (p : P3) : Nat → P3 → P3
 | 0,a=>a
 | n + 1,a=>match bD ts p a with
  | none=>a
  | some x=>Jv ts p n x
theorem Qd {ts : List T3} {p : P3} : ∀ (i n : Nat) (a x : P3),i ≤ n → kM ts p i a = some x → bD ts p x = none → Jv ts p n a = x
 | 0,n,a,x,_,h,hn=>by
  cases h;cases n with
  | zero=>rfl
  | succ n=>simp only[Jv,hn]
 | i + 1,n,a,x,hi,h,hn=>by
  obtain ⟨m,rfl⟩ : ∃ m,n = m + 1:=⟨n - 1,by omega⟩
  rw [kM] at h;cases hb : bD ts p a with
  | none=>rw [hb] at h;cases h
  | some y =>
   rw [hb,Option.bind_some] at h;simp only[Jv,hb];exact Qd i m y x (by omega) h hn
def lK (ts : List T3) : Prop:=∀ t ∈ ts,jN t = false
theorem Gh {t : T3} (h : jN t = false) : t.a ≠ t.b ∧ t.b ≠ t.c ∧ t.c ≠ t.a:=by
 unfold jN at h;simp only[Bool.or_eq_false_iff,decide_eq_false_iff_not] at h;exact ⟨h.1.1,h.1.2,h.2⟩
theorem Mt {p : P3} : ∀ {ts : List T3},lK ts → ((aP ts).filter fun e=>decide (e.1 = p)).length ≤ ts.length
 | [],_=>Nat.le_refl _
 | t :: ts,h=>by
  have ih:=Mt (p:=p) (ts:=ts) fun u hu=>h u (List.mem_cons_of_mem _ hu);obtain ⟨h1,h2,h3⟩:=Gh (h t (List.mem_cons_self ..));have e : aP (t :: ts) = [(t.a,t.b),(t.b,t.c),(t.c,t.a)] ++ aP ts:=rfl;rw [e,List.filter_append,List.length_append,List.length_cons];have : (List.filter (fun e : E3=>decide (e.1 = p)) [(t.a,t.b),(t.b,t.c),(t.c,t.a)]).length ≤ 1:=by
   simp only[List.filter_cons,List.filter_nil];by_cases ha : t.a = p
   · have hb : ¬ t.b = p:=fun e=>h1 (ha.trans e.symm)
     have hc : ¬ t.c = p:=fun e=>h3 (e.trans ha.symm);simp [ha,hb,hc]
   · by_cases hb : t.b = p
     · have hc : ¬ t.c = p:=fun e=>h2 (hb.trans e.symm)
       simp [ha,hb,hc]
     · by_cases hc : t.c = p <;> simp [ha,hb,hc]
  omega
theorem Cb {ts : List T3} {p : P3} : ∀ (i j : Nat) (a : P3),kM ts p (i + j) a = (kM ts p i a).bind (kM ts p j)
 | 0,j,a=>by simp [kM]
 | i + 1,j,a=>by
  rw [show i + 1 + j = (i + j) + 1 by omega,kM,kM];cases bD ts p a with
  | none=>rfl
  | some y=>rw [Option.bind_some,Option.bind_some];exact Cb i j y
theorem Hq {ts : List T3} {p a : P3} (hn : (aP ts).Nodup) (hb : (a,p) ∉ aP ts) : ∀ (i j : Nat) (x : P3),i < j → kM ts p i a = some x → kM ts p j a ≠ some x
 | 0,j,x,hij,h,k=>by
  cases h;obtain ⟨m,rfl⟩ : ∃ m,j = m + 1:=⟨j - 1,by omega⟩
  rw [kN] at k;obtain ⟨y,_,hy⟩:=Option.bind_eq_some_iff.1 k;exact hb (Mr hy)
 | i + 1,j,x,hij,h,k=>by
  obtain ⟨m,rfl⟩ : ∃ m,j = m + 1:=⟨j - 1,by omega⟩
  rw [kN] at h k;obtain ⟨y,hy,hy'⟩:=Option.bind_eq_some_iff.1 h;obtain ⟨z,hz,hz'⟩:=Option.bind_eq_some_iff.1 k;have e:=Ee hn hy' hz';subst e;exact Hq hn hb i m y (by omega) hy hz
theorem Jw {ts : List T3} {p a x : P3} (hd : lK ts) (hn : (aP ts).Nodup) (hb : (a,p) ∉ aP ts) {i : Nat} (h : kM ts p i a = some x) : i ≤ ts.length:=by
 have key : ∀ j,j ≤ i → ∃ y,kM ts p j a = some y:=fun j hj=>by
  have e : i = j + (i - j):=by omega
  rw [e,Cb] at h;obtain ⟨y,hy,_⟩:=Option.bind_eq_some_iff.1 h;exact ⟨y,hy⟩
 have h1:=Mt (p:=p) hd;have h2 : ((List.range i).map fun j=>(p,(kM ts p j a).getD p)).length ≤ ((aP ts).filter fun e=>decide (e.1 = p)).length:=by
  refine rZ ?_ fun e he=>?_
  · rw [List.Nodup,List.pairwise_map]
    refine (List.pairwise_lt_range (n:=i)).imp_of_mem fun {j k} hj hk hjk e=>?_;obtain ⟨y,hy⟩:=key j (by have:=List.mem_range.1 hj;omega);obtain ⟨z,hz⟩:=key k (by have:=List.mem_range.1 hk;omega);rw [hy,hz] at e;have e' : y = z:=(Prod.mk.inj e).2;subst e';exact Hq hn hb j k y hjk hy hz
  · obtain ⟨j,hj,rfl⟩:=List.mem_map.1 he
    have hj':=List.mem_range.1 hj;obtain ⟨y,hy⟩:=key j (by omega);obtain ⟨z,hz⟩:=key (j + 1) (by omega);rw [kN,hy,Option.bind_some] at hz;refine List.mem_filter.2 ⟨?_,by simp⟩;rw [hy];exact nC hz
 rw [List.length_map,List.length_range] at h2;omega
/-! ### As the reference says it -/
abbrev Mv:=P3 × P3
def dP : List Mv → P3 → P3
 | [],p=>p
 | m :: ms,p=>if m.1 = p then m.2 else dP ms p
def T3.has (t : T3) (p : P3) : Bool:=decide (t.a = p) || decide (t.b = p) || decide (t.c = p)
def pA (ts : List T3) (p : P3) : Bool:=ts.any fun t=>t.has p
def oC (ts : List T3) (p q : P3) : Bool:=ts.any fun t=>t.has p && t.has q
def uB (rim : List E3) (p : P3) : Bool:=rim.any fun e=>decide (e.1 = p) || decide (e.2 = p)
def uC (fine coarse : List T3) (rim : List E3) : Bool:=rim.all fun e=>decide (Jv fine e.1 fine.length e.2 = Jv coarse e.1 coarse.length e.2)
def nP (fine coarse : List T3) (rim : List E3) : Bool:=(aP coarse).any fun e=>uB rim e.1 && uB rim e.2 && !oC fine e.1 e.2
def pJ (fine coarse : List T3) (ms : List Mv) (rim : List E3) (i : Nat) (m : Mv) : Bool :=
 (decide (i = 0) || (ms[i - 1]?).any fun k=>decide (k.1.Lt m.1)) && pA fine m.1 && (pA coarse m.2 && pA fine m.2 && ms.all fun k=>decide (k.1 ≠ m.2)) && !uB rim m.1
def nQ (fine coarse : List T3) (ms : List Mv) (rim : List E3) : Bool:=ms.zipIdx.all fun x=>pJ fine coarse ms rim x.2 x.1
def eD (t : T3) : T3:=if t.c.Lt t.a ∧ (t.c.Lt t.b ∨ ¬ t.b.Lt t.a) then ⟨t.c,t.a,t.b⟩ else if t.b.Lt t.a then ⟨t.b,t.c,t.a⟩ else t
theorem Jy {t u : T3} (h1 : t.a = u.a) (h2 : t.b = u.b) (h3 : t.c = u.c) : t = u:=by
 cases t;cases u;simp only at h1 h2 h3;subst h1;subst h2;subst h3;rfl
instance : DecidableEq T3:=fun t u=>decidable_of_iff (t.a = u.a ∧ t.b = u.b ∧ t.c = u.c) ⟨fun h=>Jy h.1 h.2.1 h.2.2,fun h=>by rw [h];exact ⟨rfl,rfl,rfl⟩⟩
def T3.img (ms : List Mv) (t : T3) : T3:=⟨dP ms t.a,dP ms t.b,dP ms t.c⟩
def T3.nd (t : T3) : Bool:=decide (t.a ≠ t.b) && decide (t.b ≠ t.c) && decide (t.c ≠ t.a)
def Ej (coarse : List T3) (x : T3) : Bool:=if x.nd then coarse.any fun u=>decide (eD u = eD x) else oC coarse x.a (if x.a = x.b then x.c else x.b)
def aab (ms : List Mv) (fine : List T3) (u : T3) : Nat:=(fine.filter fun t=>(t.img ms).nd && decide (eD u = eD (t.img ms))).length
def nR (fine coarse : List T3) (ms : List Mv) : Bool:=(fine.all fun t=>Ej coarse (t.img ms)) && coarse.all fun u=>decide (aab ms fine u = 1)
end Go.Lith
namespace Go.Lith
open Go.RowKit
/-! ### Corners and edges -/
theorem eA {t : T3} {p : P3} : t.has p = true ↔ p = t.a ∨ p = t.b ∨ p = t.c:=by
 unfold T3.has;simp only[Bool.or_eq_true,decide_eq_true_eq,or_assoc];exact or_congr ⟨Eq.symm,Eq.symm⟩ (or_congr ⟨Eq.symm,Eq.symm⟩ ⟨Eq.symm,Eq.symm⟩)
theorem uD {ts : List T3} {p : P3} : pA ts p = true ↔ p ∈ aY ts:=by
 unfold pA aY;rw [List.any_eq_true,List.mem_flatMap];exact exists_congr fun t=>and_congr Iff.rfl (by rw [eA];simp)
theorem Jz (ts : List T3) (p : P3) : pA ts p = decide (p ∈ aY ts):=by rw [Bool.eq_iff_iff,uD,decide_eq_true_eq]
theorem gI {ts : List T3} {p q : P3} : oC ts p q = true ↔ ∃ t ∈ ts,t.has p = true ∧ t.has q = true:=by
 unfold oC;rw [List.any_eq_true];exact exists_congr fun t=>and_congr Iff.rfl (by rw [Bool.and_eq_true])
theorem Ac {ts : List T3} {p q : P3} (h : oC ts p q = true) : oC ts q p = true:=by
 obtain ⟨t,ht,h1,h2⟩:=gI.1 h;exact gI.2 ⟨t,ht,h2,h1⟩
theorem Vt {ts : List T3} {p : P3} : oC ts p p = true ↔ p ∈ aY ts:=by
 rw [gI,← uD,pA,List.any_eq_true];exact exists_congr fun t=>and_congr Iff.rfl ⟨fun h=>h.1,fun h=>⟨h,h⟩⟩
theorem Hr {ts : List T3} {p q : P3} (h : oC ts p q = true) : oC ts p p = true:=by
 obtain ⟨t,ht,h1,_⟩:=gI.1 h;exact gI.2 ⟨t,ht,h1,h1⟩
theorem Ek {ts : List T3} {e : E3} (h : e ∈ aP ts) : oC ts e.1 e.2 = true:=by
 obtain ⟨t,ht,hx⟩:=List.mem_flatMap.1 h;refine gI.2 ⟨t,ht,?_,?_⟩ <;> rw [eA] <;> (simp only[List.mem_cons,List.not_mem_nil,or_false] at hx;rcases hx with rfl | rfl | rfl <;> simp)
theorem Qe {ts : List T3} {p q : P3} (h : oC ts p q = true) (hne : p ≠ q) : (p,q) ∈ aP ts ∨ (q,p) ∈ aP ts:=by
 obtain ⟨t,ht,h1,h2⟩:=gI.1 h;have key : ∀ e,e = (t.a,t.b) ∨ e = (t.b,t.c) ∨ e = (t.c,t.a) → e ∈ aP ts:=fun e he=>List.mem_flatMap.2 ⟨t,ht,by simpa using he⟩;rcases eA.1 h1 with rfl | rfl | rfl <;> rcases eA.1 h2 with rfl | rfl | rfl
 · exact absurd rfl hne
 · exact .inl (key _ (.inl rfl))
 · exact .inr (key _ (.inr (.inr rfl)))
 · exact .inr (key _ (.inl rfl))
 · exact absurd rfl hne
 · exact .inl (key _ (.inr (.inl rfl)))
 · exact .inl (key _ (.inr (.inr rfl)))
 · exact .inr (key _ (.inr (.inl rfl)))
 · exact absurd rfl hne
def aac (t : T3) : List E3:=[(t.a,t.a),(t.a,t.b),(t.a,t.c),(t.b,t.a),(t.b,t.b),(t.b,t.c),(t.c,t.a),(t.c,t.b),(t.c,t.c)]
def kB (ts : List T3) : List E3:=ts.flatMap aac
theorem Ad {ts : List T3} {e : E3} : e ∈ kB ts ↔ oC ts e.1 e.2 = true:=by
 unfold kB;rw [List.mem_flatMap,gI];refine exists_congr fun t=>and_congr Iff.rfl ?_;rw [eA,eA];obtain ⟨p,q⟩:=e;simp only[aac,List.mem_cons,List.not_mem_nil,or_false,Prod.mk.injEq];constructor
 · rintro (h | h | h | h | h | h | h | h | h) <;> simp [h.1,h.2]
 · rintro ⟨h1 | h1 | h1,h2 | h2 | h2⟩ <;> simp [h1,h2]
theorem uZ (ts : List T3) (e : E3) : (cD (fG [] (kB ts)) e).getD false = oC ts e.1 e.2:=by
 exact Bool.eq_iff_iff.2 (Ea.trans Ad)
theorem Qf {ts : List T3} {k : Nat} {t : T3} (h : ts[k]? = some t) : kB (ts.take (k + 1)) = kB (ts.take k) ++ aac t:=by
 unfold kB;rw [dN h,List.flatMap_append];simp
/-! ### The border -/
def El (rim : List E3) : List P3:=rim.flatMap fun e=>[e.1,e.2]
theorem Cc {rim : List E3} {p : P3} : uB rim p = true ↔ p ∈ El rim:=by
 unfold uB El;rw [List.any_eq_true,List.mem_flatMap];refine exists_congr fun e=>and_congr Iff.rfl ?_;simp only[Bool.or_eq_true,decide_eq_true_eq,List.mem_cons,List.not_mem_nil,or_false];exact or_congr ⟨Eq.symm,Eq.symm⟩ ⟨Eq.symm,Eq.symm⟩
theorem Cd (rim : List E3) (p : P3) : (cD (fG [] (El rim)) p).getD false = uB rim p:=by
 rw [oZ,Bool.eq_iff_iff,decide_eq_true_eq,Cc]
theorem Mu {rim : List E3} {k : Nat} {e : E3} (h : rim[k]? = some e) : El (rim.take (k + 1)) = El (rim.take k) ++ [e.1,e.2]:=by
 unfold El;rw [dN h,List.flatMap_append];simp
theorem Mw {ts : List T3} {p : P3} (h : uB (aR ts) p = true) : p ∈ aY ts:=by
 obtain ⟨e,he,hp⟩:=List.mem_flatMap.1 (Cc.1 h);have hc:=qT (oY.1 he).1;simp only[List.mem_cons,List.not_mem_nil,or_false] at hp;rcases hp with rfl | rfl
 · exact hc.1
 · exact hc.2
def Qg (fine : List T3) (rim : List E3) (e : E3) : Bool:=uB rim e.1 && uB rim e.2 && !oC fine e.1 e.2
theorem Hs {fine coarse : List T3} : nP fine coarse (aR fine) = true ↔ ∃ e ∈ kB coarse,Qg fine (aR fine) e = true:=by
 unfold nP;rw [List.any_eq_true];constructor
 · rintro ⟨e,he,h⟩
   exact ⟨e,Ad.2 (Ek he),h⟩
 · rintro ⟨e,he,h⟩
   have h0:=Ad.1 he;unfold Qg at h;simp only[Bool.and_eq_true,Bool.not_eq_true'] at h;obtain ⟨⟨h1,h2⟩,h3⟩:=h;obtain ⟨p,q⟩:=e;have hne : p ≠ q:=fun e=>by
    subst e;rw [Vt.2 (Mw h1)] at h3;cases h3
   rcases Qe h0 hne with k | k
   · exact ⟨_,k,by simp only at h1 h2 h3;simp [h1,h2,h3]⟩
   · refine ⟨_,k,?_⟩
     have h4 : oC fine q p = false:=by
      cases hh : oC fine q p with
      | false=>rfl
      | true=>rw [Ac hh] at h3;cases h3
     simp only at h1 h2;simp [h1,h2,h4]
/-! ### The ends of fans -/
def vW (ts : List T3) (rim : List E3) : List (E3 × P3):=rim.map fun e=>(e,Jv ts e.1 ts.length e.2)
theorem vA (ts : List T3) (rim : List E3) : (vW ts rim).map (·.1) = rim:=by
 unfold vW;rw [List.map_map];exact List.map_id' rim
theorem kU.nodup {es : List E3} (h : kU es) : es.Nodup:=List.Pairwise.imp (fun {a b} (k : yN a b) (e : a = b)=>yN.irrefl b (e ▸ k)) h
/-! ### Moves -/
theorem sC {fine coarse : List T3} {ms : List Mv} {rim : List E3} : nQ fine coarse ms rim = true ↔ ∀ i m,ms[i]? = some m → pJ fine coarse ms rim i m = true:=by
 unfold nQ;rw [List.all_eq_true];constructor
 · intro h i m hm
   exact h (m,i) (List.mem_zipIdx_iff_getElem?.2 hm)
 · intro h x hx
   exact h x.2 x.1 (List.mem_zipIdx_iff_getElem?.1 hx)
theorem Qh {fine coarse : List T3} {ms : List Mv} {rim : List E3} (h : nQ fine coarse ms rim = true) : ∀ i m k,ms[i]? = some k → ms[i + 1]? = some m → k.1.Lt m.1:=fun i m k hk hm=>by
 have:=sC.1 h (i + 1) m hm;unfold pJ at this;simp only[Bool.and_eq_true,Bool.or_eq_true] at this;have h1:=this.1.1.1;rw [Nat.add_sub_cancel,hk] at h1;simpa using h1
theorem Bb : ∀ {ms : List Mv},(∀ (i : Nat) (m k : Mv),ms[i]? = some k → ms[i + 1]? = some m → k.1.Lt m.1) → (ms.map (·.1)).Pairwise P3.Lt
 | [],_=>List.Pairwise.nil
 | [m],_=>List.pairwise_singleton _ _
 | m :: k :: ms,h=>by
  have ih:=Bb (ms:=k :: ms) fun i a b h1 h2=>h (i + 1) a b h1 h2;have h0:=h 0 k m rfl rfl;rw [List.map_cons];refine List.pairwise_cons.2 ⟨fun x hx=>?_,ih⟩;rw [List.map_cons] at hx ih;rcases List.mem_cons.1 hx with rfl | hx
  · exact h0
  · exact P3.lt_trans h0 ((List.pairwise_cons.1 ih).1 x hx)
theorem Mx {fine coarse : List T3} {ms : List Mv} {rim : List E3} (h : nQ fine coarse ms rim = true) : (ms.map (·.1)).Nodup :=
 List.Pairwise.imp (fun {a b} (k : P3.Lt a b) (e : a = b)=>P3.lt_irrefl b (e ▸ k)) (Bb (Qh h))
theorem Sg (p : P3) : ∀ ms : List Mv,dP ms p = (cD ms p).getD p
 | []=>rfl
 | m :: ms=>by
  rw [dP,cD];split
  · rfl
  · exact Sg p ms
theorem abM {ms : List Mv} (h : (ms.map (·.1)).Nodup) (p : P3) : (cD (lM [] ms) p).getD p = dP ms p:=by
 rw [Sg,Eb _ _ _ h];cases cD ms p <;> rfl
theorem Em {K : Type} [DecidableEq K] {V : Type} : ∀ (ks : List K) (D : List (K × V)) (a : K),(D.map (·.1)).Nodup → ((ks.foldl oV D).map (·.1)).Nodup ∧ cD (ks.foldl oV D) a = if a ∈ ks then none else cD D a
 | [],D,a,h=>⟨h,by simp⟩
 | k :: ks,D,a,h=>by
  obtain ⟨h1,h2⟩:=Em ks (oV D k) a (Pv h k);refine ⟨h1,?_⟩;rw [List.foldl_cons,h2,Hl k a h];by_cases ha : a ∈ ks
  · rw [if_pos ha,if_pos (List.mem_cons_of_mem _ ha)]
  · rw [if_neg ha]
    by_cases e : k = a
    · rw [if_pos e,if_pos (e ▸ List.mem_cons_self ..)]
    · rw [if_neg e,if_neg (fun k'=>(List.mem_cons.1 k').elim (fun e'=>e e'.symm) ha)]
theorem vB {fine coarse : List T3} {ms : List Mv} {rim : List E3} {cf cc : List P3} (hf : ∀ a,a ∈ cf ↔ a ∈ aY fine) (hc : ∀ a,a ∈ cc ↔ a ∈ aY coarse) (i : Nat) (m : Mv) :
 pJ fine coarse ms rim i m = ((decide (i = 0) || (ms[i - 1]?).any fun k=>decide (k.1.Lt m.1)) && (cD ((El rim).foldl oV (fG [] cf)) m.1).getD false && (cD (fG [] cf) m.2).getD false && (cD ((ms.map (·.1)).foldl oV (fG [] cc)) m.2).getD false):=by
 have n1:=mO cf [] (by simp);have n2:=mO cc [] (by simp);have e1 : (cD ((El rim).foldl oV (fG [] cf)) m.1).getD false = (pA fine m.1 && !uB rim m.1):=by
  rw [(Em _ _ m.1 n1).2];by_cases h : m.1 ∈ El rim
  · rw [if_pos h,Cc.2 h];simp
  · have : uB rim m.1 = false:=by
     cases hh : uB rim m.1 with
     | false=>rfl
     | true=>exact absurd (Cc.1 hh) h
    rw [if_neg h,oZ,this,Jz];simp [hf]
 have e2 : (cD (fG [] cf) m.2).getD false = pA fine m.2:=by rw [oZ,Jz];simp [hf]
 have e3 : (cD ((ms.map (·.1)).foldl oV (fG [] cc)) m.2).getD false = (pA coarse m.2 && ms.all fun k=>decide (k.1 ≠ m.2)):=by
  rw [(Em _ _ m.2 n2).2];by_cases h : m.2 ∈ ms.map (·.1)
  · obtain ⟨k,hk,e⟩:=List.mem_map.1 h
    have : (ms.all fun k=>decide (k.1 ≠ m.2)) = false:=by
     rw [List.all_eq_false];exact ⟨k,hk,by simp [e]⟩
    rw [if_pos h,this];simp
  · have : (ms.all fun k=>decide (k.1 ≠ m.2)) = true:=by
     rw [List.all_eq_true];exact fun k hk=>decide_eq_true fun e=>h (List.mem_map.2 ⟨k,hk,e⟩)
    rw [if_neg h,oZ,this,Jz];simp [hc]
 rw [e1,e2,e3,pJ];cases (decide (i = 0) || (ms[i - 1]?).any fun k=>decide (k.1.Lt m.1)) <;> cases pA fine m.1 <;> cases uB rim m.1 <;> cases pA fine m.2 <;> cases pA coarse m.2 <;> simp
/-! ### Covers -/
def mC (ms : List Mv) (ts : List T3) : List T3:=(ts.filter fun t=>(t.img ms).nd).map fun t=>eD (t.img ms)
theorem xZ {ms : List Mv} {ts : List T3} {k : Nat} {t : T3} (h : ts[k]? = some t) : mC ms (ts.take (k + 1)) = mC ms (ts.take k) ++ if (t.img ms).nd then [eD (t.img ms)] else []:=by
 unfold mC;rw [dN h,List.filter_append,List.map_append];cases hn : (t.img ms).nd <;> simp [hn]
theorem yA (ms : List Mv) (u : T3) : ∀ ts : List T3,aab ms ts u = lN (mC ms ts) (eD u)
 | []=>rfl
 | t :: ts=>by
  have ih:=yA ms u ts;unfold aab mC at ih ⊢;cases hn : (t.img ms).nd with
  | false=>rw [List.filter_cons_of_neg (by simp [hn]),List.filter_cons_of_neg (by simp [hn])];exact ih
  | true =>
   rw [List.filter_cons_of_pos (p:=fun t : T3=>(t.img ms).nd) (by simp [hn]),List.map_cons,mP];by_cases e : eD u = eD (t.img ms)
   · rw [List.filter_cons_of_pos (by simp [hn,e]),List.length_cons,if_pos e.symm];omega
   · rw [List.filter_cons_of_neg (by simp [e]),if_neg (fun h=>e h.symm)];omega
theorem uE {K : Type} [DecidableEq K] {ks : List K} {a : K} : 0 < lN ks a ↔ a ∈ ks:=by
 unfold lN;rw [List.length_pos_iff_exists_mem];simp
def Qi (fine coarse : List T3) (ms : List Mv) (j : Nat) (t : T3) : Prop :=
 if (t.img ms).nd then eD (t.img ms) ∈ coarse.map eD ∧ eD (t.img ms) ∉ mC ms (fine.take j) else oC coarse (t.img ms).a (t.img ms).b = true ∧ oC coarse (t.img ms).b (t.img ms).c = true
theorem wM {coarse : List T3} {x : T3} (h : x.nd = false) : Ej coarse x = true ↔ oC coarse x.a x.b = true ∧ oC coarse x.b x.c = true:=by
 unfold Ej;rw [h];simp only[Bool.false_eq_true,if_false];by_cases e : x.a = x.b
 · rw [if_pos e,← e]
   exact ⟨fun k=>⟨Hr k,k⟩,fun k=>k.2⟩
 · rw [if_neg e]
   refine ⟨fun k=>⟨k,?_⟩,fun k=>k.1⟩;by_cases e2 : x.b = x.c
   · rw [← e2];exact Hr (Ac k)
   · have e3 : x.c = x.a:=by
      unfold T3.nd at h;simp only[Bool.and_eq_false_iff,decide_eq_false_iff_not,ne_eq] at h;rcases h with (h | h) | h
      · exact absurd (Decidable.not_not.1 h) e
      · exact absurd (Decidable.not_not.1 h) e2
      · exact Decidable.not_not.1 h
     rw [e3];exact Ac k
theorem En {coarse : List T3} {x : T3} (h : x.nd = true) : Ej coarse x = true ↔ eD x ∈ coarse.map eD:=by
 unfold Ej;rw [h,if_pos rfl,List.any_eq_true,List.mem_map];exact exists_congr fun u=>and_congr Iff.rfl (by rw [decide_eq_true_eq])
theorem wN {K : Type} [DecidableEq K] : ∀ {ks : List K},ks.Nodup → ∀ a,lN ks a ≤ 1
 | [],_,a=>Nat.zero_le _
 | k :: ks,h,a=>by
  rw [List.nodup_cons] at h;rw [mP];by_cases e : k = a
  · subst e
    have : ¬ 0 < lN ks k:=fun q=>h.1 (uE.1 q);rw [if_pos rfl];omega
  · rw [if_neg e];have:=wN h.2 a;omega
theorem Ae {fine coarse : List T3} {ms : List Mv} : nR fine coarse ms = true ↔ (∀ j t,fine[j]? = some t → Qi fine coarse ms j t) ∧ ∀ u ∈ coarse,eD u ∈ mC ms fine:=by
 unfold nR;rw [Bool.and_eq_true,List.all_eq_true,List.all_eq_true];constructor
 · rintro ⟨h1,h2⟩
   have h3 : ∀ u ∈ coarse,lN (mC ms fine) (eD u) = 1:=fun u hu=>by rw [← yA];exact of_decide_eq_true (h2 u hu)
   refine ⟨fun j t ht=>?_,fun u hu=>uE.1 (by rw [h3 u hu];decide)⟩;have hp:=h1 t (List.mem_of_getElem? ht);unfold Qi;cases hn : (t.img ms).nd with
   | false=>rw [if_neg (by simp)];exact (wM hn).1 hp
   | true =>
    rw [if_pos rfl];have hm:=(En hn).1 hp;refine ⟨hm,fun k=>?_⟩;obtain ⟨u,hu,e⟩:=List.mem_map.1 hm;have hc:=h3 u hu;have e2 : mC ms fine = mC ms (fine.take (j + 1)) ++ mC ms (fine.drop (j + 1)):=by
     unfold mC;rw [← List.map_append,← List.filter_append,List.take_append_drop]
    rw [e2,Ec,xZ ht,hn,if_pos rfl,Ec,e,mP,if_pos rfl] at hc;have:=uE.2 k;omega
 · rintro ⟨h1,h2⟩
   have nd : ∀ j,(mC ms (fine.take j)).Nodup:=by
    intro j
    induction j with
    | zero=>simp [mC]
    | succ j ih =>
     cases ht : fine[j]? with
     | none =>
      have e : fine.take (j + 1) = fine.take j:=by
       have:=List.getElem?_eq_none_iff.1 ht;rw [List.take_of_length_le (by omega),List.take_of_length_le (by omega)]
      rw [e];exact ih
     | some t =>
      rw [xZ ht];have k:=h1 j t ht;unfold Qi at k;cases hn : (t.img ms).nd with
      | false=>simpa using ih
      | true =>
       rw [hn,if_pos rfl] at k;rw [if_pos rfl];exact wL.2 ⟨ih,k.2⟩
   refine ⟨fun t ht=>?_,fun u hu=>?_⟩
   · obtain ⟨j,hj⟩:=List.mem_iff_getElem?.1 ht
     have k:=h1 j t hj;unfold Qi at k;cases hn : (t.img ms).nd with
     | false=>rw [hn,if_neg (by simp)] at k;exact (wM hn).2 k
     | true=>rw [hn,if_pos rfl] at k;exact (En hn).2 k.1
   · refine decide_eq_true ?_
     rw [yA];have h3:=wN (by have:=nd fine.length;rwa [List.take_length] at this) (eD u);have h4:=uE.2 (h2 u hu);omega
end Go.Lith
namespace Go.Lith
open Go.RowKit
section
variable {P : Program} {ops : Array Oper} {Q : Exit → Act → World → Prop} {rest : List Oper} {d j : Nat} {ty : TypeId} {pos : String} {after : Array Edge} {v : Value} {b : Bool} {ds : List Deferred} {l : List Value} {w w0 : World} {is : List It}
variable {f : FuncId} {fo : Operand} {xs : Array Operand} {args : List Value} {first cap : Array Value} {a0 : Array TypeId}
theorem abN (m : bR w0 w is) (hw : yielded ops l.toArray j = some b) (hf : ev l fo = .func (.func f) first cap) (hxs : b = true → first.toList ++ xs.toList.map (ev l) ++ cap.toList = args) (hc : b = true → eI P f args w fun x _=>x = v)
 (h : ∀ u,bR w0 u is → wpList P ops Q rest (Fr (l.set d (Lk b v)) ds) u) : wpList P ops Q (Oper.mk (some d) (.call { callee:=.value fo,args:=xs,argTypes:=a0 }) ty pos after (some (j,true)) :: rest) (Fr l ds) w:=by
 cases b with
 | false=>simp only[Ll] at h;exact cU hw (h w m)
 | true=>simp only[vO] at h;exact bU hw (gF m hf (hxs rfl) (hc rfl) fun x u m e=>by subst e;exact h u m)
end
section
variable {P : Program} {ops : Array Oper} {Q : Act → Prop} {rest : List Oper} {d j : Nat} {ty : TypeId} {pos : String} {after : Array Edge} {v : Value} {b : Bool} {ds : List Deferred} {l : List Value} {w0 : World} {is : List It}
variable {f : FuncId} {fo : Operand} {xs : Array Operand} {args : List Value} {first cap : Array Value} {a0 : Array TypeId}
end
theorem afO {c : Bool} {u v : Value} {cs : Array Value} (hb : c = true) (h : u = Lk c v) (hv : v.cells = cs) : u.cells = cs:=by rw [h,hb,vO,hv]
/-! ### Rows of edges and moves -/
theorem Qj {w : World} {a : Addr} {e : E3} (h : jP w a (bJ e)) : jP w (a.add 0) [.int .i64 e.1.x,.int .i64 e.1.y,.int .i64 e.1.z]:=(h.sub 0).take 3
theorem Qk {w : World} {a : Addr} {e : E3} (h : jP w a (bJ e)) : jP w (a.add 3) [.int .i64 e.2.x,.int .i64 e.2.y,.int .i64 e.2.z]:=h.sub 3
theorem afP {x y z p : P3} : ((decide (x.x = p.x ∧ x.y = p.y ∧ x.z = p.z) || decide (y.x = p.x ∧ y.y = p.y ∧ y.z = p.z)) || decide (z.x = p.x ∧ z.y = p.y ∧ z.z = p.z)) = (decide (x = p) || decide (y = p) || decide (z = p)):=by
 simp only[iX]
theorem afQ {x y p : P3} : (decide (x.x = p.x ∧ x.y = p.y ∧ x.z = p.z) || decide (y.x = p.x ∧ y.y = p.y ∧ y.z = p.z)) = (decide (x = p) || decide (y = p)):=by
 simp only[iX]
end Go.Lith
namespace Go.Proofs.YtfohfflkhpfjeaaGreatDoor
open Go.Proofs.Tryz
open Go.RowKit Go.Lith
set_option maxRecDepth 100000
attribute [local irreducible] wpList wpQuiet dC cS cR Code.wp
theorem Sh {ms : List Mv} {k : Nat} {mv : Mv} {p : P3} (hm : ms[k]? = some mv) (h0 : dP ms p = dP (ms.drop k) p) (h : mv.1 = p) : dP ms p = mv.2:=by
 rw [h0,List.drop_eq_getElem_cons (List.getElem?_eq_some_iff.1 hm).1,(List.getElem?_eq_some_iff.1 hm).2,dP,if_pos h]
theorem My {ms : List Mv} {k : Nat} {mv : Mv} {p : P3} (hm : ms[k]? = some mv) (h0 : dP ms p = dP (ms.drop k) p) (h : ¬ mv.1 = p) : dP ms p = dP (ms.drop (k + 1)) p:=by
 rw [h0,List.drop_eq_getElem_cons (List.getElem?_eq_some_iff.1 hm).1,(List.getElem?_eq_some_iff.1 hm).2,dP,if_neg h]
theorem aad {ts : List T3} {k : Nat} {t : T3} {p : P3} (ht : ts[k]? = some t) : pA (ts.take (k + 1)) p = (pA (ts.take k) p || t.has p):=nA ht
theorem abO {ts : List T3} {k : Nat} {t : T3} {p : P3} (ht : ts[k]? = some t) (h : t.has p = true) : pA ts p = true:=rS ht h
theorem aae {rim : List E3} {k : Nat} {e : E3} {p : P3} (he : rim[k]? = some e) : uB (rim.take (k + 1)) p = (uB (rim.take k) p || (decide (e.1 = p) || decide (e.2 = p))):=nA he
def Ql (ts : List T3) (p q : P3) : Int:=match ts.findIdx? fun t=>(t.fnd p q).isSome with
 | some k=>(k : Int)
 | none=>-1
theorem Mz {p q : P3} : ∀ {ts : List T3},bD ts p q = none → Ql ts p q = -1:=by
 intro ts h;have : ts.findIdx? (fun t=>(t.fnd p q).isSome) = none:=by
  rw [List.findIdx?_eq_none_iff];intro t ht
  induction ts with
  | nil=>cases ht
  | cons u us ih =>
   unfold bD at h;cases hu : u.fnd p q with
   | some x=>rw [hu] at h;cases h
   | none =>
    rw [hu] at h;rcases List.mem_cons.1 ht with rfl | ht
    · rw [hu];rfl
    · exact ih h ht
 rw [Ql,this]
theorem yB {p q x : P3} : ∀ {ts : List T3} {k : Nat} {t : T3},bD (ts.take k) p q = none → ts[k]? = some t → t.fnd p q = some x → Ql ts p q = (k : Int):=by
 intro ts k t h ht hx;have key : ∀ (ts : List T3) (k : Nat),bD (ts.take k) p q = none → ts[k]? = some t → ts.findIdx? (fun t=>(t.fnd p q).isSome) = some k:=by
  intro ts
  induction ts with
  | nil=>intro k _ h;cases h
  | cons u us ih =>
   intro k h0 hk;cases k with
   | zero=>cases hk;rw [List.findIdx?_cons,hx];rfl
   | succ k =>
    rw [List.take_succ_cons] at h0;unfold bD at h0;cases hu : u.fnd p q with
    | some y=>rw [hu] at h0;cases h0
    | none =>
     rw [hu] at h0;rw [List.findIdx?_cons,hu,ih k h0 hk];rfl
 rw [Ql,key ts k h ht]
theorem Vu (ts : List T3) (p q : P3) : (Ql ts p q = -1 ∧ bD ts p q = none) ∨ ∃ (k : Nat) (t : T3) (x : P3),Ql ts p q = (k : Int) ∧ ts[k]? = some t ∧ t.fnd p q = some x ∧ bD ts p q = some x:=by
 cases hb : bD ts p q with
 | none=>exact .inl ⟨Mz hb,rfl⟩
 | some x =>
  have key : ∀ us : List T3,bD us p q = some x → ∃ k t,bD (us.take k) p q = none ∧ us[k]? = some t ∧ t.fnd p q = some x:=by
   intro us
   induction us with
   | nil=>intro h;cases h
   | cons u us ih =>
    intro h;unfold bD at h;cases hu : u.fnd p q with
    | some y=>rw [hu] at h;cases h;exact ⟨0,u,rfl,rfl,hu⟩
    | none =>
     rw [hu] at h;obtain ⟨k,t,h1,h2,h3⟩:=ih h;exact ⟨k + 1,t,by rw [List.take_succ_cons,bD,hu];exact h1,h2,h3⟩
  obtain ⟨k,t,h1,h2,h3⟩:=key ts hb;exact .inr ⟨k,t,x,yB h1 h2 h3,h2,h3,rfl⟩
theorem Na {ms : List Mv} {N cap : Nat} {A : Option Addr} {p : P3} (w : World) (hL : sR bJ 6 w A N ms) (hN : N ≤ 1000000000) : eI prog 41 [.slice A N cap,pt p] w (fun v _=>v = pt (dP ms p)):=by
 refine ⟨afh,?_⟩;have m:=bR.refl w
 go_enter func41,ntmps41
 refine aD fun K1 k1=>wp_region_lit (eY m rfl ?_);clear m;intro g1 u m;simp only[zz];refine bC m bP rfl ?_;clear m;intro g2 u m;refine aG (k1 _ _ ?_);refine aD fun K2 k2=>aD fun K3 k3=>wp_region_lit (aA (aF) (aG (k3 _ _ ?_)));refine wp_block ?_;simp only[zz];try simp only[Nat.zero_add,Nat.reduceAdd,Nat.reduceMul,Int.reduceToNat]
 refine bM [5] [6,7,8,9,10,11,12,13,14,15,16,17,18,19,20,21,22,23] (fun n vs wl=>∃ (k : Nat),vs = [.int .i64 (k:Int)] ∧ bR w wl [bI g2 [.int .i64 0,.int .i64 0,.int .i64 0] 48,bI g1 (wF p) 48] ∧ (dP ms p = dP (ms.drop k) p) ∧ (k ≤ N) ∧ (n = N - k)) ?_ ?_
 ·
  apply Exists.intro;simp only[zQ,zR,zD,zE];exact ⟨0,rfl,m,rfl,Nat.zero_le _,rfl⟩
 ·
  intro n vs wr hI u;clear m;obtain ⟨k,rfl,m,hi,hk,hn⟩:=hI;simp only[zu,zF,zG];refine aD fun K4 k4=>aD fun K5 k5=>wp_region_lit (aA (aB) (aA (aB) (aA (bF rfl jG rfl) (aA (cJ rfl rfl) ?_))));simp only[zz];refine aG (k5 _ _ ?_);refine cO rfl (fun hc1=>?_) (fun hc1=>?_)
  ·
   obtain ⟨mv,hmv,a,rfl,hrow⟩:=hL.get (i:=k) (by omega);refine wp_skip (k4 _ _ ?_);refine aD fun K6 k6=>wp_block (aD fun K7 k7=>mq m aO (by kernel_rfl) (aL (aB) (aL (aB) ?_)));simp only[zz];refine aL (aM jG eH rfl rfl (by omega) (by omega) (cA (Int.toNat_natCast _))) (aL (aK (c:=2) iL rfl aC rfl rfl) ?_);simp only[zz];refine ql rfl (fun u m=>((Qj (hrow.ext m.ext)).lies aI aC)) ?_;simp only[zz];refine ql rfl (fun u m=>((m.b 1 rfl).full aI aC)) ?_;simp only[zz];refine aL (cP rfl rfl) (dF ?_);clear m;intro u m;refine k7 _ _ ?_;simp only[zz];refine cO rfl (fun hc2=>?_) (fun hc2=>?_)
   ·
    have hh:=Sh hmv hi (iX.1 hc2);refine aD fun K8 k8=>wp_region_lit (aA (aB) (aA (aB) ?_));simp only[zz];refine aA (aM jG eH rfl rfl (by omega) (by omega) (cA (Int.toNat_natCast _))) (aA (aK (c:=2) iL rfl aC rfl rfl) ?_);simp only[zz];refine aJ rfl ((Qk (hrow.ext m.ext)).lies aI aC) ?_;simp only[zz];refine aS m 0 rfl rfl rfl aC (dX rfl) rfl ?_;clear m;intro u m;simp only[zy,zx,bG,zF,zG,Nat.reduceAdd] at m;refine aG (k8 _ _ ?_);refine wp_ret ?_;try simp only[Exit.inBlock,Exit.then,if_true]
    refine bS rfl ⟨_,rfl,((m.b 0 rfl).full aI aC)⟩ ?_;try simp only[zD,zE]
    exact ⟨_,rfl,m.ext,by rw [hh];rfl⟩
   ·
    have hi2:=My hmv hi (mt iX.2 hc2);refine wp_skip (k6 _ _ ?_);refine wp_region_lit (aA (aB) ?_);simp only[zz];refine aA (aQ rfl rfl (aN (by omega) (by omega))) (aA (aF) (aG ?_));simp only[zz];simp only[Exit.inBlock,Exit.then];refine ⟨N - (k + 1),_,?_,rfl,?_,?_⟩
    · omega
    · simp only[zz,zv]
    ·
     simp only[zQ,zR,zD,zE];exact ⟨k + 1,rfl,m,hi2,by omega,rfl⟩
  ·
   have hkN : k = N:=by omega
   rw [hkN,show ms.drop N = [] from List.drop_of_length_le (by rw [hL.len];exact Nat.le_refl _)] at hi;refine wp_exit (k2 _ _ ?_);refine aD fun K9 k9=>wp_region_lit (aJ rfl ((m.b 1 rfl).full aI aC) ?_);simp only[zz];refine aS m 0 rfl rfl rfl aC (dX rfl) rfl ?_;clear m;intro u m;simp only[zy,zx,bG,zF,zG,Nat.reduceAdd] at m;refine aG (k9 _ _ ?_);refine wp_ret ?_;try simp only[Exit.inBlock,Exit.then,if_true]
   refine bS rfl ⟨_,rfl,((m.b 0 rfl).full aI aC)⟩ ?_;try simp only[zD,zE]
   exact ⟨_,rfl,m.ext,by rw [hi];rfl⟩
theorem agq {ts : List T3} {N cap : Nat} {A : Option Addr} {p : P3} (w : World) (hT : sR aX 9 w A N ts) (hN : N ≤ 1000000000) : eI prog 88 [.slice A N cap,pt p] w (fun v _=>v = .bool (pA ts p)):=by
 refine ⟨afI,?_⟩;have m:=bR.refl w
 go_enter func88,ntmps88
 refine aD fun K1 k1=>wp_region_lit (eY m rfl ?_);clear m;intro g1 u m;refine aA (aF) (aG (k1 _ _ ?_));refine aD fun K2 k2=>aD fun K3 k3=>wp_region_lit (aA (aF) (aG (k3 _ _ ?_)));refine wp_block ?_;simp only[zz];try simp only[Nat.zero_add,Nat.reduceAdd,Nat.reduceMul,Int.reduceToNat]
 refine bM [5] [4,6,7,8,9,10,11,12,13,14,15,16,17,18,19,20,21,22,23,24,25,26,27,28,29,30,31,32,33,34,35,36] (fun n vs wl=>∃ (k : Nat),vs = [.int .i64 (k:Int)] ∧ bR w wl [bI g1 (wF p) 48] ∧ (pA (ts.take k) p = false) ∧ (k ≤ N) ∧ (n = N - k)) ?_ ?_
 ·
  apply Exists.intro;simp only[zQ,zR,zD,zE];exact ⟨0,rfl,m,rfl,Nat.zero_le _,rfl⟩
 ·
  intro n vs wr hI u;clear m;obtain ⟨k,rfl,m,h0,hk,hn⟩:=hI;simp only[zu,zF,zG];refine aD fun K4 k4=>aD fun K5 k5=>wp_region_lit (aA (aB) (aA (aB) (aA (bF rfl bZ rfl) (aA (cJ rfl rfl) ?_))));simp only[zz];refine aG (k5 _ _ ?_);refine cO rfl (fun hc1=>?_) (fun hc1=>?_)
  ·
   obtain ⟨t,ht,a,rfl,hrow⟩:=hT.get (i:=k) (by omega);refine wp_skip (k4 _ _ ?_);refine aD fun K6 k6=>wp_block (aD fun K7 k7=>mq m aO (by kernel_rfl) (aL (aB) (aL (aB) ?_)));simp only[zz];refine aL (aM bZ aU rfl rfl (by omega) (by omega) (cA (Int.toNat_natCast _))) (aL (aH bL aC rfl rfl (by decide) (by decide) rfl) ?_);simp only[zz];refine ql rfl (fun u m=>((jP.cor (hrow.ext m.ext) (c:=0) (by omega)).lies aI aC)) ?_;simp only[zz];refine ql rfl (fun u m=>((m.b 0 rfl).full aI aC)) ?_;simp only[zz];refine aL (cP rfl rfl) (aL (aB) (cY rfl (fun hb=>aB) (cY rfl (fun hb=>aB) ?_)));simp only[zz];refine cY rfl (fun hb=>aM bZ aU (bH hb rfl) (bH hb rfl) (by omega) (by omega) (cA (Int.toNat_natCast _))) (cY rfl (fun hb=>aH bL aC (bH hb rfl) rfl (by decide) (by decide) rfl) ?_);simp only[zz];refine fP rfl (fun hb u m=>cF (bH hb rfl) ((jP.cor (hrow.ext m.ext) (c:=1) (by omega)).lies aI aC)) (fP rfl (fun hb u m=>cF rfl ((m.b 0 rfl).full aI aC)) (cY rfl (fun hb=>cP (bH hb rfl) (bH hb rfl)) (aL (gU rfl rfl rfl) (aL (aB) (cY rfl (fun hb=>aB) ?_)))));simp only[zz];refine cY rfl (fun hb=>aB) ?_;simp only[zz];refine cY rfl (fun hb=>aM bZ aU (bH hb rfl) (bH hb rfl) (by omega) (by omega) (cA (Int.toNat_natCast _))) (cY rfl (fun hb=>aH bL aC (bH hb rfl) rfl (by decide) (by decide) rfl) ?_);simp only[zz];refine fP rfl (fun hb u m=>cF (bH hb rfl) ((jP.cor (hrow.ext m.ext) (c:=2) (by omega)).lies aI aC)) (fP rfl (fun hb u m=>cF rfl ((m.b 0 rfl).full aI aC)) (cY rfl (fun hb=>cP (bH hb rfl) (bH hb rfl)) (aL (gU rfl rfl rfl) (dF ?_))));clear m;intro u m;refine k7 _ _ ?_;simp only[zz];refine eU rfl (fun hc2=>?_) (fun hc2=>?_)
   ·
    have hh : pA ts p = true:=abO ht (afP.symm.trans hc2);refine aD fun K8 k8=>wp_region_lit (aA (aF) (aG (k8 _ _ ?_)));refine wp_ret ?_;simp only[zz];try simp only[Exit.inBlock,Exit.then,if_true]
    refine bS rfl rfl ?_;try simp only[zD,zE]
    exact ⟨_,rfl,m.ext,by rw [hh]⟩
   ·
    have h1 : pA (ts.take (k + 1)) p = false:=by rw [aad ht,h0];exact afP.symm.trans hc2
    refine wp_skip (k6 _ _ ?_);refine wp_region_lit (aA (aB) ?_);simp only[zz];refine aA (aQ rfl rfl (aN (by omega) (by omega))) (aA (aF) (aG ?_));simp only[zz];simp only[Exit.inBlock,Exit.then];refine ⟨N - (k + 1),_,?_,rfl,?_,?_⟩
    · omega
    · simp only[zz,zv]
    ·
     simp only[zQ,zR,zD,zE];exact ⟨k + 1,rfl,m,h1,by omega,rfl⟩
  ·
   have hkN : k = N:=by omega
   rw [hkN,show ts.take N = ts from List.take_of_length_le (by rw [hT.len];exact Nat.le_refl _)] at h0;refine wp_exit (k2 _ _ ?_);refine aD fun K9 k9=>wp_region_lit (aA (aF) (aG (k9 _ _ ?_)));refine wp_ret ?_;simp only[zz];try simp only[Exit.inBlock,Exit.then,if_true]
   refine bS rfl rfl ?_;try simp only[zD,zE]
   exact ⟨_,rfl,m.ext,by rw [h0]⟩
theorem aaf {rim : List E3} {N cap : Nat} {A : Option Addr} {p : P3} (w : World) (hL : sR bJ 6 w A N rim) (hN : N ≤ 1000000000) : eI prog 40 [.slice A N cap,pt p] w (fun v _=>v = .bool (uB rim p)):=by
 refine ⟨afg,?_⟩;have m:=bR.refl w
 go_enter func40,ntmps40
 refine aD fun K1 k1=>wp_region_lit (eY m rfl ?_);clear m;intro g1 u m;refine aA (aF) (aG (k1 _ _ ?_));refine aD fun K2 k2=>aD fun K3 k3=>wp_region_lit (aA (aF) (aG (k3 _ _ ?_)));refine wp_block ?_;simp only[zz];try simp only[Nat.zero_add,Nat.reduceAdd,Nat.reduceMul,Int.reduceToNat]
 refine bM [5] [4,6,7,8,9,10,11,12,13,14,15,16,17,18,19,20,21,22,23,24,25,26,27] (fun n vs wl=>∃ (k : Nat),vs = [.int .i64 (k:Int)] ∧ bR w wl [bI g1 (wF p) 48] ∧ (uB (rim.take k) p = false) ∧ (k ≤ N) ∧ (n = N - k)) ?_ ?_
 ·
  apply Exists.intro;simp only[zQ,zR,zD,zE];exact ⟨0,rfl,m,rfl,Nat.zero_le _,rfl⟩
 ·
  intro n vs wr hI u;clear m;obtain ⟨k,rfl,m,h0,hk,hn⟩:=hI;simp only[zu,zF,zG];refine aD fun K4 k4=>aD fun K5 k5=>wp_region_lit (aA (aB) (aA (aB) (aA (bF rfl fL rfl) (aA (cJ rfl rfl) ?_))));simp only[zz];refine aG (k5 _ _ ?_);refine cO rfl (fun hc1=>?_) (fun hc1=>?_)
  ·
   obtain ⟨e,he,a,rfl,hrow⟩:=hL.get (i:=k) (by omega);refine wp_skip (k4 _ _ ?_);refine aD fun K6 k6=>wp_block (aD fun K7 k7=>mq m aO (by kernel_rfl) (aL (aB) (aL (aB) ?_)));simp only[zz];refine aL (aM fL cE rfl rfl (by omega) (by omega) (cA (Int.toNat_natCast _))) (aL (aH jH aC rfl rfl (by decide) (by decide) rfl) ?_);simp only[zz];refine ql rfl (fun u m=>((Qj (hrow.ext m.ext)).lies aI aC)) ?_;simp only[zz];refine ql rfl (fun u m=>((m.b 0 rfl).full aI aC)) ?_;simp only[zz];refine aL (cP rfl rfl) (aL (aB) (cY rfl (fun hb=>aB) (cY rfl (fun hb=>aB) ?_)));simp only[zz];refine cY rfl (fun hb=>aM fL cE (bH hb rfl) (bH hb rfl) (by omega) (by omega) (cA (Int.toNat_natCast _))) (cY rfl (fun hb=>aH jH aC (bH hb rfl) rfl (by decide) (by decide) rfl) ?_);simp only[zz];refine fP rfl (fun hb u m=>cF (bH hb rfl) ((Qk (hrow.ext m.ext)).lies aI aC)) (fP rfl (fun hb u m=>cF rfl ((m.b 0 rfl).full aI aC)) (cY rfl (fun hb=>cP (bH hb rfl) (bH hb rfl)) (aL (gU rfl rfl rfl) (dF ?_))));clear m;intro u m;refine k7 _ _ ?_;simp only[zz];refine eU rfl (fun hc2=>?_) (fun hc2=>?_)
   ·
    have hh : uB rim p = true:=rS he (afQ.symm.trans hc2);refine aD fun K8 k8=>wp_region_lit (aA (aF) (aG (k8 _ _ ?_)));refine wp_ret ?_;simp only[zz];try simp only[Exit.inBlock,Exit.then,if_true]
    refine bS rfl rfl ?_;try simp only[zD,zE]
    exact ⟨_,rfl,m.ext,by rw [hh]⟩
   ·
    have h1 : uB (rim.take (k + 1)) p = false:=by rw [aae he,h0];exact afQ.symm.trans hc2
    refine wp_skip (k6 _ _ ?_);refine wp_region_lit (aA (aB) ?_);simp only[zz];refine aA (aQ rfl rfl (aN (by omega) (by omega))) (aA (aF) (aG ?_));simp only[zz];simp only[Exit.inBlock,Exit.then];refine ⟨N - (k + 1),_,?_,rfl,?_,?_⟩
    · omega
    · simp only[zz,zv]
    ·
     simp only[zQ,zR,zD,zE];exact ⟨k + 1,rfl,m,h1,by omega,rfl⟩
  ·
   have hkN : k = N:=by omega
   rw [hkN,show rim.take N = rim from List.take_of_length_le (by rw [hL.len];exact Nat.le_refl _)] at h0;refine wp_exit (k2 _ _ ?_);refine aD fun K9 k9=>wp_region_lit (aA (aF) (aG (k9 _ _ ?_)));refine wp_ret ?_;simp only[zz];try simp only[Exit.inBlock,Exit.then,if_true]
   refine bS rfl rfl ?_;try simp only[zD,zE]
   exact ⟨_,rfl,m.ext,by rw [h0]⟩
theorem ad4 {ts : List T3} {N cap : Nat} {A : Option Addr} {p q : P3} (w : World) (hT : sR aX 9 w A N ts) (hN : N ≤ 1000000000) : eI prog 39 [.slice A N cap,pt p,pt q] w (fun v _=>v = .int .i64 (Ql ts p q)):=by
 refine ⟨aff,?_⟩;have m:=bR.refl w
 go_enter func39,ntmps39
 refine aD fun K1 k1=>wp_region_lit (eY m rfl ?_);clear m;intro g1 u m;simp only[zz];refine eY m rfl ?_;clear m;intro g2 u m;refine aA (aF) (aG (k1 _ _ ?_));refine aD fun K2 k2=>aD fun K3 k3=>wp_region_lit (aA (aF) (aG (k3 _ _ ?_)));refine wp_block ?_;simp only[zz];try simp only[Nat.zero_add,Nat.reduceAdd,Nat.reduceMul,Int.reduceToNat]
 refine bM [7] [6,8,9,10,11,12,13,14,15,16,17,18,19,20,21,22,23,24,25,26,27,28,29,30,31,32,33,34,35,36,37,38,39] (fun n vs wl=>∃ (k : Nat),vs = [.int .i64 (k:Int)] ∧ bR w wl [bI g2 (wF q) 48,bI g1 (wF p) 48] ∧ (bD (ts.take k) p q = none) ∧ (k ≤ N) ∧ (n = N - k)) ?_ ?_
 ·
  apply Exists.intro;simp only[zQ,zR,zD,zE];exact ⟨0,rfl,m,rfl,Nat.zero_le _,rfl⟩
 ·
  intro n vs wr hI u;clear m;obtain ⟨k,rfl,m,hb0,hk,hn⟩:=hI;simp only[zu,zF,zG];refine aD fun K4 k4=>aD fun K5 k5=>wp_region_lit (aA (aB) (aA (aB) (aA (bF rfl bZ rfl) (aA (cJ rfl rfl) ?_))));simp only[zz];refine aG (k5 _ _ ?_);refine cO rfl (fun hc1=>?_) (fun hc1=>?_)
  ·
   obtain ⟨t,ht,a,rfl,hrow⟩:=hT.get (i:=k) (by omega);refine wp_skip (k4 _ _ ?_);refine aD fun K6 k6=>wp_block (aD fun K7 k7=>wp_region_lit (aA (aF) (aG (k7 _ _ ?_))));refine wp_block (wp_loop_rounds 4 (cZ (aD fun K8 k8=>aD fun K9 k9=>wp_region_lit (aA (aB) (aA (bT (m:=0) (n:=3) rfl rfl (by decide)) (aG (k9 _ _ ?_)))))));refine cK rfl (wp_skip (k8 _ _ ?_));refine aD fun K10 k10=>wp_block (aD fun K11 k11=>?_);simp only[zz];refine mq m aO (by kernel_rfl) (aL (aB) (aL (aB) (aL (aB) ?_)));simp only[zz];refine aL (aM bZ aU rfl rfl (by omega) (by omega) (cA (Int.toNat_natCast _))) (aL (aH bL aC rfl rfl (by decide) (by decide) rfl) ?_);simp only[zz];refine ql rfl (fun u m=>((jP.cor (hrow.ext m.ext) (c:=0) (by omega)).lies aI aC)) ?_;simp only[zz];refine ql rfl (fun u m=>((m.b 1 rfl).full aI aC)) ?_;simp only[zz];refine aL (cP rfl rfl) (aL (aB) (cG rfl (fun hb=>aB) (cG rfl (fun hb=>aB) ?_)));simp only[zz];refine cG rfl (fun hb=>aB) (cG rfl (fun hb=>aQ (m:=0) (n:=1) (r:=1) (bH hb rfl) rfl (by decide)) (cG rfl (fun hb=>dK (m:=1) (n:=3) (r:=1) (bH hb rfl) rfl (by decide) (by decide)) ?_));simp only[zz];refine cG rfl (fun hb=>aM bZ aU (bH hb rfl) (bH hb rfl) (by omega) (by omega) (cA (Int.toNat_natCast _))) (cG rfl (fun hb=>aH bL aC (bH hb rfl) (bH hb rfl) (by decide) (by decide) rfl) ?_);simp only[zz];refine gK rfl (fun hb u m=>cF (bH hb rfl) ((jP.cor (hrow.ext m.ext) (c:=1) (by omega)).lies aI aC)) (gK rfl (fun hb u m=>cF rfl ((m.b 0 rfl).full aI aC)) (cG rfl (fun hb=>cP (bH hb rfl) (bH hb rfl)) (aL (dA rfl rfl rfl) (dF ?_))));clear m;intro u m;refine k11 _ _ ?_;simp only[zz];refine eU rfl (fun hc3=>?_) (fun hc3=>?_)
   ·
    have hf:=yB hb0 ht (aeR  (rR.1 hc3));refine aD fun K12 k12=>wp_region_lit (aA (aB) (aA (aF) (aG (k12 _ _ ?_))));refine wp_ret ?_;simp only[zz];try simp only[Exit.inBlock,Exit.then,if_true]
    refine bS rfl rfl ?_;try simp only[zD,zE]
    exact ⟨_,rfl,m.ext,by rw [hf]⟩
   ·
    have hq0:=yW hc3;refine wp_skip (k10 _ _ ?_);refine wp_region_lit (aA (aB) (aA (aQ (m:=0) (n:=1) (r:=1) rfl rfl (by decide)) (aA (aF) (aG (aT (aD fun K13 k13=>aD fun K14 k14=>wp_region_lit (aA (aB) ?_)))))));simp only[zz];refine aA (bT (m:=1) (n:=3) rfl rfl (by decide)) (aG (k14 _ _ ?_));refine cK rfl (wp_skip (k13 _ _ ?_));refine aD fun K15 k15=>wp_block (aD fun K16 k16=>?_);simp only[zz];refine mq m aO (by kernel_rfl) (aL (aB) (aL (aB) (aL (aB) ?_)));simp only[zz];refine aL (aM bZ aU rfl rfl (by omega) (by omega) (cA (Int.toNat_natCast _))) (aL (aH bL aC rfl rfl (by decide) (by decide) rfl) ?_);simp only[zz];refine ql rfl (fun u m=>((jP.cor (hrow.ext m.ext) (c:=1) (by omega)).lies aI aC)) ?_;simp only[zz];refine ql rfl (fun u m=>((m.b 1 rfl).full aI aC)) ?_;simp only[zz];refine aL (cP rfl rfl) (aL (aB) (cG rfl (fun hb=>aB) (cG rfl (fun hb=>aB) ?_)));simp only[zz];refine cG rfl (fun hb=>aB) (cG rfl (fun hb=>aQ (m:=1) (n:=1) (r:=2) (bH hb rfl) rfl (by decide)) (cG rfl (fun hb=>dK (m:=2) (n:=3) (r:=2) (bH hb rfl) rfl (by decide) (by decide)) ?_));simp only[zz];refine cG rfl (fun hb=>aM bZ aU (bH hb rfl) (bH hb rfl) (by omega) (by omega) (cA (Int.toNat_natCast _))) (cG rfl (fun hb=>aH bL aC (bH hb rfl) (bH hb rfl) (by decide) (by decide) rfl) ?_);simp only[zz];refine gK rfl (fun hb u m=>cF (bH hb rfl) ((jP.cor (hrow.ext m.ext) (c:=2) (by omega)).lies aI aC)) (gK rfl (fun hb u m=>cF rfl ((m.b 0 rfl).full aI aC)) (cG rfl (fun hb=>cP (bH hb rfl) (bH hb rfl)) (aL (dA rfl rfl rfl) (dF ?_))));clear m;intro u m;refine k16 _ _ ?_;simp only[zz];refine eU rfl (fun hc3=>?_) (fun hc3=>?_)
    ·
     have hf:=yB hb0 ht (aeS hq0 (rR.1 hc3));refine aD fun K17 k17=>wp_region_lit (aA (aB) (aA (aF) (aG (k17 _ _ ?_))));refine wp_ret ?_;simp only[zz];try simp only[Exit.inBlock,Exit.then,if_true]
     refine bS rfl rfl ?_;try simp only[zD,zE]
     exact ⟨_,rfl,m.ext,by rw [hf]⟩
    ·
     have hq1:=yW hc3;refine wp_skip (k15 _ _ ?_);refine wp_region_lit (aA (aB) (aA (aQ (m:=1) (n:=1) (r:=2) rfl rfl (by decide)) (aA (aF) (aG (aT (aD fun K18 k18=>aD fun K19 k19=>wp_region_lit (aA (aB) ?_)))))));simp only[zz];refine aA (bT (m:=2) (n:=3) rfl rfl (by decide)) (aG (k19 _ _ ?_));refine cK rfl (wp_skip (k18 _ _ ?_));refine aD fun K20 k20=>wp_block (aD fun K21 k21=>?_);simp only[zz];refine mq m aO (by kernel_rfl) (aL (aB) (aL (aB) (aL (aB) ?_)));simp only[zz];refine aL (aM bZ aU rfl rfl (by omega) (by omega) (cA (Int.toNat_natCast _))) (aL (aH bL aC rfl rfl (by decide) (by decide) rfl) ?_);simp only[zz];refine ql rfl (fun u m=>((jP.cor (hrow.ext m.ext) (c:=2) (by omega)).lies aI aC)) ?_;simp only[zz];refine ql rfl (fun u m=>((m.b 1 rfl).full aI aC)) ?_;simp only[zz];refine aL (cP rfl rfl) (aL (aB) (cG rfl (fun hb=>aB) (cG rfl (fun hb=>aB) ?_)));simp only[zz];refine cG rfl (fun hb=>aB) (cG rfl (fun hb=>aQ (m:=2) (n:=1) (r:=3) (bH hb rfl) rfl (by decide)) (cG rfl (fun hb=>dK (m:=3) (n:=3) (r:=0) (bH hb rfl) rfl (by decide) (by decide)) ?_));simp only[zz];refine cG rfl (fun hb=>aM bZ aU (bH hb rfl) (bH hb rfl) (by omega) (by omega) (cA (Int.toNat_natCast _))) (cG rfl (fun hb=>aH bL aC (bH hb rfl) (bH hb rfl) (by decide) (by decide) rfl) ?_);simp only[zz];refine gK rfl (fun hb u m=>cF (bH hb rfl) ((jP.cor (hrow.ext m.ext) (c:=0) (by omega)).lies aI aC)) (gK rfl (fun hb u m=>cF rfl ((m.b 0 rfl).full aI aC)) (cG rfl (fun hb=>cP (bH hb rfl) (bH hb rfl)) (aL (dA rfl rfl rfl) (dF ?_))));clear m;intro u m;refine k21 _ _ ?_;simp only[zz];refine eU rfl (fun hc3=>?_) (fun hc3=>?_)
     ·
      have hf:=yB hb0 ht (aeT hq0 hq1 (rR.1 hc3));refine aD fun K22 k22=>wp_region_lit (aA (aB) (aA (aF) (aG (k22 _ _ ?_))));refine wp_ret ?_;simp only[zz];try simp only[Exit.inBlock,Exit.then,if_true]
      refine bS rfl rfl ?_;try simp only[zD,zE]
      exact ⟨_,rfl,m.ext,by rw [hf]⟩
     ·
      have hq2:=yW hc3;refine wp_skip (k20 _ _ ?_);refine wp_region_lit (aA (aB) (aA (aQ (m:=2) (n:=1) (r:=3) rfl rfl (by decide)) (aA (aF) (aG (aT (aD fun K23 k23=>aD fun K24 k24=>wp_region_lit (aA (aB) ?_)))))));simp only[zz];refine aA (fT (m:=3) (n:=3) rfl rfl (by decide)) (aG (k24 _ _ ?_));refine jM rfl (wp_exit (k6 _ _ ?_));refine wp_region_lit (aA (aB) ?_);simp only[zz];refine aA (aQ rfl rfl (aN (by omega) (by omega))) (aA (aF) (aG ?_));simp only[zz];simp only[Exit.inBlock,Exit.then];refine ⟨N - (k + 1),_,?_,rfl,?_,?_⟩
      · omega
      · simp only[zz,zv]
      ·
       simp only[zQ,zR,zD,zE];exact ⟨k + 1,rfl,m,(mZ ht hb0).trans (aeU hq0 hq1 hq2),by omega,rfl⟩
  ·
   have hkN : k = N:=by omega
   rw [hkN,show ts.take N = ts from List.take_of_length_le (by rw [hT.len];exact Nat.le_refl _)] at hb0;refine wp_exit (k2 _ _ ?_);refine aD fun K25 k25=>wp_region_lit (aA (aF) (aG (k25 _ _ ?_)));refine wp_ret ?_;simp only[zz];try simp only[Exit.inBlock,Exit.then,if_true]
   refine bS rfl rfl ?_;try simp only[zD,zE]
   exact ⟨_,rfl,m.ext,by rw [Mz hb0]⟩
end Go.Proofs.YtfohfflkhpfjeaaGreatDoor
namespace Go.Lith
open Go.RowKit
section
variable {P : Program} {ds : List Deferred} {l : List Value}
theorem Si {c : Code} {Q : Exit → Act → World → Prop} {w : World} (ts ss : List Nat) (J : List Value → World → Prop)
 (hc : c.wp P (Exit.then (fun a' w'=>∃ l',a' = Fr l' ds ∧ oL (fK l ts (ts.map (l'.getD · undef))) ss (l'.getD · undef) = l' ∧ J (ts.map (l'.getD · undef)) w') Q) (Fr l ds) w)
 (hn : ∀ vs u,J vs u → ∀ g : Nat → Value,Q .normal (Fr (oL (fK l ts vs) ss g) ds) u) : c.wp P Q (Fr l ds) w:=by
 refine Code.wp_mono ?_ hc;intro e a w' h;cases e with
 | normal =>
  obtain ⟨l',rfl,he,hJ⟩:=h;rw [← he];exact hn _ _ hJ _
 | exit id=>exact h
 | goto id=>exact h
 | ret=>exact h
 | panic ch=>exact h
 | outgrown=>exact h
theorem Ka {c : Code} {Q : Exit → Act → World → Prop} {w0 w : World} {is : List It} (m : bR w0 w is) (ts ss : List Nat) (J : List Value → Prop)
 (hc : c.wp P (Exit.then (fun a' w'=>∃ l',a' = Fr l' ds ∧ oL (fK l ts (ts.map (l'.getD · undef))) ss (l'.getD · undef) = l' ∧ bR w0 w' is ∧ J (ts.map (l'.getD · undef))) Q) (Fr l ds) w)
 (hn : ∀ vs u,bR w0 u is → J vs → ∀ g : Nat → Value,Q .normal (Fr (oL (fK l ts vs) ss g) ds) u) : c.wp P Q (Fr l ds) w :=
 Si ts ss (fun vs w'=>bR w0 w' is ∧ J vs) hc fun vs u h g=>hn vs u h.1 h.2 g
theorem sD {c : Code} {Q : Exit → Act → World → Prop} {w0 w : World} {is : List It} (m : bR w0 w is) (k : Nat) (ts ss : List Nat) (J : List Value → It → Prop)
 (hc : c.wp P (Exit.then (fun a' w'=>∃ l' i,a' = Fr l' ds ∧ oL (fK l ts (ts.map (l'.getD · undef))) ss (l'.getD · undef) = l' ∧ bR w0 w' (is.set k i) ∧ J (ts.map (l'.getD · undef)) i) Q) (Fr l ds) w)
 (hn : ∀ vs i u,bR w0 u (is.set k i) → J vs i → ∀ g : Nat → Value,Q .normal (Fr (oL (fK l ts vs) ss g) ds) u) : c.wp P Q (Fr l ds) w:=by
 refine Si ts ss (fun vs w'=>∃ i,bR w0 w' (is.set k i) ∧ J vs i) (Code.wp_mono ?_ hc) fun vs u h g=>?_
 · intro e a w' h
   cases e with
   | normal=>obtain ⟨l',i,h1,h2,h3,h4⟩:=h;exact ⟨l',h1,h2,i,h3,h4⟩
   | exit id=>exact h
   | goto id=>exact h
   | ret=>exact h
   | panic ch=>exact h
   | outgrown=>exact h
 · obtain ⟨i,h1,h2⟩:=h
   exact hn vs i u h1 h2 g
end
end Go.Lith
namespace Go.Proofs.YtfohfflkhpfjeaaGreatDoor
open Go.Proofs.Tryz
open Go.RowKit Go.Lith
set_option maxRecDepth 100000
attribute [local irreducible] wpList wpQuiet dC cS cR Code.wp
/-! ### How often a triangle is hit -/
end Go.Proofs.YtfohfflkhpfjeaaGreatDoor
namespace Go.Proofs.YtfohfflkhpfjeaaGreatDoor
open Go.Proofs.Tryz
open Go.RowKit Go.Lith
set_option maxRecDepth 100000
attribute [local irreducible] wpList wpQuiet dC cS cR Code.wp
theorem acH {p : P3} : sM prog 129 [pt p] (.int .i64 p.x):=by
 intro w;refine ⟨Ze,?_⟩;have m:=gG.refl w
 go_enter func129,ntmps129
 refine aD fun K1 k1=>wp_region_lit (rP m rfl ?_);clear m;intro g1 u m;refine aA (aF) (aG (k1 _ _ ?_));refine aD fun K2 k2=>wp_region_lit (aA (aK (c:=0) zY rfl bA rfl rfl) ?_);simp only[zz];refine aJ rfl ((m.b 0 rfl).lies1 bQ rfl) ?_;simp only[zz];refine aA (aF) (aG (k2 _ _ ?_));refine wp_ret ?_;simp only[zz];try simp only[Exit.inBlock,Exit.then,if_true]
 refine bS rfl rfl ?_;try simp only[zD,zE]
 exact ⟨_,rfl,m.ext,rfl⟩
theorem acI {p : P3} : sM prog 130 [pt p] (.int .i64 p.y):=by
 intro w;refine ⟨Zf,?_⟩;have m:=gG.refl w
 go_enter func130,ntmps130
 refine aD fun K1 k1=>wp_region_lit (rP m rfl ?_);clear m;intro g1 u m;refine aA (aF) (aG (k1 _ _ ?_));refine aD fun K2 k2=>wp_region_lit (aA (aK (c:=0) zY rfl bA rfl rfl) ?_);simp only[zz];refine aJ rfl ((m.b 0 rfl).lies1 bQ rfl) ?_;simp only[zz];refine aA (aF) (aG (k2 _ _ ?_));refine wp_ret ?_;simp only[zz];try simp only[Exit.inBlock,Exit.then,if_true]
 refine bS rfl rfl ?_;try simp only[zD,zE]
 exact ⟨_,rfl,m.ext,rfl⟩
theorem acJ {p : P3} : sM prog 131 [pt p] (.int .i64 p.z):=by
 intro w;refine ⟨Zg,?_⟩;have m:=gG.refl w
 go_enter func131,ntmps131
 refine aD fun K1 k1=>wp_region_lit (rP m rfl ?_);clear m;intro g1 u m;refine aA (aF) (aG (k1 _ _ ?_));refine aD fun K2 k2=>wp_region_lit (aA (aK (c:=0) zY rfl bA rfl rfl) ?_);simp only[zz];refine aJ rfl ((m.b 0 rfl).lies1 bQ rfl) ?_;simp only[zz];refine aA (aF) (aG (k2 _ _ ?_));refine wp_ret ?_;simp only[zz];try simp only[Exit.inBlock,Exit.then,if_true]
 refine bS rfl rfl ?_;try simp only[zD,zE]
 exact ⟨_,rfl,m.ext,rfl⟩
theorem abP  : sM prog 111 [] (.agg #[.func (.func 129) #[] #[],.func (.func 130) #[] #[],.func (.func 131) #[] #[]]):=by
 intro w;refine ⟨Zd,?_⟩;have m:=gG.refl w
 go_enter func111,ntmps111
 refine aD fun K1 k1=>wp_region_lit (abu m Dr rfl ?_);clear m;intro g1 u m;refine aG (k1 _ _ ?_);refine aD fun K2 k2=>wp_region_lit (aA (pH rfl rfl rfl) ?_);simp only[zz];refine Ym m 0 rfl rfl rfl uW (dX rfl) rfl ?_;clear m;intro u m;simp only[zy,zx,bG,zF,zG,Nat.reduceAdd] at m;refine aG (k2 _ _ ?_);refine wp_ret ?_;try simp only[Exit.inBlock,Exit.then,if_true]
 refine bS rfl ⟨_,rfl,((m.b 0 rfl).full Rx uW)⟩ ?_;try simp only[zD,zE]
 exact ⟨_,rfl,m.ext,rfl⟩
theorem vC {p q : P3} : sM prog 73 [pt p,pt q] (.bool (decide (p.Lt q))):=by
 intro w;refine ⟨afv,?_⟩;have m:=gG.refl w
 go_enter func73,ntmps73
 refine aD fun K1 k1=>wp_region_lit (rP m rfl ?_);clear m;intro g1 u m;simp only[zz];refine rP m rfl ?_;clear m;intro g2 u m;refine aA (aF) (aG (k1 _ _ ?_));refine aD fun K2 k2=>aD fun K3 k3=>wp_region_lit ?_;simp only[zz];refine Jh m rfl rfl (abP) ?_;clear m;intro u m;refine aA (aB) (aG (k3 _ _ ?_));refine wp_block (wp_loop_rounds 4 (cZ (aD fun K4 k4=>wp_region_lit (aA (bT (m:=0) (n:=3) rfl rfl (by decide)) (aG (k4 _ _ ?_))))));refine aD fun K5 k5=>cK rfl (wp_skip (k5 _ _ ?_));refine aD fun K6 k6=>wp_block (aD fun K7 k7=>wp_region_lit (aA (vT rfl rfl) ?_));simp only[zz];refine aA (aF) (aG (k7 _ _ ?_));refine aD fun K8 k8=>?_;simp only[zz];refine Gmq m aO (by kernel_rfl) (aL (aB) ?_);simp only[zz];refine Gql rfl (fun u m=>((m.b 1 rfl).full aI aC)) ?_;simp only[zz];refine Lj rfl rfl (acH) (aL (aB) ?_);simp only[zz];refine Gql rfl (fun u m=>((m.b 0 rfl).full aI aC)) ?_;simp only[zz];refine Lj rfl rfl (acH) (aL (aF) (aL (aF) (dF ?_)));clear m;intro u m;refine k8 _ _ ?_;refine aD fun K9 k9=>wp_region_lit (aA (aB) ?_);simp only[zz];refine aA (aB) (aA (nS rfl rfl) (aG (k9 _ _ ?_)));simp only[zz];refine cO rfl (fun hc2=>?_) (fun hc2=>?_)
 ·
  refine aD fun K10 k10=>wp_region_lit (aA (aB) (aA (aB) (aA (cJ rfl rfl) (aA (aF) ?_))));simp only[zz];refine aG (k10 _ _ ?_);refine wp_ret ?_;try simp only[Exit.inBlock,Exit.then,if_true]
  refine bS rfl rfl ?_;try simp only[zD,zE]
  exact ⟨_,rfl,m.ext,by simp only[P3.lt_x hc2]⟩
 ·
  have ex : p.x = q.x:=by omega
  refine wp_skip (k6 _ _ ?_);refine wp_region_lit (aA (aQ (m:=0) (n:=1) (r:=1) rfl rfl (by decide)) (aA (aB) (aG (aT (aD fun K11 k11=>wp_region_lit (aA (bT (m:=1) (n:=3) rfl rfl (by decide)) (aG (k11 _ _ ?_))))))));refine aD fun K12 k12=>cK rfl (wp_skip (k12 _ _ ?_));refine aD fun K13 k13=>wp_block (aD fun K14 k14=>wp_region_lit (aA (vU rfl rfl) ?_));simp only[zz];refine aA (aF) (aG (k14 _ _ ?_));refine aD fun K15 k15=>?_;simp only[zz];refine Gmq m aO (by kernel_rfl) (aL (aB) ?_);simp only[zz];refine Gql rfl (fun u m=>((m.b 1 rfl).full aI aC)) ?_;simp only[zz];refine Lj rfl rfl (acI) (aL (aB) ?_);simp only[zz];refine Gql rfl (fun u m=>((m.b 0 rfl).full aI aC)) ?_;simp only[zz];refine Lj rfl rfl (acI) (aL (aF) (aL (aF) (dF ?_)));clear m;intro u m;refine k15 _ _ ?_;refine aD fun K16 k16=>wp_region_lit (aA (aB) ?_);simp only[zz];refine aA (aB) (aA (nS rfl rfl) (aG (k16 _ _ ?_)));simp only[zz];refine cO rfl (fun hc2=>?_) (fun hc2=>?_)
  ·
   refine aD fun K17 k17=>wp_region_lit (aA (aB) (aA (aB) (aA (cJ rfl rfl) (aA (aF) ?_))));simp only[zz];refine aG (k17 _ _ ?_);refine wp_ret ?_;try simp only[Exit.inBlock,Exit.then,if_true]
   refine bS rfl rfl ?_;try simp only[zD,zE]
   exact ⟨_,rfl,m.ext,by simp only[P3.lt_y ex hc2]⟩
  ·
   have ey : p.y = q.y:=by omega
   refine wp_skip (k13 _ _ ?_);refine wp_region_lit (aA (aQ (m:=1) (n:=1) (r:=2) rfl rfl (by decide)) (aA (aB) (aG (aT (aD fun K18 k18=>wp_region_lit (aA (bT (m:=2) (n:=3) rfl rfl (by decide)) (aG (k18 _ _ ?_))))))));refine aD fun K19 k19=>cK rfl (wp_skip (k19 _ _ ?_));refine aD fun K20 k20=>wp_block (aD fun K21 k21=>wp_region_lit (aA (vV rfl rfl) ?_));simp only[zz];refine aA (aF) (aG (k21 _ _ ?_));refine aD fun K22 k22=>?_;simp only[zz];refine Gmq m aO (by kernel_rfl) (aL (aB) ?_);simp only[zz];refine Gql rfl (fun u m=>((m.b 1 rfl).full aI aC)) ?_;simp only[zz];refine Lj rfl rfl (acJ) (aL (aB) ?_);simp only[zz];refine Gql rfl (fun u m=>((m.b 0 rfl).full aI aC)) ?_;simp only[zz];refine Lj rfl rfl (acJ) (aL (aF) (aL (aF) (dF ?_)));clear m;intro u m;refine k22 _ _ ?_;refine aD fun K23 k23=>wp_region_lit (aA (aB) ?_);simp only[zz];refine aA (aB) (aA (nS rfl rfl) (aG (k23 _ _ ?_)));simp only[zz];refine cO rfl (fun hc2=>?_) (fun hc2=>?_)
   ·
    refine aD fun K24 k24=>wp_region_lit (aA (aB) (aA (aB) (aA (cJ rfl rfl) (aA (aF) ?_))));simp only[zz];refine aG (k24 _ _ ?_);refine wp_ret ?_;try simp only[Exit.inBlock,Exit.then,if_true]
    refine bS rfl rfl ?_;try simp only[zD,zE]
    exact ⟨_,rfl,m.ext,by simp only[P3.lt_z ex ey]⟩
   ·
    have ez : p.z = q.z:=by omega
    refine wp_skip (k20 _ _ ?_);refine wp_region_lit (aA (aQ (m:=2) (n:=1) (r:=3) rfl rfl (by decide)) (aA (aB) (aG (aT (aD fun K25 k25=>wp_region_lit (aA (fT (m:=3) (n:=3) rfl rfl (by decide)) (aG (k25 _ _ ?_))))))));refine aD fun K26 k26=>jM rfl (wp_exit (k2 _ _ ?_));refine aD fun K27 k27=>wp_region_lit (aA (aF) ?_);simp only[zz];refine aG (k27 _ _ ?_);refine wp_ret ?_;try simp only[Exit.inBlock,Exit.then,if_true]
    refine bS rfl rfl ?_;try simp only[zD,zE]
    exact ⟨_,rfl,m.ext,by rw [decide_eq_false (fun h=>by unfold P3.Lt at h;omega)]⟩
theorem Kb {p q : P3} : sM prog 108 [pt p,pt q] (.int .i64 (xF p q)):=by
 intro w;refine ⟨adt,?_⟩;have m:=gG.refl w
 go_enter func108,ntmps108
 refine aD fun K1 k1=>wp_region_lit (rP m rfl ?_);clear m;intro g1 u m;simp only[zz];refine rP m rfl ?_;clear m;intro g2 u m;refine aA (aF) (aG (k1 _ _ ?_));refine aD fun K2 k2=>wp_block (aD fun K3 k3=>wp_region_lit ?_);simp only[zz];refine aJ rfl ((m.b 1 rfl).full aI aC) ?_;simp only[zz];refine aJ rfl ((m.b 0 rfl).full aI aC) ?_;simp only[zz];refine Jh m rfl rfl (vC) ?_;clear m;intro u m;refine aA (aF) (aG (k3 _ _ ?_));simp only[zz];refine cO rfl (fun hc1=>?_) (fun hc1=>?_)
 ·
  refine aD fun K4 k4=>wp_region_lit (aA (aF) (aG (k4 _ _ ?_)));refine wp_ret ?_;simp only[zz];try simp only[Exit.inBlock,Exit.then,if_true]
  refine bS rfl rfl ?_;try simp only[zD,zE]
  exact ⟨_,rfl,m.ext,by simp [xF,hc1]⟩
 ·
  refine aD fun K5 k5=>wp_region_lit (aJ rfl ((m.b 0 rfl).full aI aC) ?_);simp only[zz];refine aJ rfl ((m.b 1 rfl).full aI aC) ?_;simp only[zz];refine Jh m rfl rfl (vC) ?_;clear m;intro u m;refine aA (aF) (aG (k5 _ _ ?_));simp only[zz];refine cO rfl (fun hc2=>?_) (fun hc2=>?_)
  ·
   refine aD fun K6 k6=>wp_region_lit (aA (aF) (aG (k6 _ _ ?_)));refine wp_ret ?_;simp only[zz];try simp only[Exit.inBlock,Exit.then,if_true]
   refine bS rfl rfl ?_;try simp only[zD,zE]
   exact ⟨_,rfl,m.ext,by simp [xF,hc1,hc2]⟩
  ·
   refine wp_skip (k2 _ _ ?_);refine aD fun K7 k7=>wp_region_lit (aA (aF) (aG (k7 _ _ ?_)));refine wp_ret ?_;simp only[zz];try simp only[Exit.inBlock,Exit.then,if_true]
   refine bS rfl rfl ?_;try simp only[zD,zE]
   exact ⟨_,rfl,m.ext,by simp [xF,hc1,hc2]⟩
end Go.Proofs.YtfohfflkhpfjeaaGreatDoor
namespace Go.Lith
open Go.RowKit
def acK (P : Program) (f : FuncId) (args : List Value) (w : World) (v : Value) : Prop:=bE P f ∧ Calls P f args.toArray w fun e w'=>∃ u,e = .returned u ∧ GX w w' ∧ u = v
section
variable {P : Program} {ds : List Deferred} {l : List Value} {x y : Operand} {T ty : TypeId}
variable {ops : Array Oper} {Q : Exit → Act → World → Prop} {rest : List Oper} {d : Nat} {pos : String} {after : Array Edge} {w w0 : World} {is : List It} {v : Value}
theorem aag {E : TypeId} {z : Value} (m : gG w0 w is) (hu : P.underlying T = some (.slice E)) (hi : (P.info? E).map (fun i=>(i.size,i.zero)) = some (1,some z)) (hz : z.cells = #[z]) {v v2 : Value} (hx : ev l x = v) (hv : v.cells = #[v]) (hy : ev l y = v2) (hv2 : v2.cells = #[v2])
 (h : ∀ g u,gG w0 u (bI g [v,v2] E :: is) → wpList P ops Q rest (Fr (l.set d (.slice (some ⟨g,0,none⟩) 2 2)) ds) u) :
 wpList P ops Q (Oper.mk (some d) (.buildSlice T 2 #[(0,x),(1,y)]) ty pos after none :: rest) (Fr l ds) w:=by
 cases hq : P.info? E with
 | none=>rw [hq] at hi;cases hi
 | some i =>
  rw [hq] at hi;simp only[Option.map_some,Option.some.injEq,Prod.mk.injEq] at hi;obtain ⟨e1,e2⟩:=hi;exact jU (w':=w.alloc (.cells #[v,v2] E)) (v:=.slice (some ⟨w.heap.size,0,none⟩) 2 2) (fun o ho _=>by simp [execOp,ho,Instr.buildSlice,run_underlying hu,sizeOf,typeInfo,zeroValue,hq,e1,e2,hz,cL,hx,hv,hy,hv2,Instr.fill,newRow,newObj,Sem.run,xB]) (h _ _ (m.go (m.mem.newB ((dD.refl w).alloc _) (Nat.le_refl _) (gQ w [v,v2] E)) (Nat.le_refl _)))
theorem abQ {f : FuncId} {fo : Operand} {xs : Array Operand} {args : List Value} {first cap : Array Value} {a0 : Array TypeId} (m : gG w0 w is) (hf : ev l fo = .func (.func f) first cap) (hxs : first.toList ++ xs.toList.map (ev l) ++ cap.toList = args) (hc : acK P f args w v)
 (h : ∀ u,gG w0 u is → wpList P ops Q rest (Fr (l.set d v) ds) u) : wpList P ops Q (Oper.mk (some d) (.call { callee:=.value fo,args:=xs,argTypes:=a0 }) ty pos after none :: rest) (Fr l ds) w:=by
 refine wpList_plain rfl fun K hK=>?_;unfold Oper.wp;rw [fY,kD hc.1 hf hxs _ rfl];refine hc.2.mono ?_;rintro e w' ⟨u,rfl,hE,rfl⟩;show K ((Fr l ds).put (some d) u) w'
 rw [iJ];exact hK _ _ (h w' (m.ext' hE))
end
end Go.Lith
namespace Go.Proofs
open Go.Shelf
def Tryz.sort127_ren : Go.Shelf.Ren:=⟨fun | 6=>127 | 15=>140 | 14=>139 | 28=>156 | 29=>157 | 20=>148 | 21=>149 | 22=>150 | 23=>151 | 24=>152 | 25=>153 | 26=>154 | 27=>155 | 46=>169 | 47=>170 | 48=>171 | 49=>172 | 50=>173 | 57=>179 | n=>n,fun | 22=>139 | 24=>143 | 25=>146 | 3=>3 | 39=>113 | 0=>0 | 53=>205 | 55=>126 | 4=>4 | 46=>199 | 45=>198 | 50=>61 | 5=>5 | 9=>9 | 66=>216 | 70=>220 | 76=>225 | 77=>226 | n=>n,fun | n=>n⟩
theorem Tryz.sort127 : Go.Proofs.SlLaysF0.n6 Tryz.prog Tryz.sort127_ren:={
 mixed:=by kernel_rfl
 f6:=⟨Tryz.f127.name,by decide,Tryz.func127.trans (congrArg some (by kernel_rfl))⟩
 f14:=⟨Tryz.f139.name,by decide,Tryz.func139.trans (congrArg some (by kernel_rfl))⟩
 f15:=Tryz.func140.trans (congrArg some (by kernel_rfl))
 f20:=⟨Tryz.f148.name,by decide,Tryz.func148.trans (congrArg some (by kernel_rfl))⟩
 f21:=⟨Tryz.f149.name,by decide,Tryz.func149.trans (congrArg some (by kernel_rfl))⟩
 f22:=⟨Tryz.f150.name,by decide,Tryz.func150.trans (congrArg some (by kernel_rfl))⟩
 f23:=⟨Tryz.f151.name,by decide,Tryz.func151.trans (congrArg some (by kernel_rfl))⟩
 f24:=⟨Tryz.f152.name,by decide,Tryz.func152.trans (congrArg some (by kernel_rfl))⟩
 f25:=⟨Tryz.f153.name,by decide,Tryz.func153.trans (congrArg some (by kernel_rfl))⟩
 f26:=⟨Tryz.f154.name,by decide,Tryz.func154.trans (congrArg some (by kernel_rfl))⟩
 f27:=⟨Tryz.f155.name,by decide,Tryz.func155.trans (congrArg some (by kernel_rfl))⟩
 f28:=Tryz.func156.trans (congrArg some (by kernel_rfl))
 f29:=Tryz.func157.trans (congrArg some (by kernel_rfl))
 f46:=⟨Tryz.f169.name,by decide,Tryz.func169.trans (congrArg some (by kernel_rfl))⟩
 f47:=Tryz.func170.trans (congrArg some (by kernel_rfl))
 f48:=Tryz.func171.trans (congrArg some (by kernel_rfl))
 f49:=⟨Tryz.f172.name,by decide,Tryz.func172.trans (congrArg some (by kernel_rfl))⟩
 f50:=⟨Tryz.f173.name,by decide,Tryz.func173.trans (congrArg some (by kernel_rfl))⟩
 f57:=⟨Tryz.f179.name,by decide,Tryz.func179.trans (congrArg some (by kernel_rfl))⟩
 t0:=Tryz.underlying0
 a0:=Tryz.isAgg0
 z0:=Tryz.sizeOf0
 v0:=Tryz.zeroValue0
 t3:=Tryz.underlying3
 a3:=Tryz.isAgg3
 z3:=Tryz.sizeOf3
 v3:=Tryz.zeroValue3
 t4:=Tryz.underlying4
 a4:=Tryz.isAgg4
 z4:=Tryz.sizeOf4
 v4:=Tryz.zeroValue4
 t5:=Tryz.underlying5
 a5:=Tryz.isAgg5
 z5:=Tryz.sizeOf5
 v5:=Tryz.zeroValue5
 t9:=Tryz.underlying9
 a9:=Tryz.isAgg9
 z9:=Tryz.sizeOf9
 v9:=Tryz.zeroValue9
 t22:=Tryz.underlying139
 a22:=Tryz.isAgg139
 z22:=Tryz.sizeOf139
 v22:=Tryz.zeroValue139
 t25:=Tryz.underlying146
 a25:=Tryz.isAgg146
 z25:=Tryz.sizeOf146
 v25:=Tryz.zeroValue146
 t39:=Tryz.underlying113
 a39:=Tryz.isAgg113
 z39:=Tryz.sizeOf113
 v39:=Tryz.zeroValue113
 t45:=Tryz.underlying198
 a45:=Tryz.isAgg198
 z45:=Tryz.sizeOf198
 v45:=Tryz.zeroValue198
 t46:=Tryz.underlying199
 a46:=Tryz.isAgg199
 z46:=Tryz.sizeOf199
 v46:=Tryz.zeroValue199
 t50:=Tryz.underlying61
 a50:=Tryz.isAgg61
 z50:=Tryz.sizeOf61
 v50:=Tryz.zeroValue61
 t53:=Tryz.underlying205
 a53:=Tryz.isAgg205
 z53:=Tryz.sizeOf205
 v53:=Tryz.zeroValue205
 t55:=Tryz.underlying126
 a55:=Tryz.isAgg126
 z55:=Tryz.sizeOf126
 v55:=Tryz.zeroValue126
 t66:=Tryz.underlying216
 a66:=Tryz.isAgg216
 z66:=Tryz.sizeOf216
 v66:=Tryz.zeroValue216
 t70:=Tryz.underlying220
 a70:=Tryz.isAgg220
 z70:=Tryz.sizeOf220
 v70:=Tryz.zeroValue220
 t76:=Tryz.underlying225
 a76:=Tryz.isAgg225
 z76:=Tryz.sizeOf225
 v76:=Tryz.zeroValue225
 t77:=Tryz.underlying226
 a77:=Tryz.isAgg226
 z77:=Tryz.sizeOf226
 v77:=Tryz.zeroValue226 }
def Tryz.sort128_ren : Go.Shelf.Ren:=⟨fun | 6=>128 | 15=>140 | 14=>141 | 28=>156 | 29=>157 | 20=>158 | 21=>159 | 22=>160 | 23=>161 | 24=>162 | 25=>163 | 26=>164 | 27=>165 | 46=>174 | 47=>170 | 48=>171 | 49=>175 | 50=>176 | 57=>180 | n=>n,fun | 22=>98 | 24=>48 | 25=>145 | 3=>3 | 39=>113 | 0=>0 | 53=>205 | 55=>126 | 4=>4 | 46=>199 | 45=>198 | 50=>61 | 5=>5 | 9=>9 | 66=>216 | 70=>220 | 76=>225 | 77=>226 | n=>n,fun | n=>n⟩
theorem Tryz.sort128 : Go.Proofs.SlLaysF0.n6 Tryz.prog Tryz.sort128_ren:={
 mixed:=by kernel_rfl
 f6:=⟨Tryz.f128.name,by decide,Tryz.func128.trans (congrArg some (by kernel_rfl))⟩
 f14:=⟨Tryz.f141.name,by decide,Tryz.func141.trans (congrArg some (by kernel_rfl))⟩
 f15:=Tryz.func140.trans (congrArg some (by kernel_rfl))
 f20:=⟨Tryz.f158.name,by decide,Tryz.func158.trans (congrArg some (by kernel_rfl))⟩
 f21:=⟨Tryz.f159.name,by decide,Tryz.func159.trans (congrArg some (by kernel_rfl))⟩
 f22:=⟨Tryz.f160.name,by decide,Tryz.func160.trans (congrArg some (by kernel_rfl))⟩
 f23:=⟨Tryz.f161.name,by decide,Tryz.func161.trans (congrArg some (by kernel_rfl))⟩
 f24:=⟨Tryz.f162.name,by decide,Tryz.func162.trans (congrArg some (by kernel_rfl))⟩
 f25:=⟨Tryz.f163.name,by decide,Tryz.func163.trans (congrArg some (by kernel_rfl))⟩
 f26:=⟨Tryz.f164.name,by decide,Tryz.func164.trans (congrArg some (by kernel_rfl))⟩
 f27:=⟨Tryz.f165.name,by decide,Tryz.func165.trans (congrArg some (by kernel_rfl))⟩
 f28:=Tryz.func156.trans (congrArg some (by kernel_rfl))
 f29:=Tryz.func157.trans (congrArg some (by kernel_rfl))
 f46:=⟨Tryz.f174.name,by decide,Tryz.func174.trans (congrArg some (by kernel_rfl))⟩
 f47:=Tryz.func170.trans (congrArg some (by kernel_rfl))
 f48:=Tryz.func171.trans (congrArg some (by kernel_rfl))
 f49:=⟨Tryz.f175.name,by decide,Tryz.func175.trans (congrArg some (by kernel_rfl))⟩
 f50:=⟨Tryz.f176.name,by decide,Tryz.func176.trans (congrArg some (by kernel_rfl))⟩
 f57:=⟨Tryz.f180.name,by decide,Tryz.func180.trans (congrArg some (by kernel_rfl))⟩
 t0:=Tryz.underlying0
 a0:=Tryz.isAgg0
 z0:=Tryz.sizeOf0
 v0:=Tryz.zeroValue0
 t3:=Tryz.underlying3
 a3:=Tryz.isAgg3
 z3:=Tryz.sizeOf3
 v3:=Tryz.zeroValue3
 t4:=Tryz.underlying4
 a4:=Tryz.isAgg4
 z4:=Tryz.sizeOf4
 v4:=Tryz.zeroValue4
 t5:=Tryz.underlying5
 a5:=Tryz.isAgg5
 z5:=Tryz.sizeOf5
 v5:=Tryz.zeroValue5
 t9:=Tryz.underlying9
 a9:=Tryz.isAgg9
 z9:=Tryz.sizeOf9
 v9:=Tryz.zeroValue9
 t22:=Tryz.underlying98
 a22:=Tryz.isAgg98
 z22:=Tryz.sizeOf98
 v22:=Tryz.zeroValue98
 t25:=Tryz.underlying145
 a25:=Tryz.isAgg145
 z25:=Tryz.sizeOf145
 v25:=Tryz.zeroValue145
 t39:=Tryz.underlying113
 a39:=Tryz.isAgg113
 z39:=Tryz.sizeOf113
 v39:=Tryz.zeroValue113
 t45:=Tryz.underlying198
 a45:=Tryz.isAgg198
 z45:=Tryz.sizeOf198
 v45:=Tryz.zeroValue198
 t46:=Tryz.underlying199
 a46:=Tryz.isAgg199
 z46:=Tryz.sizeOf199
 v46:=Tryz.zeroValue199
 t50:=Tryz.underlying61
 a50:=Tryz.isAgg61
 z50:=Tryz.sizeOf61
 v50:=Tryz.zeroValue61
 t53:=Tryz.underlying205
 a53:=Tryz.isAgg205
 z53:=Tryz.sizeOf205
 v53:=Tryz.zeroValue205
 t55:=Tryz.underlying126
 a55:=Tryz.isAgg126
 z55:=Tryz.sizeOf126
 v55:=Tryz.zeroValue126
 t66:=Tryz.underlying216
 a66:=Tryz.isAgg216
 z66:=Tryz.sizeOf216
 v66:=Tryz.zeroValue216
 t70:=Tryz.underlying220
 a70:=Tryz.isAgg220
 z70:=Tryz.sizeOf220
 v70:=Tryz.zeroValue220
 t76:=Tryz.underlying225
 a76:=Tryz.isAgg225
 z76:=Tryz.sizeOf225
 v76:=Tryz.zeroValue225
 t77:=Tryz.underlying226
 a77:=Tryz.isAgg226
 z77:=Tryz.sizeOf226
 v77:=Tryz.zeroValue226 }
end Go.Proofs
namespace Go.Proofs.YtfohfflkhpfjeaaGreatDoor
open Go.Proofs.Tryz
open Go.RowKit Go.Lith
set_option maxRecDepth 100000
attribute [local irreducible] wpList wpQuiet dC cS cR Code.wp
theorem fW : pV prog 48 pt:=by
 refine pV.agg (cs:=fun p=>#[.int .i64 p.x,.int .i64 p.y,.int .i64 p.z]) (fun _=>rfl) cN (fun e p=>?_) (fun p q=>?_) (fun p=>?_)
 ·
  refine qB.struct (d:=9999) cN fun f hf=>?_;simp only[List.mem_cons,List.not_mem_nil,or_false] at hf;rcases hf with rfl | rfl | rfl <;> exact ⟨_,cX bQ rfl,qB.int (d:=9998) kJ⟩
 · exact (pU 9998).iff ⟨fun h=>P3.eq h.1 h.2.1 h.2.2,fun h=>by subst h;exact ⟨rfl,rfl,rfl⟩⟩
 · simp [pt,Instr.sameBits]
theorem Qm {w0 w : World} {is : List It} {g c : Nat} {es : Array MapEntry} {D : List (P3 × Bool)} {p : P3} (m : bR w0 w is) (k : Nat) (hk : is[k]? = some (mI g es c)) (hD1 : bV pt Value.bool D es c) : Calls prog 109 [.map (some g),pt p].toArray w fun e w'=>∃ v i,e = .returned v ∧ bR w0 w' (is.set k i) ∧ (v = .bool (!(cD D p).getD false) ∧ ∃ es' c',i = mI g es' c' ∧ bV pt Value.bool (fJ D p true) es' c'):=by
 go_enter func109,ntmps109
 refine aD fun K1 k1=>wp_region_lit (eY m rfl ?_);clear m;intro g1 u m;refine aA (aF) (aG (k1 _ _ ?_));refine aD fun K2 k2=>aD fun K3 k3=>wp_region_lit (aA (aB) ?_);simp only[zz];refine aJ rfl ((m.b 0 rfl).full aI aC) ?_;simp only[zz];refine eL (dZ (ek:=pt) (en:=Value.bool) (k:=p) (v0:=false) underlying147 kY fW rfl rfl (m.p (k + 1) hk) hD1) ?_;simp only[zz];refine aG (k3 _ _ ?_);refine eU rfl (fun hc1=>?_) (fun hc1=>?_)
 ·
  refine aD fun K4 k4=>wp_region_lit (aA (aF) (aG (k4 _ _ ?_)));refine wp_ret ?_;simp only[zz];try simp only[Exit.inBlock,Exit.then,if_true]
  refine bS rfl rfl ?_;try simp only[zD,zE]
  exact ⟨_,mI g es c,rfl,by rw [Mj hk];exact m.tl,by rw [hc1];rfl,es,c,rfl,by rw [zX (by cases hq : cD D p with | none=>rw [hq] at hc1;cases hc1 | some x=>rw [hq] at hc1;exact congrArg some hc1)];exact hD1⟩
 ·
  refine wp_skip (k2 _ _ ?_);refine aD fun K5 k5=>wp_region_lit (aA (aB) ?_);simp only[zz];refine aJ rfl ((m.b 0 rfl).full aI aC) ?_;simp only[zz];refine eS (ek:=pt) (en:=Value.bool) (a:=p) (v:=true) m (k + 1) hk underlying147 fW rfl rfl rfl hD1 ?_;clear m;intro es1 c1 u m hD';clear hD1;have hD1:=hD';clear hD';simp only[zF,zG] at m;refine aG (k5 _ _ ?_);refine aD fun K6 k6=>wp_region_lit (aA (aF) (aG (k6 _ _ ?_)));refine wp_ret ?_;simp only[zz];try simp only[Exit.inBlock,Exit.then,if_true]
  refine bS rfl rfl ?_;try simp only[zD,zE]
  exact ⟨_,_,rfl,m.tl,by rw [hc1];rfl,_,_,rfl,hD1⟩
theorem abR {w0 w : World} {is : List It} {A : Option Addr} {n cap : Nat} {xs : List P3} (m : bR w0 w is) (k : Nat) (hi : is[k]? = some (oI 48 3 A n cap (xs.flatMap oB))) (hsz : n < 4611686018427387904) :
 Calls prog 128 [.slice A n cap,.func (.func 108) #[] #[]].toArray w fun e w'=>∃ v i,e = .returned v ∧ bR w0 w' (is.set k i) ∧ (v = .tuple #[] ∧ ∃ ys : List P3,i = oI 48 3 A n cap (ys.flatMap oB) ∧ ys.Perm xs ∧ ys.Pairwise fun a b=>ltOf xF b a = false) :=
 Mk (enc:=oB) Tryz.sort128 (fun w=>uM aI w) (fun w=>eW aC w) (fun _=>rfl) (by decide) Ml xF Zv (fun x y=>Kb) m k hi hsz
theorem Vv {g c : Nat} {es : Array MapEntry} {D : List (P3 × Bool)} (w : World) (hM : jO w g es c) (hD : bV pt Value.bool D es c) (hl : D.length ≤ 1000000) : eI prog 110 [.map (some g),.func (.func 108) #[] #[]] w (OR 48 3 (fun xs=>∃ ps : List P3,xs = ps.flatMap oB ∧ ps.Perm (D.map (·.1)) ∧ ps.Pairwise fun a b=>¬ b.Lt a) w):=by
 refine ⟨adu,?_⟩;have m:=bR.refl w
 go_enter func110,ntmps110
 refine aD fun K1 k1=>wp_region_lit (aA (aF) (aG (k1 _ _ ?_)));refine aD fun K2 k2=>wp_region_lit (aA (aF) ?_);replace m:=m.nilO 48 3;refine aG (k2 _ _ ?_);refine aD fun K3 k3=>aD fun K4 k4=>wp_region_lit (aA (aB) ?_);simp only[zz];refine wK m underlying147 rfl (hM.ext m.ext) ?_;clear m;intro r1 u m;refine aG (k4 _ _ ?_);refine wp_block ?_;simp only[zz];try simp only[Nat.zero_add,Nat.reduceAdd,Nat.reduceMul,Int.reduceToNat]
 refine bM [5] [6,9,10,11,12,13,14,15,16] (fun n vs wl=>∃ (dn rs : List (P3 × Bool)) (A1 : Option Addr) (n1 cap1 : Nat) (sn : Array Nat),vs = [.slice A1 n1 cap1] ∧ bR w wl [iI r1 g c sn,oI 48 3 A1 n1 cap1 ((dn.map (·.1)).flatMap oB)] ∧ (kZ pt Value.bool D es sn dn rs) ∧ (n1 = dn.length) ∧ (n = rs.length)) ?_ ?_
 ·
  apply Exists.intro;simp only[zQ,zR,zD,zE];exact ⟨[],D,none,0,0,#[],rfl,m,kZ.start hD,rfl,rfl⟩
 ·
  intro n vs wr hI u;clear m;obtain ⟨dn,rs,A1,n1,cap1,sn,rfl,m,hT,hn1,hn⟩:=hI;have hlen:=hT.len;simp only[zu,zF,zG];refine aD fun K5 k5=>wp_region_lit (Du m 0 rfl rfl (hM.ext m.ext) hD hT ?_);clear m;intro bb kk vv sn u m hN;simp only[zF,zG] at m;refine aA (rW rfl) (aG (k5 _ _ ?_));refine aD fun K6 k6=>?_;simp only[zz];refine eU rfl (fun hc1=>?_) (fun hc1=>?_)
  ·
   obtain ⟨kp,kb,rs2,hp,hT2⟩:=Dx hc1 hN;refine wp_skip (k6 _ _ ?_);refine wp_block (aD fun K7 k7=>wp_region_lit (eL (rX rfl (m.r 0 rfl) (hM.ext m.ext) hD hT2) ?_));simp only[zz];refine aA (aZ rfl rfl) ?_;simp only[zz];refine bC m bP rfl ?_;clear m;intro g2 u m;simp only[zz];refine aS m 0 rfl rfl rfl aC (dX rfl) rfl ?_;clear m;intro u m;simp only[zy,zx,bG,zF,zG,Nat.reduceAdd] at m;refine aG (k7 _ _ ?_);refine wp_region_lit (aA (aB) ?_);simp only[zz];refine aJ rfl ((m.b 0 rfl).full aI aC) ?_;simp only[zz];refine uY rfl ?_;intro u g3 e hg hB;replace m:=m.newB e hg hB;clear e hg hB;simp only[zz];refine dM m 3 rfl rfl jI tR rfl (by decide) rfl rfl rfl (m.b 0 rfl).rowsO (pD rfl) (by omega) (by omega) ?_;clear m;intro A1 cap1 u m;simp only[zF,zG] at m;refine aA (aF) (aG ?_);simp only[zz];simp only[Exit.inBlock,Exit.then];refine ⟨rs2.length,_,?_,rfl,?_,?_⟩
   · rw [hn,hp.length_eq];exact Nat.lt_succ_self _
   · simp only[zz,zv]
   ·
    simp only[zQ,zR,zD,zE];exact ⟨dn ++ [(kp,kb)],rs2,_,_,_,_,rfl,((m.reO 3 rfl ((m.o 3 rfl).as (by simp [oB]))).sel [false,false,true,true]),hT2,by simp [hn1],rfl⟩
  ·
   obtain rfl:=Dw hc1 hN;refine wp_exit (k3 _ _ ?_);refine aD fun K8 k8=>wp_region_lit (aA (aB) (aA (aB) ?_));simp only[zz];refine nN m 1 adJ rfl rfl (fun m=>abR m 1 rfl (by omega)) ?_;clear m;rintro v i u m ⟨rfl,ys,rfl,hys,hso⟩;simp only[zF,zG] at m;refine aG (k8 _ _ ?_);refine aD fun K9 k9=>wp_region_lit (aA (aB) (aA (aF) (aG (k9 _ _ ?_))));refine wp_ret ?_;simp only[zz];try simp only[Exit.inBlock,Exit.then,if_true]
   refine bS rfl rfl ?_;try simp only[zD,zE]
   exact ⟨_,rfl,m.ext,_,_,_,_,rfl,(m.o 1 rfl),_,rfl,hys.trans (hT.done.map _),hso.imp fun h=>by simpa [ltOf,qR] using h⟩
end Go.Proofs.YtfohfflkhpfjeaaGreatDoor
