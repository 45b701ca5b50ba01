/-
 Texts of one claim, laid together: Rchk, Rchk2, Sort, Sets, Box, Wa, Wb, Wc, Wd, Guard2.
-/
import Derived.Shelf.SlSortCmp.WholeK
import Derived.Shelf.SlSortCmp.NoneTotal
import Derived.Test.YtfohfflkhpfjeaaGreatDoorB2
set_option maxHeartbeats 8000000
set_option linter.unusedSimpArgs false
set_option linter.unusedVariables false
set_option linter.unusedSectionVars false
namespace Go.Proofs.YtfohfflkhpfjeaaGreatDoor
open Go.Proofs.Tryz
open Go.RowKit Go.Lith
set_option maxRecDepth 100000
attribute [local irreducible] wpList wpQuiet dW dM dK Code.wp
theorem tQ {p q : P3} : iT prog 82 [pt p,pt q] (.bool (decide (p.Lt q))):=by
 intro w;refine ⟨af8,?_⟩;have m:=cA.refl w
 go_enter func82,ntmps82
 refine aD fun K1 k1=>wp_region_lit (eD m rfl ?_);clear m;intro g1 u m;simp only[zz];refine eD m rfl ?_;clear m;intro g2 u m;refine aA (aC) (aG (k1 _ _ ?_));refine aD fun K2 k2=>aD fun K3 k3=>wp_region_lit (aA (aN (c:=0) eH rfl bB rfl rfl) ?_);simp only[zz];refine aK rfl ((m.b 1 rfl).lies1 bT rfl) ?_;simp only[zz];refine aA (aN (c:=0) eH rfl bB rfl rfl) ?_;simp only[zz];refine aK rfl ((m.b 0 rfl).lies1 bT rfl) ?_;simp only[zz];refine aA (lK rfl rfl) (aG (k3 _ _ ?_));simp only[zz];refine bW rfl (fun hc1=>?_) (fun hc1=>?_)
 ·
  refine aD fun K4 k4=>wp_region_lit (aA (aN (c:=0) eH rfl bB rfl rfl) ?_);simp only[zz];refine aK rfl ((m.b 1 rfl).lies1 bT rfl) ?_;simp only[zz];refine aA (aN (c:=0) eH rfl bB rfl rfl) ?_;simp only[zz];refine aK rfl ((m.b 0 rfl).lies1 bT rfl) ?_;simp only[zz];refine aA (cF rfl rfl) (aA (aC) (aG (k4 _ _ ?_)));refine wp_ret ?_;simp only[zz];try simp only[Exit.inBlock,Exit.then,if_true]
  refine bM rfl rfl ?_;try simp only[zD,zE]
  exact ⟨_,rfl,m.ext,by simp only[P3.lt_x hc1]⟩
 ·
  have ex : p.x = q.x:=by omega
  refine wp_skip (k2 _ _ ?_);refine aD fun K5 k5=>aD fun K6 k6=>wp_region_lit (aA (aN (c:=0) eH rfl bB rfl rfl) ?_);simp only[zz];refine aK rfl ((m.b 1 rfl).lies1 bT rfl) ?_;simp only[zz];refine aA (aN (c:=0) eH rfl bB rfl rfl) ?_;simp only[zz];refine aK rfl ((m.b 0 rfl).lies1 bT rfl) ?_;simp only[zz];refine aA (lK rfl rfl) (aG (k6 _ _ ?_));simp only[zz];refine bW rfl (fun hc2=>?_) (fun hc2=>?_)
  ·
   refine aD fun K7 k7=>wp_region_lit (aA (aN (c:=0) eH rfl bB rfl rfl) ?_);simp only[zz];refine aK rfl ((m.b 1 rfl).lies1 bT rfl) ?_;simp only[zz];refine aA (aN (c:=0) eH rfl bB rfl rfl) ?_;simp only[zz];refine aK rfl ((m.b 0 rfl).lies1 bT rfl) ?_;simp only[zz];refine aA (cF rfl rfl) (aA (aC) (aG (k7 _ _ ?_)));refine wp_ret ?_;simp only[zz];try simp only[Exit.inBlock,Exit.then,if_true]
   refine bM rfl rfl ?_;try simp only[zD,zE]
   exact ⟨_,rfl,m.ext,by simp only[P3.lt_y ex hc2]⟩
  ·
   have ey : p.y = q.y:=by omega
   refine wp_skip (k5 _ _ ?_);refine aD fun K8 k8=>wp_region_lit (aA (aN (c:=0) eH rfl bB rfl rfl) ?_);simp only[zz];refine aK rfl ((m.b 1 rfl).lies1 bT rfl) ?_;simp only[zz];refine aA (aN (c:=0) eH rfl bB rfl rfl) ?_;simp only[zz];refine aK rfl ((m.b 0 rfl).lies1 bT rfl) ?_;simp only[zz];refine aA (cF rfl rfl) (aA (aC) (aG (k8 _ _ ?_)));refine wp_ret ?_;simp only[zz];try simp only[Exit.inBlock,Exit.then,if_true]
   refine bM rfl rfl ?_;try simp only[zD,zE]
   exact ⟨_,rfl,m.ext,by simp only[P3.lt_z ex ey]⟩
theorem aai {a b : E3} : iT prog 38 [ed a,ed b] (.bool (Sw a b)):=by
 intro w;refine ⟨afs,?_⟩;have m:=cA.refl w
 go_enter func38,ntmps38
 refine aD fun K1 k1=>wp_region_lit (eD m rfl ?_);clear m;intro g1 u m;simp only[zz];refine eD m rfl ?_;clear m;intro g2 u m;refine aA (aC) (aG (k1 _ _ ?_));refine aD fun K2 k2=>aD fun K3 k3=>wp_region_lit (aA (aH jU aF rfl rfl (by decide) (by decide) rfl) ?_);simp only[zz];refine aK rfl ((m.b 1 rfl).lies aJ aF rfl rfl) ?_;simp only[zz,zy,Nat.zero_add,Nat.reduceAdd,Nat.reduceMul,Int.reduceToNat];refine aA (aH jU aF rfl rfl (by decide) (by decide) rfl) ?_;simp only[zz];refine aK rfl ((m.b 0 rfl).lies aJ aF rfl rfl) ?_;simp only[zz,zy,Nat.zero_add,Nat.reduceAdd,Nat.reduceMul,Int.reduceToNat];refine aA (gE rfl rfl) (aG (k3 _ _ ?_));simp only[zz];refine bW rfl (fun hc1=>?_) (fun hc1=>?_)
 ·
  refine aD fun K4 k4=>wp_region_lit (aA (aH jU aF rfl rfl (by decide) (by decide) rfl) ?_);simp only[zz];refine aK rfl ((m.b 1 rfl).lies aJ aF rfl rfl) ?_;simp only[zz,zy,Nat.zero_add,Nat.reduceAdd,Nat.reduceMul,Int.reduceToNat];refine aA (aH jU aF rfl rfl (by decide) (by decide) rfl) ?_;simp only[zz];refine aK rfl ((m.b 0 rfl).lies aJ aF rfl rfl) ?_;simp only[zz,zy,Nat.zero_add,Nat.reduceAdd,Nat.reduceMul,Int.reduceToNat];refine fA m rfl rfl (tQ (p:=a.1) (q:=b.1)) ?_;clear m;intro u m;refine aA (aC) (aG (k4 _ _ ?_));refine wp_ret ?_;simp only[zz];try simp only[Exit.inBlock,Exit.then,if_true]
  refine bM rfl rfl ?_;try simp only[zD,zE]
  exact ⟨_,rfl,m.ext,by rw [Sw,if_pos (fun h=>hc1 (by rw [h];exact ⟨rfl,rfl,rfl⟩))]⟩
 ·
  refine wp_skip (k2 _ _ ?_);refine aD fun K5 k5=>wp_region_lit (aA (aH jU aF rfl rfl (by decide) (by decide) rfl) ?_);simp only[zz];refine aK rfl ((m.b 1 rfl).lies aJ aF rfl rfl) ?_;simp only[zz,zy,Nat.zero_add,Nat.reduceAdd,Nat.reduceMul,Int.reduceToNat];refine aA (aH jU aF rfl rfl (by decide) (by decide) rfl) ?_;simp only[zz];refine aK rfl ((m.b 0 rfl).lies aJ aF rfl rfl) ?_;simp only[zz,zy,Nat.zero_add,Nat.reduceAdd,Nat.reduceMul,Int.reduceToNat];refine fA m rfl rfl (tQ (p:=a.2) (q:=b.2)) ?_;clear m;intro u m;refine aA (aC) (aG (k5 _ _ ?_));refine wp_ret ?_;simp only[zz];try simp only[Exit.inBlock,Exit.then,if_true]
  refine bM rfl rfl ?_;try simp only[zD,zE]
  exact ⟨_,rfl,m.ext,by rw [Sw,if_neg (fun h=>h (P3.eq (Classical.not_not.1 hc1).1 (Classical.not_not.1 hc1).2.1 (Classical.not_not.1 hc1).2.2))]⟩
theorem Sy {ts : List T3} {N cap : Nat} {A : Option Addr} (w : World) (hT : dZ w A N ts) (hN : N ≤ 1000000000) : eK prog 36 [.slice A N cap] w (SL 57 6 ((bJ ts).flatMap bP) (bJ ts).length w):=by
 refine ⟨afq,?_⟩;have m:=cA.refl w
 go_enter func36,ntmps36
 refine aD fun K1 k1=>wp_region_lit (aA (aC) (aG (k1 _ _ ?_)));refine aD fun K2 k2=>wp_region_lit (aA (aC) ?_);replace m:=m.nilO 57 6;refine aG (k2 _ _ ?_);refine aD fun K3 k3=>aD fun K4 k4=>wp_region_lit (aA (aC) (aG (k4 _ _ ?_)));refine wp_block ?_;simp only[zz];try simp only[Nat.zero_add,Nat.reduceAdd,Nat.reduceMul,Int.reduceToNat]
 refine bK [3,4] [5,6,7,8,9,10,11,12,13,14,15,16,17,18,19,20,21,22,23,24,25,26,27,28,29,30,31,32,33] (fun n vs wl=>∃ (k : Nat) (A3 : Option Addr) (cap3 : Nat),vs = [.slice A3 (bJ (ts.take k)).length cap3,.int .i64 (k:Int)] ∧ cA w wl [oI 57 6 A3 (bJ (ts.take k)).length cap3 ((bJ (ts.take k)).flatMap bP)] ∧ (k ≤ N) ∧ (n = N - k)) ?_ ?_
 ·
  apply Exists.intro;simp only[zQ,zR,zD,zE];exact ⟨0,_,_,rfl,m,Nat.zero_le _,rfl⟩
 ·
  intro n vs wr hI u;clear m;obtain ⟨k,A3,cap3,rfl,m,hk,hn⟩:=hI;simp only[zu,zF,zG];refine aD fun K5 k5=>aD fun K6 k6=>wp_region_lit (aA (aB) (aA (aB) (aA (aX rfl bQ rfl) (aA (cF rfl rfl) ?_))));simp only[zz];refine aG (k6 _ _ ?_);refine bW rfl (fun hc1=>?_) (fun hc1=>?_)
  ·
   obtain ⟨t,ht,_,a,rfl,hrow⟩:=hT.get (i:=k) (by omega);refine wp_skip (k5 _ _ ?_);refine aD fun K7 k7=>wp_block (aD fun K8 k8=>wp_region_lit (aA (aB) (aA (aB) ?_)));simp only[zz];refine aA (aI bQ aQ rfl rfl (by omega) (by omega) (bV (Int.toNat_natCast _))) ?_;simp only[zz];refine aK rfl ((hrow.ext m.ext).lies eP aQ) ?_;simp only[zz];refine bF m jX rfl ?_;clear m;intro g1 u m;simp only[zz];refine aU m 0 rfl rfl rfl aQ (eB rfl) rfl ?_;clear m;intro u m;simp only[zy,zx,bE,zF,zG,Nat.reduceAdd] at m;refine aG (k8 _ _ ?_);refine wp_region_lit (aA (aB) (aA (aH bG aF rfl rfl (by decide) (by decide) rfl) ?_));simp only[zz];refine aK rfl ((m.b 0 rfl).lies aJ aF rfl rfl) ?_;simp only[zz,zy,Nat.zero_add,Nat.reduceAdd,Nat.reduceMul,Int.reduceToNat];refine aA (aH bG aF rfl rfl (by decide) (by decide) rfl) ?_;simp only[zz];refine aK rfl ((m.b 0 rfl).lies aJ aF rfl rfl) ?_;simp only[zz,zy,Nat.zero_add,Nat.reduceAdd,Nat.reduceMul,Int.reduceToNat];refine aA (cR rfl rfl) (aA (aH bG aF rfl rfl (by decide) (by decide) rfl) ?_);simp only[zz];refine aK rfl ((m.b 0 rfl).lies aJ aF rfl rfl) ?_;simp only[zz,zy,Nat.zero_add,Nat.reduceAdd,Nat.reduceMul,Int.reduceToNat];refine aA (aH bG aF rfl rfl (by decide) (by decide) rfl) ?_;simp only[zz];refine aK rfl ((m.b 0 rfl).lies aJ aF rfl rfl) ?_;simp only[zz,zy,Nat.zero_add,Nat.reduceAdd,Nat.reduceMul,Int.reduceToNat];refine aA (cR rfl rfl) (aA (aH bG aF rfl rfl (by decide) (by decide) rfl) ?_);simp only[zz];refine aK rfl ((m.b 0 rfl).lies aJ aF rfl rfl) ?_;simp only[zz,zy,Nat.zero_add,Nat.reduceAdd,Nat.reduceMul,Int.reduceToNat];refine aA (aH bG aF rfl rfl (by decide) (by decide) rfl) ?_;simp only[zz];refine aK rfl ((m.b 0 rfl).lies aJ aF rfl rfl) ?_;simp only[zz,zy,Nat.zero_add,Nat.reduceAdd,Nat.reduceMul,Int.reduceToNat];refine aA (cR rfl rfl) ?_;simp only[zz];refine Wb rfl rfl rfl ?_;intro u g2 e hg hB;replace m:=m.newB e hg hB;clear e hg hB;simp only[zz];refine dT m 2 rfl rfl fL vH rfl (by decide) rfl rfl rfl (m.b 0 rfl).rowsO (qV rfl) (by have:=kZ (ts.take k);rw [List.length_take] at this;omega) (by have:=kZ (ts.take k);rw [List.length_take] at this;omega) ?_;clear m;intro A3 cap3 u m;simp only[zF,zG] at m;rw [show (bJ (ts.take k)).flatMap bP ++ _ = (bJ (ts.take (k + 1))).flatMap bP by rw [oH ht,List.flatMap_append];rfl,show (bJ (ts.take k)).length + 3 = (bJ (ts.take (k + 1))).length by rw [oH ht,List.length_append];rfl] at m;rw [show (bJ (ts.take k)).length + 3 = (bJ (ts.take (k + 1))).length by rw [oH ht,List.length_append];rfl];refine aA (aC) (aG (k7 _ _ ?_));refine wp_region_lit (aA (aB) ?_);simp only[zz];refine aA (aP rfl rfl (aM (by omega) (by omega))) (aA (aC) (aG ?_));simp only[zz];simp only[Exit.inBlock,Exit.then];refine ⟨N - (k + 1),_,?_,rfl,?_,?_⟩
   · omega
   · simp only[zz,zv]
   ·
    simp only[zQ,zR,zD,zE];exact ⟨k + 1,_,_,rfl,(m.sel [false,false,true]),by omega,rfl⟩
  ·
   have hkN : k = N:=by omega
   rw [hkN,show ts.take N = ts from List.take_of_length_le (by rw [hT.len];exact Nat.le_refl _)] at m ⊢;refine wp_exit (k3 _ _ ?_);refine aD fun K9 k9=>wp_region_lit (aA (aB) (aA (aC) (aG (k9 _ _ ?_))));refine wp_ret ?_;simp only[zz];try simp only[Exit.inBlock,Exit.then,if_true]
   refine bM rfl rfl ?_;try simp only[zD,zE]
   exact ⟨_,rfl,m.ext,⟨_,_,_,rfl,rfl,(m.o 0 rfl)⟩⟩
theorem Dn {es : List E3} {N cap : Nat} {A : Option Addr} {e : E3} (w : World) (hL : mU bP 6 w A N es) (hN : N ≤ 1000000000) : eK prog 37 [.slice A N cap,ed e] w (fun v _=>v = .int .i64 ((kO es e : Nat) : Int)):=by
 refine ⟨afr,?_⟩;have m:=cA.refl w
 go_enter func37,ntmps37
 refine aD fun K1 k1=>wp_region_lit (eD m rfl ?_);clear m;intro g1 u m;refine aA (aC) (aG (k1 _ _ ?_));refine aD fun K2 k2=>wp_region_lit (aA (aC) (aG (k2 _ _ ?_)));refine aD fun K3 k3=>aD fun K4 k4=>wp_region_lit (aA (aC) ?_);simp only[zz];refine aG (k4 _ _ ?_);refine wp_block ?_;try simp only[Nat.zero_add,Nat.reduceAdd,Nat.reduceMul,Int.reduceToNat]
 refine bK [5,6] [7,8,9,10,11,12,13,14,15,16,17,18,19,20] (fun n vs wl=>∃ (k q : Nat),vs = [.int .i64 (q : Int),.int .i64 (k:Int)] ∧ cA w wl [bI g1 (bP e) 57] ∧ (q = kO (es.take k) e) ∧ (k ≤ N) ∧ (n = N - k)) ?_ ?_
 ·
  apply Exists.intro;simp only[zQ,zR,zD,zE];exact ⟨0,0,rfl,m,rfl,Nat.zero_le _,rfl⟩
 ·
  intro n vs wr hI u;clear m;obtain ⟨k,q,rfl,m,hq,hk,hn⟩:=hI;subst hq;simp only[zu,zF,zG];refine aD fun K5 k5=>aD fun K6 k6=>wp_region_lit (aA (aB) (aA (aB) (aA (aX rfl fL rfl) (aA (cF rfl rfl) ?_))));simp only[zz];refine aG (k6 _ _ ?_);refine bW rfl (fun hc1=>?_) (fun hc1=>?_)
  ·
   obtain ⟨x,hx,a,rfl,hrow⟩:=hL.get (i:=k) (by omega);refine wp_skip (k5 _ _ ?_);refine aD fun K7 k7=>wp_block (aD fun K8 k8=>mq m aO (by kernel_rfl) (aL (aB) (aL (aB) ?_)));simp only[zz];refine aL (aI fL cJ rfl rfl (by omega) (by omega) (bV (Int.toNat_natCast _))) ?_;simp only[zz];refine ql rfl (fun u m=>((hrow.ext m.ext).lies kP cJ)) ?_;simp only[zz];refine ql rfl (fun u m=>((m.b 0 rfl).full kP cJ)) ?_;simp only[zz];refine aL (Vx rfl rfl) (dF ?_);clear m;intro u m;refine k8 _ _ ?_;simp only[zz];refine bW rfl (fun hc2=>?_) (fun hc2=>?_)
   ·
    have hxe : x = e:=Prod.ext (P3.eq hc2.1 hc2.2.1 hc2.2.2.1) (P3.eq hc2.2.2.2.1 hc2.2.2.2.2.1 hc2.2.2.2.2.2);have hcl : kO (es.take k) e ≤ N:=Nat.le_trans adr (by rw [List.length_take];omega);have hs:=Nj (e:=e) hx;rw [if_pos hxe] at hs;refine wp_region_lit (aA (aB) ?_);simp only[zz];refine aA (aP rfl rfl (aM (by omega) (by omega))) (aA (aC) (aG (k7 _ _ ?_)));refine wp_region_lit (aA (aB) ?_);simp only[zz];refine aA (aP rfl rfl (aM (by omega) (by omega))) (aA (aC) (aG ?_));simp only[zz];rw [show ((kO (es.take k) e : Nat) : Int) + 1 = ((kO (es.take (k + 1)) e : Nat) : Int) by rw [hs];rfl];simp only[Exit.inBlock,Exit.then];refine ⟨N - (k + 1),_,?_,rfl,?_,?_⟩
    · omega
    · simp only[zz,zv]
    ·
     simp only[zQ,zR,zD,zE];exact ⟨k + 1,kO (es.take (k + 1)) e,rfl,m,rfl,by omega,rfl⟩
   ·
    have hs : kO (es.take (k + 1)) e = kO (es.take k) e:=(Nj (e:=e) hx).trans (by rw [if_neg (fun h=>hc2 (by rw [h];exact ⟨rfl,rfl,rfl,rfl,rfl,rfl⟩))];rfl);refine wp_skip (k7 _ _ ?_);refine wp_region_lit (aA (aB) ?_);simp only[zz];refine aA (aP rfl rfl (aM (by omega) (by omega))) (aA (aC) (aG ?_));simp only[zz];rw [← hs];simp only[Exit.inBlock,Exit.then];refine ⟨N - (k + 1),_,?_,rfl,?_,?_⟩
    · omega
    · simp only[zz,zv]
    ·
     simp only[zQ,zR,zD,zE];exact ⟨k + 1,kO (es.take (k + 1)) e,rfl,m,rfl,by omega,rfl⟩
  ·
   have hkN : k = N:=by omega
   rw [hkN,show es.take N = es from List.take_of_length_le (by rw [hL.len];exact Nat.le_refl _)];refine wp_exit (k3 _ _ ?_);refine aD fun K9 k9=>wp_region_lit (aA (aB) (aA (aC) (aG (k9 _ _ ?_))));refine wp_ret ?_;simp only[zz];try simp only[Exit.inBlock,Exit.then,if_true]
   refine bM rfl rfl ?_;try simp only[zD,zE]
   exact ⟨_,rfl,m.ext,rfl⟩
theorem ab0 {ps : List P3} {N cap : Nat} {A : Option Addr} {p : P3} (w : World) (hL : mU uZ 3 w A N ps) (hN : N ≤ 1000000000) (hcap : N ≤ cap) : eK prog 100 [.slice A N cap,pt p] w (fun v w'=>(v = .slice A N cap ∧ iX ps p = ps) ∨ SL 48 3 ((iX ps p).flatMap uZ) (iX ps p).length w v w'):=by
 refine ⟨Kz,?_⟩;have m:=cA.refl w;obtain rfl : ps.length = N:=hL.len
 go_enter func100,ntmps100
 refine aD fun K1 k1=>wp_region_lit (eD m rfl ?_);clear m;intro g1 u m;refine aA (aC) (aG (k1 _ _ ?_));refine aD fun K2 k2=>wp_region_lit (aA (aC) (aG (k2 _ _ ?_)));refine aD fun K3 k3=>wp_block ?_;simp only[zz];try simp only[Nat.zero_add,Nat.reduceAdd,Nat.reduceMul,Int.reduceToNat]
 refine bK [5] [6,8,9,10,11,12,13,14,15,16,17,18,19,20,21] (fun n vs wl=>∃ (k : Nat),vs = [.int .i64 (k:Int)] ∧ cA w wl [bI g1 (uZ p) 48] ∧ (Pre (fun x=>decide (x.Lt p)) ps k) ∧ (k ≤ ps.length) ∧ (n = ps.length - k)) ?_ ?_
 ·
  apply Exists.intro;simp only[zQ,zR,zD,zE];exact ⟨0,rfl,m,Pre.zero,Nat.zero_le _,rfl⟩
 ·
  intro n vs wr hI u;clear m;obtain ⟨k,rfl,m,hpre,hk,hn⟩:=hI;simp only[zu,zF,zG];refine aD fun K4 k4=>aD fun K5 k5=>wp_region_lit (aA (aB) (aA (aB) (aA (aX rfl kX rfl) (aA (cF rfl rfl) ?_))));simp only[zz];refine aG (k5 _ _ ?_);refine bW rfl (fun hc1=>?_) (fun hc1=>?_)
  ·
   obtain ⟨x,hx,a,rfl,hrow⟩:=hL.get (i:=k) (by omega);refine wp_skip (k4 _ _ ?_);refine wp_block (aD fun K6 k6=>mq m aO (by kernel_rfl) (aL (aB) (aL (aB) ?_)));simp only[zz];refine aL (aI kX aF rfl rfl (by omega) (by omega) (bV (Int.toNat_natCast _))) ?_;simp only[zz];refine ql rfl (fun u m=>((hrow.ext m.ext).lies aJ aF)) ?_;simp only[zz];refine ql rfl (fun u m=>((m.b 0 rfl).full aJ aF)) ?_;simp only[zz];refine tE rfl rfl (tQ) (aL (aC) (dF ?_));clear m;intro u m;refine k6 _ _ ?_;refine aD fun K7 k7=>aD fun K8 k8=>wp_region_lit (aA (aB) (aA (eZ rfl) ?_));simp only[zz];refine aG (k8 _ _ ?_);refine lY rfl (fun hc2=>?_) (fun hc2=>?_)
   ·
    have hpos : Vl ps p = k:=acW hpre hx (by simpa using hc2);refine wp_exit (k3 _ _ ?_);refine aD fun K9 k9=>aD fun K10 k10=>mq m aO (by kernel_rfl) (aL (aB) (aL (aB) (aL (aX rfl kX rfl) ?_)));simp only[zz];refine aL (bY rfl rfl (by omega)) (aL (aB) (eY rfl (aL (aB) (eY rfl (aL (aB) ?_)))));simp only[zz];refine eY rfl (aL (aI kX aF rfl rfl (by omega) (by omega) (bV (Int.toNat_natCast _))) (eY rfl ?_));simp only[zz];refine ql rfl (fun u m=>((hrow.ext m.ext).lies aJ aF)) ?_;simp only[zz];refine eY rfl (ql rfl (fun u m=>((m.b 0 rfl).full aJ aF)) ?_);simp only[zz];refine eY rfl (aL (cW rfl rfl) (aL (cB rfl) (dF ?_)));clear m;intro u m;refine k10 _ _ ?_;simp only[zz];refine bW rfl (fun hc3=>?_) (fun hc3=>?_)
    ·
     have hxp : x = p:=P3.eq hc3.1 hc3.2.1 hc3.2.2;refine aD fun K11 k11=>wp_region_lit (aA (aB) (aA (aC) (aG (k11 _ _ ?_))));refine wp_ret ?_;simp only[zz];try simp only[Exit.inBlock,Exit.then,if_true]
     refine bM rfl rfl ?_;try simp only[zD,zE]
     exact ⟨_,rfl,m.ext,.inl ⟨rfl,by rw [iX,hpos,hx,if_pos (by rw [hxp])]⟩⟩
    ·
     have hw : iX ps p = ps.take k ++ [p] ++ ps.drop k:=by unfold iX;rw [hpos,if_neg (by rw [hx];exact fun h=>hc3 (by cases h;exact ⟨rfl,rfl,rfl⟩))]
     refine wp_skip (k9 _ _ ?_);refine aD fun K12 k12=>wp_region_lit (aA (aC) ?_);replace m:=m.nilO 48 3;refine aG (k12 _ _ ?_);refine aD fun K13 k13=>wp_region_lit (aA (aB) (aA (aB) (aA (aB) ?_)));simp only[zz];refine aA (jP kX aF rfl rfl (Int.toNat_natCast _) (by omega) (by omega)) ?_;simp only[zz];refine dT m 0 rfl rfl kX vG rfl (by decide) rfl rfl (by rw [iS Ni,List.length_take,Nat.min_eq_left (by omega)]) (((hL.take (by omega)).ext m.ext).cells Ni (by decide)) (Kx _) (by omega) (by omega) ?_;clear m;intro A7 cap7 u m;simp only[zF,zG] at m;rw [List.nil_append,Nat.zero_add] at m;rw [Nat.zero_add];refine aA (aC) (aG (k13 _ _ ?_));refine aD fun K14 k14=>wp_region_lit (aA (aB) ?_);simp only[zz];refine aK rfl ((m.b 1 rfl).full aJ aF) ?_;simp only[zz];refine wJ rfl ?_;intro u g2 e hg hB;replace m:=m.newB e hg hB;clear e hg hB;simp only[zz];refine dT m 1 rfl rfl kX vG rfl (by decide) rfl rfl rfl (m.b 0 rfl).rowsO (qV rfl) (by omega) (by omega) ?_;clear m;intro A7 cap7 u m;simp only[zF,zG] at m;refine aA (aC) (aG (k14 _ _ ?_));refine aD fun K15 k15=>wp_region_lit (aA (aB) (aA (aB) ?_));simp only[zz];refine aA (aB) ?_;simp only[zz];refine aA (jQ kX aF rfl rfl (Int.toNat_natCast _) (by omega) (by omega) rfl) ?_;simp only[zz];refine dT m 1 rfl rfl kX vG rfl (by decide) rfl rfl (by rw [iS Ni,List.length_drop]) ((hL.ext m.ext).cellsD Ni (by decide) hcap) (Kx _) (by omega) (by omega) ?_;clear m;intro A7 cap7 u m;simp only[zF,zG] at m;refine aA (aC) (aG (k15 _ _ ?_));refine wp_ret ?_;simp only[zz];try simp only[Exit.inBlock,Exit.then,if_true]
     refine bM rfl rfl ?_;try simp only[zD,zE]
     exact ⟨_,rfl,m.ext,.inr ⟨_,_,_,by rw [hw];simp;omega,rfl,(m.o 1 rfl).as (by rw [hw,List.flatMap_append,List.flatMap_append];rfl)⟩⟩
   ·
    have hpre2:=hpre.step hx (by simpa using hc2);refine wp_skip (k7 _ _ ?_);refine wp_region_lit (aA (aB) ?_);simp only[zz];refine aA (aP rfl rfl (aM (by omega) (by omega))) (aA (aC) (aG ?_));simp only[zz];simp only[Exit.inBlock,Exit.then];refine ⟨ps.length - (k + 1),_,?_,rfl,?_,?_⟩
    · omega
    · simp only[zz,zv]
    ·
     simp only[zQ,zR,zD,zE];exact ⟨k + 1,rfl,m,hpre2,by omega,rfl⟩
  ·
   obtain rfl : k = ps.length:=by omega
   have hpos : Vl ps p = ps.length:=Zq hpre;have hw : iX ps p = ps.take ps.length ++ [p] ++ ps.drop ps.length:=by unfold iX;rw [hpos,if_neg (by rw [List.getElem?_eq_none (Nat.le_refl _)];simp)]
   refine wp_exit (k3 _ _ ?_);refine aD fun K16 k16=>aD fun K17 k17=>mq m aO (by kernel_rfl) (aL (aB) (aL (aB) (aL (aX rfl kX rfl) ?_)));simp only[zz];refine aL (eU rfl rfl (by omega)) (aL (aB) (iQ rfl (iQ rfl ?_)));simp only[zz];refine iQ rfl (iQ rfl (iQ rfl (iQ rfl ?_)));simp only[zz];refine aL (eG rfl) (dF ?_);clear m;intro u m;refine k17 _ _ (gX rfl (wp_skip (k16 _ _ ?_)));refine aD fun K18 k18=>wp_region_lit (aA (aC) ?_);replace m:=m.nilO 48 3;refine aG (k18 _ _ ?_);refine aD fun K19 k19=>wp_region_lit (aA (aB) (aA (aB) ?_));simp only[zz];refine aA (aB) ?_;simp only[zz];refine aA (jP kX aF rfl rfl (Int.toNat_natCast _) (by omega) (by omega)) ?_;simp only[zz];refine dT m 0 rfl rfl kX vG rfl (by decide) rfl rfl (by rw [iS Ni,List.length_take,Nat.min_eq_left (by omega)]) (((hL.take (by omega)).ext m.ext).cells Ni (by decide)) (Kx _) (by omega) (by omega) ?_;clear m;intro A7 cap7 u m;simp only[zF,zG] at m;rw [List.nil_append,Nat.zero_add] at m;rw [Nat.zero_add];refine aA (aC) (aG (k19 _ _ ?_));refine aD fun K20 k20=>wp_region_lit (aA (aB) ?_);simp only[zz];refine aK rfl ((m.b 1 rfl).full aJ aF) ?_;simp only[zz];refine wJ rfl ?_;intro u g2 e hg hB;replace m:=m.newB e hg hB;clear e hg hB;simp only[zz];refine dT m 1 rfl rfl kX vG rfl (by decide) rfl rfl rfl (m.b 0 rfl).rowsO (qV rfl) (by omega) (by omega) ?_;clear m;intro A7 cap7 u m;simp only[zF,zG] at m;refine aA (aC) (aG (k20 _ _ ?_));refine aD fun K21 k21=>wp_region_lit (aA (aB) (aA (aB) ?_));simp only[zz];refine aA (aB) ?_;simp only[zz];refine aA (jQ kX aF rfl rfl (Int.toNat_natCast _) (by omega) (by omega) rfl) ?_;simp only[zz];refine dT m 1 rfl rfl kX vG rfl (by decide) rfl rfl (by rw [iS Ni,List.length_drop]) ((hL.ext m.ext).cellsD Ni (by decide) hcap) (Kx _) (by omega) (by omega) ?_;clear m;intro A7 cap7 u m;simp only[zF,zG] at m;refine aA (aC) (aG (k21 _ _ ?_));refine wp_ret ?_;simp only[zz];try simp only[Exit.inBlock,Exit.then,if_true]
   refine bM rfl rfl ?_;try simp only[zD,zE]
   exact ⟨_,rfl,m.ext,.inr ⟨_,_,_,by rw [hw];simp,rfl,(m.o 1 rfl).as (by rw [hw,List.flatMap_append,List.flatMap_append];rfl)⟩⟩
theorem Re {w0 w : World} {is : List It} {A : Option Addr} {n cap : Nat} {ps : List P3} {p : P3} (m : cA w0 w is) (k : Nat) (hi : is[k]? = some (oI 48 3 A n cap (ps.flatMap uZ))) (hN : n ≤ 1000000000) :
 Calls prog 100 [.slice A n cap,pt p].toArray w fun e w'=>∃ v i,e = .returned v ∧ cA w0 w' (is.set k i) ∧ ∃ A' cap' n',n' = (iX ps p).length ∧ v = .slice A' n' cap' ∧ i = oI 48 3 A' n' cap' ((iX ps p).flatMap uZ):=by
 have hO:=m.o k hi;refine (ab0 (p:=p) w (hO.lat Ni (by decide)) hN hO.le).2.mono ?_;rintro e w' ⟨v,rfl,hE,h⟩;rcases h with ⟨rfl,h⟩ | ⟨A',cap',n',rfl,rfl,hN'⟩
 · exact ⟨_,oI 48 3 A n cap (ps.flatMap uZ),rfl,by rw [ads hi];exact m.ext' hE,A,cap,n,by rw [h];exact (hO.num Ni (by decide)).symm,rfl,by rw [h]⟩
 · exact ⟨_,_,rfl,(m.newO hE hN').mv k hi,_,_,_,rfl,rfl,rfl⟩
theorem Wg {ts : List T3} {N cap : Nat} {A : Option Addr} (w : World) (hT : dZ w A N ts) (hN : N ≤ 100000000) : eK prog 63 [.slice A N cap] w (SL 48 3 ((fG ts).flatMap uZ) (fG ts).length w):=by
 refine ⟨afP,?_⟩;have m:=cA.refl w
 go_enter func63,ntmps63
 refine aD fun K1 k1=>wp_region_lit (aA (aC) (aG (k1 _ _ ?_)));refine aD fun K2 k2=>wp_region_lit (aA (aC) ?_);replace m:=m.nilO 48 3;refine aG (k2 _ _ ?_);refine aD fun K3 k3=>aD fun K4 k4=>wp_region_lit (aA (aC) (aG (k4 _ _ ?_)));refine wp_block ?_;simp only[zz];try simp only[Nat.zero_add,Nat.reduceAdd,Nat.reduceMul,Int.reduceToNat]
 refine bK [3,4] [5,6,7,8,9,10,11,12,13,14,15,16,17,18,19,20,21,22,23] (fun n vs wl=>∃ (k n3 : Nat) (A3 : Option Addr) (cap3 : Nat),vs = [.slice A3 n3 cap3,.int .i64 (k:Int)] ∧ cA w wl [oI 48 3 A3 n3 cap3 ((fG (ts.take k)).flatMap uZ)] ∧ (n3 = (fG (ts.take k)).length) ∧ (k ≤ N) ∧ (n = N - k)) ?_ ?_
 ·
  apply Exists.intro;simp only[zQ,zR,zD,zE];exact ⟨0,0,_,_,rfl,m,rfl,Nat.zero_le _,rfl⟩
 ·
  intro n vs wr hI u;clear m;obtain ⟨k,n3,A3,cap3,rfl,m,hn3,hk,hn⟩:=hI;simp only[zu,zF,zG];refine aD fun K5 k5=>aD fun K6 k6=>wp_region_lit (aA (aB) (aA (aB) (aA (aX rfl bQ rfl) (aA (cF rfl rfl) ?_))));simp only[zz];refine aG (k6 _ _ ?_);refine bW rfl (fun hc1=>?_) (fun hc1=>?_)
  ·
   obtain ⟨t,ht,_,a,rfl,hrow⟩:=hT.get (i:=k) (by omega);have hb0:=Ci (ts.take k);have hb1:=sD (fG (ts.take k)) t.a;have hb2:=sD (iX (fG (ts.take k)) t.a) t.b;rw [List.length_take] at hb0;refine wp_skip (k5 _ _ ?_);refine aD fun K7 k7=>wp_block (aD fun K8 k8=>wp_region_lit (aA (aC) (aG (k8 _ _ ?_))));refine wp_block (wp_loop_rounds 4 (dS (aD fun K9 k9=>aD fun K10 k10=>wp_region_lit (aA (aB) (aA (bY (m:=0) (n:=3) rfl rfl (by decide)) (aG (k10 _ _ ?_)))))));refine cG rfl (wp_skip (k9 _ _ ?_));refine aD fun K11 k11=>wp_block (wp_region_lit (aA (aB) ?_));simp only[zz];refine aA (aB) (aA (aB) (aA (aB) ?_));simp only[zz];refine aA (aI bQ aQ rfl rfl (by omega) (by omega) (bV (Int.toNat_natCast _))) (aA (aH bG aF rfl rfl (by decide) (by decide) rfl) ?_);simp only[zz];refine aK rfl ((jG.cor (hrow.ext m.ext) (c:=0) (by decide)).lies aJ aF) ?_;simp only[zz];refine pQ m 0 Kz rfl rfl (fun m=>Re (p:=t.a) m 0 rfl (by omega)) ?_;clear m;rintro v i u m ⟨A3,cap3,n3,hn3,rfl,rfl⟩;simp only[zF,zG] at m;refine aA (aC) (aG (k11 _ _ ?_));refine wp_region_lit (aA (aB) (aA (aP (m:=0) (n:=1) (r:=1) rfl rfl (by decide)) ?_));simp only[zz];refine aA (aC) (aG (aV (aD fun K12 k12=>aD fun K13 k13=>wp_region_lit (aA (aB) (aA (bY (m:=1) (n:=3) rfl rfl (by decide)) (aG (k13 _ _ ?_)))))));refine cG rfl (wp_skip (k12 _ _ ?_));refine aD fun K14 k14=>wp_block (wp_region_lit (aA (aB) ?_));simp only[zz];refine aA (aB) (aA (aB) (aA (aB) ?_));simp only[zz];refine aA (aI bQ aQ rfl rfl (by omega) (by omega) (bV (Int.toNat_natCast _))) (aA (aH bG aF rfl rfl (by decide) (by decide) rfl) ?_);simp only[zz];refine aK rfl ((jG.cor (hrow.ext m.ext) (c:=1) (by decide)).lies aJ aF) ?_;simp only[zz];refine pQ m 0 Kz rfl rfl (fun m=>Re (p:=t.b) m 0 rfl (by omega)) ?_;clear m;rintro v i u m ⟨A3,cap3,n3,hn3,rfl,rfl⟩;simp only[zF,zG] at m;refine aA (aC) (aG (k14 _ _ ?_));refine wp_region_lit (aA (aB) (aA (aP (m:=1) (n:=1) (r:=2) rfl rfl (by decide)) ?_));simp only[zz];refine aA (aC) (aG (aV (aD fun K15 k15=>aD fun K16 k16=>wp_region_lit (aA (aB) (aA (bY (m:=2) (n:=3) rfl rfl (by decide)) (aG (k16 _ _ ?_)))))));refine cG rfl (wp_skip (k15 _ _ ?_));refine aD fun K17 k17=>wp_block (wp_region_lit (aA (aB) ?_));simp only[zz];refine aA (aB) (aA (aB) (aA (aB) ?_));simp only[zz];refine aA (aI bQ aQ rfl rfl (by omega) (by omega) (bV (Int.toNat_natCast _))) (aA (aH bG aF rfl rfl (by decide) (by decide) rfl) ?_);simp only[zz];refine aK rfl ((jG.cor (hrow.ext m.ext) (c:=2) (by decide)).lies aJ aF) ?_;simp only[zz];refine pQ m 0 Kz rfl rfl (fun m=>Re (p:=t.c) m 0 rfl (by omega)) ?_;clear m;rintro v i u m ⟨A3,cap3,n3,hn3,rfl,rfl⟩;simp only[zF,zG] at m;refine aA (aC) (aG (k17 _ _ ?_));refine wp_region_lit (aA (aB) (aA (aP (m:=2) (n:=1) (r:=3) rfl rfl (by decide)) ?_));simp only[zz];refine aA (aC) (aG (aV (aD fun K18 k18=>aD fun K19 k19=>wp_region_lit (aA (aB) (aA (eU (m:=3) (n:=3) rfl rfl (by decide)) (aG (k19 _ _ ?_)))))));refine gX rfl (wp_exit (k7 _ _ ?_));refine wp_region_lit (aA (aB) ?_);simp only[zz];refine aA (aP rfl rfl (aM (by omega) (by omega))) (aA (aC) (aG ?_));simp only[zz];simp only[Exit.inBlock,Exit.then];refine ⟨N - (k + 1),_,?_,rfl,?_,?_⟩
   · omega
   · simp only[zz,zv]
   ·
    simp only[zQ,zR,zD,zE];exact ⟨k + 1,_,_,_,rfl,(m.reO 0 rfl ((m.o 0 rfl).as (by rw [yQ ht]))),by rw [yQ ht];exact hn3,by omega,rfl⟩
  ·
   have hkN : k = N:=by omega
   rw [hkN,show ts.take N = ts from List.take_of_length_le (by rw [hT.len];exact Nat.le_refl _)] at m hn3;refine wp_exit (k3 _ _ ?_);refine aD fun K20 k20=>wp_region_lit (aA (aB) (aA (aC) (aG (k20 _ _ ?_))));refine wp_ret ?_;simp only[zz];try simp only[Exit.inBlock,Exit.then,if_true]
   refine bM rfl rfl ?_;try simp only[zD,zE]
   exact ⟨_,rfl,m.ext,⟨_,_,_,hn3,rfl,(m.o 0 rfl)⟩⟩
theorem aaj {ts : List T3} {N cap : Nat} {A : Option Addr} {p q : P3} (w : World) (hT : mU aW 9 w A N ts) (hN : N ≤ 1000000000) : eK prog 101 [.slice A N cap,pt p,pt q] w (fun v _=>v = .tuple #[pt ((bS ts p q).getD p),.bool (bS ts p q).isSome]):=by
 refine ⟨adu,?_⟩;have m:=cA.refl w
 go_enter func101,ntmps101
 refine aD fun K1 k1=>wp_region_lit (eD m rfl ?_);clear m;intro g1 u m;simp only[zz];refine eD m rfl ?_;clear m;intro g2 u m;simp only[zz];refine bF m bR rfl ?_;clear m;intro g3 u m;refine aA (aC) (aG (k1 _ _ ?_));refine aD fun K2 k2=>aD fun K3 k3=>wp_region_lit (aA (aC) (aG (k3 _ _ ?_)));refine wp_block ?_;simp only[zz];try simp only[Nat.zero_add,Nat.reduceAdd,Nat.reduceMul,Int.reduceToNat]
 refine bK [8] [7,9,10,11,12,13,14,15,16,17,18,19,20,21,22,23,24,25,26,27,28,29,30,31,32,33,34,35,36,37,38,39,40,41,42,43,44,45,46,47] (fun n vs wl=>∃ (k : Nat),vs = [.int .i64 (k:Int)] ∧ cA w wl [bI g3 [.int .i64 0,.int .i64 0,.int .i64 0] 48,bI g2 (uZ q) 48,bI g1 (uZ p) 48] ∧ (bS (ts.take k) p q = none) ∧ (k ≤ N) ∧ (n = N - k)) ?_ ?_
 ·
  apply Exists.intro;simp only[zQ,zR,zD,zE];exact ⟨0,rfl,m,rfl,Nat.zero_le _,rfl⟩
 ·
  intro n vs wr hI u;clear m;obtain ⟨k,rfl,m,hb0,hk,hn⟩:=hI;simp only[zu,zF,zG];refine aD fun K4 k4=>aD fun K5 k5=>wp_region_lit (aA (aB) (aA (aB) (aA (aX rfl bQ rfl) (aA (cF rfl rfl) ?_))));simp only[zz];refine aG (k5 _ _ ?_);refine bW rfl (fun hc1=>?_) (fun hc1=>?_)
  ·
   obtain ⟨t,ht,a,rfl,hrow⟩:=hT.get (i:=k) (by omega);refine wp_skip (k4 _ _ ?_);refine aD fun K6 k6=>wp_block (aD fun K7 k7=>wp_region_lit (aA (aC) (aG (k7 _ _ ?_))));refine wp_block (wp_loop_rounds 4 (dS (aD fun K8 k8=>aD fun K9 k9=>wp_region_lit (aA (aB) (aA (bY (m:=0) (n:=3) rfl rfl (by decide)) (aG (k9 _ _ ?_)))))));refine cG rfl (wp_skip (k8 _ _ ?_));refine aD fun K10 k10=>wp_block (aD fun K11 k11=>?_);simp only[zz];refine mq m aO (by kernel_rfl) (aL (aB) (aL (aB) (aL (aB) ?_)));simp only[zz];refine aL (aI bQ aQ rfl rfl (by omega) (by omega) (bV (Int.toNat_natCast _))) (aL (aH bG aF rfl rfl (by decide) (by decide) rfl) ?_);simp only[zz];refine ql rfl (fun u m=>((jG.cor (hrow.ext m.ext) (c:=0) (by omega)).lies aJ aF)) ?_;simp only[zz];refine ql rfl (fun u m=>((m.b 2 rfl).full aJ aF)) ?_;simp only[zz];refine aL (cW rfl rfl) (aL (aB) (cO rfl (fun hb=>aB) (cO rfl (fun hb=>aB) ?_)));simp only[zz];refine cO rfl (fun hb=>aB) (cO rfl (fun hb=>aP (m:=0) (n:=1) (r:=1) (bO hb rfl) rfl (by decide)) (cO rfl (fun hb=>dJ (m:=1) (n:=3) (r:=1) (bO hb rfl) rfl (by decide) (by decide)) ?_));simp only[zz];refine cO rfl (fun hb=>aI bQ aQ (bO hb rfl) (bO hb rfl) (by omega) (by omega) (bV (Int.toNat_natCast _))) (cO rfl (fun hb=>aH bG aF (bO hb rfl) (bO hb rfl) (by decide) (by decide) rfl) ?_);simp only[zz];refine iD rfl (fun hb u m=>cE (bO hb rfl) ((jG.cor (hrow.ext m.ext) (c:=1) (by omega)).lies aJ aF)) (iD rfl (fun hb u m=>cE rfl ((m.b 1 rfl).full aJ aF)) (cO rfl (fun hb=>cW (bO hb rfl) (bO hb rfl)) (aL (cL rfl rfl rfl) (dF ?_))));clear m;intro u m;refine k11 _ _ ?_;simp only[zz];refine lY rfl (fun hc3=>?_) (fun hc3=>?_)
   ·
    have hf:=vA ((pF ht hb0).trans (ae0  (tJ.1 hc3)));refine aD fun K12 k12=>wp_region_lit (aA (aB) (aA (aB) (aA (aB) (aA (aP (m:=0) (n:=2) (r:=2) rfl rfl (by decide)) ?_))));simp only[zz];refine aA (dJ (m:=2) (n:=3) (r:=2) rfl rfl (by decide) (by decide)) ?_;simp only[zz];refine aA (aI bQ aQ rfl rfl (by omega) (by omega) (bV (Int.toNat_natCast _))) (aA (aH bG aF rfl rfl (by decide) (by decide) rfl) ?_);simp only[zz];refine aK rfl ((jG.cor (hrow.ext m.ext) (c:=2) (by omega)).lies aJ aF) ?_;simp only[zz];refine aU m 0 rfl rfl rfl aF (eB rfl) rfl ?_;clear m;intro u m;simp only[zy,zx,bE,zF,zG,Nat.reduceAdd] at m;refine aA (aC) (aG (k12 _ _ ?_));refine wp_ret ?_;simp only[zz];try simp only[Exit.inBlock,Exit.then,if_true]
    refine kK rfl ⟨_,rfl,((m.b 0 rfl).full aJ aF)⟩ rfl ?_;try simp only[zD,zE]
    exact ⟨_,rfl,m.ext,by rw [hf];rfl⟩
   ·
    have hq0:=Bc hc3;refine wp_skip (k10 _ _ ?_);refine wp_region_lit (aA (aB) (aA (aP (m:=0) (n:=1) (r:=1) rfl rfl (by decide)) (aA (aC) (aG (aV (aD fun K13 k13=>aD fun K14 k14=>wp_region_lit (aA (aB) ?_)))))));simp only[zz];refine aA (bY (m:=1) (n:=3) rfl rfl (by decide)) (aG (k14 _ _ ?_));refine cG rfl (wp_skip (k13 _ _ ?_));refine aD fun K15 k15=>wp_block (aD fun K16 k16=>?_);simp only[zz];refine mq m aO (by kernel_rfl) (aL (aB) (aL (aB) (aL (aB) ?_)));simp only[zz];refine aL (aI bQ aQ rfl rfl (by omega) (by omega) (bV (Int.toNat_natCast _))) (aL (aH bG aF rfl rfl (by decide) (by decide) rfl) ?_);simp only[zz];refine ql rfl (fun u m=>((jG.cor (hrow.ext m.ext) (c:=1) (by omega)).lies aJ aF)) ?_;simp only[zz];refine ql rfl (fun u m=>((m.b 2 rfl).full aJ aF)) ?_;simp only[zz];refine aL (cW rfl rfl) (aL (aB) (cO rfl (fun hb=>aB) (cO rfl (fun hb=>aB) ?_)));simp only[zz];refine cO rfl (fun hb=>aB) (cO rfl (fun hb=>aP (m:=1) (n:=1) (r:=2) (bO hb rfl) rfl (by decide)) (cO rfl (fun hb=>dJ (m:=2) (n:=3) (r:=2) (bO hb rfl) rfl (by decide) (by decide)) ?_));simp only[zz];refine cO rfl (fun hb=>aI bQ aQ (bO hb rfl) (bO hb rfl) (by omega) (by omega) (bV (Int.toNat_natCast _))) (cO rfl (fun hb=>aH bG aF (bO hb rfl) (bO hb rfl) (by decide) (by decide) rfl) ?_);simp only[zz];refine iD rfl (fun hb u m=>cE (bO hb rfl) ((jG.cor (hrow.ext m.ext) (c:=2) (by omega)).lies aJ aF)) (iD rfl (fun hb u m=>cE rfl ((m.b 1 rfl).full aJ aF)) (cO rfl (fun hb=>cW (bO hb rfl) (bO hb rfl)) (aL (cL rfl rfl rfl) (dF ?_))));clear m;intro u m;refine k16 _ _ ?_;simp only[zz];refine lY rfl (fun hc3=>?_) (fun hc3=>?_)
    ·
     have hf:=vA ((pF ht hb0).trans (ae1 hq0 (tJ.1 hc3)));refine aD fun K17 k17=>wp_region_lit (aA (aB) (aA (aB) (aA (aB) (aA (aP (m:=1) (n:=2) (r:=3) rfl rfl (by decide)) ?_))));simp only[zz];refine aA (dJ (m:=3) (n:=3) (r:=0) rfl rfl (by decide) (by decide)) ?_;simp only[zz];refine aA (aI bQ aQ rfl rfl (by omega) (by omega) (bV (Int.toNat_natCast _))) (aA (aH bG aF rfl rfl (by decide) (by decide) rfl) ?_);simp only[zz];refine aK rfl ((jG.cor (hrow.ext m.ext) (c:=0) (by omega)).lies aJ aF) ?_;simp only[zz];refine aU m 0 rfl rfl rfl aF (eB rfl) rfl ?_;clear m;intro u m;simp only[zy,zx,bE,zF,zG,Nat.reduceAdd] at m;refine aA (aC) (aG (k17 _ _ ?_));refine wp_ret ?_;simp only[zz];try simp only[Exit.inBlock,Exit.then,if_true]
     refine kK rfl ⟨_,rfl,((m.b 0 rfl).full aJ aF)⟩ rfl ?_;try simp only[zD,zE]
     exact ⟨_,rfl,m.ext,by rw [hf];rfl⟩
    ·
     have hq1:=Bc hc3;refine wp_skip (k15 _ _ ?_);refine wp_region_lit (aA (aB) (aA (aP (m:=1) (n:=1) (r:=2) rfl rfl (by decide)) (aA (aC) (aG (aV (aD fun K18 k18=>aD fun K19 k19=>wp_region_lit (aA (aB) ?_)))))));simp only[zz];refine aA (bY (m:=2) (n:=3) rfl rfl (by decide)) (aG (k19 _ _ ?_));refine cG rfl (wp_skip (k18 _ _ ?_));refine aD fun K20 k20=>wp_block (aD fun K21 k21=>?_);simp only[zz];refine mq m aO (by kernel_rfl) (aL (aB) (aL (aB) (aL (aB) ?_)));simp only[zz];refine aL (aI bQ aQ rfl rfl (by omega) (by omega) (bV (Int.toNat_natCast _))) (aL (aH bG aF rfl rfl (by decide) (by decide) rfl) ?_);simp only[zz];refine ql rfl (fun u m=>((jG.cor (hrow.ext m.ext) (c:=2) (by omega)).lies aJ aF)) ?_;simp only[zz];refine ql rfl (fun u m=>((m.b 2 rfl).full aJ aF)) ?_;simp only[zz];refine aL (cW rfl rfl) (aL (aB) (cO rfl (fun hb=>aB) (cO rfl (fun hb=>aB) ?_)));simp only[zz];refine cO rfl (fun hb=>aB) (cO rfl (fun hb=>aP (m:=2) (n:=1) (r:=3) (bO hb rfl) rfl (by decide)) (cO rfl (fun hb=>dJ (m:=3) (n:=3) (r:=0) (bO hb rfl) rfl (by decide) (by decide)) ?_));simp only[zz];refine cO rfl (fun hb=>aI bQ aQ (bO hb rfl) (bO hb rfl) (by omega) (by omega) (bV (Int.toNat_natCast _))) (cO rfl (fun hb=>aH bG aF (bO hb rfl) (bO hb rfl) (by decide) (by decide) rfl) ?_);simp only[zz];refine iD rfl (fun hb u m=>cE (bO hb rfl) ((jG.cor (hrow.ext m.ext) (c:=0) (by omega)).lies aJ aF)) (iD rfl (fun hb u m=>cE rfl ((m.b 1 rfl).full aJ aF)) (cO rfl (fun hb=>cW (bO hb rfl) (bO hb rfl)) (aL (cL rfl rfl rfl) (dF ?_))));clear m;intro u m;refine k21 _ _ ?_;simp only[zz];refine lY rfl (fun hc3=>?_) (fun hc3=>?_)
     ·
      have hf:=vA ((pF ht hb0).trans (ae2 hq0 hq1 (tJ.1 hc3)));refine aD fun K22 k22=>wp_region_lit (aA (aB) (aA (aB) (aA (aB) (aA (aP (m:=2) (n:=2) (r:=4) rfl rfl (by decide)) ?_))));simp only[zz];refine aA (dJ (m:=4) (n:=3) (r:=1) rfl rfl (by decide) (by decide)) ?_;simp only[zz];refine aA (aI bQ aQ rfl rfl (by omega) (by omega) (bV (Int.toNat_natCast _))) (aA (aH bG aF rfl rfl (by decide) (by decide) rfl) ?_);simp only[zz];refine aK rfl ((jG.cor (hrow.ext m.ext) (c:=1) (by omega)).lies aJ aF) ?_;simp only[zz];refine aU m 0 rfl rfl rfl aF (eB rfl) rfl ?_;clear m;intro u m;simp only[zy,zx,bE,zF,zG,Nat.reduceAdd] at m;refine aA (aC) (aG (k22 _ _ ?_));refine wp_ret ?_;simp only[zz];try simp only[Exit.inBlock,Exit.then,if_true]
      refine kK rfl ⟨_,rfl,((m.b 0 rfl).full aJ aF)⟩ rfl ?_;try simp only[zD,zE]
      exact ⟨_,rfl,m.ext,by rw [hf];rfl⟩
     ·
      have hq2:=Bc hc3;refine wp_skip (k20 _ _ ?_);refine wp_region_lit (aA (aB) (aA (aP (m:=2) (n:=1) (r:=3) rfl rfl (by decide)) (aA (aC) (aG (aV (aD fun K23 k23=>aD fun K24 k24=>wp_region_lit (aA (aB) ?_)))))));simp only[zz];refine aA (eU (m:=3) (n:=3) rfl rfl (by decide)) (aG (k24 _ _ ?_));refine gX rfl (wp_exit (k6 _ _ ?_));refine wp_region_lit (aA (aB) ?_);simp only[zz];refine aA (aP rfl rfl (aM (by omega) (by omega))) (aA (aC) (aG ?_));simp only[zz];simp only[Exit.inBlock,Exit.then];refine ⟨N - (k + 1),_,?_,rfl,?_,?_⟩
      · omega
      · simp only[zz,zv]
      ·
       simp only[zQ,zR,zD,zE];exact ⟨k + 1,rfl,m,(pF ht hb0).trans (ae3 hq0 hq1 hq2),by omega,rfl⟩
  ·
   have hkN : k = N:=by omega
   rw [hkN,show ts.take N = ts from List.take_of_length_le (by rw [hT.len];exact Nat.le_refl _)] at hb0;refine wp_exit (k2 _ _ ?_);refine aD fun K25 k25=>wp_region_lit (aK rfl ((m.b 2 rfl).full aJ aF) ?_);simp only[zz];refine aU m 0 rfl rfl rfl aF (eB rfl) rfl ?_;clear m;intro u m;simp only[zy,zx,bE,zF,zG,Nat.reduceAdd] at m;refine aA (aC) (aG (k25 _ _ ?_));refine wp_ret ?_;simp only[zz];try simp only[Exit.inBlock,Exit.then,if_true]
   refine kK rfl ⟨_,rfl,((m.b 0 rfl).full aJ aF)⟩ rfl ?_;try simp only[zD,zE]
   exact ⟨_,rfl,m.ext,by rw [hb0];rfl⟩
theorem Wh {ts : List T3} {N cap : Nat} {A : Option Addr} {p : P3} (w : World) (hT : dZ w A N ts) (hN : N ≤ 100000000) : eK prog 64 [.slice A N cap,pt p] w (fun v _=>v = .bool (Ez ts p)):=by
 refine ⟨afQ,?_⟩;have m:=cA.refl w
 go_enter func64,ntmps64
 refine aD fun K1 k1=>wp_region_lit (eD m rfl ?_);clear m;intro g1 u m;refine aA (aC) (aG (k1 _ _ ?_));refine aD fun K2 k2=>wp_region_lit (aA (aC) ?_);replace m:=m.nilO 53 9;refine aG (k2 _ _ ?_);refine aD fun K3 k3=>wp_region_lit (aA (aC) ?_);simp only[zz];replace m:=m.nilO 48 3;refine aG (k3 _ _ ?_);refine aD fun K4 k4=>aD fun K5 k5=>wp_region_lit (aA (aC) (aG (k5 _ _ ?_)));refine wp_block ?_;simp only[zz];try simp only[Nat.zero_add,Nat.reduceAdd,Nat.reduceMul,Int.reduceToNat]
 refine bK [5,6,7] [8,14,15,16,17,18,19,20,21,22,23,24,25,26,27,28,29,30,31,32,33,34,35,36,37,38,39,40,41,42,43,44,45,46,47,48,49] (fun n vs wl=>∃ (k n5 n6 cap5 cap6 : Nat) (A5 A6 : Option Addr),vs = [.slice A5 n5 cap5,.slice A6 n6 cap6,.int .i64 (k:Int)] ∧ cA w wl [oI 48 3 A6 n6 cap6 ((qL (ts.take k) p).flatMap uZ),oI 53 9 A5 n5 cap5 ((mL (ts.take k) p).flatMap aW),bI g1 (uZ p) 48] ∧ (n5 ≤ k * 3) ∧ (n6 ≤ k * 3) ∧ (k ≤ N) ∧ (n = N - k)) ?_ ?_
 ·
  apply Exists.intro;simp only[zQ,zR,zD,zE];exact ⟨0,_,_,_,_,_,_,rfl,m,Nat.le_refl _,Nat.le_refl _,Nat.zero_le _,rfl⟩
 ·
  intro n vs wr hI u;clear m;obtain ⟨k,n5,n6,cap5,cap6,A5,A6,rfl,m,hl5,hl6,hk,hn⟩:=hI;simp only[zu,zF,zG];refine aD fun K6 k6=>aD fun K7 k7=>wp_region_lit (aA (aB) (aA (aB) (aA (aX rfl bQ rfl) (aA (cF rfl rfl) ?_))));simp only[zz];refine aG (k7 _ _ ?_);refine bW rfl (fun hc1=>?_) (fun hc1=>?_)
  ·
   obtain ⟨t,ht,_,a,rfl,hrow⟩:=hT.get (i:=k) (by omega);refine wp_skip (k6 _ _ ?_);refine aD fun K8 k8=>wp_block (aD fun K9 k9=>wp_region_lit (aA (aC) (aG (k9 _ _ ?_))));refine wp_block ?_;simp only[zz];try simp only[Nat.zero_add,Nat.reduceAdd,Nat.reduceMul,Int.reduceToNat]
   refine bK [5,6,8] [20,21,22,23,24,25,26,27,28,29,30,31,32,33,34,35,36,37,38,39,40,41,42,43,44,45,46,47,48,49] (fun n vs wl=>∃ (c n5 n6 cap5 cap6 : Nat) (A5 A6 : Option Addr),vs = [.slice A5 n5 cap5,.slice A6 n6 cap6,.int .i64 (c:Int)] ∧ cA w wl [oI 48 3 A6 n6 cap6 ((rN ts p (k) t (c)).flatMap uZ),oI 53 9 A5 n5 cap5 ((wY ts p (k) t (c)).flatMap aW),bI g1 (uZ p) 48] ∧ (n5 ≤ k * 3 + c) ∧ (n6 ≤ k * 3 + c) ∧ (c ≤ 3) ∧ (n = 3 - c)) ?_ ?_
   ·
    rw [← abR (t:=t),← Zs (t:=t)] at m;apply Exists.intro;simp only[zQ,zR,zD,zE];exact ⟨0,_,_,_,_,_,_,rfl,m,hl5,hl6,Nat.zero_le _,rfl⟩
   ·
    intro n vs wr hI u;clear m;obtain ⟨c,n5,n6,cap5,cap6,A5,A6,rfl,m,hl5,hl6,hc,hn2⟩:=hI;simp only[zu,zF,zG];refine aD fun K10 k10=>aD fun K11 k11=>wp_region_lit (aA (aB) (aA (cF rfl rfl) (aG (k11 _ _ ?_))));simp only[zz];refine bW rfl (fun hc2=>?_) (fun hc2=>?_)
    ·
     have hc3 : c < 3:=by omega
     refine wp_skip (k10 _ _ ?_);refine aD fun K12 k12=>wp_block (aD fun K13 k13=>mq m aO (by kernel_rfl) (aL (aB) (aL (aB) (aL (aB) ?_))));simp only[zz];refine aL (aI bQ aQ rfl rfl (by omega) (by omega) (bV (Int.toNat_natCast _))) ?_;simp only[zz];refine aL (aH bG aF rfl rfl (by omega) (by omega) (bV (Int.toNat_natCast _))) ?_;simp only[zz];refine ql rfl (fun u m=>((jG.cor (hrow.ext m.ext) (c:=c) (by omega)).lies aJ aF)) ?_;simp only[zz];refine ql rfl (fun u m=>((m.b 2 rfl).full aJ aF)) ?_;simp only[zz];refine aL (cW rfl rfl) (dF ?_);clear m;intro u m;refine k13 _ _ ?_;simp only[zz];refine bW rfl (fun hc3=>?_) (fun hc3=>?_)
     ·
      have hcp : t.cor c = p:=P3.eq hc3.1 hc3.2.1 hc3.2.2;refine aD fun K14 k14=>wp_region_lit (aA (aB) (aA (aB) (aA (aB) ?_)));simp only[zz];refine aA (aI bQ aQ rfl rfl (by omega) (by omega) (bV (Int.toNat_natCast _))) ?_;simp only[zz];refine aK rfl ((hrow.ext m.ext).lies eP aQ) ?_;simp only[zz];refine Be rfl ?_;intro u g2 e hg hB;replace m:=m.newB e hg hB;clear e hg hB;simp only[zz];refine dT m 2 rfl rfl bQ mB rfl (by decide) rfl rfl rfl (m.b 0 rfl).rowsO (qV rfl) (by omega) (by omega) ?_;clear m;intro A5 cap5 u m;simp only[zF,zG] at m;refine aA (aC) (aG (k14 _ _ ?_));refine wp_region_lit (aA (aB) (aA (aB) ?_));simp only[zz];refine aA (aB) (aA (aB) ?_);simp only[zz];refine aA (aP rfl rfl (aM (by omega) (by omega))) ?_;simp only[zz];refine aA (dJ rfl rfl (by omega) (Io (k:=c + 1))) ?_;simp only[zz];refine aA (aI bQ aQ rfl rfl (by omega) (by omega) (bV (Int.toNat_natCast _))) ?_;simp only[zz];refine aA (aH bG aF rfl rfl (by omega) (by omega) (bV (Int.toNat_natCast _))) ?_;simp only[zz];refine aK rfl ((jG.cor (hrow.ext m.ext) (c:=(c + 1) % 3) (by omega)).lies aJ aF) ?_;simp only[zz];refine wJ rfl ?_;intro u g3 e hg hB;replace m:=m.newB e hg hB;clear e hg hB;simp only[zz];refine dT m 2 rfl rfl kX vG rfl (by decide) rfl rfl rfl (m.b 0 rfl).rowsO (qV rfl) (by omega) (by omega) ?_;clear m;intro A6 cap6 u m;simp only[zF,zG] at m;refine aA (aC) (aG (k12 _ _ ?_));refine wp_region_lit (aA (aB) ?_);simp only[zz];refine aA (aP rfl rfl (aM (by omega) (by omega))) (aA (aC) (aG ?_));simp only[zz];simp only[Exit.inBlock,Exit.then];refine ⟨3 - (c + 1),_,?_,rfl,?_,?_⟩
      · omega
      · simp only[zz,zv]
      ·
       simp only[zQ,zR,zD,zE];exact ⟨c + 1,_,_,_,_,_,_,rfl,(((m.reO 3 rfl ((m.o 3 rfl).as (by rw [Vp hcp,List.flatMap_append];rfl))).reO 2 rfl ((m.o 2 rfl).as (by rw [Qr hcp,List.flatMap_append];rfl))).sel [false,false,true,true,true]),by omega,by omega,by omega,rfl⟩
     ·
      have hcp : ¬ t.cor c = p:=fun h=>hc3 (by rw [h];exact ⟨rfl,rfl,rfl⟩);refine wp_skip (k12 _ _ ?_);refine wp_region_lit (aA (aB) ?_);simp only[zz];refine aA (aP rfl rfl (aM (by omega) (by omega))) (aA (aC) (aG ?_));simp only[zz];simp only[Exit.inBlock,Exit.then];refine ⟨3 - (c + 1),_,?_,rfl,?_,?_⟩
      · omega
      · simp only[zz,zv]
      ·
       simp only[zQ,zR,zD,zE];exact ⟨c + 1,_,_,_,_,_,_,rfl,((m.reO 1 rfl ((m.o 1 rfl).as (by rw [Zr hcp]))).reO 0 rfl ((m.o 0 rfl).as (by rw [Vq hcp]))),by omega,by omega,by omega,rfl⟩
    ·
     obtain rfl : c = 3:=by omega
     rw [abS ht,Zt ht] at m;refine wp_exit (k8 _ _ ?_);refine wp_region_lit (aA (aB) ?_);simp only[zz];refine aA (aP rfl rfl (aM (by omega) (by omega))) (aA (aC) (aG ?_));simp only[zz];simp only[Exit.inBlock,Exit.then];refine ⟨N - (k + 1),_,?_,rfl,?_,?_⟩
     · omega
     · simp only[zz,zv]
     ·
      simp only[zQ,zR,zD,zE];exact ⟨k + 1,_,_,_,_,_,_,rfl,m,by omega,by omega,by omega,rfl⟩
  ·
   have hkN : k = N:=by omega
   rw [hkN,show ts.take N = ts from List.take_of_length_le (by rw [hT.len];exact Nat.le_refl _)] at m;obtain ⟨M,hM⟩ : ∃ M,M = mL ts p:=⟨_,rfl⟩
   obtain ⟨S,hS⟩ : ∃ S,S = qL ts p:=⟨_,rfl⟩
   rw [← hM,← hS] at m;have h5 : M.length = n5:=(m.o 1 rfl).num adq (by decide);have h6 : S.length = n6:=(m.o 0 rfl).num Ni (by decide);have hle6:=(m.o 0 rfl).le;have hP : Ez ts p = S.any (fun s=>mM M p s (M.length - 1) s):=by rw [hM,hS];rfl
   clear hM hS;refine wp_exit (k4 _ _ ?_);refine aD fun K15 k15=>aD fun K16 k16=>wp_region_lit (aA (aC) (aG (k16 _ _ ?_)));refine wp_block ?_;simp only[zz];try simp only[Nat.zero_add,Nat.reduceAdd,Nat.reduceMul,Int.reduceToNat]
   refine bK [9] [4,10,11,12,13,50,51,52,53,54,55,56,57,58,59,60,61,62,63,64,65,66,67,68,69,70,71,72,73,74,75,76,77,78,79,80,81] (fun n vs wl=>∃ (k2 : Nat),vs = [.int .i64 (k2:Int)] ∧ cA w wl [oI 48 3 A6 n6 cap6 ((S).flatMap uZ),oI 53 9 A5 n5 cap5 ((M).flatMap aW),bI g1 (uZ p) 48] ∧ ((S.take k2).any (fun s=>mM M p s (M.length - 1) s) = false) ∧ (k2 ≤ n6) ∧ (n = n6 - k2)) ?_ ?_
   ·
    apply Exists.intro;simp only[zQ,zR,zD,zE];exact ⟨0,rfl,m,rfl,Nat.zero_le _,rfl⟩
   ·
    intro n vs wr hI u;clear m;obtain ⟨k2,rfl,m,hno,hk2,hn3⟩:=hI;simp only[zu,zF,zG];refine aD fun K17 k17=>aD fun K18 k18=>wp_region_lit (aA (aB) (aA (aB) (aA (aX rfl kX rfl) (aA (cF rfl rfl) ?_))));simp only[zz];refine aG (k18 _ _ ?_);refine bW rfl (fun hc4=>?_) (fun hc4=>?_)
    ·
     obtain ⟨sx,hsx⟩ : ∃ sx,S[k2]? = some sx:=⟨_,List.getElem?_eq_getElem (by omega)⟩
     obtain ⟨gO,rfl⟩:=(m.o 0 rfl).some (by omega);refine wp_skip (k17 _ _ ?_);refine aD fun K19 k19=>wp_block (aD fun K20 k20=>wp_region_lit (aA (aB) (aA (aB) ?_)));simp only[zz];refine aA (aI kX aF rfl rfl (by omega) (by omega) (bV (Int.toNat_natCast _))) ?_;simp only[zz];refine aK rfl (((m.o 0 rfl).at Ni hsx).lies aJ aF) ?_;simp only[zz];refine bF m bR rfl ?_;clear m;intro g2 u m;simp only[zz];refine aU m 0 rfl rfl rfl aF (eB rfl) rfl ?_;clear m;intro u m;simp only[zy,zx,bE,zF,zG,Nat.reduceAdd] at m;refine aG (k20 _ _ ?_);refine aD fun K21 k21=>wp_region_lit (aA (aC) (aG (k21 _ _ ?_)));refine wp_block ?_;simp only[zz];try simp only[Nat.zero_add,Nat.reduceAdd,Nat.reduceMul,Int.reduceToNat]
     refine bK [11] [4,12,13,60,61,62,63,64,65,66,67,68,69,70,71,72,73,74,75,76,77,78,79,80,81] (fun n vs wl=>∃ (j : Nat) (x : P3),vs = [.int .i64 (j:Int)] ∧ cA w wl [bI g2 (uZ x) 48,oI 48 3 (some ⟨gO,0,none⟩) n6 cap6 (S.flatMap uZ),oI 53 9 A5 n5 cap5 ((M).flatMap aW),bI g1 (uZ p) 48] ∧ (mM M p sx (M.length - 1) sx = mM M p sx (M.length - j) x) ∧ (1 ≤ j) ∧ (j ≤ n5 + 1) ∧ (n = n5 + 1 - j)) ?_ ?_
     ·
      apply Exists.intro;simp only[zQ,zR,zD,zE];exact ⟨1,sx,rfl,m,rfl,Nat.le_refl _,by omega,rfl⟩
     ·
      intro n vs wr hI u;clear m;obtain ⟨j,x,rfl,m,hrg,hj,hj2,hn4⟩:=hI;simp only[zu,zF,zG];refine aD fun K22 k22=>aD fun K23 k23=>wp_region_lit (aA (aB) (aA (aB) (aA (aX rfl bQ rfl) (aA (cF rfl rfl) ?_))));simp only[zz];refine aG (k23 _ _ ?_);refine bW rfl (fun hc5=>?_) (fun hc5=>?_)
      ·
       obtain ⟨f,hf⟩ : ∃ f,M.length - j = f + 1:=⟨M.length - j - 1,by omega⟩
       rw [hf] at hrg;refine wp_skip (k22 _ _ ?_);refine aD fun K24 k24=>wp_block (aD fun K25 k25=>wp_region_lit (aA (aB) ?_));simp only[zz];refine aK rfl ((m.b 3 rfl).full aJ aF) ?_;simp only[zz];refine aK rfl ((m.b 0 rfl).full aJ aF) ?_;simp only[zz];refine dY m rfl rfl (aaj (p:=p) (q:=x) _ ((m.o 2 rfl).lat adq (by decide)) (by omega)) ?_;clear m;rintro v u m rfl;refine aA (aB) (aA (aY rfl rfl) (aA (aY rfl rfl) ?_));simp only[zz];refine bF m bR rfl ?_;clear m;intro g3 u m;simp only[zz];refine aU m 0 rfl rfl rfl aF (eB rfl) rfl ?_;clear m;intro u m;simp only[zy,zx,bE,zF,zG,Nat.reduceAdd] at m;refine aA (aC) (aG (k25 _ _ ?_));refine aD fun K26 k26=>aD fun K27 k27=>wp_region_lit (aA (aB) (aA (eZ rfl) (aG (k27 _ _ ?_))));simp only[zz];refine lY rfl (fun hc6=>?_) (fun hc6=>?_)
       ·
        have hbn : bS M p x = none:=by cases hb : bS M p x with | none=>rfl | some y=>rw [hb] at hc6;cases hc6
        have hz : mM M p sx (M.length - 1) sx = false:=by rw [hrg,Is hbn]
        have hno2 : (S.take (k2 + 1)).any (fun s=>mM M p s (M.length - 1) s) = false:=by rw [mN hsx,hno,hz];rfl
        refine wp_exit (k19 _ _ ?_);refine wp_region_lit (aA (aB) ?_);simp only[zz];refine aA (aP rfl rfl (aM (by omega) (by omega))) (aA (aC) (aG ?_));simp only[zz];simp only[Exit.inBlock,Exit.then];refine ⟨n6 - (k2 + 1),_,?_,rfl,?_,?_⟩
        · omega
        · simp only[zz,zv]
        ·
         simp only[zQ,zR,zD,zE];exact ⟨k2 + 1,rfl,(m.sel [false,false,true,true,true]),hno2,by omega,rfl⟩
       ·
        obtain ⟨y,hy⟩ : ∃ y,bS M p x = some y:=by cases hb : bS M p x with | none=>rw [hb] at hc6;cases hc6 | some y=>exact ⟨y,rfl⟩
        rw [hy] at m;simp only[Option.getD_some] at m;refine wp_skip (k26 _ _ ?_);refine aD fun K28 k28=>wp_region_lit (aK rfl ((m.b 0 rfl).full aJ aF) ?_);simp only[zz];refine aU m 1 rfl rfl rfl aF (eB rfl) rfl ?_;clear m;intro u m;simp only[zy,zx,bE,zF,zG,Nat.reduceAdd] at m;refine aG (k28 _ _ ?_);refine aD fun K29 k29=>mq m aO (by kernel_rfl) (ql rfl (fun u m=>((m.b 1 rfl).full aJ aF)) ?_);simp only[zz];refine aL (aB) (aL (aB) ?_);simp only[zz];refine aL (aI kX aF rfl rfl (by omega) (by omega) (bV (Int.toNat_natCast _))) ?_;simp only[zz];refine ql rfl (fun u m=>(((m.o 2 rfl).at Ni hsx).lies aJ aF)) ?_;simp only[zz];refine aL (cW rfl rfl) (dF ?_);clear m;intro u m;refine k29 _ _ ?_;simp only[zz];refine bW rfl (fun hc7=>?_) (fun hc7=>?_)
        ·
         have hys : y = sx:=P3.eq hc7.1 hc7.2.1 hc7.2.2;have hz : S.any (fun s=>mM M p s (M.length - 1) s) = true:=rD hsx (by show mM M p sx (M.length - 1) sx = true;rw [hrg];exact Nk (by rw [hy,hys]));refine aD fun K30 k30=>wp_region_lit (aA (aC) (aG (k30 _ _ ?_)));refine wp_ret ?_;simp only[zz];try simp only[Exit.inBlock,Exit.then,if_true]
         refine bM rfl rfl ?_;try simp only[zD,zE]
         exact ⟨_,rfl,m.ext,by rw [hP,hz]⟩
        ·
         have hys : ¬ y = sx:=fun h=>hc7 (by rw [h];exact ⟨rfl,rfl,rfl⟩);refine wp_skip (k24 _ _ ?_);refine wp_region_lit (aA (aB) ?_);simp only[zz];refine aA (aP rfl rfl (aM (by omega) (by omega))) (aA (aC) (aG ?_));simp only[zz];simp only[Exit.inBlock,Exit.then];refine ⟨n5 + 1 - (j + 1),_,?_,rfl,?_,?_⟩
         · omega
         · simp only[zz,zv]
         ·
          simp only[zQ,zR,zD,zE];exact ⟨j + 1,y,rfl,(m.sel [false,true,true,true,true]),by rw [hrg,Iu hy hys,show M.length - (j + 1) = f by omega],by omega,by omega,rfl⟩
      ·
       have hz : mM M p sx (M.length - 1) sx = false:=by rw [hrg,show M.length - j = 0 by omega];rfl
       have hno2 : (S.take (k2 + 1)).any (fun s=>mM M p s (M.length - 1) s) = false:=by rw [mN hsx,hno,hz];rfl
       refine wp_exit (k19 _ _ ?_);refine wp_region_lit (aA (aB) ?_);simp only[zz];refine aA (aP rfl rfl (aM (by omega) (by omega))) (aA (aC) (aG ?_));simp only[zz];simp only[Exit.inBlock,Exit.then];refine ⟨n6 - (k2 + 1),_,?_,rfl,?_,?_⟩
       · omega
       · simp only[zz,zv]
       ·
        simp only[zQ,zR,zD,zE];exact ⟨k2 + 1,rfl,(m.sel [false,true,true,true]),hno2,by omega,rfl⟩
    ·
     have hk2 : k2 = S.length:=by omega
     rw [hk2,List.take_length] at hno;refine wp_exit (k15 _ _ ?_);refine aD fun K31 k31=>wp_region_lit (aA (aC) (aG (k31 _ _ ?_)));refine wp_ret ?_;simp only[zz];try simp only[Exit.inBlock,Exit.then,if_true]
     refine bM rfl rfl ?_;try simp only[zD,zE]
     exact ⟨_,rfl,m.ext,by rw [hP,hno]⟩
end Go.Proofs.YtfohfflkhpfjeaaGreatDoor
namespace Go.Proofs.YtfohfflkhpfjeaaGreatDoor
open Go.Proofs.Tryz
open Go.RowKit Go.Lith
set_option maxRecDepth 100000
attribute [local irreducible] wpList wpQuiet dW dM dK Code.wp
theorem Fo {all out : List E3} {e : E3} (h : 0 < kO all (e.2,e.1) ∨ 0 < kO out e) : nR all out e = out:=if_pos h
theorem Jc {all out : List E3} {e : E3} {k : Nat} (h1 : ¬ 0 < kO all (e.2,e.1)) (h2 : ¬ 0 < kO out e) (h : Vm out e = k) : nR all out e = out.take k ++ [e] ++ out.drop k:=by
 rw [nR,if_neg (fun h=>h.elim h1 h2),Qp,h]
theorem ad9 {w : World} {a : Addr} {e : E3} (h : jG w a (bP e)) : jG w a [.int .i64 e.1.x,.int .i64 e.1.y,.int .i64 e.1.z,.int .i64 e.2.x,.int .i64 e.2.y,.int .i64 e.2.z]:=h
theorem gt0 {n : Nat} : ((0 : Int) < (n : Int)) ↔ 0 < n:=by omega
theorem yZ {ts : List T3} {N cap : Nat} {A : Option Addr} (w : World) (hT : dZ w A N ts) (hN : N ≤ 100000000) : eK prog 18 [.slice A N cap] w (SL 57 6 ((aS ts).flatMap bP) (aS ts).length w):=by
 refine ⟨afb,?_⟩;have m:=cA.refl w
 go_enter func18,ntmps18
 refine aD fun K1 k1=>wp_region_lit (aA (aC) (aG (k1 _ _ ?_)));refine aD fun K2 k2=>wp_region_lit (aA (aB) ?_);simp only[zz];refine aZ rfl rfl (Sy _ (hT.ext m.ext) (by omega)) ?_;rintro v u e ⟨A3,cap3,n3,hn3,rfl,hN⟩;replace m:=m.newO e hN;clear e hN;have he3:=kZ ts;have htl:=hT.len;refine aA (aC) (aG (k2 _ _ ?_));refine aD fun K3 k3=>wp_region_lit (aA (aC) ?_);replace m:=m.nilO 57 6;refine aG (k3 _ _ ?_);refine aD fun K4 k4=>aD fun K5 k5=>wp_region_lit (aA (aC) ?_);simp only[zz];refine aG (k5 _ _ ?_);refine wp_block ?_;try simp only[Nat.zero_add,Nat.reduceAdd,Nat.reduceMul,Int.reduceToNat]
 refine bK [4,5] [6,7,8,9,12,13,14,15,16,17,18,19,20,21,22,23,24,25,26,27,28,29,30,31,32,33,34,35,36,37,38,39,40,41,42,43,44,45,46,47,48,49,50,51,52,53,54,55,56,57,58,59,60,61,62,63] (fun n vs wl=>∃ (k n4 cap4 : Nat) (A4 : Option Addr),vs = [.slice A4 n4 cap4,.int .i64 (k:Int)] ∧ cA w wl [oI 57 6 A4 n4 cap4 ((((bJ ts).take k).foldl (nR (bJ ts)) []).flatMap bP),oI 57 6 A3 n3 cap3 ((bJ ts).flatMap bP)] ∧ (n4 ≤ k) ∧ (k ≤ n3) ∧ (n = n3 - k)) ?_ ?_
 ·
  apply Exists.intro;simp only[zQ,zR,zD,zE];exact ⟨0,_,_,_,rfl,m,Nat.le_refl _,Nat.zero_le _,rfl⟩
 ·
  intro n vs wr hI u;clear m;obtain ⟨k,n4,cap4,A4,rfl,m,hl4,hk,hn⟩:=hI;simp only[zu,zF,zG];refine aD fun K6 k6=>aD fun K7 k7=>wp_region_lit (aA (aB) (aA (aB) (aA (aX rfl fL rfl) (aA (cF rfl rfl) ?_))));simp only[zz];refine aG (k7 _ _ ?_);refine bW rfl (fun hc1=>?_) (fun hc1=>?_)
  ·
   obtain ⟨e,he⟩ : ∃ e,(bJ ts)[k]? = some e:=⟨_,List.getElem?_eq_getElem (by omega)⟩
   obtain ⟨gO,rfl⟩:=(m.o 1 rfl).some (by omega);refine wp_skip (k6 _ _ ?_);refine aD fun K8 k8=>wp_block (aD fun K9 k9=>wp_region_lit (aA (aB) (aA (aB) ?_)));simp only[zz];refine aA (aI fL cJ rfl rfl (by omega) (by omega) (bV (Int.toNat_natCast _))) ?_;simp only[zz];refine aK rfl ((ad9 ((m.o 1 rfl).at mD he)).lies kP cJ) ?_;simp only[zz];refine bF m tL rfl ?_;clear m;intro g1 u m;simp only[zz];refine aU m 0 rfl rfl rfl cJ (eB rfl) rfl ?_;clear m;intro u m;simp only[zy,zx,bE,zF,zG,Nat.reduceAdd] at m;refine aG (k9 _ _ ?_);refine aD fun K10 k10=>aD fun K11 k11=>?_;obtain ⟨B,hB⟩ : ∃ B,B = ((bJ ts).take k).foldl (nR (bJ ts)) []:=⟨_,rfl⟩
   rw [← hB] at m;have h4 : B.length = n4:=(m.o 1 rfl).num mD (by decide);have hle4:=(m.o 1 rfl).le;have hs:=Vn (all:=bJ ts) he;rw [← hB] at hs;rcases Nat.eq_zero_or_pos (kO (bJ ts) (e.2,e.1)) with hz | hz
   ·
    refine wp_region_lit (aA (aB) (aA (aH jU aF rfl rfl (by decide) (by decide) rfl) ?_));simp only[zz];refine aK rfl ((m.b 0 rfl).lies aJ aF rfl rfl) ?_;simp only[zz,zy,Nat.zero_add,Nat.reduceAdd,Nat.reduceMul,Int.reduceToNat];refine aA (aH jU aF rfl rfl (by decide) (by decide) rfl) ?_;simp only[zz];refine aK rfl ((m.b 0 rfl).lies aJ aF rfl rfl) ?_;simp only[zz,zy,Nat.zero_add,Nat.reduceAdd,Nat.reduceMul,Int.reduceToNat];refine aA (cR rfl rfl) ?_;simp only[zz];refine dY m rfl rfl (Dn (es:=bJ ts) (e:=(e.2,e.1)) _ ((m.o 2 rfl).lat mD (by decide)) (by omega)) ?_;clear m;rintro v u m rfl;simp only[zz];refine aA (uL rfl rfl (by omega)) (aA (aB) (aR rfl (aA (aB) (aR rfl ?_))));simp only[zz];refine aK rfl ((m.b 0 rfl).full kP cJ) ?_;simp only[zz];refine aR rfl (dY m rfl rfl (Dn (es:=B) (e:=e) _ ((m.o 1 rfl).lat mD (by decide)) (by omega)) ?_);clear m;rintro v u m rfl;refine aR rfl (aA (nZ rfl rfl) (aA (eG rfl) (aG (k11 _ _ ?_))));simp only[zz];refine bW rfl (fun hc2=>?_) (fun hc2=>?_)
    ·
     rw [Fo (.inr (gt0.1 hc2))] at hs;refine wp_exit (k8 _ _ ?_);refine wp_region_lit (aA (aB) ?_);simp only[zz];refine aA (aP rfl rfl (aM (by omega) (by omega))) (aA (aC) (aG ?_));simp only[zz];simp only[Exit.inBlock,Exit.then];refine ⟨n3 - (k + 1),_,?_,rfl,?_,?_⟩
     · omega
     · simp only[zz,zv]
     ·
      simp only[zQ,zR,zD,zE];exact ⟨k + 1,_,_,_,rfl,((m.reO 1 rfl ((m.o 1 rfl).as (by rw [hs]))).sel [false,true,true]),by omega,by omega,rfl⟩
    ·
     have hz2 : ¬ 0 < kO B e:=fun h=>hc2 (gt0.2 h);refine wp_skip (k10 _ _ ?_);refine aD fun K12 k12=>wp_region_lit (aA (aC) (aG (k12 _ _ ?_)));refine aD fun K13 k13=>wp_block ?_;simp only[zz];try simp only[Nat.zero_add,Nat.reduceAdd,Nat.reduceMul,Int.reduceToNat]
     refine bK [7] [8,36,37,38,39,40,41,42,43,44,45,46,47,48,49] (fun n vs wl=>∃ (j : Nat),vs = [.int .i64 (j:Int)] ∧ cA w wl [bI g1 (bP e) 57,oI 57 6 A4 n4 cap4 ((B).flatMap bP),oI 57 6 (some ⟨gO,0,none⟩) n3 cap3 ((bJ ts).flatMap bP)] ∧ (Pre (fun x=>Sw x e) B j) ∧ (j ≤ n4) ∧ (n = n4 - j)) ?_ ?_
     ·
      apply Exists.intro;simp only[zQ,zR,zD,zE];exact ⟨0,rfl,m,Pre.zero,Nat.zero_le _,rfl⟩
     ·
      intro n vs wr hI u;clear m;obtain ⟨j,rfl,m,hpre,hj,hn2⟩:=hI;simp only[zu,zF,zG];refine aD fun K14 k14=>aD fun K15 k15=>wp_region_lit (aA (aB) (aA (aB) (aA (aX rfl fL rfl) (aA (cF rfl rfl) ?_))));simp only[zz];refine aG (k15 _ _ ?_);refine bW rfl (fun hc3=>?_) (fun hc3=>?_)
      ·
       obtain ⟨x,hx⟩ : ∃ x,B[j]? = some x:=⟨_,List.getElem?_eq_getElem (by omega)⟩
       obtain ⟨gP,rfl⟩:=(m.o 1 rfl).some (by omega);refine wp_skip (k14 _ _ ?_);refine wp_block (aD fun K16 k16=>mq m aO (by kernel_rfl) (aL (aB) (aL (aB) ?_)));simp only[zz];refine aL (aI fL cJ rfl rfl (by omega) (by omega) (bV (Int.toNat_natCast _))) ?_;simp only[zz];refine ql rfl (fun u m=>(((m.o 1 rfl).at mD hx).lies kP cJ)) ?_;simp only[zz];refine ql rfl (fun u m=>((m.b 0 rfl).full kP cJ)) ?_;simp only[zz];refine tE rfl rfl (aai (a:=x) (b:=e)) (aL (aC) (dF ?_));clear m;intro u m;refine k16 _ _ ?_;refine aD fun K17 k17=>aD fun K18 k18=>wp_region_lit (aA (aB) (aA (eZ rfl) ?_));simp only[zz];refine aG (k18 _ _ ?_);refine lY rfl (fun hc4=>?_) (fun hc4=>?_)
       ·
        have hpos : Vm B e = j:=acW hpre hx (by simpa using hc4);rw [Jc (by omega) hz2 hpos] at hs;refine wp_exit (k13 _ _ ?_);refine aD fun K19 k19=>wp_region_lit (aA (aC) ?_);replace m:=m.nilO 57 6;refine aG (k19 _ _ ?_);refine aD fun K20 k20=>wp_region_lit (aA (aB) (aA (aB) (aA (aB) ?_)));simp only[zz];refine aA (jP fL cJ rfl rfl (Int.toNat_natCast _) (by omega) (by omega)) ?_;simp only[zz];refine dT m 0 rfl rfl fL vH rfl (by decide) rfl rfl (by rw [iS mD,List.length_take,Nat.min_eq_left (show j ≤ B.length by omega)]) ((((m.o 2 rfl).lat mD (by decide)).take (k:=j) (by omega)).cells mD (by decide)) (xN _) (by omega) (by omega) ?_;clear m;intro A9 cap9 u m;simp only[zF,zG] at m;rw [List.nil_append,Nat.zero_add] at m;rw [Nat.zero_add];refine aA (aC) (aG (k20 _ _ ?_));refine aD fun K21 k21=>wp_region_lit (aA (aB) ?_);simp only[zz];refine aK rfl ((m.b 1 rfl).full kP cJ) ?_;simp only[zz];refine Bf rfl ?_;intro u g2 e hg hB;replace m:=m.newB e hg hB;clear e hg hB;simp only[zz];refine dT m 1 rfl rfl fL vH rfl (by decide) rfl rfl rfl (m.b 0 rfl).rowsO (qV rfl) (by omega) (by omega) ?_;clear m;intro A9 cap9 u m;simp only[zF,zG] at m;refine aA (aC) (aG (k21 _ _ ?_));refine wp_region_lit (aA (aB) (aA (aB) ?_));simp only[zz];refine aA (aB) ?_;simp only[zz];refine aA (jQ fL cJ rfl rfl (Int.toNat_natCast _) (by omega) (by omega) rfl) ?_;simp only[zz];refine dT m 1 rfl rfl fL vH rfl (by decide) rfl rfl (by rw [iS mD,List.length_drop,h4]) (((m.o 3 rfl).lat mD (by decide)).cellsD mD (by decide) (by omega)) (xN _) (by omega) (by omega) ?_;clear m;intro A9 cap9 u m;simp only[zF,zG] at m;refine aA (aC) ?_;simp only[zz];replace m:=(m.pull 1 rfl).mv 2 rfl;simp only[xO,xP,zF,zG] at m;refine aG (k8 _ _ ?_);refine wp_region_lit (aA (aB) ?_);simp only[zz];refine aA (aP rfl rfl (aM (by omega) (by omega))) (aA (aC) (aG ?_));simp only[zz];simp only[Exit.inBlock,Exit.then];refine ⟨n3 - (k + 1),_,?_,rfl,?_,?_⟩
        · omega
        · simp only[zz,zv]
        ·
         simp only[zQ,zR,zD,zE];exact ⟨k + 1,_,_,_,rfl,((m.reO 2 rfl ((m.o 2 rfl).as (by rw [hs,List.flatMap_append,List.flatMap_append];rfl))).sel [false,false,true,true]),by omega,by omega,rfl⟩
       ·
        have hpre2:=hpre.step hx (by simpa using hc4);refine wp_skip (k17 _ _ ?_);refine wp_region_lit (aA (aB) ?_);simp only[zz];refine aA (aP rfl rfl (aM (by omega) (by omega))) (aA (aC) (aG ?_));simp only[zz];simp only[Exit.inBlock,Exit.then];refine ⟨n4 - (j + 1),_,?_,rfl,?_,?_⟩
        · omega
        · simp only[zz,zv]
        ·
         simp only[zQ,zR,zD,zE];exact ⟨j + 1,rfl,m,hpre2,by omega,rfl⟩
      ·
       have hjl : j = B.length:=by omega
       have hpos : Vm B e = j:=by rw [hjl] at hpre ⊢;exact Zq hpre
       rw [Jc (by omega) hz2 hpos] at hs;refine wp_exit (k13 _ _ ?_);refine aD fun K22 k22=>wp_region_lit (aA (aC) ?_);replace m:=m.nilO 57 6;refine aG (k22 _ _ ?_);refine aD fun K23 k23=>wp_region_lit (aA (aB) (aA (aB) (aA (aB) ?_)));simp only[zz];refine aA (jP fL cJ rfl rfl (Int.toNat_natCast _) (by omega) (by omega)) ?_;simp only[zz];refine dT m 0 rfl rfl fL vH rfl (by decide) rfl rfl (by rw [iS mD,List.length_take,Nat.min_eq_left (show j ≤ B.length by omega)]) ((((m.o 2 rfl).lat mD (by decide)).take (k:=j) (by omega)).cells mD (by decide)) (xN _) (by omega) (by omega) ?_;clear m;intro A9 cap9 u m;simp only[zF,zG] at m;rw [List.nil_append,Nat.zero_add] at m;rw [Nat.zero_add];refine aA (aC) (aG (k23 _ _ ?_));refine aD fun K24 k24=>wp_region_lit (aA (aB) ?_);simp only[zz];refine aK rfl ((m.b 1 rfl).full kP cJ) ?_;simp only[zz];refine Bf rfl ?_;intro u g2 e hg hB;replace m:=m.newB e hg hB;clear e hg hB;simp only[zz];refine dT m 1 rfl rfl fL vH rfl (by decide) rfl rfl rfl (m.b 0 rfl).rowsO (qV rfl) (by omega) (by omega) ?_;clear m;intro A9 cap9 u m;simp only[zF,zG] at m;refine aA (aC) (aG (k24 _ _ ?_));refine wp_region_lit (aA (aB) (aA (aB) ?_));simp only[zz];refine aA (aB) ?_;simp only[zz];refine aA (jQ fL cJ rfl rfl (Int.toNat_natCast _) (by omega) (by omega) rfl) ?_;simp only[zz];refine dT m 1 rfl rfl fL vH rfl (by decide) rfl rfl (by rw [iS mD,List.length_drop,h4]) (((m.o 3 rfl).lat mD (by decide)).cellsD mD (by decide) (by omega)) (xN _) (by omega) (by omega) ?_;clear m;intro A9 cap9 u m;simp only[zF,zG] at m;refine aA (aC) ?_;simp only[zz];replace m:=(m.pull 1 rfl).mv 2 rfl;simp only[xO,xP,zF,zG] at m;refine aG (k8 _ _ ?_);refine wp_region_lit (aA (aB) ?_);simp only[zz];refine aA (aP rfl rfl (aM (by omega) (by omega))) (aA (aC) (aG ?_));simp only[zz];simp only[Exit.inBlock,Exit.then];refine ⟨n3 - (k + 1),_,?_,rfl,?_,?_⟩
       · omega
       · simp only[zz,zv]
       ·
        simp only[zQ,zR,zD,zE];exact ⟨k + 1,_,_,_,rfl,((m.reO 2 rfl ((m.o 2 rfl).as (by rw [hs,List.flatMap_append,List.flatMap_append];rfl))).sel [false,false,true,true]),by omega,by omega,rfl⟩
   ·
    rw [Fo (.inl hz)] at hs;refine wp_region_lit (aA (aB) (aA (aH jU aF rfl rfl (by decide) (by decide) rfl) ?_));simp only[zz];refine aK rfl ((m.b 0 rfl).lies aJ aF rfl rfl) ?_;simp only[zz,zy,Nat.zero_add,Nat.reduceAdd,Nat.reduceMul,Int.reduceToNat];refine aA (aH jU aF rfl rfl (by decide) (by decide) rfl) ?_;simp only[zz];refine aK rfl ((m.b 0 rfl).lies aJ aF rfl rfl) ?_;simp only[zz,zy,Nat.zero_add,Nat.reduceAdd,Nat.reduceMul,Int.reduceToNat];refine aA (cR rfl rfl) ?_;simp only[zz];refine dY m rfl rfl (Dn (es:=bJ ts) (e:=(e.2,e.1)) _ ((m.o 2 rfl).lat mD (by decide)) (by omega)) ?_;clear m;rintro v u m rfl;simp only[zz];refine aA (xG rfl rfl (by omega)) (aA (aB) (cN rfl (cN rfl ?_)));simp only[zz];refine cN rfl (cN rfl (aA (cB rfl) (aG (k11 _ _ ?_))));refine cG rfl (wp_exit (k8 _ _ ?_));refine wp_region_lit (aA (aB) ?_);simp only[zz];refine aA (aP rfl rfl (aM (by omega) (by omega))) (aA (aC) (aG ?_));simp only[zz];simp only[Exit.inBlock,Exit.then];refine ⟨n3 - (k + 1),_,?_,rfl,?_,?_⟩
    · omega
    · simp only[zz,zv]
    ·
     simp only[zQ,zR,zD,zE];exact ⟨k + 1,_,_,_,rfl,((m.reO 1 rfl ((m.o 1 rfl).as (by rw [hs]))).sel [false,true,true]),by omega,by omega,rfl⟩
  ·
   have hkN : k = (bJ ts).length:=by omega
   rw [hkN,List.take_length] at m;refine wp_exit (k4 _ _ ?_);refine aD fun K25 k25=>wp_region_lit (aA (aB) (aA (aC) (aG (k25 _ _ ?_))));refine wp_ret ?_;simp only[zz];try simp only[Exit.inBlock,Exit.then,if_true]
   refine bM rfl rfl ?_;try simp only[zD,zE]
   exact ⟨_,rfl,m.ext,⟨_,_,_,((m.o 0 rfl).num mD (by decide)).symm,rfl,(m.o 0 rfl)⟩⟩
theorem Sz {op : Bool} {ts : List T3} (h : ts.any tK = true) : cP op ts = 20:=by simp [cP,h]
theorem Ta {op : Bool} {ts : List T3} (h : ts.any tK = false) (h2 : (bJ ts).any (fun e=>decide (1 < kO (bJ ts) e)) = true) : cP op ts = 21:=by rw [cP,h,h2];rfl
theorem Tb {op : Bool} {ts : List T3} (h : ts.any tK = false) (h2 : (bJ ts).any (fun e=>decide (1 < kO (bJ ts) e)) = false) (h3 : (!op && decide (0 < (aS ts).length)) = false) (h4 : (fG ts).any (Ez ts) = true) : cP op ts = 23:=by rw [cP,h,h2,h3,h4];rfl
theorem aak {op : Bool} {ts : List T3} (h : ts.any tK = false) (h2 : (bJ ts).any (fun e=>decide (1 < kO (bJ ts) e)) = false) (h3 : (!op && decide (0 < (aS ts).length)) = false) (h4 : (fG ts).any (Ez ts) = false) : cP op ts = 0:=by rw [cP,h,h2,h3,h4];rfl
theorem gt1 {n : Nat} : ((1 : Int) < (n : Int)) ↔ 1 < n:=by omega
theorem ab1 {ts : List T3} {N cap : Nat} {A : Option Addr} (w : World) (hT : dZ w A N ts) (hN : N ≤ 100000000) : eK prog 30 [.slice A N cap,.bool true] w (fun v _=>v = .int .i64 (cP true ts)):=by
 refine ⟨afk,?_⟩;have m:=cA.refl w;have htl:=hT.len;have he3:=kZ ts;have hcl:=Ci ts
 go_enter func30,ntmps30
 refine aD fun K1 k1=>wp_region_lit (aA (aC) (aG (k1 _ _ ?_)));refine aD fun K2 k2=>aD fun K3 k3=>wp_region_lit (aA (aC) (aG (k3 _ _ ?_)));refine wp_block ?_;simp only[zz];try simp only[Nat.zero_add,Nat.reduceAdd,Nat.reduceMul,Int.reduceToNat]
 refine bK [5] [4,11,12,13,14,15,16,17,18,19,20,21,22,23,24,25,26,27,28,29,30,31,32,33,34,35,36,37,38,39,40,41,42,43,44,45,46,47,48,49,50,51,52,53] (fun n vs wl=>∃ (k : Nat),vs = [.int .i64 (k:Int)] ∧ cA w wl [] ∧ ((ts.take k).any tK = false) ∧ (k ≤ N) ∧ (n = N - k)) ?_ ?_
 ·
  apply Exists.intro;simp only[zQ,zR,zD,zE];exact ⟨0,rfl,m,rfl,Nat.zero_le _,rfl⟩
 ·
  intro n vs wr hI u;clear m;obtain ⟨k,rfl,m,hd0,hk,hn⟩:=hI;simp only[zu,zF,zG];refine aD fun K4 k4=>aD fun K5 k5=>wp_region_lit (aA (aB) (aA (aB) (aA (aX rfl bQ rfl) (aA (cF rfl rfl) ?_))));simp only[zz];refine aG (k5 _ _ ?_);refine bW rfl (fun hc1=>?_) (fun hc1=>?_)
  ·
   obtain ⟨t,ht,_,a,rfl,hrow⟩:=hT.get (i:=k) (by omega);refine wp_skip (k4 _ _ ?_);refine aD fun K6 k6=>wp_block (aD fun K7 k7=>mq m aO (by kernel_rfl) (aL (aB) (aL (aB) ?_)));simp only[zz];refine aL (aI bQ aQ rfl rfl (by omega) (by omega) (bV (Int.toNat_natCast _))) (aL (aH bG aF rfl rfl (by decide) (by decide) rfl) ?_);simp only[zz];refine ql rfl (fun u m=>((jG.cor ((hrow.ext m.ext)) (c:=0) (by decide)).lies aJ aF)) ?_;simp only[zz];refine aL (aB) (aL (aB) ?_);simp only[zz];refine aL (aI bQ aQ rfl rfl (by omega) (by omega) (bV (Int.toNat_natCast _))) (aL (aH bG aF rfl rfl (by decide) (by decide) rfl) ?_);simp only[zz];refine ql rfl (fun u m=>((jG.cor ((hrow.ext m.ext)) (c:=1) (by decide)).lies aJ aF)) ?_;simp only[zz];refine aL (cW rfl rfl) (aL (aB) (eA rfl (fun hb=>aB) (eA rfl (fun hb=>aB) ?_)));simp only[zz];refine eA rfl (fun hb=>aI bQ aQ (bO hb rfl) (bO hb rfl) (by omega) (by omega) (bV (Int.toNat_natCast _))) (eA rfl (fun hb=>aH bG aF (bO hb rfl) rfl (by decide) (by decide) rfl) ?_);simp only[zz];refine iE rfl (fun hb u m=>cE (bO hb rfl) ((jG.cor ((hrow.ext m.ext)) (c:=1) (by decide)).lies aJ aF)) (eA rfl (fun hb=>aB) (eA rfl (fun hb=>aB) ?_));simp only[zz];refine eA rfl (fun hb=>aI bQ aQ (bO hb rfl) (bO hb rfl) (by omega) (by omega) (bV (Int.toNat_natCast _))) (eA rfl (fun hb=>aH bG aF (bO hb rfl) rfl (by decide) (by decide) rfl) ?_);simp only[zz];refine iE rfl (fun hb u m=>cE (bO hb rfl) ((jG.cor ((hrow.ext m.ext)) (c:=2) (by decide)).lies aJ aF)) (eA rfl (fun hb=>cW (bO hb rfl) (bO hb rfl)) (aL (fV rfl rfl rfl) (aL (aB) (eA rfl (fun hb=>aB) ?_))));simp only[zz];refine eA rfl (fun hb=>aB) ?_;simp only[zz];refine eA rfl (fun hb=>aI bQ aQ (bO hb rfl) (bO hb rfl) (by omega) (by omega) (bV (Int.toNat_natCast _))) (eA rfl (fun hb=>aH bG aF (bO hb rfl) rfl (by decide) (by decide) rfl) ?_);simp only[zz];refine iE rfl (fun hb u m=>cE (bO hb rfl) ((jG.cor ((hrow.ext m.ext)) (c:=2) (by decide)).lies aJ aF)) (eA rfl (fun hb=>aB) (eA rfl (fun hb=>aB) ?_));simp only[zz];refine eA rfl (fun hb=>aI bQ aQ (bO hb rfl) (bO hb rfl) (by omega) (by omega) (bV (Int.toNat_natCast _))) (eA rfl (fun hb=>aH bG aF (bO hb rfl) rfl (by decide) (by decide) rfl) ?_);simp only[zz];refine iE rfl (fun hb u m=>cE (bO hb rfl) ((jG.cor ((hrow.ext m.ext)) (c:=0) (by decide)).lies aJ aF)) (eA rfl (fun hb=>cW (bO hb rfl) (bO hb rfl)) (aL (fV rfl rfl rfl) (dF ?_)));clear m;intro u m;refine k7 _ _ ?_;simp only[zz];refine lY rfl (fun hc2=>?_) (fun hc2=>?_)
   ·
    have hd:=rD (p:=tK) ht (Ky.symm.trans hc2);refine aD fun K8 k8=>wp_region_lit (aA (aC) (aG (k8 _ _ ?_)));refine wp_ret ?_;simp only[zz];try simp only[Exit.inBlock,Exit.then,if_true]
    refine bM rfl rfl ?_;try simp only[zD,zE]
    exact ⟨_,rfl,m.ext,by rw [Sz hd]⟩
   ·
    have hd1 : (ts.take (k + 1)).any tK = false:=by rw [mN ht,hd0,← Ky];exact hc2
    refine wp_skip (k6 _ _ ?_);refine wp_region_lit (aA (aB) ?_);simp only[zz];refine aA (aP rfl rfl (aM (by omega) (by omega))) (aA (aC) (aG ?_));simp only[zz];simp only[Exit.inBlock,Exit.then];refine ⟨N - (k + 1),_,?_,rfl,?_,?_⟩
    · omega
    · simp only[zz,zv]
    ·
     simp only[zQ,zR,zD,zE];exact ⟨k + 1,rfl,m,hd1,by omega,rfl⟩
  ·
   have hkN : k = N:=by omega
   rw [hkN,show ts.take N = ts from List.take_of_length_le (by omega)] at hd0;refine wp_exit (k2 _ _ ?_);refine aD fun K9 k9=>wp_region_lit (aA (aB) ?_);simp only[zz];refine aZ rfl rfl (Sy _ (hT.ext m.ext) (by omega)) ?_;rintro v u e ⟨A3,cap3,n3,hn3,rfl,hN⟩;replace m:=m.newO e hN;clear e hN;have hle3:=(m.o 0 rfl).le;refine aA (aC) (aG (k9 _ _ ?_));refine aD fun K10 k10=>aD fun K11 k11=>wp_region_lit (aA (aC) (aG (k11 _ _ ?_)));refine wp_block ?_;simp only[zz];try simp only[Nat.zero_add,Nat.reduceAdd,Nat.reduceMul,Int.reduceToNat]
   refine bK [7] [4,56,57,58,59,60,61,62,63,64,65,66,67,68] (fun n vs wl=>∃ (k : Nat),vs = [.int .i64 (k:Int)] ∧ cA w wl [oI 57 6 A3 n3 cap3 ((bJ ts).flatMap bP)] ∧ (((bJ ts).take k).any (fun e=>decide (1 < kO (bJ ts) e)) = false) ∧ (k ≤ n3) ∧ (n = n3 - k)) ?_ ?_
   ·
    apply Exists.intro;simp only[zQ,zR,zD,zE];exact ⟨0,rfl,m,rfl,Nat.zero_le _,rfl⟩
   ·
    intro n vs wr hI u;clear m;obtain ⟨k,rfl,m,hc0,hk,hn⟩:=hI;simp only[zu,zF,zG];refine aD fun K12 k12=>aD fun K13 k13=>wp_region_lit (aA (aB) (aA (aB) (aA (aX rfl fL rfl) (aA (cF rfl rfl) ?_))));simp only[zz];refine aG (k13 _ _ ?_);refine bW rfl (fun hc3=>?_) (fun hc3=>?_)
    ·
     obtain ⟨e,he⟩ : ∃ e,(bJ ts)[k]? = some e:=⟨_,List.getElem?_eq_getElem (by omega)⟩
     obtain ⟨gO,rfl⟩:=(m.o 0 rfl).some (by omega);refine wp_skip (k12 _ _ ?_);refine aD fun K14 k14=>wp_block (aD fun K15 k15=>wp_region_lit (aA (aB) (aA (aB) (aA (aB) ?_))));simp only[zz];refine aA (aI fL cJ rfl rfl (by omega) (by omega) (bV (Int.toNat_natCast _))) ?_;simp only[zz];refine aK rfl (((m.o 0 rfl).at mD he).lies kP cJ) ?_;simp only[zz];refine dY m rfl rfl (Dn (es:=bJ ts) (e:=e) _ ((m.o 0 rfl).lat mD (by decide)) (by omega)) ?_;clear m;rintro v u m rfl;refine aA (nZ rfl rfl) (aG (k15 _ _ ?_));simp only[zz];refine bW rfl (fun hc4=>?_) (fun hc4=>?_)
     ·
      have hc:=rD (p:=(fun e=>decide (1 < kO (bJ ts) e))) he (decide_eq_true (gt1.1 hc4));refine aD fun K16 k16=>wp_region_lit (aA (aC) (aG (k16 _ _ ?_)));refine wp_ret ?_;simp only[zz];try simp only[Exit.inBlock,Exit.then,if_true]
      refine bM rfl rfl ?_;try simp only[zD,zE]
      exact ⟨_,rfl,m.ext,by rw [Ta hd0 hc]⟩
     ·
      have hc01 : ((bJ ts).take (k + 1)).any (fun e=>decide (1 < kO (bJ ts) e)) = false:=by rw [mN he,hc0,decide_eq_false (fun h=>hc4 (gt1.2 h))];rfl
      refine wp_skip (k14 _ _ ?_);refine wp_region_lit (aA (aB) ?_);simp only[zz];refine aA (aP rfl rfl (aM (by omega) (by omega))) (aA (aC) (aG ?_));simp only[zz];simp only[Exit.inBlock,Exit.then];refine ⟨n3 - (k + 1),_,?_,rfl,?_,?_⟩
      · omega
      · simp only[zz,zv]
      ·
       simp only[zQ,zR,zD,zE];exact ⟨k + 1,rfl,m,hc01,by omega,rfl⟩
    ·
     have hkN : k = (bJ ts).length:=by omega
     rw [hkN,List.take_length] at hc0;refine wp_exit (k10 _ _ ?_);refine aD fun K17 k17=>aD fun K18 k18=>wp_region_lit (aA (aB) (aA (eZ rfl) (aA (aB) (cD rfl ?_))));simp only[zz];refine cD rfl (cD rfl (cD rfl (aA (eG rfl) ?_)));simp only[zz];refine aG (k18 _ _ ?_);refine gX rfl (wp_skip (k17 _ _ ?_));refine aD fun K19 k19=>wp_region_lit (aA (aB) ?_);simp only[zz];refine aZ rfl rfl (Wg _ (hT.ext m.ext) hN) ?_;rintro v u e ⟨A8,cap8,n8,hn8,rfl,hN⟩;replace m:=m.newO e hN;clear e hN;have hle8:=(m.o 0 rfl).le;refine aA (aC) (aG (k19 _ _ ?_));refine aD fun K20 k20=>aD fun K21 k21=>wp_region_lit (aA (aC) (aG (k21 _ _ ?_)));refine wp_block ?_;simp only[zz];try simp only[Nat.zero_add,Nat.reduceAdd,Nat.reduceMul,Int.reduceToNat]
     refine bK [9] [4,10,79,80,81,82,83,84,85,86,87,88,89,90,91] (fun n vs wl=>∃ (k : Nat),vs = [.int .i64 (k:Int)] ∧ cA w wl [oI 48 3 A8 n8 cap8 ((fG ts).flatMap uZ)] ∧ (((fG ts).take k).any (Ez ts) = false) ∧ (k ≤ n8) ∧ (n = n8 - k)) ?_ ?_
     ·
      apply Exists.intro;simp only[zQ,zR,zD,zE];exact ⟨0,rfl,(m.sel [true,false]),rfl,Nat.zero_le _,rfl⟩
     ·
      intro n vs wr hI u;clear m;obtain ⟨k,rfl,m,hp0,hk,hn⟩:=hI;simp only[zu,zF,zG];refine aD fun K22 k22=>aD fun K23 k23=>wp_region_lit (aA (aB) (aA (aB) (aA (aX rfl kX rfl) (aA (cF rfl rfl) ?_))));simp only[zz];refine aG (k23 _ _ ?_);refine bW rfl (fun hc6=>?_) (fun hc6=>?_)
      ·
       obtain ⟨x,hx⟩ : ∃ x,(fG ts)[k]? = some x:=⟨_,List.getElem?_eq_getElem (by omega)⟩
       obtain ⟨gO,rfl⟩:=(m.o 0 rfl).some (by omega);refine wp_skip (k22 _ _ ?_);refine aD fun K24 k24=>wp_block (aD fun K25 k25=>wp_region_lit (aA (aB) (aA (aB) (aA (aB) ?_))));simp only[zz];refine aA (aI kX aF rfl rfl (by omega) (by omega) (bV (Int.toNat_natCast _))) ?_;simp only[zz];refine aK rfl (((m.o 0 rfl).at Ni hx).lies aJ aF) ?_;simp only[zz];refine dY m rfl rfl (Wh (p:=x) _ (hT.ext m.ext) (by omega)) ?_;clear m;rintro v u m rfl;refine aA (aC) (aG (k25 _ _ ?_));refine aD fun K26 k26=>wp_region_lit (aA (aB) (aG (k26 _ _ ?_)));simp only[zz];refine lY rfl (fun hc7=>?_) (fun hc7=>?_)
       ·
        have hp:=rD (p:=Ez ts) hx hc7;refine aD fun K27 k27=>wp_region_lit (aA (aC) (aG (k27 _ _ ?_)));refine wp_ret ?_;simp only[zz];try simp only[Exit.inBlock,Exit.then,if_true]
        refine bM rfl rfl ?_;try simp only[zD,zE]
        exact ⟨_,rfl,m.ext,by rw [Tb hd0 hc0 rfl hp]⟩
       ·
        have hp1 : ((fG ts).take (k + 1)).any (Ez ts) = false:=by rw [mN hx,hp0,hc7];rfl
        refine wp_skip (k24 _ _ ?_);refine wp_region_lit (aA (aB) ?_);simp only[zz];refine aA (aP rfl rfl (aM (by omega) (by omega))) (aA (aC) (aG ?_));simp only[zz];simp only[Exit.inBlock,Exit.then];refine ⟨n8 - (k + 1),_,?_,rfl,?_,?_⟩
        · omega
        · simp only[zz,zv]
        ·
         simp only[zQ,zR,zD,zE];exact ⟨k + 1,rfl,m,hp1,by omega,rfl⟩
      ·
       have hkN : k = (fG ts).length:=by omega
       rw [hkN,List.take_length] at hp0;refine wp_exit (k20 _ _ ?_);refine aD fun K28 k28=>wp_region_lit (aA (aC) (aG (k28 _ _ ?_)));refine wp_ret ?_;simp only[zz];try simp only[Exit.inBlock,Exit.then,if_true]
       refine bM rfl rfl ?_;try simp only[zD,zE]
       exact ⟨_,rfl,m.ext,by rw [aak hd0 hc0 rfl hp0]⟩
theorem tR {ts : List T3} {N cap : Nat} {A : Option Addr} (w : World) (hT : dZ w A N ts) (hN : N ≤ 100000000) : eK prog 16 [.slice A N cap] w (fun v _=>v = .int .i64 (cP true ts)):=by
 refine ⟨ae9,?_⟩;have m:=cA.refl w
 go_enter func16,ntmps16
 refine aD fun K1 k1=>wp_region_lit (aA (aC) (aG (k1 _ _ ?_)));refine aD fun K2 k2=>wp_region_lit (aA (aB) ?_);simp only[zz];refine dY m rfl rfl (ab1 _ (hT.ext m.ext) hN) ?_;clear m;rintro v u m rfl;refine aA (aC) (aG (k2 _ _ ?_));refine wp_ret ?_;simp only[zz];try simp only[Exit.inBlock,Exit.then,if_true]
 refine bM rfl rfl ?_;try simp only[zD,zE]
 exact ⟨_,rfl,m.ext,rfl⟩
end Go.Proofs.YtfohfflkhpfjeaaGreatDoor
namespace Go.Lith
open Go.RowKit Go.Proofs Go.Sort Go.Shelf
theorem aal {α : Type} {enc : α → List Value} {k : Nat} (hk : ∀ x,(enc x).length = k) (h0 : 0 < k) : ∀ (L : List α) (t : Nat),(L.flatMap enc)[t]? = (L[t / k]?).bind fun x=>(enc x)[t % k]?
 | [],t=>by simp
 | x :: L,t=>by
  rw [List.flatMap_cons,List.getElem?_append];by_cases h : t < k
  · rw [if_pos (by rw [hk];exact h),Nat.div_eq_of_lt h,Nat.mod_eq_of_lt h]
    rfl
  · rw [if_neg (by rw [hk];exact h),hk,aal hk h0 L (t - k)]
    have e1 : t / k = (t - k) / k + 1:=by rw [Nat.div_eq t k,if_pos ⟨h0,Nat.le_of_not_lt h⟩]
    have e2 : t % k = (t - k) % k:=Nat.mod_eq_sub_mod (Nat.le_of_not_lt h);rw [e1,e2,List.getElem?_cons_succ]
theorem tS {α : Type} [Inhabited α] {enc : α → List Value} {k : Nat} (hk : ∀ x,(enc x).length = k) (h0 : 0 < k) (L : List α) : (flatK enc k L.toArray).toList = L.flatMap enc:=by
 have hlen : (L.flatMap enc).length = L.length * k:=by
  induction L with
  | nil=>simp
  | cons x L ih=>rw [List.flatMap_cons,List.length_append,ih,hk,List.length_cons,Nat.add_mul];omega
 apply List.ext_getElem?;intro t;by_cases ht : t < L.length * k
 · have hd : t / k < L.length:=by
    rw [Nat.div_lt_iff_lt_mul h0];exact ht
   have hm : t % k < k:=Nat.mod_lt _ h0;have h1:=get_flatK enc k L.toArray t (by simpa using ht);rw [getElem!_pos _ t (by simpa using ht)] at h1;rw [aal hk h0,List.getElem?_eq_getElem hd,Option.bind_some,Array.getElem?_toList,Array.getElem?_eq_getElem (by simpa using ht),h1,List.getElem?_eq_getElem (show t % k < (enc L[t / k]).length by rw [hk];exact hm)]
   congr 1
   rw [getElem!_pos L.toArray _ (by simpa using hd),List.getElem_toArray,getElem!_pos _ _ (by rw [hk];exact hm)]
 · rw [List.getElem?_eq_none (by simpa using Nat.le_of_not_lt ht),List.getElem?_eq_none (by rw [hlen];exact Nat.le_of_not_lt ht)]
section
variable {α : Type} [Inhabited α] {P : Program} {ρ : Ren} {enc : α → List Value} {c : Nat} {E : TypeId} {w w0 : World} {is : List It} {A : Option Addr} {n cap : Nat}
theorem Wi {g : Nat} {xs : List α} {cur : Array Value} (hk : ∀ x,(enc x).length = c) (h0 : 0 < c) (hg : w.heap[g]? = some (.cells cur E (0,0))) (h : cur.toList.take (xs.length * c) = xs.flatMap enc) : HoldsK enc c w g 0 xs.toArray:=by
 intro j hj;have hl:=tS hk h0 xs;have hj' : j < xs.length * c:=by simpa using hj
 have e : (flatK enc c xs.toArray)[j]? = cur[j]?:=by
  rw [← Array.getElem?_toList,hl,← h,List.getElem?_take,if_pos hj',Array.getElem?_toList]
 rw [Array.getElem?_eq_getElem hj] at e;refine ⟨?_,?_⟩
 · simp only[World.cell?,hg,Nat.zero_add,Option.isSome_none,Bool.false_eq_true,if_false]
   rw [← e,getElem!_pos _ j hj];rfl
 · simp [World.frozen?,hg]
theorem Ht {g : Nat} {xs ys : List α} {cur : Array Value} {q : Nat} {os : Array Obj} (hk : ∀ x,(enc x).length = c) (h0 : 0 < c) (hg : w.heap[g]? = some (.cells cur E (0,0))) (hl : xs.length * c ≤ cur.size) (hlen : ys.length = xs.length) :
 ∃ cur' : Array Value,(sortWorldK enc c w g 0 q ys.toArray os).heap[g]? = some (.cells cur' E (0,0)) ∧ cur'.size = cur.size ∧ cur'.toList.take (xs.length * c) = ys.flatMap enc:=by
 have hlt : g < w.heap.size:=(Array.getElem?_eq_some_iff.1 hg).1;refine ⟨putCells id 0 (flatK enc c ys.toArray) cur,?_,by simp [putCells],?_⟩
 · unfold sortWorldK putRowK putRow mapBlock grow
   simp only;rw [Array.getElem?_append_left (by simpa [ahead] using hlt),Array.getElem?_modify];simp [ahead,hg,onCells]
 · have hf:=tS hk h0 ys
   apply List.ext_getElem?;intro t;rw [List.getElem?_take,← hf,Array.getElem?_toList,Array.getElem?_toList];have hs : (flatK enc c ys.toArray).size = xs.length * c:=by simp [hlen]
   split
   · rename_i ht
     have : t < cur.size:=Nat.lt_of_lt_of_le ht hl;simp only[putCells,Array.getElem?_mapIdx,Array.getElem?_eq_getElem this,Option.map_some,Nat.zero_le,Nat.zero_add,true_and,Nat.sub_zero,hs,ht,if_true];rw [Array.getElem?_eq_getElem (by rw [hs];exact ht),getElem!_pos _ t (by rw [hs];exact ht)];rfl
   · rename_i ht
     rw [Array.getElem?_eq_none (by rw [hs];exact Nat.le_of_not_lt ht)]
theorem Nw (L : SlLaysF0.n6 P ρ) (aE : ∀ w,(isAgg (ρ.t 24)).run P w = .ok true w) (zE : ∀ w,(Go.sizeOf (ρ.t 24)).run P w = .ok c w) (hk : ∀ x,(enc x).length = c) (h0 : 0 < c) (h1 : ∀ x,∀ v ∈ enc x,v.oneCell' = true)
 (cf : α → α → Int) (hO : SWO (ltOf cf)) {f : FuncId} (hcmp : ∀ x y,uG P f [.agg (enc x).toArray,.agg (enc y).toArray] (.int .i64 (cf x y))) {xs : List α} (m : cA w0 w is) (k : Nat) (hi : is[k]? = some (oI E c A n cap (xs.flatMap enc))) (hsz : n < 4611686018427387904) :
 Calls P (ρ.f 6) #[.slice A n cap,.func (.func f) #[] #[]] w fun e w'=>∃ v i,e = .returned v ∧ cA w0 w' (is.set k i) ∧ (v = .tuple #[] ∧ ∃ ys : List α,i = oI E c A n cap (ys.flatMap enc) ∧ ys.Perm xs ∧ ys.Pairwise fun a b=>ltOf cf b a = false):=by
 have h : w.ownsRow 0 E c (.slice A n cap) n (xs.flatMap enc):=m.get k hi;have hlen : (xs.flatMap enc).length = xs.length * c:=by
  have:=tS hk h0 xs;rw [← this];simp
 have hn : xs.length = n:=by
  have:=h.1;rw [hlen] at this;exact Nat.eq_of_mul_eq_mul_right h0 this
 have hge:=fun b hb=>m.ge _ (List.mem_of_getElem? hi) b hb;rcases mH h with ⟨rfl,rfl,rfl,hx⟩ | ⟨g,cur,rfl,_,hg,hcap,hmax,hcur,htake⟩
 · refine (AnyF.slices_SortFunc_none L none 0 _ w).mono ?_
   rintro e w' ⟨rfl,rfl⟩;obtain rfl : xs = []:=List.eq_nil_of_length_eq_zero hn;refine ⟨_,oI E c none 0 0 [],rfl,?_,rfl,[],rfl,List.Perm.refl _,.nil⟩;have : is.set k (oI E c none 0 0 []) = is:=by
    apply List.ext_getElem?;intro j;rw [List.getElem?_set];split
    · rename_i e;subst e
      have:=(List.getElem?_eq_some_iff.1 hi).1;rw [if_pos this,hi];rfl
    · rfl
   rw [this];exact m
 · have hlt : g < w.heap.size:=(Array.getElem?_eq_some_iff.1 hg).1
   rw [← hn] at htake;have hH:=Wi (xs:=xs) hk h0 hg htake;have hx:=AnyQ.slices_SortFunc L c aE zE enc hk h1 cf hO f #[] g 0 cap xs.toArray w (fun args w'=>yE (hcmp default default w').1) (fun mm os dk _ x y=>by
    have:=((hcmp x y (sortWorldK enc c w g 0 mm dk os)).2.mono fun e w' h=>(show e = .returned (.int .i64 (cf x y)) ∧ ∃ q os',w' = grow ((sortWorldK enc c w g 0 mm dk os).drewN q) os' from by obtain ⟨u,rfl,hX,rfl⟩:=h;exact ⟨rfl,hX.grow⟩))
    simpa using this) hH hlt (by simpa [hn] using hsz)
   have es : xs.toArray.size = n:=by simpa using hn
   rw [es] at hx;refine hx.mono ?_;rintro e w' ⟨rfl,d',q,os,hp,hs,rfl⟩;have hd : d'.size = n:=by rw [hp.1];exact es
   obtain ⟨ys,rfl⟩ : ∃ ys : List α,d' = ys.toArray:=⟨d'.toList,by simp⟩
   have hyl : ys.length = n:=by simpa using hd
   have hcs : xs.length * c ≤ cur.size:=by rw [hn,hcur];exact Nat.mul_le_mul_right _ hcap
   obtain ⟨cur',e1,e2,e3⟩:=Ht (q:=q) (os:=os) (ys:=ys) hk h0 hg hcs (by rw [hyl,hn]);refine ⟨_,oI E c (some ⟨g,0,none⟩) n cap (ys.flatMap enc),rfl,?_,rfl,ys,rfl,?_,?_⟩
   · refine m.put k hi rfl rfl rfl ?_ (fun b hb hne=>?_) ?_ (.inl fun _ h=>h)
     · simp [sortWorldK,putRowK,putRow,mapBlock,grow,ahead]
     · have hbg : g ≠ b:=fun e=>hne (by rw [e];rfl)
       unfold sortWorldK putRowK putRow mapBlock grow;simp only;rw [Array.getElem?_append_left (by simpa [ahead] using hb),Array.getElem?_modify,if_neg hbg];rfl
     · refine ⟨?_,.inr ⟨g,cap,cur',rfl,Nat.zero_le _,e1,hcap,hmax,by rw [e2,hcur],?_⟩⟩
       · have:=tS hk h0 ys
         rw [← this];simp [hyl]
       · rw [← hn];exact e3
   · have:=hp.2.2
     simpa [hyl,hn,List.take_of_length_le (Nat.le_of_eq hyl),List.take_of_length_le (Nat.le_of_eq hn),List.extract_eq_take_drop] using this
   · rw [List.pairwise_iff_getElem]
     intro i j hi' hj' hij;have:=hs i j (Nat.zero_le _) hij (by rw [← hyl];exact hj');rw [getElem!_pos _ i (by simpa using hi'),getElem!_pos _ j (by simpa using hj')] at this;simpa using this
end
end Go.Lith
namespace Go.Lith
open Go.RowKit Go.Sort
instance : Inhabited P3:=⟨⟨0,0,0⟩⟩
def pX (p : P3) : List Value:=[.int .i64 p.x,.int .i64 p.y,.int .i64 p.z]
theorem Nx (p : P3) : ∀ v ∈ pX p,v.oneCell' = true:=fun v h=>by
 simp only[pX,List.mem_cons,List.not_mem_nil,or_false] at h;rcases h with rfl | rfl | rfl <;> rfl
theorem sM (p q : P3) : (yN p q < 0) ↔ p.Lt q:=by
 unfold yN;split
 · simp [*]
 · split <;> simp [*]
theorem aam : SWO (Go.Proofs.ltOf yN) where
 irrefl x:=by simp [Go.Proofs.ltOf,sM,P3.lt_irrefl]
 trans x y z h1 h2:=by
  simp only[Go.Proofs.ltOf,decide_eq_true_eq,sM] at *
  exact P3.lt_trans h1 h2
 ntrans x y z h1 h2:=by
  simp only[Go.Proofs.ltOf,decide_eq_false_iff_not,sM] at *
  unfold P3.Lt at *
  omega
theorem mY.len {K V : Type} [DecidableEq K] {ek : K → Value} {en : V → Value} {D dn rs : List (K × V)} {es : Array MapEntry} {seen : Array Nat} (h : mY ek en D es seen dn rs) : dn.length + rs.length = D.length:=by
 have:=h.1.length_eq;simpa using this
theorem Fp {K V : Type} [DecidableEq K] {ek : K → Value} {en : V → Value} {D dn rs : List (K × V)} {es : Array MapEntry} {b : Bool} {kv vv : Value} {sn : Array Nat} (hb : b = false) (h : Nxt ek en D es dn rs b kv vv sn) : rs = []:=by
 rcases h with ⟨_,h⟩ | ⟨h,_⟩
 · exact h
 · rw [h] at hb;cases hb
theorem Fq {K V : Type} [DecidableEq K] {ek : K → Value} {en : V → Value} {D dn rs : List (K × V)} {es : Array MapEntry} {b : Bool} {kv vv : Value} {sn : Array Nat} (hb : b = true) (h : Nxt ek en D es dn rs b kv vv sn) :
 ∃ k v rs',rs.Perm ((k,v) :: rs') ∧ mY ek en D es sn (dn ++ [(k,v)]) rs':=by
 rcases h with ⟨h,_⟩ | ⟨_,k,v,rs',h1,_,_,h2⟩
 · rw [h] at hb;cases hb
 · exact ⟨k,v,rs',h1,h2⟩
def vJ (D : List (P3 × Bool)) (ps : List P3) : List (P3 × Bool):=ps.foldl (fun D p=>gV D p true) D
theorem Ny {K V : Type} [DecidableEq K] (D : List (K × V)) (k a : K) (v : V) : a ∈ (gV D k v).map (·.1) ↔ a ∈ D.map (·.1) ∨ a = k:=by
 rw [Bg];split
 · exact ⟨.inl,fun h=>h.elim id (fun e=>e ▸ ‹_›)⟩
 · simp
theorem Jd : ∀ (ps : List P3) (D : List (P3 × Bool)) (a : P3),a ∈ (vJ D ps).map (·.1) ↔ a ∈ D.map (·.1) ∨ a ∈ ps
 | [],D,a=>by simp [vJ]
 | p :: ps,D,a=>by
  have:=Jd ps (gV D p true) a;unfold vJ at this ⊢;rw [List.foldl_cons,this,Ny,List.mem_cons,or_assoc]
theorem Cp : ∀ (ps : List P3) (D : List (P3 × Bool)),(D.map (·.1)).Nodup → ((vJ D ps).map (·.1)).Nodup
 | [],_,h=>h
 | p :: ps,D,h=>Cp ps (gV D p true) (xT h p true)
theorem vK {K V : Type} [DecidableEq K] : ∀ (D : List (K × V)) (k : K) (v : V),(gV D k v).length ≤ D.length + 1
 | [],_,_=>by simp [gV]
 | x :: D,k,v=>by
  unfold gV;split
  · simp
  · simp only[List.length_cons]
    exact Nat.succ_le_succ (vK D k v)
theorem zW : ∀ (ps : List P3) (D : List (P3 × Bool)),(vJ D ps).length ≤ D.length + ps.length
 | [],D=>Nat.le_refl _
 | p :: ps,D=>Nat.le_trans (zW ps (gV D p true)) (by
  have:=vK D p true;simp only[List.length_cons];omega)
theorem Wj (D : List (P3 × Bool)) (ps qs : List P3) : vJ D (ps ++ qs) = vJ (vJ D ps) qs:=List.foldl_append ..
def dN (ts : List T3) : List P3:=ts.flatMap fun t=>[t.a,t.b,t.c]
def aan (ps : List P3) : Prop:=ps.Pairwise fun a b=>a.Lt b
theorem Wk {ps : List P3} (hn : ps.Nodup) (h : ps.Pairwise fun a b=>¬ b.Lt a) : aan ps:=by
 have:=hn.and h;exact this.imp fun {a b} h=>(P3.lt_tri a b).resolve_right (by rintro (e | e);exact h.1 e;exact h.2 e)
end Go.Lith
namespace Go.Lith
open Go.RowKit
theorem Wl {α : Type} {ps : List α} {k : Nat} {p : α} (h : ps[k]? = some p) : ps.take (k + 1) = ps.take k ++ [p]:=by
 rw [List.take_add_one,h];rfl
theorem Fs {ts : List T3} {k : Nat} {t : T3} (h : ts[k]? = some t) : dN (ts.take (k + 1)) = dN (ts.take k) ++ [t.a,t.b,t.c]:=by
 unfold dN;rw [Wl h,List.flatMap_append];simp
theorem Rf {ts : List T3} {k : Nat} {t : T3} (h : ts[k]? = some t) : vJ [] (dN (ts.take (k + 1))) = gV (gV (gV (vJ [] (dN (ts.take k))) t.a true) t.b true) t.c true:=by
 rw [Fs h,Wj];rfl
theorem zX (ts : List T3) : (dN ts).length = ts.length * 3:=by
 unfold dN
 induction ts with
 | nil=>rfl
 | cons t ts ih=>rw [List.flatMap_cons,List.length_append,ih];simp only[List.length_cons,List.length_nil];omega
theorem Ow.max {w0 w : World} {S : List (Option Nat)} {E : TypeId} {c n cap : Nat} {A : Option Addr} {xs : List Value} (h : Ow w0 w S E c A n cap xs) : cap ≤ 9223372036854775807:=by
 rcases h.cases with ⟨_,_,rfl,_⟩ | ⟨_,_,_,_,_,_,h,_⟩
 · exact Nat.zero_le _
 · exact h
end Go.Lith
namespace Go.Lith
open Go.RowKit
theorem Ft {α : Type} {R : α → α → Prop} (irr : ∀ a,¬ R a a) (tr : ∀ a b c,R a b → R b c → R a c) : ∀ {l m : List α},l.Pairwise R → m.Pairwise R → (∀ a,a ∈ l ↔ a ∈ m) → l = m
 | [],[],_,_,_=>rfl
 | [],y :: m,_,_,h=>absurd ((h y).2 (List.mem_cons_self ..)) (by simp)
 | x :: l,[],_,_,h=>absurd ((h x).1 (List.mem_cons_self ..)) (by simp)
 | x :: l,y :: m,hl,hm,h=>by
  obtain ⟨h1,h2⟩:=List.pairwise_cons.1 hl;obtain ⟨k1,k2⟩:=List.pairwise_cons.1 hm;have e : x = y:=by
   rcases List.mem_cons.1 ((h x).1 (List.mem_cons_self ..)) with e | hx
   · exact e
   · rcases List.mem_cons.1 ((h y).2 (List.mem_cons_self ..)) with e | hy
     · exact e.symm
     · exact absurd (tr _ _ _ (h1 y hy) (k1 x hx)) (irr x)
  subst e;rw [Ft irr tr h2 k2 fun a=>⟨fun ha=>?_,fun ha=>?_⟩]
  · rcases List.mem_cons.1 ((h a).1 (List.mem_cons_of_mem _ ha)) with rfl | k
    · exact absurd (h1 a ha) (irr a)
    · exact k
  · rcases List.mem_cons.1 ((h a).2 (List.mem_cons_of_mem _ ha)) with rfl | k
    · exact absurd (k1 a ha) (irr a)
    · exact k
/-! ### Edges in order -/
def As (a b : E3) : Prop:=a.1.Lt b.1 ∨ a.1 = b.1 ∧ a.2.Lt b.2
theorem Tc {a b : E3} : Sw a b = true ↔ As a b:=by
 unfold Sw As;by_cases h : a.1 = b.1
 · rw [if_neg (not_not_intro h),decide_eq_true_eq]
   exact ⟨fun k=>.inr ⟨h,k⟩,fun k=>k.elim (fun k=>absurd (h ▸ k) (P3.lt_irrefl _)) (·.2)⟩
 · rw [if_pos h,decide_eq_true_eq]
   exact ⟨.inl,fun k=>k.elim id (fun k=>absurd k.1 h)⟩
theorem As.irrefl (a : E3) : ¬ As a a:=fun h=>h.elim (P3.lt_irrefl _) fun h=>P3.lt_irrefl _ h.2
theorem As.trans {a b c : E3} (h : As a b) (k : As b c) : As a c:=by
 rcases h with h | ⟨h,h'⟩
 · rcases k with k | ⟨k,_⟩
   · exact .inl (P3.lt_trans h k)
   · exact .inl (k ▸ h)
 · rcases k with k | ⟨k,k'⟩
   · exact .inl (h ▸ k)
   · exact .inr ⟨h.trans k,P3.lt_trans h' k'⟩
theorem As.tri (a b : E3) : As a b ∨ a = b ∨ As b a:=by
 rcases P3.lt_tri a.1 b.1 with h | h | h
 · exact .inl (.inl h)
 · rcases P3.lt_tri a.2 b.2 with k | k | k
   · exact .inl (.inr ⟨h,k⟩)
   · exact .inr (.inl (Prod.ext h k))
   · exact .inr (.inr (.inr ⟨h.symm,k⟩))
 · exact .inr (.inr (.inl h))
def mS (es : List E3) : Prop:=es.Pairwise As
theorem Nz {es fs : List E3} (h : mS es) (k : mS fs) (e : ∀ a,a ∈ es ↔ a ∈ fs) : es = fs:=Ft As.irrefl (fun _ _ _=>As.trans) h k e
theorem Td {α : Type} {p : α → Bool} : ∀ (l : List α),l.take (l.takeWhile p).length = l.takeWhile p
 | []=>rfl
 | x :: l=>by
  rw [List.takeWhile_cons];split
  · rw [List.length_cons,List.take_succ_cons,Td l]
  · rfl
theorem Te {α : Type} {p : α → Bool} : ∀ (l : List α),l.drop (l.takeWhile p).length = l.dropWhile p
 | []=>rfl
 | x :: l=>by
  rw [List.takeWhile_cons,List.dropWhile_cons];split
  · rw [List.length_cons,List.drop_succ_cons,Te l]
  · rfl
theorem Tf (es : List E3) (e : E3) : Qp es e = es.takeWhile (fun x=>Sw x e) ++ [e] ++ es.dropWhile (fun x=>Sw x e):=by
 unfold Qp Vm;rw [Td,Te]
theorem aao {es : List E3} {e x : E3} : x ∈ Qp es e ↔ x = e ∨ x ∈ es:=by
 rw [Tf]
 conv=>rhs;rw [← List.takeWhile_append_dropWhile (p:=fun x=>Sw x e) (l:=es)]
 simp only[List.mem_append,List.mem_singleton];exact ⟨fun h=>h.elim (fun h=>h.elim (fun h=>.inr (.inl h)) .inl) (fun h=>.inr (.inr h)),fun h=>h.elim (fun h=>.inl (.inr h)) (fun h=>h.elim (fun h=>.inl (.inl h)) .inr)⟩
theorem acX {e : E3} : ∀ {es : List E3},mS es → e ∉ es → ∀ x ∈ es.dropWhile (fun x=>Sw x e),As e x
 | [],_,_,x,h=>by cases h
 | y :: ys,hs,he,x,h=>by
  obtain ⟨h1,h2⟩:=List.pairwise_cons.1 hs;rw [List.dropWhile_cons] at h;split at h
  · exact acX h2 (fun k=>he (List.mem_cons_of_mem _ k)) x h
  · rename_i hy
    have hy' : As e y:=by
     rcases As.tri y e with k | k | k
     · exact absurd (Tc.2 k) hy
     · exact absurd (k ▸ List.mem_cons_self ..) he
     · exact k
    rcases List.mem_cons.1 h with rfl | h
    · exact hy'
    · exact hy'.trans (h1 x h)
theorem aap {α : Type} {p : α → Bool} {x : α} : ∀ {l : List α},x ∈ l.takeWhile p → p x = true
 | [],h=>by cases h
 | y :: l,h=>by
  rw [List.takeWhile_cons] at h;split at h
  · rename_i hy
    rcases List.mem_cons.1 h with rfl | h
    · exact hy
    · exact aap h
  · cases h
theorem agr {e : E3} {es : List E3} : ∀ x ∈ es.takeWhile (fun x=>Sw x e),As x e:=fun x h=>Tc.1 (aap (p:=fun x=>Sw x e) h)
theorem Oa {es : List E3} {e : E3} (hs : mS es) (he : e ∉ es) : mS (Qp es e):=by
 rw [Tf];have h0:=hs;rw [mS,← List.takeWhile_append_dropWhile (p:=fun x=>Sw x e) (l:=es)] at h0;obtain ⟨h1,h2,h3⟩:=List.pairwise_append.1 h0;refine List.pairwise_append.2 ⟨List.pairwise_append.2 ⟨h1,List.pairwise_singleton _ _,fun x hx y hy=>?_⟩,h2,fun x hx y hy=>?_⟩
 · rw [List.mem_singleton.1 hy];exact agr x hx
 · rcases List.mem_append.1 hx with hx | hx
   · exact h3 x hx y hy
   · rw [List.mem_singleton.1 hx];exact acX hs he y hy
theorem qQ {es : List E3} {e : E3} : 0 < kO es e ↔ e ∈ es:=by
 unfold kO;rw [List.length_pos_iff_exists_mem];simp
theorem Bi {all : List E3} : ∀ (es out : List E3),mS out → mS (es.foldl (nR all) out) ∧ ∀ x,x ∈ es.foldl (nR all) out ↔ x ∈ out ∨ x ∈ es ∧ (x.2,x.1) ∉ all
 | [],out,h=>⟨h,fun x=>by simp⟩
 | e :: es,out,h=>by
  have key : mS (nR all out e) ∧ ∀ x,x ∈ nR all out e ↔ x ∈ out ∨ x = e ∧ (x.2,x.1) ∉ all:=by
   unfold nR;split
   · rename_i hc
     refine ⟨h,fun x=>⟨.inl,fun k=>k.elim id fun q=>?_⟩⟩;obtain ⟨rfl,q⟩:=q;exact hc.elim (fun hc=>absurd (qQ.1 hc) q) (fun hc=>qQ.1 hc)
   · rename_i hc
     have h1 : e ∉ out:=fun k=>hc (.inr (qQ.2 k));have h2 : (e.2,e.1) ∉ all:=fun k=>hc (.inl (qQ.2 k));refine ⟨Oa h h1,fun x=>aao.trans ⟨fun k=>k.elim (fun k=>.inr ⟨k,k ▸ h2⟩) .inl,fun k=>k.elim .inr fun k=>.inl k.1⟩⟩
  obtain ⟨i1,i2⟩:=Bi es (nR all out e) key.1;refine ⟨i1,fun x=>?_⟩;rw [List.foldl_cons,i2,key.2,List.mem_cons,or_assoc];refine or_congr Iff.rfl ⟨fun k=>k.elim (fun k=>⟨.inl k.1,k.2⟩) (fun k=>⟨.inr k.1,k.2⟩),fun k=>k.1.elim (fun h=>.inl ⟨h,k.2⟩) (fun h=>.inr ⟨h,k.2⟩)⟩
theorem xC (ts : List T3) : mS (aS ts):=(Bi (all:=bJ ts) (bJ ts) [] List.Pairwise.nil).1
theorem tU {ts : List T3} {e : E3} : e ∈ aS ts ↔ e ∈ bJ ts ∧ (e.2,e.1) ∉ bJ ts:=by
 have:=(Bi (all:=bJ ts) (bJ ts) [] List.Pairwise.nil).2 e;unfold aS;rw [this];simp
/-! ### Keys put into a set -/
section
variable {K : Type} [DecidableEq K]
def gL (D : List (K × Bool)) (ks : List K) : List (K × Bool):=ks.foldl (fun D k=>gV D k true) D
theorem vL : ∀ (ks : List K) (D : List (K × Bool)) (a : K),a ∈ (gL D ks).map (·.1) ↔ a ∈ D.map (·.1) ∨ a ∈ ks
 | [],D,a=>by simp [gL]
 | k :: ks,D,a=>by
  have:=vL ks (gV D k true) a;unfold gL at this ⊢;rw [List.foldl_cons,this,Ny,List.mem_cons,or_assoc]
theorem oN : ∀ (ks : List K) (D : List (K × Bool)),(D.map (·.1)).Nodup → ((gL D ks).map (·.1)).Nodup
 | [],_,h=>h
 | k :: ks,D,h=>oN ks (gV D k true) (xT h k true)
theorem vM : ∀ (ks : List K) (D : List (K × Bool)),(gL D ks).length ≤ D.length + ks.length
 | [],_=>Nat.le_refl _
 | k :: ks,D=>by
  have h1:=vM ks (gV D k true);have h2:=vK D k true;show (gL (gV D k true) ks).length ≤ _
  rw [List.length_cons];omega
theorem zY : ∀ (ks : List K) (D : List (K × Bool)) (a : K),dG (gL D ks) a = if a ∈ ks then some true else dG D a
 | [],D,a=>by simp [gL]
 | k :: ks,D,a=>by
  have h:=zY ks (gV D k true) a;show dG (gL (gV D k true) ks) a = _
  rw [h,nC];by_cases h1 : a ∈ ks
  · rw [if_pos h1,if_pos (List.mem_cons_of_mem _ h1)]
  · rw [if_neg h1]
    by_cases h2 : k = a
    · rw [if_pos h2,if_pos (h2 ▸ List.mem_cons_self ..)]
    · rw [if_neg h2,if_neg (fun k'=>(List.mem_cons.1 k').elim (fun e=>h2 e.symm) h1)]
theorem Ob (D : List (K × Bool)) (ks ls : List K) : gL D (ks ++ ls) = gL (gL D ks) ls:=List.foldl_append ..
theorem qR (ks : List K) (a : K) : (dG (gL [] ks) a).getD false = decide (a ∈ ks):=by
 rw [zY];by_cases h : a ∈ ks
 · rw [if_pos h,decide_eq_true h];rfl
 · rw [if_neg h,decide_eq_false h];rfl
theorem Fu {ks : List K} {a : K} : (dG (gL [] ks) a).getD false = true ↔ a ∈ ks:=by
 rw [zY];by_cases h : a ∈ ks
 · rw [if_pos h];exact ⟨fun _=>h,fun _=>rfl⟩
 · rw [if_neg h];exact ⟨fun k=>(by cases k),fun k=>absurd k h⟩
end
/-! ### No edge twice -/
theorem Bj {x e : E3} {es : List E3} : kO (x :: es) e = (if x = e then 1 else 0) + kO es e:=by
 unfold kO;by_cases h : x = e
 · rw [List.filter_cons_of_pos (by simpa using h),List.length_cons,if_pos h];omega
 · rw [List.filter_cons_of_neg (by simpa using h),if_neg h];omega
theorem Je : ∀ {es : List E3},es.Nodup ↔ ∀ e,kO es e ≤ 1
 | []=>by simp [kO]
 | x :: es=>by
  rw [List.nodup_cons,Je (es:=es)];constructor
  · rintro ⟨h1,h2⟩ e
    rw [Bj];by_cases h : x = e
    · have : ¬ 0 < kO es e:=fun k=>h1 (h ▸ qQ.1 k)
      rw [if_pos h];omega
    · rw [if_neg h];have:=h2 e;omega
  · intro h
    refine ⟨fun k=>?_,fun e=>?_⟩
    · have h1:=h x
      rw [Bj,if_pos rfl] at h1;have:=qQ.2 k;omega
    · have:=h e
      rw [Bj] at this;omega
theorem Lg {es : List E3} : (es.any fun e=>decide (1 < kO es e)) = decide (¬ es.Nodup):=by
 rw [Bool.eq_iff_iff,List.any_eq_true,decide_eq_true_eq,Je];constructor
 · rintro ⟨e,_,h⟩ k
   have:=k e;simp only[decide_eq_true_eq] at h;omega
 · intro h
   obtain ⟨e,he⟩:=Classical.not_forall.1 h;exact ⟨e,qQ.1 (by omega),by simpa using Nat.not_le.1 he⟩
theorem xV {α : Type} {es : List α} {e : α} : (es ++ [e]).Nodup ↔ es.Nodup ∧ e ∉ es:=by
 rw [List.nodup_append];constructor
 · rintro ⟨h1,_,h3⟩
   exact ⟨h1,fun k=>h3 e k e (by simp) rfl⟩
 · rintro ⟨h1,h2⟩
   exact ⟨h1,by simp,fun a ha b hb e'=>h2 (by rw [← List.mem_singleton.1 hb,← e'];exact ha)⟩
end Go.Lith
namespace Go.Lith
open Go.RowKit
section
variable {K V : Type} [DecidableEq K]
def nI (D : List (K × V)) (xs : List (K × V)) : List (K × V):=xs.foldl (fun D x=>gV D x.1 x.2) D
theorem Fv : ∀ (xs D : List (K × V)) (k : K),(xs.map (·.1)).Nodup → dG (nI D xs) k = match dG xs k with | some v=>some v | none=>dG D k
 | [],D,k,_=>rfl
 | (a,v) :: xs,D,k,h=>by
  rw [List.map_cons,List.nodup_cons] at h;have ih:=Fv xs (gV D a v) k h.2;show dG (nI (gV D a v) xs) k = _
  rw [ih,nC,dG];by_cases e : a = k
  · rw [if_pos e,if_pos e]
    have : dG xs k = none:=sK.2 (e ▸ h.1);rw [this]
  · rw [if_neg e,if_neg e]
theorem Oc (D xs ys : List (K × V)) : nI D (xs ++ ys) = nI (nI D xs) ys:=List.foldl_append ..
def rR (D : List (K × Nat)) (ks : List K) : List (K × Nat):=ks.foldl (fun D k=>gV D k ((dG D k).getD 0 + 1)) D
def qX (ks : List K) (a : K) : Nat:=(ks.filter fun x=>decide (x = a)).length
theorem oO {x a : K} {ks : List K} : qX (x :: ks) a = (if x = a then 1 else 0) + qX ks a:=by
 unfold qX;by_cases h : x = a
 · rw [List.filter_cons_of_pos (by simpa using h),List.length_cons,if_pos h];omega
 · rw [List.filter_cons_of_neg (by simpa using h),if_neg h];omega
theorem Fw {a : K} {ks ls : List K} : qX (ks ++ ls) a = qX ks a + qX ls a:=by simp [qX]
theorem Od : ∀ (ks : List K) (D : List (K × Nat)) (a : K),(dG (rR D ks) a).getD 0 = (dG D a).getD 0 + qX ks a
 | [],D,a=>rfl
 | k :: ks,D,a=>by
  have h:=Od ks (gV D k ((dG D k).getD 0 + 1)) a;show (dG (rR (gV D k ((dG D k).getD 0 + 1)) ks) a).getD 0 = _
  rw [h,nC,oO];by_cases e : k = a
  · subst e
    rw [if_pos rfl,if_pos rfl,Option.getD_some];omega
  · rw [if_neg e,if_neg e];omega
theorem aaq (D : List (K × Nat)) (ks ls : List K) : rR D (ks ++ ls) = rR (rR D ks) ls:=List.foldl_append ..
theorem Fx : ∀ {l m : List K},l.Nodup → (∀ a ∈ l,a ∈ m) → l.length ≤ m.length
 | [],_,_,_=>Nat.zero_le _
 | x :: l,m,h,k=>by
  rw [List.nodup_cons] at h;have hx:=k x (List.mem_cons_self ..);have h1:=Fx (m:=m.erase x) h.2 fun a ha=>(List.mem_erase_of_ne (fun (e : a = x)=>h.1 (e ▸ ha))).2 (k a (List.mem_cons_of_mem _ ha));rw [List.length_erase_of_mem hx] at h1;have:=List.length_pos_of_mem hx;rw [List.length_cons];omega
end
/-! ### What lies behind an edge -/
def kC (ts : List T3) : List (E3 × P3):=ts.flatMap fun t=>[((t.a,t.b),t.c),((t.b,t.c),t.a),((t.c,t.a),t.b)]
theorem oP : ∀ ts : List T3,(kC ts).map (·.1) = bJ ts
 | []=>rfl
 | t :: ts=>by
  have:=oP ts;unfold kC bJ at this ⊢;rw [List.flatMap_cons,List.map_append,this];rfl
theorem Fy {ts : List T3} {k : Nat} {t : T3} (h : ts[k]? = some t) : kC (ts.take (k + 1)) = kC (ts.take k) ++ [((t.a,t.b),t.c),((t.b,t.c),t.a),((t.c,t.a),t.b)]:=by
 unfold kC;rw [dO h,List.flatMap_append];simp
theorem tV (p q : P3) : ∀ ts : List T3,bS ts p q = dG (kC ts) (p,q)
 | []=>rfl
 | t :: ts=>by
  have ih:=tV p q ts;have e : kC (t :: ts) = ((t.a,t.b),t.c) :: ((t.b,t.c),t.a) :: ((t.c,t.a),t.b) :: kC ts:=rfl;rw [e,bS,dG,dG,dG,← ih,T3.fnd];by_cases h1 : t.a = p ∧ t.b = q
  · rw [if_pos h1,if_pos (Prod.ext h1.1 h1.2)]
  · rw [if_neg h1,if_neg (fun e=>h1 ⟨congrArg Prod.fst e,congrArg Prod.snd e⟩)]
    by_cases h2 : t.b = p ∧ t.c = q
    · rw [if_pos h2,if_pos (Prod.ext h2.1 h2.2)]
    · rw [if_neg h2,if_neg (fun e=>h2 ⟨congrArg Prod.fst e,congrArg Prod.snd e⟩)]
      by_cases h3 : t.c = p ∧ t.a = q
      · rw [if_pos h3,if_pos (Prod.ext h3.1 h3.2)]
      · rw [if_neg h3,if_neg (fun e=>h3 ⟨congrArg Prod.fst e,congrArg Prod.snd e⟩)]
theorem sN {ts : List T3} (h : (bJ ts).Nodup) (p q : P3) : dG (nI [] (kC ts)) (p,q) = bS ts p q:=by
 rw [Fv _ _ _ (by rw [oP];exact h),tV];cases dG (kC ts) (p,q) <;> rfl
theorem oQ {ts : List T3} {x y z : P3} (h : ((x,y),z) ∈ kC ts) : ((y,z),x) ∈ kC ts:=by
 obtain ⟨t,ht,hx⟩:=List.mem_flatMap.1 h;refine List.mem_flatMap.2 ⟨t,ht,?_⟩;simp only[List.mem_cons,List.not_mem_nil,or_false,Prod.mk.injEq] at hx ⊢;rcases hx with ⟨⟨rfl,rfl⟩,rfl⟩ | ⟨⟨rfl,rfl⟩,rfl⟩ | ⟨⟨rfl,rfl⟩,rfl⟩
 · exact .inr (.inl ⟨⟨rfl,rfl⟩,rfl⟩)
 · exact .inr (.inr ⟨⟨rfl,rfl⟩,rfl⟩)
 · exact .inl ⟨⟨rfl,rfl⟩,rfl⟩
theorem Rg {ts : List T3} (h : (bJ ts).Nodup) {e : E3} {x y : P3} (h1 : (e,x) ∈ kC ts) (h2 : (e,y) ∈ kC ts) : x = y:=by
 have k : ((kC ts).map (·.1)).Nodup:=by rw [oP];exact h
 have a:=nD k h1;rw [nD k h2] at a;exact (Option.some.inj a).symm
theorem tW {ts : List T3} {p q x : P3} (h : bS ts p q = some x) : ((p,q),x) ∈ kC ts:=yY (by rw [← tV];exact h)
theorem Cq {ts : List T3} {p q x : P3} (h : bS ts p q = some x) : (p,q) ∈ bJ ts:=by
 rw [← oP];exact List.mem_map.2 ⟨_,tW h,rfl⟩
theorem Oe {ts : List T3} {p q : P3} (h : (p,q) ∈ bJ ts) : ∃ x,bS ts p q = some x:=by
 rw [tV];cases e : dG (kC ts) (p,q) with
 | some x=>exact ⟨x,rfl⟩
 | none =>
  have:=sK.1 e;rw [oP] at this;exact absurd h this
theorem Rh {ts : List T3} (h : (bJ ts).Nodup) {p x y z : P3} (h1 : bS ts p x = some z) (h2 : bS ts p y = some z) : x = y :=
 Rg h (oQ (oQ (tW h1))) (oQ (oQ (tW h2)))
theorem Of {ts : List T3} {p x z : P3} (h : bS ts p x = some z) : (z,p) ∈ bJ ts:=by
 rw [← oP];exact List.mem_map.2 ⟨_,oQ (oQ (tW h)),rfl⟩
def sT (ts : List T3) (p : P3) : Nat → P3 → Option P3
 | 0,x=>some x
 | n + 1,x=>(bS ts p x).bind (sT ts p n)
theorem vN {ts : List T3} {p : P3} : ∀ (n : Nat) (x : P3),sT ts p (n + 1) x = (sT ts p n x).bind (bS ts p)
 | 0,x=>by simp [sT]
 | n + 1,x=>by
  rw [sT];cases h : bS ts p x with
  | none=>simp [sT,h]
  | some y =>
   rw [Option.bind_some,vN n y,sT,h];rfl
theorem Og {ms : List T3} {p s : P3} : ∀ (n : Nat) (x : P3),mM ms p s n x = true ↔ ∃ j,1 ≤ j ∧ j ≤ n ∧ sT ms p j x = some s
 | 0,x=>⟨fun h=>(by cases h),fun ⟨j,h1,h2,_⟩=>by omega⟩
 | n + 1,x=>by
  cases h : bS ms p x with
  | none =>
   rw [Is h];refine ⟨fun k=>(by cases k),fun ⟨j,h1,_,h3⟩=>?_⟩;obtain ⟨i,rfl⟩ : ∃ i,j = i + 1:=⟨j - 1,by omega⟩
   rw [sT,h] at h3;cases h3
  | some y =>
   by_cases e : y = s
   · subst e
     rw [Nk h];exact ⟨fun _=>⟨1,Nat.le_refl _,by omega,by simp [sT,h]⟩,fun _=>rfl⟩
   · rw [Iu h e,Og n y]
     constructor
     · rintro ⟨j,h1,h2,h3⟩
       exact ⟨j + 1,by omega,by omega,by rw [sT,h];exact h3⟩
     · rintro ⟨j,h1,h2,h3⟩
       obtain ⟨i,rfl⟩ : ∃ i,j = i + 1:=⟨j - 1,by omega⟩
       rw [sT,h,Option.bind_some] at h3;cases i with
       | zero=>exact absurd (Option.some.inj h3) e
       | succ i=>exact ⟨i + 1,by omega,by omega,h3⟩
def vO (nx : P3 → Option P3) (s : P3) : Nat → P3 → Nat → P3 × Nat
 | 0,a,z=>(a,z)
 | n + 1,a,z=>if a = s then (a,z) else match nx a with | none=>(a,z) | some b=>vO nx s n b (z + 1)
theorem aar {nx : P3 → Option P3} {s : P3} {n z : Nat} : vO nx s n s z = (s,z):=by
 cases n with
 | zero=>rfl
 | succ n=>rw [vO,if_pos rfl]
theorem Lh {ts : List T3} {p s : P3} {M : Nat} : ∀ (n : Nat) (a : P3) (z : Nat),n = M + 1 - z → ((vO (bS ts p) s n a z).1 = s ∧ (vO (bS ts p) s n a z).2 < M ↔ ∃ j,z ≤ j ∧ j < M ∧ sT ts p (j - z) a = some s)
 | 0,a,z,h=>by
  rw [vO];refine ⟨fun k=>?_,fun ⟨j,h1,h2,_⟩=>?_⟩
  · have:=k.2;simp only at this;omega
  · omega
 | n + 1,a,z,h=>by
  rw [vO];by_cases e : a = s
  · rw [if_pos e]
    refine ⟨fun k=>⟨z,Nat.le_refl _,k.2,by rw [Nat.sub_self,sT,e]⟩,fun ⟨j,h1,h2,_⟩=>⟨e,by simp only;omega⟩⟩
  · rw [if_neg e]
    cases hb : bS ts p a with
    | none =>
     refine ⟨fun k=>absurd k.1 e,fun ⟨j,h1,h2,h3⟩=>?_⟩;cases hj : j - z with
     | zero=>rw [hj,sT] at h3;exact absurd (Option.some.inj h3) e
     | succ i=>rw [hj,sT,hb] at h3;cases h3
    | some b =>
     rw [Lh n b (z + 1) (by omega)];constructor
     · rintro ⟨j,h1,h2,h3⟩
       refine ⟨j,by omega,h2,?_⟩;rw [show j - z = (j - (z + 1)) + 1 by omega,sT,hb];exact h3
     · rintro ⟨j,h1,h2,h3⟩
       rcases Nat.lt_or_ge z j with hz | hz
       · refine ⟨j,by omega,h2,?_⟩
         rw [show j - z = (j - (z + 1)) + 1 by omega,sT,hb] at h3;exact h3
       · rw [show j - z = 0 by omega,sT] at h3
         exact absurd (Option.some.inj h3) e
/-! ### The triangles of a corner -/
theorem Li {t : T3} {p q x : P3} (h : t.fnd p q = some x) : ∃ c,c < 3 ∧ t.cor c = p:=by
 unfold T3.fnd at h;split at h
 · rename_i h';exact ⟨0,by decide,h'.1⟩
 · split at h
   · rename_i h';exact ⟨1,by decide,h'.1⟩
   · split at h
     · rename_i h';exact ⟨2,by decide,h'.1⟩
     · cases h
theorem Ri {ts us : List T3} {p q : P3} : bS (ts ++ us) p q = match bS ts p q with | some x=>some x | none=>bS us p q:=by
 induction ts with
 | nil=>rfl
 | cons t ts ih =>
  rw [List.cons_append,bS,bS];cases t.fnd p q with
  | some x=>rfl
  | none=>exact ih
theorem Wm {t u : T3} {p : P3} (h : u ∈ sE p t 3) : u = t ∧ ∃ c,c < 3 ∧ t.cor c = p:=by
 obtain ⟨c,hc,h⟩:=List.mem_flatMap.1 h;unfold Ew at h;split at h
 · rename_i e
   exact ⟨List.mem_singleton.1 h,c,List.mem_range.1 hc,e⟩
 · cases h
theorem Rj {t : T3} {p : P3} {c : Nat} (hc : c < 3) (h : t.cor c = p) : t ∈ sE p t 3 :=
 List.mem_flatMap.2 ⟨c,List.mem_range.2 hc,by rw [Ew,if_pos h];exact List.mem_singleton.2 rfl⟩
theorem Fz {t : T3} {p q : P3} : ∀ us : List T3,(∀ u ∈ us,u = t) → bS us p q = if us = [] then none else t.fnd p q
 | [],_=>rfl
 | u :: us,h=>by
  have e:=h u (List.mem_cons_self ..);have ih:=Fz (p:=p) (q:=q) us fun v hv=>h v (List.mem_cons_of_mem _ hv);rw [bS,e,if_neg (by simp)];cases hf : t.fnd p q with
  | some x=>rfl
  | none =>
   simp only;rw [ih];split
   · rfl
   · exact hf
theorem Cr (p q : P3) : ∀ ts : List T3,bS (mL ts p) p q = bS ts p q
 | []=>rfl
 | t :: ts=>by
  have e : mL (t :: ts) p = sE p t 3 ++ mL ts p:=by simp [mL]
  rw [e,Ri,Cr p q ts,bS,Fz (t:=t) _ (fun u hu=>(Wm hu).1)];by_cases h : sE p t 3 = []
  · rw [if_pos h]
    cases hf : t.fnd p q with
    | none=>rfl
    | some x =>
     obtain ⟨c,hc,k⟩:=Li hf;have:=Rj hc k;rw [h] at this;cases this
  · rw [if_neg h]
    rfl
theorem Ga (ts : List T3) (p : P3) : ∀ (n : Nat) (x : P3),sT (mL ts p) p n x = sT ts p n x
 | 0,_=>rfl
 | n + 1,x=>by
  rw [sT,sT,Cr];cases bS ts p x with
  | none=>rfl
  | some y=>exact Ga ts p n y
theorem Oh (p : P3) : ∀ ts : List T3,(mL ts p).length = qX (dN ts) p
 | []=>rfl
 | t :: ts=>by
  have ih:=Oh p ts;have e : mL (t :: ts) p = sE p t 3 ++ mL ts p:=by simp [mL]
  have e2 : dN (t :: ts) = [t.a,t.b,t.c] ++ dN ts:=rfl;rw [e,e2,List.length_append,Fw,ih]
  congr 1
  have r3 : List.range 3 = [0,1,2]:=rfl;unfold sE;rw [r3];simp only[List.flatMap_cons,List.flatMap_nil,List.append_nil,List.length_append,Ew];rw [oO,oO,oO];have k : ∀ (c : Nat) (x : P3),t.cor c = x → (if t.cor c = p then [t] else []).length = if x = p then 1 else 0:=fun c x hx=>by
   subst hx;split <;> rfl
  rw [k 0 t.a rfl,k 1 t.b rfl,k 2 t.c rfl];rfl
theorem Jf {p s : P3} {ts : List T3} : s ∈ qL ts p ↔ (p,s) ∈ bJ ts:=by
 unfold qL bJ;rw [List.mem_flatMap,List.mem_flatMap];refine exists_congr fun t=>and_congr Iff.rfl ?_;unfold vB;rw [show List.range 3 = [0,1,2] from rfl];simp only[List.flatMap_cons,List.flatMap_nil,List.append_nil,List.mem_append,Ex,List.mem_cons,List.not_mem_nil,or_false,Prod.mk.injEq];have k : ∀ (c : Nat) (x y : P3),t.cor c = x → t.cor ((c + 1) % 3) = y → (s ∈ (if t.cor c = p then [t.cor ((c + 1) % 3)] else []) ↔ p = x ∧ s = y):=fun c x y hx hy=>by
  subst hx;subst hy;split
  · rename_i h;rw [List.mem_singleton];exact ⟨fun e=>⟨h.symm,e⟩,fun e=>e.2⟩
  · rename_i h;exact ⟨fun e=>(by cases e),fun e=>absurd e.1.symm h⟩
 rw [k 0 t.a t.b rfl rfl,k 1 t.b t.c rfl rfl,k 2 t.c t.a rfl rfl]
theorem Bk {ps : List P3} {p x : P3} : x ∈ iX ps p ↔ x = p ∨ x ∈ ps:=by
 unfold iX;split
 · rename_i h
   exact ⟨.inr,fun k=>k.elim (fun e=>e ▸ List.mem_of_getElem? h) id⟩
 · conv=>rhs;rw [← List.take_append_drop (Vl ps p) ps]
   simp only[List.mem_append,List.mem_singleton];exact ⟨fun h=>h.elim (fun h=>h.elim (fun h=>.inr (.inl h)) .inl) (fun h=>.inr (.inr h)),fun h=>h.elim (fun h=>.inl (.inr h)) (fun h=>h.elim (fun h=>.inl (.inl h)) .inr)⟩
theorem Oi {x : P3} {ts : List T3} : x ∈ fG ts ↔ x ∈ dN ts:=by
 have : ∀ (ts : List T3) (ps : List P3),x ∈ ts.foldl (fun ps t=>iX (iX (iX ps t.a) t.b) t.c) ps ↔ x ∈ ps ∨ x ∈ dN ts:=by
  intro ts
  induction ts with
  | nil=>intro ps;simp [dN]
  | cons t ts ih =>
   intro ps;rw [List.foldl_cons,ih,Bk,Bk,Bk];have e : dN (t :: ts) = [t.a,t.b,t.c] ++ dN ts:=rfl;rw [e];simp only[List.mem_append,List.mem_cons,List.not_mem_nil,or_false];constructor
   · rintro ((h | h | h | h) | h)
     · exact .inr (.inl (.inr (.inr h)))
     · exact .inr (.inl (.inr (.inl h)))
     · exact .inr (.inl (.inl h))
     · exact .inl h
     · exact .inr (.inr h)
   · rintro (h | (h | h | h) | h)
     · exact .inl (.inr (.inr (.inr h)))
     · exact .inl (.inr (.inr (.inl h)))
     · exact .inl (.inr (.inl h))
     · exact .inl (.inl h)
     · exact .inr h
 have:=this ts [];simpa [fG] using this
theorem Jg {ts : List T3} {e : E3} (h : e ∈ bJ ts) : e.1 ∈ dN ts ∧ e.2 ∈ dN ts:=by
 obtain ⟨t,ht,hx⟩:=List.mem_flatMap.1 h;have key : ∀ x,x = t.a ∨ x = t.b ∨ x = t.c → x ∈ dN ts:=fun x hx=>List.mem_flatMap.2 ⟨t,ht,by simpa using hx⟩;simp only[List.mem_cons,List.not_mem_nil,or_false] at hx;rcases hx with rfl | rfl | rfl
 · exact ⟨key _ (.inl rfl),key _ (.inr (.inl rfl))⟩
 · exact ⟨key _ (.inr (.inl rfl)),key _ (.inr (.inr rfl))⟩
 · exact ⟨key _ (.inr (.inr rfl)),key _ (.inl rfl)⟩
def Lj (ts : List T3) (e : E3) : Prop:=∃ x,bS ts e.1 e.2 = some x ∧ (vO (bS ts e.1) e.2 (qX (dN ts) e.1 + 1 - 1) x 1).1 = e.2 ∧ (vO (bS ts e.1) e.2 (qX (dN ts) e.1 + 1 - 1) x 1).2 < qX (dN ts) e.1
theorem Oj {ts : List T3} {e : E3} : Lj ts e ↔ e ∈ bJ ts ∧ mM (mL ts e.1) e.1 e.2 ((mL ts e.1).length - 1) e.2 = true:=by
 rw [Og,Oh];constructor
 · rintro ⟨x,hx,h⟩
   obtain ⟨j,h1,h2,h3⟩:=(Lh (M:=qX (dN ts) e.1) _ x 1 (by omega)).1 h;refine ⟨Cq hx,j,h1,by omega,?_⟩;rw [Ga,show j = (j - 1) + 1 by omega,sT,hx];exact h3
 · rintro ⟨he,j,h1,h2,h3⟩
   obtain ⟨x,hx⟩:=Oe he;refine ⟨x,hx,(Lh (M:=qX (dN ts) e.1) _ x 1 (by omega)).2 ⟨j,h1,by omega,?_⟩⟩;rw [Ga,show j = (j - 1) + 1 by omega,sT,hx] at h3;exact h3
theorem pinned {ts : List T3} : (fG ts).any (Ez ts) = true ↔ ∃ e,Lj ts e:=by
 rw [List.any_eq_true];constructor
 · rintro ⟨p,_,h⟩
   obtain ⟨s,hs,hr⟩:=List.any_eq_true.1 h;exact ⟨(p,s),Oj.2 ⟨Jf.1 hs,hr⟩⟩
 · rintro ⟨e,h⟩
   obtain ⟨he,hr⟩:=Oj.1 h;exact ⟨e.1,Oi.2 (Jg he).1,List.any_eq_true.2 ⟨e.2,Jf.2 he,hr⟩⟩
end Go.Lith
namespace Go.Lith
open Go.RowKit
/-! ### The ends of fans -/
def sO (ts : List T3) (p : P3) : Nat → P3 → P3
 | 0,a=>a
 | n + 1,a=>match bS ts p a with
  | none=>a
  | some x=>sO ts p n x
theorem aas {ts : List T3} {p : P3} : ∀ (i n : Nat) (a x : P3),i ≤ n → sT ts p i a = some x → bS ts p x = none → sO ts p n a = x
 | 0,n,a,x,_,h,hn=>by
  cases h;cases n with
  | zero=>rfl
  | succ n=>simp only[sO,hn]
 | i + 1,n,a,x,hi,h,hn=>by
  obtain ⟨m,rfl⟩ : ∃ m,n = m + 1:=⟨n - 1,by omega⟩
  rw [sT] at h;cases hb : bS ts p a with
  | none=>rw [hb] at h;cases h
  | some y =>
   rw [hb,Option.bind_some] at h;simp only[sO,hb];exact aas i m y x (by omega) h hn
def zZ (ts : List T3) : Prop:=∀ t ∈ ts,tK t = false
theorem aea {t : T3} (h : tK t = false) : t.a ≠ t.b ∧ t.b ≠ t.c ∧ t.c ≠ t.a:=by
 unfold tK at h;simp only[Bool.or_eq_false_iff,decide_eq_false_iff_not] at h;exact ⟨h.1.1,h.1.2,h.2⟩
theorem Ol {p : P3} : ∀ {ts : List T3},zZ ts → ((bJ ts).filter fun e=>decide (e.1 = p)).length ≤ ts.length
 | [],_=>Nat.le_refl _
 | t :: ts,h=>by
  have ih:=Ol (p:=p) (ts:=ts) fun u hu=>h u (List.mem_cons_of_mem _ hu);obtain ⟨h1,h2,h3⟩:=aea (h t (List.mem_cons_self ..));have e : bJ (t :: ts) = [(t.a,t.b),(t.b,t.c),(t.c,t.a)] ++ bJ ts:=rfl;rw [e,List.filter_append,List.length_append,List.length_cons];have : (List.filter (fun e : E3=>decide (e.1 = p)) [(t.a,t.b),(t.b,t.c),(t.c,t.a)]).length ≤ 1:=by
   simp only[List.filter_cons,List.filter_nil];by_cases ha : t.a = p
   · have hb : ¬ t.b = p:=fun e=>h1 (ha.trans e.symm)
     have hc : ¬ t.c = p:=fun e=>h3 (e.trans ha.symm);simp [ha,hb,hc]
   · by_cases hb : t.b = p
     · have hc : ¬ t.c = p:=fun e=>h2 (hb.trans e.symm)
       simp [ha,hb,hc]
     · by_cases hc : t.c = p <;> simp [ha,hb,hc]
  omega
theorem Tg {ts : List T3} {p : P3} : ∀ (i j : Nat) (a : P3),sT ts p (i + j) a = (sT ts p i a).bind (sT ts p j)
 | 0,j,a=>by simp [sT]
 | i + 1,j,a=>by
  rw [show i + 1 + j = (i + j) + 1 by omega,sT,sT];cases bS ts p a with
  | none=>rfl
  | some y=>rw [Option.bind_some,Option.bind_some];exact Tg i j y
theorem Jh {ts : List T3} {p a : P3} (hn : (bJ ts).Nodup) (hb : (a,p) ∉ bJ ts) : ∀ (i j : Nat) (x : P3),i < j → sT ts p i a = some x → sT ts p j a ≠ some x
 | 0,j,x,hij,h,k=>by
  cases h;obtain ⟨m,rfl⟩ : ∃ m,j = m + 1:=⟨j - 1,by omega⟩
  rw [vN] at k;obtain ⟨y,_,hy⟩:=Option.bind_eq_some_iff.1 k;exact hb (Of hy)
 | i + 1,j,x,hij,h,k=>by
  obtain ⟨m,rfl⟩ : ∃ m,j = m + 1:=⟨j - 1,by omega⟩
  rw [vN] at h k;obtain ⟨y,hy,hy'⟩:=Option.bind_eq_some_iff.1 h;obtain ⟨z,hz,hz'⟩:=Option.bind_eq_some_iff.1 k;have e:=Rh hn hy' hz';subst e;exact Jh hn hb i m y (by omega) hy hz
theorem ab2 {ts : List T3} {p a x : P3} (hd : zZ ts) (hn : (bJ ts).Nodup) (hb : (a,p) ∉ bJ ts) {i : Nat} (h : sT ts p i a = some x) : i ≤ ts.length:=by
 have key : ∀ j,j ≤ i → ∃ y,sT ts p j a = some y:=fun j hj=>by
  have e : i = j + (i - j):=by omega
  rw [e,Tg] at h;obtain ⟨y,hy,_⟩:=Option.bind_eq_some_iff.1 h;exact ⟨y,hy⟩
 have h1:=Ol (p:=p) hd;have h2 : ((List.range i).map fun j=>(p,(sT ts p j a).getD p)).length ≤ ((bJ ts).filter fun e=>decide (e.1 = p)).length:=by
  refine Fx ?_ fun e he=>?_
  · rw [List.Nodup,List.pairwise_map]
    refine (List.pairwise_lt_range (n:=i)).imp_of_mem fun {j k} hj hk hjk e=>?_;obtain ⟨y,hy⟩:=key j (by have:=List.mem_range.1 hj;omega);obtain ⟨z,hz⟩:=key k (by have:=List.mem_range.1 hk;omega);rw [hy,hz] at e;have e' : y = z:=(Prod.mk.inj e).2;subst e';exact Jh hn hb j k y hjk hy hz
  · obtain ⟨j,hj,rfl⟩:=List.mem_map.1 he
    have hj':=List.mem_range.1 hj;obtain ⟨y,hy⟩:=key j (by omega);obtain ⟨z,hz⟩:=key (j + 1) (by omega);rw [vN,hy,Option.bind_some] at hz;refine List.mem_filter.2 ⟨?_,by simp⟩;rw [hy];exact Cq hz
 rw [List.length_map,List.length_range] at h2;omega
/-! ### As the reference says it -/
abbrev Mv:=P3 × P3
def lL : List Mv → P3 → P3
 | [],p=>p
 | m :: ms,p=>if m.1 = p then m.2 else lL ms p
def T3.has (t : T3) (p : P3) : Bool:=decide (t.a = p) || decide (t.b = p) || decide (t.c = p)
def pH (ts : List T3) (p : P3) : Bool:=ts.any fun t=>t.has p
def nJ (ts : List T3) (p q : P3) : Bool:=ts.any fun t=>t.has p && t.has q
def Aa (rim : List E3) (p : P3) : Bool:=rim.any fun e=>decide (e.1 = p) || decide (e.2 = p)
def nE (fine coarse : List T3) (rim : List E3) : Bool:=rim.all fun e=>decide (sO fine e.1 fine.length e.2 = sO coarse e.1 coarse.length e.2)
def iV (fine coarse : List T3) (rim : List E3) : Bool:=(bJ coarse).any fun e=>Aa rim e.1 && Aa rim e.2 && !nJ fine e.1 e.2
def oB (fine coarse : List T3) (ms : List Mv) (rim : List E3) (i : Nat) (m : Mv) : Bool :=
 (decide (i = 0) || (ms[i - 1]?).any fun k=>decide (k.1.Lt m.1)) && pH fine m.1 && (pH coarse m.2 && pH fine m.2 && ms.all fun k=>decide (k.1 ≠ m.2)) && !Aa rim m.1
def lM (fine coarse : List T3) (ms : List Mv) (rim : List E3) : Bool:=ms.zipIdx.all fun x=>oB fine coarse ms rim x.2 x.1
def eQ (t : T3) : T3:=if t.c.Lt t.a ∧ (t.c.Lt t.b ∨ ¬ t.b.Lt t.a) then ⟨t.c,t.a,t.b⟩ else if t.b.Lt t.a then ⟨t.b,t.c,t.a⟩ else t
theorem Rk {t u : T3} (h1 : t.a = u.a) (h2 : t.b = u.b) (h3 : t.c = u.c) : t = u:=by
 cases t;cases u;simp only at h1 h2 h3;subst h1;subst h2;subst h3;rfl
instance : DecidableEq T3:=fun t u=>decidable_of_iff (t.a = u.a ∧ t.b = u.b ∧ t.c = u.c) ⟨fun h=>Rk h.1 h.2.1 h.2.2,fun h=>by rw [h];exact ⟨rfl,rfl,rfl⟩⟩
def T3.img (ms : List Mv) (t : T3) : T3:=⟨lL ms t.a,lL ms t.b,lL ms t.c⟩
def T3.nd (t : T3) : Bool:=decide (t.a ≠ t.b) && decide (t.b ≠ t.c) && decide (t.c ≠ t.a)
def mZ (coarse : List T3) (x : T3) : Bool:=if x.nd then coarse.any fun u=>decide (eQ u = eQ x) else nJ coarse x.a (if x.a = x.b then x.c else x.b)
def oC (ms : List Mv) (fine : List T3) (u : T3) : Nat:=(fine.filter fun t=>(t.img ms).nd && decide (eQ u = eQ (t.img ms))).length
def kU (fine coarse : List T3) (ms : List Mv) : Bool:=(fine.all fun t=>mZ coarse (t.img ms)) && coarse.all fun u=>decide (oC ms fine u = 1)
end Go.Lith
namespace Go.Lith
open Go.RowKit
/-! ### Corners and edges -/
theorem wK {t : T3} {p : P3} : t.has p = true ↔ p = t.a ∨ p = t.b ∨ p = t.c:=by
 unfold T3.has;simp only[Bool.or_eq_true,decide_eq_true_eq,or_assoc];exact or_congr ⟨Eq.symm,Eq.symm⟩ (or_congr ⟨Eq.symm,Eq.symm⟩ ⟨Eq.symm,Eq.symm⟩)
theorem Om {ts : List T3} {p : P3} : pH ts p = true ↔ p ∈ dN ts:=by
 unfold pH dN;rw [List.any_eq_true,List.mem_flatMap];exact exists_congr fun t=>and_congr Iff.rfl (by rw [wK];simp)
theorem Lk (ts : List T3) (p : P3) : pH ts p = decide (p ∈ dN ts):=by rw [Bool.eq_iff_iff,Om,decide_eq_true_eq]
theorem pI {ts : List T3} {p q : P3} : nJ ts p q = true ↔ ∃ t ∈ ts,t.has p = true ∧ t.has q = true:=by
 unfold nJ;rw [List.any_eq_true];exact exists_congr fun t=>and_congr Iff.rfl (by rw [Bool.and_eq_true])
theorem Bl {ts : List T3} {p q : P3} (h : nJ ts p q = true) : nJ ts q p = true:=by
 obtain ⟨t,ht,h1,h2⟩:=pI.1 h;exact pI.2 ⟨t,ht,h2,h1⟩
theorem Wn {ts : List T3} {p : P3} : nJ ts p p = true ↔ p ∈ dN ts:=by
 rw [pI,← Om,pH,List.any_eq_true];exact exists_congr fun t=>and_congr Iff.rfl ⟨fun h=>h.1,fun h=>⟨h,h⟩⟩
theorem Ji {ts : List T3} {p q : P3} (h : nJ ts p q = true) : nJ ts p p = true:=by
 obtain ⟨t,ht,h1,_⟩:=pI.1 h;exact pI.2 ⟨t,ht,h1,h1⟩
theorem Gb {ts : List T3} {e : E3} (h : e ∈ bJ ts) : nJ ts e.1 e.2 = true:=by
 obtain ⟨t,ht,hx⟩:=List.mem_flatMap.1 h;refine pI.2 ⟨t,ht,?_,?_⟩ <;> rw [wK] <;> (simp only[List.mem_cons,List.not_mem_nil,or_false] at hx;rcases hx with rfl | rfl | rfl <;> simp)
theorem Rl {ts : List T3} {p q : P3} (h : nJ ts p q = true) (hne : p ≠ q) : (p,q) ∈ bJ ts ∨ (q,p) ∈ bJ ts:=by
 obtain ⟨t,ht,h1,h2⟩:=pI.1 h;have key : ∀ e,e = (t.a,t.b) ∨ e = (t.b,t.c) ∨ e = (t.c,t.a) → e ∈ bJ ts:=fun e he=>List.mem_flatMap.2 ⟨t,ht,by simpa using he⟩;rcases wK.1 h1 with rfl | rfl | rfl <;> rcases wK.1 h2 with rfl | rfl | rfl
 · exact absurd rfl hne
 · exact .inl (key _ (.inl rfl))
 · exact .inr (key _ (.inr (.inr rfl)))
 · exact .inr (key _ (.inl rfl))
 · exact absurd rfl hne
 · exact .inl (key _ (.inr (.inl rfl)))
 · exact .inl (key _ (.inr (.inr rfl)))
 · exact .inr (key _ (.inr (.inl rfl)))
 · exact absurd rfl hne
def aat (t : T3) : List E3:=[(t.a,t.a),(t.a,t.b),(t.a,t.c),(t.b,t.a),(t.b,t.b),(t.b,t.c),(t.c,t.a),(t.c,t.b),(t.c,t.c)]
def mC (ts : List T3) : List E3:=ts.flatMap aat
theorem Bm {ts : List T3} {e : E3} : e ∈ mC ts ↔ nJ ts e.1 e.2 = true:=by
 unfold mC;rw [List.mem_flatMap,pI];refine exists_congr fun t=>and_congr Iff.rfl ?_;rw [wK,wK];obtain ⟨p,q⟩:=e;simp only[aat,List.mem_cons,List.not_mem_nil,or_false,Prod.mk.injEq];constructor
 · rintro (h | h | h | h | h | h | h | h | h) <;> simp [h.1,h.2]
 · rintro ⟨h1 | h1 | h1,h2 | h2 | h2⟩ <;> simp [h1,h2]
theorem wL (ts : List T3) (e : E3) : (dG (gL [] (mC ts)) e).getD false = nJ ts e.1 e.2:=by
 exact Bool.eq_iff_iff.2 (Fu.trans Bm)
theorem Rm {ts : List T3} {k : Nat} {t : T3} (h : ts[k]? = some t) : mC (ts.take (k + 1)) = mC (ts.take k) ++ aat t:=by
 unfold mC;rw [dO h,List.flatMap_append];simp
/-! ### The border -/
def Gc (rim : List E3) : List P3:=rim.flatMap fun e=>[e.1,e.2]
theorem Do {rim : List E3} {p : P3} : Aa rim p = true ↔ p ∈ Gc rim:=by
 unfold Aa Gc;rw [List.any_eq_true,List.mem_flatMap];refine exists_congr fun e=>and_congr Iff.rfl ?_;simp only[Bool.or_eq_true,decide_eq_true_eq,List.mem_cons,List.not_mem_nil,or_false];exact or_congr ⟨Eq.symm,Eq.symm⟩ ⟨Eq.symm,Eq.symm⟩
theorem Dp (rim : List E3) (p : P3) : (dG (gL [] (Gc rim)) p).getD false = Aa rim p:=by
 rw [qR,Bool.eq_iff_iff,decide_eq_true_eq,Do]
theorem On {rim : List E3} {k : Nat} {e : E3} (h : rim[k]? = some e) : Gc (rim.take (k + 1)) = Gc (rim.take k) ++ [e.1,e.2]:=by
 unfold Gc;rw [dO h,List.flatMap_append];simp
theorem aau {ts : List T3} {p : P3} (h : Aa (aS ts) p = true) : p ∈ dN ts:=by
 obtain ⟨e,he,hp⟩:=List.mem_flatMap.1 (Do.1 h);have hc:=Jg (tU.1 he).1;simp only[List.mem_cons,List.not_mem_nil,or_false] at hp;rcases hp with rfl | rfl
 · exact hc.1
 · exact hc.2
def Rn (fine : List T3) (rim : List E3) (e : E3) : Bool:=Aa rim e.1 && Aa rim e.2 && !nJ fine e.1 e.2
theorem Jj {fine coarse : List T3} : iV fine coarse (aS fine) = true ↔ ∃ e ∈ mC coarse,Rn fine (aS fine) e = true:=by
 unfold iV;rw [List.any_eq_true];constructor
 · rintro ⟨e,he,h⟩
   exact ⟨e,Bm.2 (Gb he),h⟩
 · rintro ⟨e,he,h⟩
   have h0:=Bm.1 he;unfold Rn at h;simp only[Bool.and_eq_true,Bool.not_eq_true'] at h;obtain ⟨⟨h1,h2⟩,h3⟩:=h;obtain ⟨p,q⟩:=e;have hne : p ≠ q:=fun e=>by
    subst e;rw [Wn.2 (aau h1)] at h3;cases h3
   rcases Rl h0 hne with k | k
   · exact ⟨_,k,by simp only at h1 h2 h3;simp [h1,h2,h3]⟩
   · refine ⟨_,k,?_⟩
     have h4 : nJ fine q p = false:=by
      cases hh : nJ fine q p with
      | false=>rfl
      | true=>rw [Bl hh] at h3;cases h3
     simp only at h1 h2;simp [h1,h2,h4]
/-! ### The ends of fans -/
def xD (ts : List T3) (rim : List E3) : List (E3 × P3):=rim.map fun e=>(e,sO ts e.1 ts.length e.2)
theorem wM (ts : List T3) (rim : List E3) : (xD ts rim).map (·.1) = rim:=by
 unfold xD;rw [List.map_map];exact List.map_id' rim
theorem mS.nodup {es : List E3} (h : mS es) : es.Nodup:=List.Pairwise.imp (fun {a b} (k : As a b) (e : a = b)=>As.irrefl b (e ▸ k)) h
/-! ### Moves -/
theorem qS {fine coarse : List T3} {ms : List Mv} {rim : List E3} : lM fine coarse ms rim = true ↔ ∀ i m,ms[i]? = some m → oB fine coarse ms rim i m = true:=by
 unfold lM;rw [List.all_eq_true];constructor
 · intro h i m hm
   exact h (m,i) (List.mem_zipIdx_iff_getElem?.2 hm)
 · intro h x hx
   exact h x.2 x.1 (List.mem_zipIdx_iff_getElem?.1 hx)
theorem Ro {fine coarse : List T3} {ms : List Mv} {rim : List E3} (h : lM fine coarse ms rim = true) : ∀ i m k,ms[i]? = some k → ms[i + 1]? = some m → k.1.Lt m.1:=fun i m k hk hm=>by
 have:=qS.1 h (i + 1) m hm;unfold oB at this;simp only[Bool.and_eq_true,Bool.or_eq_true] at this;have h1:=this.1.1.1;rw [Nat.add_sub_cancel,hk] at h1;simpa using h1
theorem Cs : ∀ {ms : List Mv},(∀ (i : Nat) (m k : Mv),ms[i]? = some k → ms[i + 1]? = some m → k.1.Lt m.1) → (ms.map (·.1)).Pairwise P3.Lt
 | [],_=>List.Pairwise.nil
 | [m],_=>List.pairwise_singleton _ _
 | m :: k :: ms,h=>by
  have ih:=Cs (ms:=k :: ms) fun i a b h1 h2=>h (i + 1) a b h1 h2;have h0:=h 0 k m rfl rfl;rw [List.map_cons];refine List.pairwise_cons.2 ⟨fun x hx=>?_,ih⟩;rw [List.map_cons] at hx ih;rcases List.mem_cons.1 hx with rfl | hx
  · exact h0
  · exact P3.lt_trans h0 ((List.pairwise_cons.1 ih).1 x hx)
theorem Oo {fine coarse : List T3} {ms : List Mv} {rim : List E3} (h : lM fine coarse ms rim = true) : (ms.map (·.1)).Nodup :=
 List.Pairwise.imp (fun {a b} (k : P3.Lt a b) (e : a = b)=>P3.lt_irrefl b (e ▸ k)) (Cs (Ro h))
theorem Th (p : P3) : ∀ ms : List Mv,lL ms p = (dG ms p).getD p
 | []=>rfl
 | m :: ms=>by
  rw [lL,dG];split
  · rfl
  · exact Th p ms
theorem ab3 {ms : List Mv} (h : (ms.map (·.1)).Nodup) (p : P3) : (dG (nI [] ms) p).getD p = lL ms p:=by
 rw [Th,Fv _ _ _ h];cases dG ms p <;> rfl
theorem Gd {K : Type} [DecidableEq K] {V : Type} : ∀ (ks : List K) (D : List (K × V)) (a : K),(D.map (·.1)).Nodup → ((ks.foldl qO D).map (·.1)).Nodup ∧ dG (ks.foldl qO D) a = if a ∈ ks then none else dG D a
 | [],D,a,h=>⟨h,by simp⟩
 | k :: ks,D,a,h=>by
  obtain ⟨h1,h2⟩:=Gd ks (qO D k) a (Rb h k);refine ⟨h1,?_⟩;rw [List.foldl_cons,h2,Jb k a h];by_cases ha : a ∈ ks
  · rw [if_pos ha,if_pos (List.mem_cons_of_mem _ ha)]
  · rw [if_neg ha]
    by_cases e : k = a
    · rw [if_pos e,if_pos (e ▸ List.mem_cons_self ..)]
    · rw [if_neg e,if_neg (fun k'=>(List.mem_cons.1 k').elim (fun e'=>e e'.symm) ha)]
theorem wN {fine coarse : List T3} {ms : List Mv} {rim : List E3} {cf cc : List P3} (hf : ∀ a,a ∈ cf ↔ a ∈ dN fine) (hc : ∀ a,a ∈ cc ↔ a ∈ dN coarse) (i : Nat) (m : Mv) :
 oB fine coarse ms rim i m = ((decide (i = 0) || (ms[i - 1]?).any fun k=>decide (k.1.Lt m.1)) && (dG ((Gc rim).foldl qO (gL [] cf)) m.1).getD false && (dG (gL [] cf) m.2).getD false && (dG ((ms.map (·.1)).foldl qO (gL [] cc)) m.2).getD false):=by
 have n1:=oN cf [] (by simp);have n2:=oN cc [] (by simp);have e1 : (dG ((Gc rim).foldl qO (gL [] cf)) m.1).getD false = (pH fine m.1 && !Aa rim m.1):=by
  rw [(Gd _ _ m.1 n1).2];by_cases h : m.1 ∈ Gc rim
  · rw [if_pos h,Do.2 h];simp
  · have : Aa rim m.1 = false:=by
     cases hh : Aa rim m.1 with
     | false=>rfl
     | true=>exact absurd (Do.1 hh) h
    rw [if_neg h,qR,this,Lk];simp [hf]
 have e2 : (dG (gL [] cf) m.2).getD false = pH fine m.2:=by rw [qR,Lk];simp [hf]
 have e3 : (dG ((ms.map (·.1)).foldl qO (gL [] cc)) m.2).getD false = (pH coarse m.2 && ms.all fun k=>decide (k.1 ≠ m.2)):=by
  rw [(Gd _ _ m.2 n2).2];by_cases h : m.2 ∈ ms.map (·.1)
  · obtain ⟨k,hk,e⟩:=List.mem_map.1 h
    have : (ms.all fun k=>decide (k.1 ≠ m.2)) = false:=by
     rw [List.all_eq_false];exact ⟨k,hk,by simp [e]⟩
    rw [if_pos h,this];simp
  · have : (ms.all fun k=>decide (k.1 ≠ m.2)) = true:=by
     rw [List.all_eq_true];exact fun k hk=>decide_eq_true fun e=>h (List.mem_map.2 ⟨k,hk,e⟩)
    rw [if_neg h,qR,this,Lk];simp [hc]
 rw [e1,e2,e3,oB];cases (decide (i = 0) || (ms[i - 1]?).any fun k=>decide (k.1.Lt m.1)) <;> cases pH fine m.1 <;> cases Aa rim m.1 <;> cases pH fine m.2 <;> cases pH coarse m.2 <;> simp
/-! ### Covers -/
def nU (ms : List Mv) (ts : List T3) : List T3:=(ts.filter fun t=>(t.img ms).nd).map fun t=>eQ (t.img ms)
theorem Ab {ms : List Mv} {ts : List T3} {k : Nat} {t : T3} (h : ts[k]? = some t) : nU ms (ts.take (k + 1)) = nU ms (ts.take k) ++ if (t.img ms).nd then [eQ (t.img ms)] else []:=by
 unfold nU;rw [dO h,List.filter_append,List.map_append];cases hn : (t.img ms).nd <;> simp [hn]
theorem Ge (ms : List Mv) (u : T3) : ∀ ts : List T3,oC ms ts u = qX (nU ms ts) (eQ u)
 | []=>rfl
 | t :: ts=>by
  have ih:=Ge ms u ts;unfold oC nU at ih ⊢;cases hn : (t.img ms).nd with
  | false=>rw [List.filter_cons_of_neg (by simp [hn]),List.filter_cons_of_neg (by simp [hn])];exact ih
  | true =>
   rw [List.filter_cons_of_pos (p:=fun t : T3=>(t.img ms).nd) (by simp [hn]),List.map_cons,oO];by_cases e : eQ u = eQ (t.img ms)
   · rw [List.filter_cons_of_pos (by simp [hn,e]),List.length_cons,if_pos e.symm];omega
   · rw [List.filter_cons_of_neg (by simp [e]),if_neg (fun h=>e h.symm)];omega
theorem Ac {K : Type} [DecidableEq K] {ks : List K} {a : K} : 0 < qX ks a ↔ a ∈ ks:=by
 unfold qX;rw [List.length_pos_iff_exists_mem];simp
def Ps (fine coarse : List T3) (ms : List Mv) (j : Nat) (t : T3) : Prop :=
 if (t.img ms).nd then eQ (t.img ms) ∈ coarse.map eQ ∧ eQ (t.img ms) ∉ nU ms (fine.take j) else nJ coarse (t.img ms).a (t.img ms).b = true ∧ nJ coarse (t.img ms).b (t.img ms).c = true
theorem Gf {coarse : List T3} {x : T3} (h : x.nd = false) : mZ coarse x = true ↔ nJ coarse x.a x.b = true ∧ nJ coarse x.b x.c = true:=by
 unfold mZ;rw [h];simp only[Bool.false_eq_true,if_false];by_cases e : x.a = x.b
 · rw [if_pos e,← e]
   exact ⟨fun k=>⟨Ji k,k⟩,fun k=>k.2⟩
 · rw [if_neg e]
   refine ⟨fun k=>⟨k,?_⟩,fun k=>k.1⟩;by_cases e2 : x.b = x.c
   · rw [← e2];exact Ji (Bl k)
   · have e3 : x.c = x.a:=by
      unfold T3.nd at h;simp only[Bool.and_eq_false_iff,decide_eq_false_iff_not,ne_eq] at h;rcases h with (h | h) | h
      · exact absurd (Decidable.not_not.1 h) e
      · exact absurd (Decidable.not_not.1 h) e2
      · exact Decidable.not_not.1 h
     rw [e3];exact Bl k
theorem Oq {coarse : List T3} {x : T3} (h : x.nd = true) : mZ coarse x = true ↔ eQ x ∈ coarse.map eQ:=by
 unfold mZ;rw [h,if_pos rfl,List.any_eq_true,List.mem_map];exact exists_congr fun u=>and_congr Iff.rfl (by rw [decide_eq_true_eq])
theorem Gg {K : Type} [DecidableEq K] : ∀ {ks : List K},ks.Nodup → ∀ a,qX ks a ≤ 1
 | [],_,a=>Nat.zero_le _
 | k :: ks,h,a=>by
  rw [List.nodup_cons] at h;rw [oO];by_cases e : k = a
  · subst e
    have : ¬ 0 < qX ks k:=fun q=>h.1 (Ac.1 q);rw [if_pos rfl];omega
  · rw [if_neg e];have:=Gg h.2 a;omega
theorem wO {fine coarse : List T3} {ms : List Mv} : kU fine coarse ms = true ↔ (∀ j t,fine[j]? = some t → Ps fine coarse ms j t) ∧ ∀ u ∈ coarse,eQ u ∈ nU ms fine:=by
 unfold kU;rw [Bool.and_eq_true,List.all_eq_true,List.all_eq_true];constructor
 · rintro ⟨h1,h2⟩
   have h3 : ∀ u ∈ coarse,qX (nU ms fine) (eQ u) = 1:=fun u hu=>by rw [← Ge];exact of_decide_eq_true (h2 u hu)
   refine ⟨fun j t ht=>?_,fun u hu=>Ac.1 (by rw [h3 u hu];decide)⟩;have hp:=h1 t (List.mem_of_getElem? ht);unfold Ps;cases hn : (t.img ms).nd with
   | false=>rw [if_neg (by simp)];exact (Gf hn).1 hp
   | true =>
    rw [if_pos rfl];have hm:=(Oq hn).1 hp;refine ⟨hm,fun k=>?_⟩;obtain ⟨u,hu,e⟩:=List.mem_map.1 hm;have hc:=h3 u hu;have e2 : nU ms fine = nU ms (fine.take (j + 1)) ++ nU ms (fine.drop (j + 1)):=by
     unfold nU;rw [← List.map_append,← List.filter_append,List.take_append_drop]
    rw [e2,Fw,Ab ht,hn,if_pos rfl,Fw,e,oO,if_pos rfl] at hc;have:=Ac.2 k;omega
 · rintro ⟨h1,h2⟩
   have nd : ∀ j,(nU ms (fine.take j)).Nodup:=by
    intro j
    induction j with
    | zero=>simp [nU]
    | succ j ih =>
     cases ht : fine[j]? with
     | none =>
      have e : fine.take (j + 1) = fine.take j:=by
       have:=List.getElem?_eq_none_iff.1 ht;rw [List.take_of_length_le (by omega),List.take_of_length_le (by omega)]
      rw [e];exact ih
     | some t =>
      rw [Ab ht];have k:=h1 j t ht;unfold Ps at k;cases hn : (t.img ms).nd with
      | false=>simpa using ih
      | true =>
       rw [hn,if_pos rfl] at k;rw [if_pos rfl];exact xV.2 ⟨ih,k.2⟩
   refine ⟨fun t ht=>?_,fun u hu=>?_⟩
   · obtain ⟨j,hj⟩:=List.mem_iff_getElem?.1 ht
     have k:=h1 j t hj;unfold Ps at k;cases hn : (t.img ms).nd with
     | false=>rw [hn,if_neg (by simp)] at k;exact (Gf hn).2 k
     | true=>rw [hn,if_pos rfl] at k;exact (Oq hn).2 k.1
   · refine decide_eq_true ?_
     rw [Ge];have h3:=Gg (by have:=nd fine.length;rwa [List.take_length] at this) (eQ u);have h4:=Ac.2 (h2 u hu);omega
end Go.Lith
namespace Go.Lith
open Go.RowKit
section
variable {P : Program} {ops : Array Oper} {Q : Exit → Act → World → Prop} {rest : List Oper} {d j : Nat} {ty : TypeId} {pos : String} {after : Array Edge} {v : Value} {b : Bool} {ds : List Deferred} {l : List Value} {w w0 : World} {is : List It}
variable {f : FuncId} {fo : Operand} {xs : Array Operand} {args : List Value} {first cap : Array Value} {a0 : Array TypeId}
theorem rH (m : cA w0 w is) (hw : yielded ops l.toArray j = some b) (hf : ev l fo = .func (.func f) first cap) (hxs : b = true → first.toList ++ xs.toList.map (ev l) ++ cap.toList = args) (hc : b = true → eK P f args w fun x _=>x = v)
 (h : ∀ u,cA w0 u is → wpList P ops Q rest (Fr (l.set d (Mw b v)) ds) u) : wpList P ops Q (Oper.mk (some d) (.call { callee:=.value fo,args:=xs,argTypes:=a0 }) ty pos after (some (j,true)) :: rest) (Fr l ds) w:=by
 cases b with
 | false=>simp only[Mx] at h;exact cD hw (h w m)
 | true=>simp only[pC] at h;exact aR hw (dY m hf (hxs rfl) (hc rfl) fun x u m e=>by subst e;exact h u m)
end
section
variable {P : Program} {ops : Array Oper} {Q : Act → Prop} {rest : List Oper} {d j : Nat} {ty : TypeId} {pos : String} {after : Array Edge} {v : Value} {b : Bool} {ds : List Deferred} {l : List Value} {w0 : World} {is : List It}
variable {f : FuncId} {fo : Operand} {xs : Array Operand} {args : List Value} {first cap : Array Value} {a0 : Array TypeId}
end
theorem ags {c : Bool} {u v : Value} {cs : Array Value} (hb : c = true) (h : u = Mw c v) (hv : v.cells = cs) : u.cells = cs:=by rw [h,hb,pC,hv]
/-! ### Rows of edges and moves -/
theorem rS {w : World} {a : Addr} {e : E3} (h : jG w a (bP e)) : jG w (a.add 0) [.int .i64 e.1.x,.int .i64 e.1.y,.int .i64 e.1.z]:=(h.sub 0).take 3
theorem vQ {w : World} {a : Addr} {e : E3} (h : jG w a (bP e)) : jG w (a.add 3) [.int .i64 e.2.x,.int .i64 e.2.y,.int .i64 e.2.z]:=h.sub 3
theorem mU.one {α : Type} {enc : α → List Value} {c : Nat} {w : World} {a : Addr} {x : α} (h : jG w a (enc x)) : mU enc c w (some a) 1 [x]:=⟨rfl,fun i y hy=>by
 cases i with
 | zero=>cases hy;exact ⟨a,rfl,by rw [Nat.zero_mul];exact h⟩
 | succ i=>cases hy⟩
theorem agt {x y z p : P3} : ((decide (x.x = p.x ∧ x.y = p.y ∧ x.z = p.z) || decide (y.x = p.x ∧ y.y = p.y ∧ y.z = p.z)) || decide (z.x = p.x ∧ z.y = p.y ∧ z.z = p.z)) = (decide (x = p) || decide (y = p) || decide (z = p)):=by
 simp only[gK]
theorem agu {x y p : P3} : (decide (x.x = p.x ∧ x.y = p.y ∧ x.z = p.z) || decide (y.x = p.x ∧ y.y = p.y ∧ y.z = p.z)) = (decide (x = p) || decide (y = p)):=by
 simp only[gK]
end Go.Lith
