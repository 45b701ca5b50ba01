/-
 Texts of one claim, laid together: Rchk, Rchk2, Sort, Sets, Box, Wa, Wb, Wc, Wd, Guard2.
-/
import Derived.Shelf.SlSortCmp.WholeK
import Derived.Shelf.SlSortCmp.NoneTotal
import Derived.Test.YtfohfflkhpfjeaaGreatDoorC2
set_option maxHeartbeats 8000000
set_option linter.unusedSimpArgs false
set_option linter.unusedVariables false
set_option linter.unusedSectionVars false
namespace Go.Proofs.YtfohfflkhpfjeaaGreatDoor
open Go.Proofs.Tryz
open Go.RowKit Go.Lith
set_option maxRecDepth 100000
attribute [local irreducible] wpList wpQuiet dY dQ dO Code.wp
theorem tR {p q : P3} : jG prog 82 [pt p,pt q] (.bool (decide (p.Lt q))):=by
 intro w;refine ⟨agi,?_⟩;have m:=cA.refl w
 go_enter func82,ntmps82
 refine aD fun K1 k1=>wp_region_lit (eP m rfl ?_);clear m;intro g1 u m;simp only[zz];refine eP m rfl ?_;clear m;intro g2 u m;refine aA (aC) (aG (k1 _ _ ?_));refine aD fun K2 k2=>aD fun K3 k3=>wp_region_lit (aA (aN (c:=0) eD rfl bD rfl rfl) ?_);simp only[zz];refine aK rfl ((m.b 1 rfl).lies1 bT rfl) ?_;simp only[zz];refine aA (aN (c:=0) eD rfl bD rfl rfl) ?_;simp only[zz];refine aK rfl ((m.b 0 rfl).lies1 bT rfl) ?_;simp only[zz];refine aA (lG rfl rfl) (aG (k3 _ _ ?_));simp only[zz];refine bZ rfl (fun hc1=>?_) (fun hc1=>?_)
 ·
  refine aD fun K4 k4=>wp_region_lit (aA (aN (c:=0) eD rfl bD rfl rfl) ?_);simp only[zz];refine aK rfl ((m.b 1 rfl).lies1 bT rfl) ?_;simp only[zz];refine aA (aN (c:=0) eD rfl bD rfl rfl) ?_;simp only[zz];refine aK rfl ((m.b 0 rfl).lies1 bT rfl) ?_;simp only[zz];refine aA (cE rfl rfl) (aA (aC) (aG (k4 _ _ ?_)));refine wp_ret ?_;simp only[zz];try simp only[Exit.inBlock,Exit.then,if_true]
  refine bO rfl rfl ?_;try simp only[zD,zE]
  exact ⟨_,rfl,m.ext,by simp only[P3.lt_x hc1]⟩
 ·
  have ex : p.x = q.x:=by omega
  refine wp_skip (k2 _ _ ?_);refine aD fun K5 k5=>aD fun K6 k6=>wp_region_lit (aA (aN (c:=0) eD rfl bD rfl rfl) ?_);simp only[zz];refine aK rfl ((m.b 1 rfl).lies1 bT rfl) ?_;simp only[zz];refine aA (aN (c:=0) eD rfl bD rfl rfl) ?_;simp only[zz];refine aK rfl ((m.b 0 rfl).lies1 bT rfl) ?_;simp only[zz];refine aA (lG rfl rfl) (aG (k6 _ _ ?_));simp only[zz];refine bZ rfl (fun hc2=>?_) (fun hc2=>?_)
  ·
   refine aD fun K7 k7=>wp_region_lit (aA (aN (c:=0) eD rfl bD rfl rfl) ?_);simp only[zz];refine aK rfl ((m.b 1 rfl).lies1 bT rfl) ?_;simp only[zz];refine aA (aN (c:=0) eD rfl bD rfl rfl) ?_;simp only[zz];refine aK rfl ((m.b 0 rfl).lies1 bT rfl) ?_;simp only[zz];refine aA (cE rfl rfl) (aA (aC) (aG (k7 _ _ ?_)));refine wp_ret ?_;simp only[zz];try simp only[Exit.inBlock,Exit.then,if_true]
   refine bO rfl rfl ?_;try simp only[zD,zE]
   exact ⟨_,rfl,m.ext,by simp only[P3.lt_y ex hc2]⟩
  ·
   have ey : p.y = q.y:=by omega
   refine wp_skip (k5 _ _ ?_);refine aD fun K8 k8=>wp_region_lit (aA (aN (c:=0) eD rfl bD rfl rfl) ?_);simp only[zz];refine aK rfl ((m.b 1 rfl).lies1 bT rfl) ?_;simp only[zz];refine aA (aN (c:=0) eD rfl bD rfl rfl) ?_;simp only[zz];refine aK rfl ((m.b 0 rfl).lies1 bT rfl) ?_;simp only[zz];refine aA (cE rfl rfl) (aA (aC) (aG (k8 _ _ ?_)));refine wp_ret ?_;simp only[zz];try simp only[Exit.inBlock,Exit.then,if_true]
   refine bO rfl rfl ?_;try simp only[zD,zE]
   exact ⟨_,rfl,m.ext,by simp only[P3.lt_z ex ey]⟩
theorem aaq {a b : E3} : jG prog 38 [ed a,ed b] (.bool (Tc a b)):=by
 intro w;refine ⟨afB,?_⟩;have m:=cA.refl w
 go_enter func38,ntmps38
 refine aD fun K1 k1=>wp_region_lit (eP m rfl ?_);clear m;intro g1 u m;simp only[zz];refine eP m rfl ?_;clear m;intro g2 u m;refine aA (aC) (aG (k1 _ _ ?_));refine aD fun K2 k2=>aD fun K3 k3=>wp_region_lit (aA (aH jQ aF rfl rfl (by decide) (by decide) rfl) ?_);simp only[zz];refine aK rfl ((m.b 1 rfl).lies aJ aF rfl rfl) ?_;simp only[zz,zy,Nat.zero_add,Nat.reduceAdd,Nat.reduceMul,Int.reduceToNat];refine aA (aH jQ aF rfl rfl (by decide) (by decide) rfl) ?_;simp only[zz];refine aK rfl ((m.b 0 rfl).lies aJ aF rfl rfl) ?_;simp only[zz,zy,Nat.zero_add,Nat.reduceAdd,Nat.reduceMul,Int.reduceToNat];refine aA (gA rfl rfl) (aG (k3 _ _ ?_));simp only[zz];refine bZ rfl (fun hc1=>?_) (fun hc1=>?_)
 ·
  refine aD fun K4 k4=>wp_region_lit (aA (aH jQ aF rfl rfl (by decide) (by decide) rfl) ?_);simp only[zz];refine aK rfl ((m.b 1 rfl).lies aJ aF rfl rfl) ?_;simp only[zz,zy,Nat.zero_add,Nat.reduceAdd,Nat.reduceMul,Int.reduceToNat];refine aA (aH jQ aF rfl rfl (by decide) (by decide) rfl) ?_;simp only[zz];refine aK rfl ((m.b 0 rfl).lies aJ aF rfl rfl) ?_;simp only[zz,zy,Nat.zero_add,Nat.reduceAdd,Nat.reduceMul,Int.reduceToNat];refine gG m rfl rfl (tR (p:=a.1) (q:=b.1)) ?_;clear m;intro u m;refine aA (aC) (aG (k4 _ _ ?_));refine wp_ret ?_;simp only[zz];try simp only[Exit.inBlock,Exit.then,if_true]
  refine bO rfl rfl ?_;try simp only[zD,zE]
  exact ⟨_,rfl,m.ext,by rw [Tc,if_pos (fun h=>hc1 (by rw [h];exact ⟨rfl,rfl,rfl⟩))]⟩
 ·
  refine wp_skip (k2 _ _ ?_);refine aD fun K5 k5=>wp_region_lit (aA (aH jQ aF rfl rfl (by decide) (by decide) rfl) ?_);simp only[zz];refine aK rfl ((m.b 1 rfl).lies aJ aF rfl rfl) ?_;simp only[zz,zy,Nat.zero_add,Nat.reduceAdd,Nat.reduceMul,Int.reduceToNat];refine aA (aH jQ aF rfl rfl (by decide) (by decide) rfl) ?_;simp only[zz];refine aK rfl ((m.b 0 rfl).lies aJ aF rfl rfl) ?_;simp only[zz,zy,Nat.zero_add,Nat.reduceAdd,Nat.reduceMul,Int.reduceToNat];refine gG m rfl rfl (tR (p:=a.2) (q:=b.2)) ?_;clear m;intro u m;refine aA (aC) (aG (k5 _ _ ?_));refine wp_ret ?_;simp only[zz];try simp only[Exit.inBlock,Exit.then,if_true]
  refine bO rfl rfl ?_;try simp only[zD,zE]
  exact ⟨_,rfl,m.ext,by rw [Tc,if_neg (fun h=>h (P3.eq (Classical.not_not.1 hc1).1 (Classical.not_not.1 hc1).2.1 (Classical.not_not.1 hc1).2.2))]⟩
theorem Te {ts : List T3} {N cap : Nat} {A : Option Addr} (w : World) (hT : eO w A N ts) (hN : N ≤ 1000000000) : eK prog 36 [.slice A N cap] w (SL 57 6 ((aV ts).flatMap bU) (aV ts).length w):=by
 refine ⟨afz,?_⟩;have m:=cA.refl w
 go_enter func36,ntmps36
 refine aD fun K1 k1=>wp_region_lit (aA (aC) (aG (k1 _ _ ?_)));refine aD fun K2 k2=>wp_region_lit (aA (aC) ?_);replace m:=m.nilO 57 6;refine aG (k2 _ _ ?_);refine aD fun K3 k3=>aD fun K4 k4=>wp_region_lit (aA (aC) (aG (k4 _ _ ?_)));refine wp_block ?_;simp only[zz];try simp only[Nat.zero_add,Nat.reduceAdd,Nat.reduceMul,Int.reduceToNat]
 refine bH [3,4] [5,6,7,8,9,10,11,12,13,14,15,16,17,18,19,20,21,22,23,24,25,26,27,28,29,30,31,32,33] (fun n vs wl=>∃ (k : Nat) (A3 : Option Addr) (cap3 : Nat),vs = [.slice A3 (aV (ts.take k)).length cap3,.int .i64 (k:Int)] ∧ cA w wl [oI 57 6 A3 (aV (ts.take k)).length cap3 ((aV (ts.take k)).flatMap bU)] ∧ (k ≤ N) ∧ (n = N - k)) ?_ ?_
 ·
  apply Exists.intro;simp only[zQ,zR,zD,zE];exact ⟨0,_,_,rfl,m,Nat.zero_le _,rfl⟩
 ·
  intro n vs wr hI u;clear m;obtain ⟨k,A3,cap3,rfl,m,hk,hn⟩:=hI;simp only[zu,zF,zG];refine aD fun K5 k5=>aD fun K6 k6=>wp_region_lit (aA (aB) (aA (aB) (aA (aW rfl bS rfl) (aA (cE rfl rfl) ?_))));simp only[zz];refine aG (k6 _ _ ?_);refine bZ rfl (fun hc1=>?_) (fun hc1=>?_)
  ·
   obtain ⟨t,ht,_,a,rfl,hrow⟩:=hT.get (i:=k) (by omega);refine wp_skip (k5 _ _ ?_);refine aD fun K7 k7=>wp_block (aD fun K8 k8=>wp_region_lit (aA (aB) (aA (aB) ?_)));simp only[zz];refine aA (aI bS aT rfl rfl (by omega) (by omega) (bV (Int.toNat_natCast _))) ?_;simp only[zz];refine aK rfl ((hrow.ext m.ext).lies eQ aT) ?_;simp only[zz];refine bF m jX rfl ?_;clear m;intro g1 u m;simp only[zz];refine aS m 0 rfl rfl rfl aT (dZ rfl) rfl ?_;clear m;intro u m;simp only[zy,zx,bG,zF,zG,Nat.reduceAdd] at m;refine aG (k8 _ _ ?_);refine wp_region_lit (aA (aB) (aA (aH bL aF rfl rfl (by decide) (by decide) rfl) ?_));simp only[zz];refine aK rfl ((m.b 0 rfl).lies aJ aF rfl rfl) ?_;simp only[zz,zy,Nat.zero_add,Nat.reduceAdd,Nat.reduceMul,Int.reduceToNat];refine aA (aH bL aF rfl rfl (by decide) (by decide) rfl) ?_;simp only[zz];refine aK rfl ((m.b 0 rfl).lies aJ aF rfl rfl) ?_;simp only[zz,zy,Nat.zero_add,Nat.reduceAdd,Nat.reduceMul,Int.reduceToNat];refine aA (cP rfl rfl) (aA (aH bL aF rfl rfl (by decide) (by decide) rfl) ?_);simp only[zz];refine aK rfl ((m.b 0 rfl).lies aJ aF rfl rfl) ?_;simp only[zz,zy,Nat.zero_add,Nat.reduceAdd,Nat.reduceMul,Int.reduceToNat];refine aA (aH bL aF rfl rfl (by decide) (by decide) rfl) ?_;simp only[zz];refine aK rfl ((m.b 0 rfl).lies aJ aF rfl rfl) ?_;simp only[zz,zy,Nat.zero_add,Nat.reduceAdd,Nat.reduceMul,Int.reduceToNat];refine aA (cP rfl rfl) (aA (aH bL aF rfl rfl (by decide) (by decide) rfl) ?_);simp only[zz];refine aK rfl ((m.b 0 rfl).lies aJ aF rfl rfl) ?_;simp only[zz,zy,Nat.zero_add,Nat.reduceAdd,Nat.reduceMul,Int.reduceToNat];refine aA (aH bL aF rfl rfl (by decide) (by decide) rfl) ?_;simp only[zz];refine aK rfl ((m.b 0 rfl).lies aJ aF rfl rfl) ?_;simp only[zz,zy,Nat.zero_add,Nat.reduceAdd,Nat.reduceMul,Int.reduceToNat];refine aA (cP rfl rfl) ?_;simp only[zz];refine Wd rfl rfl rfl ?_;intro u g2 e hg hB;replace m:=m.newB e hg hB;clear e hg hB;simp only[zz];refine eI m 2 rfl rfl fI vG rfl (by decide) rfl rfl rfl (m.b 0 rfl).rowsO (tG rfl) (by have:=kW (ts.take k);rw [List.length_take] at this;omega) (by have:=kW (ts.take k);rw [List.length_take] at this;omega) ?_;clear m;intro A3 cap3 u m;simp only[zF,zG] at m;rw [show (aV (ts.take k)).flatMap bU ++ _ = (aV (ts.take (k + 1))).flatMap bU by rw [oC ht,List.flatMap_append];rfl,show (aV (ts.take k)).length + 3 = (aV (ts.take (k + 1))).length by rw [oC ht,List.length_append];rfl] at m;rw [show (aV (ts.take k)).length + 3 = (aV (ts.take (k + 1))).length by rw [oC ht,List.length_append];rfl];refine aA (aC) (aG (k7 _ _ ?_));refine wp_region_lit (aA (aB) ?_);simp only[zz];refine aA (aP rfl rfl (aM (by omega) (by omega))) (aA (aC) (aG ?_));simp only[zz];simp only[Exit.inBlock,Exit.then];refine ⟨N - (k + 1),_,?_,rfl,?_,?_⟩
   · omega
   · simp only[zz,zv]
   ·
    simp only[zQ,zR,zD,zE];exact ⟨k + 1,_,_,rfl,(m.sel [false,false,true]),by omega,rfl⟩
  ·
   have hkN : k = N:=by omega
   rw [hkN,show ts.take N = ts from List.take_of_length_le (by rw [hT.len];exact Nat.le_refl _)] at m ⊢;refine wp_exit (k3 _ _ ?_);refine aD fun K9 k9=>wp_region_lit (aA (aB) (aA (aC) (aG (k9 _ _ ?_))));refine wp_ret ?_;simp only[zz];try simp only[Exit.inBlock,Exit.then,if_true]
   refine bO rfl rfl ?_;try simp only[zD,zE]
   exact ⟨_,rfl,m.ext,⟨_,_,_,rfl,rfl,(m.o 0 rfl)⟩⟩
theorem Df {es : List E3} {N cap : Nat} {A : Option Addr} {e : E3} (w : World) (hL : nS bU 6 w A N es) (hN : N ≤ 1000000000) : eK prog 37 [.slice A N cap,ed e] w (fun v _=>v = .int .i64 ((kJ es e : Nat) : Int)):=by
 refine ⟨afA,?_⟩;have m:=cA.refl w
 go_enter func37,ntmps37
 refine aD fun K1 k1=>wp_region_lit (eP m rfl ?_);clear m;intro g1 u m;refine aA (aC) (aG (k1 _ _ ?_));refine aD fun K2 k2=>wp_region_lit (aA (aC) (aG (k2 _ _ ?_)));refine aD fun K3 k3=>aD fun K4 k4=>wp_region_lit (aA (aC) ?_);simp only[zz];refine aG (k4 _ _ ?_);refine wp_block ?_;try simp only[Nat.zero_add,Nat.reduceAdd,Nat.reduceMul,Int.reduceToNat]
 refine bH [5,6] [7,8,9,10,11,12,13,14,15,16,17,18,19,20] (fun n vs wl=>∃ (k q : Nat),vs = [.int .i64 (q : Int),.int .i64 (k:Int)] ∧ cA w wl [bI g1 (bU e) 57] ∧ (q = kJ (es.take k) e) ∧ (k ≤ N) ∧ (n = N - k)) ?_ ?_
 ·
  apply Exists.intro;simp only[zQ,zR,zD,zE];exact ⟨0,0,rfl,m,rfl,Nat.zero_le _,rfl⟩
 ·
  intro n vs wr hI u;clear m;obtain ⟨k,q,rfl,m,hq,hk,hn⟩:=hI;subst hq;simp only[zu,zF,zG];refine aD fun K5 k5=>aD fun K6 k6=>wp_region_lit (aA (aB) (aA (aB) (aA (aW rfl fI rfl) (aA (cE rfl rfl) ?_))));simp only[zz];refine aG (k6 _ _ ?_);refine bZ rfl (fun hc1=>?_) (fun hc1=>?_)
  ·
   obtain ⟨x,hx,a,rfl,hrow⟩:=hL.get (i:=k) (by omega);refine wp_skip (k5 _ _ ?_);refine aD fun K7 k7=>wp_block (aD fun K8 k8=>mq m aO (by kernel_rfl) (aL (aB) (aL (aB) ?_)));simp only[zz];refine aL (aI fI cF rfl rfl (by omega) (by omega) (bV (Int.toNat_natCast _))) ?_;simp only[zz];refine ql rfl (fun u m=>((hrow.ext m.ext).lies kK cF)) ?_;simp only[zz];refine ql rfl (fun u m=>((m.b 0 rfl).full kK cF)) ?_;simp only[zz];refine aL (Vz rfl rfl) (dK ?_);clear m;intro u m;refine k8 _ _ ?_;simp only[zz];refine bZ rfl (fun hc2=>?_) (fun hc2=>?_)
   ·
    have hxe : x = e:=Prod.ext (P3.eq hc2.1 hc2.2.1 hc2.2.2.1) (P3.eq hc2.2.2.2.1 hc2.2.2.2.2.1 hc2.2.2.2.2.2);have hcl : kJ (es.take k) e ≤ N:=Nat.le_trans adw (by rw [List.length_take];omega);have hs:=Nf (e:=e) hx;rw [if_pos hxe] at hs;refine wp_region_lit (aA (aB) ?_);simp only[zz];refine aA (aP rfl rfl (aM (by omega) (by omega))) (aA (aC) (aG (k7 _ _ ?_)));refine wp_region_lit (aA (aB) ?_);simp only[zz];refine aA (aP rfl rfl (aM (by omega) (by omega))) (aA (aC) (aG ?_));simp only[zz];rw [show ((kJ (es.take k) e : Nat) : Int) + 1 = ((kJ (es.take (k + 1)) e : Nat) : Int) by rw [hs];rfl];simp only[Exit.inBlock,Exit.then];refine ⟨N - (k + 1),_,?_,rfl,?_,?_⟩
    · omega
    · simp only[zz,zv]
    ·
     simp only[zQ,zR,zD,zE];exact ⟨k + 1,kJ (es.take (k + 1)) e,rfl,m,rfl,by omega,rfl⟩
   ·
    have hs : kJ (es.take (k + 1)) e = kJ (es.take k) e:=(Nf (e:=e) hx).trans (by rw [if_neg (fun h=>hc2 (by rw [h];exact ⟨rfl,rfl,rfl,rfl,rfl,rfl⟩))];rfl);refine wp_skip (k7 _ _ ?_);refine wp_region_lit (aA (aB) ?_);simp only[zz];refine aA (aP rfl rfl (aM (by omega) (by omega))) (aA (aC) (aG ?_));simp only[zz];rw [← hs];simp only[Exit.inBlock,Exit.then];refine ⟨N - (k + 1),_,?_,rfl,?_,?_⟩
    · omega
    · simp only[zz,zv]
    ·
     simp only[zQ,zR,zD,zE];exact ⟨k + 1,kJ (es.take (k + 1)) e,rfl,m,rfl,by omega,rfl⟩
  ·
   have hkN : k = N:=by omega
   rw [hkN,show es.take N = es from List.take_of_length_le (by rw [hL.len];exact Nat.le_refl _)];refine wp_exit (k3 _ _ ?_);refine aD fun K9 k9=>wp_region_lit (aA (aB) (aA (aC) (aG (k9 _ _ ?_))));refine wp_ret ?_;simp only[zz];try simp only[Exit.inBlock,Exit.then,if_true]
   refine bO rfl rfl ?_;try simp only[zD,zE]
   exact ⟨_,rfl,m.ext,rfl⟩
theorem acc {ps : List P3} {N cap : Nat} {A : Option Addr} {p : P3} (w : World) (hL : nS vA 3 w A N ps) (hN : N ≤ 1000000000) (hcap : N ≤ cap) : eK prog 100 [.slice A N cap,pt p] w (fun v w'=>(v = .slice A N cap ∧ iR ps p = ps) ∨ SL 48 3 ((iR ps p).flatMap vA) (iR ps p).length w v w'):=by
 refine ⟨Kt,?_⟩;have m:=cA.refl w;obtain rfl : ps.length = N:=hL.len
 go_enter func100,ntmps100
 refine aD fun K1 k1=>wp_region_lit (eP m rfl ?_);clear m;intro g1 u m;refine aA (aC) (aG (k1 _ _ ?_));refine aD fun K2 k2=>wp_region_lit (aA (aC) (aG (k2 _ _ ?_)));refine aD fun K3 k3=>wp_block ?_;simp only[zz];try simp only[Nat.zero_add,Nat.reduceAdd,Nat.reduceMul,Int.reduceToNat]
 refine bH [5] [6,8,9,10,11,12,13,14,15,16,17,18,19,20,21] (fun n vs wl=>∃ (k : Nat),vs = [.int .i64 (k:Int)] ∧ cA w wl [bI g1 (vA p) 48] ∧ (Pre (fun x=>decide (x.Lt p)) ps k) ∧ (k ≤ ps.length) ∧ (n = ps.length - k)) ?_ ?_
 ·
  apply Exists.intro;simp only[zQ,zR,zD,zE];exact ⟨0,rfl,m,Pre.zero,Nat.zero_le _,rfl⟩
 ·
  intro n vs wr hI u;clear m;obtain ⟨k,rfl,m,hpre,hk,hn⟩:=hI;simp only[zu,zF,zG];refine aD fun K4 k4=>aD fun K5 k5=>wp_region_lit (aA (aB) (aA (aB) (aA (aW rfl kS rfl) (aA (cE rfl rfl) ?_))));simp only[zz];refine aG (k5 _ _ ?_);refine bZ rfl (fun hc1=>?_) (fun hc1=>?_)
  ·
   obtain ⟨x,hx,a,rfl,hrow⟩:=hL.get (i:=k) (by omega);refine wp_skip (k4 _ _ ?_);refine wp_block (aD fun K6 k6=>mq m aO (by kernel_rfl) (aL (aB) (aL (aB) ?_)));simp only[zz];refine aL (aI kS aF rfl rfl (by omega) (by omega) (bV (Int.toNat_natCast _))) ?_;simp only[zz];refine ql rfl (fun u m=>((hrow.ext m.ext).lies aJ aF)) ?_;simp only[zz];refine ql rfl (fun u m=>((m.b 0 rfl).full aJ aF)) ?_;simp only[zz];refine tJ rfl rfl (tR) (aL (aC) (dK ?_));clear m;intro u m;refine k6 _ _ ?_;refine aD fun K7 k7=>aD fun K8 k8=>wp_region_lit (aA (aB) (aA (fQ rfl) ?_));simp only[zz];refine aG (k8 _ _ ?_);refine lS rfl (fun hc2=>?_) (fun hc2=>?_)
   ·
    have hpos : Vn ps p = k:=ac5 hpre hx (by simpa using hc2);refine wp_exit (k3 _ _ ?_);refine aD fun K9 k9=>aD fun K10 k10=>mq m aO (by kernel_rfl) (aL (aB) (aL (aB) (aL (aW rfl kS rfl) ?_)));simp only[zz];refine aL (bX rfl rfl (by omega)) (aL (aB) (eT rfl (aL (aB) (eT rfl (aL (aB) ?_)))));simp only[zz];refine eT rfl (aL (aI kS aF rfl rfl (by omega) (by omega) (bV (Int.toNat_natCast _))) (eT rfl ?_));simp only[zz];refine ql rfl (fun u m=>((hrow.ext m.ext).lies aJ aF)) ?_;simp only[zz];refine eT rfl (ql rfl (fun u m=>((m.b 0 rfl).full aJ aF)) ?_);simp only[zz];refine eT rfl (aL (dB rfl rfl) (aL (fA rfl) (dK ?_)));clear m;intro u m;refine k10 _ _ ?_;simp only[zz];refine bZ rfl (fun hc3=>?_) (fun hc3=>?_)
    ·
     have hxp : x = p:=P3.eq hc3.1 hc3.2.1 hc3.2.2;refine aD fun K11 k11=>wp_region_lit (aA (aB) (aA (aC) (aG (k11 _ _ ?_))));refine wp_ret ?_;simp only[zz];try simp only[Exit.inBlock,Exit.then,if_true]
     refine bO rfl rfl ?_;try simp only[zD,zE]
     exact ⟨_,rfl,m.ext,.inl ⟨rfl,by rw [iR,hpos,hx,if_pos (by rw [hxp])]⟩⟩
    ·
     have hw : iR ps p = ps.take k ++ [p] ++ ps.drop k:=by unfold iR;rw [hpos,if_neg (by rw [hx];exact fun h=>hc3 (by cases h;exact ⟨rfl,rfl,rfl⟩))]
     refine wp_skip (k9 _ _ ?_);refine aD fun K12 k12=>wp_region_lit (aA (aC) ?_);replace m:=m.nilO 48 3;refine aG (k12 _ _ ?_);refine aD fun K13 k13=>wp_region_lit (aA (aB) (aA (aB) (aA (aB) ?_)));simp only[zz];refine aA (kV kS aF rfl rfl (Int.toNat_natCast _) (by omega) (by omega)) ?_;simp only[zz];refine eI m 0 rfl rfl kS vF rfl (by decide) rfl rfl (by rw [jN Nd,List.length_take,Nat.min_eq_left (by omega)]) (((hL.take (by omega)).ext m.ext).cells Nd (by decide)) (Kr _) (by omega) (by omega) ?_;clear m;intro A7 cap7 u m;simp only[zF,zG] at m;rw [List.nil_append,Nat.zero_add] at m;rw [Nat.zero_add];refine aA (aC) (aG (k13 _ _ ?_));refine aD fun K14 k14=>wp_region_lit (aA (aB) ?_);simp only[zz];refine aK rfl ((m.b 1 rfl).full aJ aF) ?_;simp only[zz];refine wH rfl ?_;intro u g2 e hg hB;replace m:=m.newB e hg hB;clear e hg hB;simp only[zz];refine eI m 1 rfl rfl kS vF rfl (by decide) rfl rfl rfl (m.b 0 rfl).rowsO (tG rfl) (by omega) (by omega) ?_;clear m;intro A7 cap7 u m;simp only[zF,zG] at m;refine aA (aC) (aG (k14 _ _ ?_));refine aD fun K15 k15=>wp_region_lit (aA (aB) (aA (aB) ?_));simp only[zz];refine aA (aB) ?_;simp only[zz];refine aA (jY kS aF rfl rfl (Int.toNat_natCast _) (by omega) (by omega) rfl) ?_;simp only[zz];refine eI m 1 rfl rfl kS vF rfl (by decide) rfl rfl (by rw [jN Nd,List.length_drop]) ((hL.ext m.ext).cellsD Nd (by decide) hcap) (Kr _) (by omega) (by omega) ?_;clear m;intro A7 cap7 u m;simp only[zF,zG] at m;refine aA (aC) (aG (k15 _ _ ?_));refine wp_ret ?_;simp only[zz];try simp only[Exit.inBlock,Exit.then,if_true]
     refine bO rfl rfl ?_;try simp only[zD,zE]
     exact ⟨_,rfl,m.ext,.inr ⟨_,_,_,by rw [hw];simp;omega,rfl,(m.o 1 rfl).as (by rw [hw,List.flatMap_append,List.flatMap_append];rfl)⟩⟩
   ·
    have hpre2:=hpre.step hx (by simpa using hc2);refine wp_skip (k7 _ _ ?_);refine wp_region_lit (aA (aB) ?_);simp only[zz];refine aA (aP rfl rfl (aM (by omega) (by omega))) (aA (aC) (aG ?_));simp only[zz];simp only[Exit.inBlock,Exit.then];refine ⟨ps.length - (k + 1),_,?_,rfl,?_,?_⟩
    · omega
    · simp only[zz,zv]
    ·
     simp only[zQ,zR,zD,zE];exact ⟨k + 1,rfl,m,hpre2,by omega,rfl⟩
  ·
   obtain rfl : k = ps.length:=by omega
   have hpos : Vn ps p = ps.length:=Zx hpre;have hw : iR ps p = ps.take ps.length ++ [p] ++ ps.drop ps.length:=by unfold iR;rw [hpos,if_neg (by rw [List.getElem?_eq_none (Nat.le_refl _)];simp)]
   refine wp_exit (k3 _ _ ?_);refine aD fun K16 k16=>aD fun K17 k17=>mq m aO (by kernel_rfl) (aL (aB) (aL (aB) (aL (aW rfl kS rfl) ?_)));simp only[zz];refine aL (eU rfl rfl (by omega)) (aL (aB) (iL rfl (iL rfl ?_)));simp only[zz];refine iL rfl (iL rfl (iL rfl (iL rfl ?_)));simp only[zz];refine aL (fL rfl) (dK ?_);clear m;intro u m;refine k17 _ _ (iO rfl (wp_skip (k16 _ _ ?_)));refine aD fun K18 k18=>wp_region_lit (aA (aC) ?_);replace m:=m.nilO 48 3;refine aG (k18 _ _ ?_);refine aD fun K19 k19=>wp_region_lit (aA (aB) (aA (aB) ?_));simp only[zz];refine aA (aB) ?_;simp only[zz];refine aA (kV kS aF rfl rfl (Int.toNat_natCast _) (by omega) (by omega)) ?_;simp only[zz];refine eI m 0 rfl rfl kS vF rfl (by decide) rfl rfl (by rw [jN Nd,List.length_take,Nat.min_eq_left (by omega)]) (((hL.take (by omega)).ext m.ext).cells Nd (by decide)) (Kr _) (by omega) (by omega) ?_;clear m;intro A7 cap7 u m;simp only[zF,zG] at m;rw [List.nil_append,Nat.zero_add] at m;rw [Nat.zero_add];refine aA (aC) (aG (k19 _ _ ?_));refine aD fun K20 k20=>wp_region_lit (aA (aB) ?_);simp only[zz];refine aK rfl ((m.b 1 rfl).full aJ aF) ?_;simp only[zz];refine wH rfl ?_;intro u g2 e hg hB;replace m:=m.newB e hg hB;clear e hg hB;simp only[zz];refine eI m 1 rfl rfl kS vF rfl (by decide) rfl rfl rfl (m.b 0 rfl).rowsO (tG rfl) (by omega) (by omega) ?_;clear m;intro A7 cap7 u m;simp only[zF,zG] at m;refine aA (aC) (aG (k20 _ _ ?_));refine aD fun K21 k21=>wp_region_lit (aA (aB) (aA (aB) ?_));simp only[zz];refine aA (aB) ?_;simp only[zz];refine aA (jY kS aF rfl rfl (Int.toNat_natCast _) (by omega) (by omega) rfl) ?_;simp only[zz];refine eI m 1 rfl rfl kS vF rfl (by decide) rfl rfl (by rw [jN Nd,List.length_drop]) ((hL.ext m.ext).cellsD Nd (by decide) hcap) (Kr _) (by omega) (by omega) ?_;clear m;intro A7 cap7 u m;simp only[zF,zG] at m;refine aA (aC) (aG (k21 _ _ ?_));refine wp_ret ?_;simp only[zz];try simp only[Exit.inBlock,Exit.then,if_true]
   refine bO rfl rfl ?_;try simp only[zD,zE]
   exact ⟨_,rfl,m.ext,.inr ⟨_,_,_,by rw [hw];simp,rfl,(m.o 1 rfl).as (by rw [hw,List.flatMap_append,List.flatMap_append];rfl)⟩⟩
theorem Rm {w0 w : World} {is : List It} {A : Option Addr} {n cap : Nat} {ps : List P3} {p : P3} (m : cA w0 w is) (k : Nat) (hi : is[k]? = some (oI 48 3 A n cap (ps.flatMap vA))) (hN : n ≤ 1000000000) :
 Calls prog 100 [.slice A n cap,pt p].toArray w fun e w'=>∃ v i,e = .returned v ∧ cA w0 w' (is.set k i) ∧ ∃ A' cap' n',n' = (iR ps p).length ∧ v = .slice A' n' cap' ∧ i = oI 48 3 A' n' cap' ((iR ps p).flatMap vA):=by
 have hO:=m.o k hi;refine (acc (p:=p) w (hO.lat Nd (by decide)) hN hO.le).2.mono ?_;rintro e w' ⟨v,rfl,hE,h⟩;rcases h with ⟨rfl,h⟩ | ⟨A',cap',n',rfl,rfl,hN'⟩
 · exact ⟨_,oI 48 3 A n cap (ps.flatMap vA),rfl,by rw [adx hi];exact m.ext' hE,A,cap,n,by rw [h];exact (hO.num Nd (by decide)).symm,rfl,by rw [h]⟩
 · exact ⟨_,_,rfl,(m.newO hE hN').mv k hi,_,_,_,rfl,rfl,rfl⟩
theorem Wi {ts : List T3} {N cap : Nat} {A : Option Addr} (w : World) (hT : eO w A N ts) (hN : N ≤ 100000000) : eK prog 63 [.slice A N cap] w (SL 48 3 ((fB ts).flatMap vA) (fB ts).length w):=by
 refine ⟨afY,?_⟩;have m:=cA.refl w
 go_enter func63,ntmps63
 refine aD fun K1 k1=>wp_region_lit (aA (aC) (aG (k1 _ _ ?_)));refine aD fun K2 k2=>wp_region_lit (aA (aC) ?_);replace m:=m.nilO 48 3;refine aG (k2 _ _ ?_);refine aD fun K3 k3=>aD fun K4 k4=>wp_region_lit (aA (aC) (aG (k4 _ _ ?_)));refine wp_block ?_;simp only[zz];try simp only[Nat.zero_add,Nat.reduceAdd,Nat.reduceMul,Int.reduceToNat]
 refine bH [3,4] [5,6,7,8,9,10,11,12,13,14,15,16,17,18,19,20,21,22,23] (fun n vs wl=>∃ (k n3 : Nat) (A3 : Option Addr) (cap3 : Nat),vs = [.slice A3 n3 cap3,.int .i64 (k:Int)] ∧ cA w wl [oI 48 3 A3 n3 cap3 ((fB (ts.take k)).flatMap vA)] ∧ (n3 = (fB (ts.take k)).length) ∧ (k ≤ N) ∧ (n = N - k)) ?_ ?_
 ·
  apply Exists.intro;simp only[zQ,zR,zD,zE];exact ⟨0,0,_,_,rfl,m,rfl,Nat.zero_le _,rfl⟩
 ·
  intro n vs wr hI u;clear m;obtain ⟨k,n3,A3,cap3,rfl,m,hn3,hk,hn⟩:=hI;simp only[zu,zF,zG];refine aD fun K5 k5=>aD fun K6 k6=>wp_region_lit (aA (aB) (aA (aB) (aA (aW rfl bS rfl) (aA (cE rfl rfl) ?_))));simp only[zz];refine aG (k6 _ _ ?_);refine bZ rfl (fun hc1=>?_) (fun hc1=>?_)
  ·
   obtain ⟨t,ht,_,a,rfl,hrow⟩:=hT.get (i:=k) (by omega);have hb0:=Ca (ts.take k);have hb1:=sB (fB (ts.take k)) t.a;have hb2:=sB (iR (fB (ts.take k)) t.a) t.b;rw [List.length_take] at hb0;refine wp_skip (k5 _ _ ?_);refine aD fun K7 k7=>wp_block (aD fun K8 k8=>wp_region_lit (aA (aC) (aG (k8 _ _ ?_))));refine wp_block (wp_loop_rounds 4 (dU (aD fun K9 k9=>aD fun K10 k10=>wp_region_lit (aA (aB) (aA (bX (m:=0) (n:=3) rfl rfl (by decide)) (aG (k10 _ _ ?_)))))));refine cG rfl (wp_skip (k9 _ _ ?_));refine aD fun K11 k11=>wp_block (wp_region_lit (aA (aB) ?_));simp only[zz];refine aA (aB) (aA (aB) (aA (aB) ?_));simp only[zz];refine aA (aI bS aT rfl rfl (by omega) (by omega) (bV (Int.toNat_natCast _))) (aA (aH bL aF rfl rfl (by decide) (by decide) rfl) ?_);simp only[zz];refine aK rfl ((jK.cor (hrow.ext m.ext) (c:=0) (by decide)).lies aJ aF) ?_;simp only[zz];refine pJ m 0 Kt rfl rfl (fun m=>Rm (p:=t.a) m 0 rfl (by omega)) ?_;clear m;rintro v i u m ⟨A3,cap3,n3,hn3,rfl,rfl⟩;simp only[zF,zG] at m;refine aA (aC) (aG (k11 _ _ ?_));refine wp_region_lit (aA (aB) (aA (aP (m:=0) (n:=1) (r:=1) rfl rfl (by decide)) ?_));simp only[zz];refine aA (aC) (aG (aU (aD fun K12 k12=>aD fun K13 k13=>wp_region_lit (aA (aB) (aA (bX (m:=1) (n:=3) rfl rfl (by decide)) (aG (k13 _ _ ?_)))))));refine cG rfl (wp_skip (k12 _ _ ?_));refine aD fun K14 k14=>wp_block (wp_region_lit (aA (aB) ?_));simp only[zz];refine aA (aB) (aA (aB) (aA (aB) ?_));simp only[zz];refine aA (aI bS aT rfl rfl (by omega) (by omega) (bV (Int.toNat_natCast _))) (aA (aH bL aF rfl rfl (by decide) (by decide) rfl) ?_);simp only[zz];refine aK rfl ((jK.cor (hrow.ext m.ext) (c:=1) (by decide)).lies aJ aF) ?_;simp only[zz];refine pJ m 0 Kt rfl rfl (fun m=>Rm (p:=t.b) m 0 rfl (by omega)) ?_;clear m;rintro v i u m ⟨A3,cap3,n3,hn3,rfl,rfl⟩;simp only[zF,zG] at m;refine aA (aC) (aG (k14 _ _ ?_));refine wp_region_lit (aA (aB) (aA (aP (m:=1) (n:=1) (r:=2) rfl rfl (by decide)) ?_));simp only[zz];refine aA (aC) (aG (aU (aD fun K15 k15=>aD fun K16 k16=>wp_region_lit (aA (aB) (aA (bX (m:=2) (n:=3) rfl rfl (by decide)) (aG (k16 _ _ ?_)))))));refine cG rfl (wp_skip (k15 _ _ ?_));refine aD fun K17 k17=>wp_block (wp_region_lit (aA (aB) ?_));simp only[zz];refine aA (aB) (aA (aB) (aA (aB) ?_));simp only[zz];refine aA (aI bS aT rfl rfl (by omega) (by omega) (bV (Int.toNat_natCast _))) (aA (aH bL aF rfl rfl (by decide) (by decide) rfl) ?_);simp only[zz];refine aK rfl ((jK.cor (hrow.ext m.ext) (c:=2) (by decide)).lies aJ aF) ?_;simp only[zz];refine pJ m 0 Kt rfl rfl (fun m=>Rm (p:=t.c) m 0 rfl (by omega)) ?_;clear m;rintro v i u m ⟨A3,cap3,n3,hn3,rfl,rfl⟩;simp only[zF,zG] at m;refine aA (aC) (aG (k17 _ _ ?_));refine wp_region_lit (aA (aB) (aA (aP (m:=2) (n:=1) (r:=3) rfl rfl (by decide)) ?_));simp only[zz];refine aA (aC) (aG (aU (aD fun K18 k18=>aD fun K19 k19=>wp_region_lit (aA (aB) (aA (eU (m:=3) (n:=3) rfl rfl (by decide)) (aG (k19 _ _ ?_)))))));refine iO rfl (wp_exit (k7 _ _ ?_));refine wp_region_lit (aA (aB) ?_);simp only[zz];refine aA (aP rfl rfl (aM (by omega) (by omega))) (aA (aC) (aG ?_));simp only[zz];simp only[Exit.inBlock,Exit.then];refine ⟨N - (k + 1),_,?_,rfl,?_,?_⟩
   · omega
   · simp only[zz,zv]
   ·
    simp only[zQ,zR,zD,zE];exact ⟨k + 1,_,_,_,rfl,(m.reO 0 rfl ((m.o 0 rfl).as (by rw [yL ht]))),by rw [yL ht];exact hn3,by omega,rfl⟩
  ·
   have hkN : k = N:=by omega
   rw [hkN,show ts.take N = ts from List.take_of_length_le (by rw [hT.len];exact Nat.le_refl _)] at m hn3;refine wp_exit (k3 _ _ ?_);refine aD fun K20 k20=>wp_region_lit (aA (aB) (aA (aC) (aG (k20 _ _ ?_))));refine wp_ret ?_;simp only[zz];try simp only[Exit.inBlock,Exit.then,if_true]
   refine bO rfl rfl ?_;try simp only[zD,zE]
   exact ⟨_,rfl,m.ext,⟨_,_,_,hn3,rfl,(m.o 0 rfl)⟩⟩
theorem aar {ts : List T3} {N cap : Nat} {A : Option Addr} {p q : P3} (w : World) (hT : nS aX 9 w A N ts) (hN : N ≤ 1000000000) : eK prog 101 [.slice A N cap,pt p,pt q] w (fun v _=>v = .tuple #[pt ((bP ts p q).getD p),.bool (bP ts p q).isSome]):=by
 refine ⟨adz,?_⟩;have m:=cA.refl w
 go_enter func101,ntmps101
 refine aD fun K1 k1=>wp_region_lit (eP m rfl ?_);clear m;intro g1 u m;simp only[zz];refine eP m rfl ?_;clear m;intro g2 u m;simp only[zz];refine bF m bQ rfl ?_;clear m;intro g3 u m;refine aA (aC) (aG (k1 _ _ ?_));refine aD fun K2 k2=>aD fun K3 k3=>wp_region_lit (aA (aC) (aG (k3 _ _ ?_)));refine wp_block ?_;simp only[zz];try simp only[Nat.zero_add,Nat.reduceAdd,Nat.reduceMul,Int.reduceToNat]
 refine bH [8] [7,9,10,11,12,13,14,15,16,17,18,19,20,21,22,23,24,25,26,27,28,29,30,31,32,33,34,35,36,37,38,39,40,41,42,43,44,45,46,47] (fun n vs wl=>∃ (k : Nat),vs = [.int .i64 (k:Int)] ∧ cA w wl [bI g3 [.int .i64 0,.int .i64 0,.int .i64 0] 48,bI g2 (vA q) 48,bI g1 (vA p) 48] ∧ (bP (ts.take k) p q = none) ∧ (k ≤ N) ∧ (n = N - k)) ?_ ?_
 ·
  apply Exists.intro;simp only[zQ,zR,zD,zE];exact ⟨0,rfl,m,rfl,Nat.zero_le _,rfl⟩
 ·
  intro n vs wr hI u;clear m;obtain ⟨k,rfl,m,hb0,hk,hn⟩:=hI;simp only[zu,zF,zG];refine aD fun K4 k4=>aD fun K5 k5=>wp_region_lit (aA (aB) (aA (aB) (aA (aW rfl bS rfl) (aA (cE rfl rfl) ?_))));simp only[zz];refine aG (k5 _ _ ?_);refine bZ rfl (fun hc1=>?_) (fun hc1=>?_)
  ·
   obtain ⟨t,ht,a,rfl,hrow⟩:=hT.get (i:=k) (by omega);refine wp_skip (k4 _ _ ?_);refine aD fun K6 k6=>wp_block (aD fun K7 k7=>wp_region_lit (aA (aC) (aG (k7 _ _ ?_))));refine wp_block (wp_loop_rounds 4 (dU (aD fun K8 k8=>aD fun K9 k9=>wp_region_lit (aA (aB) (aA (bX (m:=0) (n:=3) rfl rfl (by decide)) (aG (k9 _ _ ?_)))))));refine cG rfl (wp_skip (k8 _ _ ?_));refine aD fun K10 k10=>wp_block (aD fun K11 k11=>?_);simp only[zz];refine mq m aO (by kernel_rfl) (aL (aB) (aL (aB) (aL (aB) ?_)));simp only[zz];refine aL (aI bS aT rfl rfl (by omega) (by omega) (bV (Int.toNat_natCast _))) (aL (aH bL aF rfl rfl (by decide) (by decide) rfl) ?_);simp only[zz];refine ql rfl (fun u m=>((jK.cor (hrow.ext m.ext) (c:=0) (by omega)).lies aJ aF)) ?_;simp only[zz];refine ql rfl (fun u m=>((m.b 2 rfl).full aJ aF)) ?_;simp only[zz];refine aL (dB rfl rfl) (aL (aB) (cN rfl (fun hb=>aB) (cN rfl (fun hb=>aB) ?_)));simp only[zz];refine cN rfl (fun hb=>aB) (cN rfl (fun hb=>aP (m:=0) (n:=1) (r:=1) (bK hb rfl) rfl (by decide)) (cN rfl (fun hb=>dG (m:=1) (n:=3) (r:=1) (bK hb rfl) rfl (by decide) (by decide)) ?_));simp only[zz];refine cN rfl (fun hb=>aI bS aT (bK hb rfl) (bK hb rfl) (by omega) (by omega) (bV (Int.toNat_natCast _))) (cN rfl (fun hb=>aH bL aF (bK hb rfl) (bK hb rfl) (by decide) (by decide) rfl) ?_);simp only[zz];refine iB rfl (fun hb u m=>cC (bK hb rfl) ((jK.cor (hrow.ext m.ext) (c:=1) (by omega)).lies aJ aF)) (iB rfl (fun hb u m=>cC rfl ((m.b 1 rfl).full aJ aF)) (cN rfl (fun hb=>dB (bK hb rfl) (bK hb rfl)) (aL (cK rfl rfl rfl) (dK ?_))));clear m;intro u m;refine k11 _ _ ?_;simp only[zz];refine lS rfl (fun hc3=>?_) (fun hc3=>?_)
   ·
    have hf:=vB ((oZ ht hb0).trans (afb  (tN.1 hc3)));refine aD fun K12 k12=>wp_region_lit (aA (aB) (aA (aB) (aA (aB) (aA (aP (m:=0) (n:=2) (r:=2) rfl rfl (by decide)) ?_))));simp only[zz];refine aA (dG (m:=2) (n:=3) (r:=2) rfl rfl (by decide) (by decide)) ?_;simp only[zz];refine aA (aI bS aT rfl rfl (by omega) (by omega) (bV (Int.toNat_natCast _))) (aA (aH bL aF rfl rfl (by decide) (by decide) rfl) ?_);simp only[zz];refine aK rfl ((jK.cor (hrow.ext m.ext) (c:=2) (by omega)).lies aJ aF) ?_;simp only[zz];refine aS m 0 rfl rfl rfl aF (dZ rfl) rfl ?_;clear m;intro u m;simp only[zy,zx,bG,zF,zG,Nat.reduceAdd] at m;refine aA (aC) (aG (k12 _ _ ?_));refine wp_ret ?_;simp only[zz];try simp only[Exit.inBlock,Exit.then,if_true]
    refine kE rfl ⟨_,rfl,((m.b 0 rfl).full aJ aF)⟩ rfl ?_;try simp only[zD,zE]
    exact ⟨_,rfl,m.ext,by rw [hf];rfl⟩
   ·
    have hq0:=Ay hc3;refine wp_skip (k10 _ _ ?_);refine wp_region_lit (aA (aB) (aA (aP (m:=0) (n:=1) (r:=1) rfl rfl (by decide)) (aA (aC) (aG (aU (aD fun K13 k13=>aD fun K14 k14=>wp_region_lit (aA (aB) ?_)))))));simp only[zz];refine aA (bX (m:=1) (n:=3) rfl rfl (by decide)) (aG (k14 _ _ ?_));refine cG rfl (wp_skip (k13 _ _ ?_));refine aD fun K15 k15=>wp_block (aD fun K16 k16=>?_);simp only[zz];refine mq m aO (by kernel_rfl) (aL (aB) (aL (aB) (aL (aB) ?_)));simp only[zz];refine aL (aI bS aT rfl rfl (by omega) (by omega) (bV (Int.toNat_natCast _))) (aL (aH bL aF rfl rfl (by decide) (by decide) rfl) ?_);simp only[zz];refine ql rfl (fun u m=>((jK.cor (hrow.ext m.ext) (c:=1) (by omega)).lies aJ aF)) ?_;simp only[zz];refine ql rfl (fun u m=>((m.b 2 rfl).full aJ aF)) ?_;simp only[zz];refine aL (dB rfl rfl) (aL (aB) (cN rfl (fun hb=>aB) (cN rfl (fun hb=>aB) ?_)));simp only[zz];refine cN rfl (fun hb=>aB) (cN rfl (fun hb=>aP (m:=1) (n:=1) (r:=2) (bK hb rfl) rfl (by decide)) (cN rfl (fun hb=>dG (m:=2) (n:=3) (r:=2) (bK hb rfl) rfl (by decide) (by decide)) ?_));simp only[zz];refine cN rfl (fun hb=>aI bS aT (bK hb rfl) (bK hb rfl) (by omega) (by omega) (bV (Int.toNat_natCast _))) (cN rfl (fun hb=>aH bL aF (bK hb rfl) (bK hb rfl) (by decide) (by decide) rfl) ?_);simp only[zz];refine iB rfl (fun hb u m=>cC (bK hb rfl) ((jK.cor (hrow.ext m.ext) (c:=2) (by omega)).lies aJ aF)) (iB rfl (fun hb u m=>cC rfl ((m.b 1 rfl).full aJ aF)) (cN rfl (fun hb=>dB (bK hb rfl) (bK hb rfl)) (aL (cK rfl rfl rfl) (dK ?_))));clear m;intro u m;refine k16 _ _ ?_;simp only[zz];refine lS rfl (fun hc3=>?_) (fun hc3=>?_)
    ·
     have hf:=vB ((oZ ht hb0).trans (afc hq0 (tN.1 hc3)));refine aD fun K17 k17=>wp_region_lit (aA (aB) (aA (aB) (aA (aB) (aA (aP (m:=1) (n:=2) (r:=3) rfl rfl (by decide)) ?_))));simp only[zz];refine aA (dG (m:=3) (n:=3) (r:=0) rfl rfl (by decide) (by decide)) ?_;simp only[zz];refine aA (aI bS aT rfl rfl (by omega) (by omega) (bV (Int.toNat_natCast _))) (aA (aH bL aF rfl rfl (by decide) (by decide) rfl) ?_);simp only[zz];refine aK rfl ((jK.cor (hrow.ext m.ext) (c:=0) (by omega)).lies aJ aF) ?_;simp only[zz];refine aS m 0 rfl rfl rfl aF (dZ rfl) rfl ?_;clear m;intro u m;simp only[zy,zx,bG,zF,zG,Nat.reduceAdd] at m;refine aA (aC) (aG (k17 _ _ ?_));refine wp_ret ?_;simp only[zz];try simp only[Exit.inBlock,Exit.then,if_true]
     refine kE rfl ⟨_,rfl,((m.b 0 rfl).full aJ aF)⟩ rfl ?_;try simp only[zD,zE]
     exact ⟨_,rfl,m.ext,by rw [hf];rfl⟩
    ·
     have hq1:=Ay hc3;refine wp_skip (k15 _ _ ?_);refine wp_region_lit (aA (aB) (aA (aP (m:=1) (n:=1) (r:=2) rfl rfl (by decide)) (aA (aC) (aG (aU (aD fun K18 k18=>aD fun K19 k19=>wp_region_lit (aA (aB) ?_)))))));simp only[zz];refine aA (bX (m:=2) (n:=3) rfl rfl (by decide)) (aG (k19 _ _ ?_));refine cG rfl (wp_skip (k18 _ _ ?_));refine aD fun K20 k20=>wp_block (aD fun K21 k21=>?_);simp only[zz];refine mq m aO (by kernel_rfl) (aL (aB) (aL (aB) (aL (aB) ?_)));simp only[zz];refine aL (aI bS aT rfl rfl (by omega) (by omega) (bV (Int.toNat_natCast _))) (aL (aH bL aF rfl rfl (by decide) (by decide) rfl) ?_);simp only[zz];refine ql rfl (fun u m=>((jK.cor (hrow.ext m.ext) (c:=2) (by omega)).lies aJ aF)) ?_;simp only[zz];refine ql rfl (fun u m=>((m.b 2 rfl).full aJ aF)) ?_;simp only[zz];refine aL (dB rfl rfl) (aL (aB) (cN rfl (fun hb=>aB) (cN rfl (fun hb=>aB) ?_)));simp only[zz];refine cN rfl (fun hb=>aB) (cN rfl (fun hb=>aP (m:=2) (n:=1) (r:=3) (bK hb rfl) rfl (by decide)) (cN rfl (fun hb=>dG (m:=3) (n:=3) (r:=0) (bK hb rfl) rfl (by decide) (by decide)) ?_));simp only[zz];refine cN rfl (fun hb=>aI bS aT (bK hb rfl) (bK hb rfl) (by omega) (by omega) (bV (Int.toNat_natCast _))) (cN rfl (fun hb=>aH bL aF (bK hb rfl) (bK hb rfl) (by decide) (by decide) rfl) ?_);simp only[zz];refine iB rfl (fun hb u m=>cC (bK hb rfl) ((jK.cor (hrow.ext m.ext) (c:=0) (by omega)).lies aJ aF)) (iB rfl (fun hb u m=>cC rfl ((m.b 1 rfl).full aJ aF)) (cN rfl (fun hb=>dB (bK hb rfl) (bK hb rfl)) (aL (cK rfl rfl rfl) (dK ?_))));clear m;intro u m;refine k21 _ _ ?_;simp only[zz];refine lS rfl (fun hc3=>?_) (fun hc3=>?_)
     ·
      have hf:=vB ((oZ ht hb0).trans (afd hq0 hq1 (tN.1 hc3)));refine aD fun K22 k22=>wp_region_lit (aA (aB) (aA (aB) (aA (aB) (aA (aP (m:=2) (n:=2) (r:=4) rfl rfl (by decide)) ?_))));simp only[zz];refine aA (dG (m:=4) (n:=3) (r:=1) rfl rfl (by decide) (by decide)) ?_;simp only[zz];refine aA (aI bS aT rfl rfl (by omega) (by omega) (bV (Int.toNat_natCast _))) (aA (aH bL aF rfl rfl (by decide) (by decide) rfl) ?_);simp only[zz];refine aK rfl ((jK.cor (hrow.ext m.ext) (c:=1) (by omega)).lies aJ aF) ?_;simp only[zz];refine aS m 0 rfl rfl rfl aF (dZ rfl) rfl ?_;clear m;intro u m;simp only[zy,zx,bG,zF,zG,Nat.reduceAdd] at m;refine aA (aC) (aG (k22 _ _ ?_));refine wp_ret ?_;simp only[zz];try simp only[Exit.inBlock,Exit.then,if_true]
      refine kE rfl ⟨_,rfl,((m.b 0 rfl).full aJ aF)⟩ rfl ?_;try simp only[zD,zE]
      exact ⟨_,rfl,m.ext,by rw [hf];rfl⟩
     ·
      have hq2:=Ay hc3;refine wp_skip (k20 _ _ ?_);refine wp_region_lit (aA (aB) (aA (aP (m:=2) (n:=1) (r:=3) rfl rfl (by decide)) (aA (aC) (aG (aU (aD fun K23 k23=>aD fun K24 k24=>wp_region_lit (aA (aB) ?_)))))));simp only[zz];refine aA (eU (m:=3) (n:=3) rfl rfl (by decide)) (aG (k24 _ _ ?_));refine iO rfl (wp_exit (k6 _ _ ?_));refine wp_region_lit (aA (aB) ?_);simp only[zz];refine aA (aP rfl rfl (aM (by omega) (by omega))) (aA (aC) (aG ?_));simp only[zz];simp only[Exit.inBlock,Exit.then];refine ⟨N - (k + 1),_,?_,rfl,?_,?_⟩
      · omega
      · simp only[zz,zv]
      ·
       simp only[zQ,zR,zD,zE];exact ⟨k + 1,rfl,m,(oZ ht hb0).trans (afe hq0 hq1 hq2),by omega,rfl⟩
  ·
   have hkN : k = N:=by omega
   rw [hkN,show ts.take N = ts from List.take_of_length_le (by rw [hT.len];exact Nat.le_refl _)] at hb0;refine wp_exit (k2 _ _ ?_);refine aD fun K25 k25=>wp_region_lit (aK rfl ((m.b 2 rfl).full aJ aF) ?_);simp only[zz];refine aS m 0 rfl rfl rfl aF (dZ rfl) rfl ?_;clear m;intro u m;simp only[zy,zx,bG,zF,zG,Nat.reduceAdd] at m;refine aA (aC) (aG (k25 _ _ ?_));refine wp_ret ?_;simp only[zz];try simp only[Exit.inBlock,Exit.then,if_true]
   refine kE rfl ⟨_,rfl,((m.b 0 rfl).full aJ aF)⟩ rfl ?_;try simp only[zD,zE]
   exact ⟨_,rfl,m.ext,by rw [hb0];rfl⟩
theorem Wj {ts : List T3} {N cap : Nat} {A : Option Addr} {p : P3} (w : World) (hT : eO w A N ts) (hN : N ≤ 100000000) : eK prog 64 [.slice A N cap,pt p] w (fun v _=>v = .bool (Es ts p)):=by
 refine ⟨afZ,?_⟩;have m:=cA.refl w
 go_enter func64,ntmps64
 refine aD fun K1 k1=>wp_region_lit (eP m rfl ?_);clear m;intro g1 u m;refine aA (aC) (aG (k1 _ _ ?_));refine aD fun K2 k2=>wp_region_lit (aA (aC) ?_);replace m:=m.nilO 53 9;refine aG (k2 _ _ ?_);refine aD fun K3 k3=>wp_region_lit (aA (aC) ?_);simp only[zz];replace m:=m.nilO 48 3;refine aG (k3 _ _ ?_);refine aD fun K4 k4=>aD fun K5 k5=>wp_region_lit (aA (aC) (aG (k5 _ _ ?_)));refine wp_block ?_;simp only[zz];try simp only[Nat.zero_add,Nat.reduceAdd,Nat.reduceMul,Int.reduceToNat]
 refine bH [5,6,7] [8,14,15,16,17,18,19,20,21,22,23,24,25,26,27,28,29,30,31,32,33,34,35,36,37,38,39,40,41,42,43,44,45,46,47,48,49] (fun n vs wl=>∃ (k n5 n6 cap5 cap6 : Nat) (A5 A6 : Option Addr),vs = [.slice A5 n5 cap5,.slice A6 n6 cap6,.int .i64 (k:Int)] ∧ cA w wl [oI 48 3 A6 n6 cap6 ((qG (ts.take k) p).flatMap vA),oI 53 9 A5 n5 cap5 ((mB (ts.take k) p).flatMap aX),bI g1 (vA p) 48] ∧ (n5 ≤ k * 3) ∧ (n6 ≤ k * 3) ∧ (k ≤ N) ∧ (n = N - k)) ?_ ?_
 ·
  apply Exists.intro;simp only[zQ,zR,zD,zE];exact ⟨0,_,_,_,_,_,_,rfl,m,Nat.le_refl _,Nat.le_refl _,Nat.zero_le _,rfl⟩
 ·
  intro n vs wr hI u;clear m;obtain ⟨k,n5,n6,cap5,cap6,A5,A6,rfl,m,hl5,hl6,hk,hn⟩:=hI;simp only[zu,zF,zG];refine aD fun K6 k6=>aD fun K7 k7=>wp_region_lit (aA (aB) (aA (aB) (aA (aW rfl bS rfl) (aA (cE rfl rfl) ?_))));simp only[zz];refine aG (k7 _ _ ?_);refine bZ rfl (fun hc1=>?_) (fun hc1=>?_)
  ·
   obtain ⟨t,ht,_,a,rfl,hrow⟩:=hT.get (i:=k) (by omega);refine wp_skip (k6 _ _ ?_);refine aD fun K8 k8=>wp_block (aD fun K9 k9=>wp_region_lit (aA (aC) (aG (k9 _ _ ?_))));refine wp_block ?_;simp only[zz];try simp only[Nat.zero_add,Nat.reduceAdd,Nat.reduceMul,Int.reduceToNat]
   refine bH [5,6,8] [20,21,22,23,24,25,26,27,28,29,30,31,32,33,34,35,36,37,38,39,40,41,42,43,44,45,46,47,48,49] (fun n vs wl=>∃ (c n5 n6 cap5 cap6 : Nat) (A5 A6 : Option Addr),vs = [.slice A5 n5 cap5,.slice A6 n6 cap6,.int .i64 (c:Int)] ∧ cA w wl [oI 48 3 A6 n6 cap6 ((rK ts p (k) t (c)).flatMap vA),oI 53 9 A5 n5 cap5 ((wW ts p (k) t (c)).flatMap aX),bI g1 (vA p) 48] ∧ (n5 ≤ k * 3 + c) ∧ (n6 ≤ k * 3 + c) ∧ (c ≤ 3) ∧ (n = 3 - c)) ?_ ?_
   ·
    rw [← ab3 (t:=t),← Zz (t:=t)] at m;apply Exists.intro;simp only[zQ,zR,zD,zE];exact ⟨0,_,_,_,_,_,_,rfl,m,hl5,hl6,Nat.zero_le _,rfl⟩
   ·
    intro n vs wr hI u;clear m;obtain ⟨c,n5,n6,cap5,cap6,A5,A6,rfl,m,hl5,hl6,hc,hn2⟩:=hI;simp only[zu,zF,zG];refine aD fun K10 k10=>aD fun K11 k11=>wp_region_lit (aA (aB) (aA (cE rfl rfl) (aG (k11 _ _ ?_))));simp only[zz];refine bZ rfl (fun hc2=>?_) (fun hc2=>?_)
    ·
     have hc3 : c < 3:=by omega
     refine wp_skip (k10 _ _ ?_);refine aD fun K12 k12=>wp_block (aD fun K13 k13=>mq m aO (by kernel_rfl) (aL (aB) (aL (aB) (aL (aB) ?_))));simp only[zz];refine aL (aI bS aT rfl rfl (by omega) (by omega) (bV (Int.toNat_natCast _))) ?_;simp only[zz];refine aL (aH bL aF rfl rfl (by omega) (by omega) (bV (Int.toNat_natCast _))) ?_;simp only[zz];refine ql rfl (fun u m=>((jK.cor (hrow.ext m.ext) (c:=c) (by omega)).lies aJ aF)) ?_;simp only[zz];refine ql rfl (fun u m=>((m.b 2 rfl).full aJ aF)) ?_;simp only[zz];refine aL (dB rfl rfl) (dK ?_);clear m;intro u m;refine k13 _ _ ?_;simp only[zz];refine bZ rfl (fun hc3=>?_) (fun hc3=>?_)
     ·
      have hcp : t.cor c = p:=P3.eq hc3.1 hc3.2.1 hc3.2.2;refine aD fun K14 k14=>wp_region_lit (aA (aB) (aA (aB) (aA (aB) ?_)));simp only[zz];refine aA (aI bS aT rfl rfl (by omega) (by omega) (bV (Int.toNat_natCast _))) ?_;simp only[zz];refine aK rfl ((hrow.ext m.ext).lies eQ aT) ?_;simp only[zz];refine Iu rfl ?_;intro u g2 e hg hB;replace m:=m.newB e hg hB;clear e hg hB;simp only[zz];refine eI m 2 rfl rfl bS nN rfl (by decide) rfl rfl rfl (m.b 0 rfl).rowsO (tG rfl) (by omega) (by omega) ?_;clear m;intro A5 cap5 u m;simp only[zF,zG] at m;refine aA (aC) (aG (k14 _ _ ?_));refine wp_region_lit (aA (aB) (aA (aB) ?_));simp only[zz];refine aA (aB) (aA (aB) ?_);simp only[zz];refine aA (aP rfl rfl (aM (by omega) (by omega))) ?_;simp only[zz];refine aA (dG rfl rfl (by omega) (Ih (k:=c + 1))) ?_;simp only[zz];refine aA (aI bS aT rfl rfl (by omega) (by omega) (bV (Int.toNat_natCast _))) ?_;simp only[zz];refine aA (aH bL aF rfl rfl (by omega) (by omega) (bV (Int.toNat_natCast _))) ?_;simp only[zz];refine aK rfl ((jK.cor (hrow.ext m.ext) (c:=(c + 1) % 3) (by omega)).lies aJ aF) ?_;simp only[zz];refine wH rfl ?_;intro u g3 e hg hB;replace m:=m.newB e hg hB;clear e hg hB;simp only[zz];refine eI m 2 rfl rfl kS vF rfl (by decide) rfl rfl rfl (m.b 0 rfl).rowsO (tG rfl) (by omega) (by omega) ?_;clear m;intro A6 cap6 u m;simp only[zF,zG] at m;refine aA (aC) (aG (k12 _ _ ?_));refine wp_region_lit (aA (aB) ?_);simp only[zz];refine aA (aP rfl rfl (aM (by omega) (by omega))) (aA (aC) (aG ?_));simp only[zz];simp only[Exit.inBlock,Exit.then];refine ⟨3 - (c + 1),_,?_,rfl,?_,?_⟩
      · omega
      · simp only[zz,zv]
      ·
       simp only[zQ,zR,zD,zE];exact ⟨c + 1,_,_,_,_,_,_,rfl,(((m.reO 3 rfl ((m.o 3 rfl).as (by rw [Vr hcp,List.flatMap_append];rfl))).reO 2 rfl ((m.o 2 rfl).as (by rw [Qy hcp,List.flatMap_append];rfl))).sel [false,false,true,true,true]),by omega,by omega,by omega,rfl⟩
     ·
      have hcp : ¬ t.cor c = p:=fun h=>hc3 (by rw [h];exact ⟨rfl,rfl,rfl⟩);refine wp_skip (k12 _ _ ?_);refine wp_region_lit (aA (aB) ?_);simp only[zz];refine aA (aP rfl rfl (aM (by omega) (by omega))) (aA (aC) (aG ?_));simp only[zz];simp only[Exit.inBlock,Exit.then];refine ⟨3 - (c + 1),_,?_,rfl,?_,?_⟩
      · omega
      · simp only[zz,zv]
      ·
       simp only[zQ,zR,zD,zE];exact ⟨c + 1,_,_,_,_,_,_,rfl,((m.reO 1 rfl ((m.o 1 rfl).as (by rw [Zy hcp]))).reO 0 rfl ((m.o 0 rfl).as (by rw [Vs hcp]))),by omega,by omega,by omega,rfl⟩
    ·
     obtain rfl : c = 3:=by omega
     rw [ab4 ht,aaa ht] at m;refine wp_exit (k8 _ _ ?_);refine wp_region_lit (aA (aB) ?_);simp only[zz];refine aA (aP rfl rfl (aM (by omega) (by omega))) (aA (aC) (aG ?_));simp only[zz];simp only[Exit.inBlock,Exit.then];refine ⟨N - (k + 1),_,?_,rfl,?_,?_⟩
     · omega
     · simp only[zz,zv]
     ·
      simp only[zQ,zR,zD,zE];exact ⟨k + 1,_,_,_,_,_,_,rfl,m,by omega,by omega,by omega,rfl⟩
  ·
   have hkN : k = N:=by omega
   rw [hkN,show ts.take N = ts from List.take_of_length_le (by rw [hT.len];exact Nat.le_refl _)] at m;obtain ⟨M,hM⟩ : ∃ M,M = mB ts p:=⟨_,rfl⟩
   obtain ⟨S,hS⟩ : ∃ S,S = qG ts p:=⟨_,rfl⟩
   rw [← hM,← hS] at m;have h5 : M.length = n5:=(m.o 1 rfl).num adv (by decide);have h6 : S.length = n6:=(m.o 0 rfl).num Nd (by decide);have hle6:=(m.o 0 rfl).le;have hP : Es ts p = S.any (fun s=>mC M p s (M.length - 1) s):=by rw [hM,hS];rfl
   clear hM hS;refine wp_exit (k4 _ _ ?_);refine aD fun K15 k15=>aD fun K16 k16=>wp_region_lit (aA (aC) (aG (k16 _ _ ?_)));refine wp_block ?_;simp only[zz];try simp only[Nat.zero_add,Nat.reduceAdd,Nat.reduceMul,Int.reduceToNat]
   refine bH [9] [4,10,11,12,13,50,51,52,53,54,55,56,57,58,59,60,61,62,63,64,65,66,67,68,69,70,71,72,73,74,75,76,77,78,79,80,81] (fun n vs wl=>∃ (k2 : Nat),vs = [.int .i64 (k2:Int)] ∧ cA w wl [oI 48 3 A6 n6 cap6 ((S).flatMap vA),oI 53 9 A5 n5 cap5 ((M).flatMap aX),bI g1 (vA p) 48] ∧ ((S.take k2).any (fun s=>mC M p s (M.length - 1) s) = false) ∧ (k2 ≤ n6) ∧ (n = n6 - k2)) ?_ ?_
   ·
    apply Exists.intro;simp only[zQ,zR,zD,zE];exact ⟨0,rfl,m,rfl,Nat.zero_le _,rfl⟩
   ·
    intro n vs wr hI u;clear m;obtain ⟨k2,rfl,m,hno,hk2,hn3⟩:=hI;simp only[zu,zF,zG];refine aD fun K17 k17=>aD fun K18 k18=>wp_region_lit (aA (aB) (aA (aB) (aA (aW rfl kS rfl) (aA (cE rfl rfl) ?_))));simp only[zz];refine aG (k18 _ _ ?_);refine bZ rfl (fun hc4=>?_) (fun hc4=>?_)
    ·
     obtain ⟨sx,hsx⟩ : ∃ sx,S[k2]? = some sx:=⟨_,List.getElem?_eq_getElem (by omega)⟩
     obtain ⟨gO,rfl⟩:=(m.o 0 rfl).some (by omega);refine wp_skip (k17 _ _ ?_);refine aD fun K19 k19=>wp_block (aD fun K20 k20=>wp_region_lit (aA (aB) (aA (aB) ?_)));simp only[zz];refine aA (aI kS aF rfl rfl (by omega) (by omega) (bV (Int.toNat_natCast _))) ?_;simp only[zz];refine aK rfl (((m.o 0 rfl).at Nd hsx).lies aJ aF) ?_;simp only[zz];refine bF m bQ rfl ?_;clear m;intro g2 u m;simp only[zz];refine aS m 0 rfl rfl rfl aF (dZ rfl) rfl ?_;clear m;intro u m;simp only[zy,zx,bG,zF,zG,Nat.reduceAdd] at m;refine aG (k20 _ _ ?_);refine aD fun K21 k21=>wp_region_lit (aA (aC) (aG (k21 _ _ ?_)));refine wp_block ?_;simp only[zz];try simp only[Nat.zero_add,Nat.reduceAdd,Nat.reduceMul,Int.reduceToNat]
     refine bH [11] [4,12,13,60,61,62,63,64,65,66,67,68,69,70,71,72,73,74,75,76,77,78,79,80,81] (fun n vs wl=>∃ (j : Nat) (x : P3),vs = [.int .i64 (j:Int)] ∧ cA w wl [bI g2 (vA x) 48,oI 48 3 (some ⟨gO,0,none⟩) n6 cap6 (S.flatMap vA),oI 53 9 A5 n5 cap5 ((M).flatMap aX),bI g1 (vA p) 48] ∧ (mC M p sx (M.length - 1) sx = mC M p sx (M.length - j) x) ∧ (1 ≤ j) ∧ (j ≤ n5 + 1) ∧ (n = n5 + 1 - j)) ?_ ?_
     ·
      apply Exists.intro;simp only[zQ,zR,zD,zE];exact ⟨1,sx,rfl,m,rfl,Nat.le_refl _,by omega,rfl⟩
     ·
      intro n vs wr hI u;clear m;obtain ⟨j,x,rfl,m,hrg,hj,hj2,hn4⟩:=hI;simp only[zu,zF,zG];refine aD fun K22 k22=>aD fun K23 k23=>wp_region_lit (aA (aB) (aA (aB) (aA (aW rfl bS rfl) (aA (cE rfl rfl) ?_))));simp only[zz];refine aG (k23 _ _ ?_);refine bZ rfl (fun hc5=>?_) (fun hc5=>?_)
      ·
       obtain ⟨f,hf⟩ : ∃ f,M.length - j = f + 1:=⟨M.length - j - 1,by omega⟩
       rw [hf] at hrg;refine wp_skip (k22 _ _ ?_);refine aD fun K24 k24=>wp_block (aD fun K25 k25=>wp_region_lit (aA (aB) ?_));simp only[zz];refine aK rfl ((m.b 3 rfl).full aJ aF) ?_;simp only[zz];refine aK rfl ((m.b 0 rfl).full aJ aF) ?_;simp only[zz];refine eH m rfl rfl (aar (p:=p) (q:=x) _ ((m.o 2 rfl).lat adv (by decide)) (by omega)) ?_;clear m;rintro v u m rfl;refine aA (aB) (aA (bE rfl rfl) (aA (bE rfl rfl) ?_));simp only[zz];refine bF m bQ rfl ?_;clear m;intro g3 u m;simp only[zz];refine aS m 0 rfl rfl rfl aF (dZ rfl) rfl ?_;clear m;intro u m;simp only[zy,zx,bG,zF,zG,Nat.reduceAdd] at m;refine aA (aC) (aG (k25 _ _ ?_));refine aD fun K26 k26=>aD fun K27 k27=>wp_region_lit (aA (aB) (aA (fQ rfl) (aG (k27 _ _ ?_))));simp only[zz];refine lS rfl (fun hc6=>?_) (fun hc6=>?_)
       ·
        have hbn : bP M p x = none:=by cases hb : bP M p x with | none=>rfl | some y=>rw [hb] at hc6;cases hc6
        have hz : mC M p sx (M.length - 1) sx = false:=by rw [hrg,Ik hbn]
        have hno2 : (S.take (k2 + 1)).any (fun s=>mC M p s (M.length - 1) s) = false:=by rw [mD hsx,hno,hz];rfl
        refine wp_exit (k19 _ _ ?_);refine wp_region_lit (aA (aB) ?_);simp only[zz];refine aA (aP rfl rfl (aM (by omega) (by omega))) (aA (aC) (aG ?_));simp only[zz];simp only[Exit.inBlock,Exit.then];refine ⟨n6 - (k2 + 1),_,?_,rfl,?_,?_⟩
        · omega
        · simp only[zz,zv]
        ·
         simp only[zQ,zR,zD,zE];exact ⟨k2 + 1,rfl,(m.sel [false,false,true,true,true]),hno2,by omega,rfl⟩
       ·
        obtain ⟨y,hy⟩ : ∃ y,bP M p x = some y:=by cases hb : bP M p x with | none=>rw [hb] at hc6;cases hc6 | some y=>exact ⟨y,rfl⟩
        rw [hy] at m;simp only[Option.getD_some] at m;refine wp_skip (k26 _ _ ?_);refine aD fun K28 k28=>wp_region_lit (aK rfl ((m.b 0 rfl).full aJ aF) ?_);simp only[zz];refine aS m 1 rfl rfl rfl aF (dZ rfl) rfl ?_;clear m;intro u m;simp only[zy,zx,bG,zF,zG,Nat.reduceAdd] at m;refine aG (k28 _ _ ?_);refine aD fun K29 k29=>mq m aO (by kernel_rfl) (ql rfl (fun u m=>((m.b 1 rfl).full aJ aF)) ?_);simp only[zz];refine aL (aB) (aL (aB) ?_);simp only[zz];refine aL (aI kS aF rfl rfl (by omega) (by omega) (bV (Int.toNat_natCast _))) ?_;simp only[zz];refine ql rfl (fun u m=>(((m.o 2 rfl).at Nd hsx).lies aJ aF)) ?_;simp only[zz];refine aL (dB rfl rfl) (dK ?_);clear m;intro u m;refine k29 _ _ ?_;simp only[zz];refine bZ rfl (fun hc7=>?_) (fun hc7=>?_)
        ·
         have hys : y = sx:=P3.eq hc7.1 hc7.2.1 hc7.2.2;have hz : S.any (fun s=>mC M p s (M.length - 1) s) = true:=qZ hsx (by show mC M p sx (M.length - 1) sx = true;rw [hrg];exact Ng (by rw [hy,hys]));refine aD fun K30 k30=>wp_region_lit (aA (aC) (aG (k30 _ _ ?_)));refine wp_ret ?_;simp only[zz];try simp only[Exit.inBlock,Exit.then,if_true]
         refine bO rfl rfl ?_;try simp only[zD,zE]
         exact ⟨_,rfl,m.ext,by rw [hP,hz]⟩
        ·
         have hys : ¬ y = sx:=fun h=>hc7 (by rw [h];exact ⟨rfl,rfl,rfl⟩);refine wp_skip (k24 _ _ ?_);refine wp_region_lit (aA (aB) ?_);simp only[zz];refine aA (aP rfl rfl (aM (by omega) (by omega))) (aA (aC) (aG ?_));simp only[zz];simp only[Exit.inBlock,Exit.then];refine ⟨n5 + 1 - (j + 1),_,?_,rfl,?_,?_⟩
         · omega
         · simp only[zz,zv]
         ·
          simp only[zQ,zR,zD,zE];exact ⟨j + 1,y,rfl,(m.sel [false,true,true,true,true]),by rw [hrg,Il hy hys,show M.length - (j + 1) = f by omega],by omega,by omega,rfl⟩
      ·
       have hz : mC M p sx (M.length - 1) sx = false:=by rw [hrg,show M.length - j = 0 by omega];rfl
       have hno2 : (S.take (k2 + 1)).any (fun s=>mC M p s (M.length - 1) s) = false:=by rw [mD hsx,hno,hz];rfl
       refine wp_exit (k19 _ _ ?_);refine wp_region_lit (aA (aB) ?_);simp only[zz];refine aA (aP rfl rfl (aM (by omega) (by omega))) (aA (aC) (aG ?_));simp only[zz];simp only[Exit.inBlock,Exit.then];refine ⟨n6 - (k2 + 1),_,?_,rfl,?_,?_⟩
       · omega
       · simp only[zz,zv]
       ·
        simp only[zQ,zR,zD,zE];exact ⟨k2 + 1,rfl,(m.sel [false,true,true,true]),hno2,by omega,rfl⟩
    ·
     have hk2 : k2 = S.length:=by omega
     rw [hk2,List.take_length] at hno;refine wp_exit (k15 _ _ ?_);refine aD fun K31 k31=>wp_region_lit (aA (aC) (aG (k31 _ _ ?_)));refine wp_ret ?_;simp only[zz];try simp only[Exit.inBlock,Exit.then,if_true]
     refine bO rfl rfl ?_;try simp only[zD,zE]
     exact ⟨_,rfl,m.ext,by rw [hP,hno]⟩
end Go.Proofs.YtfohfflkhpfjeaaGreatDoor
namespace Go.Proofs.YtfohfflkhpfjeaaGreatDoor
open Go.Proofs.Tryz
open Go.RowKit Go.Lith
set_option maxRecDepth 100000
attribute [local irreducible] wpList wpQuiet dY dQ dO Code.wp
theorem Fe {all out : List E3} {e : E3} (h : 0 < kJ all (e.2,e.1) ∨ 0 < kJ out e) : nM all out e = out:=if_pos h
theorem Ix {all out : List E3} {e : E3} {k : Nat} (h1 : ¬ 0 < kJ all (e.2,e.1)) (h2 : ¬ 0 < kJ out e) (h : Vo out e = k) : nM all out e = out.take k ++ [e] ++ out.drop k:=by
 rw [nM,if_neg (fun h=>h.elim h1 h2),Qw,h]
theorem aef {w : World} {a : Addr} {e : E3} (h : jK w a (bU e)) : jK w a [.int .i64 e.1.x,.int .i64 e.1.y,.int .i64 e.1.z,.int .i64 e.2.x,.int .i64 e.2.y,.int .i64 e.2.z]:=h
theorem gt0 {n : Nat} : ((0 : Int) < (n : Int)) ↔ 0 < n:=by omega
theorem Ff {ts : List T3} {N cap : Nat} {A : Option Addr} (w : World) (hT : eO w A N ts) (hN : N ≤ 100000000) : eK prog 18 [.slice A N cap] w (SL 57 6 ((aQ ts).flatMap bU) (aQ ts).length w):=by
 refine ⟨afk,?_⟩;have m:=cA.refl w
 go_enter func18,ntmps18
 refine aD fun K1 k1=>wp_region_lit (aA (aC) (aG (k1 _ _ ?_)));refine aD fun K2 k2=>wp_region_lit (aA (aB) ?_);simp only[zz];refine bA rfl rfl (Te _ (hT.ext m.ext) (by omega)) ?_;rintro v u e ⟨A3,cap3,n3,hn3,rfl,hN⟩;replace m:=m.newO e hN;clear e hN;have he3:=kW ts;have htl:=hT.len;refine aA (aC) (aG (k2 _ _ ?_));refine aD fun K3 k3=>wp_region_lit (aA (aC) ?_);replace m:=m.nilO 57 6;refine aG (k3 _ _ ?_);refine aD fun K4 k4=>aD fun K5 k5=>wp_region_lit (aA (aC) ?_);simp only[zz];refine aG (k5 _ _ ?_);refine wp_block ?_;try simp only[Nat.zero_add,Nat.reduceAdd,Nat.reduceMul,Int.reduceToNat]
 refine bH [4,5] [6,7,8,9,12,13,14,15,16,17,18,19,20,21,22,23,24,25,26,27,28,29,30,31,32,33,34,35,36,37,38,39,40,41,42,43,44,45,46,47,48,49,50,51,52,53,54,55,56,57,58,59,60,61,62,63] (fun n vs wl=>∃ (k n4 cap4 : Nat) (A4 : Option Addr),vs = [.slice A4 n4 cap4,.int .i64 (k:Int)] ∧ cA w wl [oI 57 6 A4 n4 cap4 ((((aV ts).take k).foldl (nM (aV ts)) []).flatMap bU),oI 57 6 A3 n3 cap3 ((aV ts).flatMap bU)] ∧ (n4 ≤ k) ∧ (k ≤ n3) ∧ (n = n3 - k)) ?_ ?_
 ·
  apply Exists.intro;simp only[zQ,zR,zD,zE];exact ⟨0,_,_,_,rfl,m,Nat.le_refl _,Nat.zero_le _,rfl⟩
 ·
  intro n vs wr hI u;clear m;obtain ⟨k,n4,cap4,A4,rfl,m,hl4,hk,hn⟩:=hI;simp only[zu,zF,zG];refine aD fun K6 k6=>aD fun K7 k7=>wp_region_lit (aA (aB) (aA (aB) (aA (aW rfl fI rfl) (aA (cE rfl rfl) ?_))));simp only[zz];refine aG (k7 _ _ ?_);refine bZ rfl (fun hc1=>?_) (fun hc1=>?_)
  ·
   obtain ⟨e,he⟩ : ∃ e,(aV ts)[k]? = some e:=⟨_,List.getElem?_eq_getElem (by omega)⟩
   obtain ⟨gO,rfl⟩:=(m.o 1 rfl).some (by omega);refine wp_skip (k6 _ _ ?_);refine aD fun K8 k8=>wp_block (aD fun K9 k9=>wp_region_lit (aA (aB) (aA (aB) ?_)));simp only[zz];refine aA (aI fI cF rfl rfl (by omega) (by omega) (bV (Int.toNat_natCast _))) ?_;simp only[zz];refine aK rfl ((aef ((m.o 1 rfl).at qT he)).lies kK cF) ?_;simp only[zz];refine bF m tO rfl ?_;clear m;intro g1 u m;simp only[zz];refine aS m 0 rfl rfl rfl cF (dZ rfl) rfl ?_;clear m;intro u m;simp only[zy,zx,bG,zF,zG,Nat.reduceAdd] at m;refine aG (k9 _ _ ?_);refine aD fun K10 k10=>aD fun K11 k11=>?_;obtain ⟨B,hB⟩ : ∃ B,B = ((aV ts).take k).foldl (nM (aV ts)) []:=⟨_,rfl⟩
   rw [← hB] at m;have h4 : B.length = n4:=(m.o 1 rfl).num qT (by decide);have hle4:=(m.o 1 rfl).le;have hs:=Vp (all:=aV ts) he;rw [← hB] at hs;rcases Nat.eq_zero_or_pos (kJ (aV ts) (e.2,e.1)) with hz | hz
   ·
    refine wp_region_lit (aA (aB) (aA (aH jQ aF rfl rfl (by decide) (by decide) rfl) ?_));simp only[zz];refine aK rfl ((m.b 0 rfl).lies aJ aF rfl rfl) ?_;simp only[zz,zy,Nat.zero_add,Nat.reduceAdd,Nat.reduceMul,Int.reduceToNat];refine aA (aH jQ aF rfl rfl (by decide) (by decide) rfl) ?_;simp only[zz];refine aK rfl ((m.b 0 rfl).lies aJ aF rfl rfl) ?_;simp only[zz,zy,Nat.zero_add,Nat.reduceAdd,Nat.reduceMul,Int.reduceToNat];refine aA (cP rfl rfl) ?_;simp only[zz];refine eH m rfl rfl (Df (es:=aV ts) (e:=(e.2,e.1)) _ ((m.o 2 rfl).lat qT (by decide)) (by omega)) ?_;clear m;rintro v u m rfl;simp only[zz];refine aA (uN rfl rfl (by omega)) (aA (aB) (bN rfl (aA (aB) (bN rfl ?_))));simp only[zz];refine aK rfl ((m.b 0 rfl).full kK cF) ?_;simp only[zz];refine bN rfl (eH m rfl rfl (Df (es:=B) (e:=e) _ ((m.o 1 rfl).lat qT (by decide)) (by omega)) ?_);clear m;rintro v u m rfl;refine bN rfl (aA (oU rfl rfl) (aA (fL rfl) (aG (k11 _ _ ?_))));simp only[zz];refine bZ rfl (fun hc2=>?_) (fun hc2=>?_)
    ·
     rw [Fe (.inr (gt0.1 hc2))] at hs;refine wp_exit (k8 _ _ ?_);refine wp_region_lit (aA (aB) ?_);simp only[zz];refine aA (aP rfl rfl (aM (by omega) (by omega))) (aA (aC) (aG ?_));simp only[zz];simp only[Exit.inBlock,Exit.then];refine ⟨n3 - (k + 1),_,?_,rfl,?_,?_⟩
     · omega
     · simp only[zz,zv]
     ·
      simp only[zQ,zR,zD,zE];exact ⟨k + 1,_,_,_,rfl,((m.reO 1 rfl ((m.o 1 rfl).as (by rw [hs]))).sel [false,true,true]),by omega,by omega,rfl⟩
    ·
     have hz2 : ¬ 0 < kJ B e:=fun h=>hc2 (gt0.2 h);refine wp_skip (k10 _ _ ?_);refine aD fun K12 k12=>wp_region_lit (aA (aC) (aG (k12 _ _ ?_)));refine aD fun K13 k13=>wp_block ?_;simp only[zz];try simp only[Nat.zero_add,Nat.reduceAdd,Nat.reduceMul,Int.reduceToNat]
     refine bH [7] [8,36,37,38,39,40,41,42,43,44,45,46,47,48,49] (fun n vs wl=>∃ (j : Nat),vs = [.int .i64 (j:Int)] ∧ cA w wl [bI g1 (bU e) 57,oI 57 6 A4 n4 cap4 ((B).flatMap bU),oI 57 6 (some ⟨gO,0,none⟩) n3 cap3 ((aV ts).flatMap bU)] ∧ (Pre (fun x=>Tc x e) B j) ∧ (j ≤ n4) ∧ (n = n4 - j)) ?_ ?_
     ·
      apply Exists.intro;simp only[zQ,zR,zD,zE];exact ⟨0,rfl,m,Pre.zero,Nat.zero_le _,rfl⟩
     ·
      intro n vs wr hI u;clear m;obtain ⟨j,rfl,m,hpre,hj,hn2⟩:=hI;simp only[zu,zF,zG];refine aD fun K14 k14=>aD fun K15 k15=>wp_region_lit (aA (aB) (aA (aB) (aA (aW rfl fI rfl) (aA (cE rfl rfl) ?_))));simp only[zz];refine aG (k15 _ _ ?_);refine bZ rfl (fun hc3=>?_) (fun hc3=>?_)
      ·
       obtain ⟨x,hx⟩ : ∃ x,B[j]? = some x:=⟨_,List.getElem?_eq_getElem (by omega)⟩
       obtain ⟨gP,rfl⟩:=(m.o 1 rfl).some (by omega);refine wp_skip (k14 _ _ ?_);refine wp_block (aD fun K16 k16=>mq m aO (by kernel_rfl) (aL (aB) (aL (aB) ?_)));simp only[zz];refine aL (aI fI cF rfl rfl (by omega) (by omega) (bV (Int.toNat_natCast _))) ?_;simp only[zz];refine ql rfl (fun u m=>(((m.o 1 rfl).at qT hx).lies kK cF)) ?_;simp only[zz];refine ql rfl (fun u m=>((m.b 0 rfl).full kK cF)) ?_;simp only[zz];refine tJ rfl rfl (aaq (a:=x) (b:=e)) (aL (aC) (dK ?_));clear m;intro u m;refine k16 _ _ ?_;refine aD fun K17 k17=>aD fun K18 k18=>wp_region_lit (aA (aB) (aA (fQ rfl) ?_));simp only[zz];refine aG (k18 _ _ ?_);refine lS rfl (fun hc4=>?_) (fun hc4=>?_)
       ·
        have hpos : Vo B e = j:=ac5 hpre hx (by simpa using hc4);rw [Ix (by omega) hz2 hpos] at hs;refine wp_exit (k13 _ _ ?_);refine aD fun K19 k19=>wp_region_lit (aA (aC) ?_);replace m:=m.nilO 57 6;refine aG (k19 _ _ ?_);refine aD fun K20 k20=>wp_region_lit (aA (aB) (aA (aB) (aA (aB) ?_)));simp only[zz];refine aA (kV fI cF rfl rfl (Int.toNat_natCast _) (by omega) (by omega)) ?_;simp only[zz];refine eI m 0 rfl rfl fI vG rfl (by decide) rfl rfl (by rw [jN qT,List.length_take,Nat.min_eq_left (show j ≤ B.length by omega)]) ((((m.o 2 rfl).lat qT (by decide)).take (k:=j) (by omega)).cells qT (by decide)) (Kq _) (by omega) (by omega) ?_;clear m;intro A9 cap9 u m;simp only[zF,zG] at m;rw [List.nil_append,Nat.zero_add] at m;rw [Nat.zero_add];refine aA (aC) (aG (k20 _ _ ?_));refine aD fun K21 k21=>wp_region_lit (aA (aB) ?_);simp only[zz];refine aK rfl ((m.b 1 rfl).full kK cF) ?_;simp only[zz];refine Az rfl ?_;intro u g2 e hg hB;replace m:=m.newB e hg hB;clear e hg hB;simp only[zz];refine eI m 1 rfl rfl fI vG rfl (by decide) rfl rfl rfl (m.b 0 rfl).rowsO (tG rfl) (by omega) (by omega) ?_;clear m;intro A9 cap9 u m;simp only[zF,zG] at m;refine aA (aC) (aG (k21 _ _ ?_));refine wp_region_lit (aA (aB) (aA (aB) ?_));simp only[zz];refine aA (aB) ?_;simp only[zz];refine aA (jY fI cF rfl rfl (Int.toNat_natCast _) (by omega) (by omega) rfl) ?_;simp only[zz];refine eI m 1 rfl rfl fI vG rfl (by decide) rfl rfl (by rw [jN qT,List.length_drop,h4]) (((m.o 3 rfl).lat qT (by decide)).cellsD qT (by decide) (by omega)) (Kq _) (by omega) (by omega) ?_;clear m;intro A9 cap9 u m;simp only[zF,zG] at m;refine aA (aC) ?_;simp only[zz];replace m:=(m.pull 1 rfl).mv 2 rfl;simp only[xL,xM,zF,zG] at m;refine aG (k8 _ _ ?_);refine wp_region_lit (aA (aB) ?_);simp only[zz];refine aA (aP rfl rfl (aM (by omega) (by omega))) (aA (aC) (aG ?_));simp only[zz];simp only[Exit.inBlock,Exit.then];refine ⟨n3 - (k + 1),_,?_,rfl,?_,?_⟩
        · omega
        · simp only[zz,zv]
        ·
         simp only[zQ,zR,zD,zE];exact ⟨k + 1,_,_,_,rfl,((m.reO 2 rfl ((m.o 2 rfl).as (by rw [hs,List.flatMap_append,List.flatMap_append];rfl))).sel [false,false,true,true]),by omega,by omega,rfl⟩
       ·
        have hpre2:=hpre.step hx (by simpa using hc4);refine wp_skip (k17 _ _ ?_);refine wp_region_lit (aA (aB) ?_);simp only[zz];refine aA (aP rfl rfl (aM (by omega) (by omega))) (aA (aC) (aG ?_));simp only[zz];simp only[Exit.inBlock,Exit.then];refine ⟨n4 - (j + 1),_,?_,rfl,?_,?_⟩
        · omega
        · simp only[zz,zv]
        ·
         simp only[zQ,zR,zD,zE];exact ⟨j + 1,rfl,m,hpre2,by omega,rfl⟩
      ·
       have hjl : j = B.length:=by omega
       have hpos : Vo B e = j:=by rw [hjl] at hpre ⊢;exact Zx hpre
       rw [Ix (by omega) hz2 hpos] at hs;refine wp_exit (k13 _ _ ?_);refine aD fun K22 k22=>wp_region_lit (aA (aC) ?_);replace m:=m.nilO 57 6;refine aG (k22 _ _ ?_);refine aD fun K23 k23=>wp_region_lit (aA (aB) (aA (aB) (aA (aB) ?_)));simp only[zz];refine aA (kV fI cF rfl rfl (Int.toNat_natCast _) (by omega) (by omega)) ?_;simp only[zz];refine eI m 0 rfl rfl fI vG rfl (by decide) rfl rfl (by rw [jN qT,List.length_take,Nat.min_eq_left (show j ≤ B.length by omega)]) ((((m.o 2 rfl).lat qT (by decide)).take (k:=j) (by omega)).cells qT (by decide)) (Kq _) (by omega) (by omega) ?_;clear m;intro A9 cap9 u m;simp only[zF,zG] at m;rw [List.nil_append,Nat.zero_add] at m;rw [Nat.zero_add];refine aA (aC) (aG (k23 _ _ ?_));refine aD fun K24 k24=>wp_region_lit (aA (aB) ?_);simp only[zz];refine aK rfl ((m.b 1 rfl).full kK cF) ?_;simp only[zz];refine Az rfl ?_;intro u g2 e hg hB;replace m:=m.newB e hg hB;clear e hg hB;simp only[zz];refine eI m 1 rfl rfl fI vG rfl (by decide) rfl rfl rfl (m.b 0 rfl).rowsO (tG rfl) (by omega) (by omega) ?_;clear m;intro A9 cap9 u m;simp only[zF,zG] at m;refine aA (aC) (aG (k24 _ _ ?_));refine wp_region_lit (aA (aB) (aA (aB) ?_));simp only[zz];refine aA (aB) ?_;simp only[zz];refine aA (jY fI cF rfl rfl (Int.toNat_natCast _) (by omega) (by omega) rfl) ?_;simp only[zz];refine eI m 1 rfl rfl fI vG rfl (by decide) rfl rfl (by rw [jN qT,List.length_drop,h4]) (((m.o 3 rfl).lat qT (by decide)).cellsD qT (by decide) (by omega)) (Kq _) (by omega) (by omega) ?_;clear m;intro A9 cap9 u m;simp only[zF,zG] at m;refine aA (aC) ?_;simp only[zz];replace m:=(m.pull 1 rfl).mv 2 rfl;simp only[xL,xM,zF,zG] at m;refine aG (k8 _ _ ?_);refine wp_region_lit (aA (aB) ?_);simp only[zz];refine aA (aP rfl rfl (aM (by omega) (by omega))) (aA (aC) (aG ?_));simp only[zz];simp only[Exit.inBlock,Exit.then];refine ⟨n3 - (k + 1),_,?_,rfl,?_,?_⟩
       · omega
       · simp only[zz,zv]
       ·
        simp only[zQ,zR,zD,zE];exact ⟨k + 1,_,_,_,rfl,((m.reO 2 rfl ((m.o 2 rfl).as (by rw [hs,List.flatMap_append,List.flatMap_append];rfl))).sel [false,false,true,true]),by omega,by omega,rfl⟩
   ·
    rw [Fe (.inl hz)] at hs;refine wp_region_lit (aA (aB) (aA (aH jQ aF rfl rfl (by decide) (by decide) rfl) ?_));simp only[zz];refine aK rfl ((m.b 0 rfl).lies aJ aF rfl rfl) ?_;simp only[zz,zy,Nat.zero_add,Nat.reduceAdd,Nat.reduceMul,Int.reduceToNat];refine aA (aH jQ aF rfl rfl (by decide) (by decide) rfl) ?_;simp only[zz];refine aK rfl ((m.b 0 rfl).lies aJ aF rfl rfl) ?_;simp only[zz,zy,Nat.zero_add,Nat.reduceAdd,Nat.reduceMul,Int.reduceToNat];refine aA (cP rfl rfl) ?_;simp only[zz];refine eH m rfl rfl (Df (es:=aV ts) (e:=(e.2,e.1)) _ ((m.o 2 rfl).lat qT (by decide)) (by omega)) ?_;clear m;rintro v u m rfl;simp only[zz];refine aA (xD rfl rfl (by omega)) (aA (aB) (fV rfl (fV rfl ?_)));simp only[zz];refine fV rfl (fV rfl (aA (fA rfl) (aG (k11 _ _ ?_))));refine cG rfl (wp_exit (k8 _ _ ?_));refine wp_region_lit (aA (aB) ?_);simp only[zz];refine aA (aP rfl rfl (aM (by omega) (by omega))) (aA (aC) (aG ?_));simp only[zz];simp only[Exit.inBlock,Exit.then];refine ⟨n3 - (k + 1),_,?_,rfl,?_,?_⟩
    · omega
    · simp only[zz,zv]
    ·
     simp only[zQ,zR,zD,zE];exact ⟨k + 1,_,_,_,rfl,((m.reO 1 rfl ((m.o 1 rfl).as (by rw [hs]))).sel [false,true,true]),by omega,by omega,rfl⟩
  ·
   have hkN : k = (aV ts).length:=by omega
   rw [hkN,List.take_length] at m;refine wp_exit (k4 _ _ ?_);refine aD fun K25 k25=>wp_region_lit (aA (aB) (aA (aC) (aG (k25 _ _ ?_))));refine wp_ret ?_;simp only[zz];try simp only[Exit.inBlock,Exit.then,if_true]
   refine bO rfl rfl ?_;try simp only[zD,zE]
   exact ⟨_,rfl,m.ext,⟨_,_,_,((m.o 0 rfl).num qT (by decide)).symm,rfl,(m.o 0 rfl)⟩⟩
theorem Tf {op : Bool} {ts : List T3} (h : ts.any mM = true) : dH op ts = 20:=by simp [dH,h]
theorem Tg {op : Bool} {ts : List T3} (h : ts.any mM = false) (h2 : (aV ts).any (fun e=>decide (1 < kJ (aV ts) e)) = true) : dH op ts = 21:=by rw [dH,h,h2];rfl
theorem Th {op : Bool} {ts : List T3} (h : ts.any mM = false) (h2 : (aV ts).any (fun e=>decide (1 < kJ (aV ts) e)) = false) (h3 : (!op && decide (0 < (aQ ts).length)) = false) (h4 : (fB ts).any (Es ts) = true) : dH op ts = 23:=by rw [dH,h,h2,h3,h4];rfl
theorem aas {op : Bool} {ts : List T3} (h : ts.any mM = false) (h2 : (aV ts).any (fun e=>decide (1 < kJ (aV ts) e)) = false) (h3 : (!op && decide (0 < (aQ ts).length)) = false) (h4 : (fB ts).any (Es ts) = false) : dH op ts = 0:=by rw [dH,h,h2,h3,h4];rfl
theorem gt1 {n : Nat} : ((1 : Int) < (n : Int)) ↔ 1 < n:=by omega
theorem acd {ts : List T3} {N cap : Nat} {A : Option Addr} (w : World) (hT : eO w A N ts) (hN : N ≤ 100000000) : eK prog 30 [.slice A N cap,.bool true] w (fun v _=>v = .int .i64 (dH true ts)):=by
 refine ⟨aft,?_⟩;have m:=cA.refl w;have htl:=hT.len;have he3:=kW ts;have hcl:=Ca ts
 go_enter func30,ntmps30
 refine aD fun K1 k1=>wp_region_lit (aA (aC) (aG (k1 _ _ ?_)));refine aD fun K2 k2=>aD fun K3 k3=>wp_region_lit (aA (aC) (aG (k3 _ _ ?_)));refine wp_block ?_;simp only[zz];try simp only[Nat.zero_add,Nat.reduceAdd,Nat.reduceMul,Int.reduceToNat]
 refine bH [5] [4,11,12,13,14,15,16,17,18,19,20,21,22,23,24,25,26,27,28,29,30,31,32,33,34,35,36,37,38,39,40,41,42,43,44,45,46,47,48,49,50,51,52,53] (fun n vs wl=>∃ (k : Nat),vs = [.int .i64 (k:Int)] ∧ cA w wl [] ∧ ((ts.take k).any mM = false) ∧ (k ≤ N) ∧ (n = N - k)) ?_ ?_
 ·
  apply Exists.intro;simp only[zQ,zR,zD,zE];exact ⟨0,rfl,m,rfl,Nat.zero_le _,rfl⟩
 ·
  intro n vs wr hI u;clear m;obtain ⟨k,rfl,m,hd0,hk,hn⟩:=hI;simp only[zu,zF,zG];refine aD fun K4 k4=>aD fun K5 k5=>wp_region_lit (aA (aB) (aA (aB) (aA (aW rfl bS rfl) (aA (cE rfl rfl) ?_))));simp only[zz];refine aG (k5 _ _ ?_);refine bZ rfl (fun hc1=>?_) (fun hc1=>?_)
  ·
   obtain ⟨t,ht,_,a,rfl,hrow⟩:=hT.get (i:=k) (by omega);refine wp_skip (k4 _ _ ?_);refine aD fun K6 k6=>wp_block (aD fun K7 k7=>mq m aO (by kernel_rfl) (aL (aB) (aL (aB) ?_)));simp only[zz];refine aL (aI bS aT rfl rfl (by omega) (by omega) (bV (Int.toNat_natCast _))) (aL (aH bL aF rfl rfl (by decide) (by decide) rfl) ?_);simp only[zz];refine ql rfl (fun u m=>((jK.cor ((hrow.ext m.ext)) (c:=0) (by decide)).lies aJ aF)) ?_;simp only[zz];refine aL (aB) (aL (aB) ?_);simp only[zz];refine aL (aI bS aT rfl rfl (by omega) (by omega) (bV (Int.toNat_natCast _))) (aL (aH bL aF rfl rfl (by decide) (by decide) rfl) ?_);simp only[zz];refine ql rfl (fun u m=>((jK.cor ((hrow.ext m.ext)) (c:=1) (by decide)).lies aJ aF)) ?_;simp only[zz];refine aL (dB rfl rfl) (aL (aB) (dV rfl (fun hb=>aB) (dV rfl (fun hb=>aB) ?_)));simp only[zz];refine dV rfl (fun hb=>aI bS aT (bK hb rfl) (bK hb rfl) (by omega) (by omega) (bV (Int.toNat_natCast _))) (dV rfl (fun hb=>aH bL aF (bK hb rfl) rfl (by decide) (by decide) rfl) ?_);simp only[zz];refine iC rfl (fun hb u m=>cC (bK hb rfl) ((jK.cor ((hrow.ext m.ext)) (c:=1) (by decide)).lies aJ aF)) (dV rfl (fun hb=>aB) (dV rfl (fun hb=>aB) ?_));simp only[zz];refine dV rfl (fun hb=>aI bS aT (bK hb rfl) (bK hb rfl) (by omega) (by omega) (bV (Int.toNat_natCast _))) (dV rfl (fun hb=>aH bL aF (bK hb rfl) rfl (by decide) (by decide) rfl) ?_);simp only[zz];refine iC rfl (fun hb u m=>cC (bK hb rfl) ((jK.cor ((hrow.ext m.ext)) (c:=2) (by decide)).lies aJ aF)) (dV rfl (fun hb=>dB (bK hb rfl) (bK hb rfl)) (aL (fT rfl rfl rfl) (aL (aB) (dV rfl (fun hb=>aB) ?_))));simp only[zz];refine dV rfl (fun hb=>aB) ?_;simp only[zz];refine dV rfl (fun hb=>aI bS aT (bK hb rfl) (bK hb rfl) (by omega) (by omega) (bV (Int.toNat_natCast _))) (dV rfl (fun hb=>aH bL aF (bK hb rfl) rfl (by decide) (by decide) rfl) ?_);simp only[zz];refine iC rfl (fun hb u m=>cC (bK hb rfl) ((jK.cor ((hrow.ext m.ext)) (c:=2) (by decide)).lies aJ aF)) (dV rfl (fun hb=>aB) (dV rfl (fun hb=>aB) ?_));simp only[zz];refine dV rfl (fun hb=>aI bS aT (bK hb rfl) (bK hb rfl) (by omega) (by omega) (bV (Int.toNat_natCast _))) (dV rfl (fun hb=>aH bL aF (bK hb rfl) rfl (by decide) (by decide) rfl) ?_);simp only[zz];refine iC rfl (fun hb u m=>cC (bK hb rfl) ((jK.cor ((hrow.ext m.ext)) (c:=0) (by decide)).lies aJ aF)) (dV rfl (fun hb=>dB (bK hb rfl) (bK hb rfl)) (aL (fT rfl rfl rfl) (dK ?_)));clear m;intro u m;refine k7 _ _ ?_;simp only[zz];refine lS rfl (fun hc2=>?_) (fun hc2=>?_)
   ·
    have hd:=qZ (p:=mM) ht (Ks.symm.trans hc2);refine aD fun K8 k8=>wp_region_lit (aA (aC) (aG (k8 _ _ ?_)));refine wp_ret ?_;simp only[zz];try simp only[Exit.inBlock,Exit.then,if_true]
    refine bO rfl rfl ?_;try simp only[zD,zE]
    exact ⟨_,rfl,m.ext,by rw [Tf hd]⟩
   ·
    have hd1 : (ts.take (k + 1)).any mM = false:=by rw [mD ht,hd0,← Ks];exact hc2
    refine wp_skip (k6 _ _ ?_);refine wp_region_lit (aA (aB) ?_);simp only[zz];refine aA (aP rfl rfl (aM (by omega) (by omega))) (aA (aC) (aG ?_));simp only[zz];simp only[Exit.inBlock,Exit.then];refine ⟨N - (k + 1),_,?_,rfl,?_,?_⟩
    · omega
    · simp only[zz,zv]
    ·
     simp only[zQ,zR,zD,zE];exact ⟨k + 1,rfl,m,hd1,by omega,rfl⟩
  ·
   have hkN : k = N:=by omega
   rw [hkN,show ts.take N = ts from List.take_of_length_le (by omega)] at hd0;refine wp_exit (k2 _ _ ?_);refine aD fun K9 k9=>wp_region_lit (aA (aB) ?_);simp only[zz];refine bA rfl rfl (Te _ (hT.ext m.ext) (by omega)) ?_;rintro v u e ⟨A3,cap3,n3,hn3,rfl,hN⟩;replace m:=m.newO e hN;clear e hN;have hle3:=(m.o 0 rfl).le;refine aA (aC) (aG (k9 _ _ ?_));refine aD fun K10 k10=>aD fun K11 k11=>wp_region_lit (aA (aC) (aG (k11 _ _ ?_)));refine wp_block ?_;simp only[zz];try simp only[Nat.zero_add,Nat.reduceAdd,Nat.reduceMul,Int.reduceToNat]
   refine bH [7] [4,56,57,58,59,60,61,62,63,64,65,66,67,68] (fun n vs wl=>∃ (k : Nat),vs = [.int .i64 (k:Int)] ∧ cA w wl [oI 57 6 A3 n3 cap3 ((aV ts).flatMap bU)] ∧ (((aV ts).take k).any (fun e=>decide (1 < kJ (aV ts) e)) = false) ∧ (k ≤ n3) ∧ (n = n3 - k)) ?_ ?_
   ·
    apply Exists.intro;simp only[zQ,zR,zD,zE];exact ⟨0,rfl,m,rfl,Nat.zero_le _,rfl⟩
   ·
    intro n vs wr hI u;clear m;obtain ⟨k,rfl,m,hc0,hk,hn⟩:=hI;simp only[zu,zF,zG];refine aD fun K12 k12=>aD fun K13 k13=>wp_region_lit (aA (aB) (aA (aB) (aA (aW rfl fI rfl) (aA (cE rfl rfl) ?_))));simp only[zz];refine aG (k13 _ _ ?_);refine bZ rfl (fun hc3=>?_) (fun hc3=>?_)
    ·
     obtain ⟨e,he⟩ : ∃ e,(aV ts)[k]? = some e:=⟨_,List.getElem?_eq_getElem (by omega)⟩
     obtain ⟨gO,rfl⟩:=(m.o 0 rfl).some (by omega);refine wp_skip (k12 _ _ ?_);refine aD fun K14 k14=>wp_block (aD fun K15 k15=>wp_region_lit (aA (aB) (aA (aB) (aA (aB) ?_))));simp only[zz];refine aA (aI fI cF rfl rfl (by omega) (by omega) (bV (Int.toNat_natCast _))) ?_;simp only[zz];refine aK rfl (((m.o 0 rfl).at qT he).lies kK cF) ?_;simp only[zz];refine eH m rfl rfl (Df (es:=aV ts) (e:=e) _ ((m.o 0 rfl).lat qT (by decide)) (by omega)) ?_;clear m;rintro v u m rfl;refine aA (oU rfl rfl) (aG (k15 _ _ ?_));simp only[zz];refine bZ rfl (fun hc4=>?_) (fun hc4=>?_)
     ·
      have hc:=qZ (p:=(fun e=>decide (1 < kJ (aV ts) e))) he (decide_eq_true (gt1.1 hc4));refine aD fun K16 k16=>wp_region_lit (aA (aC) (aG (k16 _ _ ?_)));refine wp_ret ?_;simp only[zz];try simp only[Exit.inBlock,Exit.then,if_true]
      refine bO rfl rfl ?_;try simp only[zD,zE]
      exact ⟨_,rfl,m.ext,by rw [Tg hd0 hc]⟩
     ·
      have hc01 : ((aV ts).take (k + 1)).any (fun e=>decide (1 < kJ (aV ts) e)) = false:=by rw [mD he,hc0,decide_eq_false (fun h=>hc4 (gt1.2 h))];rfl
      refine wp_skip (k14 _ _ ?_);refine wp_region_lit (aA (aB) ?_);simp only[zz];refine aA (aP rfl rfl (aM (by omega) (by omega))) (aA (aC) (aG ?_));simp only[zz];simp only[Exit.inBlock,Exit.then];refine ⟨n3 - (k + 1),_,?_,rfl,?_,?_⟩
      · omega
      · simp only[zz,zv]
      ·
       simp only[zQ,zR,zD,zE];exact ⟨k + 1,rfl,m,hc01,by omega,rfl⟩
    ·
     have hkN : k = (aV ts).length:=by omega
     rw [hkN,List.take_length] at hc0;refine wp_exit (k10 _ _ ?_);refine aD fun K17 k17=>aD fun K18 k18=>wp_region_lit (aA (aB) (aA (fQ rfl) (aA (aB) (cD rfl ?_))));simp only[zz];refine cD rfl (cD rfl (cD rfl (aA (fL rfl) ?_)));simp only[zz];refine aG (k18 _ _ ?_);refine iO rfl (wp_skip (k17 _ _ ?_));refine aD fun K19 k19=>wp_region_lit (aA (aB) ?_);simp only[zz];refine bA rfl rfl (Wi _ (hT.ext m.ext) hN) ?_;rintro v u e ⟨A8,cap8,n8,hn8,rfl,hN⟩;replace m:=m.newO e hN;clear e hN;have hle8:=(m.o 0 rfl).le;refine aA (aC) (aG (k19 _ _ ?_));refine aD fun K20 k20=>aD fun K21 k21=>wp_region_lit (aA (aC) (aG (k21 _ _ ?_)));refine wp_block ?_;simp only[zz];try simp only[Nat.zero_add,Nat.reduceAdd,Nat.reduceMul,Int.reduceToNat]
     refine bH [9] [4,10,79,80,81,82,83,84,85,86,87,88,89,90,91] (fun n vs wl=>∃ (k : Nat),vs = [.int .i64 (k:Int)] ∧ cA w wl [oI 48 3 A8 n8 cap8 ((fB ts).flatMap vA)] ∧ (((fB ts).take k).any (Es ts) = false) ∧ (k ≤ n8) ∧ (n = n8 - k)) ?_ ?_
     ·
      apply Exists.intro;simp only[zQ,zR,zD,zE];exact ⟨0,rfl,(m.sel [true,false]),rfl,Nat.zero_le _,rfl⟩
     ·
      intro n vs wr hI u;clear m;obtain ⟨k,rfl,m,hp0,hk,hn⟩:=hI;simp only[zu,zF,zG];refine aD fun K22 k22=>aD fun K23 k23=>wp_region_lit (aA (aB) (aA (aB) (aA (aW rfl kS rfl) (aA (cE rfl rfl) ?_))));simp only[zz];refine aG (k23 _ _ ?_);refine bZ rfl (fun hc6=>?_) (fun hc6=>?_)
      ·
       obtain ⟨x,hx⟩ : ∃ x,(fB ts)[k]? = some x:=⟨_,List.getElem?_eq_getElem (by omega)⟩
       obtain ⟨gO,rfl⟩:=(m.o 0 rfl).some (by omega);refine wp_skip (k22 _ _ ?_);refine aD fun K24 k24=>wp_block (aD fun K25 k25=>wp_region_lit (aA (aB) (aA (aB) (aA (aB) ?_))));simp only[zz];refine aA (aI kS aF rfl rfl (by omega) (by omega) (bV (Int.toNat_natCast _))) ?_;simp only[zz];refine aK rfl (((m.o 0 rfl).at Nd hx).lies aJ aF) ?_;simp only[zz];refine eH m rfl rfl (Wj (p:=x) _ (hT.ext m.ext) (by omega)) ?_;clear m;rintro v u m rfl;refine aA (aC) (aG (k25 _ _ ?_));refine aD fun K26 k26=>wp_region_lit (aA (aB) (aG (k26 _ _ ?_)));simp only[zz];refine lS rfl (fun hc7=>?_) (fun hc7=>?_)
       ·
        have hp:=qZ (p:=Es ts) hx hc7;refine aD fun K27 k27=>wp_region_lit (aA (aC) (aG (k27 _ _ ?_)));refine wp_ret ?_;simp only[zz];try simp only[Exit.inBlock,Exit.then,if_true]
        refine bO rfl rfl ?_;try simp only[zD,zE]
        exact ⟨_,rfl,m.ext,by rw [Th hd0 hc0 rfl hp]⟩
       ·
        have hp1 : ((fB ts).take (k + 1)).any (Es ts) = false:=by rw [mD hx,hp0,hc7];rfl
        refine wp_skip (k24 _ _ ?_);refine wp_region_lit (aA (aB) ?_);simp only[zz];refine aA (aP rfl rfl (aM (by omega) (by omega))) (aA (aC) (aG ?_));simp only[zz];simp only[Exit.inBlock,Exit.then];refine ⟨n8 - (k + 1),_,?_,rfl,?_,?_⟩
        · omega
        · simp only[zz,zv]
        ·
         simp only[zQ,zR,zD,zE];exact ⟨k + 1,rfl,m,hp1,by omega,rfl⟩
      ·
       have hkN : k = (fB ts).length:=by omega
       rw [hkN,List.take_length] at hp0;refine wp_exit (k20 _ _ ?_);refine aD fun K28 k28=>wp_region_lit (aA (aC) (aG (k28 _ _ ?_)));refine wp_ret ?_;simp only[zz];try simp only[Exit.inBlock,Exit.then,if_true]
       refine bO rfl rfl ?_;try simp only[zD,zE]
       exact ⟨_,rfl,m.ext,by rw [aas hd0 hc0 rfl hp0]⟩
theorem tS {ts : List T3} {N cap : Nat} {A : Option Addr} (w : World) (hT : eO w A N ts) (hN : N ≤ 100000000) : eK prog 16 [.slice A N cap] w (fun v _=>v = .int .i64 (dH true ts)):=by
 refine ⟨afi,?_⟩;have m:=cA.refl w
 go_enter func16,ntmps16
 refine aD fun K1 k1=>wp_region_lit (aA (aC) (aG (k1 _ _ ?_)));refine aD fun K2 k2=>wp_region_lit (aA (aB) ?_);simp only[zz];refine eH m rfl rfl (acd _ (hT.ext m.ext) hN) ?_;clear m;rintro v u m rfl;refine aA (aC) (aG (k2 _ _ ?_));refine wp_ret ?_;simp only[zz];try simp only[Exit.inBlock,Exit.then,if_true]
 refine bO rfl rfl ?_;try simp only[zD,zE]
 exact ⟨_,rfl,m.ext,rfl⟩
end Go.Proofs.YtfohfflkhpfjeaaGreatDoor
namespace Go.Lith
open Go.RowKit Go.Proofs Go.Sort Go.Shelf
theorem aat {α : Type} {enc : α → List Value} {k : Nat} (hk : ∀ x,(enc x).length = k) (h0 : 0 < k) : ∀ (L : List α) (t : Nat),(L.flatMap enc)[t]? = (L[t / k]?).bind fun x=>(enc x)[t % k]?
 | [],t=>by simp
 | x :: L,t=>by
  rw [List.flatMap_cons,List.getElem?_append];by_cases h : t < k
  · rw [if_pos (by rw [hk];exact h),Nat.div_eq_of_lt h,Nat.mod_eq_of_lt h]
    rfl
  · rw [if_neg (by rw [hk];exact h),hk,aat hk h0 L (t - k)]
    have e1 : t / k = (t - k) / k + 1:=by rw [Nat.div_eq t k,if_pos ⟨h0,Nat.le_of_not_lt h⟩]
    have e2 : t % k = (t - k) % k:=Nat.mod_eq_sub_mod (Nat.le_of_not_lt h);rw [e1,e2,List.getElem?_cons_succ]
theorem tU {α : Type} [Inhabited α] {enc : α → List Value} {k : Nat} (hk : ∀ x,(enc x).length = k) (h0 : 0 < k) (L : List α) : (flatK enc k L.toArray).toList = L.flatMap enc:=by
 have hlen : (L.flatMap enc).length = L.length * k:=by
  induction L with
  | nil=>simp
  | cons x L ih=>rw [List.flatMap_cons,List.length_append,ih,hk,List.length_cons,Nat.add_mul];omega
 apply List.ext_getElem?;intro t;by_cases ht : t < L.length * k
 · have hd : t / k < L.length:=by
    rw [Nat.div_lt_iff_lt_mul h0];exact ht
   have hm : t % k < k:=Nat.mod_lt _ h0;have h1:=get_flatK enc k L.toArray t (by simpa using ht);rw [getElem!_pos _ t (by simpa using ht)] at h1;rw [aat hk h0,List.getElem?_eq_getElem hd,Option.bind_some,Array.getElem?_toList,Array.getElem?_eq_getElem (by simpa using ht),h1,List.getElem?_eq_getElem (show t % k < (enc L[t / k]).length by rw [hk];exact hm)]
   congr 1
   rw [getElem!_pos L.toArray _ (by simpa using hd),List.getElem_toArray,getElem!_pos _ _ (by rw [hk];exact hm)]
 · rw [List.getElem?_eq_none (by simpa using Nat.le_of_not_lt ht),List.getElem?_eq_none (by rw [hlen];exact Nat.le_of_not_lt ht)]
section
variable {α : Type} [Inhabited α] {P : Program} {ρ : Ren} {enc : α → List Value} {c : Nat} {E : TypeId} {w w0 : World} {is : List It} {A : Option Addr} {n cap : Nat}
theorem Wk {g : Nat} {xs : List α} {cur : Array Value} (hk : ∀ x,(enc x).length = c) (h0 : 0 < c) (hg : w.heap[g]? = some (.cells cur E (0,0))) (h : cur.toList.take (xs.length * c) = xs.flatMap enc) : HoldsK enc c w g 0 xs.toArray:=by
 intro j hj;have hl:=tU hk h0 xs;have hj' : j < xs.length * c:=by simpa using hj
 have e : (flatK enc c xs.toArray)[j]? = cur[j]?:=by
  rw [← Array.getElem?_toList,hl,← h,List.getElem?_take,if_pos hj',Array.getElem?_toList]
 rw [Array.getElem?_eq_getElem hj] at e;refine ⟨?_,?_⟩
 · simp only[World.cell?,hg,Nat.zero_add,Option.isSome_none,Bool.false_eq_true,if_false]
   rw [← e,getElem!_pos _ j hj];rfl
 · simp [World.frozen?,hg]
theorem Hl {g : Nat} {xs ys : List α} {cur : Array Value} {q : Nat} {os : Array Obj} (hk : ∀ x,(enc x).length = c) (h0 : 0 < c) (hg : w.heap[g]? = some (.cells cur E (0,0))) (hl : xs.length * c ≤ cur.size) (hlen : ys.length = xs.length) :
 ∃ cur' : Array Value,(sortWorldK enc c w g 0 q ys.toArray os).heap[g]? = some (.cells cur' E (0,0)) ∧ cur'.size = cur.size ∧ cur'.toList.take (xs.length * c) = ys.flatMap enc:=by
 have hlt : g < w.heap.size:=(Array.getElem?_eq_some_iff.1 hg).1;refine ⟨putCells id 0 (flatK enc c ys.toArray) cur,?_,by simp [putCells],?_⟩
 · unfold sortWorldK putRowK putRow mapBlock grow
   simp only;rw [Array.getElem?_append_left (by simpa [ahead] using hlt),Array.getElem?_modify];simp [ahead,hg,onCells]
 · have hf:=tU hk h0 ys
   apply List.ext_getElem?;intro t;rw [List.getElem?_take,← hf,Array.getElem?_toList,Array.getElem?_toList];have hs : (flatK enc c ys.toArray).size = xs.length * c:=by simp [hlen]
   split
   · rename_i ht
     have : t < cur.size:=Nat.lt_of_lt_of_le ht hl;simp only[putCells,Array.getElem?_mapIdx,Array.getElem?_eq_getElem this,Option.map_some,Nat.zero_le,Nat.zero_add,true_and,Nat.sub_zero,hs,ht,if_true];rw [Array.getElem?_eq_getElem (by rw [hs];exact ht),getElem!_pos _ t (by rw [hs];exact ht)];rfl
   · rename_i ht
     rw [Array.getElem?_eq_none (by rw [hs];exact Nat.le_of_not_lt ht)]
theorem Nt (L : SlLaysF0.n6 P ρ) (aE : ∀ w,(isAgg (ρ.t 24)).run P w = .ok true w) (zE : ∀ w,(Go.sizeOf (ρ.t 24)).run P w = .ok c w) (hk : ∀ x,(enc x).length = c) (h0 : 0 < c) (h1 : ∀ x,∀ v ∈ enc x,v.oneCell' = true)
 (cf : α → α → Int) (hO : SWO (ltOf cf)) {f : FuncId} (hcmp : ∀ x y,uF P f [.agg (enc x).toArray,.agg (enc y).toArray] (.int .i64 (cf x y))) {xs : List α} (m : cA w0 w is) (k : Nat) (hi : is[k]? = some (oI E c A n cap (xs.flatMap enc))) (hsz : n < 4611686018427387904) :
 Calls P (ρ.f 6) #[.slice A n cap,.func (.func f) #[] #[]] w fun e w'=>∃ v i,e = .returned v ∧ cA w0 w' (is.set k i) ∧ (v = .tuple #[] ∧ ∃ ys : List α,i = oI E c A n cap (ys.flatMap enc) ∧ ys.Perm xs ∧ ys.Pairwise fun a b=>ltOf cf b a = false):=by
 have h : w.ownsRow 0 E c (.slice A n cap) n (xs.flatMap enc):=m.get k hi;have hlen : (xs.flatMap enc).length = xs.length * c:=by
  have:=tU hk h0 xs;rw [← this];simp
 have hn : xs.length = n:=by
  have:=h.1;rw [hlen] at this;exact Nat.eq_of_mul_eq_mul_right h0 this
 have hge:=fun b hb=>m.ge _ (List.mem_of_getElem? hi) b hb;rcases mA h with ⟨rfl,rfl,rfl,hx⟩ | ⟨g,cur,rfl,_,hg,hcap,hmax,hcur,htake⟩
 · refine (AnyF.slices_SortFunc_none L none 0 _ w).mono ?_
   rintro e w' ⟨rfl,rfl⟩;obtain rfl : xs = []:=List.eq_nil_of_length_eq_zero hn;refine ⟨_,oI E c none 0 0 [],rfl,?_,rfl,[],rfl,List.Perm.refl _,.nil⟩;have : is.set k (oI E c none 0 0 []) = is:=by
    apply List.ext_getElem?;intro j;rw [List.getElem?_set];split
    · rename_i e;subst e
      have:=(List.getElem?_eq_some_iff.1 hi).1;rw [if_pos this,hi];rfl
    · rfl
   rw [this];exact m
 · have hlt : g < w.heap.size:=(Array.getElem?_eq_some_iff.1 hg).1
   rw [← hn] at htake;have hH:=Wk (xs:=xs) hk h0 hg htake;have hx:=AnyQ.slices_SortFunc L c aE zE enc hk h1 cf hO f #[] g 0 cap xs.toArray w (fun args w'=>yA (hcmp default default w').1) (fun mm os dk _ x y=>by
    have:=((hcmp x y (sortWorldK enc c w g 0 mm dk os)).2.mono fun e w' h=>(show e = .returned (.int .i64 (cf x y)) ∧ ∃ q os',w' = grow ((sortWorldK enc c w g 0 mm dk os).drewN q) os' from by obtain ⟨u,rfl,hX,rfl⟩:=h;exact ⟨rfl,hX.grow⟩))
    simpa using this) hH hlt (by simpa [hn] using hsz)
   have es : xs.toArray.size = n:=by simpa using hn
   rw [es] at hx;refine hx.mono ?_;rintro e w' ⟨rfl,d',q,os,hp,hs,rfl⟩;have hd : d'.size = n:=by rw [hp.1];exact es
   obtain ⟨ys,rfl⟩ : ∃ ys : List α,d' = ys.toArray:=⟨d'.toList,by simp⟩
   have hyl : ys.length = n:=by simpa using hd
   have hcs : xs.length * c ≤ cur.size:=by rw [hn,hcur];exact Nat.mul_le_mul_right _ hcap
   obtain ⟨cur',e1,e2,e3⟩:=Hl (q:=q) (os:=os) (ys:=ys) hk h0 hg hcs (by rw [hyl,hn]);refine ⟨_,oI E c (some ⟨g,0,none⟩) n cap (ys.flatMap enc),rfl,?_,rfl,ys,rfl,?_,?_⟩
   · refine m.put k hi rfl rfl rfl ?_ (fun b hb hne=>?_) ?_ (.inl fun _ h=>h)
     · simp [sortWorldK,putRowK,putRow,mapBlock,grow,ahead]
     · have hbg : g ≠ b:=fun e=>hne (by rw [e];rfl)
       unfold sortWorldK putRowK putRow mapBlock grow;simp only;rw [Array.getElem?_append_left (by simpa [ahead] using hb),Array.getElem?_modify,if_neg hbg];rfl
     · refine ⟨?_,.inr ⟨g,cap,cur',rfl,Nat.zero_le _,e1,hcap,hmax,by rw [e2,hcur],?_⟩⟩
       · have:=tU hk h0 ys
         rw [← this];simp [hyl]
       · rw [← hn];exact e3
   · have:=hp.2.2
     simpa [hyl,hn,List.take_of_length_le (Nat.le_of_eq hyl),List.take_of_length_le (Nat.le_of_eq hn),List.extract_eq_take_drop] using this
   · rw [List.pairwise_iff_getElem]
     intro i j hi' hj' hij;have:=hs i j (Nat.zero_le _) hij (by rw [← hyl];exact hj');rw [getElem!_pos _ i (by simpa using hi'),getElem!_pos _ j (by simpa using hj')] at this;simpa using this
end
end Go.Lith
namespace Go.Lith
open Go.RowKit Go.Sort
instance : Inhabited P3:=⟨⟨0,0,0⟩⟩
def pQ (p : P3) : List Value:=[.int .i64 p.x,.int .i64 p.y,.int .i64 p.z]
theorem Nu (p : P3) : ∀ v ∈ pQ p,v.oneCell' = true:=fun v h=>by
 simp only[pQ,List.mem_cons,List.not_mem_nil,or_false] at h;rcases h with rfl | rfl | rfl <;> rfl
theorem sL (p q : P3) : (yI p q < 0) ↔ p.Lt q:=by
 unfold yI;split
 · simp [*]
 · split <;> simp [*]
theorem aau : SWO (Go.Proofs.ltOf yI) where
 irrefl x:=by simp [Go.Proofs.ltOf,sL,P3.lt_irrefl]
 trans x y z h1 h2:=by
  simp only[Go.Proofs.ltOf,decide_eq_true_eq,sL] at *
  exact P3.lt_trans h1 h2
 ntrans x y z h1 h2:=by
  simp only[Go.Proofs.ltOf,decide_eq_false_iff_not,sL] at *
  unfold P3.Lt at *
  omega
theorem mQ.len {K V : Type} [DecidableEq K] {ek : K → Value} {en : V → Value} {D dn rs : List (K × V)} {es : Array MapEntry} {seen : Array Nat} (h : mQ ek en D es seen dn rs) : dn.length + rs.length = D.length:=by
 have:=h.1.length_eq;simpa using this
theorem Fg {K V : Type} [DecidableEq K] {ek : K → Value} {en : V → Value} {D dn rs : List (K × V)} {es : Array MapEntry} {b : Bool} {kv vv : Value} {sn : Array Nat} (hb : b = false) (h : Nxt ek en D es dn rs b kv vv sn) : rs = []:=by
 rcases h with ⟨_,h⟩ | ⟨h,_⟩
 · exact h
 · rw [h] at hb;cases hb
theorem Fh {K V : Type} [DecidableEq K] {ek : K → Value} {en : V → Value} {D dn rs : List (K × V)} {es : Array MapEntry} {b : Bool} {kv vv : Value} {sn : Array Nat} (hb : b = true) (h : Nxt ek en D es dn rs b kv vv sn) :
 ∃ k v rs',rs.Perm ((k,v) :: rs') ∧ mQ ek en D es sn (dn ++ [(k,v)]) rs':=by
 rcases h with ⟨h,_⟩ | ⟨_,k,v,rs',h1,_,_,h2⟩
 · rw [h] at hb;cases hb
 · exact ⟨k,v,rs',h1,h2⟩
def vH (D : List (P3 × Bool)) (ps : List P3) : List (P3 × Bool):=ps.foldl (fun D p=>gS D p true) D
theorem Nv {K V : Type} [DecidableEq K] (D : List (K × V)) (k a : K) (v : V) : a ∈ (gS D k v).map (·.1) ↔ a ∈ D.map (·.1) ∨ a = k:=by
 rw [Ba];split
 · exact ⟨.inl,fun h=>h.elim id (fun e=>e ▸ ‹_›)⟩
 · simp
theorem Iy : ∀ (ps : List P3) (D : List (P3 × Bool)) (a : P3),a ∈ (vH D ps).map (·.1) ↔ a ∈ D.map (·.1) ∨ a ∈ ps
 | [],D,a=>by simp [vH]
 | p :: ps,D,a=>by
  have:=Iy ps (gS D p true) a;unfold vH at this ⊢;rw [List.foldl_cons,this,Nv,List.mem_cons,or_assoc]
theorem Cg : ∀ (ps : List P3) (D : List (P3 × Bool)),(D.map (·.1)).Nodup → ((vH D ps).map (·.1)).Nodup
 | [],_,h=>h
 | p :: ps,D,h=>Cg ps (gS D p true) (xO h p true)
theorem vI {K V : Type} [DecidableEq K] : ∀ (D : List (K × V)) (k : K) (v : V),(gS D k v).length ≤ D.length + 1
 | [],_,_=>by simp [gS]
 | x :: D,k,v=>by
  unfold gS;split
  · simp
  · simp only[List.length_cons]
    exact Nat.succ_le_succ (vI D k v)
theorem yX : ∀ (ps : List P3) (D : List (P3 × Bool)),(vH D ps).length ≤ D.length + ps.length
 | [],D=>Nat.le_refl _
 | p :: ps,D=>Nat.le_trans (yX ps (gS D p true)) (by
  have:=vI D p true;simp only[List.length_cons];omega)
theorem Wl (D : List (P3 × Bool)) (ps qs : List P3) : vH D (ps ++ qs) = vH (vH D ps) qs:=List.foldl_append ..
def cL (ts : List T3) : List P3:=ts.flatMap fun t=>[t.a,t.b,t.c]
def aav (ps : List P3) : Prop:=ps.Pairwise fun a b=>a.Lt b
theorem Wm {ps : List P3} (hn : ps.Nodup) (h : ps.Pairwise fun a b=>¬ b.Lt a) : aav ps:=by
 have:=hn.and h;exact this.imp fun {a b} h=>(P3.lt_tri a b).resolve_right (by rintro (e | e);exact h.1 e;exact h.2 e)
end Go.Lith
namespace Go.Lith
open Go.RowKit
theorem Wn {α : Type} {ps : List α} {k : Nat} {p : α} (h : ps[k]? = some p) : ps.take (k + 1) = ps.take k ++ [p]:=by
 rw [List.take_add_one,h];rfl
theorem Fi {ts : List T3} {k : Nat} {t : T3} (h : ts[k]? = some t) : cL (ts.take (k + 1)) = cL (ts.take k) ++ [t.a,t.b,t.c]:=by
 unfold cL;rw [Wn h,List.flatMap_append];simp
theorem Rn {ts : List T3} {k : Nat} {t : T3} (h : ts[k]? = some t) : vH [] (cL (ts.take (k + 1))) = gS (gS (gS (vH [] (cL (ts.take k))) t.a true) t.b true) t.c true:=by
 rw [Fi h,Wl];rfl
theorem yY (ts : List T3) : (cL ts).length = ts.length * 3:=by
 unfold cL
 induction ts with
 | nil=>rfl
 | cons t ts ih=>rw [List.flatMap_cons,List.length_append,ih];simp only[List.length_cons,List.length_nil];omega
theorem Ow.max {w0 w : World} {S : List (Option Nat)} {E : TypeId} {c n cap : Nat} {A : Option Addr} {xs : List Value} (h : Ow w0 w S E c A n cap xs) : cap ≤ 9223372036854775807:=by
 rcases h.cases with ⟨_,_,rfl,_⟩ | ⟨_,_,_,_,_,_,h,_⟩
 · exact Nat.zero_le _
 · exact h
end Go.Lith
namespace Go.Lith
open Go.RowKit
theorem Fj {α : Type} {R : α → α → Prop} (irr : ∀ a,¬ R a a) (tr : ∀ a b c,R a b → R b c → R a c) : ∀ {l m : List α},l.Pairwise R → m.Pairwise R → (∀ a,a ∈ l ↔ a ∈ m) → l = m
 | [],[],_,_,_=>rfl
 | [],y :: m,_,_,h=>absurd ((h y).2 (List.mem_cons_self ..)) (by simp)
 | x :: l,[],_,_,h=>absurd ((h x).1 (List.mem_cons_self ..)) (by simp)
 | x :: l,y :: m,hl,hm,h=>by
  obtain ⟨h1,h2⟩:=List.pairwise_cons.1 hl;obtain ⟨k1,k2⟩:=List.pairwise_cons.1 hm;have e : x = y:=by
   rcases List.mem_cons.1 ((h x).1 (List.mem_cons_self ..)) with e | hx
   · exact e
   · rcases List.mem_cons.1 ((h y).2 (List.mem_cons_self ..)) with e | hy
     · exact e.symm
     · exact absurd (tr _ _ _ (h1 y hy) (k1 x hx)) (irr x)
  subst e;rw [Fj irr tr h2 k2 fun a=>⟨fun ha=>?_,fun ha=>?_⟩]
  · rcases List.mem_cons.1 ((h a).1 (List.mem_cons_of_mem _ ha)) with rfl | k
    · exact absurd (h1 a ha) (irr a)
    · exact k
  · rcases List.mem_cons.1 ((h a).2 (List.mem_cons_of_mem _ ha)) with rfl | k
    · exact absurd (k1 a ha) (irr a)
    · exact k
/-! ### Edges in order -/
def Ao (a b : E3) : Prop:=a.1.Lt b.1 ∨ a.1 = b.1 ∧ a.2.Lt b.2
theorem Ti {a b : E3} : Tc a b = true ↔ Ao a b:=by
 unfold Tc Ao;by_cases h : a.1 = b.1
 · rw [if_neg (not_not_intro h),decide_eq_true_eq]
   exact ⟨fun k=>.inr ⟨h,k⟩,fun k=>k.elim (fun k=>absurd (h ▸ k) (P3.lt_irrefl _)) (·.2)⟩
 · rw [if_pos h,decide_eq_true_eq]
   exact ⟨.inl,fun k=>k.elim id (fun k=>absurd k.1 h)⟩
theorem Ao.irrefl (a : E3) : ¬ Ao a a:=fun h=>h.elim (P3.lt_irrefl _) fun h=>P3.lt_irrefl _ h.2
theorem Ao.trans {a b c : E3} (h : Ao a b) (k : Ao b c) : Ao a c:=by
 rcases h with h | ⟨h,h'⟩
 · rcases k with k | ⟨k,_⟩
   · exact .inl (P3.lt_trans h k)
   · exact .inl (k ▸ h)
 · rcases k with k | ⟨k,k'⟩
   · exact .inl (h ▸ k)
   · exact .inr ⟨h.trans k,P3.lt_trans h' k'⟩
theorem Ao.tri (a b : E3) : Ao a b ∨ a = b ∨ Ao b a:=by
 rcases P3.lt_tri a.1 b.1 with h | h | h
 · exact .inl (.inl h)
 · rcases P3.lt_tri a.2 b.2 with k | k | k
   · exact .inl (.inr ⟨h,k⟩)
   · exact .inr (.inl (Prod.ext h k))
   · exact .inr (.inr (.inr ⟨h.symm,k⟩))
 · exact .inr (.inr (.inl h))
def mK (es : List E3) : Prop:=es.Pairwise Ao
theorem Ch {es fs : List E3} (h : mK es) (k : mK fs) (e : ∀ a,a ∈ es ↔ a ∈ fs) : es = fs:=Fj Ao.irrefl (fun _ _ _=>Ao.trans) h k e
theorem Tj {α : Type} {p : α → Bool} : ∀ (l : List α),l.take (l.takeWhile p).length = l.takeWhile p
 | []=>rfl
 | x :: l=>by
  rw [List.takeWhile_cons];split
  · rw [List.length_cons,List.take_succ_cons,Tj l]
  · rfl
theorem Tk {α : Type} {p : α → Bool} : ∀ (l : List α),l.drop (l.takeWhile p).length = l.dropWhile p
 | []=>rfl
 | x :: l=>by
  rw [List.takeWhile_cons,List.dropWhile_cons];split
  · rw [List.length_cons,List.drop_succ_cons,Tk l]
  · rfl
theorem Tl (es : List E3) (e : E3) : Qw es e = es.takeWhile (fun x=>Tc x e) ++ [e] ++ es.dropWhile (fun x=>Tc x e):=by
 unfold Qw Vo;rw [Tj,Tk]
theorem aaw {es : List E3} {e x : E3} : x ∈ Qw es e ↔ x = e ∨ x ∈ es:=by
 rw [Tl]
 conv=>rhs;rw [← List.takeWhile_append_dropWhile (p:=fun x=>Tc x e) (l:=es)]
 simp only[List.mem_append,List.mem_singleton];exact ⟨fun h=>h.elim (fun h=>h.elim (fun h=>.inr (.inl h)) .inl) (fun h=>.inr (.inr h)),fun h=>h.elim (fun h=>.inl (.inr h)) (fun h=>h.elim (fun h=>.inl (.inl h)) .inr)⟩
theorem ac6 {e : E3} : ∀ {es : List E3},mK es → e ∉ es → ∀ x ∈ es.dropWhile (fun x=>Tc x e),Ao e x
 | [],_,_,x,h=>by cases h
 | y :: ys,hs,he,x,h=>by
  obtain ⟨h1,h2⟩:=List.pairwise_cons.1 hs;rw [List.dropWhile_cons] at h;split at h
  · exact ac6 h2 (fun k=>he (List.mem_cons_of_mem _ k)) x h
  · rename_i hy
    have hy' : Ao e y:=by
     rcases Ao.tri y e with k | k | k
     · exact absurd (Ti.2 k) hy
     · exact absurd (k ▸ List.mem_cons_self ..) he
     · exact k
    rcases List.mem_cons.1 h with rfl | h
    · exact hy'
    · exact hy'.trans (h1 x h)
theorem aax {α : Type} {p : α → Bool} {x : α} : ∀ {l : List α},x ∈ l.takeWhile p → p x = true
 | [],h=>by cases h
 | y :: l,h=>by
  rw [List.takeWhile_cons] at h;split at h
  · rename_i hy
    rcases List.mem_cons.1 h with rfl | h
    · exact hy
    · exact aax h
  · cases h
theorem agA {e : E3} {es : List E3} : ∀ x ∈ es.takeWhile (fun x=>Tc x e),Ao x e:=fun x h=>Ti.1 (aax (p:=fun x=>Tc x e) h)
theorem Nw {es : List E3} {e : E3} (hs : mK es) (he : e ∉ es) : mK (Qw es e):=by
 rw [Tl];have h0:=hs;rw [mK,← List.takeWhile_append_dropWhile (p:=fun x=>Tc x e) (l:=es)] at h0;obtain ⟨h1,h2,h3⟩:=List.pairwise_append.1 h0;refine List.pairwise_append.2 ⟨List.pairwise_append.2 ⟨h1,List.pairwise_singleton _ _,fun x hx y hy=>?_⟩,h2,fun x hx y hy=>?_⟩
 · rw [List.mem_singleton.1 hy];exact agA x hx
 · rcases List.mem_append.1 hx with hx | hx
   · exact h3 x hx y hy
   · rw [List.mem_singleton.1 hx];exact ac6 hs he y hy
theorem qL {es : List E3} {e : E3} : 0 < kJ es e ↔ e ∈ es:=by
 unfold kJ;rw [List.length_pos_iff_exists_mem];simp
theorem Bc {all : List E3} : ∀ (es out : List E3),mK out → mK (es.foldl (nM all) out) ∧ ∀ x,x ∈ es.foldl (nM all) out ↔ x ∈ out ∨ x ∈ es ∧ (x.2,x.1) ∉ all
 | [],out,h=>⟨h,fun x=>by simp⟩
 | e :: es,out,h=>by
  have key : mK (nM all out e) ∧ ∀ x,x ∈ nM all out e ↔ x ∈ out ∨ x = e ∧ (x.2,x.1) ∉ all:=by
   unfold nM;split
   · rename_i hc
     refine ⟨h,fun x=>⟨.inl,fun k=>k.elim id fun q=>?_⟩⟩;obtain ⟨rfl,q⟩:=q;exact hc.elim (fun hc=>absurd (qL.1 hc) q) (fun hc=>qL.1 hc)
   · rename_i hc
     have h1 : e ∉ out:=fun k=>hc (.inr (qL.2 k));have h2 : (e.2,e.1) ∉ all:=fun k=>hc (.inl (qL.2 k));refine ⟨Nw h h1,fun x=>aaw.trans ⟨fun k=>k.elim (fun k=>.inr ⟨k,k ▸ h2⟩) .inl,fun k=>k.elim .inr fun k=>.inl k.1⟩⟩
  obtain ⟨i1,i2⟩:=Bc es (nM all out e) key.1;refine ⟨i1,fun x=>?_⟩;rw [List.foldl_cons,i2,key.2,List.mem_cons,or_assoc];refine or_congr Iff.rfl ⟨fun k=>k.elim (fun k=>⟨.inl k.1,k.2⟩) (fun k=>⟨.inr k.1,k.2⟩),fun k=>k.1.elim (fun h=>.inl ⟨h,k.2⟩) (fun h=>.inr ⟨h,k.2⟩)⟩
theorem oS (ts : List T3) : mK (aQ ts):=(Bc (all:=aV ts) (aV ts) [] List.Pairwise.nil).1
theorem kP {ts : List T3} {e : E3} : e ∈ aQ ts ↔ e ∈ aV ts ∧ (e.2,e.1) ∉ aV ts:=by
 have:=(Bc (all:=aV ts) (aV ts) [] List.Pairwise.nil).2 e;unfold aQ;rw [this];simp
/-! ### Keys put into a set -/
section
variable {K : Type} [DecidableEq K]
def gI (D : List (K × Bool)) (ks : List K) : List (K × Bool):=ks.foldl (fun D k=>gS D k true) D
theorem vJ : ∀ (ks : List K) (D : List (K × Bool)) (a : K),a ∈ (gI D ks).map (·.1) ↔ a ∈ D.map (·.1) ∨ a ∈ ks
 | [],D,a=>by simp [gI]
 | k :: ks,D,a=>by
  have:=vJ ks (gS D k true) a;unfold gI at this ⊢;rw [List.foldl_cons,this,Nv,List.mem_cons,or_assoc]
theorem oH : ∀ (ks : List K) (D : List (K × Bool)),(D.map (·.1)).Nodup → ((gI D ks).map (·.1)).Nodup
 | [],_,h=>h
 | k :: ks,D,h=>oH ks (gS D k true) (xO h k true)
theorem vK : ∀ (ks : List K) (D : List (K × Bool)),(gI D ks).length ≤ D.length + ks.length
 | [],_=>Nat.le_refl _
 | k :: ks,D=>by
  have h1:=vK ks (gS D k true);have h2:=vI D k true;show (gI (gS D k true) ks).length ≤ _
  rw [List.length_cons];omega
theorem yZ : ∀ (ks : List K) (D : List (K × Bool)) (a : K),dD (gI D ks) a = if a ∈ ks then some true else dD D a
 | [],D,a=>by simp [gI]
 | k :: ks,D,a=>by
  have h:=yZ ks (gS D k true) a;show dD (gI (gS D k true) ks) a = _
  rw [h,mV];by_cases h1 : a ∈ ks
  · rw [if_pos h1,if_pos (List.mem_cons_of_mem _ h1)]
  · rw [if_neg h1]
    by_cases h2 : k = a
    · rw [if_pos h2,if_pos (h2 ▸ List.mem_cons_self ..)]
    · rw [if_neg h2,if_neg (fun k'=>(List.mem_cons.1 k').elim (fun e=>h2 e.symm) h1)]
theorem Nx (D : List (K × Bool)) (ks ls : List K) : gI D (ks ++ ls) = gI (gI D ks) ls:=List.foldl_append ..
theorem qM (ks : List K) (a : K) : (dD (gI [] ks) a).getD false = decide (a ∈ ks):=by
 rw [yZ];by_cases h : a ∈ ks
 · rw [if_pos h,decide_eq_true h];rfl
 · rw [if_neg h,decide_eq_false h];rfl
theorem Fk {ks : List K} {a : K} : (dD (gI [] ks) a).getD false = true ↔ a ∈ ks:=by
 rw [yZ];by_cases h : a ∈ ks
 · rw [if_pos h];exact ⟨fun _=>h,fun _=>rfl⟩
 · rw [if_neg h];exact ⟨fun k=>(by cases k),fun k=>absurd k h⟩
end
/-! ### No edge twice -/
theorem Be {x e : E3} {es : List E3} : kJ (x :: es) e = (if x = e then 1 else 0) + kJ es e:=by
 unfold kJ;by_cases h : x = e
 · rw [List.filter_cons_of_pos (by simpa using h),List.length_cons,if_pos h];omega
 · rw [List.filter_cons_of_neg (by simpa using h),if_neg h];omega
theorem Iz : ∀ {es : List E3},es.Nodup ↔ ∀ e,kJ es e ≤ 1
 | []=>by simp [kJ]
 | x :: es=>by
  rw [List.nodup_cons,Iz (es:=es)];constructor
  · rintro ⟨h1,h2⟩ e
    rw [Be];by_cases h : x = e
    · have : ¬ 0 < kJ es e:=fun k=>h1 (h ▸ qL.1 k)
      rw [if_pos h];omega
    · rw [if_neg h];have:=h2 e;omega
  · intro h
    refine ⟨fun k=>?_,fun e=>?_⟩
    · have h1:=h x
      rw [Be,if_pos rfl] at h1;have:=qL.2 k;omega
    · have:=h e
      rw [Be] at this;omega
theorem Lb {es : List E3} : (es.any fun e=>decide (1 < kJ es e)) = decide (¬ es.Nodup):=by
 rw [Bool.eq_iff_iff,List.any_eq_true,decide_eq_true_eq,Iz];constructor
 · rintro ⟨e,_,h⟩ k
   have:=k e;simp only[decide_eq_true_eq] at h;omega
 · intro h
   obtain ⟨e,he⟩:=Classical.not_forall.1 h;exact ⟨e,qL.1 (by omega),by simpa using Nat.not_le.1 he⟩
theorem xQ {α : Type} {es : List α} {e : α} : (es ++ [e]).Nodup ↔ es.Nodup ∧ e ∉ es:=by
 rw [List.nodup_append];constructor
 · rintro ⟨h1,_,h3⟩
   exact ⟨h1,fun k=>h3 e k e (by simp) rfl⟩
 · rintro ⟨h1,h2⟩
   exact ⟨h1,by simp,fun a ha b hb e'=>h2 (by rw [← List.mem_singleton.1 hb,← e'];exact ha)⟩
end Go.Lith
namespace Go.Lith
open Go.RowKit
section
variable {K V : Type} [DecidableEq K]
def mZ (D : List (K × V)) (xs : List (K × V)) : List (K × V):=xs.foldl (fun D x=>gS D x.1 x.2) D
theorem Fl : ∀ (xs D : List (K × V)) (k : K),(xs.map (·.1)).Nodup → dD (mZ D xs) k = match dD xs k with | some v=>some v | none=>dD D k
 | [],D,k,_=>rfl
 | (a,v) :: xs,D,k,h=>by
  rw [List.map_cons,List.nodup_cons] at h;have ih:=Fl xs (gS D a v) k h.2;show dD (mZ (gS D a v) xs) k = _
  rw [ih,mV,dD];by_cases e : a = k
  · rw [if_pos e,if_pos e]
    have : dD xs k = none:=sJ.2 (e ▸ h.1);rw [this]
  · rw [if_neg e,if_neg e]
theorem Ny (D xs ys : List (K × V)) : mZ D (xs ++ ys) = mZ (mZ D xs) ys:=List.foldl_append ..
def rO (D : List (K × Nat)) (ks : List K) : List (K × Nat):=ks.foldl (fun D k=>gS D k ((dD D k).getD 0 + 1)) D
def qV (ks : List K) (a : K) : Nat:=(ks.filter fun x=>decide (x = a)).length
theorem oJ {x a : K} {ks : List K} : qV (x :: ks) a = (if x = a then 1 else 0) + qV ks a:=by
 unfold qV;by_cases h : x = a
 · rw [List.filter_cons_of_pos (by simpa using h),List.length_cons,if_pos h];omega
 · rw [List.filter_cons_of_neg (by simpa using h),if_neg h];omega
theorem Fm {a : K} {ks ls : List K} : qV (ks ++ ls) a = qV ks a + qV ls a:=by simp [qV]
theorem Nz : ∀ (ks : List K) (D : List (K × Nat)) (a : K),(dD (rO D ks) a).getD 0 = (dD D a).getD 0 + qV ks a
 | [],D,a=>rfl
 | k :: ks,D,a=>by
  have h:=Nz ks (gS D k ((dD D k).getD 0 + 1)) a;show (dD (rO (gS D k ((dD D k).getD 0 + 1)) ks) a).getD 0 = _
  rw [h,mV,oJ];by_cases e : k = a
  · subst e
    rw [if_pos rfl,if_pos rfl,Option.getD_some];omega
  · rw [if_neg e,if_neg e];omega
theorem aay (D : List (K × Nat)) (ks ls : List K) : rO D (ks ++ ls) = rO (rO D ks) ls:=List.foldl_append ..
theorem Fo : ∀ {l m : List K},l.Nodup → (∀ a ∈ l,a ∈ m) → l.length ≤ m.length
 | [],_,_,_=>Nat.zero_le _
 | x :: l,m,h,k=>by
  rw [List.nodup_cons] at h;have hx:=k x (List.mem_cons_self ..);have h1:=Fo (m:=m.erase x) h.2 fun a ha=>(List.mem_erase_of_ne (fun (e : a = x)=>h.1 (e ▸ ha))).2 (k a (List.mem_cons_of_mem _ ha));rw [List.length_erase_of_mem hx] at h1;have:=List.length_pos_of_mem hx;rw [List.length_cons];omega
end
/-! ### What lies behind an edge -/
def eY (ts : List T3) : List (E3 × P3):=ts.flatMap fun t=>[((t.a,t.b),t.c),((t.b,t.c),t.a),((t.c,t.a),t.b)]
theorem oK : ∀ ts : List T3,(eY ts).map (·.1) = aV ts
 | []=>rfl
 | t :: ts=>by
  have:=oK ts;unfold eY aV at this ⊢;rw [List.flatMap_cons,List.map_append,this];rfl
theorem Fp {ts : List T3} {k : Nat} {t : T3} (h : ts[k]? = some t) : eY (ts.take (k + 1)) = eY (ts.take k) ++ [((t.a,t.b),t.c),((t.b,t.c),t.a),((t.c,t.a),t.b)]:=by
 unfold eY;rw [dF h,List.flatMap_append];simp
theorem tV (p q : P3) : ∀ ts : List T3,bP ts p q = dD (eY ts) (p,q)
 | []=>rfl
 | t :: ts=>by
  have ih:=tV p q ts;have e : eY (t :: ts) = ((t.a,t.b),t.c) :: ((t.b,t.c),t.a) :: ((t.c,t.a),t.b) :: eY ts:=rfl;rw [e,bP,dD,dD,dD,← ih,T3.fnd];by_cases h1 : t.a = p ∧ t.b = q
  · rw [if_pos h1,if_pos (Prod.ext h1.1 h1.2)]
  · rw [if_neg h1,if_neg (fun e=>h1 ⟨congrArg Prod.fst e,congrArg Prod.snd e⟩)]
    by_cases h2 : t.b = p ∧ t.c = q
    · rw [if_pos h2,if_pos (Prod.ext h2.1 h2.2)]
    · rw [if_neg h2,if_neg (fun e=>h2 ⟨congrArg Prod.fst e,congrArg Prod.snd e⟩)]
      by_cases h3 : t.c = p ∧ t.a = q
      · rw [if_pos h3,if_pos (Prod.ext h3.1 h3.2)]
      · rw [if_neg h3,if_neg (fun e=>h3 ⟨congrArg Prod.fst e,congrArg Prod.snd e⟩)]
theorem sM {ts : List T3} (h : (aV ts).Nodup) (p q : P3) : dD (mZ [] (eY ts)) (p,q) = bP ts p q:=by
 rw [Fl _ _ _ (by rw [oK];exact h),tV];cases dD (eY ts) (p,q) <;> rfl
theorem lH {ts : List T3} {x y z : P3} (h : ((x,y),z) ∈ eY ts) : ((y,z),x) ∈ eY ts:=by
 obtain ⟨t,ht,hx⟩:=List.mem_flatMap.1 h;refine List.mem_flatMap.2 ⟨t,ht,?_⟩;simp only[List.mem_cons,List.not_mem_nil,or_false,Prod.mk.injEq] at hx ⊢;rcases hx with ⟨⟨rfl,rfl⟩,rfl⟩ | ⟨⟨rfl,rfl⟩,rfl⟩ | ⟨⟨rfl,rfl⟩,rfl⟩
 · exact .inr (.inl ⟨⟨rfl,rfl⟩,rfl⟩)
 · exact .inr (.inr ⟨⟨rfl,rfl⟩,rfl⟩)
 · exact .inl ⟨⟨rfl,rfl⟩,rfl⟩
theorem xR {ts : List T3} (h : (aV ts).Nodup) {e : E3} {x y : P3} (h1 : (e,x) ∈ eY ts) (h2 : (e,y) ∈ eY ts) : x = y:=by
 have k : ((eY ts).map (·.1)).Nodup:=by rw [oK];exact h
 have a:=mW k h1;rw [mW k h2] at a;exact (Option.some.inj a).symm
theorem tW {ts : List T3} {p q x : P3} (h : bP ts p q = some x) : ((p,q),x) ∈ eY ts:=yW (by rw [← tV];exact h)
theorem Ci {ts : List T3} {p q x : P3} (h : bP ts p q = some x) : (p,q) ∈ aV ts:=by
 rw [← oK];exact List.mem_map.2 ⟨_,tW h,rfl⟩
theorem Oa {ts : List T3} {p q : P3} (h : (p,q) ∈ aV ts) : ∃ x,bP ts p q = some x:=by
 rw [tV];cases e : dD (eY ts) (p,q) with
 | some x=>exact ⟨x,rfl⟩
 | none =>
  have:=sJ.1 e;rw [oK] at this;exact absurd h this
theorem Ro {ts : List T3} (h : (aV ts).Nodup) {p x y z : P3} (h1 : bP ts p x = some z) (h2 : bP ts p y = some z) : x = y :=
 xR h (lH (lH (tW h1))) (lH (lH (tW h2)))
theorem Ob {ts : List T3} {p x z : P3} (h : bP ts p x = some z) : (z,p) ∈ aV ts:=by
 rw [← oK];exact List.mem_map.2 ⟨_,lH (lH (tW h)),rfl⟩
def sU (ts : List T3) (p : P3) : Nat → P3 → Option P3
 | 0,x=>some x
 | n + 1,x=>(bP ts p x).bind (sU ts p n)
theorem vL {ts : List T3} {p : P3} : ∀ (n : Nat) (x : P3),sU ts p (n + 1) x = (sU ts p n x).bind (bP ts p)
 | 0,x=>by simp [sU]
 | n + 1,x=>by
  rw [sU];cases h : bP ts p x with
  | none=>simp [sU,h]
  | some y =>
   rw [Option.bind_some,vL n y,sU,h];rfl
theorem Oc {ms : List T3} {p s : P3} : ∀ (n : Nat) (x : P3),mC ms p s n x = true ↔ ∃ j,1 ≤ j ∧ j ≤ n ∧ sU ms p j x = some s
 | 0,x=>⟨fun h=>(by cases h),fun ⟨j,h1,h2,_⟩=>by omega⟩
 | n + 1,x=>by
  cases h : bP ms p x with
  | none =>
   rw [Ik h];refine ⟨fun k=>(by cases k),fun ⟨j,h1,_,h3⟩=>?_⟩;obtain ⟨i,rfl⟩ : ∃ i,j = i + 1:=⟨j - 1,by omega⟩
   rw [sU,h] at h3;cases h3
  | some y =>
   by_cases e : y = s
   · subst e
     rw [Ng h];exact ⟨fun _=>⟨1,Nat.le_refl _,by omega,by simp [sU,h]⟩,fun _=>rfl⟩
   · rw [Il h e,Oc n y]
     constructor
     · rintro ⟨j,h1,h2,h3⟩
       exact ⟨j + 1,by omega,by omega,by rw [sU,h];exact h3⟩
     · rintro ⟨j,h1,h2,h3⟩
       obtain ⟨i,rfl⟩ : ∃ i,j = i + 1:=⟨j - 1,by omega⟩
       rw [sU,h,Option.bind_some] at h3;cases i with
       | zero=>exact absurd (Option.some.inj h3) e
       | succ i=>exact ⟨i + 1,by omega,by omega,h3⟩
def vM (nx : P3 → Option P3) (s : P3) : Nat → P3 → Nat → P3 × Nat
 | 0,a,z=>(a,z)
 | n + 1,a,z=>if a = s then (a,z) else match nx a with | none=>(a,z) | some b=>vM nx s n b (z + 1)
theorem aaz {nx : P3 → Option P3} {s : P3} {n z : Nat} : vM nx s n s z = (s,z):=by
 cases n with
 | zero=>rfl
 | succ n=>rw [vM,if_pos rfl]
theorem Lc {ts : List T3} {p s : P3} {M : Nat} : ∀ (n : Nat) (a : P3) (z : Nat),n = M + 1 - z → ((vM (bP ts p) s n a z).1 = s ∧ (vM (bP ts p) s n a z).2 < M ↔ ∃ j,z ≤ j ∧ j < M ∧ sU ts p (j - z) a = some s)
 | 0,a,z,h=>by
  rw [vM];refine ⟨fun k=>?_,fun ⟨j,h1,h2,_⟩=>?_⟩
  · have:=k.2;simp only at this;omega
  · omega
 | n + 1,a,z,h=>by
  rw [vM];by_cases e : a = s
  · rw [if_pos e]
    refine ⟨fun k=>⟨z,Nat.le_refl _,k.2,by rw [Nat.sub_self,sU,e]⟩,fun ⟨j,h1,h2,_⟩=>⟨e,by simp only;omega⟩⟩
  · rw [if_neg e]
    cases hb : bP ts p a with
    | none =>
     refine ⟨fun k=>absurd k.1 e,fun ⟨j,h1,h2,h3⟩=>?_⟩;cases hj : j - z with
     | zero=>rw [hj,sU] at h3;exact absurd (Option.some.inj h3) e
     | succ i=>rw [hj,sU,hb] at h3;cases h3
    | some b =>
     rw [Lc n b (z + 1) (by omega)];constructor
     · rintro ⟨j,h1,h2,h3⟩
       refine ⟨j,by omega,h2,?_⟩;rw [show j - z = (j - (z + 1)) + 1 by omega,sU,hb];exact h3
     · rintro ⟨j,h1,h2,h3⟩
       rcases Nat.lt_or_ge z j with hz | hz
       · refine ⟨j,by omega,h2,?_⟩
         rw [show j - z = (j - (z + 1)) + 1 by omega,sU,hb] at h3;exact h3
       · rw [show j - z = 0 by omega,sU] at h3
         exact absurd (Option.some.inj h3) e
/-! ### The triangles of a corner -/
theorem Ld {t : T3} {p q x : P3} (h : t.fnd p q = some x) : ∃ c,c < 3 ∧ t.cor c = p:=by
 unfold T3.fnd at h;split at h
 · rename_i h';exact ⟨0,by decide,h'.1⟩
 · split at h
   · rename_i h';exact ⟨1,by decide,h'.1⟩
   · split at h
     · rename_i h';exact ⟨2,by decide,h'.1⟩
     · cases h
theorem Rp {ts us : List T3} {p q : P3} : bP (ts ++ us) p q = match bP ts p q with | some x=>some x | none=>bP us p q:=by
 induction ts with
 | nil=>rfl
 | cons t ts ih =>
  rw [List.cons_append,bP,bP];cases t.fnd p q with
  | some x=>rfl
  | none=>exact ih
theorem Wo {t u : T3} {p : P3} (h : u ∈ sC p t 3) : u = t ∧ ∃ c,c < 3 ∧ t.cor c = p:=by
 obtain ⟨c,hc,h⟩:=List.mem_flatMap.1 h;unfold Eo at h;split at h
 · rename_i e
   exact ⟨List.mem_singleton.1 h,c,List.mem_range.1 hc,e⟩
 · cases h
theorem Rq {t : T3} {p : P3} {c : Nat} (hc : c < 3) (h : t.cor c = p) : t ∈ sC p t 3 :=
 List.mem_flatMap.2 ⟨c,List.mem_range.2 hc,by rw [Eo,if_pos h];exact List.mem_singleton.2 rfl⟩
theorem Fq {t : T3} {p q : P3} : ∀ us : List T3,(∀ u ∈ us,u = t) → bP us p q = if us = [] then none else t.fnd p q
 | [],_=>rfl
 | u :: us,h=>by
  have e:=h u (List.mem_cons_self ..);have ih:=Fq (p:=p) (q:=q) us fun v hv=>h v (List.mem_cons_of_mem _ hv);rw [bP,e,if_neg (by simp)];cases hf : t.fnd p q with
  | some x=>rfl
  | none =>
   simp only;rw [ih];split
   · rfl
   · exact hf
theorem Cj (p q : P3) : ∀ ts : List T3,bP (mB ts p) p q = bP ts p q
 | []=>rfl
 | t :: ts=>by
  have e : mB (t :: ts) p = sC p t 3 ++ mB ts p:=by simp [mB]
  rw [e,Rp,Cj p q ts,bP,Fq (t:=t) _ (fun u hu=>(Wo hu).1)];by_cases h : sC p t 3 = []
  · rw [if_pos h]
    cases hf : t.fnd p q with
    | none=>rfl
    | some x =>
     obtain ⟨c,hc,k⟩:=Ld hf;have:=Rq hc k;rw [h] at this;cases this
  · rw [if_neg h]
    rfl
theorem Fs (ts : List T3) (p : P3) : ∀ (n : Nat) (x : P3),sU (mB ts p) p n x = sU ts p n x
 | 0,_=>rfl
 | n + 1,x=>by
  rw [sU,sU,Cj];cases bP ts p x with
  | none=>rfl
  | some y=>exact Fs ts p n y
theorem Od (p : P3) : ∀ ts : List T3,(mB ts p).length = qV (cL ts) p
 | []=>rfl
 | t :: ts=>by
  have ih:=Od p ts;have e : mB (t :: ts) p = sC p t 3 ++ mB ts p:=by simp [mB]
  have e2 : cL (t :: ts) = [t.a,t.b,t.c] ++ cL ts:=rfl;rw [e,e2,List.length_append,Fm,ih]
  congr 1
  have r3 : List.range 3 = [0,1,2]:=rfl;unfold sC;rw [r3];simp only[List.flatMap_cons,List.flatMap_nil,List.append_nil,List.length_append,Eo];rw [oJ,oJ,oJ];have k : ∀ (c : Nat) (x : P3),t.cor c = x → (if t.cor c = p then [t] else []).length = if x = p then 1 else 0:=fun c x hx=>by
   subst hx;split <;> rfl
  rw [k 0 t.a rfl,k 1 t.b rfl,k 2 t.c rfl];rfl
theorem Ja {p s : P3} {ts : List T3} : s ∈ qG ts p ↔ (p,s) ∈ aV ts:=by
 unfold qG aV;rw [List.mem_flatMap,List.mem_flatMap];refine exists_congr fun t=>and_congr Iff.rfl ?_;unfold vC;rw [show List.range 3 = [0,1,2] from rfl];simp only[List.flatMap_cons,List.flatMap_nil,List.append_nil,List.mem_append,Ep,List.mem_cons,List.not_mem_nil,or_false,Prod.mk.injEq];have k : ∀ (c : Nat) (x y : P3),t.cor c = x → t.cor ((c + 1) % 3) = y → (s ∈ (if t.cor c = p then [t.cor ((c + 1) % 3)] else []) ↔ p = x ∧ s = y):=fun c x y hx hy=>by
  subst hx;subst hy;split
  · rename_i h;rw [List.mem_singleton];exact ⟨fun e=>⟨h.symm,e⟩,fun e=>e.2⟩
  · rename_i h;exact ⟨fun e=>(by cases e),fun e=>absurd e.1.symm h⟩
 rw [k 0 t.a t.b rfl rfl,k 1 t.b t.c rfl rfl,k 2 t.c t.a rfl rfl]
theorem Bf {ps : List P3} {p x : P3} : x ∈ iR ps p ↔ x = p ∨ x ∈ ps:=by
 unfold iR;split
 · rename_i h
   exact ⟨.inr,fun k=>k.elim (fun e=>e ▸ List.mem_of_getElem? h) id⟩
 · conv=>rhs;rw [← List.take_append_drop (Vn ps p) ps]
   simp only[List.mem_append,List.mem_singleton];exact ⟨fun h=>h.elim (fun h=>h.elim (fun h=>.inr (.inl h)) .inl) (fun h=>.inr (.inr h)),fun h=>h.elim (fun h=>.inl (.inr h)) (fun h=>h.elim (fun h=>.inl (.inl h)) .inr)⟩
theorem Oe {x : P3} {ts : List T3} : x ∈ fB ts ↔ x ∈ cL ts:=by
 have : ∀ (ts : List T3) (ps : List P3),x ∈ ts.foldl (fun ps t=>iR (iR (iR ps t.a) t.b) t.c) ps ↔ x ∈ ps ∨ x ∈ cL ts:=by
  intro ts
  induction ts with
  | nil=>intro ps;simp [cL]
  | cons t ts ih =>
   intro ps;rw [List.foldl_cons,ih,Bf,Bf,Bf];have e : cL (t :: ts) = [t.a,t.b,t.c] ++ cL ts:=rfl;rw [e];simp only[List.mem_append,List.mem_cons,List.not_mem_nil,or_false];constructor
   · rintro ((h | h | h | h) | h)
     · exact .inr (.inl (.inr (.inr h)))
     · exact .inr (.inl (.inr (.inl h)))
     · exact .inr (.inl (.inl h))
     · exact .inl h
     · exact .inr (.inr h)
   · rintro (h | (h | h | h) | h)
     · exact .inl (.inr (.inr (.inr h)))
     · exact .inl (.inr (.inr (.inl h)))
     · exact .inl (.inr (.inl h))
     · exact .inl (.inl h)
     · exact .inr h
 have:=this ts [];simpa [fB] using this
theorem Bg {ts : List T3} {e : E3} (h : e ∈ aV ts) : e.1 ∈ cL ts ∧ e.2 ∈ cL ts:=by
 obtain ⟨t,ht,hx⟩:=List.mem_flatMap.1 h;have key : ∀ x,x = t.a ∨ x = t.b ∨ x = t.c → x ∈ cL ts:=fun x hx=>List.mem_flatMap.2 ⟨t,ht,by simpa using hx⟩;simp only[List.mem_cons,List.not_mem_nil,or_false] at hx;rcases hx with rfl | rfl | rfl
 · exact ⟨key _ (.inl rfl),key _ (.inr (.inl rfl))⟩
 · exact ⟨key _ (.inr (.inl rfl)),key _ (.inr (.inr rfl))⟩
 · exact ⟨key _ (.inr (.inr rfl)),key _ (.inl rfl)⟩
def Le (ts : List T3) (e : E3) : Prop:=∃ x,bP ts e.1 e.2 = some x ∧ (vM (bP ts e.1) e.2 (qV (cL ts) e.1 + 1 - 1) x 1).1 = e.2 ∧ (vM (bP ts e.1) e.2 (qV (cL ts) e.1 + 1 - 1) x 1).2 < qV (cL ts) e.1
theorem Of {ts : List T3} {e : E3} : Le ts e ↔ e ∈ aV ts ∧ mC (mB ts e.1) e.1 e.2 ((mB ts e.1).length - 1) e.2 = true:=by
 rw [Oc,Od];constructor
 · rintro ⟨x,hx,h⟩
   obtain ⟨j,h1,h2,h3⟩:=(Lc (M:=qV (cL ts) e.1) _ x 1 (by omega)).1 h;refine ⟨Ci hx,j,h1,by omega,?_⟩;rw [Fs,show j = (j - 1) + 1 by omega,sU,hx];exact h3
 · rintro ⟨he,j,h1,h2,h3⟩
   obtain ⟨x,hx⟩:=Oa he;refine ⟨x,hx,(Lc (M:=qV (cL ts) e.1) _ x 1 (by omega)).2 ⟨j,h1,by omega,?_⟩⟩;rw [Fs,show j = (j - 1) + 1 by omega,sU,hx] at h3;exact h3
theorem pinned {ts : List T3} : (fB ts).any (Es ts) = true ↔ ∃ e,Le ts e:=by
 rw [List.any_eq_true];constructor
 · rintro ⟨p,_,h⟩
   obtain ⟨s,hs,hr⟩:=List.any_eq_true.1 h;exact ⟨(p,s),Of.2 ⟨Ja.1 hs,hr⟩⟩
 · rintro ⟨e,h⟩
   obtain ⟨he,hr⟩:=Of.1 h;exact ⟨e.1,Oe.2 (Bg he).1,List.any_eq_true.2 ⟨e.2,Ja.2 he,hr⟩⟩
end Go.Lith
namespace Go.Lith
open Go.RowKit
/-! ### The ends of fans -/
def sN (ts : List T3) (p : P3) : Nat → P3 → P3
 | 0,a=>a
 | n + 1,a=>match bP ts p a with
  | none=>a
  | some x=>sN ts p n x
theorem aaA {ts : List T3} {p : P3} : ∀ (i n : Nat) (a x : P3),i ≤ n → sU ts p i a = some x → bP ts p x = none → sN ts p n a = x
 | 0,n,a,x,_,h,hn=>by
  cases h;cases n with
  | zero=>rfl
  | succ n=>simp only[sN,hn]
 | i + 1,n,a,x,hi,h,hn=>by
  obtain ⟨m,rfl⟩ : ∃ m,n = m + 1:=⟨n - 1,by omega⟩
  rw [sU] at h;cases hb : bP ts p a with
  | none=>rw [hb] at h;cases h
  | some y =>
   rw [hb,Option.bind_some] at h;simp only[sN,hb];exact aaA i m y x (by omega) h hn
def sO (ts : List T3) : Prop:=∀ t ∈ ts,mM t = false
theorem Lf {t : T3} (h : mM t = false) : t.a ≠ t.b ∧ t.b ≠ t.c ∧ t.c ≠ t.a:=by
 unfold mM at h;simp only[Bool.or_eq_false_iff,decide_eq_false_iff_not] at h;exact ⟨h.1.1,h.1.2,h.2⟩
theorem Og {p : P3} : ∀ {ts : List T3},sO ts → ((aV ts).filter fun e=>decide (e.1 = p)).length ≤ ts.length
 | [],_=>Nat.le_refl _
 | t :: ts,h=>by
  have ih:=Og (p:=p) (ts:=ts) fun u hu=>h u (List.mem_cons_of_mem _ hu);obtain ⟨h1,h2,h3⟩:=Lf (h t (List.mem_cons_self ..));have e : aV (t :: ts) = [(t.a,t.b),(t.b,t.c),(t.c,t.a)] ++ aV ts:=rfl;rw [e,List.filter_append,List.length_append,List.length_cons];have : (List.filter (fun e : E3=>decide (e.1 = p)) [(t.a,t.b),(t.b,t.c),(t.c,t.a)]).length ≤ 1:=by
   simp only[List.filter_cons,List.filter_nil];by_cases ha : t.a = p
   · have hb : ¬ t.b = p:=fun e=>h1 (ha.trans e.symm)
     have hc : ¬ t.c = p:=fun e=>h3 (e.trans ha.symm);simp [ha,hb,hc]
   · by_cases hb : t.b = p
     · have hc : ¬ t.c = p:=fun e=>h2 (hb.trans e.symm)
       simp [ha,hb,hc]
     · by_cases hc : t.c = p <;> simp [ha,hb,hc]
  omega
theorem Tm {ts : List T3} {p : P3} : ∀ (i j : Nat) (a : P3),sU ts p (i + j) a = (sU ts p i a).bind (sU ts p j)
 | 0,j,a=>by simp [sU]
 | i + 1,j,a=>by
  rw [show i + 1 + j = (i + j) + 1 by omega,sU,sU];cases bP ts p a with
  | none=>rfl
  | some y=>rw [Option.bind_some,Option.bind_some];exact Tm i j y
theorem Jb {ts : List T3} {p a : P3} (hn : (aV ts).Nodup) (hb : (a,p) ∉ aV ts) : ∀ (i j : Nat) (x : P3),i < j → sU ts p i a = some x → sU ts p j a ≠ some x
 | 0,j,x,hij,h,k=>by
  cases h;obtain ⟨m,rfl⟩ : ∃ m,j = m + 1:=⟨j - 1,by omega⟩
  rw [vL] at k;obtain ⟨y,_,hy⟩:=Option.bind_eq_some_iff.1 k;exact hb (Ob hy)
 | i + 1,j,x,hij,h,k=>by
  obtain ⟨m,rfl⟩ : ∃ m,j = m + 1:=⟨j - 1,by omega⟩
  rw [vL] at h k;obtain ⟨y,hy,hy'⟩:=Option.bind_eq_some_iff.1 h;obtain ⟨z,hz,hz'⟩:=Option.bind_eq_some_iff.1 k;have e:=Ro hn hy' hz';subst e;exact Jb hn hb i m y (by omega) hy hz
theorem ace {ts : List T3} {p a x : P3} (hd : sO ts) (hn : (aV ts).Nodup) (hb : (a,p) ∉ aV ts) {i : Nat} (h : sU ts p i a = some x) : i ≤ ts.length:=by
 have key : ∀ j,j ≤ i → ∃ y,sU ts p j a = some y:=fun j hj=>by
  have e : i = j + (i - j):=by omega
  rw [e,Tm] at h;obtain ⟨y,hy,_⟩:=Option.bind_eq_some_iff.1 h;exact ⟨y,hy⟩
 have h1:=Og (p:=p) hd;have h2 : ((List.range i).map fun j=>(p,(sU ts p j a).getD p)).length ≤ ((aV ts).filter fun e=>decide (e.1 = p)).length:=by
  refine Fo ?_ fun e he=>?_
  · rw [List.Nodup,List.pairwise_map]
    refine (List.pairwise_lt_range (n:=i)).imp_of_mem fun {j k} hj hk hjk e=>?_;obtain ⟨y,hy⟩:=key j (by have:=List.mem_range.1 hj;omega);obtain ⟨z,hz⟩:=key k (by have:=List.mem_range.1 hk;omega);rw [hy,hz] at e;have e' : y = z:=(Prod.mk.inj e).2;subst e';exact Jb hn hb j k y hjk hy hz
  · obtain ⟨j,hj,rfl⟩:=List.mem_map.1 he
    have hj':=List.mem_range.1 hj;obtain ⟨y,hy⟩:=key j (by omega);obtain ⟨z,hz⟩:=key (j + 1) (by omega);rw [vL,hy,Option.bind_some] at hz;refine List.mem_filter.2 ⟨?_,by simp⟩;rw [hy];exact Ci hz
 rw [List.length_map,List.length_range] at h2;omega
/-! ### As the reference says it -/
abbrev Mv:=P3 × P3
def dX : List Mv → P3 → P3
 | [],p=>p
 | m :: ms,p=>if m.1 = p then m.2 else dX ms p
def T3.has (t : T3) (p : P3) : Bool:=decide (t.a = p) || decide (t.b = p) || decide (t.c = p)
def pB (ts : List T3) (p : P3) : Bool:=ts.any fun t=>t.has p
def nA (ts : List T3) (p q : P3) : Bool:=ts.any fun t=>t.has p && t.has q
def zW (rim : List E3) (p : P3) : Bool:=rim.any fun e=>decide (e.1 = p) || decide (e.2 = p)
def nU (fine coarse : List T3) (rim : List E3) : Bool:=rim.all fun e=>decide (sN fine e.1 fine.length e.2 = sN coarse e.1 coarse.length e.2)
def jE (fine coarse : List T3) (rim : List E3) : Bool:=(aV coarse).any fun e=>zW rim e.1 && zW rim e.2 && !nA fine e.1 e.2
def nV (fine coarse : List T3) (ms : List Mv) (rim : List E3) (i : Nat) (m : Mv) : Bool :=
 (decide (i = 0) || (ms[i - 1]?).any fun k=>decide (k.1.Lt m.1)) && pB fine m.1 && (pB coarse m.2 && pB fine m.2 && ms.all fun k=>decide (k.1 ≠ m.2)) && !zW rim m.1
def lV (fine coarse : List T3) (ms : List Mv) (rim : List E3) : Bool:=ms.zipIdx.all fun x=>nV fine coarse ms rim x.2 x.1
def eC (t : T3) : T3:=if t.c.Lt t.a ∧ (t.c.Lt t.b ∨ ¬ t.b.Lt t.a) then ⟨t.c,t.a,t.b⟩ else if t.b.Lt t.a then ⟨t.b,t.c,t.a⟩ else t
theorem Rr {t u : T3} (h1 : t.a = u.a) (h2 : t.b = u.b) (h3 : t.c = u.c) : t = u:=by
 cases t;cases u;simp only at h1 h2 h3;subst h1;subst h2;subst h3;rfl
instance : DecidableEq T3:=fun t u=>decidable_of_iff (t.a = u.a ∧ t.b = u.b ∧ t.c = u.c) ⟨fun h=>Rr h.1 h.2.1 h.2.2,fun h=>by rw [h];exact ⟨rfl,rfl,rfl⟩⟩
def T3.img (ms : List Mv) (t : T3) : T3:=⟨dX ms t.a,dX ms t.b,dX ms t.c⟩
def T3.nd (t : T3) : Bool:=decide (t.a ≠ t.b) && decide (t.b ≠ t.c) && decide (t.c ≠ t.a)
def mR (coarse : List T3) (x : T3) : Bool:=if x.nd then coarse.any fun u=>decide (eC u = eC x) else nA coarse x.a (if x.a = x.b then x.c else x.b)
def nW (ms : List Mv) (fine : List T3) (u : T3) : Nat:=(fine.filter fun t=>(t.img ms).nd && decide (eC u = eC (t.img ms))).length
def kC (fine coarse : List T3) (ms : List Mv) : Bool:=(fine.all fun t=>mR coarse (t.img ms)) && coarse.all fun u=>decide (nW ms fine u = 1)
end Go.Lith
namespace Go.Lith
open Go.RowKit
/-! ### Corners and edges -/
theorem iN {t : T3} {p : P3} : t.has p = true ↔ p = t.a ∨ p = t.b ∨ p = t.c:=by
 unfold T3.has;simp only[Bool.or_eq_true,decide_eq_true_eq,or_assoc];exact or_congr ⟨Eq.symm,Eq.symm⟩ (or_congr ⟨Eq.symm,Eq.symm⟩ ⟨Eq.symm,Eq.symm⟩)
theorem Oh {ts : List T3} {p : P3} : pB ts p = true ↔ p ∈ cL ts:=by
 unfold pB cL;rw [List.any_eq_true,List.mem_flatMap];exact exists_congr fun t=>and_congr Iff.rfl (by rw [iN];simp)
theorem Lg (ts : List T3) (p : P3) : pB ts p = decide (p ∈ cL ts):=by rw [Bool.eq_iff_iff,Oh,decide_eq_true_eq]
theorem pC {ts : List T3} {p q : P3} : nA ts p q = true ↔ ∃ t ∈ ts,t.has p = true ∧ t.has q = true:=by
 unfold nA;rw [List.any_eq_true];exact exists_congr fun t=>and_congr Iff.rfl (by rw [Bool.and_eq_true])
theorem Bh {ts : List T3} {p q : P3} (h : nA ts p q = true) : nA ts q p = true:=by
 obtain ⟨t,ht,h1,h2⟩:=pC.1 h;exact pC.2 ⟨t,ht,h2,h1⟩
theorem Wp {ts : List T3} {p : P3} : nA ts p p = true ↔ p ∈ cL ts:=by
 rw [pC,← Oh,pB,List.any_eq_true];exact exists_congr fun t=>and_congr Iff.rfl ⟨fun h=>h.1,fun h=>⟨h,h⟩⟩
theorem Jc {ts : List T3} {p q : P3} (h : nA ts p q = true) : nA ts p p = true:=by
 obtain ⟨t,ht,h1,_⟩:=pC.1 h;exact pC.2 ⟨t,ht,h1,h1⟩
theorem Rs {ts : List T3} {e : E3} (h : e ∈ aV ts) : nA ts e.1 e.2 = true:=by
 obtain ⟨t,ht,hx⟩:=List.mem_flatMap.1 h;refine pC.2 ⟨t,ht,?_,?_⟩ <;> rw [iN] <;> (simp only[List.mem_cons,List.not_mem_nil,or_false] at hx;rcases hx with rfl | rfl | rfl <;> simp)
theorem Rt {ts : List T3} {p q : P3} (h : nA ts p q = true) (hne : p ≠ q) : (p,q) ∈ aV ts ∨ (q,p) ∈ aV ts:=by
 obtain ⟨t,ht,h1,h2⟩:=pC.1 h;have key : ∀ e,e = (t.a,t.b) ∨ e = (t.b,t.c) ∨ e = (t.c,t.a) → e ∈ aV ts:=fun e he=>List.mem_flatMap.2 ⟨t,ht,by simpa using he⟩;rcases iN.1 h1 with rfl | rfl | rfl <;> rcases iN.1 h2 with rfl | rfl | rfl
 · exact absurd rfl hne
 · exact .inl (key _ (.inl rfl))
 · exact .inr (key _ (.inr (.inr rfl)))
 · exact .inr (key _ (.inl rfl))
 · exact absurd rfl hne
 · exact .inl (key _ (.inr (.inl rfl)))
 · exact .inl (key _ (.inr (.inr rfl)))
 · exact .inr (key _ (.inr (.inl rfl)))
 · exact absurd rfl hne
def aaB (t : T3) : List E3:=[(t.a,t.a),(t.a,t.b),(t.a,t.c),(t.b,t.a),(t.b,t.b),(t.b,t.c),(t.c,t.a),(t.c,t.b),(t.c,t.c)]
def lW (ts : List T3) : List E3:=ts.flatMap aaB
theorem Bi {ts : List T3} {e : E3} : e ∈ lW ts ↔ nA ts e.1 e.2 = true:=by
 unfold lW;rw [List.mem_flatMap,pC];refine exists_congr fun t=>and_congr Iff.rfl ?_;rw [iN,iN];obtain ⟨p,q⟩:=e;simp only[aaB,List.mem_cons,List.not_mem_nil,or_false,Prod.mk.injEq];constructor
 · rintro (h | h | h | h | h | h | h | h | h) <;> simp [h.1,h.2]
 · rintro ⟨h1 | h1 | h1,h2 | h2 | h2⟩ <;> simp [h1,h2]
theorem wI (ts : List T3) (e : E3) : (dD (gI [] (lW ts)) e).getD false = nA ts e.1 e.2:=by
 exact Bool.eq_iff_iff.2 (Fk.trans Bi)
theorem Ru {ts : List T3} {k : Nat} {t : T3} (h : ts[k]? = some t) : lW (ts.take (k + 1)) = lW (ts.take k) ++ aaB t:=by
 unfold lW;rw [dF h,List.flatMap_append];simp
/-! ### The border -/
def Ft (rim : List E3) : List P3:=rim.flatMap fun e=>[e.1,e.2]
theorem Dg {rim : List E3} {p : P3} : zW rim p = true ↔ p ∈ Ft rim:=by
 unfold zW Ft;rw [List.any_eq_true,List.mem_flatMap];refine exists_congr fun e=>and_congr Iff.rfl ?_;simp only[Bool.or_eq_true,decide_eq_true_eq,List.mem_cons,List.not_mem_nil,or_false];exact or_congr ⟨Eq.symm,Eq.symm⟩ ⟨Eq.symm,Eq.symm⟩
theorem Dh (rim : List E3) (p : P3) : (dD (gI [] (Ft rim)) p).getD false = zW rim p:=by
 rw [qM,Bool.eq_iff_iff,decide_eq_true_eq,Dg]
theorem Oi {rim : List E3} {k : Nat} {e : E3} (h : rim[k]? = some e) : Ft (rim.take (k + 1)) = Ft (rim.take k) ++ [e.1,e.2]:=by
 unfold Ft;rw [dF h,List.flatMap_append];simp
theorem aaC {ts : List T3} {p : P3} (h : zW (aQ ts) p = true) : p ∈ cL ts:=by
 obtain ⟨e,he,hp⟩:=List.mem_flatMap.1 (Dg.1 h);have hc:=Bg (kP.1 he).1;simp only[List.mem_cons,List.not_mem_nil,or_false] at hp;rcases hp with rfl | rfl
 · exact hc.1
 · exact hc.2
def Rv (fine : List T3) (rim : List E3) (e : E3) : Bool:=zW rim e.1 && zW rim e.2 && !nA fine e.1 e.2
theorem Jd {fine coarse : List T3} : jE fine coarse (aQ fine) = true ↔ ∃ e ∈ lW coarse,Rv fine (aQ fine) e = true:=by
 unfold jE;rw [List.any_eq_true];constructor
 · rintro ⟨e,he,h⟩
   exact ⟨e,Bi.2 (Rs he),h⟩
 · rintro ⟨e,he,h⟩
   have h0:=Bi.1 he;unfold Rv at h;simp only[Bool.and_eq_true,Bool.not_eq_true'] at h;obtain ⟨⟨h1,h2⟩,h3⟩:=h;obtain ⟨p,q⟩:=e;have hne : p ≠ q:=fun e=>by
    subst e;rw [Wp.2 (aaC h1)] at h3;cases h3
   rcases Rt h0 hne with k | k
   · exact ⟨_,k,by simp only at h1 h2 h3;simp [h1,h2,h3]⟩
   · refine ⟨_,k,?_⟩
     have h4 : nA fine q p = false:=by
      cases hh : nA fine q p with
      | false=>rfl
      | true=>rw [Bh hh] at h3;cases h3
     simp only at h1 h2;simp [h1,h2,h4]
/-! ### The ends of fans -/
def xA (ts : List T3) (rim : List E3) : List (E3 × P3):=rim.map fun e=>(e,sN ts e.1 ts.length e.2)
theorem wJ (ts : List T3) (rim : List E3) : (xA ts rim).map (·.1) = rim:=by
 unfold xA;rw [List.map_map];exact List.map_id' rim
theorem mK.nodup {es : List E3} (h : mK es) : es.Nodup:=List.Pairwise.imp (fun {a b} (k : Ao a b) (e : a = b)=>Ao.irrefl b (e ▸ k)) h
/-! ### Moves -/
theorem qN {fine coarse : List T3} {ms : List Mv} {rim : List E3} : lV fine coarse ms rim = true ↔ ∀ i m,ms[i]? = some m → nV fine coarse ms rim i m = true:=by
 unfold lV;rw [List.all_eq_true];constructor
 · intro h i m hm
   exact h (m,i) (List.mem_zipIdx_iff_getElem?.2 hm)
 · intro h x hx
   exact h x.2 x.1 (List.mem_zipIdx_iff_getElem?.1 hx)
theorem Rw {fine coarse : List T3} {ms : List Mv} {rim : List E3} (h : lV fine coarse ms rim = true) : ∀ i m k,ms[i]? = some k → ms[i + 1]? = some m → k.1.Lt m.1:=fun i m k hk hm=>by
 have:=qN.1 h (i + 1) m hm;unfold nV at this;simp only[Bool.and_eq_true,Bool.or_eq_true] at this;have h1:=this.1.1.1;rw [Nat.add_sub_cancel,hk] at h1;simpa using h1
theorem Ck : ∀ {ms : List Mv},(∀ (i : Nat) (m k : Mv),ms[i]? = some k → ms[i + 1]? = some m → k.1.Lt m.1) → (ms.map (·.1)).Pairwise P3.Lt
 | [],_=>List.Pairwise.nil
 | [m],_=>List.pairwise_singleton _ _
 | m :: k :: ms,h=>by
  have ih:=Ck (ms:=k :: ms) fun i a b h1 h2=>h (i + 1) a b h1 h2;have h0:=h 0 k m rfl rfl;rw [List.map_cons];refine List.pairwise_cons.2 ⟨fun x hx=>?_,ih⟩;rw [List.map_cons] at hx ih;rcases List.mem_cons.1 hx with rfl | hx
  · exact h0
  · exact P3.lt_trans h0 ((List.pairwise_cons.1 ih).1 x hx)
theorem Oj {fine coarse : List T3} {ms : List Mv} {rim : List E3} (h : lV fine coarse ms rim = true) : (ms.map (·.1)).Nodup :=
 List.Pairwise.imp (fun {a b} (k : P3.Lt a b) (e : a = b)=>P3.lt_irrefl b (e ▸ k)) (Ck (Rw h))
theorem Tn (p : P3) : ∀ ms : List Mv,dX ms p = (dD ms p).getD p
 | []=>rfl
 | m :: ms=>by
  rw [dX,dD];split
  · rfl
  · exact Tn p ms
theorem acf {ms : List Mv} (h : (ms.map (·.1)).Nodup) (p : P3) : (dD (mZ [] ms) p).getD p = dX ms p:=by
 rw [Tn,Fl _ _ _ h];cases dD ms p <;> rfl
theorem Fu {K : Type} [DecidableEq K] {V : Type} : ∀ (ks : List K) (D : List (K × V)) (a : K),(D.map (·.1)).Nodup → ((ks.foldl qJ D).map (·.1)).Nodup ∧ dD (ks.foldl qJ D) a = if a ∈ ks then none else dD D a
 | [],D,a,h=>⟨h,by simp⟩
 | k :: ks,D,a,h=>by
  obtain ⟨h1,h2⟩:=Fu ks (qJ D k) a (Rk h k);refine ⟨h1,?_⟩;rw [List.foldl_cons,h2,Iv k a h];by_cases ha : a ∈ ks
  · rw [if_pos ha,if_pos (List.mem_cons_of_mem _ ha)]
  · rw [if_neg ha]
    by_cases e : k = a
    · rw [if_pos e,if_pos (e ▸ List.mem_cons_self ..)]
    · rw [if_neg e,if_neg (fun k'=>(List.mem_cons.1 k').elim (fun e'=>e e'.symm) ha)]
theorem wK {fine coarse : List T3} {ms : List Mv} {rim : List E3} {cf cc : List P3} (hf : ∀ a,a ∈ cf ↔ a ∈ cL fine) (hc : ∀ a,a ∈ cc ↔ a ∈ cL coarse) (i : Nat) (m : Mv) :
 nV fine coarse ms rim i m = ((decide (i = 0) || (ms[i - 1]?).any fun k=>decide (k.1.Lt m.1)) && (dD ((Ft rim).foldl qJ (gI [] cf)) m.1).getD false && (dD (gI [] cf) m.2).getD false && (dD ((ms.map (·.1)).foldl qJ (gI [] cc)) m.2).getD false):=by
 have n1:=oH cf [] (by simp);have n2:=oH cc [] (by simp);have e1 : (dD ((Ft rim).foldl qJ (gI [] cf)) m.1).getD false = (pB fine m.1 && !zW rim m.1):=by
  rw [(Fu _ _ m.1 n1).2];by_cases h : m.1 ∈ Ft rim
  · rw [if_pos h,Dg.2 h];simp
  · have : zW rim m.1 = false:=by
     cases hh : zW rim m.1 with
     | false=>rfl
     | true=>exact absurd (Dg.1 hh) h
    rw [if_neg h,qM,this,Lg];simp [hf]
 have e2 : (dD (gI [] cf) m.2).getD false = pB fine m.2:=by rw [qM,Lg];simp [hf]
 have e3 : (dD ((ms.map (·.1)).foldl qJ (gI [] cc)) m.2).getD false = (pB coarse m.2 && ms.all fun k=>decide (k.1 ≠ m.2)):=by
  rw [(Fu _ _ m.2 n2).2];by_cases h : m.2 ∈ ms.map (·.1)
  · obtain ⟨k,hk,e⟩:=List.mem_map.1 h
    have : (ms.all fun k=>decide (k.1 ≠ m.2)) = false:=by
     rw [List.all_eq_false];exact ⟨k,hk,by simp [e]⟩
    rw [if_pos h,this];simp
  · have : (ms.all fun k=>decide (k.1 ≠ m.2)) = true:=by
     rw [List.all_eq_true];exact fun k hk=>decide_eq_true fun e=>h (List.mem_map.2 ⟨k,hk,e⟩)
    rw [if_neg h,qM,this,Lg];simp [hc]
 rw [e1,e2,e3,nV];cases (decide (i = 0) || (ms[i - 1]?).any fun k=>decide (k.1.Lt m.1)) <;> cases pB fine m.1 <;> cases zW rim m.1 <;> cases pB fine m.2 <;> cases pB coarse m.2 <;> simp
/-! ### Covers -/
def oL (ms : List Mv) (ts : List T3) : List T3:=(ts.filter fun t=>(t.img ms).nd).map fun t=>eC (t.img ms)
theorem zX {ms : List Mv} {ts : List T3} {k : Nat} {t : T3} (h : ts[k]? = some t) : oL ms (ts.take (k + 1)) = oL ms (ts.take k) ++ if (t.img ms).nd then [eC (t.img ms)] else []:=by
 unfold oL;rw [dF h,List.filter_append,List.map_append];cases hn : (t.img ms).nd <;> simp [hn]
theorem Fv (ms : List Mv) (u : T3) : ∀ ts : List T3,nW ms ts u = qV (oL ms ts) (eC u)
 | []=>rfl
 | t :: ts=>by
  have ih:=Fv ms u ts;unfold nW oL at ih ⊢;cases hn : (t.img ms).nd with
  | false=>rw [List.filter_cons_of_neg (by simp [hn]),List.filter_cons_of_neg (by simp [hn])];exact ih
  | true =>
   rw [List.filter_cons_of_pos (p:=fun t : T3=>(t.img ms).nd) (by simp [hn]),List.map_cons,oJ];by_cases e : eC u = eC (t.img ms)
   · rw [List.filter_cons_of_pos (by simp [hn,e]),List.length_cons,if_pos e.symm];omega
   · rw [List.filter_cons_of_neg (by simp [e]),if_neg (fun h=>e h.symm)];omega
theorem zY {K : Type} [DecidableEq K] {ks : List K} {a : K} : 0 < qV ks a ↔ a ∈ ks:=by
 unfold qV;rw [List.length_pos_iff_exists_mem];simp
def Rx (fine coarse : List T3) (ms : List Mv) (j : Nat) (t : T3) : Prop :=
 if (t.img ms).nd then eC (t.img ms) ∈ coarse.map eC ∧ eC (t.img ms) ∉ oL ms (fine.take j) else nA coarse (t.img ms).a (t.img ms).b = true ∧ nA coarse (t.img ms).b (t.img ms).c = true
theorem Fw {coarse : List T3} {x : T3} (h : x.nd = false) : mR coarse x = true ↔ nA coarse x.a x.b = true ∧ nA coarse x.b x.c = true:=by
 unfold mR;rw [h];simp only[Bool.false_eq_true,if_false];by_cases e : x.a = x.b
 · rw [if_pos e,← e]
   exact ⟨fun k=>⟨Jc k,k⟩,fun k=>k.2⟩
 · rw [if_neg e]
   refine ⟨fun k=>⟨k,?_⟩,fun k=>k.1⟩;by_cases e2 : x.b = x.c
   · rw [← e2];exact Jc (Bh k)
   · have e3 : x.c = x.a:=by
      unfold T3.nd at h;simp only[Bool.and_eq_false_iff,decide_eq_false_iff_not,ne_eq] at h;rcases h with (h | h) | h
      · exact absurd (Decidable.not_not.1 h) e
      · exact absurd (Decidable.not_not.1 h) e2
      · exact Decidable.not_not.1 h
     rw [e3];exact Bh k
theorem Ol {coarse : List T3} {x : T3} (h : x.nd = true) : mR coarse x = true ↔ eC x ∈ coarse.map eC:=by
 unfold mR;rw [h,if_pos rfl,List.any_eq_true,List.mem_map];exact exists_congr fun u=>and_congr Iff.rfl (by rw [decide_eq_true_eq])
theorem Fx {K : Type} [DecidableEq K] : ∀ {ks : List K},ks.Nodup → ∀ a,qV ks a ≤ 1
 | [],_,a=>Nat.zero_le _
 | k :: ks,h,a=>by
  rw [List.nodup_cons] at h;rw [oJ];by_cases e : k = a
  · subst e
    have : ¬ 0 < qV ks k:=fun q=>h.1 (zY.1 q);rw [if_pos rfl];omega
  · rw [if_neg e];have:=Fx h.2 a;omega
theorem wL {fine coarse : List T3} {ms : List Mv} : kC fine coarse ms = true ↔ (∀ j t,fine[j]? = some t → Rx fine coarse ms j t) ∧ ∀ u ∈ coarse,eC u ∈ oL ms fine:=by
 unfold kC;rw [Bool.and_eq_true,List.all_eq_true,List.all_eq_true];constructor
 · rintro ⟨h1,h2⟩
   have h3 : ∀ u ∈ coarse,qV (oL ms fine) (eC u) = 1:=fun u hu=>by rw [← Fv];exact of_decide_eq_true (h2 u hu)
   refine ⟨fun j t ht=>?_,fun u hu=>zY.1 (by rw [h3 u hu];decide)⟩;have hp:=h1 t (List.mem_of_getElem? ht);unfold Rx;cases hn : (t.img ms).nd with
   | false=>rw [if_neg (by simp)];exact (Fw hn).1 hp
   | true =>
    rw [if_pos rfl];have hm:=(Ol hn).1 hp;refine ⟨hm,fun k=>?_⟩;obtain ⟨u,hu,e⟩:=List.mem_map.1 hm;have hc:=h3 u hu;have e2 : oL ms fine = oL ms (fine.take (j + 1)) ++ oL ms (fine.drop (j + 1)):=by
     unfold oL;rw [← List.map_append,← List.filter_append,List.take_append_drop]
    rw [e2,Fm,zX ht,hn,if_pos rfl,Fm,e,oJ,if_pos rfl] at hc;have:=zY.2 k;omega
 · rintro ⟨h1,h2⟩
   have nd : ∀ j,(oL ms (fine.take j)).Nodup:=by
    intro j
    induction j with
    | zero=>simp [oL]
    | succ j ih =>
     cases ht : fine[j]? with
     | none =>
      have e : fine.take (j + 1) = fine.take j:=by
       have:=List.getElem?_eq_none_iff.1 ht;rw [List.take_of_length_le (by omega),List.take_of_length_le (by omega)]
      rw [e];exact ih
     | some t =>
      rw [zX ht];have k:=h1 j t ht;unfold Rx at k;cases hn : (t.img ms).nd with
      | false=>simpa using ih
      | true =>
       rw [hn,if_pos rfl] at k;rw [if_pos rfl];exact xQ.2 ⟨ih,k.2⟩
   refine ⟨fun t ht=>?_,fun u hu=>?_⟩
   · obtain ⟨j,hj⟩:=List.mem_iff_getElem?.1 ht
     have k:=h1 j t hj;unfold Rx at k;cases hn : (t.img ms).nd with
     | false=>rw [hn,if_neg (by simp)] at k;exact (Fw hn).2 k
     | true=>rw [hn,if_pos rfl] at k;exact (Ol hn).2 k.1
   · refine decide_eq_true ?_
     rw [Fv];have h3:=Fx (by have:=nd fine.length;rwa [List.take_length] at this) (eC u);have h4:=zY.2 (h2 u hu);omega
end Go.Lith
namespace Go.Lith
open Go.RowKit
section
variable {P : Program} {ops : Array Oper} {Q : Exit → Act → World → Prop} {rest : List Oper} {d j : Nat} {ty : TypeId} {pos : String} {after : Array Edge} {v : Value} {b : Bool} {ds : List Deferred} {l : List Value} {w w0 : World} {is : List It}
variable {f : FuncId} {fo : Operand} {xs : Array Operand} {args : List Value} {first cap : Array Value} {a0 : Array TypeId}
theorem rC (m : cA w0 w is) (hw : yielded ops l.toArray j = some b) (hf : ev l fo = .func (.func f) first cap) (hxs : b = true → first.toList ++ xs.toList.map (ev l) ++ cap.toList = args) (hc : b = true → eK P f args w fun x _=>x = v)
 (h : ∀ u,cA w0 u is → wpList P ops Q rest (Fr (l.set d (Ma b v)) ds) u) : wpList P ops Q (Oper.mk (some d) (.call { callee:=.value fo,args:=xs,argTypes:=a0 }) ty pos after (some (j,true)) :: rest) (Fr l ds) w:=by
 cases b with
 | false=>simp only[Ic] at h;exact cD hw (h w m)
 | true=>simp only[nH] at h;exact bN hw (eH m hf (hxs rfl) (hc rfl) fun x u m e=>by subst e;exact h u m)
theorem acg (m : cA w0 w is) (hw : yielded ops l.toArray j = some b) (hf : ev l fo = .func (.func f) first cap) (hxs : (!b) = true → first.toList ++ xs.toList.map (ev l) ++ cap.toList = args) (hc : (!b) = true → eK P f args w fun x _=>x = v)
 (h : ∀ u,cA w0 u is → wpList P ops Q rest (Fr (l.set d (Ma (!b) v)) ds) u) : wpList P ops Q (Oper.mk (some d) (.call { callee:=.value fo,args:=xs,argTypes:=a0 }) ty pos after (some (j,false)) :: rest) (Fr l ds) w:=by
 cases b with
 | true=>simp only[Bool.not_true,Ic] at h;exact fV hw (h w m)
 | false=>simp only[Bool.not_false,nH] at h;exact bN hw (eH m hf (hxs rfl) (hc rfl) fun x u m e=>by subst e;exact h u m)
end
section
variable {P : Program} {ops : Array Oper} {Q : Act → Prop} {rest : List Oper} {d j : Nat} {ty : TypeId} {pos : String} {after : Array Edge} {v : Value} {b : Bool} {ds : List Deferred} {l : List Value} {w0 : World} {is : List It}
variable {f : FuncId} {fo : Operand} {xs : Array Operand} {args : List Value} {first cap : Array Value} {a0 : Array TypeId}
end
theorem agB {c : Bool} {u v : Value} {cs : Array Value} (hb : c = true) (h : u = Ma c v) (hv : v.cells = cs) : u.cells = cs:=by rw [h,hb,nH,hv]
/-! ### Rows of edges and moves -/
theorem rP {w : World} {a : Addr} {e : E3} (h : jK w a (bU e)) : jK w (a.add 0) [.int .i64 e.1.x,.int .i64 e.1.y,.int .i64 e.1.z]:=(h.sub 0).take 3
theorem vN {w : World} {a : Addr} {e : E3} (h : jK w a (bU e)) : jK w (a.add 3) [.int .i64 e.2.x,.int .i64 e.2.y,.int .i64 e.2.z]:=h.sub 3
theorem nS.one {α : Type} {enc : α → List Value} {c : Nat} {w : World} {a : Addr} {x : α} (h : jK w a (enc x)) : nS enc c w (some a) 1 [x]:=⟨rfl,fun i y hy=>by
 cases i with
 | zero=>cases hy;exact ⟨a,rfl,by rw [Nat.zero_mul];exact h⟩
 | succ i=>cases hy⟩
theorem agC {x y z p : P3} : ((decide (x.x = p.x ∧ x.y = p.y ∧ x.z = p.z) || decide (y.x = p.x ∧ y.y = p.y ∧ y.z = p.z)) || decide (z.x = p.x ∧ z.y = p.y ∧ z.z = p.z)) = (decide (x = p) || decide (y = p) || decide (z = p)):=by
 simp only[gH]
theorem agD {x y p : P3} : (decide (x.x = p.x ∧ x.y = p.y ∧ x.z = p.z) || decide (y.x = p.x ∧ y.y = p.y ∧ y.z = p.z)) = (decide (x = p) || decide (y = p)):=by
 simp only[gH]
end Go.Lith
