/-
 Texts of one claim, laid together: Rchk, Rchk2, Sort, Sets, Box, Wa, Wb, Wc, Wd, Guard2.
-/
import Derived.Shelf.SlSortCmp.WholeK
import Derived.Shelf.SlSortCmp.NoneTotal
import Derived.Test.YtfohfflkhpfjeaaGreatDoorE2
set_option maxHeartbeats 8000000
set_option linter.unusedSimpArgs false
set_option linter.unusedVariables false
set_option linter.unusedSectionVars false
namespace Go.Proofs.YtfohfflkhpfjeaaGreatDoor
open Go.Proofs.Tryz
open Go.RowKit Go.Lith
set_option maxRecDepth 100000
attribute [local irreducible] wpList wpQuiet dY dO dN Code.wp
theorem sY {p q : P3} : iX prog 82 [pt p,pt q] (.bool (decide (p.Lt q))):=by
 intro w;refine ⟨afk,?_⟩;have m:=cF.refl w
 go_enter func82,ntmps82
 refine aF fun K1 k1=>wp_region_lit (eP m rfl ?_);clear m;intro g1 u m;simp only[zz];refine eP m rfl ?_;clear m;intro g2 u m;refine aA (aD) (aG (k1 _ _ ?_));refine aF fun K2 k2=>aF fun K3 k3=>wp_region_lit (aA (aO (c:=0) dW rfl bG rfl rfl) ?_);simp only[zz];refine aL rfl ((m.b 1 rfl).lies1 bZ rfl) ?_;simp only[zz];refine aA (aO (c:=0) dW rfl bG rfl rfl) ?_;simp only[zz];refine aL rfl ((m.b 0 rfl).lies1 bZ rfl) ?_;simp only[zz];refine aA (kW rfl rfl) (aG (k3 _ _ ?_));simp only[zz];refine cC rfl (fun hc1=>?_) (fun hc1=>?_)
 ·
  refine aF fun K4 k4=>wp_region_lit (aA (aO (c:=0) dW rfl bG rfl rfl) ?_);simp only[zz];refine aL rfl ((m.b 1 rfl).lies1 bZ rfl) ?_;simp only[zz];refine aA (aO (c:=0) dW rfl bG rfl rfl) ?_;simp only[zz];refine aL rfl ((m.b 0 rfl).lies1 bZ rfl) ?_;simp only[zz];refine aA (cO rfl rfl) (aA (aD) (aG (k4 _ _ ?_)));refine wp_ret ?_;simp only[zz];try simp only[Exit.inBlock,Exit.then,if_true]
  refine bS rfl rfl ?_;try simp only[zD,zE]
  exact ⟨_,rfl,m.ext,by simp only[P3.lt_x hc1]⟩
 ·
  have ex : p.x = q.x:=by omega
  refine wp_skip (k2 _ _ ?_);refine aF fun K5 k5=>aF fun K6 k6=>wp_region_lit (aA (aO (c:=0) dW rfl bG rfl rfl) ?_);simp only[zz];refine aL rfl ((m.b 1 rfl).lies1 bZ rfl) ?_;simp only[zz];refine aA (aO (c:=0) dW rfl bG rfl rfl) ?_;simp only[zz];refine aL rfl ((m.b 0 rfl).lies1 bZ rfl) ?_;simp only[zz];refine aA (kW rfl rfl) (aG (k6 _ _ ?_));simp only[zz];refine cC rfl (fun hc2=>?_) (fun hc2=>?_)
  ·
   refine aF fun K7 k7=>wp_region_lit (aA (aO (c:=0) dW rfl bG rfl rfl) ?_);simp only[zz];refine aL rfl ((m.b 1 rfl).lies1 bZ rfl) ?_;simp only[zz];refine aA (aO (c:=0) dW rfl bG rfl rfl) ?_;simp only[zz];refine aL rfl ((m.b 0 rfl).lies1 bZ rfl) ?_;simp only[zz];refine aA (cO rfl rfl) (aA (aD) (aG (k7 _ _ ?_)));refine wp_ret ?_;simp only[zz];try simp only[Exit.inBlock,Exit.then,if_true]
   refine bS rfl rfl ?_;try simp only[zD,zE]
   exact ⟨_,rfl,m.ext,by simp only[P3.lt_y ex hc2]⟩
  ·
   have ey : p.y = q.y:=by omega
   refine wp_skip (k5 _ _ ?_);refine aF fun K8 k8=>wp_region_lit (aA (aO (c:=0) dW rfl bG rfl rfl) ?_);simp only[zz];refine aL rfl ((m.b 1 rfl).lies1 bZ rfl) ?_;simp only[zz];refine aA (aO (c:=0) dW rfl bG rfl rfl) ?_;simp only[zz];refine aL rfl ((m.b 0 rfl).lies1 bZ rfl) ?_;simp only[zz];refine aA (cO rfl rfl) (aA (aD) (aG (k8 _ _ ?_)));refine wp_ret ?_;simp only[zz];try simp only[Exit.inBlock,Exit.then,if_true]
   refine bS rfl rfl ?_;try simp only[zD,zE]
   exact ⟨_,rfl,m.ext,by simp only[P3.lt_z ex ey]⟩
theorem Ys {a b : E3} : iX prog 38 [ed a,ed b] (.bool (Rc a b)):=by
 intro w;refine ⟨aeE,?_⟩;have m:=cF.refl w
 go_enter func38,ntmps38
 refine aF fun K1 k1=>wp_region_lit (eP m rfl ?_);clear m;intro g1 u m;simp only[zz];refine eP m rfl ?_;clear m;intro g2 u m;refine aA (aD) (aG (k1 _ _ ?_));refine aF fun K2 k2=>aF fun K3 k3=>wp_region_lit (aA (aH cH aC rfl rfl (by decide) (by decide) rfl) ?_);simp only[zz];refine aL rfl ((m.b 1 rfl).lies aJ aC rfl rfl) ?_;simp only[zz,zy,Nat.zero_add,Nat.reduceAdd,Nat.reduceMul,Int.reduceToNat];refine aA (aH cH aC rfl rfl (by decide) (by decide) rfl) ?_;simp only[zz];refine aL rfl ((m.b 0 rfl).lies aJ aC rfl rfl) ?_;simp only[zz,zy,Nat.zero_add,Nat.reduceAdd,Nat.reduceMul,Int.reduceToNat];refine aA (fW rfl rfl) (aG (k3 _ _ ?_));simp only[zz];refine cC rfl (fun hc1=>?_) (fun hc1=>?_)
 ·
  refine aF fun K4 k4=>wp_region_lit (aA (aH cH aC rfl rfl (by decide) (by decide) rfl) ?_);simp only[zz];refine aL rfl ((m.b 1 rfl).lies aJ aC rfl rfl) ?_;simp only[zz,zy,Nat.zero_add,Nat.reduceAdd,Nat.reduceMul,Int.reduceToNat];refine aA (aH cH aC rfl rfl (by decide) (by decide) rfl) ?_;simp only[zz];refine aL rfl ((m.b 0 rfl).lies aJ aC rfl rfl) ?_;simp only[zz,zy,Nat.zero_add,Nat.reduceAdd,Nat.reduceMul,Int.reduceToNat];refine gJ m rfl rfl (sY (p:=a.1) (q:=b.1)) ?_;clear m;intro u m;refine aA (aD) (aG (k4 _ _ ?_));refine wp_ret ?_;simp only[zz];try simp only[Exit.inBlock,Exit.then,if_true]
  refine bS rfl rfl ?_;try simp only[zD,zE]
  exact ⟨_,rfl,m.ext,by rw [Rc,if_pos (fun h=>hc1 (by rw [h];exact ⟨rfl,rfl,rfl⟩))]⟩
 ·
  refine wp_skip (k2 _ _ ?_);refine aF fun K5 k5=>wp_region_lit (aA (aH cH aC rfl rfl (by decide) (by decide) rfl) ?_);simp only[zz];refine aL rfl ((m.b 1 rfl).lies aJ aC rfl rfl) ?_;simp only[zz,zy,Nat.zero_add,Nat.reduceAdd,Nat.reduceMul,Int.reduceToNat];refine aA (aH cH aC rfl rfl (by decide) (by decide) rfl) ?_;simp only[zz];refine aL rfl ((m.b 0 rfl).lies aJ aC rfl rfl) ?_;simp only[zz,zy,Nat.zero_add,Nat.reduceAdd,Nat.reduceMul,Int.reduceToNat];refine gJ m rfl rfl (sY (p:=a.2) (q:=b.2)) ?_;clear m;intro u m;refine aA (aD) (aG (k5 _ _ ?_));refine wp_ret ?_;simp only[zz];try simp only[Exit.inBlock,Exit.then,if_true]
  refine bS rfl rfl ?_;try simp only[zD,zE]
  exact ⟨_,rfl,m.ext,by rw [Rc,if_neg (fun h=>h (P3.eq (Classical.not_not.1 hc1).1 (Classical.not_not.1 hc1).2.1 (Classical.not_not.1 hc1).2.2))]⟩
theorem Rf {ts : List T3} {N cap : Nat} {A : Option Addr} (w : World) (hT : fA w A N ts) (hN : N ≤ 1000000000) : eL prog 36 [.slice A N cap] w (SL 57 6 ((bB ts).flatMap cB) (bB ts).length w):=by
 refine ⟨aeC,?_⟩;have m:=cF.refl w
 go_enter func36,ntmps36
 refine aF fun K1 k1=>wp_region_lit (aA (aD) (aG (k1 _ _ ?_)));refine aF fun K2 k2=>wp_region_lit (aA (aD) ?_);replace m:=m.nilO 57 6;refine aG (k2 _ _ ?_);refine aF fun K3 k3=>aF fun K4 k4=>wp_region_lit (aA (aD) (aG (k4 _ _ ?_)));refine wp_block ?_;simp only[zz];try simp only[Nat.zero_add,Nat.reduceAdd,Nat.reduceMul,Int.reduceToNat]
 refine bJ [3,4] [5,6,7,8,9,10,11,12,13,14,15,16,17,18,19,20,21,22,23,24,25,26,27,28,29,30,31,32,33] (fun n vs wl=>∃ (k : Nat) (A3 : Option Addr) (cap3 : Nat),vs = [.slice A3 (bB (ts.take k)).length cap3,.int .i64 (k:Int)] ∧ cF w wl [oI 57 6 A3 (bB (ts.take k)).length cap3 ((bB (ts.take k)).flatMap cB)] ∧ (k ≤ N) ∧ (n = N - k)) ?_ ?_
 ·
  apply Exists.intro;simp only[zQ,zR,zD,zE];exact ⟨0,_,_,rfl,m,Nat.zero_le _,rfl⟩
 ·
  intro n vs wr hI u;clear m;obtain ⟨k,A3,cap3,rfl,m,hk,hn⟩:=hI;simp only[zu,zF,zG];refine aF fun K5 k5=>aF fun K6 k6=>wp_region_lit (aA (aB) (aA (aB) (aA (bA rfl bV rfl) (aA (cO rfl rfl) ?_))));simp only[zz];refine aG (k6 _ _ ?_);refine cC rfl (fun hc1=>?_) (fun hc1=>?_)
  ·
   obtain ⟨t,ht,_,a,rfl,hrow⟩:=hT.get (i:=k) (by omega);refine wp_skip (k5 _ _ ?_);refine aF fun K7 k7=>wp_block (aF fun K8 k8=>wp_region_lit (aA (aB) (aA (aB) ?_)));simp only[zz];refine aA (aK bV aS rfl rfl (by omega) (by omega) (bY (Int.toNat_natCast _))) ?_;simp only[zz];refine aL rfl ((hrow.ext m.ext).lies eF aS) ?_;simp only[zz];refine bH m kB rfl ?_;clear m;intro g1 u m;simp only[zz];refine aT m 0 rfl rfl rfl aS (dX rfl) rfl ?_;clear m;intro u m;simp only[zy,zx,bK,zF,zG,Nat.reduceAdd] at m;refine aG (k8 _ _ ?_);refine wp_region_lit (aA (aB) (aA (aH aY aC rfl rfl (by decide) (by decide) rfl) ?_));simp only[zz];refine aL rfl ((m.b 0 rfl).lies aJ aC rfl rfl) ?_;simp only[zz,zy,Nat.zero_add,Nat.reduceAdd,Nat.reduceMul,Int.reduceToNat];refine aA (aH aY aC rfl rfl (by decide) (by decide) rfl) ?_;simp only[zz];refine aL rfl ((m.b 0 rfl).lies aJ aC rfl rfl) ?_;simp only[zz,zy,Nat.zero_add,Nat.reduceAdd,Nat.reduceMul,Int.reduceToNat];refine aA (cL rfl rfl) (aA (aH aY aC rfl rfl (by decide) (by decide) rfl) ?_);simp only[zz];refine aL rfl ((m.b 0 rfl).lies aJ aC rfl rfl) ?_;simp only[zz,zy,Nat.zero_add,Nat.reduceAdd,Nat.reduceMul,Int.reduceToNat];refine aA (aH aY aC rfl rfl (by decide) (by decide) rfl) ?_;simp only[zz];refine aL rfl ((m.b 0 rfl).lies aJ aC rfl rfl) ?_;simp only[zz,zy,Nat.zero_add,Nat.reduceAdd,Nat.reduceMul,Int.reduceToNat];refine aA (cL rfl rfl) (aA (aH aY aC rfl rfl (by decide) (by decide) rfl) ?_);simp only[zz];refine aL rfl ((m.b 0 rfl).lies aJ aC rfl rfl) ?_;simp only[zz,zy,Nat.zero_add,Nat.reduceAdd,Nat.reduceMul,Int.reduceToNat];refine aA (aH aY aC rfl rfl (by decide) (by decide) rfl) ?_;simp only[zz];refine aL rfl ((m.b 0 rfl).lies aJ aC rfl rfl) ?_;simp only[zz,zy,Nat.zero_add,Nat.reduceAdd,Nat.reduceMul,Int.reduceToNat];refine aA (cL rfl rfl) ?_;simp only[zz];refine Hf rfl rfl rfl ?_;intro u g2 e hg hB;replace m:=m.newB e hg hB;clear e hg hB;simp only[zz];refine eG m 2 rfl rfl eU sV rfl (by decide) rfl rfl rfl (m.b 0 rfl).rowsO (qX rfl) (by have:=jD (ts.take k);rw [List.length_take] at this;omega) (by have:=jD (ts.take k);rw [List.length_take] at this;omega) ?_;clear m;intro A3 cap3 u m;simp only[zF,zG] at m;rw [show (bB (ts.take k)).flatMap cB ++ _ = (bB (ts.take (k + 1))).flatMap cB by rw [jZ ht,List.flatMap_append];rfl,show (bB (ts.take k)).length + 3 = (bB (ts.take (k + 1))).length by rw [jZ ht,List.length_append];rfl] at m;rw [show (bB (ts.take k)).length + 3 = (bB (ts.take (k + 1))).length by rw [jZ ht,List.length_append];rfl];refine aA (aD) (aG (k7 _ _ ?_));refine wp_region_lit (aA (aB) ?_);simp only[zz];refine aA (aQ rfl rfl (aM (by omega) (by omega))) (aA (aD) (aG ?_));simp only[zz];simp only[Exit.inBlock,Exit.then];refine ⟨N - (k + 1),_,?_,rfl,?_,?_⟩
   · omega
   · simp only[zz,zv]
   ·
    simp only[zQ,zR,zD,zE];exact ⟨k + 1,_,_,rfl,(m.sel [false,false,true]),by omega,rfl⟩
  ·
   have hkN : k = N:=by omega
   rw [hkN,show ts.take N = ts from List.take_of_length_le (by rw [hT.len];exact Nat.le_refl _)] at m ⊢;refine wp_exit (k3 _ _ ?_);refine aF fun K9 k9=>wp_region_lit (aA (aB) (aA (aD) (aG (k9 _ _ ?_))));refine wp_ret ?_;simp only[zz];try simp only[Exit.inBlock,Exit.then,if_true]
   refine bS rfl rfl ?_;try simp only[zD,zE]
   exact ⟨_,rfl,m.ext,⟨_,_,_,rfl,rfl,(m.o 0 rfl)⟩⟩
theorem Cb {es : List E3} {N cap : Nat} {A : Option Addr} {e : E3} (w : World) (hL : oU cB 6 w A N es) (hN : N ≤ 1000000000) : eL prog 37 [.slice A N cap,ed e] w (fun v _=>v = .int .i64 ((kA es e : Nat) : Int)):=by
 refine ⟨aeD,?_⟩;have m:=cF.refl w
 go_enter func37,ntmps37
 refine aF fun K1 k1=>wp_region_lit (eP m rfl ?_);clear m;intro g1 u m;refine aA (aD) (aG (k1 _ _ ?_));refine aF fun K2 k2=>wp_region_lit (aA (aD) (aG (k2 _ _ ?_)));refine aF fun K3 k3=>aF fun K4 k4=>wp_region_lit (aA (aD) ?_);simp only[zz];refine aG (k4 _ _ ?_);refine wp_block ?_;try simp only[Nat.zero_add,Nat.reduceAdd,Nat.reduceMul,Int.reduceToNat]
 refine bJ [5,6] [7,8,9,10,11,12,13,14,15,16,17,18,19,20] (fun n vs wl=>∃ (k q : Nat),vs = [.int .i64 (q : Int),.int .i64 (k:Int)] ∧ cF w wl [bI g1 (cB e) 57] ∧ (q = kA (es.take k) e) ∧ (k ≤ N) ∧ (n = N - k)) ?_ ?_
 ·
  apply Exists.intro;simp only[zQ,zR,zD,zE];exact ⟨0,0,rfl,m,rfl,Nat.zero_le _,rfl⟩
 ·
  intro n vs wr hI u;clear m;obtain ⟨k,q,rfl,m,hq,hk,hn⟩:=hI;subst hq;simp only[zu,zF,zG];refine aF fun K5 k5=>aF fun K6 k6=>wp_region_lit (aA (aB) (aA (aB) (aA (bA rfl eU rfl) (aA (cO rfl rfl) ?_))));simp only[zz];refine aG (k6 _ _ ?_);refine cC rfl (fun hc1=>?_) (fun hc1=>?_)
  ·
   obtain ⟨x,hx,a,rfl,hrow⟩:=hL.get (i:=k) (by omega);refine wp_skip (k5 _ _ ?_);refine aF fun K7 k7=>wp_block (aF fun K8 k8=>mq m aP (by kernel_rfl) (aI (aB) (aI (aB) ?_)));simp only[zz];refine aI (aK eU cK rfl rfl (by omega) (by omega) (bY (Int.toNat_natCast _))) ?_;simp only[zz];refine ql rfl (fun u m=>((hrow.ext m.ext).lies jR cK)) ?_;simp only[zz];refine ql rfl (fun u m=>((m.b 0 rfl).full jR cK)) ?_;simp only[zz];refine aI (Ub rfl rfl) (cP ?_);clear m;intro u m;refine k8 _ _ ?_;simp only[zz];refine cC rfl (fun hc2=>?_) (fun hc2=>?_)
   ·
    have hxe : x = e:=Prod.ext (P3.eq hc2.1 hc2.2.1 hc2.2.2.1) (P3.eq hc2.2.2.2.1 hc2.2.2.2.2.1 hc2.2.2.2.2.2);have hcl : kA (es.take k) e ≤ N:=Nat.le_trans acD (by rw [List.length_take];omega);have hs:=Lg (e:=e) hx;rw [if_pos hxe] at hs;refine wp_region_lit (aA (aB) ?_);simp only[zz];refine aA (aQ rfl rfl (aM (by omega) (by omega))) (aA (aD) (aG (k7 _ _ ?_)));refine wp_region_lit (aA (aB) ?_);simp only[zz];refine aA (aQ rfl rfl (aM (by omega) (by omega))) (aA (aD) (aG ?_));simp only[zz];rw [show ((kA (es.take k) e : Nat) : Int) + 1 = ((kA (es.take (k + 1)) e : Nat) : Int) by rw [hs];rfl];simp only[Exit.inBlock,Exit.then];refine ⟨N - (k + 1),_,?_,rfl,?_,?_⟩
    · omega
    · simp only[zz,zv]
    ·
     simp only[zQ,zR,zD,zE];exact ⟨k + 1,kA (es.take (k + 1)) e,rfl,m,rfl,by omega,rfl⟩
   ·
    have hs : kA (es.take (k + 1)) e = kA (es.take k) e:=(Lg (e:=e) hx).trans (by rw [if_neg (fun h=>hc2 (by rw [h];exact ⟨rfl,rfl,rfl,rfl,rfl,rfl⟩))];rfl);refine wp_skip (k7 _ _ ?_);refine wp_region_lit (aA (aB) ?_);simp only[zz];refine aA (aQ rfl rfl (aM (by omega) (by omega))) (aA (aD) (aG ?_));simp only[zz];rw [← hs];simp only[Exit.inBlock,Exit.then];refine ⟨N - (k + 1),_,?_,rfl,?_,?_⟩
    · omega
    · simp only[zz,zv]
    ·
     simp only[zQ,zR,zD,zE];exact ⟨k + 1,kA (es.take (k + 1)) e,rfl,m,rfl,by omega,rfl⟩
  ·
   have hkN : k = N:=by omega
   rw [hkN,show es.take N = es from List.take_of_length_le (by rw [hL.len];exact Nat.le_refl _)];refine wp_exit (k3 _ _ ?_);refine aF fun K9 k9=>wp_region_lit (aA (aB) (aA (aD) (aG (k9 _ _ ?_))));refine wp_ret ?_;simp only[zz];try simp only[Exit.inBlock,Exit.then,if_true]
   refine bS rfl rfl ?_;try simp only[zD,zE]
   exact ⟨_,rfl,m.ext,rfl⟩
theorem abi {ps : List P3} {N cap : Nat} {A : Option Addr} {p : P3} (w : World) (hL : oU uC 3 w A N ps) (hN : N ≤ 1000000000) (hcap : N ≤ cap) : eL prog 100 [.slice A N cap,pt p] w (fun v w'=>(v = .slice A N cap ∧ iK ps p = ps) ∨ SL 48 3 ((iK ps p).flatMap uC) (iK ps p).length w v w'):=by
 refine ⟨Jb,?_⟩;have m:=cF.refl w;obtain rfl : ps.length = N:=hL.len
 go_enter func100,ntmps100
 refine aF fun K1 k1=>wp_region_lit (eP m rfl ?_);clear m;intro g1 u m;refine aA (aD) (aG (k1 _ _ ?_));refine aF fun K2 k2=>wp_region_lit (aA (aD) (aG (k2 _ _ ?_)));refine aF fun K3 k3=>wp_block ?_;simp only[zz];try simp only[Nat.zero_add,Nat.reduceAdd,Nat.reduceMul,Int.reduceToNat]
 refine bJ [5] [6,8,9,10,11,12,13,14,15,16,17,18,19,20,21] (fun n vs wl=>∃ (k : Nat),vs = [.int .i64 (k:Int)] ∧ cF w wl [bI g1 (uC p) 48] ∧ (Pre (fun x=>decide (x.Lt p)) ps k) ∧ (k ≤ ps.length) ∧ (n = ps.length - k)) ?_ ?_
 ·
  apply Exists.intro;simp only[zQ,zR,zD,zE];exact ⟨0,rfl,m,Pre.zero,Nat.zero_le _,rfl⟩
 ·
  intro n vs wr hI u;clear m;obtain ⟨k,rfl,m,hpre,hk,hn⟩:=hI;simp only[zu,zF,zG];refine aF fun K4 k4=>aF fun K5 k5=>wp_region_lit (aA (aB) (aA (aB) (aA (bA rfl kK rfl) (aA (cO rfl rfl) ?_))));simp only[zz];refine aG (k5 _ _ ?_);refine cC rfl (fun hc1=>?_) (fun hc1=>?_)
  ·
   obtain ⟨x,hx,a,rfl,hrow⟩:=hL.get (i:=k) (by omega);refine wp_skip (k4 _ _ ?_);refine wp_block (aF fun K6 k6=>mq m aP (by kernel_rfl) (aI (aB) (aI (aB) ?_)));simp only[zz];refine aI (aK kK aC rfl rfl (by omega) (by omega) (bY (Int.toNat_natCast _))) ?_;simp only[zz];refine ql rfl (fun u m=>((hrow.ext m.ext).lies aJ aC)) ?_;simp only[zz];refine ql rfl (fun u m=>((m.b 0 rfl).full aJ aC)) ?_;simp only[zz];refine sS rfl rfl (sY) (aI (aD) (cP ?_));clear m;intro u m;refine k6 _ _ ?_;refine aF fun K7 k7=>aF fun K8 k8=>wp_region_lit (aA (aB) (aA (fN rfl) ?_));simp only[zz];refine aG (k8 _ _ ?_);refine lI rfl (fun hc2=>?_) (fun hc2=>?_)
   ·
    have hpos : Tp ps p = k:=ab8 hpre hx (by simpa using hc2);refine wp_exit (k3 _ _ ?_);refine aF fun K9 k9=>aF fun K10 k10=>mq m aP (by kernel_rfl) (aI (aB) (aI (aB) (aI (bA rfl kK rfl) ?_)));simp only[zz];refine aI (bW rfl rfl (by omega)) (aI (aB) (aN rfl (aI (aB) (aN rfl (aI (aB) ?_)))));simp only[zz];refine aN rfl (aI (aK kK aC rfl rfl (by omega) (by omega) (bY (Int.toNat_natCast _))) (aN rfl ?_));simp only[zz];refine ql rfl (fun u m=>((hrow.ext m.ext).lies aJ aC)) ?_;simp only[zz];refine aN rfl (ql rfl (fun u m=>((m.b 0 rfl).full aJ aC)) ?_);simp only[zz];refine aN rfl (aI (aW rfl rfl) (aI (cJ rfl) (cP ?_)));clear m;intro u m;refine k10 _ _ ?_;simp only[zz];refine cC rfl (fun hc3=>?_) (fun hc3=>?_)
    ·
     have hxp : x = p:=P3.eq hc3.1 hc3.2.1 hc3.2.2;refine aF fun K11 k11=>wp_region_lit (aA (aB) (aA (aD) (aG (k11 _ _ ?_))));refine wp_ret ?_;simp only[zz];try simp only[Exit.inBlock,Exit.then,if_true]
     refine bS rfl rfl ?_;try simp only[zD,zE]
     exact ⟨_,rfl,m.ext,.inl ⟨rfl,by rw [iK,hpos,hx,if_pos (by rw [hxp])]⟩⟩
    ·
     have hw : iK ps p = ps.take k ++ [p] ++ ps.drop k:=by unfold iK;rw [hpos,if_neg (by rw [hx];exact fun h=>hc3 (by cases h;exact ⟨rfl,rfl,rfl⟩))]
     refine wp_skip (k9 _ _ ?_);refine aF fun K12 k12=>wp_region_lit (aA (aD) ?_);replace m:=m.nilO 48 3;refine aG (k12 _ _ ?_);refine aF fun K13 k13=>wp_region_lit (aA (aB) (aA (aB) (aA (aB) ?_)));simp only[zz];refine aA (kZ kK aC rfl rfl (Int.toNat_natCast _) (by omega) (by omega)) ?_;simp only[zz];refine eG m 0 rfl rfl kK uH rfl (by decide) rfl rfl (by rw [jC Lf,List.length_take,Nat.min_eq_left (by omega)]) (((hL.take (by omega)).ext m.ext).cells Lf (by decide)) (Iz _) (by omega) (by omega) ?_;clear m;intro A7 cap7 u m;simp only[zF,zG] at m;rw [List.nil_append,Nat.zero_add] at m;rw [Nat.zero_add];refine aA (aD) (aG (k13 _ _ ?_));refine aF fun K14 k14=>wp_region_lit (aA (aB) ?_);simp only[zz];refine aL rfl ((m.b 1 rfl).full aJ aC) ?_;simp only[zz];refine vE rfl ?_;intro u g2 e hg hB;replace m:=m.newB e hg hB;clear e hg hB;simp only[zz];refine eG m 1 rfl rfl kK uH rfl (by decide) rfl rfl rfl (m.b 0 rfl).rowsO (qX rfl) (by omega) (by omega) ?_;clear m;intro A7 cap7 u m;simp only[zF,zG] at m;refine aA (aD) (aG (k14 _ _ ?_));refine aF fun K15 k15=>wp_region_lit (aA (aB) (aA (aB) ?_));simp only[zz];refine aA (aB) ?_;simp only[zz];refine aA (kM kK aC rfl rfl (Int.toNat_natCast _) (by omega) (by omega) rfl) ?_;simp only[zz];refine eG m 1 rfl rfl kK uH rfl (by decide) rfl rfl (by rw [jC Lf,List.length_drop]) ((hL.ext m.ext).cellsD Lf (by decide) hcap) (Iz _) (by omega) (by omega) ?_;clear m;intro A7 cap7 u m;simp only[zF,zG] at m;refine aA (aD) (aG (k15 _ _ ?_));refine wp_ret ?_;simp only[zz];try simp only[Exit.inBlock,Exit.then,if_true]
     refine bS rfl rfl ?_;try simp only[zD,zE]
     exact ⟨_,rfl,m.ext,.inr ⟨_,_,_,by rw [hw];simp;omega,rfl,(m.o 1 rfl).as (by rw [hw,List.flatMap_append,List.flatMap_append];rfl)⟩⟩
   ·
    have hpre2:=hpre.step hx (by simpa using hc2);refine wp_skip (k7 _ _ ?_);refine wp_region_lit (aA (aB) ?_);simp only[zz];refine aA (aQ rfl rfl (aM (by omega) (by omega))) (aA (aD) (aG ?_));simp only[zz];simp only[Exit.inBlock,Exit.then];refine ⟨ps.length - (k + 1),_,?_,rfl,?_,?_⟩
    · omega
    · simp only[zz,zv]
    ·
     simp only[zQ,zR,zD,zE];exact ⟨k + 1,rfl,m,hpre2,by omega,rfl⟩
  ·
   obtain rfl : k = ps.length:=by omega
   have hpos : Tp ps p = ps.length:=Yd hpre;have hw : iK ps p = ps.take ps.length ++ [p] ++ ps.drop ps.length:=by unfold iK;rw [hpos,if_neg (by rw [List.getElem?_eq_none (Nat.le_refl _)];simp)]
   refine wp_exit (k3 _ _ ?_);refine aF fun K16 k16=>aF fun K17 k17=>mq m aP (by kernel_rfl) (aI (aB) (aI (aB) (aI (bA rfl kK rfl) ?_)));simp only[zz];refine aI (eM rfl rfl (by omega)) (aI (aB) (aV rfl (aV rfl ?_)));simp only[zz];refine aV rfl (aV rfl (aV rfl (aV rfl ?_)));simp only[zz];refine aI (cG rfl) (cP ?_);clear m;intro u m;refine k17 _ _ (iD rfl (wp_skip (k16 _ _ ?_)));refine aF fun K18 k18=>wp_region_lit (aA (aD) ?_);replace m:=m.nilO 48 3;refine aG (k18 _ _ ?_);refine aF fun K19 k19=>wp_region_lit (aA (aB) (aA (aB) ?_));simp only[zz];refine aA (aB) ?_;simp only[zz];refine aA (kZ kK aC rfl rfl (Int.toNat_natCast _) (by omega) (by omega)) ?_;simp only[zz];refine eG m 0 rfl rfl kK uH rfl (by decide) rfl rfl (by rw [jC Lf,List.length_take,Nat.min_eq_left (by omega)]) (((hL.take (by omega)).ext m.ext).cells Lf (by decide)) (Iz _) (by omega) (by omega) ?_;clear m;intro A7 cap7 u m;simp only[zF,zG] at m;rw [List.nil_append,Nat.zero_add] at m;rw [Nat.zero_add];refine aA (aD) (aG (k19 _ _ ?_));refine aF fun K20 k20=>wp_region_lit (aA (aB) ?_);simp only[zz];refine aL rfl ((m.b 1 rfl).full aJ aC) ?_;simp only[zz];refine vE rfl ?_;intro u g2 e hg hB;replace m:=m.newB e hg hB;clear e hg hB;simp only[zz];refine eG m 1 rfl rfl kK uH rfl (by decide) rfl rfl rfl (m.b 0 rfl).rowsO (qX rfl) (by omega) (by omega) ?_;clear m;intro A7 cap7 u m;simp only[zF,zG] at m;refine aA (aD) (aG (k20 _ _ ?_));refine aF fun K21 k21=>wp_region_lit (aA (aB) (aA (aB) ?_));simp only[zz];refine aA (aB) ?_;simp only[zz];refine aA (kM kK aC rfl rfl (Int.toNat_natCast _) (by omega) (by omega) rfl) ?_;simp only[zz];refine eG m 1 rfl rfl kK uH rfl (by decide) rfl rfl (by rw [jC Lf,List.length_drop]) ((hL.ext m.ext).cellsD Lf (by decide) hcap) (Iz _) (by omega) (by omega) ?_;clear m;intro A7 cap7 u m;simp only[zF,zG] at m;refine aA (aD) (aG (k21 _ _ ?_));refine wp_ret ?_;simp only[zz];try simp only[Exit.inBlock,Exit.then,if_true]
   refine bS rfl rfl ?_;try simp only[zD,zE]
   exact ⟨_,rfl,m.ext,.inr ⟨_,_,_,by rw [hw];simp,rfl,(m.o 1 rfl).as (by rw [hw,List.flatMap_append,List.flatMap_append];rfl)⟩⟩
theorem Pk {w0 w : World} {is : List It} {A : Option Addr} {n cap : Nat} {ps : List P3} {p : P3} (m : cF w0 w is) (k : Nat) (hi : is[k]? = some (oI 48 3 A n cap (ps.flatMap uC))) (hN : n ≤ 1000000000) :
 Calls prog 100 [.slice A n cap,pt p].toArray w fun e w'=>∃ v i,e = .returned v ∧ cF w0 w' (is.set k i) ∧ ∃ A' cap' n',n' = (iK ps p).length ∧ v = .slice A' n' cap' ∧ i = oI 48 3 A' n' cap' ((iK ps p).flatMap uC):=by
 have hO:=m.o k hi;refine (abi (p:=p) w (hO.lat Lf (by decide)) hN hO.le).2.mono ?_;rintro e w' ⟨v,rfl,hE,h⟩;rcases h with ⟨rfl,h⟩ | ⟨A',cap',n',rfl,rfl,hN'⟩
 · exact ⟨_,oI 48 3 A n cap (ps.flatMap uC),rfl,by rw [acE hi];exact m.ext' hE,A,cap,n,by rw [h];exact (hO.num Lf (by decide)).symm,rfl,by rw [h]⟩
 · exact ⟨_,_,rfl,(m.newO hE hN').mv k hi,_,_,_,rfl,rfl,rfl⟩
theorem Uj {ts : List T3} {N cap : Nat} {A : Option Addr} (w : World) (hT : fA w A N ts) (hN : N ≤ 100000000) : eL prog 63 [.slice A N cap] w (SL 48 3 ((eJ ts).flatMap uC) (eJ ts).length w):=by
 refine ⟨ae1,?_⟩;have m:=cF.refl w
 go_enter func63,ntmps63
 refine aF fun K1 k1=>wp_region_lit (aA (aD) (aG (k1 _ _ ?_)));refine aF fun K2 k2=>wp_region_lit (aA (aD) ?_);replace m:=m.nilO 48 3;refine aG (k2 _ _ ?_);refine aF fun K3 k3=>aF fun K4 k4=>wp_region_lit (aA (aD) (aG (k4 _ _ ?_)));refine wp_block ?_;simp only[zz];try simp only[Nat.zero_add,Nat.reduceAdd,Nat.reduceMul,Int.reduceToNat]
 refine bJ [3,4] [5,6,7,8,9,10,11,12,13,14,15,16,17,18,19,20,21,22,23] (fun n vs wl=>∃ (k n3 : Nat) (A3 : Option Addr) (cap3 : Nat),vs = [.slice A3 n3 cap3,.int .i64 (k:Int)] ∧ cF w wl [oI 48 3 A3 n3 cap3 ((eJ (ts.take k)).flatMap uC)] ∧ (n3 = (eJ (ts.take k)).length) ∧ (k ≤ N) ∧ (n = N - k)) ?_ ?_
 ·
  apply Exists.intro;simp only[zQ,zR,zD,zE];exact ⟨0,0,_,_,rfl,m,rfl,Nat.zero_le _,rfl⟩
 ·
  intro n vs wr hI u;clear m;obtain ⟨k,n3,A3,cap3,rfl,m,hn3,hk,hn⟩:=hI;simp only[zu,zF,zG];refine aF fun K5 k5=>aF fun K6 k6=>wp_region_lit (aA (aB) (aA (aB) (aA (bA rfl bV rfl) (aA (cO rfl rfl) ?_))));simp only[zz];refine aG (k6 _ _ ?_);refine cC rfl (fun hc1=>?_) (fun hc1=>?_)
  ·
   obtain ⟨t,ht,_,a,rfl,hrow⟩:=hT.get (i:=k) (by omega);have hb0:=Ao (ts.take k);have hb1:=rR (eJ (ts.take k)) t.a;have hb2:=rR (iK (eJ (ts.take k)) t.a) t.b;rw [List.length_take] at hb0;refine wp_skip (k5 _ _ ?_);refine aF fun K7 k7=>wp_block (aF fun K8 k8=>wp_region_lit (aA (aD) (aG (k8 _ _ ?_))));refine wp_block (wp_loop_rounds 4 (dP (aF fun K9 k9=>aF fun K10 k10=>wp_region_lit (aA (aB) (aA (bW (m:=0) (n:=3) rfl rfl (by decide)) (aG (k10 _ _ ?_)))))));refine cQ rfl (wp_skip (k9 _ _ ?_));refine aF fun K11 k11=>wp_block (wp_region_lit (aA (aB) ?_));simp only[zz];refine aA (aB) (aA (aB) (aA (aB) ?_));simp only[zz];refine aA (aK bV aS rfl rfl (by omega) (by omega) (bY (Int.toNat_natCast _))) (aA (aH aY aC rfl rfl (by decide) (by decide) rfl) ?_);simp only[zz];refine aL rfl ((jL.cor (hrow.ext m.ext) (c:=0) (by decide)).lies aJ aC) ?_;simp only[zz];refine oX m 0 Jb rfl rfl (fun m=>Pk (p:=t.a) m 0 rfl (by omega)) ?_;clear m;rintro v i u m ⟨A3,cap3,n3,hn3,rfl,rfl⟩;simp only[zF,zG] at m;refine aA (aD) (aG (k11 _ _ ?_));refine wp_region_lit (aA (aB) (aA (aQ (m:=0) (n:=1) (r:=1) rfl rfl (by decide)) ?_));simp only[zz];refine aA (aD) (aG (aX (aF fun K12 k12=>aF fun K13 k13=>wp_region_lit (aA (aB) (aA (bW (m:=1) (n:=3) rfl rfl (by decide)) (aG (k13 _ _ ?_)))))));refine cQ rfl (wp_skip (k12 _ _ ?_));refine aF fun K14 k14=>wp_block (wp_region_lit (aA (aB) ?_));simp only[zz];refine aA (aB) (aA (aB) (aA (aB) ?_));simp only[zz];refine aA (aK bV aS rfl rfl (by omega) (by omega) (bY (Int.toNat_natCast _))) (aA (aH aY aC rfl rfl (by decide) (by decide) rfl) ?_);simp only[zz];refine aL rfl ((jL.cor (hrow.ext m.ext) (c:=1) (by decide)).lies aJ aC) ?_;simp only[zz];refine oX m 0 Jb rfl rfl (fun m=>Pk (p:=t.b) m 0 rfl (by omega)) ?_;clear m;rintro v i u m ⟨A3,cap3,n3,hn3,rfl,rfl⟩;simp only[zF,zG] at m;refine aA (aD) (aG (k14 _ _ ?_));refine wp_region_lit (aA (aB) (aA (aQ (m:=1) (n:=1) (r:=2) rfl rfl (by decide)) ?_));simp only[zz];refine aA (aD) (aG (aX (aF fun K15 k15=>aF fun K16 k16=>wp_region_lit (aA (aB) (aA (bW (m:=2) (n:=3) rfl rfl (by decide)) (aG (k16 _ _ ?_)))))));refine cQ rfl (wp_skip (k15 _ _ ?_));refine aF fun K17 k17=>wp_block (wp_region_lit (aA (aB) ?_));simp only[zz];refine aA (aB) (aA (aB) (aA (aB) ?_));simp only[zz];refine aA (aK bV aS rfl rfl (by omega) (by omega) (bY (Int.toNat_natCast _))) (aA (aH aY aC rfl rfl (by decide) (by decide) rfl) ?_);simp only[zz];refine aL rfl ((jL.cor (hrow.ext m.ext) (c:=2) (by decide)).lies aJ aC) ?_;simp only[zz];refine oX m 0 Jb rfl rfl (fun m=>Pk (p:=t.c) m 0 rfl (by omega)) ?_;clear m;rintro v i u m ⟨A3,cap3,n3,hn3,rfl,rfl⟩;simp only[zF,zG] at m;refine aA (aD) (aG (k17 _ _ ?_));refine wp_region_lit (aA (aB) (aA (aQ (m:=2) (n:=1) (r:=3) rfl rfl (by decide)) ?_));simp only[zz];refine aA (aD) (aG (aX (aF fun K18 k18=>aF fun K19 k19=>wp_region_lit (aA (aB) (aA (eM (m:=3) (n:=3) rfl rfl (by decide)) (aG (k19 _ _ ?_)))))));refine iD rfl (wp_exit (k7 _ _ ?_));refine wp_region_lit (aA (aB) ?_);simp only[zz];refine aA (aQ rfl rfl (aM (by omega) (by omega))) (aA (aD) (aG ?_));simp only[zz];simp only[Exit.inBlock,Exit.then];refine ⟨N - (k + 1),_,?_,rfl,?_,?_⟩
   · omega
   · simp only[zz,zv]
   ·
    simp only[zQ,zR,zD,zE];exact ⟨k + 1,_,_,_,rfl,(m.reO 0 rfl ((m.o 0 rfl).as (by rw [xF ht]))),by rw [xF ht];exact hn3,by omega,rfl⟩
  ·
   have hkN : k = N:=by omega
   rw [hkN,show ts.take N = ts from List.take_of_length_le (by rw [hT.len];exact Nat.le_refl _)] at m hn3;refine wp_exit (k3 _ _ ?_);refine aF fun K20 k20=>wp_region_lit (aA (aB) (aA (aD) (aG (k20 _ _ ?_))));refine wp_ret ?_;simp only[zz];try simp only[Exit.inBlock,Exit.then,if_true]
   refine bS rfl rfl ?_;try simp only[zD,zE]
   exact ⟨_,rfl,m.ext,⟨_,_,_,hn3,rfl,(m.o 0 rfl)⟩⟩
theorem Yt {ts : List T3} {N cap : Nat} {A : Option Addr} {p q : P3} (w : World) (hT : oU bQ 9 w A N ts) (hN : N ≤ 1000000000) : eL prog 101 [.slice A N cap,pt p,pt q] w (fun v _=>v = .tuple #[pt ((bP ts p q).getD p),.bool (bP ts p q).isSome]):=by
 refine ⟨acG,?_⟩;have m:=cF.refl w
 go_enter func101,ntmps101
 refine aF fun K1 k1=>wp_region_lit (eP m rfl ?_);clear m;intro g1 u m;simp only[zz];refine eP m rfl ?_;clear m;intro g2 u m;simp only[zz];refine bH m bU rfl ?_;clear m;intro g3 u m;refine aA (aD) (aG (k1 _ _ ?_));refine aF fun K2 k2=>aF fun K3 k3=>wp_region_lit (aA (aD) (aG (k3 _ _ ?_)));refine wp_block ?_;simp only[zz];try simp only[Nat.zero_add,Nat.reduceAdd,Nat.reduceMul,Int.reduceToNat]
 refine bJ [8] [7,9,10,11,12,13,14,15,16,17,18,19,20,21,22,23,24,25,26,27,28,29,30,31,32,33,34,35,36,37,38,39,40,41,42,43,44,45,46,47] (fun n vs wl=>∃ (k : Nat),vs = [.int .i64 (k:Int)] ∧ cF w wl [bI g3 [.int .i64 0,.int .i64 0,.int .i64 0] 48,bI g2 (uC q) 48,bI g1 (uC p) 48] ∧ (bP (ts.take k) p q = none) ∧ (k ≤ N) ∧ (n = N - k)) ?_ ?_
 ·
  apply Exists.intro;simp only[zQ,zR,zD,zE];exact ⟨0,rfl,m,rfl,Nat.zero_le _,rfl⟩
 ·
  intro n vs wr hI u;clear m;obtain ⟨k,rfl,m,hb0,hk,hn⟩:=hI;simp only[zu,zF,zG];refine aF fun K4 k4=>aF fun K5 k5=>wp_region_lit (aA (aB) (aA (aB) (aA (bA rfl bV rfl) (aA (cO rfl rfl) ?_))));simp only[zz];refine aG (k5 _ _ ?_);refine cC rfl (fun hc1=>?_) (fun hc1=>?_)
  ·
   obtain ⟨t,ht,a,rfl,hrow⟩:=hT.get (i:=k) (by omega);refine wp_skip (k4 _ _ ?_);refine aF fun K6 k6=>wp_block (aF fun K7 k7=>wp_region_lit (aA (aD) (aG (k7 _ _ ?_))));refine wp_block (wp_loop_rounds 4 (dP (aF fun K8 k8=>aF fun K9 k9=>wp_region_lit (aA (aB) (aA (bW (m:=0) (n:=3) rfl rfl (by decide)) (aG (k9 _ _ ?_)))))));refine cQ rfl (wp_skip (k8 _ _ ?_));refine aF fun K10 k10=>wp_block (aF fun K11 k11=>?_);simp only[zz];refine mq m aP (by kernel_rfl) (aI (aB) (aI (aB) (aI (aB) ?_)));simp only[zz];refine aI (aK bV aS rfl rfl (by omega) (by omega) (bY (Int.toNat_natCast _))) (aI (aH aY aC rfl rfl (by decide) (by decide) rfl) ?_);simp only[zz];refine ql rfl (fun u m=>((jL.cor (hrow.ext m.ext) (c:=0) (by omega)).lies aJ aC)) ?_;simp only[zz];refine ql rfl (fun u m=>((m.b 2 rfl).full aJ aC)) ?_;simp only[zz];refine aI (aW rfl rfl) (aI (aB) (dH rfl (fun hb=>aB) (dH rfl (fun hb=>aB) ?_)));simp only[zz];refine dH rfl (fun hb=>aB) (dH rfl (fun hb=>aQ (m:=0) (n:=1) (r:=1) (bO hb rfl) rfl (by decide)) (dH rfl (fun hb=>cE (m:=1) (n:=3) (r:=1) (bO hb rfl) rfl (by decide) (by decide)) ?_));simp only[zz];refine dH rfl (fun hb=>aK bV aS (bO hb rfl) (bO hb rfl) (by omega) (by omega) (bY (Int.toNat_natCast _))) (dH rfl (fun hb=>aH aY aC (bO hb rfl) (bO hb rfl) (by decide) (by decide) rfl) ?_);simp only[zz];refine jY rfl (fun hb u m=>cM (bO hb rfl) ((jL.cor (hrow.ext m.ext) (c:=1) (by omega)).lies aJ aC)) (jY rfl (fun hb u m=>cM rfl ((m.b 1 rfl).full aJ aC)) (dH rfl (fun hb=>aW (bO hb rfl) (bO hb rfl)) (aI (dC rfl rfl rfl) (cP ?_))));clear m;intro u m;refine k11 _ _ ?_;simp only[zz];refine lI rfl (fun hc3=>?_) (fun hc3=>?_)
   ·
    have hf:=uD ((oM ht hb0).trans (aeg  (sU.1 hc3)));refine aF fun K12 k12=>wp_region_lit (aA (aB) (aA (aB) (aA (aB) (aA (aQ (m:=0) (n:=2) (r:=2) rfl rfl (by decide)) ?_))));simp only[zz];refine aA (cE (m:=2) (n:=3) (r:=2) rfl rfl (by decide) (by decide)) ?_;simp only[zz];refine aA (aK bV aS rfl rfl (by omega) (by omega) (bY (Int.toNat_natCast _))) (aA (aH aY aC rfl rfl (by decide) (by decide) rfl) ?_);simp only[zz];refine aL rfl ((jL.cor (hrow.ext m.ext) (c:=2) (by omega)).lies aJ aC) ?_;simp only[zz];refine aT m 0 rfl rfl rfl aC (dX rfl) rfl ?_;clear m;intro u m;simp only[zy,zx,bK,zF,zG,Nat.reduceAdd] at m;refine aA (aD) (aG (k12 _ _ ?_));refine wp_ret ?_;simp only[zz];try simp only[Exit.inBlock,Exit.then,if_true]
    refine jW rfl ⟨_,rfl,((m.b 0 rfl).full aJ aC)⟩ rfl ?_;try simp only[zD,zE]
    exact ⟨_,rfl,m.ext,by rw [hf];rfl⟩
   ·
    have hq0:=yT hc3;refine wp_skip (k10 _ _ ?_);refine wp_region_lit (aA (aB) (aA (aQ (m:=0) (n:=1) (r:=1) rfl rfl (by decide)) (aA (aD) (aG (aX (aF fun K13 k13=>aF fun K14 k14=>wp_region_lit (aA (aB) ?_)))))));simp only[zz];refine aA (bW (m:=1) (n:=3) rfl rfl (by decide)) (aG (k14 _ _ ?_));refine cQ rfl (wp_skip (k13 _ _ ?_));refine aF fun K15 k15=>wp_block (aF fun K16 k16=>?_);simp only[zz];refine mq m aP (by kernel_rfl) (aI (aB) (aI (aB) (aI (aB) ?_)));simp only[zz];refine aI (aK bV aS rfl rfl (by omega) (by omega) (bY (Int.toNat_natCast _))) (aI (aH aY aC rfl rfl (by decide) (by decide) rfl) ?_);simp only[zz];refine ql rfl (fun u m=>((jL.cor (hrow.ext m.ext) (c:=1) (by omega)).lies aJ aC)) ?_;simp only[zz];refine ql rfl (fun u m=>((m.b 2 rfl).full aJ aC)) ?_;simp only[zz];refine aI (aW rfl rfl) (aI (aB) (dH rfl (fun hb=>aB) (dH rfl (fun hb=>aB) ?_)));simp only[zz];refine dH rfl (fun hb=>aB) (dH rfl (fun hb=>aQ (m:=1) (n:=1) (r:=2) (bO hb rfl) rfl (by decide)) (dH rfl (fun hb=>cE (m:=2) (n:=3) (r:=2) (bO hb rfl) rfl (by decide) (by decide)) ?_));simp only[zz];refine dH rfl (fun hb=>aK bV aS (bO hb rfl) (bO hb rfl) (by omega) (by omega) (bY (Int.toNat_natCast _))) (dH rfl (fun hb=>aH aY aC (bO hb rfl) (bO hb rfl) (by decide) (by decide) rfl) ?_);simp only[zz];refine jY rfl (fun hb u m=>cM (bO hb rfl) ((jL.cor (hrow.ext m.ext) (c:=2) (by omega)).lies aJ aC)) (jY rfl (fun hb u m=>cM rfl ((m.b 1 rfl).full aJ aC)) (dH rfl (fun hb=>aW (bO hb rfl) (bO hb rfl)) (aI (dC rfl rfl rfl) (cP ?_))));clear m;intro u m;refine k16 _ _ ?_;simp only[zz];refine lI rfl (fun hc3=>?_) (fun hc3=>?_)
    ·
     have hf:=uD ((oM ht hb0).trans (aeh hq0 (sU.1 hc3)));refine aF fun K17 k17=>wp_region_lit (aA (aB) (aA (aB) (aA (aB) (aA (aQ (m:=1) (n:=2) (r:=3) rfl rfl (by decide)) ?_))));simp only[zz];refine aA (cE (m:=3) (n:=3) (r:=0) rfl rfl (by decide) (by decide)) ?_;simp only[zz];refine aA (aK bV aS rfl rfl (by omega) (by omega) (bY (Int.toNat_natCast _))) (aA (aH aY aC rfl rfl (by decide) (by decide) rfl) ?_);simp only[zz];refine aL rfl ((jL.cor (hrow.ext m.ext) (c:=0) (by omega)).lies aJ aC) ?_;simp only[zz];refine aT m 0 rfl rfl rfl aC (dX rfl) rfl ?_;clear m;intro u m;simp only[zy,zx,bK,zF,zG,Nat.reduceAdd] at m;refine aA (aD) (aG (k17 _ _ ?_));refine wp_ret ?_;simp only[zz];try simp only[Exit.inBlock,Exit.then,if_true]
     refine jW rfl ⟨_,rfl,((m.b 0 rfl).full aJ aC)⟩ rfl ?_;try simp only[zD,zE]
     exact ⟨_,rfl,m.ext,by rw [hf];rfl⟩
    ·
     have hq1:=yT hc3;refine wp_skip (k15 _ _ ?_);refine wp_region_lit (aA (aB) (aA (aQ (m:=1) (n:=1) (r:=2) rfl rfl (by decide)) (aA (aD) (aG (aX (aF fun K18 k18=>aF fun K19 k19=>wp_region_lit (aA (aB) ?_)))))));simp only[zz];refine aA (bW (m:=2) (n:=3) rfl rfl (by decide)) (aG (k19 _ _ ?_));refine cQ rfl (wp_skip (k18 _ _ ?_));refine aF fun K20 k20=>wp_block (aF fun K21 k21=>?_);simp only[zz];refine mq m aP (by kernel_rfl) (aI (aB) (aI (aB) (aI (aB) ?_)));simp only[zz];refine aI (aK bV aS rfl rfl (by omega) (by omega) (bY (Int.toNat_natCast _))) (aI (aH aY aC rfl rfl (by decide) (by decide) rfl) ?_);simp only[zz];refine ql rfl (fun u m=>((jL.cor (hrow.ext m.ext) (c:=2) (by omega)).lies aJ aC)) ?_;simp only[zz];refine ql rfl (fun u m=>((m.b 2 rfl).full aJ aC)) ?_;simp only[zz];refine aI (aW rfl rfl) (aI (aB) (dH rfl (fun hb=>aB) (dH rfl (fun hb=>aB) ?_)));simp only[zz];refine dH rfl (fun hb=>aB) (dH rfl (fun hb=>aQ (m:=2) (n:=1) (r:=3) (bO hb rfl) rfl (by decide)) (dH rfl (fun hb=>cE (m:=3) (n:=3) (r:=0) (bO hb rfl) rfl (by decide) (by decide)) ?_));simp only[zz];refine dH rfl (fun hb=>aK bV aS (bO hb rfl) (bO hb rfl) (by omega) (by omega) (bY (Int.toNat_natCast _))) (dH rfl (fun hb=>aH aY aC (bO hb rfl) (bO hb rfl) (by decide) (by decide) rfl) ?_);simp only[zz];refine jY rfl (fun hb u m=>cM (bO hb rfl) ((jL.cor (hrow.ext m.ext) (c:=0) (by omega)).lies aJ aC)) (jY rfl (fun hb u m=>cM rfl ((m.b 1 rfl).full aJ aC)) (dH rfl (fun hb=>aW (bO hb rfl) (bO hb rfl)) (aI (dC rfl rfl rfl) (cP ?_))));clear m;intro u m;refine k21 _ _ ?_;simp only[zz];refine lI rfl (fun hc3=>?_) (fun hc3=>?_)
     ·
      have hf:=uD ((oM ht hb0).trans (aei hq0 hq1 (sU.1 hc3)));refine aF fun K22 k22=>wp_region_lit (aA (aB) (aA (aB) (aA (aB) (aA (aQ (m:=2) (n:=2) (r:=4) rfl rfl (by decide)) ?_))));simp only[zz];refine aA (cE (m:=4) (n:=3) (r:=1) rfl rfl (by decide) (by decide)) ?_;simp only[zz];refine aA (aK bV aS rfl rfl (by omega) (by omega) (bY (Int.toNat_natCast _))) (aA (aH aY aC rfl rfl (by decide) (by decide) rfl) ?_);simp only[zz];refine aL rfl ((jL.cor (hrow.ext m.ext) (c:=1) (by omega)).lies aJ aC) ?_;simp only[zz];refine aT m 0 rfl rfl rfl aC (dX rfl) rfl ?_;clear m;intro u m;simp only[zy,zx,bK,zF,zG,Nat.reduceAdd] at m;refine aA (aD) (aG (k22 _ _ ?_));refine wp_ret ?_;simp only[zz];try simp only[Exit.inBlock,Exit.then,if_true]
      refine jW rfl ⟨_,rfl,((m.b 0 rfl).full aJ aC)⟩ rfl ?_;try simp only[zD,zE]
      exact ⟨_,rfl,m.ext,by rw [hf];rfl⟩
     ·
      have hq2:=yT hc3;refine wp_skip (k20 _ _ ?_);refine wp_region_lit (aA (aB) (aA (aQ (m:=2) (n:=1) (r:=3) rfl rfl (by decide)) (aA (aD) (aG (aX (aF fun K23 k23=>aF fun K24 k24=>wp_region_lit (aA (aB) ?_)))))));simp only[zz];refine aA (eM (m:=3) (n:=3) rfl rfl (by decide)) (aG (k24 _ _ ?_));refine iD rfl (wp_exit (k6 _ _ ?_));refine wp_region_lit (aA (aB) ?_);simp only[zz];refine aA (aQ rfl rfl (aM (by omega) (by omega))) (aA (aD) (aG ?_));simp only[zz];simp only[Exit.inBlock,Exit.then];refine ⟨N - (k + 1),_,?_,rfl,?_,?_⟩
      · omega
      · simp only[zz,zv]
      ·
       simp only[zQ,zR,zD,zE];exact ⟨k + 1,rfl,m,(oM ht hb0).trans (aej hq0 hq1 hq2),by omega,rfl⟩
  ·
   have hkN : k = N:=by omega
   rw [hkN,show ts.take N = ts from List.take_of_length_le (by rw [hT.len];exact Nat.le_refl _)] at hb0;refine wp_exit (k2 _ _ ?_);refine aF fun K25 k25=>wp_region_lit (aL rfl ((m.b 2 rfl).full aJ aC) ?_);simp only[zz];refine aT m 0 rfl rfl rfl aC (dX rfl) rfl ?_;clear m;intro u m;simp only[zy,zx,bK,zF,zG,Nat.reduceAdd] at m;refine aA (aD) (aG (k25 _ _ ?_));refine wp_ret ?_;simp only[zz];try simp only[Exit.inBlock,Exit.then,if_true]
   refine jW rfl ⟨_,rfl,((m.b 0 rfl).full aJ aC)⟩ rfl ?_;try simp only[zD,zE]
   exact ⟨_,rfl,m.ext,by rw [hb0];rfl⟩
theorem Uk {ts : List T3} {N cap : Nat} {A : Option Addr} {p : P3} (w : World) (hT : fA w A N ts) (hN : N ≤ 100000000) : eL prog 64 [.slice A N cap,pt p] w (fun v _=>v = .bool (xG ts p)):=by
 refine ⟨ae2,?_⟩;have m:=cF.refl w
 go_enter func64,ntmps64
 refine aF fun K1 k1=>wp_region_lit (eP m rfl ?_);clear m;intro g1 u m;refine aA (aD) (aG (k1 _ _ ?_));refine aF fun K2 k2=>wp_region_lit (aA (aD) ?_);replace m:=m.nilO 53 9;refine aG (k2 _ _ ?_);refine aF fun K3 k3=>wp_region_lit (aA (aD) ?_);simp only[zz];replace m:=m.nilO 48 3;refine aG (k3 _ _ ?_);refine aF fun K4 k4=>aF fun K5 k5=>wp_region_lit (aA (aD) (aG (k5 _ _ ?_)));refine wp_block ?_;simp only[zz];try simp only[Nat.zero_add,Nat.reduceAdd,Nat.reduceMul,Int.reduceToNat]
 refine bJ [5,6,7] [8,14,15,16,17,18,19,20,21,22,23,24,25,26,27,28,29,30,31,32,33,34,35,36,37,38,39,40,41,42,43,44,45,46,47,48,49] (fun n vs wl=>∃ (k n5 n6 cap5 cap6 : Nat) (A5 A6 : Option Addr),vs = [.slice A5 n5 cap5,.slice A6 n6 cap6,.int .i64 (k:Int)] ∧ cF w wl [oI 48 3 A6 n6 cap6 ((pV (ts.take k) p).flatMap uC),oI 53 9 A5 n5 cap5 ((lQ (ts.take k) p).flatMap bQ),bI g1 (uC p) 48] ∧ (n5 ≤ k * 3) ∧ (n6 ≤ k * 3) ∧ (k ≤ N) ∧ (n = N - k)) ?_ ?_
 ·
  apply Exists.intro;simp only[zQ,zR,zD,zE];exact ⟨0,_,_,_,_,_,_,rfl,m,Nat.le_refl _,Nat.le_refl _,Nat.zero_le _,rfl⟩
 ·
  intro n vs wr hI u;clear m;obtain ⟨k,n5,n6,cap5,cap6,A5,A6,rfl,m,hl5,hl6,hk,hn⟩:=hI;simp only[zu,zF,zG];refine aF fun K6 k6=>aF fun K7 k7=>wp_region_lit (aA (aB) (aA (aB) (aA (bA rfl bV rfl) (aA (cO rfl rfl) ?_))));simp only[zz];refine aG (k7 _ _ ?_);refine cC rfl (fun hc1=>?_) (fun hc1=>?_)
  ·
   obtain ⟨t,ht,_,a,rfl,hrow⟩:=hT.get (i:=k) (by omega);refine wp_skip (k6 _ _ ?_);refine aF fun K8 k8=>wp_block (aF fun K9 k9=>wp_region_lit (aA (aD) (aG (k9 _ _ ?_))));refine wp_block ?_;simp only[zz];try simp only[Nat.zero_add,Nat.reduceAdd,Nat.reduceMul,Int.reduceToNat]
   refine bJ [5,6,8] [20,21,22,23,24,25,26,27,28,29,30,31,32,33,34,35,36,37,38,39,40,41,42,43,44,45,46,47,48,49] (fun n vs wl=>∃ (c n5 n6 cap5 cap6 : Nat) (A5 A6 : Option Addr),vs = [.slice A5 n5 cap5,.slice A6 n6 cap6,.int .i64 (c:Int)] ∧ cF w wl [oI 48 3 A6 n6 cap6 ((qY ts p (k) t (c)).flatMap uC),oI 53 9 A5 n5 cap5 ((vT ts p (k) t (c)).flatMap bQ),bI g1 (uC p) 48] ∧ (n5 ≤ k * 3 + c) ∧ (n6 ≤ k * 3 + c) ∧ (c ≤ 3) ∧ (n = 3 - c)) ?_ ?_
   ·
    rw [← aa9 (t:=t),← Yf (t:=t)] at m;apply Exists.intro;simp only[zQ,zR,zD,zE];exact ⟨0,_,_,_,_,_,_,rfl,m,hl5,hl6,Nat.zero_le _,rfl⟩
   ·
    intro n vs wr hI u;clear m;obtain ⟨c,n5,n6,cap5,cap6,A5,A6,rfl,m,hl5,hl6,hc,hn2⟩:=hI;simp only[zu,zF,zG];refine aF fun K10 k10=>aF fun K11 k11=>wp_region_lit (aA (aB) (aA (cO rfl rfl) (aG (k11 _ _ ?_))));simp only[zz];refine cC rfl (fun hc2=>?_) (fun hc2=>?_)
    ·
     have hc3 : c < 3:=by omega
     refine wp_skip (k10 _ _ ?_);refine aF fun K12 k12=>wp_block (aF fun K13 k13=>mq m aP (by kernel_rfl) (aI (aB) (aI (aB) (aI (aB) ?_))));simp only[zz];refine aI (aK bV aS rfl rfl (by omega) (by omega) (bY (Int.toNat_natCast _))) ?_;simp only[zz];refine aI (aH aY aC rfl rfl (by omega) (by omega) (bY (Int.toNat_natCast _))) ?_;simp only[zz];refine ql rfl (fun u m=>((jL.cor (hrow.ext m.ext) (c:=c) (by omega)).lies aJ aC)) ?_;simp only[zz];refine ql rfl (fun u m=>((m.b 2 rfl).full aJ aC)) ?_;simp only[zz];refine aI (aW rfl rfl) (cP ?_);clear m;intro u m;refine k13 _ _ ?_;simp only[zz];refine cC rfl (fun hc3=>?_) (fun hc3=>?_)
     ·
      have hcp : t.cor c = p:=P3.eq hc3.1 hc3.2.1 hc3.2.2;refine aF fun K14 k14=>wp_region_lit (aA (aB) (aA (aB) (aA (aB) ?_)));simp only[zz];refine aA (aK bV aS rfl rfl (by omega) (by omega) (bY (Int.toNat_natCast _))) ?_;simp only[zz];refine aL rfl ((hrow.ext m.ext).lies eF aS) ?_;simp only[zz];refine mO rfl ?_;intro u g2 e hg hB;replace m:=m.newB e hg hB;clear e hg hB;simp only[zz];refine eG m 2 rfl rfl bV mE rfl (by decide) rfl rfl rfl (m.b 0 rfl).rowsO (qX rfl) (by omega) (by omega) ?_;clear m;intro A5 cap5 u m;simp only[zF,zG] at m;refine aA (aD) (aG (k14 _ _ ?_));refine wp_region_lit (aA (aB) (aA (aB) ?_));simp only[zz];refine aA (aB) (aA (aB) ?_);simp only[zz];refine aA (aQ rfl rfl (aM (by omega) (by omega))) ?_;simp only[zz];refine aA (cE rfl rfl (by omega) (Ra (k:=c + 1))) ?_;simp only[zz];refine aA (aK bV aS rfl rfl (by omega) (by omega) (bY (Int.toNat_natCast _))) ?_;simp only[zz];refine aA (aH aY aC rfl rfl (by omega) (by omega) (bY (Int.toNat_natCast _))) ?_;simp only[zz];refine aL rfl ((jL.cor (hrow.ext m.ext) (c:=(c + 1) % 3) (by omega)).lies aJ aC) ?_;simp only[zz];refine vE rfl ?_;intro u g3 e hg hB;replace m:=m.newB e hg hB;clear e hg hB;simp only[zz];refine eG m 2 rfl rfl kK uH rfl (by decide) rfl rfl rfl (m.b 0 rfl).rowsO (qX rfl) (by omega) (by omega) ?_;clear m;intro A6 cap6 u m;simp only[zF,zG] at m;refine aA (aD) (aG (k12 _ _ ?_));refine wp_region_lit (aA (aB) ?_);simp only[zz];refine aA (aQ rfl rfl (aM (by omega) (by omega))) (aA (aD) (aG ?_));simp only[zz];simp only[Exit.inBlock,Exit.then];refine ⟨3 - (c + 1),_,?_,rfl,?_,?_⟩
      · omega
      · simp only[zz,zv]
      ·
       simp only[zQ,zR,zD,zE];exact ⟨c + 1,_,_,_,_,_,_,rfl,(((m.reO 3 rfl ((m.o 3 rfl).as (by rw [Tt hcp,List.flatMap_append];rfl))).reO 2 rfl ((m.o 2 rfl).as (by rw [Ox hcp,List.flatMap_append];rfl))).sel [false,false,true,true,true]),by omega,by omega,by omega,rfl⟩
     ·
      have hcp : ¬ t.cor c = p:=fun h=>hc3 (by rw [h];exact ⟨rfl,rfl,rfl⟩);refine wp_skip (k12 _ _ ?_);refine wp_region_lit (aA (aB) ?_);simp only[zz];refine aA (aQ rfl rfl (aM (by omega) (by omega))) (aA (aD) (aG ?_));simp only[zz];simp only[Exit.inBlock,Exit.then];refine ⟨3 - (c + 1),_,?_,rfl,?_,?_⟩
      · omega
      · simp only[zz,zv]
      ·
       simp only[zQ,zR,zD,zE];exact ⟨c + 1,_,_,_,_,_,_,rfl,((m.reO 1 rfl ((m.o 1 rfl).as (by rw [Ye hcp]))).reO 0 rfl ((m.o 0 rfl).as (by rw [Tu hcp]))),by omega,by omega,by omega,rfl⟩
    ·
     obtain rfl : c = 3:=by omega
     rw [aba ht,Yg ht] at m;refine wp_exit (k8 _ _ ?_);refine wp_region_lit (aA (aB) ?_);simp only[zz];refine aA (aQ rfl rfl (aM (by omega) (by omega))) (aA (aD) (aG ?_));simp only[zz];simp only[Exit.inBlock,Exit.then];refine ⟨N - (k + 1),_,?_,rfl,?_,?_⟩
     · omega
     · simp only[zz,zv]
     ·
      simp only[zQ,zR,zD,zE];exact ⟨k + 1,_,_,_,_,_,_,rfl,m,by omega,by omega,by omega,rfl⟩
  ·
   have hkN : k = N:=by omega
   rw [hkN,show ts.take N = ts from List.take_of_length_le (by rw [hT.len];exact Nat.le_refl _)] at m;obtain ⟨M,hM⟩ : ∃ M,M = lQ ts p:=⟨_,rfl⟩
   obtain ⟨S,hS⟩ : ∃ S,S = pV ts p:=⟨_,rfl⟩
   rw [← hM,← hS] at m;have h5 : M.length = n5:=(m.o 1 rfl).num acC (by decide);have h6 : S.length = n6:=(m.o 0 rfl).num Lf (by decide);have hle6:=(m.o 0 rfl).le;have hP : xG ts p = S.any (fun s=>lR M p s (M.length - 1) s):=by rw [hM,hS];rfl
   clear hM hS;refine wp_exit (k4 _ _ ?_);refine aF fun K15 k15=>aF fun K16 k16=>wp_region_lit (aA (aD) (aG (k16 _ _ ?_)));refine wp_block ?_;simp only[zz];try simp only[Nat.zero_add,Nat.reduceAdd,Nat.reduceMul,Int.reduceToNat]
   refine bJ [9] [4,10,11,12,13,50,51,52,53,54,55,56,57,58,59,60,61,62,63,64,65,66,67,68,69,70,71,72,73,74,75,76,77,78,79,80,81] (fun n vs wl=>∃ (k2 : Nat),vs = [.int .i64 (k2:Int)] ∧ cF w wl [oI 48 3 A6 n6 cap6 ((S).flatMap uC),oI 53 9 A5 n5 cap5 ((M).flatMap bQ),bI g1 (uC p) 48] ∧ ((S.take k2).any (fun s=>lR M p s (M.length - 1) s) = false) ∧ (k2 ≤ n6) ∧ (n = n6 - k2)) ?_ ?_
   ·
    apply Exists.intro;simp only[zQ,zR,zD,zE];exact ⟨0,rfl,m,rfl,Nat.zero_le _,rfl⟩
   ·
    intro n vs wr hI u;clear m;obtain ⟨k2,rfl,m,hno,hk2,hn3⟩:=hI;simp only[zu,zF,zG];refine aF fun K17 k17=>aF fun K18 k18=>wp_region_lit (aA (aB) (aA (aB) (aA (bA rfl kK rfl) (aA (cO rfl rfl) ?_))));simp only[zz];refine aG (k18 _ _ ?_);refine cC rfl (fun hc4=>?_) (fun hc4=>?_)
    ·
     obtain ⟨sx,hsx⟩ : ∃ sx,S[k2]? = some sx:=⟨_,List.getElem?_eq_getElem (by omega)⟩
     obtain ⟨gO,rfl⟩:=(m.o 0 rfl).some (by omega);refine wp_skip (k17 _ _ ?_);refine aF fun K19 k19=>wp_block (aF fun K20 k20=>wp_region_lit (aA (aB) (aA (aB) ?_)));simp only[zz];refine aA (aK kK aC rfl rfl (by omega) (by omega) (bY (Int.toNat_natCast _))) ?_;simp only[zz];refine aL rfl (((m.o 0 rfl).at Lf hsx).lies aJ aC) ?_;simp only[zz];refine bH m bU rfl ?_;clear m;intro g2 u m;simp only[zz];refine aT m 0 rfl rfl rfl aC (dX rfl) rfl ?_;clear m;intro u m;simp only[zy,zx,bK,zF,zG,Nat.reduceAdd] at m;refine aG (k20 _ _ ?_);refine aF fun K21 k21=>wp_region_lit (aA (aD) (aG (k21 _ _ ?_)));refine wp_block ?_;simp only[zz];try simp only[Nat.zero_add,Nat.reduceAdd,Nat.reduceMul,Int.reduceToNat]
     refine bJ [11] [4,12,13,60,61,62,63,64,65,66,67,68,69,70,71,72,73,74,75,76,77,78,79,80,81] (fun n vs wl=>∃ (j : Nat) (x : P3),vs = [.int .i64 (j:Int)] ∧ cF w wl [bI g2 (uC x) 48,oI 48 3 (some ⟨gO,0,none⟩) n6 cap6 (S.flatMap uC),oI 53 9 A5 n5 cap5 ((M).flatMap bQ),bI g1 (uC p) 48] ∧ (lR M p sx (M.length - 1) sx = lR M p sx (M.length - j) x) ∧ (1 ≤ j) ∧ (j ≤ n5 + 1) ∧ (n = n5 + 1 - j)) ?_ ?_
     ·
      apply Exists.intro;simp only[zQ,zR,zD,zE];exact ⟨1,sx,rfl,m,rfl,Nat.le_refl _,by omega,rfl⟩
     ·
      intro n vs wr hI u;clear m;obtain ⟨j,x,rfl,m,hrg,hj,hj2,hn4⟩:=hI;simp only[zu,zF,zG];refine aF fun K22 k22=>aF fun K23 k23=>wp_region_lit (aA (aB) (aA (aB) (aA (bA rfl bV rfl) (aA (cO rfl rfl) ?_))));simp only[zz];refine aG (k23 _ _ ?_);refine cC rfl (fun hc5=>?_) (fun hc5=>?_)
      ·
       obtain ⟨f,hf⟩ : ∃ f,M.length - j = f + 1:=⟨M.length - j - 1,by omega⟩
       rw [hf] at hrg;refine wp_skip (k22 _ _ ?_);refine aF fun K24 k24=>wp_block (aF fun K25 k25=>wp_region_lit (aA (aB) ?_));simp only[zz];refine aL rfl ((m.b 3 rfl).full aJ aC) ?_;simp only[zz];refine aL rfl ((m.b 0 rfl).full aJ aC) ?_;simp only[zz];refine eQ m rfl rfl (Yt (p:=p) (q:=x) _ ((m.o 2 rfl).lat acC (by decide)) (by omega)) ?_;clear m;rintro v u m rfl;refine aA (aB) (aA (bM rfl rfl) (aA (bM rfl rfl) ?_));simp only[zz];refine bH m bU rfl ?_;clear m;intro g3 u m;simp only[zz];refine aT m 0 rfl rfl rfl aC (dX rfl) rfl ?_;clear m;intro u m;simp only[zy,zx,bK,zF,zG,Nat.reduceAdd] at m;refine aA (aD) (aG (k25 _ _ ?_));refine aF fun K26 k26=>aF fun K27 k27=>wp_region_lit (aA (aB) (aA (fN rfl) (aG (k27 _ _ ?_))));simp only[zz];refine lI rfl (fun hc6=>?_) (fun hc6=>?_)
       ·
        have hbn : bP M p x = none:=by cases hb : bP M p x with | none=>rfl | some y=>rw [hb] at hc6;cases hc6
        have hz : lR M p sx (M.length - 1) sx = false:=by rw [hrg,Gw hbn]
        have hno2 : (S.take (k2 + 1)).any (fun s=>lR M p s (M.length - 1) s) = false:=by rw [lS hsx,hno,hz];rfl
        refine wp_exit (k19 _ _ ?_);refine wp_region_lit (aA (aB) ?_);simp only[zz];refine aA (aQ rfl rfl (aM (by omega) (by omega))) (aA (aD) (aG ?_));simp only[zz];simp only[Exit.inBlock,Exit.then];refine ⟨n6 - (k2 + 1),_,?_,rfl,?_,?_⟩
        · omega
        · simp only[zz,zv]
        ·
         simp only[zQ,zR,zD,zE];exact ⟨k2 + 1,rfl,(m.sel [false,false,true,true,true]),hno2,by omega,rfl⟩
       ·
        obtain ⟨y,hy⟩ : ∃ y,bP M p x = some y:=by cases hb : bP M p x with | none=>rw [hb] at hc6;cases hc6 | some y=>exact ⟨y,rfl⟩
        rw [hy] at m;simp only[Option.getD_some] at m;refine wp_skip (k26 _ _ ?_);refine aF fun K28 k28=>wp_region_lit (aL rfl ((m.b 0 rfl).full aJ aC) ?_);simp only[zz];refine aT m 1 rfl rfl rfl aC (dX rfl) rfl ?_;clear m;intro u m;simp only[zy,zx,bK,zF,zG,Nat.reduceAdd] at m;refine aG (k28 _ _ ?_);refine aF fun K29 k29=>mq m aP (by kernel_rfl) (ql rfl (fun u m=>((m.b 1 rfl).full aJ aC)) ?_);simp only[zz];refine aI (aB) (aI (aB) ?_);simp only[zz];refine aI (aK kK aC rfl rfl (by omega) (by omega) (bY (Int.toNat_natCast _))) ?_;simp only[zz];refine ql rfl (fun u m=>(((m.o 2 rfl).at Lf hsx).lies aJ aC)) ?_;simp only[zz];refine aI (aW rfl rfl) (cP ?_);clear m;intro u m;refine k29 _ _ ?_;simp only[zz];refine cC rfl (fun hc7=>?_) (fun hc7=>?_)
        ·
         have hys : y = sx:=P3.eq hc7.1 hc7.2.1 hc7.2.2;have hz : S.any (fun s=>lR M p s (M.length - 1) s) = true:=qN hsx (by show lR M p sx (M.length - 1) sx = true;rw [hrg];exact Lh (by rw [hy,hys]));refine aF fun K30 k30=>wp_region_lit (aA (aD) (aG (k30 _ _ ?_)));refine wp_ret ?_;simp only[zz];try simp only[Exit.inBlock,Exit.then,if_true]
         refine bS rfl rfl ?_;try simp only[zD,zE]
         exact ⟨_,rfl,m.ext,by rw [hP,hz]⟩
        ·
         have hys : ¬ y = sx:=fun h=>hc7 (by rw [h];exact ⟨rfl,rfl,rfl⟩);refine wp_skip (k24 _ _ ?_);refine wp_region_lit (aA (aB) ?_);simp only[zz];refine aA (aQ rfl rfl (aM (by omega) (by omega))) (aA (aD) (aG ?_));simp only[zz];simp only[Exit.inBlock,Exit.then];refine ⟨n5 + 1 - (j + 1),_,?_,rfl,?_,?_⟩
         · omega
         · simp only[zz,zv]
         ·
          simp only[zQ,zR,zD,zE];exact ⟨j + 1,y,rfl,(m.sel [false,true,true,true,true]),by rw [hrg,Gx hy hys,show M.length - (j + 1) = f by omega],by omega,by omega,rfl⟩
      ·
       have hz : lR M p sx (M.length - 1) sx = false:=by rw [hrg,show M.length - j = 0 by omega];rfl
       have hno2 : (S.take (k2 + 1)).any (fun s=>lR M p s (M.length - 1) s) = false:=by rw [lS hsx,hno,hz];rfl
       refine wp_exit (k19 _ _ ?_);refine wp_region_lit (aA (aB) ?_);simp only[zz];refine aA (aQ rfl rfl (aM (by omega) (by omega))) (aA (aD) (aG ?_));simp only[zz];simp only[Exit.inBlock,Exit.then];refine ⟨n6 - (k2 + 1),_,?_,rfl,?_,?_⟩
       · omega
       · simp only[zz,zv]
       ·
        simp only[zQ,zR,zD,zE];exact ⟨k2 + 1,rfl,(m.sel [false,true,true,true]),hno2,by omega,rfl⟩
    ·
     have hk2 : k2 = S.length:=by omega
     rw [hk2,List.take_length] at hno;refine wp_exit (k15 _ _ ?_);refine aF fun K31 k31=>wp_region_lit (aA (aD) (aG (k31 _ _ ?_)));refine wp_ret ?_;simp only[zz];try simp only[Exit.inBlock,Exit.then,if_true]
     refine bS rfl rfl ?_;try simp only[zD,zE]
     exact ⟨_,rfl,m.ext,by rw [hP,hno]⟩
end Go.Proofs.YtfohfflkhpfjeaaGreatDoor
namespace Go.Proofs.YtfohfflkhpfjeaaGreatDoor
open Go.Proofs.Tryz
open Go.RowKit Go.Lith
set_option maxRecDepth 100000
attribute [local irreducible] wpList wpQuiet dY dO dN Code.wp
theorem Dw {all out : List E3} {e : E3} (h : 0 < kA all (e.2,e.1) ∨ 0 < kA out e) : nD all out e = out:=if_pos h
theorem Hh {all out : List E3} {e : E3} {k : Nat} (h1 : ¬ 0 < kA all (e.2,e.1)) (h2 : ¬ 0 < kA out e) (h : Tq out e = k) : nD all out e = out.take k ++ [e] ++ out.drop k:=by
 rw [nD,if_neg (fun h=>h.elim h1 h2),Ou,h]
theorem adk {w : World} {a : Addr} {e : E3} (h : jL w a (cB e)) : jL w a [.int .i64 e.1.x,.int .i64 e.1.y,.int .i64 e.1.z,.int .i64 e.2.x,.int .i64 e.2.y,.int .i64 e.2.z]:=h
theorem gt0 {n : Nat} : ((0 : Int) < (n : Int)) ↔ 0 < n:=by omega
theorem Lw {ts : List T3} {N cap : Nat} {A : Option Addr} (w : World) (hT : fA w A N ts) (hN : N ≤ 100000000) : eL prog 18 [.slice A N cap] w (SL 57 6 ((aU ts).flatMap cB) (aU ts).length w):=by
 refine ⟨aeo,?_⟩;have m:=cF.refl w
 go_enter func18,ntmps18
 refine aF fun K1 k1=>wp_region_lit (aA (aD) (aG (k1 _ _ ?_)));refine aF fun K2 k2=>wp_region_lit (aA (aB) ?_);simp only[zz];refine bE rfl rfl (Rf _ (hT.ext m.ext) (by omega)) ?_;rintro v u e ⟨A3,cap3,n3,hn3,rfl,hN⟩;replace m:=m.newO e hN;clear e hN;have he3:=jD ts;have htl:=hT.len;refine aA (aD) (aG (k2 _ _ ?_));refine aF fun K3 k3=>wp_region_lit (aA (aD) ?_);replace m:=m.nilO 57 6;refine aG (k3 _ _ ?_);refine aF fun K4 k4=>aF fun K5 k5=>wp_region_lit (aA (aD) ?_);simp only[zz];refine aG (k5 _ _ ?_);refine wp_block ?_;try simp only[Nat.zero_add,Nat.reduceAdd,Nat.reduceMul,Int.reduceToNat]
 refine bJ [4,5] [6,7,8,9,12,13,14,15,16,17,18,19,20,21,22,23,24,25,26,27,28,29,30,31,32,33,34,35,36,37,38,39,40,41,42,43,44,45,46,47,48,49,50,51,52,53,54,55,56,57,58,59,60,61,62,63] (fun n vs wl=>∃ (k n4 cap4 : Nat) (A4 : Option Addr),vs = [.slice A4 n4 cap4,.int .i64 (k:Int)] ∧ cF w wl [oI 57 6 A4 n4 cap4 ((((bB ts).take k).foldl (nD (bB ts)) []).flatMap cB),oI 57 6 A3 n3 cap3 ((bB ts).flatMap cB)] ∧ (n4 ≤ k) ∧ (k ≤ n3) ∧ (n = n3 - k)) ?_ ?_
 ·
  apply Exists.intro;simp only[zQ,zR,zD,zE];exact ⟨0,_,_,_,rfl,m,Nat.le_refl _,Nat.zero_le _,rfl⟩
 ·
  intro n vs wr hI u;clear m;obtain ⟨k,n4,cap4,A4,rfl,m,hl4,hk,hn⟩:=hI;simp only[zu,zF,zG];refine aF fun K6 k6=>aF fun K7 k7=>wp_region_lit (aA (aB) (aA (aB) (aA (bA rfl eU rfl) (aA (cO rfl rfl) ?_))));simp only[zz];refine aG (k7 _ _ ?_);refine cC rfl (fun hc1=>?_) (fun hc1=>?_)
  ·
   obtain ⟨e,he⟩ : ∃ e,(bB ts)[k]? = some e:=⟨_,List.getElem?_eq_getElem (by omega)⟩
   obtain ⟨gO,rfl⟩:=(m.o 1 rfl).some (by omega);refine wp_skip (k6 _ _ ?_);refine aF fun K8 k8=>wp_block (aF fun K9 k9=>wp_region_lit (aA (aB) (aA (aB) ?_)));simp only[zz];refine aA (aK eU cK rfl rfl (by omega) (by omega) (bY (Int.toNat_natCast _))) ?_;simp only[zz];refine aL rfl ((adk ((m.o 1 rfl).at rQ he)).lies jR cK) ?_;simp only[zz];refine bH m qP rfl ?_;clear m;intro g1 u m;simp only[zz];refine aT m 0 rfl rfl rfl cK (dX rfl) rfl ?_;clear m;intro u m;simp only[zy,zx,bK,zF,zG,Nat.reduceAdd] at m;refine aG (k9 _ _ ?_);refine aF fun K10 k10=>aF fun K11 k11=>?_;obtain ⟨B,hB⟩ : ∃ B,B = ((bB ts).take k).foldl (nD (bB ts)) []:=⟨_,rfl⟩
   rw [← hB] at m;have h4 : B.length = n4:=(m.o 1 rfl).num rQ (by decide);have hle4:=(m.o 1 rfl).le;have hs:=Tr (all:=bB ts) he;rw [← hB] at hs;rcases Nat.eq_zero_or_pos (kA (bB ts) (e.2,e.1)) with hz | hz
   ·
    refine wp_region_lit (aA (aB) (aA (aH cH aC rfl rfl (by decide) (by decide) rfl) ?_));simp only[zz];refine aL rfl ((m.b 0 rfl).lies aJ aC rfl rfl) ?_;simp only[zz,zy,Nat.zero_add,Nat.reduceAdd,Nat.reduceMul,Int.reduceToNat];refine aA (aH cH aC rfl rfl (by decide) (by decide) rfl) ?_;simp only[zz];refine aL rfl ((m.b 0 rfl).lies aJ aC rfl rfl) ?_;simp only[zz,zy,Nat.zero_add,Nat.reduceAdd,Nat.reduceMul,Int.reduceToNat];refine aA (cL rfl rfl) ?_;simp only[zz];refine eQ m rfl rfl (Cb (es:=bB ts) (e:=(e.2,e.1)) _ ((m.o 2 rfl).lat rQ (by decide)) (by omega)) ?_;clear m;rintro v u m rfl;simp only[zz];refine aA (tQ rfl rfl (by omega)) (aA (aB) (bN rfl (aA (aB) (bN rfl ?_))));simp only[zz];refine aL rfl ((m.b 0 rfl).full jR cK) ?_;simp only[zz];refine bN rfl (eQ m rfl rfl (Cb (es:=B) (e:=e) _ ((m.o 1 rfl).lat rQ (by decide)) (by omega)) ?_);clear m;rintro v u m rfl;refine bN rfl (aA (oE rfl rfl) (aA (cG rfl) (aG (k11 _ _ ?_))));simp only[zz];refine cC rfl (fun hc2=>?_) (fun hc2=>?_)
    ·
     rw [Dw (.inr (gt0.1 hc2))] at hs;refine wp_exit (k8 _ _ ?_);refine wp_region_lit (aA (aB) ?_);simp only[zz];refine aA (aQ rfl rfl (aM (by omega) (by omega))) (aA (aD) (aG ?_));simp only[zz];simp only[Exit.inBlock,Exit.then];refine ⟨n3 - (k + 1),_,?_,rfl,?_,?_⟩
     · omega
     · simp only[zz,zv]
     ·
      simp only[zQ,zR,zD,zE];exact ⟨k + 1,_,_,_,rfl,((m.reO 1 rfl ((m.o 1 rfl).as (by rw [hs]))).sel [false,true,true]),by omega,by omega,rfl⟩
    ·
     have hz2 : ¬ 0 < kA B e:=fun h=>hc2 (gt0.2 h);refine wp_skip (k10 _ _ ?_);refine aF fun K12 k12=>wp_region_lit (aA (aD) (aG (k12 _ _ ?_)));refine aF fun K13 k13=>wp_block ?_;simp only[zz];try simp only[Nat.zero_add,Nat.reduceAdd,Nat.reduceMul,Int.reduceToNat]
     refine bJ [7] [8,36,37,38,39,40,41,42,43,44,45,46,47,48,49] (fun n vs wl=>∃ (j : Nat),vs = [.int .i64 (j:Int)] ∧ cF w wl [bI g1 (cB e) 57,oI 57 6 A4 n4 cap4 ((B).flatMap cB),oI 57 6 (some ⟨gO,0,none⟩) n3 cap3 ((bB ts).flatMap cB)] ∧ (Pre (fun x=>Rc x e) B j) ∧ (j ≤ n4) ∧ (n = n4 - j)) ?_ ?_
     ·
      apply Exists.intro;simp only[zQ,zR,zD,zE];exact ⟨0,rfl,m,Pre.zero,Nat.zero_le _,rfl⟩
     ·
      intro n vs wr hI u;clear m;obtain ⟨j,rfl,m,hpre,hj,hn2⟩:=hI;simp only[zu,zF,zG];refine aF fun K14 k14=>aF fun K15 k15=>wp_region_lit (aA (aB) (aA (aB) (aA (bA rfl eU rfl) (aA (cO rfl rfl) ?_))));simp only[zz];refine aG (k15 _ _ ?_);refine cC rfl (fun hc3=>?_) (fun hc3=>?_)
      ·
       obtain ⟨x,hx⟩ : ∃ x,B[j]? = some x:=⟨_,List.getElem?_eq_getElem (by omega)⟩
       obtain ⟨gP,rfl⟩:=(m.o 1 rfl).some (by omega);refine wp_skip (k14 _ _ ?_);refine wp_block (aF fun K16 k16=>mq m aP (by kernel_rfl) (aI (aB) (aI (aB) ?_)));simp only[zz];refine aI (aK eU cK rfl rfl (by omega) (by omega) (bY (Int.toNat_natCast _))) ?_;simp only[zz];refine ql rfl (fun u m=>(((m.o 1 rfl).at rQ hx).lies jR cK)) ?_;simp only[zz];refine ql rfl (fun u m=>((m.b 0 rfl).full jR cK)) ?_;simp only[zz];refine sS rfl rfl (Ys (a:=x) (b:=e)) (aI (aD) (cP ?_));clear m;intro u m;refine k16 _ _ ?_;refine aF fun K17 k17=>aF fun K18 k18=>wp_region_lit (aA (aB) (aA (fN rfl) ?_));simp only[zz];refine aG (k18 _ _ ?_);refine lI rfl (fun hc4=>?_) (fun hc4=>?_)
       ·
        have hpos : Tq B e = j:=ab8 hpre hx (by simpa using hc4);rw [Hh (by omega) hz2 hpos] at hs;refine wp_exit (k13 _ _ ?_);refine aF fun K19 k19=>wp_region_lit (aA (aD) ?_);replace m:=m.nilO 57 6;refine aG (k19 _ _ ?_);refine aF fun K20 k20=>wp_region_lit (aA (aB) (aA (aB) (aA (aB) ?_)));simp only[zz];refine aA (kZ eU cK rfl rfl (Int.toNat_natCast _) (by omega) (by omega)) ?_;simp only[zz];refine eG m 0 rfl rfl eU sV rfl (by decide) rfl rfl (by rw [jC rQ,List.length_take,Nat.min_eq_left (show j ≤ B.length by omega)]) ((((m.o 2 rfl).lat rQ (by decide)).take (k:=j) (by omega)).cells rQ (by decide)) (Iy _) (by omega) (by omega) ?_;clear m;intro A9 cap9 u m;simp only[zF,zG] at m;rw [List.nil_append,Nat.zero_add] at m;rw [Nat.zero_add];refine aA (aD) (aG (k20 _ _ ?_));refine aF fun K21 k21=>wp_region_lit (aA (aB) ?_);simp only[zz];refine aL rfl ((m.b 1 rfl).full jR cK) ?_;simp only[zz];refine yU rfl ?_;intro u g2 e hg hB;replace m:=m.newB e hg hB;clear e hg hB;simp only[zz];refine eG m 1 rfl rfl eU sV rfl (by decide) rfl rfl rfl (m.b 0 rfl).rowsO (qX rfl) (by omega) (by omega) ?_;clear m;intro A9 cap9 u m;simp only[zF,zG] at m;refine aA (aD) (aG (k21 _ _ ?_));refine wp_region_lit (aA (aB) (aA (aB) ?_));simp only[zz];refine aA (aB) ?_;simp only[zz];refine aA (kM eU cK rfl rfl (Int.toNat_natCast _) (by omega) (by omega) rfl) ?_;simp only[zz];refine eG m 1 rfl rfl eU sV rfl (by decide) rfl rfl (by rw [jC rQ,List.length_drop,h4]) (((m.o 3 rfl).lat rQ (by decide)).cellsD rQ (by decide) (by omega)) (Iy _) (by omega) (by omega) ?_;clear m;intro A9 cap9 u m;simp only[zF,zG] at m;refine aA (aD) ?_;simp only[zz];replace m:=(m.pull 1 rfl).mv 2 rfl;simp only[wI,wJ,zF,zG] at m;refine aG (k8 _ _ ?_);refine wp_region_lit (aA (aB) ?_);simp only[zz];refine aA (aQ rfl rfl (aM (by omega) (by omega))) (aA (aD) (aG ?_));simp only[zz];simp only[Exit.inBlock,Exit.then];refine ⟨n3 - (k + 1),_,?_,rfl,?_,?_⟩
        · omega
        · simp only[zz,zv]
        ·
         simp only[zQ,zR,zD,zE];exact ⟨k + 1,_,_,_,rfl,((m.reO 2 rfl ((m.o 2 rfl).as (by rw [hs,List.flatMap_append,List.flatMap_append];rfl))).sel [false,false,true,true]),by omega,by omega,rfl⟩
       ·
        have hpre2:=hpre.step hx (by simpa using hc4);refine wp_skip (k17 _ _ ?_);refine wp_region_lit (aA (aB) ?_);simp only[zz];refine aA (aQ rfl rfl (aM (by omega) (by omega))) (aA (aD) (aG ?_));simp only[zz];simp only[Exit.inBlock,Exit.then];refine ⟨n4 - (j + 1),_,?_,rfl,?_,?_⟩
        · omega
        · simp only[zz,zv]
        ·
         simp only[zQ,zR,zD,zE];exact ⟨j + 1,rfl,m,hpre2,by omega,rfl⟩
      ·
       have hjl : j = B.length:=by omega
       have hpos : Tq B e = j:=by rw [hjl] at hpre ⊢;exact Yd hpre
       rw [Hh (by omega) hz2 hpos] at hs;refine wp_exit (k13 _ _ ?_);refine aF fun K22 k22=>wp_region_lit (aA (aD) ?_);replace m:=m.nilO 57 6;refine aG (k22 _ _ ?_);refine aF fun K23 k23=>wp_region_lit (aA (aB) (aA (aB) (aA (aB) ?_)));simp only[zz];refine aA (kZ eU cK rfl rfl (Int.toNat_natCast _) (by omega) (by omega)) ?_;simp only[zz];refine eG m 0 rfl rfl eU sV rfl (by decide) rfl rfl (by rw [jC rQ,List.length_take,Nat.min_eq_left (show j ≤ B.length by omega)]) ((((m.o 2 rfl).lat rQ (by decide)).take (k:=j) (by omega)).cells rQ (by decide)) (Iy _) (by omega) (by omega) ?_;clear m;intro A9 cap9 u m;simp only[zF,zG] at m;rw [List.nil_append,Nat.zero_add] at m;rw [Nat.zero_add];refine aA (aD) (aG (k23 _ _ ?_));refine aF fun K24 k24=>wp_region_lit (aA (aB) ?_);simp only[zz];refine aL rfl ((m.b 1 rfl).full jR cK) ?_;simp only[zz];refine yU rfl ?_;intro u g2 e hg hB;replace m:=m.newB e hg hB;clear e hg hB;simp only[zz];refine eG m 1 rfl rfl eU sV rfl (by decide) rfl rfl rfl (m.b 0 rfl).rowsO (qX rfl) (by omega) (by omega) ?_;clear m;intro A9 cap9 u m;simp only[zF,zG] at m;refine aA (aD) (aG (k24 _ _ ?_));refine wp_region_lit (aA (aB) (aA (aB) ?_));simp only[zz];refine aA (aB) ?_;simp only[zz];refine aA (kM eU cK rfl rfl (Int.toNat_natCast _) (by omega) (by omega) rfl) ?_;simp only[zz];refine eG m 1 rfl rfl eU sV rfl (by decide) rfl rfl (by rw [jC rQ,List.length_drop,h4]) (((m.o 3 rfl).lat rQ (by decide)).cellsD rQ (by decide) (by omega)) (Iy _) (by omega) (by omega) ?_;clear m;intro A9 cap9 u m;simp only[zF,zG] at m;refine aA (aD) ?_;simp only[zz];replace m:=(m.pull 1 rfl).mv 2 rfl;simp only[wI,wJ,zF,zG] at m;refine aG (k8 _ _ ?_);refine wp_region_lit (aA (aB) ?_);simp only[zz];refine aA (aQ rfl rfl (aM (by omega) (by omega))) (aA (aD) (aG ?_));simp only[zz];simp only[Exit.inBlock,Exit.then];refine ⟨n3 - (k + 1),_,?_,rfl,?_,?_⟩
       · omega
       · simp only[zz,zv]
       ·
        simp only[zQ,zR,zD,zE];exact ⟨k + 1,_,_,_,rfl,((m.reO 2 rfl ((m.o 2 rfl).as (by rw [hs,List.flatMap_append,List.flatMap_append];rfl))).sel [false,false,true,true]),by omega,by omega,rfl⟩
   ·
    rw [Dw (.inl hz)] at hs;refine wp_region_lit (aA (aB) (aA (aH cH aC rfl rfl (by decide) (by decide) rfl) ?_));simp only[zz];refine aL rfl ((m.b 0 rfl).lies aJ aC rfl rfl) ?_;simp only[zz,zy,Nat.zero_add,Nat.reduceAdd,Nat.reduceMul,Int.reduceToNat];refine aA (aH cH aC rfl rfl (by decide) (by decide) rfl) ?_;simp only[zz];refine aL rfl ((m.b 0 rfl).lies aJ aC rfl rfl) ?_;simp only[zz,zy,Nat.zero_add,Nat.reduceAdd,Nat.reduceMul,Int.reduceToNat];refine aA (cL rfl rfl) ?_;simp only[zz];refine eQ m rfl rfl (Cb (es:=bB ts) (e:=(e.2,e.1)) _ ((m.o 2 rfl).lat rQ (by decide)) (by omega)) ?_;clear m;rintro v u m rfl;simp only[zz];refine aA (wB rfl rfl (by omega)) (aA (aB) (fM rfl (fM rfl ?_)));simp only[zz];refine fM rfl (fM rfl (aA (cJ rfl) (aG (k11 _ _ ?_))));refine cQ rfl (wp_exit (k8 _ _ ?_));refine wp_region_lit (aA (aB) ?_);simp only[zz];refine aA (aQ rfl rfl (aM (by omega) (by omega))) (aA (aD) (aG ?_));simp only[zz];simp only[Exit.inBlock,Exit.then];refine ⟨n3 - (k + 1),_,?_,rfl,?_,?_⟩
    · omega
    · simp only[zz,zv]
    ·
     simp only[zQ,zR,zD,zE];exact ⟨k + 1,_,_,_,rfl,((m.reO 1 rfl ((m.o 1 rfl).as (by rw [hs]))).sel [false,true,true]),by omega,by omega,rfl⟩
  ·
   have hkN : k = (bB ts).length:=by omega
   rw [hkN,List.take_length] at m;refine wp_exit (k4 _ _ ?_);refine aF fun K25 k25=>wp_region_lit (aA (aB) (aA (aD) (aG (k25 _ _ ?_))));refine wp_ret ?_;simp only[zz];try simp only[Exit.inBlock,Exit.then,if_true]
   refine bS rfl rfl ?_;try simp only[zD,zE]
   exact ⟨_,rfl,m.ext,⟨_,_,_,((m.o 0 rfl).num rQ (by decide)).symm,rfl,(m.o 0 rfl)⟩⟩
theorem Rg {op : Bool} {ts : List T3} (h : ts.any pW = true) : cX op ts = 20:=by simp [cX,h]
theorem Rh {op : Bool} {ts : List T3} (h : ts.any pW = false) (h2 : (bB ts).any (fun e=>decide (1 < kA (bB ts) e)) = true) : cX op ts = 21:=by rw [cX,h,h2];rfl
theorem Ri {op : Bool} {ts : List T3} (h : ts.any pW = false) (h2 : (bB ts).any (fun e=>decide (1 < kA (bB ts) e)) = false) (h3 : (!op && decide (0 < (aU ts).length)) = false) (h4 : (eJ ts).any (xG ts) = true) : cX op ts = 23:=by rw [cX,h,h2,h3,h4];rfl
theorem Yu {op : Bool} {ts : List T3} (h : ts.any pW = false) (h2 : (bB ts).any (fun e=>decide (1 < kA (bB ts) e)) = false) (h3 : (!op && decide (0 < (aU ts).length)) = false) (h4 : (eJ ts).any (xG ts) = false) : cX op ts = 0:=by rw [cX,h,h2,h3,h4];rfl
theorem gt1 {n : Nat} : ((1 : Int) < (n : Int)) ↔ 1 < n:=by omega
theorem abj {ts : List T3} {N cap : Nat} {A : Option Addr} (w : World) (hT : fA w A N ts) (hN : N ≤ 100000000) : eL prog 30 [.slice A N cap,.bool true] w (fun v _=>v = .int .i64 (cX true ts)):=by
 refine ⟨aew,?_⟩;have m:=cF.refl w;have htl:=hT.len;have he3:=jD ts;have hcl:=Ao ts
 go_enter func30,ntmps30
 refine aF fun K1 k1=>wp_region_lit (aA (aD) (aG (k1 _ _ ?_)));refine aF fun K2 k2=>aF fun K3 k3=>wp_region_lit (aA (aD) (aG (k3 _ _ ?_)));refine wp_block ?_;simp only[zz];try simp only[Nat.zero_add,Nat.reduceAdd,Nat.reduceMul,Int.reduceToNat]
 refine bJ [5] [4,11,12,13,14,15,16,17,18,19,20,21,22,23,24,25,26,27,28,29,30,31,32,33,34,35,36,37,38,39,40,41,42,43,44,45,46,47,48,49,50,51,52,53] (fun n vs wl=>∃ (k : Nat),vs = [.int .i64 (k:Int)] ∧ cF w wl [] ∧ ((ts.take k).any pW = false) ∧ (k ≤ N) ∧ (n = N - k)) ?_ ?_
 ·
  apply Exists.intro;simp only[zQ,zR,zD,zE];exact ⟨0,rfl,m,rfl,Nat.zero_le _,rfl⟩
 ·
  intro n vs wr hI u;clear m;obtain ⟨k,rfl,m,hd0,hk,hn⟩:=hI;simp only[zu,zF,zG];refine aF fun K4 k4=>aF fun K5 k5=>wp_region_lit (aA (aB) (aA (aB) (aA (bA rfl bV rfl) (aA (cO rfl rfl) ?_))));simp only[zz];refine aG (k5 _ _ ?_);refine cC rfl (fun hc1=>?_) (fun hc1=>?_)
  ·
   obtain ⟨t,ht,_,a,rfl,hrow⟩:=hT.get (i:=k) (by omega);refine wp_skip (k4 _ _ ?_);refine aF fun K6 k6=>wp_block (aF fun K7 k7=>mq m aP (by kernel_rfl) (aI (aB) (aI (aB) ?_)));simp only[zz];refine aI (aK bV aS rfl rfl (by omega) (by omega) (bY (Int.toNat_natCast _))) (aI (aH aY aC rfl rfl (by decide) (by decide) rfl) ?_);simp only[zz];refine ql rfl (fun u m=>((jL.cor ((hrow.ext m.ext)) (c:=0) (by decide)).lies aJ aC)) ?_;simp only[zz];refine aI (aB) (aI (aB) ?_);simp only[zz];refine aI (aK bV aS rfl rfl (by omega) (by omega) (bY (Int.toNat_natCast _))) (aI (aH aY aC rfl rfl (by decide) (by decide) rfl) ?_);simp only[zz];refine ql rfl (fun u m=>((jL.cor ((hrow.ext m.ext)) (c:=1) (by decide)).lies aJ aC)) ?_;simp only[zz];refine aI (aW rfl rfl) (aI (aB) (dS rfl (fun hb=>aB) (dS rfl (fun hb=>aB) ?_)));simp only[zz];refine dS rfl (fun hb=>aK bV aS (bO hb rfl) (bO hb rfl) (by omega) (by omega) (bY (Int.toNat_natCast _))) (dS rfl (fun hb=>aH aY aC (bO hb rfl) rfl (by decide) (by decide) rfl) ?_);simp only[zz];refine gV rfl (fun hb u m=>cM (bO hb rfl) ((jL.cor ((hrow.ext m.ext)) (c:=1) (by decide)).lies aJ aC)) (dS rfl (fun hb=>aB) (dS rfl (fun hb=>aB) ?_));simp only[zz];refine dS rfl (fun hb=>aK bV aS (bO hb rfl) (bO hb rfl) (by omega) (by omega) (bY (Int.toNat_natCast _))) (dS rfl (fun hb=>aH aY aC (bO hb rfl) rfl (by decide) (by decide) rfl) ?_);simp only[zz];refine gV rfl (fun hb u m=>cM (bO hb rfl) ((jL.cor ((hrow.ext m.ext)) (c:=2) (by decide)).lies aJ aC)) (dS rfl (fun hb=>aW (bO hb rfl) (bO hb rfl)) (aI (fQ rfl rfl rfl) (aI (aB) (dS rfl (fun hb=>aB) ?_))));simp only[zz];refine dS rfl (fun hb=>aB) ?_;simp only[zz];refine dS rfl (fun hb=>aK bV aS (bO hb rfl) (bO hb rfl) (by omega) (by omega) (bY (Int.toNat_natCast _))) (dS rfl (fun hb=>aH aY aC (bO hb rfl) rfl (by decide) (by decide) rfl) ?_);simp only[zz];refine gV rfl (fun hb u m=>cM (bO hb rfl) ((jL.cor ((hrow.ext m.ext)) (c:=2) (by decide)).lies aJ aC)) (dS rfl (fun hb=>aB) (dS rfl (fun hb=>aB) ?_));simp only[zz];refine dS rfl (fun hb=>aK bV aS (bO hb rfl) (bO hb rfl) (by omega) (by omega) (bY (Int.toNat_natCast _))) (dS rfl (fun hb=>aH aY aC (bO hb rfl) rfl (by decide) (by decide) rfl) ?_);simp only[zz];refine gV rfl (fun hb u m=>cM (bO hb rfl) ((jL.cor ((hrow.ext m.ext)) (c:=0) (by decide)).lies aJ aC)) (dS rfl (fun hb=>aW (bO hb rfl) (bO hb rfl)) (aI (fQ rfl rfl rfl) (cP ?_)));clear m;intro u m;refine k7 _ _ ?_;simp only[zz];refine lI rfl (fun hc2=>?_) (fun hc2=>?_)
   ·
    have hd:=qN (p:=pW) ht (Ja.symm.trans hc2);refine aF fun K8 k8=>wp_region_lit (aA (aD) (aG (k8 _ _ ?_)));refine wp_ret ?_;simp only[zz];try simp only[Exit.inBlock,Exit.then,if_true]
    refine bS rfl rfl ?_;try simp only[zD,zE]
    exact ⟨_,rfl,m.ext,by rw [Rg hd]⟩
   ·
    have hd1 : (ts.take (k + 1)).any pW = false:=by rw [lS ht,hd0,← Ja];exact hc2
    refine wp_skip (k6 _ _ ?_);refine wp_region_lit (aA (aB) ?_);simp only[zz];refine aA (aQ rfl rfl (aM (by omega) (by omega))) (aA (aD) (aG ?_));simp only[zz];simp only[Exit.inBlock,Exit.then];refine ⟨N - (k + 1),_,?_,rfl,?_,?_⟩
    · omega
    · simp only[zz,zv]
    ·
     simp only[zQ,zR,zD,zE];exact ⟨k + 1,rfl,m,hd1,by omega,rfl⟩
  ·
   have hkN : k = N:=by omega
   rw [hkN,show ts.take N = ts from List.take_of_length_le (by omega)] at hd0;refine wp_exit (k2 _ _ ?_);refine aF fun K9 k9=>wp_region_lit (aA (aB) ?_);simp only[zz];refine bE rfl rfl (Rf _ (hT.ext m.ext) (by omega)) ?_;rintro v u e ⟨A3,cap3,n3,hn3,rfl,hN⟩;replace m:=m.newO e hN;clear e hN;have hle3:=(m.o 0 rfl).le;refine aA (aD) (aG (k9 _ _ ?_));refine aF fun K10 k10=>aF fun K11 k11=>wp_region_lit (aA (aD) (aG (k11 _ _ ?_)));refine wp_block ?_;simp only[zz];try simp only[Nat.zero_add,Nat.reduceAdd,Nat.reduceMul,Int.reduceToNat]
   refine bJ [7] [4,56,57,58,59,60,61,62,63,64,65,66,67,68] (fun n vs wl=>∃ (k : Nat),vs = [.int .i64 (k:Int)] ∧ cF w wl [oI 57 6 A3 n3 cap3 ((bB ts).flatMap cB)] ∧ (((bB ts).take k).any (fun e=>decide (1 < kA (bB ts) e)) = false) ∧ (k ≤ n3) ∧ (n = n3 - k)) ?_ ?_
   ·
    apply Exists.intro;simp only[zQ,zR,zD,zE];exact ⟨0,rfl,m,rfl,Nat.zero_le _,rfl⟩
   ·
    intro n vs wr hI u;clear m;obtain ⟨k,rfl,m,hc0,hk,hn⟩:=hI;simp only[zu,zF,zG];refine aF fun K12 k12=>aF fun K13 k13=>wp_region_lit (aA (aB) (aA (aB) (aA (bA rfl eU rfl) (aA (cO rfl rfl) ?_))));simp only[zz];refine aG (k13 _ _ ?_);refine cC rfl (fun hc3=>?_) (fun hc3=>?_)
    ·
     obtain ⟨e,he⟩ : ∃ e,(bB ts)[k]? = some e:=⟨_,List.getElem?_eq_getElem (by omega)⟩
     obtain ⟨gO,rfl⟩:=(m.o 0 rfl).some (by omega);refine wp_skip (k12 _ _ ?_);refine aF fun K14 k14=>wp_block (aF fun K15 k15=>wp_region_lit (aA (aB) (aA (aB) (aA (aB) ?_))));simp only[zz];refine aA (aK eU cK rfl rfl (by omega) (by omega) (bY (Int.toNat_natCast _))) ?_;simp only[zz];refine aL rfl (((m.o 0 rfl).at rQ he).lies jR cK) ?_;simp only[zz];refine eQ m rfl rfl (Cb (es:=bB ts) (e:=e) _ ((m.o 0 rfl).lat rQ (by decide)) (by omega)) ?_;clear m;rintro v u m rfl;refine aA (oE rfl rfl) (aG (k15 _ _ ?_));simp only[zz];refine cC rfl (fun hc4=>?_) (fun hc4=>?_)
     ·
      have hc:=qN (p:=(fun e=>decide (1 < kA (bB ts) e))) he (decide_eq_true (gt1.1 hc4));refine aF fun K16 k16=>wp_region_lit (aA (aD) (aG (k16 _ _ ?_)));refine wp_ret ?_;simp only[zz];try simp only[Exit.inBlock,Exit.then,if_true]
      refine bS rfl rfl ?_;try simp only[zD,zE]
      exact ⟨_,rfl,m.ext,by rw [Rh hd0 hc]⟩
     ·
      have hc01 : ((bB ts).take (k + 1)).any (fun e=>decide (1 < kA (bB ts) e)) = false:=by rw [lS he,hc0,decide_eq_false (fun h=>hc4 (gt1.2 h))];rfl
      refine wp_skip (k14 _ _ ?_);refine wp_region_lit (aA (aB) ?_);simp only[zz];refine aA (aQ rfl rfl (aM (by omega) (by omega))) (aA (aD) (aG ?_));simp only[zz];simp only[Exit.inBlock,Exit.then];refine ⟨n3 - (k + 1),_,?_,rfl,?_,?_⟩
      · omega
      · simp only[zz,zv]
      ·
       simp only[zQ,zR,zD,zE];exact ⟨k + 1,rfl,m,hc01,by omega,rfl⟩
    ·
     have hkN : k = (bB ts).length:=by omega
     rw [hkN,List.take_length] at hc0;refine wp_exit (k10 _ _ ?_);refine aF fun K17 k17=>aF fun K18 k18=>wp_region_lit (aA (aB) (aA (fN rfl) (aA (aB) (cN rfl ?_))));simp only[zz];refine cN rfl (cN rfl (cN rfl (aA (cG rfl) ?_)));simp only[zz];refine aG (k18 _ _ ?_);refine iD rfl (wp_skip (k17 _ _ ?_));refine aF fun K19 k19=>wp_region_lit (aA (aB) ?_);simp only[zz];refine bE rfl rfl (Uj _ (hT.ext m.ext) hN) ?_;rintro v u e ⟨A8,cap8,n8,hn8,rfl,hN⟩;replace m:=m.newO e hN;clear e hN;have hle8:=(m.o 0 rfl).le;refine aA (aD) (aG (k19 _ _ ?_));refine aF fun K20 k20=>aF fun K21 k21=>wp_region_lit (aA (aD) (aG (k21 _ _ ?_)));refine wp_block ?_;simp only[zz];try simp only[Nat.zero_add,Nat.reduceAdd,Nat.reduceMul,Int.reduceToNat]
     refine bJ [9] [4,10,79,80,81,82,83,84,85,86,87,88,89,90,91] (fun n vs wl=>∃ (k : Nat),vs = [.int .i64 (k:Int)] ∧ cF w wl [oI 48 3 A8 n8 cap8 ((eJ ts).flatMap uC)] ∧ (((eJ ts).take k).any (xG ts) = false) ∧ (k ≤ n8) ∧ (n = n8 - k)) ?_ ?_
     ·
      apply Exists.intro;simp only[zQ,zR,zD,zE];exact ⟨0,rfl,(m.sel [true,false]),rfl,Nat.zero_le _,rfl⟩
     ·
      intro n vs wr hI u;clear m;obtain ⟨k,rfl,m,hp0,hk,hn⟩:=hI;simp only[zu,zF,zG];refine aF fun K22 k22=>aF fun K23 k23=>wp_region_lit (aA (aB) (aA (aB) (aA (bA rfl kK rfl) (aA (cO rfl rfl) ?_))));simp only[zz];refine aG (k23 _ _ ?_);refine cC rfl (fun hc6=>?_) (fun hc6=>?_)
      ·
       obtain ⟨x,hx⟩ : ∃ x,(eJ ts)[k]? = some x:=⟨_,List.getElem?_eq_getElem (by omega)⟩
       obtain ⟨gO,rfl⟩:=(m.o 0 rfl).some (by omega);refine wp_skip (k22 _ _ ?_);refine aF fun K24 k24=>wp_block (aF fun K25 k25=>wp_region_lit (aA (aB) (aA (aB) (aA (aB) ?_))));simp only[zz];refine aA (aK kK aC rfl rfl (by omega) (by omega) (bY (Int.toNat_natCast _))) ?_;simp only[zz];refine aL rfl (((m.o 0 rfl).at Lf hx).lies aJ aC) ?_;simp only[zz];refine eQ m rfl rfl (Uk (p:=x) _ (hT.ext m.ext) (by omega)) ?_;clear m;rintro v u m rfl;refine aA (aD) (aG (k25 _ _ ?_));refine aF fun K26 k26=>wp_region_lit (aA (aB) (aG (k26 _ _ ?_)));simp only[zz];refine lI rfl (fun hc7=>?_) (fun hc7=>?_)
       ·
        have hp:=qN (p:=xG ts) hx hc7;refine aF fun K27 k27=>wp_region_lit (aA (aD) (aG (k27 _ _ ?_)));refine wp_ret ?_;simp only[zz];try simp only[Exit.inBlock,Exit.then,if_true]
        refine bS rfl rfl ?_;try simp only[zD,zE]
        exact ⟨_,rfl,m.ext,by rw [Ri hd0 hc0 rfl hp]⟩
       ·
        have hp1 : ((eJ ts).take (k + 1)).any (xG ts) = false:=by rw [lS hx,hp0,hc7];rfl
        refine wp_skip (k24 _ _ ?_);refine wp_region_lit (aA (aB) ?_);simp only[zz];refine aA (aQ rfl rfl (aM (by omega) (by omega))) (aA (aD) (aG ?_));simp only[zz];simp only[Exit.inBlock,Exit.then];refine ⟨n8 - (k + 1),_,?_,rfl,?_,?_⟩
        · omega
        · simp only[zz,zv]
        ·
         simp only[zQ,zR,zD,zE];exact ⟨k + 1,rfl,m,hp1,by omega,rfl⟩
      ·
       have hkN : k = (eJ ts).length:=by omega
       rw [hkN,List.take_length] at hp0;refine wp_exit (k20 _ _ ?_);refine aF fun K28 k28=>wp_region_lit (aA (aD) (aG (k28 _ _ ?_)));refine wp_ret ?_;simp only[zz];try simp only[Exit.inBlock,Exit.then,if_true]
       refine bS rfl rfl ?_;try simp only[zD,zE]
       exact ⟨_,rfl,m.ext,by rw [Yu hd0 hc0 rfl hp0]⟩
theorem xR {ts : List T3} {N cap : Nat} {A : Option Addr} (w : World) (hT : fA w A N ts) (hN : N ≤ 100000000) : eL prog 16 [.slice A N cap] w (fun v _=>v = .int .i64 (cX true ts)):=by
 refine ⟨aem,?_⟩;have m:=cF.refl w
 go_enter func16,ntmps16
 refine aF fun K1 k1=>wp_region_lit (aA (aD) (aG (k1 _ _ ?_)));refine aF fun K2 k2=>wp_region_lit (aA (aB) ?_);simp only[zz];refine eQ m rfl rfl (abj _ (hT.ext m.ext) hN) ?_;clear m;rintro v u m rfl;refine aA (aD) (aG (k2 _ _ ?_));refine wp_ret ?_;simp only[zz];try simp only[Exit.inBlock,Exit.then,if_true]
 refine bS rfl rfl ?_;try simp only[zD,zE]
 exact ⟨_,rfl,m.ext,rfl⟩
end Go.Proofs.YtfohfflkhpfjeaaGreatDoor
namespace Go.Lith
open Go.RowKit Go.Proofs Go.Sort Go.Shelf
theorem Yv {α : Type} {enc : α → List Value} {k : Nat} (hk : ∀ x,(enc x).length = k) (h0 : 0 < k) : ∀ (L : List α) (t : Nat),(L.flatMap enc)[t]? = (L[t / k]?).bind fun x=>(enc x)[t % k]?
 | [],t=>by simp
 | x :: L,t=>by
  rw [List.flatMap_cons,List.getElem?_append];by_cases h : t < k
  · rw [if_pos (by rw [hk];exact h),Nat.div_eq_of_lt h,Nat.mod_eq_of_lt h]
    rfl
  · rw [if_neg (by rw [hk];exact h),hk,Yv hk h0 L (t - k)]
    have e1 : t / k = (t - k) / k + 1:=by rw [Nat.div_eq t k,if_pos ⟨h0,Nat.le_of_not_lt h⟩]
    have e2 : t % k = (t - k) % k:=Nat.mod_eq_sub_mod (Nat.le_of_not_lt h);rw [e1,e2,List.getElem?_cons_succ]
theorem sZ {α : Type} [Inhabited α] {enc : α → List Value} {k : Nat} (hk : ∀ x,(enc x).length = k) (h0 : 0 < k) (L : List α) : (flatK enc k L.toArray).toList = L.flatMap enc:=by
 have hlen : (L.flatMap enc).length = L.length * k:=by
  induction L with
  | nil=>simp
  | cons x L ih=>rw [List.flatMap_cons,List.length_append,ih,hk,List.length_cons,Nat.add_mul];omega
 apply List.ext_getElem?;intro t;by_cases ht : t < L.length * k
 · have hd : t / k < L.length:=by
    rw [Nat.div_lt_iff_lt_mul h0];exact ht
   have hm : t % k < k:=Nat.mod_lt _ h0;have h1:=get_flatK enc k L.toArray t (by simpa using ht);rw [getElem!_pos _ t (by simpa using ht)] at h1;rw [Yv hk h0,List.getElem?_eq_getElem hd,Option.bind_some,Array.getElem?_toList,Array.getElem?_eq_getElem (by simpa using ht),h1,List.getElem?_eq_getElem (show t % k < (enc L[t / k]).length by rw [hk];exact hm)]
   congr 1
   rw [getElem!_pos L.toArray _ (by simpa using hd),List.getElem_toArray,getElem!_pos _ _ (by rw [hk];exact hm)]
 · rw [List.getElem?_eq_none (by simpa using Nat.le_of_not_lt ht),List.getElem?_eq_none (by rw [hlen];exact Nat.le_of_not_lt ht)]
section
variable {α : Type} [Inhabited α] {P : Program} {ρ : Ren} {enc : α → List Value} {c : Nat} {E : TypeId} {w w0 : World} {is : List It} {A : Option Addr} {n cap : Nat}
theorem Ul {g : Nat} {xs : List α} {cur : Array Value} (hk : ∀ x,(enc x).length = c) (h0 : 0 < c) (hg : w.heap[g]? = some (.cells cur E (0,0))) (h : cur.toList.take (xs.length * c) = xs.flatMap enc) : HoldsK enc c w g 0 xs.toArray:=by
 intro j hj;have hl:=sZ hk h0 xs;have hj' : j < xs.length * c:=by simpa using hj
 have e : (flatK enc c xs.toArray)[j]? = cur[j]?:=by
  rw [← Array.getElem?_toList,hl,← h,List.getElem?_take,if_pos hj',Array.getElem?_toList]
 rw [Array.getElem?_eq_getElem hj] at e;refine ⟨?_,?_⟩
 · simp only[World.cell?,hg,Nat.zero_add,Option.isSome_none,Bool.false_eq_true,if_false]
   rw [← e,getElem!_pos _ j hj];rfl
 · simp [World.frozen?,hg]
theorem Gd {g : Nat} {xs ys : List α} {cur : Array Value} {q : Nat} {os : Array Obj} (hk : ∀ x,(enc x).length = c) (h0 : 0 < c) (hg : w.heap[g]? = some (.cells cur E (0,0))) (hl : xs.length * c ≤ cur.size) (hlen : ys.length = xs.length) :
 ∃ cur' : Array Value,(sortWorldK enc c w g 0 q ys.toArray os).heap[g]? = some (.cells cur' E (0,0)) ∧ cur'.size = cur.size ∧ cur'.toList.take (xs.length * c) = ys.flatMap enc:=by
 have hlt : g < w.heap.size:=(Array.getElem?_eq_some_iff.1 hg).1;refine ⟨putCells id 0 (flatK enc c ys.toArray) cur,?_,by simp [putCells],?_⟩
 · unfold sortWorldK putRowK putRow mapBlock grow
   simp only;rw [Array.getElem?_append_left (by simpa [ahead] using hlt),Array.getElem?_modify];simp [ahead,hg,onCells]
 · have hf:=sZ hk h0 ys
   apply List.ext_getElem?;intro t;rw [List.getElem?_take,← hf,Array.getElem?_toList,Array.getElem?_toList];have hs : (flatK enc c ys.toArray).size = xs.length * c:=by simp [hlen]
   split
   · rename_i ht
     have : t < cur.size:=Nat.lt_of_lt_of_le ht hl;simp only[putCells,Array.getElem?_mapIdx,Array.getElem?_eq_getElem this,Option.map_some,Nat.zero_le,Nat.zero_add,true_and,Nat.sub_zero,hs,ht,if_true];rw [Array.getElem?_eq_getElem (by rw [hs];exact ht),getElem!_pos _ t (by rw [hs];exact ht)];rfl
   · rename_i ht
     rw [Array.getElem?_eq_none (by rw [hs];exact Nat.le_of_not_lt ht)]
theorem Lx (L : SlLaysF0.n6 P ρ) (aE : ∀ w,(isAgg (ρ.t 24)).run P w = .ok true w) (zE : ∀ w,(Go.sizeOf (ρ.t 24)).run P w = .ok c w) (hk : ∀ x,(enc x).length = c) (h0 : 0 < c) (h1 : ∀ x,∀ v ∈ enc x,v.oneCell' = true)
 (cf : α → α → Int) (hO : SWO (ltOf cf)) {f : FuncId} (hcmp : ∀ x y,tM P f [.agg (enc x).toArray,.agg (enc y).toArray] (.int .i64 (cf x y))) {xs : List α} (m : cF w0 w is) (k : Nat) (hi : is[k]? = some (oI E c A n cap (xs.flatMap enc))) (hsz : n < 4611686018427387904) :
 Calls P (ρ.f 6) #[.slice A n cap,.func (.func f) #[] #[]] w fun e w'=>∃ v i,e = .returned v ∧ cF w0 w' (is.set k i) ∧ (v = .tuple #[] ∧ ∃ ys : List α,i = oI E c A n cap (ys.flatMap enc) ∧ ys.Perm xs ∧ ys.Pairwise fun a b=>ltOf cf b a = false):=by
 have h : w.ownsRow 0 E c (.slice A n cap) n (xs.flatMap enc):=m.get k hi;have hlen : (xs.flatMap enc).length = xs.length * c:=by
  have:=sZ hk h0 xs;rw [← this];simp
 have hn : xs.length = n:=by
  have:=h.1;rw [hlen] at this;exact Nat.eq_of_mul_eq_mul_right h0 this
 have hge:=fun b hb=>m.ge _ (List.mem_of_getElem? hi) b hb;rcases lP h with ⟨rfl,rfl,rfl,hx⟩ | ⟨g,cur,rfl,_,hg,hcap,hmax,hcur,htake⟩
 · refine (AnyF.slices_SortFunc_none L none 0 _ w).mono ?_
   rintro e w' ⟨rfl,rfl⟩;obtain rfl : xs = []:=List.eq_nil_of_length_eq_zero hn;refine ⟨_,oI E c none 0 0 [],rfl,?_,rfl,[],rfl,List.Perm.refl _,.nil⟩;have : is.set k (oI E c none 0 0 []) = is:=by
    apply List.ext_getElem?;intro j;rw [List.getElem?_set];split
    · rename_i e;subst e
      have:=(List.getElem?_eq_some_iff.1 hi).1;rw [if_pos this,hi];rfl
    · rfl
   rw [this];exact m
 · have hlt : g < w.heap.size:=(Array.getElem?_eq_some_iff.1 hg).1
   rw [← hn] at htake;have hH:=Ul (xs:=xs) hk h0 hg htake;have hx:=AnyQ.slices_SortFunc L c aE zE enc hk h1 cf hO f #[] g 0 cap xs.toArray w (fun args w'=>wU (hcmp default default w').1) (fun mm os dk _ x y=>by
    have:=((hcmp x y (sortWorldK enc c w g 0 mm dk os)).2.mono fun e w' h=>(show e = .returned (.int .i64 (cf x y)) ∧ ∃ q os',w' = grow ((sortWorldK enc c w g 0 mm dk os).drewN q) os' from by obtain ⟨u,rfl,hX,rfl⟩:=h;exact ⟨rfl,hX.grow⟩))
    simpa using this) hH hlt (by simpa [hn] using hsz)
   have es : xs.toArray.size = n:=by simpa using hn
   rw [es] at hx;refine hx.mono ?_;rintro e w' ⟨rfl,d',q,os,hp,hs,rfl⟩;have hd : d'.size = n:=by rw [hp.1];exact es
   obtain ⟨ys,rfl⟩ : ∃ ys : List α,d' = ys.toArray:=⟨d'.toList,by simp⟩
   have hyl : ys.length = n:=by simpa using hd
   have hcs : xs.length * c ≤ cur.size:=by rw [hn,hcur];exact Nat.mul_le_mul_right _ hcap
   obtain ⟨cur',e1,e2,e3⟩:=Gd (q:=q) (os:=os) (ys:=ys) hk h0 hg hcs (by rw [hyl,hn]);refine ⟨_,oI E c (some ⟨g,0,none⟩) n cap (ys.flatMap enc),rfl,?_,rfl,ys,rfl,?_,?_⟩
   · refine m.put k hi rfl rfl rfl ?_ (fun b hb hne=>?_) ?_ (.inl fun _ h=>h)
     · simp [sortWorldK,putRowK,putRow,mapBlock,grow,ahead]
     · have hbg : g ≠ b:=fun e=>hne (by rw [e];rfl)
       unfold sortWorldK putRowK putRow mapBlock grow;simp only;rw [Array.getElem?_append_left (by simpa [ahead] using hb),Array.getElem?_modify,if_neg hbg];rfl
     · refine ⟨?_,.inr ⟨g,cap,cur',rfl,Nat.zero_le _,e1,hcap,hmax,by rw [e2,hcur],?_⟩⟩
       · have:=sZ hk h0 ys
         rw [← this];simp [hyl]
       · rw [← hn];exact e3
   · have:=hp.2.2
     simpa [hyl,hn,List.take_of_length_le (Nat.le_of_eq hyl),List.take_of_length_le (Nat.le_of_eq hn),List.extract_eq_take_drop] using this
   · rw [List.pairwise_iff_getElem]
     intro i j hi' hj' hij;have:=hs i j (Nat.zero_le _) hij (by rw [← hyl];exact hj');rw [getElem!_pos _ i (by simpa using hi'),getElem!_pos _ j (by simpa using hj')] at this;simpa using this
end
end Go.Lith
namespace Go.Lith
open Go.RowKit Go.Sort
instance : Inhabited P3:=⟨⟨0,0,0⟩⟩
def pG (p : P3) : List Value:=[.int .i64 p.x,.int .i64 p.y,.int .i64 p.z]
theorem Ly (p : P3) : ∀ v ∈ pG p,v.oneCell' = true:=fun v h=>by
 simp only[pG,List.mem_cons,List.not_mem_nil,or_false] at h;rcases h with rfl | rfl | rfl <;> rfl
theorem sA (p q : P3) : (xC p q < 0) ↔ p.Lt q:=by
 unfold xC;split
 · simp [*]
 · split <;> simp [*]
theorem Yw : SWO (Go.Proofs.ltOf xC) where
 irrefl x:=by simp [Go.Proofs.ltOf,sA,P3.lt_irrefl]
 trans x y z h1 h2:=by
  simp only[Go.Proofs.ltOf,decide_eq_true_eq,sA] at *
  exact P3.lt_trans h1 h2
 ntrans x y z h1 h2:=by
  simp only[Go.Proofs.ltOf,decide_eq_false_iff_not,sA] at *
  unfold P3.Lt at *
  omega
theorem mF.len {K V : Type} [DecidableEq K] {ek : K → Value} {en : V → Value} {D dn rs : List (K × V)} {es : Array MapEntry} {seen : Array Nat} (h : mF ek en D es seen dn rs) : dn.length + rs.length = D.length:=by
 have:=h.1.length_eq;simpa using this
theorem Dx {K V : Type} [DecidableEq K] {ek : K → Value} {en : V → Value} {D dn rs : List (K × V)} {es : Array MapEntry} {b : Bool} {kv vv : Value} {sn : Array Nat} (hb : b = false) (h : Nxt ek en D es dn rs b kv vv sn) : rs = []:=by
 rcases h with ⟨_,h⟩ | ⟨h,_⟩
 · exact h
 · rw [h] at hb;cases hb
theorem Dy {K V : Type} [DecidableEq K] {ek : K → Value} {en : V → Value} {D dn rs : List (K × V)} {es : Array MapEntry} {b : Bool} {kv vv : Value} {sn : Array Nat} (hb : b = true) (h : Nxt ek en D es dn rs b kv vv sn) :
 ∃ k v rs',rs.Perm ((k,v) :: rs') ∧ mF ek en D es sn (dn ++ [(k,v)]) rs':=by
 rcases h with ⟨h,_⟩ | ⟨_,k,v,rs',h1,_,_,h2⟩
 · rw [h] at hb;cases hb
 · exact ⟨k,v,rs',h1,h2⟩
def uI (D : List (P3 × Bool)) (ps : List P3) : List (P3 × Bool):=ps.foldl (fun D p=>gL D p true) D
theorem Lz {K V : Type} [DecidableEq K] (D : List (K × V)) (k a : K) (v : V) : a ∈ (gL D k v).map (·.1) ↔ a ∈ D.map (·.1) ∨ a = k:=by
 rw [yV];split
 · exact ⟨.inl,fun h=>h.elim id (fun e=>e ▸ ‹_›)⟩
 · simp
theorem Hi : ∀ (ps : List P3) (D : List (P3 × Bool)) (a : P3),a ∈ (uI D ps).map (·.1) ↔ a ∈ D.map (·.1) ∨ a ∈ ps
 | [],D,a=>by simp [uI]
 | p :: ps,D,a=>by
  have:=Hi ps (gL D p true) a;unfold uI at this ⊢;rw [List.foldl_cons,this,Lz,List.mem_cons,or_assoc]
theorem Aw : ∀ (ps : List P3) (D : List (P3 × Bool)),(D.map (·.1)).Nodup → ((uI D ps).map (·.1)).Nodup
 | [],_,h=>h
 | p :: ps,D,h=>Aw ps (gL D p true) (wL h p true)
theorem uJ {K V : Type} [DecidableEq K] : ∀ (D : List (K × V)) (k : K) (v : V),(gL D k v).length ≤ D.length + 1
 | [],_,_=>by simp [gL]
 | x :: D,k,v=>by
  unfold gL;split
  · simp
  · simp only[List.length_cons]
    exact Nat.succ_le_succ (uJ D k v)
theorem xS : ∀ (ps : List P3) (D : List (P3 × Bool)),(uI D ps).length ≤ D.length + ps.length
 | [],D=>Nat.le_refl _
 | p :: ps,D=>Nat.le_trans (xS ps (gL D p true)) (by
  have:=uJ D p true;simp only[List.length_cons];omega)
theorem Um (D : List (P3 × Bool)) (ps qs : List P3) : uI D (ps ++ qs) = uI (uI D ps) qs:=List.foldl_append ..
def dZ (ts : List T3) : List P3:=ts.flatMap fun t=>[t.a,t.b,t.c]
def Yx (ps : List P3) : Prop:=ps.Pairwise fun a b=>a.Lt b
theorem Un {ps : List P3} (hn : ps.Nodup) (h : ps.Pairwise fun a b=>¬ b.Lt a) : Yx ps:=by
 have:=hn.and h;exact this.imp fun {a b} h=>(P3.lt_tri a b).resolve_right (by rintro (e | e);exact h.1 e;exact h.2 e)
end Go.Lith
namespace Go.Lith
open Go.RowKit
theorem Uo {α : Type} {ps : List α} {k : Nat} {p : α} (h : ps[k]? = some p) : ps.take (k + 1) = ps.take k ++ [p]:=by
 rw [List.take_add_one,h];rfl
theorem Dz {ts : List T3} {k : Nat} {t : T3} (h : ts[k]? = some t) : dZ (ts.take (k + 1)) = dZ (ts.take k) ++ [t.a,t.b,t.c]:=by
 unfold dZ;rw [Uo h,List.flatMap_append];simp
theorem Pm {ts : List T3} {k : Nat} {t : T3} (h : ts[k]? = some t) : uI [] (dZ (ts.take (k + 1))) = gL (gL (gL (uI [] (dZ (ts.take k))) t.a true) t.b true) t.c true:=by
 rw [Dz h,Um];rfl
theorem xT (ts : List T3) : (dZ ts).length = ts.length * 3:=by
 unfold dZ
 induction ts with
 | nil=>rfl
 | cons t ts ih=>rw [List.flatMap_cons,List.length_append,ih];simp only[List.length_cons,List.length_nil];omega
theorem Ow.max {w0 w : World} {S : List (Option Nat)} {E : TypeId} {c n cap : Nat} {A : Option Addr} {xs : List Value} (h : Ow w0 w S E c A n cap xs) : cap ≤ 9223372036854775807:=by
 rcases h.cases with ⟨_,_,rfl,_⟩ | ⟨_,_,_,_,_,_,h,_⟩
 · exact Nat.zero_le _
 · exact h
end Go.Lith
namespace Go.Lith
open Go.RowKit
theorem Ea {α : Type} {R : α → α → Prop} (irr : ∀ a,¬ R a a) (tr : ∀ a b c,R a b → R b c → R a c) : ∀ {l m : List α},l.Pairwise R → m.Pairwise R → (∀ a,a ∈ l ↔ a ∈ m) → l = m
 | [],[],_,_,_=>rfl
 | [],y :: m,_,_,h=>absurd ((h y).2 (List.mem_cons_self ..)) (by simp)
 | x :: l,[],_,_,h=>absurd ((h x).1 (List.mem_cons_self ..)) (by simp)
 | x :: l,y :: m,hl,hm,h=>by
  obtain ⟨h1,h2⟩:=List.pairwise_cons.1 hl;obtain ⟨k1,k2⟩:=List.pairwise_cons.1 hm;have e : x = y:=by
   rcases List.mem_cons.1 ((h x).1 (List.mem_cons_self ..)) with e | hx
   · exact e
   · rcases List.mem_cons.1 ((h y).2 (List.mem_cons_self ..)) with e | hy
     · exact e.symm
     · exact absurd (tr _ _ _ (h1 y hy) (k1 x hx)) (irr x)
  subst e;rw [Ea irr tr h2 k2 fun a=>⟨fun ha=>?_,fun ha=>?_⟩]
  · rcases List.mem_cons.1 ((h a).1 (List.mem_cons_of_mem _ ha)) with rfl | k
    · exact absurd (h1 a ha) (irr a)
    · exact k
  · rcases List.mem_cons.1 ((h a).2 (List.mem_cons_of_mem _ ha)) with rfl | k
    · exact absurd (k1 a ha) (irr a)
    · exact k
/-! ### Edges in order -/
def yK (a b : E3) : Prop:=a.1.Lt b.1 ∨ a.1 = b.1 ∧ a.2.Lt b.2
theorem Rj {a b : E3} : Rc a b = true ↔ yK a b:=by
 unfold Rc yK;by_cases h : a.1 = b.1
 · rw [if_neg (not_not_intro h),decide_eq_true_eq]
   exact ⟨fun k=>.inr ⟨h,k⟩,fun k=>k.elim (fun k=>absurd (h ▸ k) (P3.lt_irrefl _)) (·.2)⟩
 · rw [if_pos h,decide_eq_true_eq]
   exact ⟨.inl,fun k=>k.elim id (fun k=>absurd k.1 h)⟩
theorem yK.irrefl (a : E3) : ¬ yK a a:=fun h=>h.elim (P3.lt_irrefl _) fun h=>P3.lt_irrefl _ h.2
theorem yK.trans {a b c : E3} (h : yK a b) (k : yK b c) : yK a c:=by
 rcases h with h | ⟨h,h'⟩
 · rcases k with k | ⟨k,_⟩
   · exact .inl (P3.lt_trans h k)
   · exact .inl (k ▸ h)
 · rcases k with k | ⟨k,k'⟩
   · exact .inl (h ▸ k)
   · exact .inr ⟨h.trans k,P3.lt_trans h' k'⟩
theorem yK.tri (a b : E3) : yK a b ∨ a = b ∨ yK b a:=by
 rcases P3.lt_tri a.1 b.1 with h | h | h
 · exact .inl (.inl h)
 · rcases P3.lt_tri a.2 b.2 with k | k | k
   · exact .inl (.inr ⟨h,k⟩)
   · exact .inr (.inl (Prod.ext h k))
   · exact .inr (.inr (.inr ⟨h.symm,k⟩))
 · exact .inr (.inr (.inl h))
def lZ (es : List E3) : Prop:=es.Pairwise yK
theorem Ma {es fs : List E3} (h : lZ es) (k : lZ fs) (e : ∀ a,a ∈ es ↔ a ∈ fs) : es = fs:=Ea yK.irrefl (fun _ _ _=>yK.trans) h k e
theorem Rk {α : Type} {p : α → Bool} : ∀ (l : List α),l.take (l.takeWhile p).length = l.takeWhile p
 | []=>rfl
 | x :: l=>by
  rw [List.takeWhile_cons];split
  · rw [List.length_cons,List.take_succ_cons,Rk l]
  · rfl
theorem Rl {α : Type} {p : α → Bool} : ∀ (l : List α),l.drop (l.takeWhile p).length = l.dropWhile p
 | []=>rfl
 | x :: l=>by
  rw [List.takeWhile_cons,List.dropWhile_cons];split
  · rw [List.length_cons,List.drop_succ_cons,Rl l]
  · rfl
theorem Rm (es : List E3) (e : E3) : Ou es e = es.takeWhile (fun x=>Rc x e) ++ [e] ++ es.dropWhile (fun x=>Rc x e):=by
 unfold Ou Tq;rw [Rk,Rl]
theorem Yy {es : List E3} {e x : E3} : x ∈ Ou es e ↔ x = e ∨ x ∈ es:=by
 rw [Rm]
 conv=>rhs;rw [← List.takeWhile_append_dropWhile (p:=fun x=>Rc x e) (l:=es)]
 simp only[List.mem_append,List.mem_singleton];exact ⟨fun h=>h.elim (fun h=>h.elim (fun h=>.inr (.inl h)) .inl) (fun h=>.inr (.inr h)),fun h=>h.elim (fun h=>.inl (.inr h)) (fun h=>h.elim (fun h=>.inl (.inl h)) .inr)⟩
theorem ab9 {e : E3} : ∀ {es : List E3},lZ es → e ∉ es → ∀ x ∈ es.dropWhile (fun x=>Rc x e),yK e x
 | [],_,_,x,h=>by cases h
 | y :: ys,hs,he,x,h=>by
  obtain ⟨h1,h2⟩:=List.pairwise_cons.1 hs;rw [List.dropWhile_cons] at h;split at h
  · exact ab9 h2 (fun k=>he (List.mem_cons_of_mem _ k)) x h
  · rename_i hy
    have hy' : yK e y:=by
     rcases yK.tri y e with k | k | k
     · exact absurd (Rj.2 k) hy
     · exact absurd (k ▸ List.mem_cons_self ..) he
     · exact k
    rcases List.mem_cons.1 h with rfl | h
    · exact hy'
    · exact hy'.trans (h1 x h)
theorem Yz {α : Type} {p : α → Bool} {x : α} : ∀ {l : List α},x ∈ l.takeWhile p → p x = true
 | [],h=>by cases h
 | y :: l,h=>by
  rw [List.takeWhile_cons] at h;split at h
  · rename_i hy
    rcases List.mem_cons.1 h with rfl | h
    · exact hy
    · exact Yz h
  · cases h
theorem afC {e : E3} {es : List E3} : ∀ x ∈ es.takeWhile (fun x=>Rc x e),yK x e:=fun x h=>Rj.1 (Yz (p:=fun x=>Rc x e) h)
theorem Mb {es : List E3} {e : E3} (hs : lZ es) (he : e ∉ es) : lZ (Ou es e):=by
 rw [Rm];have h0:=hs;rw [lZ,← List.takeWhile_append_dropWhile (p:=fun x=>Rc x e) (l:=es)] at h0;obtain ⟨h1,h2,h3⟩:=List.pairwise_append.1 h0;refine List.pairwise_append.2 ⟨List.pairwise_append.2 ⟨h1,List.pairwise_singleton _ _,fun x hx y hy=>?_⟩,h2,fun x hx y hy=>?_⟩
 · rw [List.mem_singleton.1 hy];exact afC x hx
 · rcases List.mem_append.1 hx with hx | hx
   · exact h3 x hx y hy
   · rw [List.mem_singleton.1 hx];exact ab9 hs he y hy
theorem qA {es : List E3} {e : E3} : 0 < kA es e ↔ e ∈ es:=by
 unfold kA;rw [List.length_pos_iff_exists_mem];simp
theorem yX {all : List E3} : ∀ (es out : List E3),lZ out → lZ (es.foldl (nD all) out) ∧ ∀ x,x ∈ es.foldl (nD all) out ↔ x ∈ out ∨ x ∈ es ∧ (x.2,x.1) ∉ all
 | [],out,h=>⟨h,fun x=>by simp⟩
 | e :: es,out,h=>by
  have key : lZ (nD all out e) ∧ ∀ x,x ∈ nD all out e ↔ x ∈ out ∨ x = e ∧ (x.2,x.1) ∉ all:=by
   unfold nD;split
   · rename_i hc
     refine ⟨h,fun x=>⟨.inl,fun k=>k.elim id fun q=>?_⟩⟩;obtain ⟨rfl,q⟩:=q;exact hc.elim (fun hc=>absurd (qA.1 hc) q) (fun hc=>qA.1 hc)
   · rename_i hc
     have h1 : e ∉ out:=fun k=>hc (.inr (qA.2 k));have h2 : (e.2,e.1) ∉ all:=fun k=>hc (.inl (qA.2 k));refine ⟨Mb h h1,fun x=>Yy.trans ⟨fun k=>k.elim (fun k=>.inr ⟨k,k ▸ h2⟩) .inl,fun k=>k.elim .inr fun k=>.inl k.1⟩⟩
  obtain ⟨i1,i2⟩:=yX es (nD all out e) key.1;refine ⟨i1,fun x=>?_⟩;rw [List.foldl_cons,i2,key.2,List.mem_cons,or_assoc];refine or_congr Iff.rfl ⟨fun k=>k.elim (fun k=>⟨.inl k.1,k.2⟩) (fun k=>⟨.inr k.1,k.2⟩),fun k=>k.1.elim (fun h=>.inl ⟨h,k.2⟩) (fun h=>.inr ⟨h,k.2⟩)⟩
theorem vX (ts : List T3) : lZ (aU ts):=(yX (all:=bB ts) (bB ts) [] List.Pairwise.nil).1
theorem nV {ts : List T3} {e : E3} : e ∈ aU ts ↔ e ∈ bB ts ∧ (e.2,e.1) ∉ bB ts:=by
 have:=(yX (all:=bB ts) (bB ts) [] List.Pairwise.nil).2 e;unfold aU;rw [this];simp
/-! ### Keys put into a set -/
section
variable {K : Type} [DecidableEq K]
def gB (D : List (K × Bool)) (ks : List K) : List (K × Bool):=ks.foldl (fun D k=>gL D k true) D
theorem uK : ∀ (ks : List K) (D : List (K × Bool)) (a : K),a ∈ (gB D ks).map (·.1) ↔ a ∈ D.map (·.1) ∨ a ∈ ks
 | [],D,a=>by simp [gB]
 | k :: ks,D,a=>by
  have:=uK ks (gL D k true) a;unfold gB at this ⊢;rw [List.foldl_cons,this,Lz,List.mem_cons,or_assoc]
theorem nW : ∀ (ks : List K) (D : List (K × Bool)),(D.map (·.1)).Nodup → ((gB D ks).map (·.1)).Nodup
 | [],_,h=>h
 | k :: ks,D,h=>nW ks (gL D k true) (wL h k true)
theorem uL : ∀ (ks : List K) (D : List (K × Bool)),(gB D ks).length ≤ D.length + ks.length
 | [],_=>Nat.le_refl _
 | k :: ks,D=>by
  have h1:=uL ks (gL D k true);have h2:=uJ D k true;show (gB (gL D k true) ks).length ≤ _
  rw [List.length_cons];omega
theorem xU : ∀ (ks : List K) (D : List (K × Bool)) (a : K),dG (gB D ks) a = if a ∈ ks then some true else dG D a
 | [],D,a=>by simp [gB]
 | k :: ks,D,a=>by
  have h:=xU ks (gL D k true) a;show dG (gB (gL D k true) ks) a = _
  rw [h,mP];by_cases h1 : a ∈ ks
  · rw [if_pos h1,if_pos (List.mem_cons_of_mem _ h1)]
  · rw [if_neg h1]
    by_cases h2 : k = a
    · rw [if_pos h2,if_pos (h2 ▸ List.mem_cons_self ..)]
    · rw [if_neg h2,if_neg (fun k'=>(List.mem_cons.1 k').elim (fun e=>h2 e.symm) h1)]
theorem Mc (D : List (K × Bool)) (ks ls : List K) : gB D (ks ++ ls) = gB (gB D ks) ls:=List.foldl_append ..
theorem qB (ks : List K) (a : K) : (dG (gB [] ks) a).getD false = decide (a ∈ ks):=by
 rw [xU];by_cases h : a ∈ ks
 · rw [if_pos h,decide_eq_true h];rfl
 · rw [if_neg h,decide_eq_false h];rfl
theorem Eb {ks : List K} {a : K} : (dG (gB [] ks) a).getD false = true ↔ a ∈ ks:=by
 rw [xU];by_cases h : a ∈ ks
 · rw [if_pos h];exact ⟨fun _=>h,fun _=>rfl⟩
 · rw [if_neg h];exact ⟨fun k=>(by cases k),fun k=>absurd k h⟩
end
/-! ### No edge twice -/
theorem yY {x e : E3} {es : List E3} : kA (x :: es) e = (if x = e then 1 else 0) + kA es e:=by
 unfold kA;by_cases h : x = e
 · rw [List.filter_cons_of_pos (by simpa using h),List.length_cons,if_pos h];omega
 · rw [List.filter_cons_of_neg (by simpa using h),if_neg h];omega
theorem Hj : ∀ {es : List E3},es.Nodup ↔ ∀ e,kA es e ≤ 1
 | []=>by simp [kA]
 | x :: es=>by
  rw [List.nodup_cons,Hj (es:=es)];constructor
  · rintro ⟨h1,h2⟩ e
    rw [yY];by_cases h : x = e
    · have : ¬ 0 < kA es e:=fun k=>h1 (h ▸ qA.1 k)
      rw [if_pos h];omega
    · rw [if_neg h];have:=h2 e;omega
  · intro h
    refine ⟨fun k=>?_,fun e=>?_⟩
    · have h1:=h x
      rw [yY,if_pos rfl] at h1;have:=qA.2 k;omega
    · have:=h e
      rw [yY] at this;omega
theorem xV {es : List E3} : (es.any fun e=>decide (1 < kA es e)) = decide (¬ es.Nodup):=by
 rw [Bool.eq_iff_iff,List.any_eq_true,decide_eq_true_eq,Hj];constructor
 · rintro ⟨e,_,h⟩ k
   have:=k e;simp only[decide_eq_true_eq] at h;omega
 · intro h
   obtain ⟨e,he⟩:=Classical.not_forall.1 h;exact ⟨e,qA.1 (by omega),by simpa using Nat.not_le.1 he⟩
theorem wN {α : Type} {es : List α} {e : α} : (es ++ [e]).Nodup ↔ es.Nodup ∧ e ∉ es:=by
 rw [List.nodup_append];constructor
 · rintro ⟨h1,_,h3⟩
   exact ⟨h1,fun k=>h3 e k e (by simp) rfl⟩
 · rintro ⟨h1,h2⟩
   exact ⟨h1,by simp,fun a ha b hb e'=>h2 (by rw [← List.mem_singleton.1 hb,← e'];exact ha)⟩
end Go.Lith
namespace Go.Lith
open Go.RowKit
section
variable {K V : Type} [DecidableEq K]
def mU (D : List (K × V)) (xs : List (K × V)) : List (K × V):=xs.foldl (fun D x=>gL D x.1 x.2) D
theorem Ec : ∀ (xs D : List (K × V)) (k : K),(xs.map (·.1)).Nodup → dG (mU D xs) k = match dG xs k with | some v=>some v | none=>dG D k
 | [],D,k,_=>rfl
 | (a,v) :: xs,D,k,h=>by
  rw [List.map_cons,List.nodup_cons] at h;have ih:=Ec xs (gL D a v) k h.2;show dG (mU (gL D a v) xs) k = _
  rw [ih,mP,dG];by_cases e : a = k
  · rw [if_pos e,if_pos e]
    have : dG xs k = none:=rY.2 (e ▸ h.1);rw [this]
  · rw [if_neg e,if_neg e]
theorem Md (D xs ys : List (K × V)) : mU D (xs ++ ys) = mU (mU D xs) ys:=List.foldl_append ..
def rC (D : List (K × Nat)) (ks : List K) : List (K × Nat):=ks.foldl (fun D k=>gL D k ((dG D k).getD 0 + 1)) D
def oO (ks : List K) (a : K) : Nat:=(ks.filter fun x=>decide (x = a)).length
theorem lF {x a : K} {ks : List K} : oO (x :: ks) a = (if x = a then 1 else 0) + oO ks a:=by
 unfold oO;by_cases h : x = a
 · rw [List.filter_cons_of_pos (by simpa using h),List.length_cons,if_pos h];omega
 · rw [List.filter_cons_of_neg (by simpa using h),if_neg h];omega
theorem Ed {a : K} {ks ls : List K} : oO (ks ++ ls) a = oO ks a + oO ls a:=by simp [oO]
theorem Me : ∀ (ks : List K) (D : List (K × Nat)) (a : K),(dG (rC D ks) a).getD 0 = (dG D a).getD 0 + oO ks a
 | [],D,a=>rfl
 | k :: ks,D,a=>by
  have h:=Me ks (gL D k ((dG D k).getD 0 + 1)) a;show (dG (rC (gL D k ((dG D k).getD 0 + 1)) ks) a).getD 0 = _
  rw [h,mP,lF];by_cases e : k = a
  · subst e
    rw [if_pos rfl,if_pos rfl,Option.getD_some];omega
  · rw [if_neg e,if_neg e];omega
theorem Za (D : List (K × Nat)) (ks ls : List K) : rC D (ks ++ ls) = rC (rC D ks) ls:=List.foldl_append ..
theorem Ee : ∀ {l m : List K},l.Nodup → (∀ a ∈ l,a ∈ m) → l.length ≤ m.length
 | [],_,_,_=>Nat.zero_le _
 | x :: l,m,h,k=>by
  rw [List.nodup_cons] at h;have hx:=k x (List.mem_cons_self ..);have h1:=Ee (m:=m.erase x) h.2 fun a ha=>(List.mem_erase_of_ne (fun (e : a = x)=>h.1 (e ▸ ha))).2 (k a (List.mem_cons_of_mem _ ha));rw [List.length_erase_of_mem hx] at h1;have:=List.length_pos_of_mem hx;rw [List.length_cons];omega
end
/-! ### What lies behind an edge -/
def jK (ts : List T3) : List (E3 × P3):=ts.flatMap fun t=>[((t.a,t.b),t.c),((t.b,t.c),t.a),((t.c,t.a),t.b)]
theorem mG : ∀ ts : List T3,(jK ts).map (·.1) = bB ts
 | []=>rfl
 | t :: ts=>by
  have:=mG ts;unfold jK bB at this ⊢;rw [List.flatMap_cons,List.map_append,this];rfl
theorem Ef {ts : List T3} {k : Nat} {t : T3} (h : ts[k]? = some t) : jK (ts.take (k + 1)) = jK (ts.take k) ++ [((t.a,t.b),t.c),((t.b,t.c),t.a),((t.c,t.a),t.b)]:=by
 unfold jK;rw [dJ h,List.flatMap_append];simp
theorem tA (p q : P3) : ∀ ts : List T3,bP ts p q = dG (jK ts) (p,q)
 | []=>rfl
 | t :: ts=>by
  have ih:=tA p q ts;have e : jK (t :: ts) = ((t.a,t.b),t.c) :: ((t.b,t.c),t.a) :: ((t.c,t.a),t.b) :: jK ts:=rfl;rw [e,bP,dG,dG,dG,← ih,T3.fnd];by_cases h1 : t.a = p ∧ t.b = q
  · rw [if_pos h1,if_pos (Prod.ext h1.1 h1.2)]
  · rw [if_neg h1,if_neg (fun e=>h1 ⟨congrArg Prod.fst e,congrArg Prod.snd e⟩)]
    by_cases h2 : t.b = p ∧ t.c = q
    · rw [if_pos h2,if_pos (Prod.ext h2.1 h2.2)]
    · rw [if_neg h2,if_neg (fun e=>h2 ⟨congrArg Prod.fst e,congrArg Prod.snd e⟩)]
      by_cases h3 : t.c = p ∧ t.a = q
      · rw [if_pos h3,if_pos (Prod.ext h3.1 h3.2)]
      · rw [if_neg h3,if_neg (fun e=>h3 ⟨congrArg Prod.fst e,congrArg Prod.snd e⟩)]
theorem sB {ts : List T3} (h : (bB ts).Nodup) (p q : P3) : dG (mU [] (jK ts)) (p,q) = bP ts p q:=by
 rw [Ec _ _ _ (by rw [mG];exact h),tA];cases dG (jK ts) (p,q) <;> rfl
theorem mH {ts : List T3} {x y z : P3} (h : ((x,y),z) ∈ jK ts) : ((y,z),x) ∈ jK ts:=by
 obtain ⟨t,ht,hx⟩:=List.mem_flatMap.1 h;refine List.mem_flatMap.2 ⟨t,ht,?_⟩;simp only[List.mem_cons,List.not_mem_nil,or_false,Prod.mk.injEq] at hx ⊢;rcases hx with ⟨⟨rfl,rfl⟩,rfl⟩ | ⟨⟨rfl,rfl⟩,rfl⟩ | ⟨⟨rfl,rfl⟩,rfl⟩
 · exact .inr (.inl ⟨⟨rfl,rfl⟩,rfl⟩)
 · exact .inr (.inr ⟨⟨rfl,rfl⟩,rfl⟩)
 · exact .inl ⟨⟨rfl,rfl⟩,rfl⟩
theorem Pn {ts : List T3} (h : (bB ts).Nodup) {e : E3} {x y : P3} (h1 : (e,x) ∈ jK ts) (h2 : (e,y) ∈ jK ts) : x = y:=by
 have k : ((jK ts).map (·.1)).Nodup:=by rw [mG];exact h
 have a:=mQ k h1;rw [mQ k h2] at a;exact (Option.some.inj a).symm
theorem qC {ts : List T3} {p q x : P3} (h : bP ts p q = some x) : ((p,q),x) ∈ jK ts:=xQ (by rw [← tA];exact h)
theorem Ax {ts : List T3} {p q x : P3} (h : bP ts p q = some x) : (p,q) ∈ bB ts:=by
 rw [← mG];exact List.mem_map.2 ⟨_,qC h,rfl⟩
theorem Mf {ts : List T3} {p q : P3} (h : (p,q) ∈ bB ts) : ∃ x,bP ts p q = some x:=by
 rw [tA];cases e : dG (jK ts) (p,q) with
 | some x=>exact ⟨x,rfl⟩
 | none =>
  have:=rY.1 e;rw [mG] at this;exact absurd h this
theorem Po {ts : List T3} (h : (bB ts).Nodup) {p x y z : P3} (h1 : bP ts p x = some z) (h2 : bP ts p y = some z) : x = y :=
 Pn h (mH (mH (qC h1))) (mH (mH (qC h2)))
theorem Mg {ts : List T3} {p x z : P3} (h : bP ts p x = some z) : (z,p) ∈ bB ts:=by
 rw [← mG];exact List.mem_map.2 ⟨_,mH (mH (qC h)),rfl⟩
def pH (ts : List T3) (p : P3) : Nat → P3 → Option P3
 | 0,x=>some x
 | n + 1,x=>(bP ts p x).bind (pH ts p n)
theorem uM {ts : List T3} {p : P3} : ∀ (n : Nat) (x : P3),pH ts p (n + 1) x = (pH ts p n x).bind (bP ts p)
 | 0,x=>by simp [pH]
 | n + 1,x=>by
  rw [pH];cases h : bP ts p x with
  | none=>simp [pH,h]
  | some y =>
   rw [Option.bind_some,uM n y,pH,h];rfl
theorem Eg {ms : List T3} {p s : P3} : ∀ (n : Nat) (x : P3),lR ms p s n x = true ↔ ∃ j,1 ≤ j ∧ j ≤ n ∧ pH ms p j x = some s
 | 0,x=>⟨fun h=>(by cases h),fun ⟨j,h1,h2,_⟩=>by omega⟩
 | n + 1,x=>by
  cases h : bP ms p x with
  | none =>
   rw [Gw h];refine ⟨fun k=>(by cases k),fun ⟨j,h1,_,h3⟩=>?_⟩;obtain ⟨i,rfl⟩ : ∃ i,j = i + 1:=⟨j - 1,by omega⟩
   rw [pH,h] at h3;cases h3
  | some y =>
   by_cases e : y = s
   · subst e
     rw [Lh h];exact ⟨fun _=>⟨1,Nat.le_refl _,by omega,by simp [pH,h]⟩,fun _=>rfl⟩
   · rw [Gx h e,Eg n y]
     constructor
     · rintro ⟨j,h1,h2,h3⟩
       exact ⟨j + 1,by omega,by omega,by rw [pH,h];exact h3⟩
     · rintro ⟨j,h1,h2,h3⟩
       obtain ⟨i,rfl⟩ : ∃ i,j = i + 1:=⟨j - 1,by omega⟩
       rw [pH,h,Option.bind_some] at h3;cases i with
       | zero=>exact absurd (Option.some.inj h3) e
       | succ i=>exact ⟨i + 1,by omega,by omega,h3⟩
def uN (nx : P3 → Option P3) (s : P3) : Nat → P3 → Nat → P3 × Nat
 | 0,a,z=>(a,z)
 | n + 1,a,z=>if a = s then (a,z) else match nx a with | none=>(a,z) | some b=>uN nx s n b (z + 1)
theorem Zb {nx : P3 → Option P3} {s : P3} {n z : Nat} : uN nx s n s z = (s,z):=by
 cases n with
 | zero=>rfl
 | succ n=>rw [uN,if_pos rfl]
theorem Jj {ts : List T3} {p s : P3} {M : Nat} : ∀ (n : Nat) (a : P3) (z : Nat),n = M + 1 - z → ((uN (bP ts p) s n a z).1 = s ∧ (uN (bP ts p) s n a z).2 < M ↔ ∃ j,z ≤ j ∧ j < M ∧ pH ts p (j - z) a = some s)
 | 0,a,z,h=>by
  rw [uN];refine ⟨fun k=>?_,fun ⟨j,h1,h2,_⟩=>?_⟩
  · have:=k.2;simp only at this;omega
  · omega
 | n + 1,a,z,h=>by
  rw [uN];by_cases e : a = s
  · rw [if_pos e]
    refine ⟨fun k=>⟨z,Nat.le_refl _,k.2,by rw [Nat.sub_self,pH,e]⟩,fun ⟨j,h1,h2,_⟩=>⟨e,by simp only;omega⟩⟩
  · rw [if_neg e]
    cases hb : bP ts p a with
    | none =>
     refine ⟨fun k=>absurd k.1 e,fun ⟨j,h1,h2,h3⟩=>?_⟩;cases hj : j - z with
     | zero=>rw [hj,pH] at h3;exact absurd (Option.some.inj h3) e
     | succ i=>rw [hj,pH,hb] at h3;cases h3
    | some b =>
     rw [Jj n b (z + 1) (by omega)];constructor
     · rintro ⟨j,h1,h2,h3⟩
       refine ⟨j,by omega,h2,?_⟩;rw [show j - z = (j - (z + 1)) + 1 by omega,pH,hb];exact h3
     · rintro ⟨j,h1,h2,h3⟩
       rcases Nat.lt_or_ge z j with hz | hz
       · refine ⟨j,by omega,h2,?_⟩
         rw [show j - z = (j - (z + 1)) + 1 by omega,pH,hb] at h3;exact h3
       · rw [show j - z = 0 by omega,pH] at h3
         exact absurd (Option.some.inj h3) e
/-! ### The triangles of a corner -/
theorem Jk {t : T3} {p q x : P3} (h : t.fnd p q = some x) : ∃ c,c < 3 ∧ t.cor c = p:=by
 unfold T3.fnd at h;split at h
 · rename_i h';exact ⟨0,by decide,h'.1⟩
 · split at h
   · rename_i h';exact ⟨1,by decide,h'.1⟩
   · split at h
     · rename_i h';exact ⟨2,by decide,h'.1⟩
     · cases h
theorem Pp {ts us : List T3} {p q : P3} : bP (ts ++ us) p q = match bP ts p q with | some x=>some x | none=>bP us p q:=by
 induction ts with
 | nil=>rfl
 | cons t ts ih =>
  rw [List.cons_append,bP,bP];cases t.fnd p q with
  | some x=>rfl
  | none=>exact ih
theorem Up {t u : T3} {p : P3} (h : u ∈ rT p t 3) : u = t ∧ ∃ c,c < 3 ∧ t.cor c = p:=by
 obtain ⟨c,hc,h⟩:=List.mem_flatMap.1 h;unfold Dj at h;split at h
 · rename_i e
   exact ⟨List.mem_singleton.1 h,c,List.mem_range.1 hc,e⟩
 · cases h
theorem Pq {t : T3} {p : P3} {c : Nat} (hc : c < 3) (h : t.cor c = p) : t ∈ rT p t 3 :=
 List.mem_flatMap.2 ⟨c,List.mem_range.2 hc,by rw [Dj,if_pos h];exact List.mem_singleton.2 rfl⟩
theorem Eh {t : T3} {p q : P3} : ∀ us : List T3,(∀ u ∈ us,u = t) → bP us p q = if us = [] then none else t.fnd p q
 | [],_=>rfl
 | u :: us,h=>by
  have e:=h u (List.mem_cons_self ..);have ih:=Eh (p:=p) (q:=q) us fun v hv=>h v (List.mem_cons_of_mem _ hv);rw [bP,e,if_neg (by simp)];cases hf : t.fnd p q with
  | some x=>rfl
  | none =>
   simp only;rw [ih];split
   · rfl
   · exact hf
theorem Ay (p q : P3) : ∀ ts : List T3,bP (lQ ts p) p q = bP ts p q
 | []=>rfl
 | t :: ts=>by
  have e : lQ (t :: ts) p = rT p t 3 ++ lQ ts p:=by simp [lQ]
  rw [e,Pp,Ay p q ts,bP,Eh (t:=t) _ (fun u hu=>(Up hu).1)];by_cases h : rT p t 3 = []
  · rw [if_pos h]
    cases hf : t.fnd p q with
    | none=>rfl
    | some x =>
     obtain ⟨c,hc,k⟩:=Jk hf;have:=Pq hc k;rw [h] at this;cases this
  · rw [if_neg h]
    rfl
theorem xW (ts : List T3) (p : P3) : ∀ (n : Nat) (x : P3),pH (lQ ts p) p n x = pH ts p n x
 | 0,_=>rfl
 | n + 1,x=>by
  rw [pH,pH,Ay];cases bP ts p x with
  | none=>rfl
  | some y=>exact xW ts p n y
theorem Ei (p : P3) : ∀ ts : List T3,(lQ ts p).length = oO (dZ ts) p
 | []=>rfl
 | t :: ts=>by
  have ih:=Ei p ts;have e : lQ (t :: ts) p = rT p t 3 ++ lQ ts p:=by simp [lQ]
  have e2 : dZ (t :: ts) = [t.a,t.b,t.c] ++ dZ ts:=rfl;rw [e,e2,List.length_append,Ed,ih]
  congr 1
  have r3 : List.range 3 = [0,1,2]:=rfl;unfold rT;rw [r3];simp only[List.flatMap_cons,List.flatMap_nil,List.append_nil,List.length_append,Dj];rw [lF,lF,lF];have k : ∀ (c : Nat) (x : P3),t.cor c = x → (if t.cor c = p then [t] else []).length = if x = p then 1 else 0:=fun c x hx=>by
   subst hx;split <;> rfl
  rw [k 0 t.a rfl,k 1 t.b rfl,k 2 t.c rfl];rfl
theorem Hk {p s : P3} {ts : List T3} : s ∈ pV ts p ↔ (p,s) ∈ bB ts:=by
 unfold pV bB;rw [List.mem_flatMap,List.mem_flatMap];refine exists_congr fun t=>and_congr Iff.rfl ?_;unfold uE;rw [show List.range 3 = [0,1,2] from rfl];simp only[List.flatMap_cons,List.flatMap_nil,List.append_nil,List.mem_append,Dk,List.mem_cons,List.not_mem_nil,or_false,Prod.mk.injEq];have k : ∀ (c : Nat) (x y : P3),t.cor c = x → t.cor ((c + 1) % 3) = y → (s ∈ (if t.cor c = p then [t.cor ((c + 1) % 3)] else []) ↔ p = x ∧ s = y):=fun c x y hx hy=>by
  subst hx;subst hy;split
  · rename_i h;rw [List.mem_singleton];exact ⟨fun e=>⟨h.symm,e⟩,fun e=>e.2⟩
  · rename_i h;exact ⟨fun e=>(by cases e),fun e=>absurd e.1.symm h⟩
 rw [k 0 t.a t.b rfl rfl,k 1 t.b t.c rfl rfl,k 2 t.c t.a rfl rfl]
theorem yZ {ps : List P3} {p x : P3} : x ∈ iK ps p ↔ x = p ∨ x ∈ ps:=by
 unfold iK;split
 · rename_i h
   exact ⟨.inr,fun k=>k.elim (fun e=>e ▸ List.mem_of_getElem? h) id⟩
 · conv=>rhs;rw [← List.take_append_drop (Tp ps p) ps]
   simp only[List.mem_append,List.mem_singleton];exact ⟨fun h=>h.elim (fun h=>h.elim (fun h=>.inr (.inl h)) .inl) (fun h=>.inr (.inr h)),fun h=>h.elim (fun h=>.inl (.inr h)) (fun h=>h.elim (fun h=>.inl (.inl h)) .inr)⟩
theorem Mh {x : P3} {ts : List T3} : x ∈ eJ ts ↔ x ∈ dZ ts:=by
 have : ∀ (ts : List T3) (ps : List P3),x ∈ ts.foldl (fun ps t=>iK (iK (iK ps t.a) t.b) t.c) ps ↔ x ∈ ps ∨ x ∈ dZ ts:=by
  intro ts
  induction ts with
  | nil=>intro ps;simp [dZ]
  | cons t ts ih =>
   intro ps;rw [List.foldl_cons,ih,yZ,yZ,yZ];have e : dZ (t :: ts) = [t.a,t.b,t.c] ++ dZ ts:=rfl;rw [e];simp only[List.mem_append,List.mem_cons,List.not_mem_nil,or_false];constructor
   · rintro ((h | h | h | h) | h)
     · exact .inr (.inl (.inr (.inr h)))
     · exact .inr (.inl (.inr (.inl h)))
     · exact .inr (.inl (.inl h))
     · exact .inl h
     · exact .inr (.inr h)
   · rintro (h | (h | h | h) | h)
     · exact .inl (.inr (.inr (.inr h)))
     · exact .inl (.inr (.inr (.inl h)))
     · exact .inl (.inr (.inl h))
     · exact .inl (.inl h)
     · exact .inr h
 have:=this ts [];simpa [eJ] using this
theorem Hl {ts : List T3} {e : E3} (h : e ∈ bB ts) : e.1 ∈ dZ ts ∧ e.2 ∈ dZ ts:=by
 obtain ⟨t,ht,hx⟩:=List.mem_flatMap.1 h;have key : ∀ x,x = t.a ∨ x = t.b ∨ x = t.c → x ∈ dZ ts:=fun x hx=>List.mem_flatMap.2 ⟨t,ht,by simpa using hx⟩;simp only[List.mem_cons,List.not_mem_nil,or_false] at hx;rcases hx with rfl | rfl | rfl
 · exact ⟨key _ (.inl rfl),key _ (.inr (.inl rfl))⟩
 · exact ⟨key _ (.inr (.inl rfl)),key _ (.inr (.inr rfl))⟩
 · exact ⟨key _ (.inr (.inr rfl)),key _ (.inl rfl)⟩
def Jl (ts : List T3) (e : E3) : Prop:=∃ x,bP ts e.1 e.2 = some x ∧ (uN (bP ts e.1) e.2 (oO (dZ ts) e.1 + 1 - 1) x 1).1 = e.2 ∧ (uN (bP ts e.1) e.2 (oO (dZ ts) e.1 + 1 - 1) x 1).2 < oO (dZ ts) e.1
theorem Ej {ts : List T3} {e : E3} : Jl ts e ↔ e ∈ bB ts ∧ lR (lQ ts e.1) e.1 e.2 ((lQ ts e.1).length - 1) e.2 = true:=by
 rw [Eg,Ei];constructor
 · rintro ⟨x,hx,h⟩
   obtain ⟨j,h1,h2,h3⟩:=(Jj (M:=oO (dZ ts) e.1) _ x 1 (by omega)).1 h;refine ⟨Ax hx,j,h1,by omega,?_⟩;rw [xW,show j = (j - 1) + 1 by omega,pH,hx];exact h3
 · rintro ⟨he,j,h1,h2,h3⟩
   obtain ⟨x,hx⟩:=Mf he;refine ⟨x,hx,(Jj (M:=oO (dZ ts) e.1) _ x 1 (by omega)).2 ⟨j,h1,by omega,?_⟩⟩;rw [xW,show j = (j - 1) + 1 by omega,pH,hx] at h3;exact h3
theorem pinned {ts : List T3} : (eJ ts).any (xG ts) = true ↔ ∃ e,Jl ts e:=by
 rw [List.any_eq_true];constructor
 · rintro ⟨p,_,h⟩
   obtain ⟨s,hs,hr⟩:=List.any_eq_true.1 h;exact ⟨(p,s),Ej.2 ⟨Hk.1 hs,hr⟩⟩
 · rintro ⟨e,h⟩
   obtain ⟨he,hr⟩:=Ej.1 h;exact ⟨e.1,Mh.2 (Hl he).1,List.any_eq_true.2 ⟨e.2,Hk.2 he,hr⟩⟩
end Go.Lith
namespace Go.Lith
open Go.RowKit
/-! ### The ends of fans -/
def sC (ts : List T3) (p : P3) : Nat → P3 → P3
 | 0,a=>a
 | n + 1,a=>match bP ts p a with
  | none=>a
  | some x=>sC ts p n x
theorem Zc {ts : List T3} {p : P3} : ∀ (i n : Nat) (a x : P3),i ≤ n → pH ts p i a = some x → bP ts p x = none → sC ts p n a = x
 | 0,n,a,x,_,h,hn=>by
  cases h;cases n with
  | zero=>rfl
  | succ n=>simp only[sC,hn]
 | i + 1,n,a,x,hi,h,hn=>by
  obtain ⟨m,rfl⟩ : ∃ m,n = m + 1:=⟨n - 1,by omega⟩
  rw [pH] at h;cases hb : bP ts p a with
  | none=>rw [hb] at h;cases h
  | some y =>
   rw [hb,Option.bind_some] at h;simp only[sC,hb];exact Zc i m y x (by omega) h hn
def Az (ts : List T3) : Prop:=∀ t ∈ ts,pW t = false
theorem afD {t : T3} (h : pW t = false) : t.a ≠ t.b ∧ t.b ≠ t.c ∧ t.c ≠ t.a:=by
 unfold pW at h;simp only[Bool.or_eq_false_iff,decide_eq_false_iff_not] at h;exact ⟨h.1.1,h.1.2,h.2⟩
theorem Mi {p : P3} : ∀ {ts : List T3},Az ts → ((bB ts).filter fun e=>decide (e.1 = p)).length ≤ ts.length
 | [],_=>Nat.le_refl _
 | t :: ts,h=>by
  have ih:=Mi (p:=p) (ts:=ts) fun u hu=>h u (List.mem_cons_of_mem _ hu);obtain ⟨h1,h2,h3⟩:=afD (h t (List.mem_cons_self ..));have e : bB (t :: ts) = [(t.a,t.b),(t.b,t.c),(t.c,t.a)] ++ bB ts:=rfl;rw [e,List.filter_append,List.length_append,List.length_cons];have : (List.filter (fun e : E3=>decide (e.1 = p)) [(t.a,t.b),(t.b,t.c),(t.c,t.a)]).length ≤ 1:=by
   simp only[List.filter_cons,List.filter_nil];by_cases ha : t.a = p
   · have hb : ¬ t.b = p:=fun e=>h1 (ha.trans e.symm)
     have hc : ¬ t.c = p:=fun e=>h3 (e.trans ha.symm);simp [ha,hb,hc]
   · by_cases hb : t.b = p
     · have hc : ¬ t.c = p:=fun e=>h2 (hb.trans e.symm)
       simp [ha,hb,hc]
     · by_cases hc : t.c = p <;> simp [ha,hb,hc]
  omega
theorem Rn {ts : List T3} {p : P3} : ∀ (i j : Nat) (a : P3),pH ts p (i + j) a = (pH ts p i a).bind (pH ts p j)
 | 0,j,a=>by simp [pH]
 | i + 1,j,a=>by
  rw [show i + 1 + j = (i + j) + 1 by omega,pH,pH];cases bP ts p a with
  | none=>rfl
  | some y=>rw [Option.bind_some,Option.bind_some];exact Rn i j y
theorem Hm {ts : List T3} {p a : P3} (hn : (bB ts).Nodup) (hb : (a,p) ∉ bB ts) : ∀ (i j : Nat) (x : P3),i < j → pH ts p i a = some x → pH ts p j a ≠ some x
 | 0,j,x,hij,h,k=>by
  cases h;obtain ⟨m,rfl⟩ : ∃ m,j = m + 1:=⟨j - 1,by omega⟩
  rw [uM] at k;obtain ⟨y,_,hy⟩:=Option.bind_eq_some_iff.1 k;exact hb (Mg hy)
 | i + 1,j,x,hij,h,k=>by
  obtain ⟨m,rfl⟩ : ∃ m,j = m + 1:=⟨j - 1,by omega⟩
  rw [uM] at h k;obtain ⟨y,hy,hy'⟩:=Option.bind_eq_some_iff.1 h;obtain ⟨z,hz,hz'⟩:=Option.bind_eq_some_iff.1 k;have e:=Po hn hy' hz';subst e;exact Hm hn hb i m y (by omega) hy hz
theorem abk {ts : List T3} {p a x : P3} (hd : Az ts) (hn : (bB ts).Nodup) (hb : (a,p) ∉ bB ts) {i : Nat} (h : pH ts p i a = some x) : i ≤ ts.length:=by
 have key : ∀ j,j ≤ i → ∃ y,pH ts p j a = some y:=fun j hj=>by
  have e : i = j + (i - j):=by omega
  rw [e,Rn] at h;obtain ⟨y,hy,_⟩:=Option.bind_eq_some_iff.1 h;exact ⟨y,hy⟩
 have h1:=Mi (p:=p) hd;have h2 : ((List.range i).map fun j=>(p,(pH ts p j a).getD p)).length ≤ ((bB ts).filter fun e=>decide (e.1 = p)).length:=by
  refine Ee ?_ fun e he=>?_
  · rw [List.Nodup,List.pairwise_map]
    refine (List.pairwise_lt_range (n:=i)).imp_of_mem fun {j k} hj hk hjk e=>?_;obtain ⟨y,hy⟩:=key j (by have:=List.mem_range.1 hj;omega);obtain ⟨z,hz⟩:=key k (by have:=List.mem_range.1 hk;omega);rw [hy,hz] at e;have e' : y = z:=(Prod.mk.inj e).2;subst e';exact Hm hn hb j k y hjk hy hz
  · obtain ⟨j,hj,rfl⟩:=List.mem_map.1 he
    have hj':=List.mem_range.1 hj;obtain ⟨y,hy⟩:=key j (by omega);obtain ⟨z,hz⟩:=key (j + 1) (by omega);rw [uM,hy,Option.bind_some] at hz;refine List.mem_filter.2 ⟨?_,by simp⟩;rw [hy];exact Ax hz
 rw [List.length_map,List.length_range] at h2;omega
/-! ### As the reference says it -/
abbrev Mv:=P3 × P3
def qI : List Mv → P3 → P3
 | [],p=>p
 | m :: ms,p=>if m.1 = p then m.2 else qI ms p
def T3.has (t : T3) (p : P3) : Bool:=decide (t.a = p) || decide (t.b = p) || decide (t.c = p)
def oP (ts : List T3) (p : P3) : Bool:=ts.any fun t=>t.has p
def mV (ts : List T3) (p q : P3) : Bool:=ts.any fun t=>t.has p && t.has q
def Bj (rim : List E3) (p : P3) : Bool:=rim.any fun e=>decide (e.1 = p) || decide (e.2 = p)
def nJ (fine coarse : List T3) (rim : List E3) : Bool:=rim.all fun e=>decide (sC fine e.1 fine.length e.2 = sC coarse e.1 coarse.length e.2)
def iV (fine coarse : List T3) (rim : List E3) : Bool:=(bB coarse).any fun e=>Bj rim e.1 && Bj rim e.2 && !mV fine e.1 e.2
def nK (fine coarse : List T3) (ms : List Mv) (rim : List E3) (i : Nat) (m : Mv) : Bool :=
 (decide (i = 0) || (ms[i - 1]?).any fun k=>decide (k.1.Lt m.1)) && oP fine m.1 && (oP coarse m.2 && oP fine m.2 && ms.all fun k=>decide (k.1 ≠ m.2)) && !Bj rim m.1
def lK (fine coarse : List T3) (ms : List Mv) (rim : List E3) : Bool:=ms.zipIdx.all fun x=>nK fine coarse ms rim x.2 x.1
def eS (t : T3) : T3:=if t.c.Lt t.a ∧ (t.c.Lt t.b ∨ ¬ t.b.Lt t.a) then ⟨t.c,t.a,t.b⟩ else if t.b.Lt t.a then ⟨t.b,t.c,t.a⟩ else t
theorem Pr {t u : T3} (h1 : t.a = u.a) (h2 : t.b = u.b) (h3 : t.c = u.c) : t = u:=by
 cases t;cases u;simp only at h1 h2 h3;subst h1;subst h2;subst h3;rfl
instance : DecidableEq T3:=fun t u=>decidable_of_iff (t.a = u.a ∧ t.b = u.b ∧ t.c = u.c) ⟨fun h=>Pr h.1 h.2.1 h.2.2,fun h=>by rw [h];exact ⟨rfl,rfl,rfl⟩⟩
def T3.img (ms : List Mv) (t : T3) : T3:=⟨qI ms t.a,qI ms t.b,qI ms t.c⟩
def T3.nd (t : T3) : Bool:=decide (t.a ≠ t.b) && decide (t.b ≠ t.c) && decide (t.c ≠ t.a)
def mK (coarse : List T3) (x : T3) : Bool:=if x.nd then coarse.any fun u=>decide (eS u = eS x) else mV coarse x.a (if x.a = x.b then x.c else x.b)
def nL (ms : List Mv) (fine : List T3) (u : T3) : Nat:=(fine.filter fun t=>(t.img ms).nd && decide (eS u = eS (t.img ms))).length
def kP (fine coarse : List T3) (ms : List Mv) : Bool:=(fine.all fun t=>mK coarse (t.img ms)) && coarse.all fun u=>decide (nL ms fine u = 1)
end Go.Lith
namespace Go.Lith
open Go.RowKit
/-! ### Corners and edges -/
theorem vF {t : T3} {p : P3} : t.has p = true ↔ p = t.a ∨ p = t.b ∨ p = t.c:=by
 unfold T3.has;simp only[Bool.or_eq_true,decide_eq_true_eq,or_assoc];exact or_congr ⟨Eq.symm,Eq.symm⟩ (or_congr ⟨Eq.symm,Eq.symm⟩ ⟨Eq.symm,Eq.symm⟩)
theorem Mj {ts : List T3} {p : P3} : oP ts p = true ↔ p ∈ dZ ts:=by
 unfold oP dZ;rw [List.any_eq_true,List.mem_flatMap];exact exists_congr fun t=>and_congr Iff.rfl (by rw [vF];simp)
theorem Jm (ts : List T3) (p : P3) : oP ts p = decide (p ∈ dZ ts):=by rw [Bool.eq_iff_iff,Mj,decide_eq_true_eq]
theorem oQ {ts : List T3} {p q : P3} : mV ts p q = true ↔ ∃ t ∈ ts,t.has p = true ∧ t.has q = true:=by
 unfold mV;rw [List.any_eq_true];exact exists_congr fun t=>and_congr Iff.rfl (by rw [Bool.and_eq_true])
theorem zW {ts : List T3} {p q : P3} (h : mV ts p q = true) : mV ts q p = true:=by
 obtain ⟨t,ht,h1,h2⟩:=oQ.1 h;exact oQ.2 ⟨t,ht,h2,h1⟩
theorem Uq {ts : List T3} {p : P3} : mV ts p p = true ↔ p ∈ dZ ts:=by
 rw [oQ,← Mj,oP,List.any_eq_true];exact exists_congr fun t=>and_congr Iff.rfl ⟨fun h=>h.1,fun h=>⟨h,h⟩⟩
theorem Hn {ts : List T3} {p q : P3} (h : mV ts p q = true) : mV ts p p = true:=by
 obtain ⟨t,ht,h1,_⟩:=oQ.1 h;exact oQ.2 ⟨t,ht,h1,h1⟩
theorem Ps {ts : List T3} {e : E3} (h : e ∈ bB ts) : mV ts e.1 e.2 = true:=by
 obtain ⟨t,ht,hx⟩:=List.mem_flatMap.1 h;refine oQ.2 ⟨t,ht,?_,?_⟩ <;> rw [vF] <;> (simp only[List.mem_cons,List.not_mem_nil,or_false] at hx;rcases hx with rfl | rfl | rfl <;> simp)
theorem Pt {ts : List T3} {p q : P3} (h : mV ts p q = true) (hne : p ≠ q) : (p,q) ∈ bB ts ∨ (q,p) ∈ bB ts:=by
 obtain ⟨t,ht,h1,h2⟩:=oQ.1 h;have key : ∀ e,e = (t.a,t.b) ∨ e = (t.b,t.c) ∨ e = (t.c,t.a) → e ∈ bB ts:=fun e he=>List.mem_flatMap.2 ⟨t,ht,by simpa using he⟩;rcases vF.1 h1 with rfl | rfl | rfl <;> rcases vF.1 h2 with rfl | rfl | rfl
 · exact absurd rfl hne
 · exact .inl (key _ (.inl rfl))
 · exact .inr (key _ (.inr (.inr rfl)))
 · exact .inr (key _ (.inl rfl))
 · exact absurd rfl hne
 · exact .inl (key _ (.inr (.inl rfl)))
 · exact .inl (key _ (.inr (.inr rfl)))
 · exact .inr (key _ (.inr (.inl rfl)))
 · exact absurd rfl hne
def Zd (t : T3) : List E3:=[(t.a,t.a),(t.a,t.b),(t.a,t.c),(t.b,t.a),(t.b,t.b),(t.b,t.c),(t.c,t.a),(t.c,t.b),(t.c,t.c)]
def lL (ts : List T3) : List E3:=ts.flatMap Zd
theorem zX {ts : List T3} {e : E3} : e ∈ lL ts ↔ mV ts e.1 e.2 = true:=by
 unfold lL;rw [List.mem_flatMap,oQ];refine exists_congr fun t=>and_congr Iff.rfl ?_;rw [vF,vF];obtain ⟨p,q⟩:=e;simp only[Zd,List.mem_cons,List.not_mem_nil,or_false,Prod.mk.injEq];constructor
 · rintro (h | h | h | h | h | h | h | h | h) <;> simp [h.1,h.2]
 · rintro ⟨h1 | h1 | h1,h2 | h2 | h2⟩ <;> simp [h1,h2]
theorem vG (ts : List T3) (e : E3) : (dG (gB [] (lL ts)) e).getD false = mV ts e.1 e.2:=by
 exact Bool.eq_iff_iff.2 (Eb.trans zX)
theorem Pu {ts : List T3} {k : Nat} {t : T3} (h : ts[k]? = some t) : lL (ts.take (k + 1)) = lL (ts.take k) ++ Zd t:=by
 unfold lL;rw [dJ h,List.flatMap_append];simp
/-! ### The border -/
def Ek (rim : List E3) : List P3:=rim.flatMap fun e=>[e.1,e.2]
theorem Cc {rim : List E3} {p : P3} : Bj rim p = true ↔ p ∈ Ek rim:=by
 unfold Bj Ek;rw [List.any_eq_true,List.mem_flatMap];refine exists_congr fun e=>and_congr Iff.rfl ?_;simp only[Bool.or_eq_true,decide_eq_true_eq,List.mem_cons,List.not_mem_nil,or_false];exact or_congr ⟨Eq.symm,Eq.symm⟩ ⟨Eq.symm,Eq.symm⟩
theorem Cd (rim : List E3) (p : P3) : (dG (gB [] (Ek rim)) p).getD false = Bj rim p:=by
 rw [qB,Bool.eq_iff_iff,decide_eq_true_eq,Cc]
theorem Mk {rim : List E3} {k : Nat} {e : E3} (h : rim[k]? = some e) : Ek (rim.take (k + 1)) = Ek (rim.take k) ++ [e.1,e.2]:=by
 unfold Ek;rw [dJ h,List.flatMap_append];simp
theorem Ze {ts : List T3} {p : P3} (h : Bj (aU ts) p = true) : p ∈ dZ ts:=by
 obtain ⟨e,he,hp⟩:=List.mem_flatMap.1 (Cc.1 h);have hc:=Hl (nV.1 he).1;simp only[List.mem_cons,List.not_mem_nil,or_false] at hp;rcases hp with rfl | rfl
 · exact hc.1
 · exact hc.2
def Pv (fine : List T3) (rim : List E3) (e : E3) : Bool:=Bj rim e.1 && Bj rim e.2 && !mV fine e.1 e.2
theorem Ho {fine coarse : List T3} : iV fine coarse (aU fine) = true ↔ ∃ e ∈ lL coarse,Pv fine (aU fine) e = true:=by
 unfold iV;rw [List.any_eq_true];constructor
 · rintro ⟨e,he,h⟩
   exact ⟨e,zX.2 (Ps he),h⟩
 · rintro ⟨e,he,h⟩
   have h0:=zX.1 he;unfold Pv at h;simp only[Bool.and_eq_true,Bool.not_eq_true'] at h;obtain ⟨⟨h1,h2⟩,h3⟩:=h;obtain ⟨p,q⟩:=e;have hne : p ≠ q:=fun e=>by
    subst e;rw [Uq.2 (Ze h1)] at h3;cases h3
   rcases Pt h0 hne with k | k
   · exact ⟨_,k,by simp only at h1 h2 h3;simp [h1,h2,h3]⟩
   · refine ⟨_,k,?_⟩
     have h4 : mV fine q p = false:=by
      cases hh : mV fine q p with
      | false=>rfl
      | true=>rw [zW hh] at h3;cases h3
     simp only at h1 h2;simp [h1,h2,h4]
/-! ### The ends of fans -/
def vY (ts : List T3) (rim : List E3) : List (E3 × P3):=rim.map fun e=>(e,sC ts e.1 ts.length e.2)
theorem vH (ts : List T3) (rim : List E3) : (vY ts rim).map (·.1) = rim:=by
 unfold vY;rw [List.map_map];exact List.map_id' rim
theorem lZ.nodup {es : List E3} (h : lZ es) : es.Nodup:=List.Pairwise.imp (fun {a b} (k : yK a b) (e : a = b)=>yK.irrefl b (e ▸ k)) h
/-! ### Moves -/
theorem qD {fine coarse : List T3} {ms : List Mv} {rim : List E3} : lK fine coarse ms rim = true ↔ ∀ i m,ms[i]? = some m → nK fine coarse ms rim i m = true:=by
 unfold lK;rw [List.all_eq_true];constructor
 · intro h i m hm
   exact h (m,i) (List.mem_zipIdx_iff_getElem?.2 hm)
 · intro h x hx
   exact h x.2 x.1 (List.mem_zipIdx_iff_getElem?.1 hx)
theorem Pw {fine coarse : List T3} {ms : List Mv} {rim : List E3} (h : lK fine coarse ms rim = true) : ∀ i m k,ms[i]? = some k → ms[i + 1]? = some m → k.1.Lt m.1:=fun i m k hk hm=>by
 have:=qD.1 h (i + 1) m hm;unfold nK at this;simp only[Bool.and_eq_true,Bool.or_eq_true] at this;have h1:=this.1.1.1;rw [Nat.add_sub_cancel,hk] at h1;simpa using h1
theorem Ba : ∀ {ms : List Mv},(∀ (i : Nat) (m k : Mv),ms[i]? = some k → ms[i + 1]? = some m → k.1.Lt m.1) → (ms.map (·.1)).Pairwise P3.Lt
 | [],_=>List.Pairwise.nil
 | [m],_=>List.pairwise_singleton _ _
 | m :: k :: ms,h=>by
  have ih:=Ba (ms:=k :: ms) fun i a b h1 h2=>h (i + 1) a b h1 h2;have h0:=h 0 k m rfl rfl;rw [List.map_cons];refine List.pairwise_cons.2 ⟨fun x hx=>?_,ih⟩;rw [List.map_cons] at hx ih;rcases List.mem_cons.1 hx with rfl | hx
  · exact h0
  · exact P3.lt_trans h0 ((List.pairwise_cons.1 ih).1 x hx)
theorem Ml {fine coarse : List T3} {ms : List Mv} {rim : List E3} (h : lK fine coarse ms rim = true) : (ms.map (·.1)).Nodup :=
 List.Pairwise.imp (fun {a b} (k : P3.Lt a b) (e : a = b)=>P3.lt_irrefl b (e ▸ k)) (Ba (Pw h))
theorem Ro (p : P3) : ∀ ms : List Mv,qI ms p = (dG ms p).getD p
 | []=>rfl
 | m :: ms=>by
  rw [qI,dG];split
  · rfl
  · exact Ro p ms
theorem abl {ms : List Mv} (h : (ms.map (·.1)).Nodup) (p : P3) : (dG (mU [] ms) p).getD p = qI ms p:=by
 rw [Ro,Ec _ _ _ h];cases dG ms p <;> rfl
theorem El {K : Type} [DecidableEq K] {V : Type} : ∀ (ks : List K) (D : List (K × V)) (a : K),(D.map (·.1)).Nodup → ((ks.foldl pY D).map (·.1)).Nodup ∧ dG (ks.foldl pY D) a = if a ∈ ks then none else dG D a
 | [],D,a,h=>⟨h,by simp⟩
 | k :: ks,D,a,h=>by
  obtain ⟨h1,h2⟩:=El ks (pY D k) a (Pi h k);refine ⟨h1,?_⟩;rw [List.foldl_cons,h2,Hg k a h];by_cases ha : a ∈ ks
  · rw [if_pos ha,if_pos (List.mem_cons_of_mem _ ha)]
  · rw [if_neg ha]
    by_cases e : k = a
    · rw [if_pos e,if_pos (e ▸ List.mem_cons_self ..)]
    · rw [if_neg e,if_neg (fun k'=>(List.mem_cons.1 k').elim (fun e'=>e e'.symm) ha)]
theorem vI {fine coarse : List T3} {ms : List Mv} {rim : List E3} {cf cc : List P3} (hf : ∀ a,a ∈ cf ↔ a ∈ dZ fine) (hc : ∀ a,a ∈ cc ↔ a ∈ dZ coarse) (i : Nat) (m : Mv) :
 nK fine coarse ms rim i m = ((decide (i = 0) || (ms[i - 1]?).any fun k=>decide (k.1.Lt m.1)) && (dG ((Ek rim).foldl pY (gB [] cf)) m.1).getD false && (dG (gB [] cf) m.2).getD false && (dG ((ms.map (·.1)).foldl pY (gB [] cc)) m.2).getD false):=by
 have n1:=nW cf [] (by simp);have n2:=nW cc [] (by simp);have e1 : (dG ((Ek rim).foldl pY (gB [] cf)) m.1).getD false = (oP fine m.1 && !Bj rim m.1):=by
  rw [(El _ _ m.1 n1).2];by_cases h : m.1 ∈ Ek rim
  · rw [if_pos h,Cc.2 h];simp
  · have : Bj rim m.1 = false:=by
     cases hh : Bj rim m.1 with
     | false=>rfl
     | true=>exact absurd (Cc.1 hh) h
    rw [if_neg h,qB,this,Jm];simp [hf]
 have e2 : (dG (gB [] cf) m.2).getD false = oP fine m.2:=by rw [qB,Jm];simp [hf]
 have e3 : (dG ((ms.map (·.1)).foldl pY (gB [] cc)) m.2).getD false = (oP coarse m.2 && ms.all fun k=>decide (k.1 ≠ m.2)):=by
  rw [(El _ _ m.2 n2).2];by_cases h : m.2 ∈ ms.map (·.1)
  · obtain ⟨k,hk,e⟩:=List.mem_map.1 h
    have : (ms.all fun k=>decide (k.1 ≠ m.2)) = false:=by
     rw [List.all_eq_false];exact ⟨k,hk,by simp [e]⟩
    rw [if_pos h,this];simp
  · have : (ms.all fun k=>decide (k.1 ≠ m.2)) = true:=by
     rw [List.all_eq_true];exact fun k hk=>decide_eq_true fun e=>h (List.mem_map.2 ⟨k,hk,e⟩)
    rw [if_neg h,qB,this,Jm];simp [hc]
 rw [e1,e2,e3,nK];cases (decide (i = 0) || (ms[i - 1]?).any fun k=>decide (k.1.Lt m.1)) <;> cases oP fine m.1 <;> cases Bj rim m.1 <;> cases oP fine m.2 <;> cases oP coarse m.2 <;> simp
/-! ### Covers -/
def nX (ms : List Mv) (ts : List T3) : List T3:=(ts.filter fun t=>(t.img ms).nd).map fun t=>eS (t.img ms)
theorem xX {ms : List Mv} {ts : List T3} {k : Nat} {t : T3} (h : ts[k]? = some t) : nX ms (ts.take (k + 1)) = nX ms (ts.take k) ++ if (t.img ms).nd then [eS (t.img ms)] else []:=by
 unfold nX;rw [dJ h,List.filter_append,List.map_append];cases hn : (t.img ms).nd <;> simp [hn]
theorem Em (ms : List Mv) (u : T3) : ∀ ts : List T3,nL ms ts u = oO (nX ms ts) (eS u)
 | []=>rfl
 | t :: ts=>by
  have ih:=Em ms u ts;unfold nL nX at ih ⊢;cases hn : (t.img ms).nd with
  | false=>rw [List.filter_cons_of_neg (by simp [hn]),List.filter_cons_of_neg (by simp [hn])];exact ih
  | true =>
   rw [List.filter_cons_of_pos (p:=fun t : T3=>(t.img ms).nd) (by simp [hn]),List.map_cons,lF];by_cases e : eS u = eS (t.img ms)
   · rw [List.filter_cons_of_pos (by simp [hn,e]),List.length_cons,if_pos e.symm];omega
   · rw [List.filter_cons_of_neg (by simp [e]),if_neg (fun h=>e h.symm)];omega
theorem xY {K : Type} [DecidableEq K] {ks : List K} {a : K} : 0 < oO ks a ↔ a ∈ ks:=by
 unfold oO;rw [List.length_pos_iff_exists_mem];simp
def Px (fine coarse : List T3) (ms : List Mv) (j : Nat) (t : T3) : Prop :=
 if (t.img ms).nd then eS (t.img ms) ∈ coarse.map eS ∧ eS (t.img ms) ∉ nX ms (fine.take j) else mV coarse (t.img ms).a (t.img ms).b = true ∧ mV coarse (t.img ms).b (t.img ms).c = true
theorem En {coarse : List T3} {x : T3} (h : x.nd = false) : mK coarse x = true ↔ mV coarse x.a x.b = true ∧ mV coarse x.b x.c = true:=by
 unfold mK;rw [h];simp only[Bool.false_eq_true,if_false];by_cases e : x.a = x.b
 · rw [if_pos e,← e]
   exact ⟨fun k=>⟨Hn k,k⟩,fun k=>k.2⟩
 · rw [if_neg e]
   refine ⟨fun k=>⟨k,?_⟩,fun k=>k.1⟩;by_cases e2 : x.b = x.c
   · rw [← e2];exact Hn (zW k)
   · have e3 : x.c = x.a:=by
      unfold T3.nd at h;simp only[Bool.and_eq_false_iff,decide_eq_false_iff_not,ne_eq] at h;rcases h with (h | h) | h
      · exact absurd (Decidable.not_not.1 h) e
      · exact absurd (Decidable.not_not.1 h) e2
      · exact Decidable.not_not.1 h
     rw [e3];exact zW k
theorem Mm {coarse : List T3} {x : T3} (h : x.nd = true) : mK coarse x = true ↔ eS x ∈ coarse.map eS:=by
 unfold mK;rw [h,if_pos rfl,List.any_eq_true,List.mem_map];exact exists_congr fun u=>and_congr Iff.rfl (by rw [decide_eq_true_eq])
theorem Eo {K : Type} [DecidableEq K] : ∀ {ks : List K},ks.Nodup → ∀ a,oO ks a ≤ 1
 | [],_,a=>Nat.zero_le _
 | k :: ks,h,a=>by
  rw [List.nodup_cons] at h;rw [lF];by_cases e : k = a
  · subst e
    have : ¬ 0 < oO ks k:=fun q=>h.1 (xY.1 q);rw [if_pos rfl];omega
  · rw [if_neg e];have:=Eo h.2 a;omega
theorem zY {fine coarse : List T3} {ms : List Mv} : kP fine coarse ms = true ↔ (∀ j t,fine[j]? = some t → Px fine coarse ms j t) ∧ ∀ u ∈ coarse,eS u ∈ nX ms fine:=by
 unfold kP;rw [Bool.and_eq_true,List.all_eq_true,List.all_eq_true];constructor
 · rintro ⟨h1,h2⟩
   have h3 : ∀ u ∈ coarse,oO (nX ms fine) (eS u) = 1:=fun u hu=>by rw [← Em];exact of_decide_eq_true (h2 u hu)
   refine ⟨fun j t ht=>?_,fun u hu=>xY.1 (by rw [h3 u hu];decide)⟩;have hp:=h1 t (List.mem_of_getElem? ht);unfold Px;cases hn : (t.img ms).nd with
   | false=>rw [if_neg (by simp)];exact (En hn).1 hp
   | true =>
    rw [if_pos rfl];have hm:=(Mm hn).1 hp;refine ⟨hm,fun k=>?_⟩;obtain ⟨u,hu,e⟩:=List.mem_map.1 hm;have hc:=h3 u hu;have e2 : nX ms fine = nX ms (fine.take (j + 1)) ++ nX ms (fine.drop (j + 1)):=by
     unfold nX;rw [← List.map_append,← List.filter_append,List.take_append_drop]
    rw [e2,Ed,xX ht,hn,if_pos rfl,Ed,e,lF,if_pos rfl] at hc;have:=xY.2 k;omega
 · rintro ⟨h1,h2⟩
   have nd : ∀ j,(nX ms (fine.take j)).Nodup:=by
    intro j
    induction j with
    | zero=>simp [nX]
    | succ j ih =>
     cases ht : fine[j]? with
     | none =>
      have e : fine.take (j + 1) = fine.take j:=by
       have:=List.getElem?_eq_none_iff.1 ht;rw [List.take_of_length_le (by omega),List.take_of_length_le (by omega)]
      rw [e];exact ih
     | some t =>
      rw [xX ht];have k:=h1 j t ht;unfold Px at k;cases hn : (t.img ms).nd with
      | false=>simpa using ih
      | true =>
       rw [hn,if_pos rfl] at k;rw [if_pos rfl];exact wN.2 ⟨ih,k.2⟩
   refine ⟨fun t ht=>?_,fun u hu=>?_⟩
   · obtain ⟨j,hj⟩:=List.mem_iff_getElem?.1 ht
     have k:=h1 j t hj;unfold Px at k;cases hn : (t.img ms).nd with
     | false=>rw [hn,if_neg (by simp)] at k;exact (En hn).2 k
     | true=>rw [hn,if_pos rfl] at k;exact (Mm hn).2 k.1
   · refine decide_eq_true ?_
     rw [Em];have h3:=Eo (by have:=nd fine.length;rwa [List.take_length] at this) (eS u);have h4:=xY.2 (h2 u hu);omega
end Go.Lith
namespace Go.Lith
open Go.RowKit
section
variable {P : Program} {ops : Array Oper} {Q : Exit → Act → World → Prop} {rest : List Oper} {d j : Nat} {ty : TypeId} {pos : String} {after : Array Edge} {v : Value} {b : Bool} {ds : List Deferred} {l : List Value} {w w0 : World} {is : List It}
variable {f : FuncId} {fo : Operand} {xs : Array Operand} {args : List Value} {first cap : Array Value} {a0 : Array TypeId}
theorem tB (m : cF w0 w is) (hw : yielded ops l.toArray j = some b) (hf : ev l fo = .func (.func f) first cap) (hxs : b = true → first.toList ++ xs.toList.map (ev l) ++ cap.toList = args) (hc : b = true → eL P f args w fun x _=>x = v)
 (h : ∀ u,cF w0 u is → wpList P ops Q rest (Fr (l.set d (Ky b v)) ds) u) : wpList P ops Q (Oper.mk (some d) (.call { callee:=.value fo,args:=xs,argTypes:=a0 }) ty pos after (some (j,true)) :: rest) (Fr l ds) w:=by
 cases b with
 | false=>simp only[Kz] at h;exact cN hw (h w m)
 | true=>simp only[pA] at h;exact bN hw (eQ m hf (hxs rfl) (hc rfl) fun x u m e=>by subst e;exact h u m)
end
section
variable {P : Program} {ops : Array Oper} {Q : Act → Prop} {rest : List Oper} {d j : Nat} {ty : TypeId} {pos : String} {after : Array Edge} {v : Value} {b : Bool} {ds : List Deferred} {l : List Value} {w0 : World} {is : List It}
variable {f : FuncId} {fo : Operand} {xs : Array Operand} {args : List Value} {first cap : Array Value} {a0 : Array TypeId}
end
theorem afE {c : Bool} {u v : Value} {cs : Array Value} (hb : c = true) (h : u = Ky c v) (hv : v.cells = cs) : u.cells = cs:=by rw [h,hb,pA,hv]
/-! ### Rows of edges and moves -/
theorem rD {w : World} {a : Addr} {e : E3} (h : jL w a (cB e)) : jL w (a.add 0) [.int .i64 e.1.x,.int .i64 e.1.y,.int .i64 e.1.z]:=(h.sub 0).take 3
theorem uO {w : World} {a : Addr} {e : E3} (h : jL w a (cB e)) : jL w (a.add 3) [.int .i64 e.2.x,.int .i64 e.2.y,.int .i64 e.2.z]:=h.sub 3
theorem oU.one {α : Type} {enc : α → List Value} {c : Nat} {w : World} {a : Addr} {x : α} (h : jL w a (enc x)) : oU enc c w (some a) 1 [x]:=⟨rfl,fun i y hy=>by
 cases i with
 | zero=>cases hy;exact ⟨a,rfl,by rw [Nat.zero_mul];exact h⟩
 | succ i=>cases hy⟩
theorem afF {x y z p : P3} : ((decide (x.x = p.x ∧ x.y = p.y ∧ x.z = p.z) || decide (y.x = p.x ∧ y.y = p.y ∧ y.z = p.z)) || decide (z.x = p.x ∧ z.y = p.y ∧ z.z = p.z)) = (decide (x = p) || decide (y = p) || decide (z = p)):=by
 simp only[gK]
theorem afG {x y p : P3} : (decide (x.x = p.x ∧ x.y = p.y ∧ x.z = p.z) || decide (y.x = p.x ∧ y.y = p.y ∧ y.z = p.z)) = (decide (x = p) || decide (y = p)):=by
 simp only[gK]
end Go.Lith
