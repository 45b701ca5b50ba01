/-
 Texts of one claim, laid together: Wide2, Wide3, Wide4, Wide5, Back, Wide7, Wide8, Wide9, Wide10, W6, Pack, W7, W8.
-/
import Derived.RangeFuncNested
import Derived.RangeFuncBound
import Derived.RangeFuncCalls
import Derived.RangeFuncBox
import Derived.RangeFuncLeaves
import Derived.Shelf.Abstract
import Derived.Shelf.RegionOpen
import Derived.WalkKit
import Derived.OwnWalkIn
import Derived.TacticsInMore
import Derived.LoopNIn
import Derived.LoopIn
import Derived.Maps.AppendAt
import Derived.Test.YtfohfflkhpfjeaaGreatDoorB5
set_option maxHeartbeats 8000000
set_option linter.unusedSimpArgs false
set_option linter.unusedVariables false
set_option linter.unusedSectionVars false
namespace Go.Proofs.YtfohfflkhpfjeaaGreatDoor
open Go.Proofs.Tryz
open Go.RowKit Go.Lith
set_option maxRecDepth 100000
attribute [local irreducible] wpList wpQuiet dW Code.wp
theorem Tm {A : Option Addr} {xs : List Nat} {na ca d : Nat} (w : World) (hS : dP w A na ca xs) (hlx : xs.length ≤ 1099511627776) (h0 : 0 < d) (h32 : d ≤ 4294967296) : eK prog 117 [.slice A na ca,.int .u64 (d : Int)] w (fun v w'=>∃ q,v = .tuple #[q,.int .u64 ((val 4294967296 xs % d : Nat) : Int)] ∧ gU (val 4294967296 xs / d) q w'):=by
 skip
 refine ⟨adI,?_⟩;have hX:=dI.refl w;obtain rfl:=hS.eq
 go_enter func117,ntmps117
 refine aD (fun K1 hK1=>wp_region_lit (aA (aC) (aA (aC) ?_)));simp only[zz];refine aG (hK1 _ _ ?_);refine aD (fun K2 hK2=>wp_region_lit (aA (aB) (aA (aX rfl bD rfl) ?_)));simp only[zz];refine jS bD mR rfl rfl rfl (Int.toNat_natCast _) (Int.toNat_natCast _) (by omega) (by omega) (by omega) (by omega) ?_;intro w1 g1 hE hg1 hB1;have hG1:=Nat.le_trans hX.size hg1;replace hX:=hX.trans hE;clear hE hg1;simp only[zz];refine aA (aC) ?_;simp only[zz];refine aG ?_;rw [gF] at hB1;refine hK2 _ _ (aD (fun K3 hK3=>wp_region_lit (aA (aC) ?_)));simp only[zz];refine aG (hK3 _ _ ?_);refine aD (fun K4 hK4=>aD (fun K5 hK5=>wp_region_lit (aA (aB) (aA (aX rfl bD rfl) (aA (eX rfl rfl (aM (by omega) (by omega))) ?_)))));simp only[zz];refine aA (aC) ?_;simp only[zz];refine aG (hK5 _ _ ?_);refine wp_block (bK [7,8] [15,16,17,18,19,20,21,22,23,24,25,26,27,28,29,30,31,32,33,34] (fun n vs wl=>∃ (k r : Nat) (os : List Nat),vs = [.int .u64 (r:Int),.int .i64 ((k:Int) - 1)] ∧ (dI w wl) ∧ (gM wl g1 (os.map kW) 126) ∧ (k ≤ xs.length) ∧ (os.length = xs.length) ∧ (val 4294967296 (xs.drop k) = d * val 4294967296 (os.drop k) + r) ∧ (r < d) ∧ (cY 4294967296 os) ∧ (n = k)) ?_ ?_)
 ·
  apply Exists.intro;simp only[zQ,zR,zD,zE];exact ⟨xs.length,0,List.replicate xs.length 0,rfl,hX,hB1,by omega,by simp,by rw [List.drop_length,List.drop_of_length_le (by simp)];simp only[val,Nat.mul_zero],h0,fun x hx=>by rw [List.eq_of_mem_replicate hx];decide,rfl⟩
 ·
  intro n vs wr hI u;obtain ⟨k,r,os,rfl,hX,hB1,hk,hlo,hv,hr,hd,hn⟩:=hI;simp only[zu,zF,zG];refine aD (fun K6 hK6=>aD (fun K7 hK7=>wp_region_lit (aA (aB) (aA (pT rfl rfl) ?_))));simp only[zz];refine aG (hK7 _ _ ?_);refine bW rfl (fun hc1=>?_) (fun hc1=>?_)
  ·
   refine wp_skip ?_;refine hK6 _ _ (aD (fun K8 hK8=>wp_block (aD (fun K9 hK9=>?_))));obtain ⟨a,rfl,hca,hla⟩:=(hS.ext hX).get (show k - 1 < xs.length by omega);have hr32 : r < 4294967296:=by omega
   refine wp_region_lit (aA (aB) (aA (Cc rfl rfl (by omega) (sY (n:=32) (by omega) (by omega))) (aA (aB) ?_)));simp only[zz];refine aA (aB) (aA (aI bD bA rfl rfl (by omega) (by omega) (gQ (show _ = k - 1 by omega))) ?_);simp only[zz];refine aK rfl (lies1 hca fI) ?_;simp only[zz];refine aA (Md rfl rfl (Df (s:=32) (c:=r) (by omega) (by omega) (by omega))) (aA (aC) ?_);simp only[zz];refine aG (hK9 _ _ ?_);obtain ⟨t,ht⟩ : ∃ t : Nat,t = xs[k - 1] + r * 4294967296:=⟨_,rfl⟩
   rw [← ht];have ht64 : t < 18446744073709551616:=by omega
   have hd64 : (d : Int) ≠ 0:=by omega
   refine Hg [(0,true),(1,true),(2,true),(3,true),(4,true),(5,true),(6,true),(7,true),(8,true),(9,false),(10,true)] aO (by kernel_rfl) (dV (fun _ _ _ _ _ h=>h)) (ol:=?_) ?hol ?_
   case hol=>simp only[zw,zQ,zR];try rfl
   intro w2 hE;replace hB1:=hB1.ext hE;replace hX:=hX.trans hE;clear hE;refine wU (aB) (wU (aB) (wU (aB) ?_));simp only[zz];refine wU (aB) (wU (gZ rfl rfl (by omega) (Dh ht64)) (wU (aB) ?_));simp only[zz];refine wU (aB) (wU (dJ rfl rfl (by omega) lS) (wU (aI bD bA rfl rfl (by omega) (by omega) (fJ (show _ = k - 1 by omega))) ?_));simp only[zz];refine ade ?_;refine dA rfl (by simp only[zz];rfl) (by exact bA) hB1 (by simp;omega) (by simp [Value.oneCell']) ?_;clear hB1;intro w3 hC hB1;replace hX:=hX.chg hC hG1;clear hC;rw [gD (by omega)] at hB1;refine aG (wU (aC) ?_);simp only[zz];refine aeM (hK8 _ _ ?_);refine wp_region_lit (aA (aB) (aA (eX rfl rfl (aM (by omega) (by omega))) (aA (aC) ?_)));simp only[zz];refine aG ?_;obtain ⟨r1,r2,r3⟩:=Mk (by omega) hk hlo hv hr hd hla;rw [← ht] at r1 r2 r3;rw [show ((k:Int) - 1 - 1) = ((k - 1 : Nat) : Int) - 1 by omega];simp only[Exit.inBlock,Exit.then];refine ⟨k - 1,_,?_,rfl,?_,?_⟩
   · omega
   · simp only[zz,zv]
   ·
    simp only[zQ,zR,zD,zE];exact ⟨k - 1,t % d,os.set (k - 1) (t / d),rfl,hX,hB1,by omega,by simpa using hlo,r1,r3,r2,rfl⟩
  ·
   refine wp_exit ?_;refine hK4 _ _ (aD (fun K10 hK10=>?_));obtain rfl : k = 0:=by omega
   refine wp_region_lit (aA (aB) ?_);simp only[zz];refine aZ rfl rfl (rU _ (hB1.nat hd (by omega) (by omega))) ?_;rintro v w2 hE rfl;replace hB1:=hB1.ext hE;replace hX:=hX.trans hE;clear hE;simp only[zz];refine aA (aB) (aA (aC) (aA (aC) ?_));simp only[zz];refine aG (hK10 _ _ ?_);refine wp_ret ?_;try simp only[Exit.inBlock,Exit.then]
   refine kK rfl rfl rfl ?_;try simp only[zD,zE]
   (have hq : val 4294967296 os = val 4294967296 xs / d ∧ r = val 4294967296 xs % d:=Eb h0 hr (by simpa using hv));exact ⟨_,rfl,hX,_,by rw [hq.2],gU.of_trim (hB1.nat hd (n:=xs.length) (by omega) (by omega)) hq.1⟩
theorem Tn {A : Option Addr} {xs : List Nat} {na ca sh : Nat} (w : World) (hS : dP w A na ca xs) (hlx : xs.length ≤ 1099511627776) (hn : sh ≤ 31) : eK prog 133 [.slice A na ca,.int .i64 (sh : Int)] w (fun v w'=>∃ g os,v = .slice (some ⟨g,0,none⟩) (xs.length + 1) (xs.length + 1) ∧ w.heap.size ≤ g ∧ gM w' g (os.map kW) 126 ∧ os.length = xs.length + 1 ∧ cY 4294967296 os ∧ val 4294967296 os = 2 ^ sh * val 4294967296 xs):=by
 skip
 refine ⟨adT,?_⟩;have hX:=dI.refl w;obtain rfl:=hS.eq
 go_enter func133,ntmps133
 refine aD (fun K1 hK1=>wp_region_lit (aA (aC) ?_));simp only[zz];refine aG (hK1 _ _ ?_);refine aD (fun K2 hK2=>wp_region_lit (aA (aB) (aA (aX rfl bD rfl) (aA (aP rfl rfl (aM (by omega) (by omega))) ?_))));simp only[zz];refine jS bD mR rfl rfl rfl (show _ = xs.length + 1 by omega) (show _ = xs.length + 1 by omega) (by omega) (by omega) (by omega) (by omega) ?_;intro w1 g1 hE hg1 hB1;have hG1:=Nat.le_trans hX.size hg1;replace hX:=hX.trans hE;clear hE hg1;simp only[zz];refine aA (aC) ?_;simp only[zz];refine aG ?_;rw [gF] at hB1;refine hK2 _ _ (aD (fun K3 hK3=>aD (fun K4 hK4=>wp_region_lit (aA (aB) (aA (aX rfl bD rfl) (aA (aB) ?_))))));simp only[zz];refine aG (hK4 _ _ ?_);refine wp_block (bK [14] [6,7,15,16,17,18,19,20,21,22,23,24,25,26,27,28,29,30,31,32,33,34,35,36] (fun n vs wl=>∃ (i : Nat) (os : List Nat),vs = [.int .i64 (i:Int)] ∧ (dI w wl) ∧ (gM wl g1 (os.map kW) 126) ∧ (i ≤ xs.length) ∧ (os.length = xs.length + 1) ∧ (val 4294967296 os = 2 ^ sh * val 4294967296 (xs.take i)) ∧ (os.drop (i + 1) = List.replicate (xs.length - i) 0) ∧ (cY 4294967296 os) ∧ (∀ h : i < os.length,os[i] < 2 ^ sh) ∧ (n = xs.length - i)) ?_ ?_)
 ·
  apply Exists.intro;simp only[zQ,zR,zD,zE];exact ⟨0,List.replicate (xs.length + 1) 0,rfl,hX,hB1,by omega,by simp,by rw [fD,List.take_zero];rfl,by rw [List.drop_replicate];congr 1,fun x hx=>by rw [List.eq_of_mem_replicate hx];decide,fun h=>by rw [List.getElem_replicate];exact Nat.pow_pos (by decide),rfl⟩
 ·
  intro n vs wr hI u;obtain ⟨i,os,rfl,hX,hB1,hi,hlo,hv,hz,hd,hc,hn⟩:=hI;simp only[zu,zF,zG];refine aD (fun K5 hK5=>wp_region_lit (aA (cF rfl rfl) ?_));simp only[zz];refine aG (hK5 _ _ ?_);refine aD (fun K6 hK6=>?_);refine bW rfl (fun hc1=>?_) (fun hc1=>?_)
  ·
   refine wp_skip ?_;refine hK6 _ _ (aD (fun K7 hK7=>wp_block (aD (fun K8 hK8=>?_))));obtain ⟨a,rfl,hca,hla⟩:=(hS.ext hX).get (show i < xs.length by omega);refine wp_region_lit (aA (aB) (aA (aI bD bA rfl rfl (by omega) (by omega) (gQ (Int.toNat_natCast _))) ?_));simp only[zz];refine aK rfl (lies1 hca fI) ?_;simp only[zz];refine aA (aC) (aA (aC) ?_);simp only[zz];refine aG (hK8 _ _ ?_);refine aD (fun K9 hK9=>?_);have hm64:=Py (n:=sh) (by omega) hla;have hf:=Dj (x:=xs[i]) (n:=sh) (by omega) (hc (by omega));refine wp_region_lit (aA (aB) (aA (aB) (aA (Cc rfl rfl (by omega) (sY (n:=sh) (by omega) hm64)) ?_)));simp only[zz];refine aA (aC) ?_;simp only[zz];refine aG (hK9 _ _ ?_);refine aD (fun K10 hK10=>?_);have hco:=hB1.word (show i < os.length by omega);have hmm : xs[i] * 2 ^ sh % 4294967296 < 4294967296:=Nat.mod_lt _ (by decide);refine wp_region_lit (aA (aB) (aA (aB) (aA (aI bD bA rfl rfl (by omega) (by omega) (fJ (Int.toNat_natCast _))) ?_)));simp only[zz];refine aK rfl (lies1 hco fI) ?_;simp only[zz];refine aA (aB) (aA (rW rfl rfl (Dg hm64)) (aA (Md rfl rfl (Kj (s:=sh) (hc (by omega)) (Di (by omega)) (by omega))) ?_));simp only[zz];refine aA (aI bD bA rfl rfl (by omega) (by omega) (fJ (Int.toNat_natCast _))) ?_;simp only[zz];refine dA rfl (by simp only[zz];rfl) (by exact bA) hB1 (by simp;omega) (by simp [Value.oneCell']) ?_;clear hB1;intro w2 hC hB1;replace hX:=hX.chg hC hG1;clear hC;rw [gD (by omega)] at hB1;refine aG (hK10 _ _ ?_);refine wp_region_lit (aA (aB) (aA (aB) (aA (aP rfl rfl (aM (by omega) (by omega))) ?_)));simp only[zz];refine aA (aB) (aA (qY rfl rfl (by omega) Px) (aA (aI bD bA rfl rfl (by omega) (by omega) (fJ (show _ = i + 1 by omega))) ?_));simp only[zz];refine dA rfl (by simp only[zz];rfl) (by exact bA) hB1 (by simp;omega) (by simp [Value.oneCell']) ?_;clear hB1;intro w3 hC hB1;replace hX:=hX.chg hC hG1;clear hC;rw [gD (by simp;omega)] at hB1;refine aG (hK7 _ _ ?_);refine wp_region_lit (aA (aP rfl rfl (aM (by omega) (by omega))) (aA (aB) ?_));simp only[zz];refine aG ?_;obtain ⟨r1,r2,r3,r4⟩:=Mn (by omega) (by omega) hlo hv hz hd (by omega) (hc (by omega)) hla;rw [show ((i:Int) + 1) = ((i + 1 : Nat) : Int) by omega];simp only[Exit.inBlock,Exit.then];refine ⟨xs.length - (i + 1),_,?_,rfl,?_,?_⟩
   · omega
   · simp only[zz,zv]
   ·
    simp only[zQ,zR,zD,zE];exact ⟨i + 1,(os.set i (os[i] + xs[i] * 2 ^ sh % 4294967296)).set (i + 1) (xs[i] * 2 ^ sh / 4294967296),rfl,hX,hB1,by omega,by simpa using hlo,r1,r2,r3,r4,rfl⟩
  ·
   refine wp_exit ?_;refine hK3 _ _ (aD (fun K11 hK11=>?_));obtain rfl : i = xs.length:=by omega
   refine wp_region_lit (aA (aB) (aA (aC) ?_));simp only[zz];refine aG (hK11 _ _ ?_);refine wp_ret ?_;try simp only[Exit.inBlock,Exit.then]
   refine bM rfl rfl ?_;try simp only[zD,zE]
   exact ⟨_,rfl,hX,_,os,rfl,hG1,hB1,hlo,hd,by rw [hv,List.take_length]⟩
theorem Xk {A : Option Addr} {xs : List Nat} {na ca sh : Nat} (w : World) (hS : dP w A na ca xs) (hlx : xs.length ≤ 1099511627776) (hn : sh ≤ 31) : eK prog 136 [.slice A na ca,.int .i64 (sh : Int)] w (gU (val 4294967296 xs / 2 ^ sh)):=by
 skip
 refine ⟨adW,?_⟩;have hX:=dI.refl w;obtain rfl:=hS.eq
 go_enter func136,ntmps136
 refine aD (fun K1 hK1=>wp_region_lit (aA (aC) ?_));simp only[zz];refine aG (hK1 _ _ ?_);refine aD (fun K2 hK2=>wp_region_lit (aA (aB) (aA (aX rfl bD rfl) ?_)));simp only[zz];refine jS bD mR rfl rfl rfl (Int.toNat_natCast _) (Int.toNat_natCast _) (by omega) (by omega) (by omega) (by omega) ?_;intro w1 g1 hE hg1 hB1;have hG1:=Nat.le_trans hX.size hg1;replace hX:=hX.trans hE;clear hE hg1;simp only[zz];refine aA (aC) ?_;simp only[zz];refine aG ?_;rw [gF] at hB1;refine hK2 _ _ (aD (fun K3 hK3=>aD (fun K4 hK4=>wp_region_lit (aA (aB) (aA (aX rfl bD rfl) (aA (aB) ?_))))));simp only[zz];refine aG (hK4 _ _ ?_);refine wp_block (bK [13] [6,7,14,15,16,17,18,19,20,21,22,23,24,25,26,27,28,29,30,31,32,33,34,35,36,37,38,39,40,41] (fun n vs wl=>∃ (i : Nat) (os : List Nat),vs = [.int .i64 (i:Int)] ∧ (dI w wl) ∧ (gM wl g1 (os.map kW) 126) ∧ (i ≤ xs.length) ∧ (os.length = xs.length) ∧ (val 4294967296 os = val 4294967296 (xs.take i) / 2 ^ sh) ∧ (os.drop i = List.replicate (xs.length - i) 0) ∧ (cY 4294967296 os) ∧ (0 < i → ∀ h : i - 1 < os.length,os[i - 1] < 2 ^ (32 - sh)) ∧ (n = xs.length - i)) ?_ ?_)
 ·
  apply Exists.intro;simp only[zQ,zR,zD,zE];exact ⟨0,List.replicate xs.length 0,rfl,hX,hB1,by omega,by simp,by rw [fD,List.take_zero,show val 4294967296 [] = 0 from rfl,Nat.zero_div],rfl,fun x hx=>by rw [List.eq_of_mem_replicate hx];decide,fun h=>absurd h (by omega),rfl⟩
 ·
  intro n vs wr hI u;obtain ⟨i,os,rfl,hX,hB1,hi,hlo,hv,hz,hd,hc,hn⟩:=hI;simp only[zu,zF,zG];refine aD (fun K5 hK5=>wp_region_lit (aA (cF rfl rfl) ?_));simp only[zz];refine aG (hK5 _ _ ?_);refine aD (fun K6 hK6=>?_);refine bW rfl (fun hc1=>?_) (fun hc1=>?_)
  ·
   refine wp_skip ?_;refine hK6 _ _ (aD (fun K7 hK7=>wp_block (aD (fun K8 hK8=>?_))));obtain ⟨a,rfl,hca,hla⟩:=(hS.ext hX).get (show i < xs.length by omega);refine wp_region_lit (aA (aB) (aA (aI bD bA rfl rfl (by omega) (by omega) (gQ (Int.toNat_natCast _))) ?_));simp only[zz];refine aK rfl (lies1 hca fI) ?_;simp only[zz];refine aA (aC) (aA (aC) ?_);simp only[zz];refine aG (hK8 _ _ ?_);refine aD (fun K9 hK9=>?_);have hco:=hB1.word (show i < os.length by omega);obtain ⟨z1,z2⟩:=iB hz (by omega);have hq : xs[i] / 2 ^ sh < 4294967296:=Nat.lt_of_le_of_lt (Nat.div_le_self _ _) hla;refine jF 9 aO (by kernel_rfl) ?_;simp only[zy];refine aL (aB) (aL (aB) (aL (aI bD bA rfl rfl (by omega) (by omega) (fJ (Int.toNat_natCast _))) ?_));simp only[zz];refine jH rfl (fun _ hE'=>(lies1 (hE'.cell hco) fI)) ?_;simp only[zz];refine aL (aB) (aL (aB) (aL (qY rfl rfl (by omega) (abw (n:=sh) (by omega))) ?_));simp only[zz];refine aL (Md rfl rfl (Kj (s:=0) (c:=xs[i] / 2 ^ sh) (by omega) (by omega) (by omega))) (aL (aI bD bA rfl rfl (by omega) (by omega) (fJ (Int.toNat_natCast _))) ?_);simp only[zz];refine dF ?_;intro w2 hE;replace hB1:=hB1.ext hE;replace hX:=hX.trans hE;clear hE;refine dA rfl (by simp only[zz];rfl) (by exact bA) hB1 (by simp;omega) (by simp [Value.oneCell']) ?_;clear hB1;intro w3 hC hB1;replace hX:=hX.chg hC hG1;clear hC;rw [gD (by omega),z1,Nat.zero_add] at hB1;refine aG (hK9 _ _ ?_);refine aD (fun K10 hK10=>wp_region_lit (aA (aB) (aA (nZ rfl rfl) ?_)));simp only[zz];refine aG (hK10 _ _ ?_);refine bW rfl (fun hc2=>?_) (fun hc2=>?_)
   ·
    obtain ⟨j,rfl⟩ : ∃ j,i = j + 1:=⟨i - 1,by omega⟩
    have hm64:=Py (x:=xs[j + 1]) (n:=32 - sh) (by omega) hla;have hcj:=hc (by omega) (by omega);simp only[Nat.add_sub_cancel] at hcj;have hf:=Dj (x:=xs[j + 1]) (n:=32 - sh) (by omega) hcj;have hmm : xs[j + 1] * 2 ^ (32 - sh) % 4294967296 < 4294967296:=Nat.mod_lt _ (by decide);have hco2:=hB1.word (show j < (os.set (j + 1) (xs[j + 1] / 2 ^ sh)).length by simp;omega);rw [List.getElem_set_ne (by omega)] at hco2;refine jF 12 aO (by kernel_rfl) ?_;simp only[zy];refine aL (aB) (aL (aB) (aL (eX rfl rfl (aM (by omega) (by omega))) ?_));simp only[zz];refine aL (aI bD bA rfl rfl (by omega) (by omega) (fJ (show _ = j by omega))) ?_;simp only[zz];refine jH rfl (fun _ hE'=>(lies1 (hE'.cell hco2) fI)) ?_;simp only[zz];refine aL (aB) (aL (aB) (aL (eX rfl rfl ((aM (by omega) (by omega)).trans (show (32 : Int) - (sh : Int) = ((32 - sh : Nat) : Int) by omega))) ?_));simp only[zz];refine aL (Cc rfl rfl (by omega) (sY (n:=32 - sh) (by omega) hm64)) (aL (rW rfl rfl (Dg hm64)) (aL (Md rfl rfl (Kj (s:=32 - sh) hcj (Di (by omega)) (by omega))) ?_));simp only[zz];refine aL (aI bD bA rfl rfl (by omega) (by omega) (fJ (show _ = j by omega))) ?_;simp only[zz];refine dF ?_;intro w4 hE;replace hB1:=hB1.ext hE;replace hX:=hX.trans hE;clear hE;refine dA rfl (by simp only[zz];rfl) (by exact bA) hB1 (by simp;omega) (by simp [Value.oneCell']) ?_;clear hB1;intro w5 hC hB1;replace hX:=hX.chg hC hG1;clear hC;rw [gD (by simp;omega)] at hB1;refine aG (hK7 _ _ ?_);refine wp_region_lit (aA (aP rfl rfl (aM (by omega) (by omega))) (aA (aB) ?_));simp only[zz];refine aG ?_;obtain ⟨r1,r2,r3⟩:=Hj (n:=sh) (by omega) (by omega) hlo hv hz hd hS.digs (by omega) hcj;rw [show (((j + 1 : Nat) : Int) + 1) = ((j + 1 + 1 : Nat) : Int) by omega];simp only[Exit.inBlock,Exit.then];refine ⟨xs.length - (j + 1 + 1),_,?_,rfl,?_,?_⟩
    · omega
    · simp only[zz,zv]
    ·
     simp only[zQ,zR,zD,zE];exact ⟨j + 1 + 1,(os.set (j + 1) (xs[j + 1] / 2 ^ sh)).set j (os[j] + xs[j + 1] * 2 ^ (32 - sh) % 4294967296),rfl,hX,hB1,by omega,by simpa using hlo,r1,r2,r3,fun _ h=>by simp only[Nat.add_sub_cancel];rw [List.getElem_set_ne (by omega),List.getElem_set_self];exact Yc (by omega) hla,rfl⟩
   ·
    refine wp_skip ?_;refine hK7 _ _ (wp_region_lit (aA (aP rfl rfl (aM (by omega) (by omega))) (aA (aB) ?_)));simp only[zz];refine aG ?_;obtain rfl : i = 0:=by omega
    obtain ⟨r1,r2,r3⟩:=Hh (n:=sh) (by omega) (by omega) hlo hv hz hd hla;rw [show (((0 : Nat) : Int) + 1) = ((0 + 1 : Nat) : Int) by omega];simp only[Exit.inBlock,Exit.then];refine ⟨xs.length - (0 + 1),_,?_,rfl,?_,?_⟩
    · omega
    · simp only[zz,zv]
    ·
     simp only[zQ,zR,zD,zE];exact ⟨0 + 1,os.set 0 (xs[0] / 2 ^ sh),rfl,hX,hB1,by omega,by simpa using hlo,r1,r2,r3,fun _ h=>by simp only[Nat.add_sub_cancel];rw [List.getElem_set_self];exact Yc (by omega) hla,rfl⟩
  ·
   refine wp_exit ?_;refine hK3 _ _ (aD (fun K11 hK11=>?_));obtain rfl : i = xs.length:=by omega
   refine wp_region_lit (aA (aB) ?_);simp only[zz];refine aZ rfl rfl (rU _ (hB1.nat hd (by omega) (by omega))) ?_;rintro v w2 hE rfl;replace hB1:=hB1.ext hE;replace hX:=hX.trans hE;clear hE;simp only[zz];refine aA (aC) ?_;simp only[zz];refine aG (hK11 _ _ ?_);refine wp_ret ?_;try simp only[Exit.inBlock,Exit.then]
   refine bM rfl rfl ?_;try simp only[zD,zE]
   exact ⟨_,rfl,hX,gU.of_trim (hB1.nat hd (n:=xs.length) (by omega) (by omega)) (by rw [hv,List.take_length])⟩
theorem To {A : Option Addr} {xs : List Nat} {na ca : Nat} (w : World) (hS : dP w A na ca xs) : eK prog 142 [.slice A na ca] w (abA xs):=by
 skip
 refine ⟨adZ,?_⟩;have hX:=dI.refl w;obtain rfl:=hS.eq;have hl:=hS.len
 go_enter func142,ntmps142
 refine aD (fun K1 hK1=>wp_region_lit (aA (aC) ?_));simp only[zz];refine aG (hK1 _ _ ?_);refine aD (fun K2 hK2=>aD (fun K3 hK3=>?_));rcases A with _ | a
 ·
  obtain rfl:=hS.none;refine wp_region_lit (aA (aB) (aA (Ml bD rfl rfl) ?_));simp only[zz];refine aG (hK3 _ _ ?_);refine cG rfl (aD (fun K4 hK4=>wp_region_lit (aA (aC) ?_)));simp only[zz];refine aG (hK4 _ _ ?_);refine wp_ret ?_;try simp only[Exit.inBlock,Exit.then]
  refine bM rfl rfl ?_;try simp only[zD,zE]
  exact ⟨_,rfl,hX,none,0,rfl,dP.nil _⟩
 ·
  refine wp_region_lit (aA (aB) (aA (Ml bD rfl rfl) ?_));simp only[zz];refine aG (hK3 _ _ ?_);refine gX rfl (wp_skip ?_);refine hK2 _ _ (aD (fun K5 hK5=>wp_region_lit ?_));refine yI bD (c:=1) (by kernel_rfl)  ?_;intro w1 g1 hE hg1 hB1;have hG1:=Nat.le_trans hX.size hg1;replace hX:=hX.trans hE;clear hE hg1;simp only[zz];refine aA (aB) ?_;simp only[zz];refine gC rfl bD mR rfl (by decide) rfl (jI.build0 (base:=g1) hB1 (Nat.le_refl _)) rfl (news:=xs.map kW) (by simp) (hS.ext hX).words (fun u hu=>by obtain ⟨x,_,rfl⟩:=List.mem_map.1 hu;rfl) (by omega) (by omega) (Nat.le_of_lt hB1.lt) ?_;intro v1 w9 hO hGr _;replace hX:=hX.grown hGr hG1;clear hB1 hGr;simp only[List.nil_append,Nat.zero_add] at hO;obtain ⟨A1,c1,rfl,hN⟩:=dP.of_owns hO rfl hS.digs (by omega);simp only[zz];refine aA (aC) ?_;simp only[zz];refine aG (hK5 _ _ ?_);refine wp_ret ?_;try simp only[Exit.inBlock,Exit.then]
  refine bM rfl rfl ?_;try simp only[zD,zE]
  exact ⟨_,rfl,hX,A1,c1,rfl,hN⟩
end Go.Proofs.YtfohfflkhpfjeaaGreatDoor
namespace Go.Proofs.YtfohfflkhpfjeaaGreatDoor
open Go.Proofs.Tryz
open Go.RowKit Go.Lith
set_option maxRecDepth 100000
attribute [local irreducible] wpList wpQuiet dW Code.wp
theorem Bx {A : Option Addr} {xs : List Nat} {na cap : Nat} (w : World) (hS : dP w A na cap xs) : eK prog 132 [.slice A na cap] w (gU (val 4294967296 xs)) :=
 (rU w hS).mono fun v w' hE h=>by subst h;exact gU.of_trim (hS.ext hE) rfl
theorem aa3 {A B : Option Addr} {xs ys : List Nat} {na nb ca cb d : Nat} (w : World) (hS : dP w A na ca xs) (hR : dP w B nb cb ys) (hl : ys.length + 1 ≤ xs.length) (hly : ys.length ≤ 1099511627776) (hdd : d < 4294967296) : eK prog 134 [.slice A na ca,.slice B nb cb,.int .u64 (d : Int)] w (fun v _=>v = .bool (decide (val 4294967296 (xs.take (ys.length + 1)) < val 4294967296 ys * d))):=by
 skip
 refine ⟨adU,?_⟩;have hX:=dI.refl w;obtain rfl:=hS.eq;obtain rfl:=hR.eq;have hle:=hS.le;have hcap:=hS.cap
 go_enter func134,ntmps134
 refine aD (fun K1 hK1=>wp_region_lit (aA (aC) ?_));simp only[zz];refine aG (hK1 _ _ ?_);refine aD (fun K2 hK2=>wp_region_lit (aA (aB) (aA (aB) (aA (aX rfl bD rfl) ?_))));simp only[zz];refine aA (aP rfl rfl (aM (by omega) (by omega))) (aA (jP bD bA rfl rfl (show _ = ys.length + 1 by omega) (by omega) (by omega)) ?_);simp only[zz];refine aZ rfl rfl (To _ ((hS.ext hX).head hl)) ?_;rintro v w1 hE ⟨A1,c1,rfl,hN1⟩;replace hX:=hX.trans hE;clear hE;simp only[zz];refine aZ rfl rfl (Bx _ hN1) ?_;rintro v w2 hE ⟨A2,c2,rfl,hN2⟩;replace hX:=hX.trans hE;clear hE;simp only[zz];refine aA (aB) (aA (aB) ?_);simp only[zz];refine fN bD (z:=.int .u64 0) (by kernel_rfl) rfl (by simp only[zz];rfl) (by rfl) ?_;intro w3 g1 hE hg1 hB1;have hG1:=Nat.le_trans hX.size hg1
 (try replace hN2:=hN2.ext hE);replace hX:=hX.trans hE
 clear hE hg1;simp only[zz];refine aZ rfl rfl (Bx _ (hB1.nat (os:=[d]) (sA hdd) rfl (by omega))) ?_;rintro v w4 hE ⟨A3,c3,rfl,hN3⟩
 (try replace hN2:=hN2.ext hE);replace hX:=hX.trans hE
 clear hE;simp only[zz];refine aZ rfl rfl (aa2 _ (hR.ext hX) hN3 hly (Nat.le_trans (pN (sA hdd)) (by simp))) ?_;rintro v w5 hE ⟨A4,c4,rfl,hN4⟩
 (try replace hN2:=hN2.ext hE);replace hX:=hX.trans hE
 clear hE;simp only[zz];refine aZ rfl rfl (Tl _ hN2 hN4 (gH _) (gH _)) ?_;rintro v w6 hE rfl;replace hX:=hX.trans hE;clear hE;simp only[zz];refine aA (cF rfl rfl) (aA (aC) ?_);simp only[zz];refine aG (hK2 _ _ ?_);refine wp_ret ?_;try simp only[Exit.inBlock,Exit.then]
 refine bM rfl rfl ?_;try simp only[zD,zE]
 exact ⟨_,rfl,hX,by rw [Ye];simp only[cS,nO]⟩
theorem Lr {B : Option Addr} {os ys : List Nat} {g0 off na nb cb d : Nat} (w : World) (hB0 : gM w g0 (os.map kW) 126) (hd : cY 4294967296 os) (hlo : os.length ≤ 1099511627776) (hR : dP w B nb cb ys) (hoff : off + (ys.length + 1) ≤ os.length) (hna : na = os.length - off) (hdd : d < 4294967296) (hge : val 4294967296 ys * d ≤ val 4294967296 ((os.drop off).take (ys.length + 1))) : Yd prog 135 [.slice (some ⟨g0,off,none⟩) na na,.slice B nb cb,.int .u64 (d : Int)] w g0 (fun _ w'=>gM w' g0 ((laid os off (ys.length + 1) (val 4294967296 ((os.drop off).take (ys.length + 1)) - val 4294967296 ys * d)).map kW) 126):=by
 skip
 refine ⟨adV,?_⟩;have hX:=dI.refl w;obtain rfl:=hR.eq;have hg0:=hB0.lt;have hS : dP w (some ⟨g0,off,none⟩) na na (os.drop off):=by
  have h:=(hB0.nat hd rfl (by omega)).drop (show off ≤ os.length by omega) hna;rw [gB,Nat.zero_add] at h;rwa [hna] at *
 have hle : ys.length + 1 ≤ (os.drop off).length:=by simp;omega
 obtain ⟨V,hV⟩ : ∃ V,V = val 4294967296 ((os.drop off).take (ys.length + 1)):=⟨_,rfl⟩
 rw [← hV] at hge ⊢
 go_enter func135,ntmps135
 refine aD (fun K1 hK1=>wp_region_lit (aA (aB) (aA (aB) (aA (aX rfl bD rfl) ?_))));simp only[zz];refine aA (aP rfl rfl (aM (by omega) (by omega))) (aA (jP bD bA rfl rfl (show _ = ys.length + 1 by omega) (by omega) (by omega)) ?_);simp only[zz];refine aZ rfl rfl (To _ ((hS.ext hX).head hle)) ?_;rintro v w1 hE ⟨A1,c1,rfl,hN1⟩;replace hB0:=hB0.ext hE;replace hX:=hX.trans hE;clear hE;simp only[zz];refine aA (aB) (aA (aB) ?_);simp only[zz];refine fN bD (z:=.int .u64 0) (by kernel_rfl) rfl (by simp only[zz];rfl) (by rfl) ?_;intro w2 g1 hE hg1 hB1;have hG1:=Nat.le_trans hX.size hg1;have hN1_0 : g1 ≠ g0:=Nat.ne_of_gt (Nat.lt_of_lt_of_le hB0.lt hg1);replace hB0:=hB0.ext hE;(try replace hN1:=hN1.ext hE);replace hX:=hX.trans hE;clear hE hg1;simp only[zz];refine aZ rfl rfl (Bx _ (hB1.nat (os:=[d]) (sA hdd) rfl (by omega))) ?_;rintro v w3 hE ⟨A3,c3,rfl,hN3⟩;replace hB0:=hB0.ext hE;(try replace hN1:=hN1.ext hE);replace hX:=hX.trans hE;clear hE;simp only[zz];refine aZ rfl rfl (aa2 _ (hR.ext hX) hN3 (by omega) (Nat.le_trans (pN (sA hdd)) (by simp))) ?_;rintro v w4 hE ⟨A4,c4,rfl,hN4⟩;replace hB0:=hB0.ext hE;(try replace hN1:=hN1.ext hE);replace hX:=hX.trans hE;clear hE;simp only[zz];have hsz:=hX.size;refine aZ rfl rfl (aa1 _ hN1 hN4 (by simp only[cS,nO];rw [List.length_take,Nat.min_eq_left hle];exact Cv hR.digs hdd) (by simp only[cS,nO];rw [← hV];exact hge) (by rw [List.length_take];omega)) ?_;rintro v w5 hE ⟨⟨A5,c5,rfl,hN5⟩,hne⟩;replace hB0:=hB0.ext hE;replace hX:=hX.trans hE;clear hE;replace hne : ∀ a,A5 = some a → a.block ≠ g0:=fun a e=>by subst e;have:=hne a _ _ rfl;omega
 simp only[cS,nO,← hV] at hN5 ⊢;have hm : (digs 4294967296 (V - val 4294967296 ys * d)).length ≤ ys.length + 1:=dU (by omega) (Nat.lt_of_le_of_lt (Nat.sub_le _ _) (by have h:=iH ((hd.drop off).take (ys.length + 1));rw [List.length_take,Nat.min_eq_left hle,← hV] at h;exact h));simp only[zz];refine aA (aC) ?_;simp only[zz];refine aG (hK1 _ _ ?_);refine aD (fun K2 hK2=>?_);replace hX:=hX.upd g0;have hG0 : w.heap.size ≤ g0 ∨ g0 = g0:=.inr rfl;refine wp_region_lit (aA (aB) (aA (aB) (aA (aX rfl bD rfl) ?_)));simp only[zz];refine aA (aP rfl rfl (aM (by omega) (by omega))) (aA (jP bD bA rfl rfl (show _ = ys.length + 1 by omega) (by omega) (by omega)) ?_);simp only[zz];refine aby (z:=.int .u64 0) rfl bD (by kernel_rfl) rfl rfl (by omega) hB0 (by simp;omega) rfl ?_;clear hB0;intro w6 hC hB0
 (try replace hN5:=hN5.chg hC (by first | assumption | rfl));replace hX:=hX.chg hC hG0
 clear hC;refine aG (hK2 _ _ ?_);refine wp_region_lit (aA (aB) (aA (aB) ?_));simp only[zz];refine abB rfl bD (by kernel_rfl) rfl rfl (g:=g0) (o:=off) (n:=na) (m:=(digs 4294967296 (V - val 4294967296 ys * d)).length) (us:=(digs 4294967296 (V - val 4294967296 ys * d)).map kW) (by rw [List.length_map];exact (Nat.min_eq_left (by omega)).symm) hN5.src hB0 (by rw [qZ (by simp;omega)];simp;omega) Yf ?_;clear hB0;intro w7 hC hB0;replace hX:=hX.chg hC hG0;clear hC;simp only[zz];refine aG ?_;try simp only[Exit.inBlock,Exit.then,if_true]
 exact aeO rfl (⟨_,rfl,hX,by rw [← Ul hoff hm];exact hB0⟩)
end Go.Proofs.YtfohfflkhpfjeaaGreatDoor
namespace Go.Proofs.YtfohfflkhpfjeaaGreatDoor
open Go.Proofs.Tryz
open Go.RowKit Go.Lith
set_option maxRecDepth 100000
attribute [local irreducible] wpList wpQuiet dW Code.wp
theorem agE {A B : Option Addr} {xs ys : List Nat} {na nb ca cb : Nat} (w : World) (hS : dP w A na ca xs) (hR : dP w B nb cb ys) (tx : fY xs) (ty : fY ys) (h0 : 0 < val 4294967296 ys) (hlx : xs.length ≤ 1000000000000) (hly : ys.length ≤ 1000000000000) : eK prog 115 [.slice A na ca,.slice B nb cb] w (fun v w'=>∃ q r,v = .tuple #[q,r] ∧ gU (val 4294967296 xs / val 4294967296 ys) q w' ∧ gU (val 4294967296 xs % val 4294967296 ys) r w'):=by
 skip
 refine ⟨adG,?_⟩;have hX:=dI.refl w;obtain rfl:=hS.eq;obtain rfl:=hR.eq
 go_enter func115,ntmps115
 refine aD (fun K1 hK1=>wp_region_lit (aA (aC) (aA (aC) ?_)));simp only[zz];refine aG (hK1 _ _ ?_);refine aD (fun K2 hK2=>aD (fun K3 hK3=>wp_region_lit (aA (aB) (aA (aB) ?_))));simp only[zz];refine aZ rfl rfl (Tl _ (hS.ext hX) (hR.ext hX) tx ty) ?_;rintro v w1 hE rfl;replace hX:=hX.trans hE;clear hE;simp only[zz];refine aA (cF rfl rfl) ?_;simp only[zz];refine aG (hK3 _ _ ?_);refine bW rfl (fun hc1=>?_) (fun hc1=>?_)
 ·
  have hlt:=sZ.1 hc1;refine aD (fun K4 hK4=>wp_region_lit (aA (aB) (aA (aC) (aA (aC) ?_))));simp only[zz];refine aG (hK4 _ _ ?_);refine wp_ret ?_;try simp only[Exit.inBlock,Exit.then]
  refine kK rfl rfl rfl ?_;try simp only[zD,zE]
  exact ⟨_,rfl,hX,_,_,rfl,by rw [Nat.div_eq_of_lt hlt];exact gU.zero _,by rw [Nat.mod_eq_of_lt hlt];exact gU.self (hS.ext hX) tx⟩
 ·
  have hYX : val 4294967296 ys ≤ val 4294967296 xs:=Nat.le_of_not_lt fun h=>hc1 (sZ.2 h);refine wp_skip (hK2 _ _ ?_);refine aD (fun K5 hK5=>aD (fun K6 hK6=>wp_region_lit (aA (aB) (aA (aX rfl bD rfl) (aA (iG rfl rfl) ?_)))));simp only[zz];refine aG (hK6 _ _ ?_);refine bW rfl (fun hc2=>?_) (fun hc2=>?_)
  ·
   refine aD (fun K7 hK7=>?_);obtain ⟨y,rfl⟩ : ∃ y,ys = [y]:=List.length_eq_one_iff.1 (by omega);obtain ⟨b,rfl,hcb,hyb⟩:=(hR.ext hX).get (i:=0) (by simp);simp only[List.getElem_cons_zero] at hcb hyb;refine wp_region_lit (aA (aB) (aA (aB) (aA (aI bD bA rfl rfl (by decide) (by omega) rfl) ?_)));simp only[zz];refine aK rfl (lies1 hcb fI) ?_;simp only[zz];refine aZ rfl rfl (Tm _ (hS.ext hX) (by omega) (by rw [nO] at h0;exact h0) (by omega)) ?_;rintro v w2 hE ⟨q,rfl,A1,c1,rfl,hN1⟩;replace hX:=hX.trans hE;clear hE;simp only[zz];refine aA (aB) (aA (aY rfl rfl) (aA (aY rfl rfl) ?_));simp only[zz];refine aA (aC) (aA (aC) ?_);simp only[zz];refine aG (hK7 _ _ ?_);refine aD (fun K8 hK8=>wp_region_lit (aA (aB) (aA (aB) ?_)));simp only[zz];refine fN bD (z:=.int .u64 0) (by kernel_rfl) rfl (by simp only[zz];rfl) (by rfl) ?_;intro w3 g1 hE hg1 hB1;have hG1:=Nat.le_trans hX.size hg1
   (try replace hN1:=hN1.ext hE);replace hX:=hX.trans hE
   clear hE hg1;simp only[zz];refine aZ rfl rfl (Bx _ (hB1.nat (os:=[val 4294967296 xs % y]) (sA (Nat.lt_of_lt_of_le (Nat.mod_lt _ (by rw [nO] at h0;exact h0)) (by omega))) rfl (by omega))) ?_;rintro v w4 hE ⟨A2,c2,rfl,hN2⟩
   (try replace hN1:=hN1.ext hE);replace hX:=hX.trans hE
   clear hE;simp only[nO] at hN2 ⊢;simp only[zz];refine aA (aC) (aA (aC) ?_);simp only[zz];refine aG (hK8 _ _ ?_);refine wp_ret ?_;try simp only[Exit.inBlock,Exit.then]
   refine kK rfl rfl rfl ?_;try simp only[zD,zE]
   exact ⟨_,rfl,hX,_,_,rfl,by rw [nO];exact ⟨A1,c1,rfl,hN1⟩,by rw [nO];exact ⟨A2,c2,rfl,hN2⟩⟩
  ·
   have hl2 : 2 ≤ ys.length:=by
    rcases ys with _ | ⟨y,ys⟩
    · exact absurd h0 (by simp [val])
    · simp only[List.length_cons] at hc2 ⊢;omega
   have hxy : ys.length ≤ xs.length:=by
    rcases Nat.lt_or_ge xs.length ys.length with h | h
    · have:=kE (B:=4294967296) (by omega) hS.digs hR.digs ty h;omega
    · exact h
   obtain ⟨b,rfl,_,hyb⟩:=hR.get (i:=ys.length - 1) (by omega);have htpy:=uM ty (by omega);refine wp_skip (hK5 _ _ ?_);refine aD (fun K9 hK9=>wp_region_lit (aA (aC) ?_));simp only[zz];refine aG (hK9 _ _ ?_);refine aD (fun K10 hK10=>wp_block ?_);refine bK [8] [39,40,41,42,43,44,45,46,47,48,49,50] (fun n vs wl=>∃ (sh : Nat),vs = [.int .i64 (sh:Int)] ∧ (dI w wl) ∧ (ys[ys.length - 1] * 2 ^ sh < 4294967296) ∧ (sh ≤ 31) ∧ (n = 32 - sh)) ?_ ?_
   ·
    apply Exists.intro;simp only[zQ,zR,zD,zE];exact ⟨0,rfl,hX,by simpa using hyb,by omega,rfl⟩
   ·
    intro n vs wr hI u;obtain ⟨sh,rfl,hX,hsh,hs31,hn⟩:=hI;simp only[zu,zF,zG];refine aD (fun K11 hK11=>aD (fun K12 hK12=>?_));have hcb:=(hR.ext hX).at (show ys.length - 1 < ys.length by omega);refine wp_region_lit (aA (aB) (aA (aB) (aA (aX rfl bD rfl) ?_)));simp only[zz];refine aA (eX rfl rfl (aM (by omega) (by omega))) (aA (aI bD bA rfl rfl (by omega) (by omega) (gQ (show _ = ys.length - 1 by omega))) ?_);simp only[zz];refine aK rfl (lies1 hcb fI) ?_;simp only[zz];refine aA (aB) (aA (Cc rfl rfl (by omega) (sY (n:=sh) (by omega) (Py (by omega) hyb))) (aA (qY rfl rfl (by omega) adf) ?_));simp only[zz];refine aA (iG rfl rfl) ?_;simp only[zz];refine aG (hK12 _ _ ?_);refine bW rfl (fun hc3=>?_) (fun hc3=>?_)
    ·
     refine wp_skip ?_;refine hK11 _ _ (wp_block (wp_region_lit (aA (aB) (aA (aP rfl rfl (aM (by omega) (by omega))) (aA (aC) ?_)))));simp only[zz];refine aG ?_;rw [show ((sh:Int) + 1) = ((sh + 1 : Nat) : Int) by omega];have hlt31 : ys[ys.length - 1] * 2 ^ sh < 2147483648:=by omega
     have hps : 2 ^ sh < 2 ^ 31:=Nat.lt_of_le_of_lt (Nat.le_mul_of_pos_left (2 ^ sh) htpy) hlt31;have hs30 : sh < 31:=(Nat.pow_lt_pow_iff_right (by omega)).1 hps;simp only[Exit.inBlock,Exit.then];refine ⟨32 - (sh + 1),_,?_,rfl,?_,?_⟩
     · omega
     · simp only[zz,zv]
     ·
      simp only[zQ,zR,zD,zE];exact ⟨sh + 1,rfl,hX,by rw [Nat.pow_succ,← Nat.mul_assoc];omega,by omega,rfl⟩
    ·
     refine wp_exit ?_;refine hK10 _ _ (aD (fun K13 hK13=>wp_region_lit (aA (aB) (aA (aB) ?_))));simp only[zz];refine aZ rfl rfl (Tn _ (hS.ext hX) (by omega) (by omega)) ?_;rintro v w2 hE ⟨g1,us,rfl,hg1,hB1,hlu,hdu,hvu⟩;have hG1:=Nat.le_trans hX.size hg1;replace hX:=hX.trans hE;clear hE hg1;simp only[zz];refine aA (aB) (aA (aB) ?_);simp only[zz];refine aZ rfl rfl (Tn _ (hR.ext hX) (by omega) (by omega)) ?_;rintro v w3 hE ⟨g2,vs0,rfl,hg2,hB2,hlv,hdv,hvv⟩;have hG2:=Nat.le_trans hX.size hg2;have hN2_1 : g2 ≠ g1:=Nat.ne_of_gt (Nat.lt_of_lt_of_le hB1.lt hg2);replace hB1:=hB1.ext hE;replace hX:=hX.trans hE;clear hE hg2;rw [← hlv];simp only[zz];refine aZ rfl rfl (rU _ (hB2.nat hdv rfl (by omega))) ?_;rintro v w4 hE rfl;replace hB1:=hB1.ext hE;replace hB2:=hB2.ext hE;replace hX:=hX.trans hE;clear hE;simp only[zz];refine aA (aC) (aA (aC) ?_);simp only[zz];refine aG ?_;obtain ⟨ds,hvs⟩ : ∃ ds,ds = trim vs0:=⟨_,rfl⟩
     rw [← hvs];have hlvs : ds.length = ys.length:=by rw [hvs];exact Um hdv hvv hR.digs (by omega) hsh htpy hs31
     have hdvs : cY 4294967296 ds:=by rw [hvs];exact hdv.trim
     have hvvs : val 4294967296 ds = 2 ^ sh * val 4294967296 ys:=by rw [hvs,jT,hvv]
     obtain ⟨K,hK⟩ : ∃ K,K = xs.length + 1 - ds.length:=⟨_,rfl⟩
     refine hK13 _ _ ?_;refine aD (fun K14 hK14=>wp_region_lit (aA (aB) (aA (aX rfl bD rfl) (aA (aB) ?_))));simp only[zz];refine aA (aX rfl bD rfl) (aA (eX rfl rfl (aM (by omega) (by omega))) ?_);simp only[zz];refine jS bD mR rfl rfl rfl (show _ = K by omega) (show _ = K by omega) (by omega) (by omega) (by omega) (by omega) ?_;intro w5 g3 hE hg3 hB3;have hG3:=Nat.le_trans hX.size hg3;have hN3_1 : g3 ≠ g1:=Nat.ne_of_gt (Nat.lt_of_lt_of_le hB1.lt hg3);have hN3_2 : g3 ≠ g2:=Nat.ne_of_gt (Nat.lt_of_lt_of_le hB2.lt hg3);replace hB1:=hB1.ext hE;replace hB2:=hB2.ext hE;replace hX:=hX.trans hE;clear hE hg3;simp only[zz];refine aA (aC) ?_;simp only[zz];refine aG ?_;rw [gF] at hB3;refine hK14 _ _ (aD (fun K15 hK15=>?_));have hNv:=qJ hB2 hdv (by omega);rw [← hvs] at hNv;have hct:=hNv.at (show ds.length - 1 < ds.length by omega);have hcs:=hNv.at (show ds.length - 2 < ds.length by omega);rw [gB,Nat.zero_add] at hct hcs;refine jC aO (by kernel_rfl) (aL (aB) (aL (aB) (aL (aX rfl bD rfl) ?_)));simp only[zz];refine aL (eX rfl rfl (aM (by omega) (by omega))) (aL (aI bD bA rfl rfl (by omega) (by omega) (fJ (show _ = ds.length - 1 by omega))) ?_);simp only[zz];refine jH rfl (fun _ hE'=>(lies1 (hE'.cell hct) fI)) ?_;simp only[zz];refine aL (aB) (aL (aB) (aL (aX rfl bD rfl) ?_));simp only[zz];refine aL (eX rfl rfl (aM (by omega) (by omega))) (aL (aI bD bA rfl rfl (by omega) (by omega) (fJ (show _ = ds.length - 2 by omega))) ?_);simp only[zz];refine jH rfl (fun _ hE'=>(lies1 (hE'.cell hcs) fI)) ?_;simp only[zz];refine aL (aC) (aL (aC) ?_);simp only[zz];refine dF ?_;intro w6 hE;replace hB1:=hB1.ext hE;replace hB2:=hB2.ext hE;replace hB3:=hB3.ext hE;replace hX:=hX.trans hE;clear hE;have htv : 0 < ds[ds.length - 1]:=uM (by rw [hvs];exact kN _) (by omega);obtain ⟨top,htop⟩ : ∃ top,top = ds[ds.length - 1]:=⟨_,rfl⟩
     obtain ⟨sec,hsec⟩ : ∃ sec,sec = ds[ds.length - 2]:=⟨_,rfl⟩
     have htB : top < 4294967296:=htop ▸ hdvs _ (List.getElem_mem _);have hsB : sec < 4294967296:=hsec ▸ hdvs _ (List.getElem_mem _);rw [← htop] at htv;rw [← htop,← hsec];refine hK15 _ _ (aD (fun K16 hK16=>aD (fun K17 hK17=>?_)));clear hNv hct hcs;refine wp_region_lit (aA (aB) (aA (aX rfl bD rfl) (aA (eX rfl rfl (aM (by omega) (by omega))) ?_)));simp only[zz];refine aA (aC) ?_;simp only[zz];refine aG (hK17 _ _ ?_);refine wp_block (bK [14] [15,16,17,18,79,80,81,82,83,84,85,86,87,88,89,90,91,92,93,94,95,96,97,98,99,100,101,102,103,104,105,106,107,108,109,110,111,112,113,114,115,116,117,118,119,120,121,122,123,124,125,126,127,128,129,130,131,132,133,134,135,136,137,138,139,140,141,142,143,144,145,146] (fun n vs wl=>∃ (k : Nat) (us qs : List Nat),vs = [.int .i64 ((k:Int) - 1)] ∧ (dI w wl) ∧ (gM wl g1 (us.map kW) 126) ∧ (gM wl g2 (vs0.map kW) 126) ∧ (gM wl g3 (qs.map kW) 126) ∧ (k ≤ K) ∧ (us.length = xs.length + 1) ∧ (qs.length = K) ∧ (cY 4294967296 us) ∧ (cY 4294967296 qs) ∧ (val 4294967296 us + val 4294967296 qs * val 4294967296 ds = 2 ^ sh * val 4294967296 xs) ∧ (val 4294967296 (us.drop k) < val 4294967296 ds) ∧ (qs.take k = List.replicate k 0) ∧ (n = k)) ?_ ?_)
     ·
      apply Exists.intro;simp only[zQ,zR,zD,zE];exact ⟨K,us,List.replicate K 0,rfl,hX,hB1,hB2,hB3,Nat.le_refl _,hlu,by simp,hdu,fun x hx=>by rw [List.eq_of_mem_replicate hx];decide,by rw [fD,Nat.zero_mul];exact hvu,by rw [hK];exact Yk hS.digs hlu hvu (by omega) (by omega) hs31 (by rw [hvvs,hlvs];exact Un (by omega) (by omega)),by rw [List.take_of_length_le (by simp)],rfl⟩
     ·
      intro n vs wr hI u;obtain ⟨k,us,qs,rfl,hX,hB1,hB2,hB3,hk,hlu,hlq,hdu,hdq,hI,hH,hz,hn⟩:=hI;simp only[zu,zF,zG];refine aD (fun K18 hK18=>aD (fun K19 hK19=>wp_region_lit (aA (aB) (aA (pT rfl rfl) ?_))));simp only[zz];refine aG (hK19 _ _ ?_);refine bW rfl (fun hc4=>?_) (fun hc4=>?_)
      ·
       obtain ⟨i,rfl⟩ : ∃ i,k = i + 1:=⟨k - 1,by omega⟩
       rw [show (((i + 1 : Nat) : Int) - 1) = (i : Int) by omega];have hi : i + ds.length < us.length:=by omega
       refine wp_skip ?_;refine hK18 _ _ (aD (fun K20 hK20=>wp_block (aD (fun K21 hK21=>wp_region_lit (aA (aB) (aA (aB) (aA (aX rfl bD rfl) ?_)))))));simp only[zz];refine aA (aP rfl rfl (aM (by omega) (by omega))) (aA (aC) ?_);simp only[zz];refine aG ?_;rw [show ((i:Int) + (ds.length:Int)) = ((i + ds.length : Nat) : Int) by omega];refine hK21 _ _ (aD (fun K22 hK22=>?_));have hco1:=hB1.word (show i + ds.length < us.length by omega);have hco2:=hB1.word (show i + ds.length - 1 < us.length by omega);have hb1 : us[i + ds.length] < 4294967296:=hdu _ (List.getElem_mem _);have hb2 : us[i + ds.length - 1] < 4294967296:=hdu _ (List.getElem_mem _);obtain ⟨a3,ha3⟩ : ∃ a3,a3 = us[i + ds.length - 2]:=⟨_,rfl⟩
       have hb3 : a3 < 4294967296:=ha3 ▸ hdu _ (List.getElem_mem _);obtain ⟨U,hU⟩ : ∃ U,U = val 4294967296 (us.drop i):=⟨_,rfl⟩
       refine jC aO (by kernel_rfl) (aL (aB) (aL (aB) (aL (aI bD bA rfl rfl (by omega) (by omega) (fJ (show _ = i + ds.length by omega))) ?_)));simp only[zz];refine jH rfl (fun _ hE'=>(lies1 (hE'.cell hco1) fI)) ?_;simp only[zz];refine aL (Cc rfl rfl (by omega) (sY (n:=32) (by omega) (by omega))) (aL (aB) (aL (aB) ?_));simp only[zz];refine aL (eX rfl rfl (aM (by omega) (by omega))) (aL (aI bD bA rfl rfl (by omega) (by omega) (fJ (show _ = i + ds.length - 1 by omega))) ?_);simp only[zz];refine jH rfl (fun _ hE'=>(lies1 (hE'.cell hco2) fI)) ?_;simp only[zz];refine aL (Md rfl rfl (Df (s:=32) (c:=us[i + ds.length]) (by omega) (by omega) (by omega))) (aL (aC) ?_);simp only[zz];refine dF ?_;intro w7 hE;replace hB1:=hB1.ext hE;replace hB2:=hB2.ext hE;replace hB3:=hB3.ext hE;replace hX:=hX.trans hE;clear hE;obtain ⟨two,htwo⟩ : ∃ two : Nat,two = us[i + ds.length - 1] + us[i + ds.length] * 4294967296:=⟨_,rfl⟩
       rw [← htwo];have ht64 : two < 18446744073709551616:=by omega
       obtain ⟨P,hP,f1,f2,f3,f4,f5,f6,f7⟩:=Uo hdu hdvs (by omega) hi hH htwo htop hsec ha3 hU;obtain ⟨q,hq⟩ : ∃ q,q = U / val 4294967296 ds:=⟨_,rfl⟩
       have hq1 : q * val 4294967296 ds ≤ U:=by rw [hq];exact Nat.div_mul_le_self _ _
       have hV0 : 0 < val 4294967296 ds:=by omega
       have hq2 : U < (q + 1) * val 4294967296 ds:=by rw [← Nat.div_lt_iff_lt_mul hV0];omega
       have hqB : q < 4294967296:=by rw [hq,Nat.div_lt_iff_lt_mul hV0];exact f7
       refine hK22 _ _ ?_;refine aD (fun K23 hK23=>?_);refine jC aO (by kernel_rfl) (aL (aB) (aL (aB) (aL (gZ rfl rfl (by omega) (Dh ht64)) ?_)));simp only[zz];refine aL (aB) (aL (aB) (aL (dJ rfl rfl (by omega) lS) ?_));simp only[zz];refine aL (aC) (aL (aC) ?_);simp only[zz];refine dF ?_;intro w8 hE;replace hB1:=hB1.ext hE;replace hB2:=hB2.ext hE;replace hB3:=hB3.ext hE;replace hX:=hX.trans hE;clear hE;refine hK23 _ _ (aD (fun K24 hK24=>wp_block ?_));refine bK [17,18] [104,105,106,107,108,109,110,111,112,113,114,115,116,117,118,119,120,121,122,123,124,125,126,127,128] (fun n vs wl=>∃ (gq rr : Nat),vs = [.int .u64 (gq:Int),.int .u64 (rr:Int)] ∧ (dI w wl) ∧ (gM wl g1 (us.map kW) 126) ∧ (gM wl g2 (vs0.map kW) 126) ∧ (gM wl g3 (qs.map kW) 126) ∧ (gq * top + rr = two) ∧ (q ≤ gq) ∧ (n = gq)) ?_ ?_
       ·
        apply Exists.intro;simp only[zQ,zR,zD,zE];exact ⟨two / top,two % top,rfl,hX,hB1,hB2,hB3,by rw [Nat.mul_comm];exact Nat.div_add_mod two top,Yh (by omega) f1 f2 hq1 htv,rfl⟩
       ·
        intro n vs wr hI u;obtain ⟨gq,rr,rfl,hX,hB1,hB2,hB3,hgr,hqg,hn3⟩:=hI;simp only[zu,zF,zG];refine aD (fun K25 hK25=>aD (fun K26 hK26=>?_));have hco3:=hB1.word (show i + ds.length - 2 < us.length by omega);rw [← ha3] at hco3;have hgt : gq ≤ two:=Nat.le_trans (Nat.le_mul_of_pos_right gq htv) (by omega);rcases (show 4294967295 < gq ∨ (gq ≤ 4294967295 ∧ 4294967295 < rr) ∨ (gq ≤ 4294967295 ∧ rr ≤ 4294967295) by omega) with hga | ⟨hga,hrr⟩ | ⟨hga,hrr⟩
        ·
         have hqg2 : q < gq:=by omega
         have hco3:=hB1.word (show i + ds.length - 2 < us.length by omega);rw [← ha3] at hco3;have hgt : gq ≤ two:=Nat.le_trans (Nat.le_mul_of_pos_right gq htv) (by omega);refine wp_region_lit (aA (aB) (aA (xG rfl rfl (by omega)) (aA (aB) ?_)));simp only[zz];refine cN rfl ?_;simp only[zz];refine cN rfl ?_;simp only[zz];refine cN rfl ?_;simp only[zz];refine eT rfl ?_;simp only[zz];refine eT rfl ?_;simp only[zz];refine eT rfl ?_;simp only[zz];refine eT rfl ?_;simp only[zz];refine eT rfl ?_;simp only[zz];refine eT rfl ?_;simp only[zz];refine eT rfl ?_;simp only[zz];refine eT rfl ?_;simp only[zz];refine eT rfl ?_;simp only[zz];refine eT rfl ?_;simp only[zz];refine eT rfl ?_;simp only[zz];refine eT rfl ?_;simp only[zz];refine cN rfl ?_;simp only[zz];refine aA (cB rfl) ?_;simp only[zz];refine aG (hK26 _ _ ?_);refine cG rfl (wp_skip ?_);refine hK25 _ _ (wp_block (aD (fun K27 hK27=>wp_region_lit (aA (aB) (aA (eX rfl rfl (fF (by omega) (by omega))) (aA (aC) ?_))))));simp only[zz];refine aG (hK27 _ _ ?_);have hgt2 : rr + top ≤ two:=by have:=Nat.le_mul_of_pos_left top (show 0 < gq by omega);omega
         refine wp_region_lit (aA (aB) (aA (aB) (aA (aP rfl rfl (fF (by omega) (by omega))) ?_)));simp only[zz];refine aA (aC) ?_;simp only[zz];refine aG ?_;obtain ⟨g9,rfl⟩ : ∃ g9,gq = g9 + 1:=⟨gq - 1,by omega⟩
         rw [show (((g9 + 1 : Nat) : Int) - 1) = (g9 : Int) by omega,show ((rr:Int) + (top:Int)) = ((rr + top : Nat) : Int) by omega];simp only[Exit.inBlock,Exit.then];refine ⟨g9,_,?_,rfl,?_,?_⟩
         · omega
         · simp only[zz,zv]
         ·
          simp only[zQ,zR,zD,zE];exact ⟨g9,rr + top,rfl,hX,hB1,hB2,hB3,by rw [Nat.add_mul,Nat.one_mul] at hgr;omega,by omega,rfl⟩
        ·
         have hx : gq * sec ≤ a3 + rr * 4294967296:=Ym (by omega) hsB (by omega);have hco3:=hB1.word (show i + ds.length - 2 < us.length by omega);rw [← ha3] at hco3;have hgt : gq ≤ two:=Nat.le_trans (Nat.le_mul_of_pos_right gq htv) (by omega);refine wp_region_lit (aA (aB) (aA (uL rfl rfl (by omega)) (aA (aB) ?_)));simp only[zz];refine aR rfl (aA (aB) ?_);simp only[zz];refine aR rfl (aA (Pv rfl rfl (by omega)) ?_);simp only[zz];refine aR rfl (aA (aB) ?_);simp only[zz];refine cD rfl ?_;simp only[zz];refine cD rfl ?_;simp only[zz];refine cD rfl ?_;simp only[zz];refine cD rfl ?_;simp only[zz];refine cD rfl ?_;simp only[zz];refine cD rfl ?_;simp only[zz];refine cD rfl ?_;simp only[zz];refine cD rfl ?_;simp only[zz];refine cD rfl ?_;simp only[zz];refine cD rfl ?_;simp only[zz];refine cD rfl ?_;simp only[zz];refine cD rfl ?_;simp only[zz];refine aR rfl (aA (eG rfl) (aA (eG rfl) ?_));simp only[zz];refine aG (hK26 _ _ ?_);refine gX rfl (wp_exit ?_);refine hK24 _ _ (aD (fun K28 hK28=>aD (fun K29 hK29=>?_)));have hNv:=qJ hB2 hdv (by omega);rw [← hvs] at hNv;have hNu:=(hB1.nat hdu rfl (by omega)).drop (show i ≤ us.length by omega) rfl;rw [gB,Nat.zero_add,hlu] at hNu;have hU2 : val 4294967296 ((us.drop i).take (ds.length + 1)) = U:=by rw [← yK hdvs (by omega) hH,hU]
         have hgl : gq ≤ q + 1:=Mp f4 f6 hq2 (Ec hgr hx) (by omega);obtain ⟨ge1,ge2⟩:=If hq1 hq2 hqg hgl;refine wp_region_lit (aA (aB) (aA (aB) (aA (jQ bD bA rfl rfl (Int.toNat_natCast _) (by omega) (by omega) (wA (by omega))) ?_)));simp only[zz];refine aA (aB) (aA (aB) ?_);simp only[zz];refine aZ rfl rfl (aa3 _ hNu hNv (by simp;omega) (by omega) (by omega)) ?_;rintro v w9 hE rfl;replace hB1:=hB1.ext hE;replace hB2:=hB2.ext hE;replace hB3:=hB3.ext hE;replace hX:=hX.trans hE;clear hE;simp only[zz];refine aG (hK29 _ _ ?_);refine bW rfl (fun hc6=>?_) (fun hc6=>?_)
         ·
          have hg1 : 0 < gq:=by
           rcases Nat.eq_zero_or_pos gq with h | h
           · rw [h,Nat.mul_zero] at hc6;exact absurd hc6 (Nat.not_lt_zero _)
           · exact h
          have hgq:=ge1 (by rw [← hU2];exact hc6);refine wp_region_lit (aA (aB) (aA (eX rfl rfl (fF (by omega) (by omega))) (aA (aC) ?_)));simp only[zz];refine aG ?_;rw [show ((gq:Int) - 1) = (q:Int) by omega];refine hK28 _ _ (aD (fun K30 hK30=>?_));clear hNv hNu;have hNv:=qJ hB2 hdv (by omega);rw [← hvs] at hNv;refine wp_region_lit (aA (aB) (aA (aB) (aA (jQ bD bA rfl rfl (Int.toNat_natCast _) (by omega) (by omega) (wA (by omega))) ?_)));simp only[zz];refine aA (aB) (aA (aB) ?_);simp only[zz];refine yJ rfl rfl (Lr _ hB1 hdu (by omega) hNv (by omega) (by omega) hqB (by rw [hU2,Nat.mul_comm];exact hq1)) ?_;clear hB1;rintro v w10 hU hB1;replace hB2:=hB2.upd hU (by first | exact hN2_1 | exact Ne.symm hN1_2);replace hB3:=hB3.upd hU (by first | exact hN3_1 | exact Ne.symm hN1_3);replace hX:=hX.grownUpd hU hG1;clear hU;simp only[zz];refine aG (hK30 _ _ ?_);clear hNv;refine wp_region_lit (aA (aB) (aA (aB) (aA (aB) ?_)));simp only[zz];refine aA (aI bD bA rfl rfl (by omega) (by omega) (fJ (Int.toNat_natCast _))) ?_;simp only[zz];refine dA rfl (by simp only[zz];rfl) (by exact bA) hB3 (by simp;omega) (by simp [Value.oneCell']) ?_;clear hB3;intro w11 hC hB3;replace hB1:=hB1.chg hC (by first | exact hN1_3 | exact Ne.symm hN3_1);replace hB2:=hB2.chg hC (by first | exact hN2_3 | exact Ne.symm hN3_2);replace hX:=hX.chg hC hG3;clear hC;rw [gD (by omega)] at hB3;refine aG (hK20 _ _ ?_);refine wp_region_lit (aA (aB) (aA (eX rfl rfl (aM (by omega) (by omega))) (aA (aC) ?_)));simp only[zz];refine aG ?_;obtain ⟨r1,r2,r3,r4⟩:=wB hdvs hdu hi hH hU hq1 hq2 hI hz (by omega);simp only[Exit.inBlock,Exit.then];refine ⟨i,_,?_,rfl,?_,?_⟩
          · omega
          · simp only[zz,zv]
          ·
           simp only[zQ,zR,zD,zE];exact ⟨i,laid us i (ds.length + 1) (val 4294967296 ((us.drop i).take (ds.length + 1)) - val 4294967296 ds * q),qs.set i q,rfl,hX,hB1,hB2,hB3,by omega,by rw [r4];exact hlu,by simpa using hlq,vZ hdu,hdq.set hqB,r1,r2,r3,rfl⟩
         ·
          have hgq:=ge2 (by rw [← hU2];exact hc6);rw [show (gq:Int) = (q:Int) by omega];refine wp_skip (hK28 _ _ ?_);refine aD (fun K31 hK31=>?_);clear hNv hNu;have hNv:=qJ hB2 hdv (by omega);rw [← hvs] at hNv;refine wp_region_lit (aA (aB) (aA (aB) (aA (jQ bD bA rfl rfl (Int.toNat_natCast _) (by omega) (by omega) (wA (by omega))) ?_)));simp only[zz];refine aA (aB) (aA (aB) ?_);simp only[zz];refine yJ rfl rfl (Lr _ hB1 hdu (by omega) hNv (by omega) (by omega) hqB (by rw [hU2,Nat.mul_comm];exact hq1)) ?_;clear hB1;rintro v w10 hU hB1;replace hB2:=hB2.upd hU (by first | exact hN2_1 | exact Ne.symm hN1_2);replace hB3:=hB3.upd hU (by first | exact hN3_1 | exact Ne.symm hN1_3);replace hX:=hX.grownUpd hU hG1;clear hU;simp only[zz];refine aG (hK31 _ _ ?_);clear hNv;refine wp_region_lit (aA (aB) (aA (aB) (aA (aB) ?_)));simp only[zz];refine aA (aI bD bA rfl rfl (by omega) (by omega) (fJ (Int.toNat_natCast _))) ?_;simp only[zz];refine dA rfl (by simp only[zz];rfl) (by exact bA) hB3 (by simp;omega) (by simp [Value.oneCell']) ?_;clear hB3;intro w11 hC hB3;replace hB1:=hB1.chg hC (by first | exact hN1_3 | exact Ne.symm hN3_1);replace hB2:=hB2.chg hC (by first | exact hN2_3 | exact Ne.symm hN3_2);replace hX:=hX.chg hC hG3;clear hC;rw [gD (by omega)] at hB3;refine aG (hK20 _ _ ?_);refine wp_region_lit (aA (aB) (aA (eX rfl rfl (aM (by omega) (by omega))) (aA (aC) ?_)));simp only[zz];refine aG ?_;obtain ⟨r1,r2,r3,r4⟩:=wB hdvs hdu hi hH hU hq1 hq2 hI hz (by omega);simp only[Exit.inBlock,Exit.then];refine ⟨i,_,?_,rfl,?_,?_⟩
          · omega
          · simp only[zz,zv]
          ·
           simp only[zQ,zR,zD,zE];exact ⟨i,laid us i (ds.length + 1) (val 4294967296 ((us.drop i).take (ds.length + 1)) - val 4294967296 ds * q),qs.set i q,rfl,hX,hB1,hB2,hB3,by omega,by rw [r4];exact hlu,by simpa using hlq,vZ hdu,hdq.set hqB,r1,r2,r3,rfl⟩
        ·
         have hco3:=hB1.word (show i + ds.length - 2 < us.length by omega);rw [← ha3] at hco3;have hgt : gq ≤ two:=Nat.le_trans (Nat.le_mul_of_pos_right gq htv) (by omega);refine wp_region_lit (aA (aB) (aA (uL rfl rfl (by omega)) (aA (aB) ?_)));simp only[zz];refine aR rfl (aA (aB) ?_);simp only[zz];refine aR rfl (aA (Pu rfl rfl (by omega)) ?_);simp only[zz];refine aR rfl (aA (aB) ?_);simp only[zz];refine aR rfl (aA (aB) ?_);simp only[zz];refine aR rfl (aA (aB) ?_);simp only[zz];refine aR rfl (aA (fO rfl rfl (abD (Nat.lt_of_le_of_lt (Ya (by omega) hsB) (by decide)))) ?_);simp only[zz];refine aR rfl (aA (aB) ?_);simp only[zz];refine aR rfl (aA (Cc rfl rfl (by omega) (sY (n:=32) (by omega) (by omega))) ?_);simp only[zz];refine aR rfl (aA (aB) ?_);simp only[zz];refine aR rfl (aA (aB) ?_);simp only[zz];refine aR rfl (aA (eX rfl rfl (aM (by omega) (by omega))) ?_);simp only[zz];refine aR rfl (aA (aI bD bA rfl rfl (by omega) (by omega) (fJ (show _ = i + ds.length - 2 by omega))) ?_);simp only[zz];refine aR rfl (aK rfl (lies1 hco3 fI) ?_);simp only[zz];refine aR rfl (aA (Md rfl rfl (Df (s:=32) (c:=rr) (by omega) (by omega) (by omega))) ?_);simp only[zz];refine aR rfl (aA (nZ rfl rfl) ?_);simp only[zz];refine aR rfl (aA (cB rfl) (aA (eG rfl) ?_));simp only[zz];refine aG (hK26 _ _ ?_);refine bW rfl (fun hc5=>?_) (fun hc5=>?_)
         ·
          have hqg2 : q < gq:=Yi hP f3 f5 hq1 (Pz hgr (by omega));refine wp_skip (hK25 _ _ ?_);refine wp_block (aD (fun K32 hK32=>wp_region_lit (aA (aB) (aA (eX rfl rfl (fF (by omega) (by omega))) (aA (aC) ?_)))));simp only[zz];refine aG (hK32 _ _ ?_);have hgt2 : rr + top ≤ two:=by have:=Nat.le_mul_of_pos_left top (show 0 < gq by omega);omega
          refine wp_region_lit (aA (aB) (aA (aB) (aA (aP rfl rfl (fF (by omega) (by omega))) ?_)));simp only[zz];refine aA (aC) ?_;simp only[zz];refine aG ?_;obtain ⟨g9,rfl⟩ : ∃ g9,gq = g9 + 1:=⟨gq - 1,by omega⟩
          rw [show (((g9 + 1 : Nat) : Int) - 1) = (g9 : Int) by omega,show ((rr:Int) + (top:Int)) = ((rr + top : Nat) : Int) by omega];simp only[Exit.inBlock,Exit.then];refine ⟨g9,_,?_,rfl,?_,?_⟩
          · omega
          · simp only[zz,zv]
          ·
           simp only[zQ,zR,zD,zE];exact ⟨g9,rr + top,rfl,hX,hB1,hB2,hB3,by rw [Nat.add_mul,Nat.one_mul] at hgr;omega,by omega,rfl⟩
         ·
          have hx : gq * sec ≤ a3 + rr * 4294967296:=by omega
          refine wp_exit ?_;refine hK24 _ _ (aD (fun K33 hK33=>aD (fun K34 hK34=>?_)));have hNv:=qJ hB2 hdv (by omega);rw [← hvs] at hNv;have hNu:=(hB1.nat hdu rfl (by omega)).drop (show i ≤ us.length by omega) rfl;rw [gB,Nat.zero_add,hlu] at hNu;have hU2 : val 4294967296 ((us.drop i).take (ds.length + 1)) = U:=by rw [← yK hdvs (by omega) hH,hU]
          have hgl : gq ≤ q + 1:=Mp f4 f6 hq2 (Ec hgr hx) (by omega);obtain ⟨ge1,ge2⟩:=If hq1 hq2 hqg hgl;refine wp_region_lit (aA (aB) (aA (aB) (aA (jQ bD bA rfl rfl (Int.toNat_natCast _) (by omega) (by omega) (wA (by omega))) ?_)));simp only[zz];refine aA (aB) (aA (aB) ?_);simp only[zz];refine aZ rfl rfl (aa3 _ hNu hNv (by simp;omega) (by omega) (by omega)) ?_;rintro v w9 hE rfl;replace hB1:=hB1.ext hE;replace hB2:=hB2.ext hE;replace hB3:=hB3.ext hE;replace hX:=hX.trans hE;clear hE;simp only[zz];refine aG (hK34 _ _ ?_);refine bW rfl (fun hc6=>?_) (fun hc6=>?_)
          ·
           have hg1 : 0 < gq:=by
            rcases Nat.eq_zero_or_pos gq with h | h
            · rw [h,Nat.mul_zero] at hc6;exact absurd hc6 (Nat.not_lt_zero _)
            · exact h
           have hgq:=ge1 (by rw [← hU2];exact hc6);refine wp_region_lit (aA (aB) (aA (eX rfl rfl (fF (by omega) (by omega))) (aA (aC) ?_)));simp only[zz];refine aG ?_;rw [show ((gq:Int) - 1) = (q:Int) by omega];refine hK33 _ _ (aD (fun K35 hK35=>?_));clear hNv hNu;have hNv:=qJ hB2 hdv (by omega);rw [← hvs] at hNv;refine wp_region_lit (aA (aB) (aA (aB) (aA (jQ bD bA rfl rfl (Int.toNat_natCast _) (by omega) (by omega) (wA (by omega))) ?_)));simp only[zz];refine aA (aB) (aA (aB) ?_);simp only[zz];refine yJ rfl rfl (Lr _ hB1 hdu (by omega) hNv (by omega) (by omega) hqB (by rw [hU2,Nat.mul_comm];exact hq1)) ?_;clear hB1;rintro v w10 hU hB1;replace hB2:=hB2.upd hU (by first | exact hN2_1 | exact Ne.symm hN1_2);replace hB3:=hB3.upd hU (by first | exact hN3_1 | exact Ne.symm hN1_3);replace hX:=hX.grownUpd hU hG1;clear hU;simp only[zz];refine aG (hK35 _ _ ?_);clear hNv;refine wp_region_lit (aA (aB) (aA (aB) (aA (aB) ?_)));simp only[zz];refine aA (aI bD bA rfl rfl (by omega) (by omega) (fJ (Int.toNat_natCast _))) ?_;simp only[zz];refine dA rfl (by simp only[zz];rfl) (by exact bA) hB3 (by simp;omega) (by simp [Value.oneCell']) ?_;clear hB3;intro w11 hC hB3;replace hB1:=hB1.chg hC (by first | exact hN1_3 | exact Ne.symm hN3_1);replace hB2:=hB2.chg hC (by first | exact hN2_3 | exact Ne.symm hN3_2);replace hX:=hX.chg hC hG3;clear hC;rw [gD (by omega)] at hB3;refine aG (hK20 _ _ ?_);refine wp_region_lit (aA (aB) (aA (eX rfl rfl (aM (by omega) (by omega))) (aA (aC) ?_)));simp only[zz];refine aG ?_;obtain ⟨r1,r2,r3,r4⟩:=wB hdvs hdu hi hH hU hq1 hq2 hI hz (by omega);simp only[Exit.inBlock,Exit.then];refine ⟨i,_,?_,rfl,?_,?_⟩
           · omega
           · simp only[zz,zv]
           ·
            simp only[zQ,zR,zD,zE];exact ⟨i,laid us i (ds.length + 1) (val 4294967296 ((us.drop i).take (ds.length + 1)) - val 4294967296 ds * q),qs.set i q,rfl,hX,hB1,hB2,hB3,by omega,by rw [r4];exact hlu,by simpa using hlq,vZ hdu,hdq.set hqB,r1,r2,r3,rfl⟩
          ·
           have hgq:=ge2 (by rw [← hU2];exact hc6);rw [show (gq:Int) = (q:Int) by omega];refine wp_skip (hK33 _ _ ?_);refine aD (fun K36 hK36=>?_);clear hNv hNu;have hNv:=qJ hB2 hdv (by omega);rw [← hvs] at hNv;refine wp_region_lit (aA (aB) (aA (aB) (aA (jQ bD bA rfl rfl (Int.toNat_natCast _) (by omega) (by omega) (wA (by omega))) ?_)));simp only[zz];refine aA (aB) (aA (aB) ?_);simp only[zz];refine yJ rfl rfl (Lr _ hB1 hdu (by omega) hNv (by omega) (by omega) hqB (by rw [hU2,Nat.mul_comm];exact hq1)) ?_;clear hB1;rintro v w10 hU hB1;replace hB2:=hB2.upd hU (by first | exact hN2_1 | exact Ne.symm hN1_2);replace hB3:=hB3.upd hU (by first | exact hN3_1 | exact Ne.symm hN1_3);replace hX:=hX.grownUpd hU hG1;clear hU;simp only[zz];refine aG (hK36 _ _ ?_);clear hNv;refine wp_region_lit (aA (aB) (aA (aB) (aA (aB) ?_)));simp only[zz];refine aA (aI bD bA rfl rfl (by omega) (by omega) (fJ (Int.toNat_natCast _))) ?_;simp only[zz];refine dA rfl (by simp only[zz];rfl) (by exact bA) hB3 (by simp;omega) (by simp [Value.oneCell']) ?_;clear hB3;intro w11 hC hB3;replace hB1:=hB1.chg hC (by first | exact hN1_3 | exact Ne.symm hN3_1);replace hB2:=hB2.chg hC (by first | exact hN2_3 | exact Ne.symm hN3_2);replace hX:=hX.chg hC hG3;clear hC;rw [gD (by omega)] at hB3;refine aG (hK20 _ _ ?_);refine wp_region_lit (aA (aB) (aA (eX rfl rfl (aM (by omega) (by omega))) (aA (aC) ?_)));simp only[zz];refine aG ?_;obtain ⟨r1,r2,r3,r4⟩:=wB hdvs hdu hi hH hU hq1 hq2 hI hz (by omega);simp only[Exit.inBlock,Exit.then];refine ⟨i,_,?_,rfl,?_,?_⟩
           · omega
           · simp only[zz,zv]
           ·
            simp only[zQ,zR,zD,zE];exact ⟨i,laid us i (ds.length + 1) (val 4294967296 ((us.drop i).take (ds.length + 1)) - val 4294967296 ds * q),qs.set i q,rfl,hX,hB1,hB2,hB3,by omega,by rw [r4];exact hlu,by simpa using hlq,vZ hdu,hdq.set hqB,r1,r2,r3,rfl⟩
      ·
       obtain rfl : k = 0:=by omega
       rw [List.drop_zero] at hH;obtain ⟨dq,dr⟩:=Yl (X:=val 4294967296 xs) (Y:=val 4294967296 ys) (p:=2 ^ sh) (u:=val 4294967296 us) (q:=val 4294967296 qs) (Nat.pow_pos (by omega)) (by rw [← hvvs];exact hI) (by rw [← hvvs];exact hH);refine wp_exit (hK16 _ _ ?_);refine aD (fun K37 hK37=>wp_region_lit (aA (aB) ?_));simp only[zz];refine aZ rfl rfl (Bx _ (hB3.nat hdq (by omega) (by omega))) ?_;rintro v w7 hE ⟨A5,c5,rfl,hN5⟩;replace hB1:=hB1.ext hE;replace hX:=hX.trans hE;clear hE;simp only[zz];refine aA (aB) ?_;simp only[zz];refine aZ rfl rfl (Bx _ (hB1.nat hdu (by omega) (by omega))) ?_;rintro v w8 hE ⟨A6,c6,rfl,hN6⟩
       (try replace hN5:=hN5.ext hE);replace hX:=hX.trans hE
       clear hE;simp only[zz];refine aA (aB) ?_;simp only[zz];refine aZ rfl rfl (Xk _ hN6 (Nat.le_trans (pN hdu) (by omega)) hs31) ?_;rintro v w9 hE ⟨A7,c7,rfl,hN7⟩
       (try replace hN5:=hN5.ext hE);replace hX:=hX.trans hE
       clear hE;simp only[zz];refine aA (aC) (aA (aC) ?_);simp only[zz];refine aG (hK37 _ _ ?_);refine wp_ret ?_;try simp only[Exit.inBlock,Exit.then]
       refine kK rfl rfl rfl ?_;try simp only[zD,zE]
       exact ⟨_,rfl,hX,_,_,rfl,by rw [← dq];exact ⟨A5,c5,rfl,hN5⟩,by rw [← dr];simp only[cS] at hN7 ⊢;exact ⟨A7,c7,rfl,hN7⟩⟩
end Go.Proofs.YtfohfflkhpfjeaaGreatDoor
namespace Go.Proofs.YtfohfflkhpfjeaaGreatDoor
open Go.Proofs.Tryz
open Go.RowKit Go.Lith
set_option maxRecDepth 100000
attribute [local irreducible] wpList wpQuiet dW Code.wp
theorem Gw {neg : Bool} {s : ByteArray} (w : World) (hs : s.size ≤ 1000000000000) : eK prog 114 [.agg #[.bool neg,.string s]] w (gU (abE s)):=by
 skip
 refine ⟨adF,?_⟩;have hX:=dI.refl w
 go_enter func114,ntmps114
 refine aD (fun K1 hK1=>wp_region_lit ?_);refine lD (by simp only[zz];rfl) ?_;intro w1 g1 hE hg1 hB1;have hG1:=Nat.le_trans hX.size hg1;replace hX:=hX.trans hE;clear hE hg1;simp only[zz];refine aA (aC) ?_;simp only[zz];refine aG (hK1 _ _ ?_);refine aD (fun K2 hK2=>wp_region_lit (aA (aN (c:=0) gS rfl rF rfl rfl) ?_));simp only[zz];refine aK rfl (hB1.lies1 yR rfl) ?_;simp only[zz];refine aA (qH rfl qW rfl) (aA (aP rfl rfl (aM (by omega) (by omega))) (aA (eX rfl rfl (aM (by omega) (by omega))) ?_));simp only[zz];rw [show ((s.size : Int) + 4 - 1) = ((s.size + 3 : Nat) : Int) by omega];refine aA (gZ rfl rfl (by omega) (lT (n:=4) (by omega))) ?_;simp only[zz];obtain ⟨K,hK⟩ : ∃ K,K = (s.size + 3) / 4:=⟨_,rfl⟩
 rw [← hK];refine jS bD mR rfl rfl rfl (show _ = K by omega) (show _ = K by omega) (by omega) (by omega) (by omega) (by omega) ?_;intro w2 g2 hE hg2 hB2;have hG2:=Nat.le_trans hX.size hg2;have hN2_1 : g2 ≠ g1:=Nat.ne_of_gt (Nat.lt_of_lt_of_le hB1.lt hg2);replace hB1:=hB1.ext hE;replace hX:=hX.trans hE;clear hE hg2;simp only[zz];refine aA (aC) ?_;simp only[zz];refine aG ?_;rw [gF] at hB2;refine hK2 _ _ (aD (fun K3 hK3=>aD (fun K4 hK4=>wp_region_lit (aA (aN (c:=0) gS rfl rF rfl rfl) ?_))));simp only[zz];refine aK rfl (hB1.lies1 yR rfl) ?_;simp only[zz];refine aA (qH rfl qW rfl) (aA (aB) ?_);simp only[zz];refine aG (hK4 _ _ ?_);refine wp_block (bK [16] [4,5,17,18,19,20,21,22,23,24,25,26,27,28,29,30,31,32,33,34,35,36,37,38,39,40,41] (fun n vs wl=>∃ (i : Nat) (os : List Nat),vs = [.int .i64 (i:Int)] ∧ (dI w wl) ∧ (gM wl g1 [.bool neg,.string s] 65) ∧ (gM wl g2 (os.map kW) 126) ∧ (i ≤ s.size) ∧ (os.length = K) ∧ (cY 4294967296 os) ∧ (∀ (j : Nat) (h : j < os.length),256 ^ (s.size - i - 4 * j) ∣ os[j]) ∧ (val 4294967296 os = 256 ^ (s.size - i) * val 256 ((mT s).drop (s.size - i))) ∧ (n = s.size - i)) ?_ ?_)
 ·
  apply Exists.intro;simp only[zQ,zR,zD,zE];exact ⟨0,List.replicate K 0,rfl,hX,hB1,hB2,by omega,by simp,fun x hx=>by rw [List.eq_of_mem_replicate hx];decide,fun j h=>by rw [List.getElem_replicate];exact Nat.dvd_zero _,by rw [fD,Yq (by rw [rM];omega),Nat.mul_zero],rfl⟩
 ·
  intro n vs wr hI u;obtain ⟨i,os,rfl,hX,hB1,hB2,hi,hlo,hd,hdv,hv,hn⟩:=hI;simp only[zu,zF,zG];refine aD (fun K5 hK5=>wp_region_lit (aA (cF rfl rfl) ?_));simp only[zz];refine aG (hK5 _ _ ?_);refine aD (fun K6 hK6=>?_);refine bW rfl (fun hc1=>?_) (fun hc1=>?_)
  ·
   refine wp_skip ?_;refine hK6 _ _ (aD (fun K7 hK7=>wp_block (aD (fun K8 hK8=>wp_region_lit (aA (aB) (aA (aC) ?_))))));simp only[zz];refine aG (hK8 _ _ ?_);refine aD (fun K9 hK9=>wp_region_lit (aA (aN (c:=0) gS rfl rF rfl rfl) ?_));simp only[zz];refine aK rfl (hB1.lies1 yR rfl) ?_;simp only[zz];refine aA (qH rfl qW rfl) (aA (eX rfl rfl (aM (by omega) (by omega))) (aA (aB) ?_));simp only[zz];refine aA (eX rfl rfl (aM (by omega) (by omega))) (aA (aC) ?_);simp only[zz];refine aG ?_;obtain ⟨p,hp⟩ : ∃ p,p + 1 + i = s.size:=⟨s.size - 1 - i,by omega⟩
   rw [show ((s.size : Int) - 1 - (i : Int)) = (p : Int) by omega];refine hK9 _ _ ?_;obtain ⟨b,hb,hpl,hbp⟩:=xH hp;have hco:=hB2.word (show p / 4 < os.length by omega);obtain ⟨f1,f2,f3,f4⟩:=Up (r:=p % 4) (j:=p / 4) hpl (by omega) (by omega) (by omega) hd (Ce s) (by rw [show p + 1 = s.size - i by omega];exact hdv) (by rw [show p + 1 = s.size - i by omega];exact hv);rw [hbp,Ed] at f1 f3 f4;have hb256 : b.toNat < 256:=b.toNat_lt;have f5 : b.toNat * 2 ^ (8 * (p % 4)) < 2 ^ (8 * (p % 4 + 1)):=by
    rw [show 8 * (p % 4 + 1) = 8 + 8 * (p % 4) by omega,Nat.pow_add];exact Nat.mul_lt_mul_of_pos_right hb256 (Nat.pow_pos (by omega))
   obtain ⟨c,f6⟩ : ∃ c,os[p / 4] = 2 ^ (8 * (p % 4 + 1)) * c:=by
    obtain ⟨c,hc⟩:=f2;exact ⟨c,by rw [hc,Ed]⟩
   refine jF 16 aO (by kernel_rfl) ?_;simp only[zy];refine aL (aB) (aL (aB) (aL (gZ rfl rfl (by omega) (lT (n:=4) (by omega))) ?_));simp only[zz];refine aL (aI bD bA rfl rfl (by omega) (by omega) (fJ (show _ = p / 4 by omega))) ?_;simp only[zz];refine jH rfl (fun _ hE'=>(lies1 (hE'.cell hco) fI)) ?_;simp only[zz];refine aL (aN (c:=0) gS rfl rF rfl rfl) ?_;simp only[zz];refine jH rfl (fun _ hE'=>((hB1.ext hE').lies1 yR rfl)) ?_;simp only[zz];refine aL (aB) ?_;simp only[zz];refine aL ((oE qW rfl rfl (by omega) (by rw [Int.toNat_natCast];exact hb))) ?_;simp only[zz];refine aL (kA oJ Hu rfl (fF (by omega) (by omega))) (aL (aB) (aL (dJ rfl rfl (by omega) (lS (n:=4))) ?_));simp only[zz];refine aL (fO rfl rfl ((aM (by omega) (by omega)).trans (show (8 : Int) * ((p % 4 : Nat) : Int) = ((8 * (p % 4) : Nat) : Int) by omega))) (aL (Cc rfl rfl (by omega) (sY (n:=8 * (p % 4)) (by omega) (by omega))) (aL (Md rfl rfl ((Df (s:=8 * (p % 4 + 1)) (a:=b.toNat * 2 ^ (8 * (p % 4))) (b:=os[p / 4]) f5 f6 (by omega)).trans (show (((b.toNat * 2 ^ (8 * (p % 4))) + os[p / 4] : Nat) : Int) = ((os[p / 4] + b.toNat * 2 ^ (8 * (p % 4)) : Nat) : Int) by omega))) ?_));simp only[zz];refine aL (aI bD bA rfl rfl (by omega) (by omega) (fJ (show _ = p / 4 by omega))) ?_;simp only[zz];refine dF ?_;intro w3 hE;replace hB1:=hB1.ext hE;replace hB2:=hB2.ext hE;replace hX:=hX.trans hE;clear hE;refine dA rfl (by simp only[zz];rfl) (by exact bA) hB2 (by simp;omega) (by simp [Value.oneCell']) ?_;clear hB2;intro w4 hC hB2;replace hB1:=hB1.chg hC (by first | exact hN1_2 | exact Ne.symm hN2_1);replace hX:=hX.chg hC hG2;clear hC;rw [gD (by omega)] at hB2;refine aG (hK7 _ _ ?_);refine wp_region_lit (aA (aP rfl rfl (aM (by omega) (by omega))) (aA (aB) ?_));simp only[zz];refine aG ?_;rw [show ((i:Int) + 1) = ((i + 1 : Nat) : Int) by omega];simp only[Exit.inBlock,Exit.then];refine ⟨s.size - (i + 1),_,?_,rfl,?_,?_⟩
   · omega
   · simp only[zz,zv]
   ·
    simp only[zQ,zR,zD,zE];exact ⟨i + 1,os.set (p / 4) (os[p / 4] + b.toNat * 2 ^ (8 * (p % 4))),rfl,hX,hB1,hB2,by omega,by simpa using hlo,hd.set f1,by rw [show s.size - (i + 1) = p by omega];exact f3,by rw [show s.size - (i + 1) = p by omega];exact f4,rfl⟩
  ·
   refine wp_exit ?_;refine hK3 _ _ (aD (fun K10 hK10=>?_));obtain rfl : i = s.size:=by omega
   refine wp_region_lit (aA (aB) ?_);simp only[zz];refine aZ rfl rfl (rU _ (hB2.nat hd (by omega) (by omega))) ?_;rintro v w3 hE rfl;replace hB2:=hB2.ext hE;replace hX:=hX.trans hE;clear hE;simp only[zz];refine aA (aC) ?_;simp only[zz];refine aG (hK10 _ _ ?_);refine wp_ret ?_;try simp only[Exit.inBlock,Exit.then]
   refine bM rfl rfl ?_;try simp only[zD,zE]
   exact ⟨_,rfl,hX,gU.of_trim (hB2.nat hd (n:=K) (by omega) (by omega)) (by rw [hv,Nat.sub_self,Nat.pow_zero,Nat.one_mul,List.drop_zero];rfl)⟩
end Go.Proofs.YtfohfflkhpfjeaaGreatDoor
namespace Go.Proofs.YtfohfflkhpfjeaaGreatDoor
open Go.Proofs.Tryz
open Go.RowKit Go.Lith
attribute [local go_sem] Oper.semAt_some
def sR (n₀ Bs : Nat) (W W' : World) : Prop:=Below n₀ W W' ∧ W'.heap[Bs]? = W.heap[Bs]?
theorem sR.refl (n₀ Bs : Nat) (W : World) : sR n₀ Bs W W:=⟨Below.refl _ _,rfl⟩
theorem sR.trans {n₀ Bs : Nat} {A B C : World} (h : sR n₀ Bs A B) (k : sR n₀ Bs B C) : sR n₀ Bs A C:=⟨h.1.trans k.1,k.2.trans h.2⟩
theorem sR.box {n₀ Bs : Nat} {A B : World} (h : sR n₀ Bs A B) {v : Value} (hc : A.cell? ⟨Bs,0,none⟩ = some v) : B.cell? ⟨Bs,0,none⟩ = some v:=(World.cell?_of_block h.2).trans hc
set_option maxRecDepth 100000 in
theorem aa4 (F : Fence) (n : Nat) (h7 : F.fn 143) (hro : F.round = none) (hn : 1 ≤ n) (l Bs n₀ cap : Nat) (a : Addr) (xs : List Nat) (hreach : xs.length * 8 ≤ 140737488351232) (hb : a.block < n₀) (J Jx : List (Nat × Nat) → World → Prop)
 (hY : ∀ pre x W,J pre W → pre.length < xs.length → YieldAt F (n - 1) prog l #[.int .i64 (x.1 : Int),.int .u64 (x.2 : Int)] W fun e W' =>
  (e = .returned (.bool true) ∧ J (pre ++ [x]) W' ∧ sR n₀ Bs W W') ∨ (e = .returned (.bool false) ∧ Jx (pre ++ [x]) W'))
 (W : World) (hBs : W.cell? ⟨Bs,0,none⟩ = some (.slice (some a) xs.length cap)) (hc : ∀ j (h : j < xs.length),W.cell? (a.add j) = some (.int .u64 (xs[j] : Nat))) (h0 : J [] W) :
 CallsIn F n prog 143 #[.func (.yield l) #[] #[],.pointer (some ⟨Bs,0,none⟩)] W fun e W'=>(∃ v,e = .returned v) ∧
  ((∃ ys : List (Nat × Nat),ys.map Prod.snd = xs.reverse ∧ J ys W') ∨ (∃ pre,True ∧ Jx pre W')):=by
 refine callsIn_of_wp func143 rfl h7 ?_ hro;simp only[ntmps143,List.size_toArray,List.length_cons,List.length_nil,Nat.reduceAdd,Nat.reduceSub,Array.replicate_succ,Array.replicate_zero,List.push_toArray,List.append_toArray,List.nil_append,List.cons_append]
 gi_wp2
 gi_loopw [3] (fun i wr=>∃ (k : Nat) (pre : List (Nat × Nat)),k ≤ xs.length ∧ i = .int .i64 ((k : Int) - 1) ∧ pre.length = xs.length - k ∧ pre.map Prod.snd = (xs.drop k).reverse ∧ J pre wr ∧ sR n₀ Bs W wr)
  (fun i _=>(intOf i + 1).toNat)
 case atStart=>exact ⟨xs.length,[],Nat.le_refl _,rfl,by simp,by simp,h0,sR.refl _ _ _⟩
 case round =>
  obtain ⟨k,pre,hk,rfl,hpl,hpre,hJs,hnx⟩:=hrel;have hBw : wr.cell? ⟨Bs,0,none⟩ = some (.slice (some a) xs.length cap):=hnx.box hBs;by_cases hk0 : 0 < k
  · have hlt : k - 1 < xs.length:=by omega
    have hcx : wr.cell? (a.add (k - 1)) = some (.int .u64 ((xs[k - 1] : Nat) : Int)):=(hnx.1.cell (by rw [oF];exact hb)).trans (hc _ hlt);obtain ⟨fn,tmps,assign,body,hy,hR⟩:=hY pre (k - 1,xs[k - 1]) wr hJs (by omega);dsimp only at hy;obtain ⟨j,rfl⟩ : ∃ j,k = j + 1:=⟨k - 1,by omega⟩
    rw [show (((j + 1 : Nat) : Int) - 1) = (j : Int) by omega];simp only[Nat.add_sub_cancel] at hy hR hcx hlt
    gi_wp2
    refine hR.mono ?_;rintro e W3 (⟨rfl,hJ3,hk3⟩ | ⟨rfl,hJx3⟩)
    · gi_wp2
      go_roundw
      case rel=>exact ⟨j,pre ++ [(j,xs[j])],by omega,by simp,by simp;omega,by rw [List.drop_eq_getElem_cons hlt,List.reverse_cons,List.map_append,hpre];rfl,hJ3,hnx.trans hk3⟩
      case measure=>simp [intOf]
    · gi_wp2
      refine bodyPost_ret (results_none rfl _ _ _) rfl ?_;exact ⟨⟨_,rfl⟩,.inr ⟨_,trivial,hJx3⟩⟩
  · obtain rfl : k = 0:=by omega
    gi_wp2
    go_end0
    exact ⟨⟨_,rfl⟩,.inl ⟨pre,by rw [hpre];rfl,hJs⟩⟩
set_option maxRecDepth 100000 in
theorem Ls (F : Fence) (n : Nat) (h7 : F.fn 143) (hro : F.round = none) (l Bs cap : Nat) (A : Option Addr) (J : List (Nat × Nat) → World → Prop) (W : World) (hBs : W.cell? ⟨Bs,0,none⟩ = some (.slice A 0 cap)) (h0 : J [] W) :
 CallsIn F n prog 143 #[.func (.yield l) #[] #[],.pointer (some ⟨Bs,0,none⟩)] W fun e W'=>(∃ v,e = .returned v) ∧ J [] W':=by
 refine callsIn_of_wp func143 rfl h7 ?_ hro;simp only[ntmps143,List.size_toArray,List.length_cons,List.length_nil,Nat.reduceAdd,Nat.reduceSub,Array.replicate_succ,Array.replicate_zero,List.push_toArray,List.append_toArray,List.nil_append,List.cons_append]
 gi_wp2
 gi_loopw [3] (fun i wr=>i = .int .i64 (-1) ∧ J [] wr) (fun _ _=>0)
 case atStart=>exact ⟨rfl,h0⟩
 case round =>
  obtain ⟨rfl,hJs⟩:=hrel
  gi_wp2
  go_end0
  exact ⟨⟨_,rfl⟩,hJs⟩
theorem acw (F : Fence) (n : Nat) (h5 : F.fn 137) (hro : F.round = none) (a : Option Addr) (len cap : Nat) (w : World) :
 CallsIn F n prog 137 #[.slice a len cap] w fun e w'=>e = .returned (.func (.func 143) #[] #[.pointer (some ⟨w.heap.size,0,none⟩)]) ∧ w' = w.alloc (.cells #[.slice a len cap] 157):=by
 refine callsIn_of_wp func137 rfl h5 ?_ hro;simp only[ntmps137,List.size_toArray,List.length_cons,List.length_nil,Nat.reduceAdd,Nat.reduceSub,Array.replicate_succ,Array.replicate_zero,List.push_toArray,List.append_toArray,List.nil_append,List.cons_append]
 gi_wp2
 go_ret
 exact ⟨rfl,rfl⟩
theorem Sc (F : Fence) (n : Nat) (h7 : F.fn 143) (hro : F.round = none) (hn : 1 ≤ n) (Bs n₀ cap : Nat) (A : Option Addr) (xs : List Nat) (hreach : xs.length * 8 ≤ 140737488351232) (w : World) (hBs : Bs < w.heap.size) (hn₀ : n₀ ≤ w.heap.size)
 (hc : w.cell? ⟨Bs,0,none⟩ = some (.slice A xs.length cap)) (hI : ∀ (i x : Nat),xs[i]? = some x → ∃ a,A = some a ∧ w.cell? (a.add i) = some (.int .u64 (x : Int))) (hA : ∀ a,0 < xs.length → A = some a → a.block < n₀) :
 SeqStopsK F n prog 143 #[.pointer (some ⟨Bs,0,none⟩)] (fun x : Nat × Nat=>#[Value.int .i64 (x.1 : Int),Value.int .u64 (x.2 : Int)]) (sR n₀ Bs) (fun ys=>ys.map Prod.snd = xs.reverse) (fun _=>True) xs.length w:=fun l J Jx W hW _ _ hY h0=>by
 have hc':=(hW.cell (p:=⟨Bs,0,none⟩) hBs).trans hc;rcases Nat.eq_zero_or_pos xs.length with h | h
 · obtain rfl : xs = []:=List.eq_nil_of_length_eq_zero h
   exact (Ls F n h7 hro l Bs cap A J W hc' h0).mono fun e W' ⟨he,hj⟩=>⟨he,.inl ⟨[],rfl,hj⟩⟩
 · obtain ⟨a,rfl,_⟩:=hI 0 xs[0] (List.getElem?_eq_getElem h)
   refine aa4 F n h7 hro hn l Bs n₀ cap a xs hreach (hA a h rfl) J Jx hY W hc' (fun j hj=>?_) h0;obtain ⟨a',e,hcl⟩:=hI j xs[j] (List.getElem?_eq_getElem hj);cases e;exact (hW.cell (by rw [oF];exact Nat.lt_of_lt_of_le (hA a h rfl) hn₀)).trans hcl
theorem aes {A : Option Addr} {n cap : Nat} (w : World) : eK prog 137 [.slice A n cap] w (fun v w'=>∃ g,v = .func (.func 143) #[] #[.pointer (some ⟨g,0,none⟩)] ∧ w.heap.size ≤ g ∧ gM w' g [.slice A n cap] 157):=by
 refine ⟨adX,(callsIn_wide (n:=2)).1 ((acw Fence.wide 2 trivial rfl A n cap w).mono ?_)⟩;rintro e w' ⟨rfl,rfl⟩;exact ⟨_,rfl,(dI.refl w).alloc _,_,rfl,Nat.le_refl _,jD w _ _⟩
end Go.Proofs.YtfohfflkhpfjeaaGreatDoor
namespace Go.Proofs.YtfohfflkhpfjeaaGreatDoor
open Go.Proofs.Tryz
open Go.RowKit Go.Lith
set_option maxRecDepth 100000
attribute [local irreducible] wpList wpQuiet dW Code.wp
attribute [local go_sem] Oper.semAt_some
theorem acx : (prog.info? 5).map (fun i=>(i.zero,i.size,i.bytes)) = some (some (.int .u8 0),1,1):=by kernel_rfl
theorem Gx {W w1 : World} {tmp : Obj} {v v' : Value} {base size k g g3 : Nat} {e t : TypeId} {xs cs : List Value} (hB : gM W g cs t) (hte : t ≠ e) (hr : W.ownsRow base e size v k xs) (hg : (W.alloc tmp).grownBy w1 v.ownBlock) (hne : g ≠ g3) : (w1.setCell ⟨g3,0,none⟩ v').heap[g]? = W.heap[g]?:=by
 have h1 : some g ≠ v.ownBlock:=by
  rcases hr.2 with ⟨rfl,_⟩ | ⟨g',cap,cur,rfl,_,hgb,_⟩
  · simp [Value.ownBlock]
  ·
   intro h;obtain rfl : g = g':=by simpa [Value.ownBlock] using h
   rw [hB] at hgb;cases hgb;exact hte rfl
 exact ((Below.heap_setCell w1 ⟨g3,0,none⟩ v' g hne).trans (hg.block g (by simp;have:=hB.lt;omega) h1)).trans (Below.heap_alloc W tmp g hB.lt)
theorem vU {A : Option Addr} {xs : List Nat} {na cap : Nat} {neg : Bool} (w : World) (hS : dP w A na cap xs) (hl : xs.length ≤ 100000000000) : eK prog 119 [.slice A na cap,.bool neg] w (fun v _=>v = W (Hl neg (val 4294967296 xs))):=by
 skip
 refine ⟨adK,?_⟩;have hX:=dI.refl w;obtain rfl:=hS.eq;have hlt:=jJ xs;have hle:=hS.le;refine (callsIn_wide (n:=4)).1 (callsIn_of_wp_marks func119 rfl trivial ?_ rfl);simp only[ntmps119,List.size_toArray,List.length_cons,List.length_nil,Nat.reduceAdd,Nat.reduceSub,Array.replicate_succ,Array.replicate_zero,List.push_toArray,List.append_toArray,List.nil_append,List.cons_append];refine wpIn_wide.2 (aD (fun K1 hK1=>wp_region_lit ?_));refine kD fH rfl ?_;intro w1 g1 hE hg1 hB1;have hG1:=Nat.le_trans hX.size hg1;replace hX:=hX.trans hE;clear hE hg1;simp only[zz];refine aG (hK1 _ _ ?_);refine aD (fun K2 hK2=>wp_region_lit (aA (aB) ?_));simp only[zz];refine aZ rfl rfl (rU _ (hS.ext hX)) ?_;rintro v w2 hE rfl;replace hB1:=hB1.ext hE;replace hX:=hX.trans hE;clear hE;simp only[zz];refine aA (aC) ?_;simp only[zz];refine aG ?_;obtain ⟨ys,hys⟩ : ∃ ys,ys = trim xs:=⟨_,rfl⟩
 rw [← hys] at hlt ⊢;refine hK2 _ _ (aD (fun K3 hK3=>wp_region_lit (aA (aB) (aA (aX rfl bD rfl) (aA (fO rfl rfl (aM (by omega) (by omega))) ?_)))));simp only[zz];refine jS mV Iv rfl rfl rfl (show _ = 0 by omega) (show _ = 4 * ys.length by omega) (by omega) (by omega) (by omega) (by omega) ?_;intro w3 g2 hE hg2 hB2;have hG2:=Nat.le_trans hX.size hg2;have hN2_1 : g2 ≠ g1:=Nat.ne_of_gt (Nat.lt_of_lt_of_le hB1.lt hg2);replace hB1:=hB1.ext hE;replace hX:=hX.trans hE;clear hE hg2;simp only[zz];refine kD aab rfl ?_;intro w4 g3 hE hg3 hB3;have hG3:=Nat.le_trans hX.size hg3;have hN3_1 : g3 ≠ g1:=Nat.ne_of_gt (Nat.lt_of_lt_of_le hB1.lt hg3);have hN3_2 : g3 ≠ g2:=Nat.ne_of_gt (Nat.lt_of_lt_of_le hB2.lt hg3);replace hB1:=hB1.ext hE;replace hB2:=hB2.ext hE;replace hX:=hX.trans hE;clear hE hg3;simp only[zz];refine dA rfl (by simp only[zz];rfl) (by exact Vs) hB3 (by simp) (by simp [Value.oneCell']) ?_;clear hB3;intro w5 hC hB3;replace hB1:=hB1.chg hC (by first | exact hN1_3 | exact Ne.symm hN3_1);replace hB2:=hB2.chg hC (by first | exact hN2_3 | exact Ne.symm hN3_2);replace hX:=hX.chg hC hG3;clear hC;simp only[zy,zx,bE,Nat.reduceAdd] at hB3;refine aG (hK3 _ _ ?_);refine aD (fun K4 hK4=>aD (fun K5 hK5=>wp_region_lit (aA (aB) ?_)));simp only[zz];refine aZ rfl rfl (aes _) ?_;rintro v w6 hE ⟨g4,rfl,hg4,hB4⟩;have hG4:=Nat.le_trans hX.size hg4;have hN4_1 : g4 ≠ g1:=Nat.ne_of_gt (Nat.lt_of_lt_of_le hB1.lt hg4);have hN4_2 : g4 ≠ g2:=Nat.ne_of_gt (Nat.lt_of_lt_of_le hB2.lt hg4);have hN4_3 : g4 ≠ g3:=Nat.ne_of_gt (Nat.lt_of_lt_of_le hB3.lt hg4);replace hB1:=hB1.ext hE;replace hB2:=hB2.ext hE;replace hB3:=hB3.ext hE;replace hX:=hX.trans hE;clear hE hg4;simp only[zz];refine aG (hK5 _ _ ?_);refine wp_block ((wpIn_wide (n:=4)).1 ?_);have hbase : w.heap.size ≤ w6.heap.size:=hX.size;obtain ⟨n0,hn0⟩ : ∃ n0,n0 = w.heap.size:=⟨_,rfl⟩
 have hT : dP w6 A ys.length cap ys:=(((hS.ext hX).take (trim xs).length).as (iA xs).symm |> fun h=>by rw [← iA,← hys] at h;exact h)
 have hA : ∀ a,0 < ys.length → A = some a → a.block < w.heap.size:=fun a h0 e=>by
  obtain ⟨a',e',hc⟩:=hS.row 0 (xs[0]'(by omega)) (List.getElem?_eq_getElem (by omega));rw [e] at e';cases e';have:=World.block_lt_of_cell? _ _ hc;rwa [oF] at this
 refine wpIn_rangeFunc_ownG (F:=Fence.wide) rfl (by omega) (gf:=143) (lb:=#[.pointer (some ⟨g4,0,none⟩)]) rfl trivial (enters_of func143 (by kernel_rfl) rfl)
  (Sc Fence.wide 3 trivial rfl (by omega) g4 w.heap.size cap A ys (by omega) w6 hB4.lt hX.size (hB4.cell rfl) hT.row hA) sR.trans (fun W l o o' hl ho _ _=>⟨belowK_b (w:=w6) hX.size W l o o' hl ho ‹_› ‹_›,World.putObj_heap_other (by have:=hB4.lt;omega)⟩) (Below.refl _ _) (fun _=>rfl)
  (fun pre W=>((∃ v,Boxed W g3 131 v ∧ W.ownsRow w.heap.size 5 1 v (Mr pre).length ((Mr pre).map u8v) ∧ True) ∧ gM W g1 [.bool false,.string ⟨#[]⟩] 65 ∧ gM W g4 [.slice A ys.length cap] 157) ∧ Below w.heap.size w W)
  (fun _ _ _=>False)
  (OwnFrom.and (OwnFrom.and (Own.from (holdsRow_own w.heap.size g3 131 5 1 (fun pre=>(Mr pre).length) (fun pre=>(Mr pre).map u8v) (fun _ _=>True)) _) (Own.from (fun s X Y row hs hg hr=>⟨(grownBy_keeps_cells hg hr hs.1 rfl).trans hs.1,(grownBy_keeps_cells hg hr hs.2 rfl).trans hs.2⟩) _)) (ownFrom_below (Nat.le_refl _) hX.size))
  (fun _ _ _ _ _ hs _ _=>hs)
  ⟨⟨⟨_,hB3,⟨rfl,.inr ⟨g2,4 * ys.length,_,rfl,hG2,hB2,Nat.zero_le _,by show _ ≤ 9223372036854775807;omega,by simp,by simp [Mr]⟩⟩,trivial⟩,hB1,hB4⟩,hX⟩
  (fun x=>{ tmps:=#[.slice A ys.length cap,.bool neg,undef,undef,.pointer (some ⟨g1,0,none⟩),.pointer (some ⟨g3,0,none⟩),undef,.int .u64 (x.2 : Int),undef,.slice A xs.length cap,.slice A ys.length cap,.slice A ys.length cap,.int .i64 (ys.length : Int),.int .i64 (4 * (ys.length : Int)),.slice (some ⟨g2,0,none⟩) 0 (4 * ys.length),.slice A ys.length cap,.func (.func 143) #[] #[.pointer (some ⟨g4,0,none⟩)],.int .i64 (x.1 : Int),.int .u64 (x.2 : Int),undef,undef,undef,undef,undef,undef,undef,undef,undef,undef,undef,undef,undef,undef,undef,undef,undef,undef,undef,undef,undef,undef,undef,undef],defers:=[] }) ?assign ?body ?done ?stop
 case assign =>
  intro l x W K hK;clear hys
  gi_wp2
  exact hK
 case stop =>
  rintro D c pre W _ _ h _;exact h.elim
 case body =>
  rintro l pre x W ⟨⟨⟨v,hv,hrow,_⟩,hB1',hB4'⟩,hB⟩ hlt;have hc:=hv.cell;have hwl : (Mr pre).length ≤ 4 * pre.length:=Nat.le_of_eq (Eg pre);clear hys;obtain ⟨i0,hi,hz0,hz1,hz2⟩:=info_parts acx
  gi_wp2_with (gi_at_builtin;refine wpListIn_append_own _ rfl _ _ 131 rfl w.heap.size 5 i0 (.int .u8 0) 1 1 mV hi hz0 hz1 hz2 rfl (by decide) _ _ _ rfl (hrow.alloc _) ⟨W.heap.size,0,none⟩ 4 4 [.int .u8 ((x.2 : Int) / 16777216 % 256),.int .u8 ((x.2 : Int) / 65536 % 256),.int .u8 ((x.2 : Int) / 256 % 256),.int .u8 ((x.2 : Int) % 256)] rfl rfl ((jD W _ 5).row 0) (by simp [Value.oneCell']) (by show _ ≤ 9223372036854775807;omega) (by omega) (by have:=hB.size;simp;omega) ?_;intro v' w1 hown' hgrow _;obtain ⟨g',cap',rfl⟩:=ownsRow_succ hown';obtain ⟨hv1,hv2,hr2,hk2,hb2⟩:=hv.appended (by decide) hrow hB.size hG3 hown' hgrow;have hc1:=hv1.cell;have hf1:=hv1.frozen)
  have e1:=Gx hB1' (by decide) hrow hgrow (Ne.symm hN3_1) (v':=.slice (some ⟨g',0,none⟩) ((Mr pre).length + 3 + 1) cap');have e4:=Gx hB4' (by decide) hrow hgrow hN4_3 (v':=.slice (some ⟨g',0,none⟩) ((Mr pre).length + 3 + 1) cap');refine ⟨hk2.from _,⟨hb2,e4⟩,⟨⟨_,hv2,?_,trivial⟩,e1.trans hB1',e4.trans hB4'⟩,hB.trans hb2⟩;rw [Ys,List.length_append,List.map_append];have e : (wb x.2).map u8v = [.int .u8 ((x.2 : Int) / 16777216 % 256),.int .u8 ((x.2 : Int) / 65536 % 256),.int .u8 ((x.2 : Int) / 256 % 256),.int .u8 ((x.2 : Int) % 256)]:=by simp [wb,UInt8.toNat_ofNat']
  rw [e];exact hr2
 rintro D ls W hD hls ⟨⟨⟨v,hv,hrow,_⟩,hB1',_⟩,hX'⟩ hK';replace hD:=Nat.le_trans hX.size hD;clear hB1 hB2 hB3 hB4 hX hG2 hG4 hN2_1 hN3_2 hN4_1 hN4_2 hN4_3 hbase hT;have hB1:=hB1';have hB3 : gM W g3 [v] 131:=hv;have hX : dI w W:=hX';have hK : Yr W D:=⟨hK'⟩
 have hDg1:=hK.ne hB1;have hlb : (Mr ls).length ≤ 1000000000000000:=by
  have:=congrArg List.length hls;rw [List.length_map,List.length_reverse] at this;rw [Eg];omega
 have hbs : lX (iR (Mr ls)) = nM (Hl neg (val 4294967296 xs)):=by
  have e : Mr ls = ys.reverse.flatMap wb:=by rw [← hls,List.flatMap_map];rfl
  have hd : cY 4294967296 ys:=by rw [hys];exact hS.digs.trim
  rw [e,Qi hd neg,hys,jT]
 dsimp only;refine hK4 _ _ (aD (fun K6 hK6=>wp_region_lit ?_));refine aK rfl (hB3.lies1 abV rfl) ?_;simp only[zz];refine fS (Ef mV Hu qW rfl hrow) ?_;simp only[zz];refine vW rfl rfl (Sb hlb) ?_;intro w7 hE;replace hB1:=hB1.ext hE;(try replace hK:=hK.ext hE);replace hX:=hX.trans hE;clear hE;simp only[zz];refine aA (aC) ?_;simp only[zz];refine aG ?_;rw [hbs];refine hK6 _ _ (aD (fun K7 hK7=>?_));cases neg
 ·
  refine wp_region_lit (aA (aB) (aA (aB) ?_));simp only[zz];refine cD rfl ?_;simp only[zz];refine cD rfl ?_;simp only[zz];refine aA (eG rfl) (aA (aB) (aA (qN rfl rfl) ?_));simp only[zz];refine dA rfl (by simp only[zz];rfl) (by exact aT) hB1 (by simp) (by simp [Value.oneCell']) ?_;clear hB1;intro w8 hC hB1
  (try replace hK:=hK.chg hC (by first | assumption | rfl));replace hX:=hX.chg hC hG1
  clear hC;simp only[zy,zx,bE,Nat.reduceAdd] at hB1;refine aG (hK7 _ _ ?_);refine wp_ret ?_;try simp only[Exit.inBlock,Exit.then]
  refine aeP hK ?_;replace hB1:=hB1.putD hK (o:=.deferred none);replace hX:=hX.putD hD (o:=.deferred none);refine bM rfl ⟨_,rfl,(hB1.lies bZ aT rfl rfl)⟩ ?_;try simp only[zD,zE]
  exact ⟨_,rfl,hX,by simp [Lith.W,Kq,Eh]⟩
 ·
  refine wp_region_lit (aA (aB) (aA (aB) ?_));simp only[zz];refine aR rfl (aA (aB) ?_);simp only[zz];refine aR rfl (aA (adh qW rfl rfl) (aA (cB rfl) (aA (aB) ?_)));simp only[zz];refine aA (qN rfl rfl) ?_;simp only[zz];refine dA rfl (by simp only[zz];rfl) (by exact aT) hB1 (by simp) (by simp [Value.oneCell']) ?_;clear hB1;intro w8 hC hB1
  (try replace hK:=hK.chg hC (by first | assumption | rfl));replace hX:=hX.chg hC hG1
  clear hC;simp only[zy,zx,bE,Nat.reduceAdd] at hB1;refine aG (hK7 _ _ ?_);refine wp_ret ?_;try simp only[Exit.inBlock,Exit.then]
  refine aeP hK ?_;replace hB1:=hB1.putD hK (o:=.deferred none);replace hX:=hX.putD hD (o:=.deferred none);refine bM rfl ⟨_,rfl,(hB1.lies bZ aT rfl rfl)⟩ ?_;try simp only[zD,zE]
  exact ⟨_,rfl,hX,by simp [Lith.W,Kq,Eh]⟩
end Go.Proofs.YtfohfflkhpfjeaaGreatDoor
namespace Go.Proofs.YtfohfflkhpfjeaaGreatDoor
open Go.Proofs.Tryz
open Go.RowKit Go.Lith
set_option maxRecDepth 100000
attribute [local irreducible] wpList wpQuiet dW Code.wp
theorem agF {a : Int} (ha : Bd 1000000 a) : iT prog 96 [W a] (W (-a)):=by
 intro w;refine ⟨agn,?_⟩;have hX:=dI.refl w
 go_enter func96,ntmps96
 refine aD (fun K1 hK1=>wp_region_lit ?_);refine lD (by simp only[zz];rfl) ?_;intro w1 g1 hE hg1 hB1;have hG1:=Nat.le_trans hX.size hg1;replace hX:=hX.trans hE;clear hE hg1;simp only[zz];refine kD fH rfl ?_;intro w2 g2 hE hg2 hB2;have hG2:=Nat.le_trans hX.size hg2;have hN2_1 : g2 ≠ g1:=Nat.ne_of_gt (Nat.lt_of_lt_of_le hB1.lt hg2);replace hB1:=hB1.ext hE;replace hX:=hX.trans hE;clear hE hg2;simp only[zz];refine aG (hK1 _ _ ?_);refine aD (fun K2 hK2=>?_);refine eM [(2,true),(0,true),(3,true),(4,true),(1,false),(5,false),(6,false)] aO (by kernel_rfl) (dV (fun _ _ _ _ _ h=>h)) (ol:=?_) ?hol ?_
 case hol=>simp only[zw,zQ,zR];try rfl
 intro w3 hE;replace hB1:=hB1.ext hE;replace hB2:=hB2.ext hE;replace hX:=hX.trans hE;clear hE;refine ⟨_,(mA.blk hB1 mA.nil),?_⟩;refine bH (aN (c:=0) gS rfl fM rfl rfl) ?_;simp only[zz];refine dQ rfl (fun _ ⟨hB1,_⟩=>(hB1.lies bZ aT rfl rfl)) ?_;simp only[zz];refine dQ rfl (fun _ ⟨hB1,_⟩=>(hB1.lies1 jV rfl)) ?_;simp only[zz];refine bH (eZ rfl) ?_;simp only[zz];refine cZ (aZ rfl rfl (Gw _ (gY ha)) ?_);rintro v w4 hE ⟨A1,c1,rfl,hN1⟩;replace hB1:=hB1.ext hE;replace hB2:=hB2.ext hE;replace hX:=hX.trans hE;clear hE;rw [gN] at hN1 ⊢;simp only[zz];refine aG (⟨⟨hB1,trivial⟩,?_⟩);refine cZ (aZ rfl rfl (vU _ hN1 (Nat.le_trans (uQ ha) (by decide))) ?_);rintro v w5 hE rfl;replace hB1:=hB1.ext hE;replace hB2:=hB2.ext hE;replace hX:=hX.trans hE;clear hE;simp only[cS];simp only[zz];refine aG (⟨⟨hB1,trivial⟩,?_⟩);refine cZ ?_;refine dA rfl (by simp only[zz];rfl) (by exact aT) hB2 (by simp) (by simp [Value.oneCell']) ?_;clear hB2;intro w6 hC hB2;replace hB1:=hB1.chg hC (by first | exact hN1_2 | exact Ne.symm hN2_1);replace hX:=hX.chg hC hG2;clear hC;simp only[zy,zx,bE,Nat.reduceAdd] at hB2;refine aG (⟨⟨hB1,trivial⟩,?_⟩);refine eC ?_;rw [Sl] at hB2;refine hK2 _ _ (wp_ret ?_);try simp only[Exit.inBlock,Exit.then]
 refine bM rfl ⟨_,rfl,(hB2.lies bZ aT rfl rfl)⟩ ?_;try simp only[zD,zE]
 exact ⟨_,rfl,hX,rfl⟩
theorem Pj {a b : Int} (ha : Bd 1000000 a) (hb : Bd 1000000 b) : iT prog 79 [W a,W b] (W (a + b)):=by
 intro w;refine ⟨af5,?_⟩;have hX:=dI.refl w;have hla:=uQ ha;have hlb:=uQ hb;have hls:=uQ (Bd.add ha hb)
 go_enter func79,ntmps79
 refine aD (fun K1 hK1=>wp_region_lit ?_);refine lD (by simp only[zz];rfl) ?_;intro w1 g1 hE hg1 hB1;have hG1:=Nat.le_trans hX.size hg1;replace hX:=hX.trans hE;clear hE hg1;simp only[zz];refine lD (by simp only[zz];rfl) ?_;intro w2 g2 hE hg2 hB2;have hG2:=Nat.le_trans hX.size hg2;have hN2_1 : g2 ≠ g1:=Nat.ne_of_gt (Nat.lt_of_lt_of_le hB1.lt hg2);replace hB1:=hB1.ext hE;replace hX:=hX.trans hE;clear hE hg2;simp only[zz];refine kD fH rfl ?_;intro w3 g3 hE hg3 hB3;have hG3:=Nat.le_trans hX.size hg3;have hN3_1 : g3 ≠ g1:=Nat.ne_of_gt (Nat.lt_of_lt_of_le hB1.lt hg3);have hN3_2 : g3 ≠ g2:=Nat.ne_of_gt (Nat.lt_of_lt_of_le hB2.lt hg3);replace hB1:=hB1.ext hE;replace hB2:=hB2.ext hE;replace hX:=hX.trans hE;clear hE hg3;simp only[zz];refine aG (hK1 _ _ ?_);refine aD (fun K2 hK2=>?_);refine eM [(0,true),(2,true),(1,false),(3,false),(4,true),(5,true)] aO (by kernel_rfl) (dV (fun _ _ _ _ _ h=>h)) (ol:=?_) ?hol ?_
 case hol=>simp only[zw,zQ,zR];try rfl
 intro w4 hE;replace hB1:=hB1.ext hE;replace hB2:=hB2.ext hE;replace hB3:=hB3.ext hE;replace hX:=hX.trans hE;clear hE;refine ⟨_,(mA.blk hB1 (mA.blk hB2 mA.nil)),?_⟩;refine dQ rfl (fun _ ⟨hB1,hB2,_⟩=>(hB1.lies bZ aT rfl rfl)) ?_;simp only[zz];refine dQ rfl (fun _ ⟨hB1,hB2,_⟩=>(hB2.lies bZ aT rfl rfl)) ?_;simp only[zz];refine cZ (aZ rfl rfl (Gw _ (gY ha)) ?_);rintro v w5 hE ⟨A1,c1,rfl,hN1⟩;replace hB1:=hB1.ext hE;replace hB2:=hB2.ext hE;replace hB3:=hB3.ext hE;replace hX:=hX.trans hE;clear hE;rw [gN] at hN1 ⊢;simp only[zz];refine aG (⟨⟨hB1,hB2,trivial⟩,?_⟩);refine cZ (aZ rfl rfl (Gw _ (gY hb)) ?_);rintro v w6 hE ⟨A2,c2,rfl,hN2⟩;replace hB1:=hB1.ext hE;replace hB2:=hB2.ext hE;replace hB3:=hB3.ext hE;(try replace hN1:=hN1.ext hE);replace hX:=hX.trans hE;clear hE;rw [gN] at hN2 ⊢;simp only[zz];refine aG (⟨⟨hB1,hB2,trivial⟩,?_⟩);refine bH (aC) (bH (aC) ?_);simp only[zz];refine eC (hK2 _ _ ?_);refine aD (fun K3 hK3=>wp_block (aD (fun K4 hK4=>wp_region_lit (aA (aN (c:=0) gS rfl fM rfl rfl) ?_))));simp only[zz];refine aK rfl (hB1.lies1 jV rfl) ?_;simp only[zz];refine aA (aN (c:=0) gS rfl fM rfl rfl) ?_;simp only[zz];refine aK rfl (hB2.lies1 jV rfl) ?_;simp only[zz];refine aA (Kp Cx rfl rfl) (aA (aC) ?_);simp only[zz];refine aG (hK4 _ _ ?_);refine bW rfl (fun hc1=>?_) (fun hc1=>?_)
 ·
  refine aD (fun K5 hK5=>?_);refine eM [(0,true),(1,true),(3,true),(4,true),(2,false),(5,false),(6,false)] aO (by kernel_rfl) (dV (fun _ _ _ _ _ h=>h)) (ol:=?_) ?hol ?_
  case hol=>simp only[zw,zQ,zR];try rfl
  intro w7 hE;replace hB1:=hB1.ext hE;replace hB3:=hB3.ext hE;(try replace hN1:=hN1.ext hE);(try replace hN2:=hN2.ext hE);replace hX:=hX.trans hE;clear hE;refine ⟨_,(mA.blk hB1 mA.nil),?_⟩;refine bH (aB) (bH (aB) (bH (aN (c:=0) gS rfl fM rfl rfl) ?_));simp only[zz];refine dQ rfl (fun _ ⟨hB1,_⟩=>(hB1.lies1 jV rfl)) ?_;simp only[zz];refine cZ (aZ rfl rfl (ac3 _ hN1 hN2 (Nat.le_trans hla (by decide)) (Nat.le_trans hlb (by decide))) ?_);rintro v w8 hE ⟨A3,c3,rfl,hN3⟩;replace hB1:=hB1.ext hE;replace hB3:=hB3.ext hE;replace hX:=hX.trans hE;clear hE;simp only[zz];refine aG (⟨⟨hB1,trivial⟩,?_⟩);refine cZ ?_;simp only[cS] at hN3 ⊢;have hl3 : (digs 4294967296 (a.natAbs + b.natAbs)).length ≤ 100000000000:=Nat.le_trans (Uv ha hb) (by decide);refine aZ rfl rfl (vU _ hN3 hl3) ?_;rintro v w9 hE rfl;replace hB1:=hB1.ext hE;replace hB3:=hB3.ext hE;replace hX:=hX.trans hE;clear hE;simp only[cS];simp only[zz];refine aG (⟨⟨hB1,trivial⟩,?_⟩);refine cZ ?_;refine dA rfl (by simp only[zz];rfl) (by exact aT) hB3 (by simp) (by simp [Value.oneCell']) ?_;clear hB3;intro w10 hC hB3;replace hB1:=hB1.chg hC (by first | exact hN1_3 | exact Ne.symm hN3_1);replace hX:=hX.chg hC hG3;clear hC;simp only[zy,zx,bE,Nat.reduceAdd] at hB3;refine aG (⟨⟨hB1,trivial⟩,?_⟩);refine eC ?_;rw [Sn hc1] at hB3;refine hK5 _ _ (wp_ret ?_);try simp only[Exit.inBlock,Exit.then]
  refine bM rfl ⟨_,rfl,(hB3.lies bZ aT rfl rfl)⟩ ?_;try simp only[zD,zE]
  exact ⟨_,rfl,hX,rfl⟩
 ·
  refine aD (fun K6 hK6=>wp_region_lit (aA (aB) (aA (aB) ?_)));simp only[zz];refine aZ rfl rfl (Tl _ hN1 hN2 (gH _) (gH _)) ?_;rintro v w7 hE rfl;replace hB1:=hB1.ext hE;replace hB2:=hB2.ext hE;replace hB3:=hB3.ext hE;(try replace hN1:=hN1.ext hE);(try replace hN2:=hN2.ext hE);replace hX:=hX.trans hE;clear hE;simp only[cS];simp only[zz];refine aA (cF rfl rfl) (aA (aC) ?_);simp only[zz];refine aG (hK6 _ _ ?_);refine bW rfl (fun hc2=>?_) (fun hc2=>?_)
  ·
   have hlt:=sZ.1 hc2;refine aD (fun K7 hK7=>?_);refine eM [(0,true),(1,true),(3,true),(4,true),(2,false),(5,false),(6,false)] aO (by kernel_rfl) (dV (fun _ _ _ _ _ h=>h)) (ol:=?_) ?hol ?_
   case hol=>simp only[zw,zQ,zR];try rfl
   intro w8 hE;replace hB2:=hB2.ext hE;replace hB3:=hB3.ext hE;(try replace hN1:=hN1.ext hE);(try replace hN2:=hN2.ext hE);replace hX:=hX.trans hE;clear hE;refine ⟨_,(mA.blk hB2 mA.nil),?_⟩;refine bH (aB) (bH (aB) (bH (aN (c:=0) gS rfl fM rfl rfl) ?_));simp only[zz];refine dQ rfl (fun _ ⟨hB2,_⟩=>(hB2.lies1 jV rfl)) ?_;simp only[zz];refine cZ ?_;refine aZ rfl rfl (aa1 _ hN2 hN1 (Ej (Nat.le_of_lt hlt)) (by simp only[cS];omega) (Nat.le_trans hlb (by decide))) ?_;rintro v w9 hE ⟨⟨A3,c3,rfl,hN3⟩,_⟩;replace hB2:=hB2.ext hE;replace hB3:=hB3.ext hE;replace hX:=hX.trans hE;clear hE;simp only[cS] at hN3 ⊢;have hl3:=Ej (Nat.sub_le b.natAbs a.natAbs);simp only[zz];refine aG (⟨⟨hB2,trivial⟩,?_⟩);refine cZ (aZ rfl rfl (vU _ hN3 (Nat.le_trans hl3 (Nat.le_trans hlb (by decide)))) ?_);rintro v w10 hE rfl;replace hB2:=hB2.ext hE;replace hB3:=hB3.ext hE;replace hX:=hX.trans hE;clear hE;simp only[cS];simp only[zz];refine aG (⟨⟨hB2,trivial⟩,?_⟩);refine cZ ?_;refine dA rfl (by simp only[zz];rfl) (by exact aT) hB3 (by simp) (by simp [Value.oneCell']) ?_;clear hB3;intro w11 hC hB3;replace hB2:=hB2.chg hC (by first | exact hN2_3 | exact Ne.symm hN3_2);replace hX:=hX.chg hC hG3;clear hC;simp only[zy,zx,bE,Nat.reduceAdd] at hB3;refine aG (⟨⟨hB2,trivial⟩,?_⟩);refine eC ?_;rw [Yt hc1 hlt] at hB3;refine hK7 _ _ (wp_ret ?_);try simp only[Exit.inBlock,Exit.then]
   refine bM rfl ⟨_,rfl,(hB3.lies bZ aT rfl rfl)⟩ ?_;try simp only[zD,zE]
   exact ⟨_,rfl,hX,rfl⟩
  ·
   have hge : b.natAbs ≤ a.natAbs:=Nat.le_of_not_lt fun h=>hc2 (sZ.2 h);refine wp_skip (hK3 _ _ ?_);refine aD (fun K8 hK8=>?_);refine eM [(0,true),(1,true),(3,true),(4,true),(2,false),(5,false),(6,false)] aO (by kernel_rfl) (dV (fun _ _ _ _ _ h=>h)) (ol:=?_) ?hol ?_
   case hol=>simp only[zw,zQ,zR];try rfl
   intro w8 hE;replace hB1:=hB1.ext hE;replace hB3:=hB3.ext hE;(try replace hN1:=hN1.ext hE);(try replace hN2:=hN2.ext hE);replace hX:=hX.trans hE;clear hE;refine ⟨_,(mA.blk hB1 mA.nil),?_⟩;refine bH (aB) (bH (aB) (bH (aN (c:=0) gS rfl fM rfl rfl) ?_));simp only[zz];refine dQ rfl (fun _ ⟨hB1,_⟩=>(hB1.lies1 jV rfl)) ?_;simp only[zz];refine cZ ?_;refine aZ rfl rfl (aa1 _ hN1 hN2 (Ej hge) (by simp only[cS];omega) (Nat.le_trans hla (by decide))) ?_;rintro v w9 hE ⟨⟨A3,c3,rfl,hN3⟩,_⟩;replace hB1:=hB1.ext hE;replace hB3:=hB3.ext hE;replace hX:=hX.trans hE;clear hE;simp only[cS] at hN3 ⊢;have hl3:=Ej (Nat.sub_le a.natAbs b.natAbs);simp only[zz];refine aG (⟨⟨hB1,trivial⟩,?_⟩);refine cZ (aZ rfl rfl (vU _ hN3 (Nat.le_trans hl3 (Nat.le_trans hla (by decide)))) ?_);rintro v w10 hE rfl;replace hB1:=hB1.ext hE;replace hB3:=hB3.ext hE;replace hX:=hX.trans hE;clear hE;simp only[cS];simp only[zz];refine aG (⟨⟨hB1,trivial⟩,?_⟩);refine cZ ?_;refine dA rfl (by simp only[zz];rfl) (by exact aT) hB3 (by simp) (by simp [Value.oneCell']) ?_;clear hB3;intro w11 hC hB3;replace hB1:=hB1.chg hC (by first | exact hN1_3 | exact Ne.symm hN3_1);replace hX:=hX.chg hC hG3;clear hC;simp only[zy,zx,bE,Nat.reduceAdd] at hB3;refine aG (⟨⟨hB1,trivial⟩,?_⟩);refine eC ?_;rw [Yu hc1 hge] at hB3;refine hK8 _ _ (wp_ret ?_);try simp only[Exit.inBlock,Exit.then]
   refine bM rfl ⟨_,rfl,(hB3.lies bZ aT rfl rfl)⟩ ?_;try simp only[zD,zE]
   exact ⟨_,rfl,hX,rfl⟩
end Go.Proofs.YtfohfflkhpfjeaaGreatDoor
namespace Go.Proofs.YtfohfflkhpfjeaaGreatDoor
open Go.Proofs.Tryz
open Go.RowKit Go.Lith
set_option maxRecDepth 100000
attribute [local irreducible] wpList wpQuiet dW Code.wp
theorem aa5 {a b : Int} (ha : Bd 1000000 a) (hb : Bd 1000000 b) : iT prog 54 [W a,W b] (W (a - b)):=by
 intro w;refine ⟨afI,?_⟩;have hX:=dI.refl w
 go_enter func54,ntmps54
 refine aD (fun K1 hK1=>wp_region_lit ?_);refine lD (by simp only[zz];rfl) ?_;intro w1 g1 hE hg1 hB1;have hG1:=Nat.le_trans hX.size hg1;replace hX:=hX.trans hE;clear hE hg1;simp only[zz];refine lD (by simp only[zz];rfl) ?_;intro w2 g2 hE hg2 hB2;have hG2:=Nat.le_trans hX.size hg2;have hN2_1 : g2 ≠ g1:=Nat.ne_of_gt (Nat.lt_of_lt_of_le hB1.lt hg2);replace hB1:=hB1.ext hE;replace hX:=hX.trans hE;clear hE hg2;simp only[zz];refine kD fH rfl ?_;intro w3 g3 hE hg3 hB3;have hG3:=Nat.le_trans hX.size hg3;have hN3_1 : g3 ≠ g1:=Nat.ne_of_gt (Nat.lt_of_lt_of_le hB1.lt hg3);have hN3_2 : g3 ≠ g2:=Nat.ne_of_gt (Nat.lt_of_lt_of_le hB2.lt hg3);replace hB1:=hB1.ext hE;replace hB2:=hB2.ext hE;replace hX:=hX.trans hE;clear hE hg3;simp only[zz];refine aG (hK1 _ _ ?_);refine aD (fun K2 hK2=>?_);refine jF 4 aO (by kernel_rfl) ?_;simp only[zy];refine jH rfl (fun _ hE'=>((hB1.ext hE').lies bZ aT rfl rfl)) ?_;simp only[zz];refine jH rfl (fun _ hE'=>((hB2.ext hE').lies bZ aT rfl rfl)) ?_;simp only[zz];refine Dd rfl rfl (agF hb) ?_;simp only[zz];refine Dd rfl rfl (Pj ha hb.neg) ?_;simp only[zz];refine dF ?_;intro w4 hE;replace hB3:=hB3.ext hE;replace hX:=hX.trans hE;clear hE;refine dA rfl (by simp only[zz];rfl) (by exact aT) hB3 (by simp) (by simp [Value.oneCell']) ?_;clear hB3;intro w5 hC hB3;replace hX:=hX.chg hC hG3;clear hC;simp only[zy,zx,bE,Nat.reduceAdd] at hB3;refine aG ?_;rw [← Int.sub_eq_add_neg] at hB3;refine hK2 _ _ (wp_ret ?_);try simp only[Exit.inBlock,Exit.then]
 refine bM rfl ⟨_,rfl,(hB3.lies bZ aT rfl rfl)⟩ ?_;try simp only[zD,zE]
 exact ⟨_,rfl,hX,rfl⟩
theorem Tp {a b : Int} (ha : Bd 1000000 a) (hb : Bd 1000000 b) : iT prog 78 [W a,W b] (W (a * b)):=by
 intro w;refine ⟨af4,?_⟩;have hX:=dI.refl w;have hla:=uQ ha;have hlb:=uQ hb;have hls:=uQ (Bd.mul ha hb)
 go_enter func78,ntmps78
 refine aD (fun K1 hK1=>wp_region_lit ?_);refine lD (by simp only[zz];rfl) ?_;intro w1 g1 hE hg1 hB1;have hG1:=Nat.le_trans hX.size hg1;replace hX:=hX.trans hE;clear hE hg1;simp only[zz];refine lD (by simp only[zz];rfl) ?_;intro w2 g2 hE hg2 hB2;have hG2:=Nat.le_trans hX.size hg2;have hN2_1 : g2 ≠ g1:=Nat.ne_of_gt (Nat.lt_of_lt_of_le hB1.lt hg2);replace hB1:=hB1.ext hE;replace hX:=hX.trans hE;clear hE hg2;simp only[zz];refine kD fH rfl ?_;intro w3 g3 hE hg3 hB3;have hG3:=Nat.le_trans hX.size hg3;have hN3_1 : g3 ≠ g1:=Nat.ne_of_gt (Nat.lt_of_lt_of_le hB1.lt hg3);have hN3_2 : g3 ≠ g2:=Nat.ne_of_gt (Nat.lt_of_lt_of_le hB2.lt hg3);replace hB1:=hB1.ext hE;replace hB2:=hB2.ext hE;replace hX:=hX.trans hE;clear hE hg3;simp only[zz];refine aG (hK1 _ _ ?_);refine aD (fun K2 hK2=>?_);refine eM [(5,true),(7,true),(0,true),(2,true),(6,true),(8,true),(9,true),(1,false),(3,false),(4,false),(10,false),(11,false)] aO (by kernel_rfl) (dV (fun _ _ _ _ _ h=>h)) (ol:=?_) ?hol ?_
 case hol=>simp only[zw,zQ,zR];try rfl
 intro w4 hE;replace hB1:=hB1.ext hE;replace hB2:=hB2.ext hE;replace hB3:=hB3.ext hE;replace hX:=hX.trans hE;clear hE;refine ⟨_,(mA.blk hB1 (mA.blk hB2 mA.nil)),?_⟩;refine bH (aN (c:=0) gS rfl fM rfl rfl) (bH (aN (c:=0) gS rfl fM rfl rfl) ?_);simp only[zz];refine dQ rfl (fun _ ⟨hB1,hB2,_⟩=>(hB1.lies bZ aT rfl rfl)) ?_;simp only[zz];refine dQ rfl (fun _ ⟨hB1,hB2,_⟩=>(hB2.lies bZ aT rfl rfl)) ?_;simp only[zz];refine dQ rfl (fun _ ⟨hB1,hB2,_⟩=>(hB1.lies1 jV rfl)) ?_;simp only[zz];refine dQ rfl (fun _ ⟨hB1,hB2,_⟩=>(hB2.lies1 jV rfl)) ?_;simp only[zz];refine bH (Yp Cx rfl rfl) ?_;simp only[zz];refine cZ (aZ rfl rfl (Gw _ (gY ha)) ?_);rintro v w5 hE ⟨A1,c1,rfl,hN1⟩;replace hB1:=hB1.ext hE;replace hB2:=hB2.ext hE;replace hB3:=hB3.ext hE;replace hX:=hX.trans hE;clear hE;rw [gN] at hN1 ⊢;simp only[zz];refine aG (⟨⟨hB1,hB2,trivial⟩,?_⟩);refine cZ (aZ rfl rfl (Gw _ (gY hb)) ?_);rintro v w6 hE ⟨A2,c2,rfl,hN2⟩;replace hB1:=hB1.ext hE;replace hB2:=hB2.ext hE;replace hB3:=hB3.ext hE;(try replace hN1:=hN1.ext hE);replace hX:=hX.trans hE;clear hE;rw [gN] at hN2 ⊢;simp only[zz];refine aG (⟨⟨hB1,hB2,trivial⟩,?_⟩);refine cZ (aZ rfl rfl (aa2 _ hN1 hN2 (Nat.le_trans hla (by decide)) (Nat.le_trans hlb (by decide))) ?_);rintro v w7 hE ⟨A3,c3,rfl,hN3⟩;replace hB1:=hB1.ext hE;replace hB2:=hB2.ext hE;replace hB3:=hB3.ext hE;replace hX:=hX.trans hE;clear hE;simp only[cS] at hN3 ⊢;rw [← Int.natAbs_mul] at hN3 ⊢;simp only[zz];refine aG (⟨⟨hB1,hB2,trivial⟩,?_⟩);refine cZ (aZ rfl rfl (vU _ hN3 (Nat.le_trans hls (by decide))) ?_);rintro v w8 hE rfl;replace hB1:=hB1.ext hE;replace hB2:=hB2.ext hE;replace hB3:=hB3.ext hE;replace hX:=hX.trans hE;clear hE;simp only[cS];simp only[zz];refine aG (⟨⟨hB1,hB2,trivial⟩,?_⟩);refine cZ ?_;refine dA rfl (by simp only[zz];rfl) (by exact aT) hB3 (by simp) (by simp [Value.oneCell']) ?_;clear hB3;intro w9 hC hB3;replace hB1:=hB1.chg hC (by first | exact hN1_3 | exact Ne.symm hN3_1);replace hB2:=hB2.chg hC (by first | exact hN2_3 | exact Ne.symm hN3_2);replace hX:=hX.chg hC hG3;clear hC;simp only[zy,zx,bE,Nat.reduceAdd] at hB3;refine aG (⟨⟨hB1,hB2,trivial⟩,?_⟩);refine eC ?_;rw [Int.natAbs_mul,So] at hB3;refine hK2 _ _ (wp_ret ?_);try simp only[Exit.inBlock,Exit.then]
 refine bM rfl ⟨_,rfl,(hB3.lies bZ aT rfl rfl)⟩ ?_;try simp only[zD,zE]
 exact ⟨_,rfl,hX,rfl⟩
theorem xW {n : Int} (h : nH n) : iT prog 80 [.int .i64 n] (W n):=by
 intro w;refine ⟨af6,?_⟩;have hX:=dI.refl w;have hna:=h.natAbs
 go_enter func80,ntmps80
 refine aD (fun K1 hK1=>wp_region_lit ?_);refine kD fH rfl ?_;intro w1 g1 hE hg1 hB1;have hG1:=Nat.le_trans hX.size hg1;replace hX:=hX.trans hE;clear hE hg1;simp only[zz];refine aG (hK1 _ _ ?_);refine aD (fun K2 hK2=>?_);rcases (show n < 0 ∨ 0 ≤ n by omega) with h0 | h0
 ·
  refine wp_region_lit (aA (aB) (aA (kA oJ jM rfl (Sp h h0)) (aA (aC) ?_)));simp only[zz];refine aG (hK2 _ _ ?_);refine aD (fun K3 hK3=>aD (fun K4 hK4=>wp_region_lit (aA (aB) (aA (bY rfl rfl (by omega)) ?_))));simp only[zz];refine aG (hK4 _ _ ?_);refine cG rfl (wp_region_lit (aA (aB) (aA (Si rfl (Ih hna (by omega))) (aA (aC) ?_))));simp only[zz];refine aG (hK3 _ _ ?_);refine aD (fun K5 hK5=>wp_region_lit (aA (aB) (aA (rW rfl rfl (Dg (by omega))) (aA (aB) ?_))));simp only[zz];refine aA (qY rfl rfl (by omega) Px) ?_;simp only[zz];refine Mm bD (z:=.int .u64 0) (by kernel_rfl) rfl (by simp only[zz];rfl) (by rfl) (by simp only[zz];rfl) (by rfl) ?_;intro w2 g2 hE hg2 hB2;have hG2:=Nat.le_trans hX.size hg2;have hN2_1 : g2 ≠ g1:=Nat.ne_of_gt (Nat.lt_of_lt_of_le hB1.lt hg2);replace hB1:=hB1.ext hE;replace hX:=hX.trans hE;clear hE hg2;simp only[zz];refine aA (aB) (aA (bY rfl rfl (by omega)) ?_);simp only[zz];refine aZ rfl rfl (vU _ (hB2.nat (os:=[n.natAbs % 4294967296,n.natAbs / 4294967296]) (Ek (by omega)) rfl (by omega)) (by simp)) ?_;rintro v w3 hE rfl;replace hB1:=hB1.ext hE;replace hX:=hX.trans hE;clear hE;simp only[zz];refine dA rfl (by simp only[zz];rfl) (by exact aT) hB1 (by simp) (by simp [Value.oneCell']) ?_;clear hB1;intro w4 hC hB1;replace hX:=hX.chg hC hG1;clear hC;simp only[zy,zx,bE,Nat.reduceAdd] at hB1;refine aG (hK5 _ _ ?_);refine wp_ret ?_;try simp only[Exit.inBlock,Exit.then]
  refine bM rfl ⟨_,rfl,(hB1.lies bZ aT rfl rfl)⟩ ?_;try simp only[zD,zE]
  exact ⟨_,rfl,hX,by rw [Ii,show true = iO n from (decide_eq_true h0).symm,yL];rfl⟩
 ·
  refine wp_region_lit (aA (aB) (aA (kA oJ jM rfl (Yv h h0)) (aA (aC) ?_)));simp only[zz];refine aG (hK2 _ _ ?_);refine aD (fun K6 hK6=>aD (fun K7 hK7=>wp_region_lit (aA (aB) (aA (eU rfl rfl (by omega)) ?_))));simp only[zz];refine aG (hK7 _ _ ?_);refine gX rfl (wp_skip ?_);refine hK6 _ _ (aD (fun K8 hK8=>wp_region_lit (aA (aB) (aA (rW rfl rfl (Dg (by omega))) (aA (aB) ?_)))));simp only[zz];refine aA (qY rfl rfl (by omega) Px) ?_;simp only[zz];refine Mm bD (z:=.int .u64 0) (by kernel_rfl) rfl (by simp only[zz];rfl) (by rfl) (by simp only[zz];rfl) (by rfl) ?_;intro w2 g2 hE hg2 hB2;have hG2:=Nat.le_trans hX.size hg2;have hN2_1 : g2 ≠ g1:=Nat.ne_of_gt (Nat.lt_of_lt_of_le hB1.lt hg2);replace hB1:=hB1.ext hE;replace hX:=hX.trans hE;clear hE hg2;simp only[zz];refine aA (aB) (aA (eU rfl rfl (by omega)) ?_);simp only[zz];refine aZ rfl rfl (vU _ (hB2.nat (os:=[n.natAbs % 4294967296,n.natAbs / 4294967296]) (Ek (by omega)) rfl (by omega)) (by simp)) ?_;rintro v w3 hE rfl;replace hB1:=hB1.ext hE;replace hX:=hX.trans hE;clear hE;simp only[zz];refine dA rfl (by simp only[zz];rfl) (by exact aT) hB1 (by simp) (by simp [Value.oneCell']) ?_;clear hB1;intro w4 hC hB1;replace hX:=hX.chg hC hG1;clear hC;simp only[zy,zx,bE,Nat.reduceAdd] at hB1;refine aG (hK8 _ _ ?_);refine wp_ret ?_;try simp only[Exit.inBlock,Exit.then]
  refine bM rfl ⟨_,rfl,(hB1.lies bZ aT rfl rfl)⟩ ?_;try simp only[zD,zE]
  exact ⟨_,rfl,hX,by rw [Ii,show false = iO n from (decide_eq_false (by omega)).symm,yL];rfl⟩
end Go.Proofs.YtfohfflkhpfjeaaGreatDoor
namespace Go.Proofs.YtfohfflkhpfjeaaGreatDoor
open Go.Proofs.Tryz
open Go.RowKit Go.Lith
set_option maxRecDepth 100000
attribute [local irreducible] wpList wpQuiet dW Code.wp
theorem Xl {K n R Y M : Nat} (hM : M = 4294967296 ^ (K + 1)) (hRM : R < M) (hy : Y < 4294967296 ^ n) : (digs 4294967296 (R + Y)).length ≤ K + 1 + n + 1:=dU (by omega) (adi (hM ▸ hRM) hy)
theorem aet {a : Int} (ha : Bd 1000000 a) (h0 : 0 ≤ a) : iT prog 77 [W a] (.tuple #[W (eL a.natAbs : Int),.bool true]):=by
 intro w;refine ⟨af3,?_⟩;have hX:=dI.refl w;have hla:=uQ ha;obtain ⟨X,hXa⟩ : ∃ X,X = a.natAbs:=⟨_,rfl⟩
 obtain ⟨K,hK⟩ : ∃ K,K = ((digs 4294967296 X).length + 1) / 2:=⟨_,rfl⟩
 rw [← hXa] at hla;obtain ⟨M,hM⟩ : ∃ M,M = 4294967296 ^ (K + 1):=⟨_,rfl⟩
 have hlen : ∀ V : Nat,V < M → (digs 4294967296 V).length ≤ 1000001:=fun V h=>Nat.le_trans (dU (by omega) (by rw [← hM];exact h)) (by omega);have hXd : X < 4294967296 ^ (digs 4294967296 X).length:=by have:=iH (kL X);rwa [cS] at this
 have hst:=Qj hXd;rw [← hK] at hst;have hMK : 4294967296 ^ K < M:=by rw [hM];exact Nat.pow_lt_pow_right (by omega) (by omega)
 have hp0 : 0 < 4294967296 ^ K:=Nat.pow_pos (by omega);obtain ⟨R0,hR0⟩ : ∃ R0,R0 = 4294967296 ^ K:=⟨_,rfl⟩
 rw [← hR0] at hst hMK hp0;rw [← hXa]
 go_enter func77,ntmps77
 refine aD (fun K1 hK1=>wp_region_lit ?_);refine lD (by simp only[zz];rfl) ?_;intro w1 g1 hE hg1 hB1;have hG1:=Nat.le_trans hX.size hg1;replace hX:=hX.trans hE;clear hE;simp only[zz];refine kD fH rfl ?_;intro w2 g2 hE hg2 hB2;have hG2:=Nat.le_trans hX.size hg2;have hN2_1 : g2 ≠ g1:=Nat.ne_of_gt (Nat.lt_of_lt_of_le hB1.lt hg2);have hL2_1:=Nat.lt_of_lt_of_le hB1.lt hg2;replace hB1:=hB1.ext hE;replace hX:=hX.trans hE;clear hE;simp only[zz];refine aA (aC) ?_;simp only[zz];refine aG (hK1 _ _ ?_);refine aD (fun K2 hK2=>wp_region_lit ?_);refine aK rfl (hB1.lies bZ aT rfl rfl) ?_;simp only[zz];refine aZ rfl rfl (Gw _ (gY ha)) ?_;rintro v w3 hE ⟨A1,c1,rfl,hN1⟩;replace hB1:=hB1.ext hE;replace hB2:=hB2.ext hE;replace hX:=hX.trans hE;clear hE;rw [gN,← hXa] at hN1 ⊢;simp only[zz];refine aA (aC) ?_;simp only[zz];refine aG (hK2 _ _ ?_);refine aD (fun K3 hK3=>aD (fun K4 hK4=>?_));rcases Nat.eq_zero_or_pos X with hX0 | hX0
 ·
  subst hX0;refine wp_region_lit (aA (aB) (aA (aX rfl bD rfl) (aA (gG rfl rfl (by rfl)) ?_)));simp only[zz];refine aG (hK4 _ _ ?_);refine cG rfl (aD (fun K5 hK5=>wp_region_lit (aA (Cl) ?_)));simp only[zz];refine dA rfl (by simp only[zz];rfl) (by exact aT) hB2 (by simp) (by simp [Value.oneCell']) ?_;clear hB2;intro w4 hC hB2;replace hX:=hX.chg hC hG2;clear hC;simp only[zy,zx,bE,Nat.reduceAdd] at hB2;refine aA (aC) ?_;simp only[zz];refine aG (hK5 _ _ ?_);refine wp_ret ?_;try simp only[Exit.inBlock,Exit.then]
  refine kK rfl ⟨_,rfl,(hB2.lies bZ aT rfl rfl)⟩ rfl ?_;try simp only[zD,zE]
  exact ⟨_,rfl,hX,rfl⟩
 ·
  refine wp_region_lit (aA (aB) (aA (aX rfl bD rfl) (aA (Ea rfl rfl (fun e=>by have h1:=(rB (B:=4294967296) (by omega)).1 (List.eq_nil_of_length_eq_zero (show (digs 4294967296 X).length = 0 by omega));omega)) ?_)));simp only[zz];refine aG (hK4 _ _ ?_);refine gX rfl (wp_skip ?_);refine hK3 _ _ (aD (fun K6 hK6=>aD (fun K7 hK7=>wp_region_lit (aA (aN (c:=0) gS rfl fM rfl rfl) ?_))));simp only[zz];refine aK rfl (hB1.lies1 jV rfl) ?_;simp only[zz];refine aG (hK7 _ _ ?_);refine lY rfl (fun hc2=>?_) (fun hc2=>?_)
  ·
   exact absurd (Ax hc2) (by omega)
  ·
   refine wp_skip ?_;refine hK6 _ _ (aD (fun K8 hK8=>wp_region_lit (aA (aB) (aA (aX rfl bD rfl) (aA (aP rfl rfl (aM (by omega) (by omega))) ?_)))));simp only[zz];refine aA (gZ rfl rfl (by omega) ((lT (m:=(digs 4294967296 X).length + 1) (n:=2) (by omega)).trans (congrArg (fun q : Nat=>(q : Int)) hK.symm))) ?_;simp only[zz];have hN0:=hN1;have hE0:=dI.refl_of hB1;refine jS bD mR rfl rfl rfl (show _ = K by omega) (show _ = K by omega) (by omega) (by omega) (by omega) (by omega) ?_;intro w4 g3 hE hg3 hB3;have hG3:=Nat.le_trans hX.size hg3;have hN3_1 : g3 ≠ g1:=Nat.ne_of_gt (Nat.lt_of_lt_of_le hB1.lt hg3);have hN3_2 : g3 ≠ g2:=Nat.ne_of_gt (Nat.lt_of_lt_of_le hB2.lt hg3);have hL3_1:=Nat.lt_of_lt_of_le hB1.lt hg3;have hL3_2:=Nat.lt_of_lt_of_le hB2.lt hg3;replace hB1:=hB1.ext hE;replace hB2:=hB2.ext hE;(try replace hE0:=hE0.ext hE);replace hX:=hX.trans hE;clear hE;simp only[zz];refine fN bD (z:=.int .u64 0) (by kernel_rfl) rfl (by simp only[zz];rfl) (by rfl) ?_;intro w5 g4 hE hg4 hB4;have hG4:=Nat.le_trans hX.size hg4;have hN4_1 : g4 ≠ g1:=Nat.ne_of_gt (Nat.lt_of_lt_of_le hB1.lt hg4);have hN4_2 : g4 ≠ g2:=Nat.ne_of_gt (Nat.lt_of_lt_of_le hB2.lt hg4);have hN4_3 : g4 ≠ g3:=Nat.ne_of_gt (Nat.lt_of_lt_of_le hB3.lt hg4);have hL4_1:=Nat.lt_of_lt_of_le hB1.lt hg4;have hL4_2:=Nat.lt_of_lt_of_le hB2.lt hg4;have hL4_3:=Nat.lt_of_lt_of_le hB3.lt hg4;replace hB2:=hB2.ext hE;replace hB3:=hB3.ext hE;(try replace hE0:=hE0.ext hE);replace hX:=hX.trans hE;clear hE;simp only[zz];refine gC rfl bD mR rfl (by decide) rfl (jI.full (base:=g3) hB3 (Nat.le_refl _) (by simp) (by omega)) rfl (news:=[kW 1]) rfl (hB4.row 0) (by simp [Value.oneCell']) (by omega) (by omega) (Nat.le_of_lt hB3.lt) ?_;intro v1 w9 hO hGr _;replace hX:=hX.grown hGr hG3;replace hB2:=hB2.grew hGr hL3_2;replace hN1:=hN0.grew hE0 hGr hg3;obtain ⟨A5,c5,rfl,hN5⟩:=dP.of_owns (xs:=List.replicate K 0 ++ [1]) (by have h:=hO;rw [gF] at h;rw [List.map_append];exact h) (by simp) (by rw [Ik];exact kL _) (by omega);rw [Ik,← hR0] at hN5;have hl5:=hN5.eq;rw [hl5] at hN5 ⊢;clear hB3 hB4;simp only[zz];refine aA (aC) ?_;simp only[zz];refine aG (hK8 _ _ ?_);refine wp_block (bK [5] [3,6,7,8,9,26,27,28,29,30,31,32,33,34,35,36,37,38,39,40,41,42,43,44,45] (fun n vs wl=>∃ (R : Nat) (A5 : Option Addr) (c5 : Nat),vs = [.slice A5 (digs 4294967296 R).length c5] ∧ (dI w wl) ∧ (gM wl g2 [.bool false,.string ⟨#[]⟩] 65) ∧ (dP wl A1 (digs 4294967296 X).length c1 (digs 4294967296 X)) ∧ (dP wl A5 (digs 4294967296 R).length c5 (digs 4294967296 R)) ∧ (0 < R) ∧ (X < (R + 1) * (R + 1)) ∧ (R < M) ∧ (n = R)) ?_ ?_)
   ·
    apply Exists.intro;simp only[zQ,zR,zD,zE];exact ⟨R0,A5,c5,rfl,hX,hB2,hN1,hN5,hp0,hst,hMK,rfl⟩
   ·
    intro n vs wr hI u;obtain ⟨R,A5,c5,rfl,hX,hB2,hN1,hN5,hp1,hRx,hRM,hn⟩:=hI;simp only[zu,zF,zG];refine wp_block (aD (fun K9 hK9=>wp_region_lit (aA (aB) (aA (aB) ?_))));simp only[zz];refine aZ rfl rfl (agE _ hN1 hN5 (gH _) (gH _) (by rw [cS];exact hp1) (by omega) (Nat.le_trans (hlen _ hRM) (by decide))) ?_;rintro v w6 hE ⟨_,_,rfl,⟨A3,c3,rfl,hN3⟩,⟨A4,c4,rfl,hN4⟩⟩;replace hB2:=hB2.ext hE;(try replace hN1:=hN1.ext hE);(try replace hN5:=hN5.ext hE);replace hX:=hX.trans hE;clear hE;simp only[cS] at hN3 hN4 ⊢;have hl3:=Ej (Nat.div_le_self X R);simp only[zz];refine aA (aB) (aA (aY rfl rfl) (aA (aY rfl rfl) ?_));simp only[zz];refine aA (aC) (aA (aC) ?_);simp only[zz];refine aG (hK9 _ _ ?_);refine aD (fun K10 hK10=>wp_region_lit (aA (aB) (aA (aB) ?_)));simp only[zz];refine aZ rfl rfl (ac3 _ hN5 hN3 (Nat.le_trans (hlen _ hRM) (by decide)) (by omega)) ?_;rintro v w7 hE ⟨A6,c6,rfl,hN6⟩;replace hB2:=hB2.ext hE;(try replace hN1:=hN1.ext hE);(try replace hN5:=hN5.ext hE);replace hX:=hX.trans hE;clear hE;simp only[cS] at hN6 ⊢;simp only[zz];have hl6 : (digs 4294967296 (R + X / R)).length ≤ 1099511627776:=by
     have h1:=iH (kL X);rw [cS] at h1;have h2 : X / R ≤ X:=Nat.div_le_self _ _;exact Nat.le_trans (Xl hM hRM (Nat.lt_of_le_of_lt h2 h1)) (by omega)
    refine aZ rfl rfl (Tm (d:=2) _ hN6 hl6 (by omega) (by omega)) ?_;rintro v w8 hE ⟨q,rfl,A7,c7,rfl,hN7⟩;replace hB2:=hB2.ext hE;(try replace hN1:=hN1.ext hE);(try replace hN5:=hN5.ext hE);replace hX:=hX.trans hE;clear hE;simp only[cS] at hN7 ⊢;simp only[zz];refine aA (aB) (aA (aY rfl rfl) (aA (aY rfl rfl) ?_));simp only[zz];refine aA (aC) (aA (aC) ?_);simp only[zz];refine aG (hK10 _ _ ?_);refine aD (fun K11 hK11=>aD (fun K12 hK12=>wp_region_lit (aA (aB) (aA (aB) ?_))));simp only[zz];refine aZ rfl rfl (Tl _ hN7 hN5 (gH _) (gH _)) ?_;rintro v w9 hE rfl;replace hB2:=hB2.ext hE;(try replace hN1:=hN1.ext hE);(try replace hN5:=hN5.ext hE);(try replace hN7:=hN7.ext hE);replace hX:=hX.trans hE;clear hE;simp only[cS];simp only[zz];refine aA (pT rfl rfl) ?_;simp only[zz];refine aG (hK12 _ _ ?_);refine bW rfl (fun hc3=>?_) (fun hc3=>?_)
    ·
     have hge:=tC.1 hc3;have hres:=Ux hp1 hRx hge;refine aD (fun K13 hK13=>wp_region_lit (aA (aB) ?_));simp only[zz];refine aZ rfl rfl (vU _ hN5 (Nat.le_trans (hlen _ hRM) (by decide))) ?_;rintro v w10 hE rfl;replace hB2:=hB2.ext hE;replace hX:=hX.trans hE;clear hE;simp only[cS];simp only[zz];refine dA rfl (by simp only[zz];rfl) (by exact aT) hB2 (by simp) (by simp [Value.oneCell']) ?_;clear hB2;intro w11 hC hB2;replace hX:=hX.chg hC hG2;clear hC;simp only[zy,zx,bE,Nat.reduceAdd] at hB2;refine aA (aC) ?_;simp only[zz];refine aG (hK13 _ _ ?_);refine wp_ret ?_;try simp only[Exit.inBlock,Exit.then]
     refine kK rfl ⟨_,rfl,(hB2.lies bZ aT rfl rfl)⟩ rfl ?_;try simp only[zD,zE]
     exact ⟨_,rfl,hX,by rw [← hres,oG];rfl⟩
    ·
     have hlt : ¬ R ≤ (R + X / R) / 2:=fun h=>hc3 (tC.2 h);refine wp_skip (hK11 _ _ ?_);refine wp_region_lit (aA (aB) (aA (aC) ?_));simp only[zz];refine aG ?_;simp only[Exit.inBlock,Exit.then];refine ⟨(R + X / R) / 2,_,?_,rfl,?_,?_⟩
     · rw [hn];exact Ij hlt
     · simp only[zz,zv]
     ·
      simp only[zQ,zR,zD,zE];exact ⟨(R + X / R) / 2,A7,c7,rfl,hX,hB2,hN1,hN7,Yw hp1 hRx hX0,Uw hp1,Nat.lt_trans (Ij hlt) hRM,rfl⟩
end Go.Proofs.YtfohfflkhpfjeaaGreatDoor
namespace Go.Proofs.YtfohfflkhpfjeaaGreatDoor
open Go.Proofs.Tryz
open Go.RowKit Go.Lith
set_option maxRecDepth 100000
attribute [local irreducible] wpList wpQuiet dW dM dK Code.wp
theorem agG {X k : Nat} (hk : k < (digs 4294967296 X).length) (h2 : (digs 4294967296 X).length ≤ 2) : IntKind.u64.wrap ((BitVec.ofInt IntKind.u64.bits ((val 4294967296 ((digs 4294967296 X).take k) : Nat) : Int) ||| BitVec.ofInt IntKind.u64.bits (((digs 4294967296 X)[k] * 4294967296 ^ k : Nat) : Int)).toNat : Int) = ((val 4294967296 ((digs 4294967296 X).take (k + 1)) : Nat) : Int):=by
 have hd:=kL X;have h1:=iH (fun x hx=>hd x (List.mem_of_mem_take hx) : cY 4294967296 ((digs 4294967296 X).take k));rw [List.length_take,Nat.min_eq_left (by omega)] at h1;rw [ahb h1 (hd _ (List.getElem_mem hk)) (by omega),cK hk,Nat.mul_comm]
theorem acy {X : Nat} (hl : (digs 4294967296 X).length ≤ 2) : X < 18446744073709551616:=by
 have h:=iH (kL X);rw [cS] at h;have h3 : 4294967296 ^ (digs 4294967296 X).length ≤ 4294967296 ^ 2:=Nat.pow_le_pow_right (by omega) hl;omega
theorem aeu {a : Int} (ha : Bd 1000000 a) : iT prog 81 [W a] (.tuple #[.int .i64 (Gr a),.bool (decide (nH a))]):=by
 intro w;refine ⟨af7,?_⟩;have m:=cA.refl w;obtain ⟨X,hXa⟩ : ∃ X,X = a.natAbs:=⟨_,rfl⟩
 go_enter func81,ntmps81
 refine aD fun K1 k1=>wp_region_lit (eD m rfl ?_);clear m;intro g1 u m;refine aA (aC) (aA (aC) (aG (k1 _ _ ?_)));refine aD fun K2 k2=>wp_region_lit ?_;simp only[zz];refine aK rfl ((m.b 0 rfl).full bZ aT) ?_;simp only[zz];refine dY m rfl rfl (Gw _ (gY ha)) ?_;clear m;rintro v u m ⟨A1,c1,rfl,hN1⟩;simp only[zz];rw [gN,← hXa] at hN1;rw [gN,← hXa];have hx1:=m.ext;refine aA (aC) (aG (k2 _ _ ?_));refine aD fun K3 k3=>aD fun K4 k4=>wp_region_lit (aA (aB) (aA (aX rfl bD rfl) (aA (nZ rfl rfl) ?_)));simp only[zz];refine aG (k4 _ _ ?_);refine bW rfl (fun hc1=>?_) (fun hc1=>?_)
 ·
  have hbig : ¬ nH a:=aa0 hXa (by omega);refine aD fun K5 k5=>wp_region_lit (aA (aC) (aA (aC) (aG (k5 _ _ ?_))));refine wp_ret ?_;simp only[zz];try simp only[Exit.inBlock,Exit.then,if_true]
  refine kK rfl rfl rfl ?_;try simp only[zD,zE]
  exact ⟨_,rfl,m.ext,Bt hbig⟩
 ·
  have hl2 : (digs 4294967296 X).length ≤ 2:=by omega
  have hX64:=acy hl2;refine wp_skip (k3 _ _ ?_);refine aD fun K6 k6=>wp_region_lit (aA (aC) (aG (k6 _ _ ?_)));refine aD fun K7 k7=>aD fun K8 k8=>wp_region_lit (aA (aB) (aA (aX rfl bD rfl) (aA (aB) ?_)));simp only[zz];refine aG (k8 _ _ ?_);refine wp_block ?_;try simp only[Nat.zero_add,Nat.reduceAdd,Nat.reduceMul,Int.reduceToNat]
  refine bK [5,15] [6,7,16,17,18,19,20,21,22,23,24,25,26] (fun n vs wl=>∃ (k : Nat),vs = [.int .u64 ((val 4294967296 ((digs 4294967296 X).take k) : Nat) : Int),.int .i64 (k:Int)] ∧ cA w wl [bI g1 [.bool (iO a),.string (nM a)] 65] ∧ (dP wl A1 (digs 4294967296 X).length c1 (digs 4294967296 X)) ∧ (k ≤ (digs 4294967296 X).length) ∧ (n = (digs 4294967296 X).length - k)) ?_ ?_
  ·
   apply Exists.intro;simp only[zQ,zR,zD,zE];exact ⟨0,rfl,m,hN1,Nat.zero_le _,rfl⟩
  ·
   intro n vs wr hI u;clear m;obtain ⟨k,rfl,m,hN1,hk,hn⟩:=hI;simp only[zu,zF,zG];refine aD fun K9 k9=>wp_region_lit (aA (cF rfl rfl) (aG (k9 _ _ ?_)));refine aD fun K10 k10=>?_;simp only[zz];refine bW rfl (fun hc2=>?_) (fun hc2=>?_)
   ·
    have hkl : k < (digs 4294967296 X).length:=by omega
    obtain ⟨p,rfl,hca,hlt⟩:=hN1.get hkl;refine wp_skip (k10 _ _ ?_);refine aD fun K11 k11=>wp_block (aD fun K12 k12=>wp_region_lit (aA (aB) ?_));simp only[zz];refine aA (aI bD bA rfl rfl (by omega) (by omega) (gQ (Int.toNat_natCast _))) ?_;simp only[zz];refine aK rfl (lies1 hca fI) ?_;simp only[zz];refine aA (aC) (aA (aC) (aG (k12 _ _ ?_)));refine wp_region_lit (aA (aB) (aA (aB) ?_));simp only[zz];refine aA (aB) ?_;simp only[zz];refine aA (fO rfl rfl (aM (by omega) (by omega))) ?_;simp only[zz];refine aA (Cc rfl rfl (by omega) (agD hlt (by omega))) (aA (Md rfl rfl (agG hkl hl2)) (aA (aC) (aG (k11 _ _ ?_))));refine wp_region_lit ?_;simp only[zz];refine aA (aP rfl rfl (aM (by omega) (by omega))) (aA (aB) (aG ?_));simp only[zz];simp only[Exit.inBlock,Exit.then];refine ⟨(digs 4294967296 X).length - (k + 1),_,?_,rfl,?_,?_⟩
    · omega
    · simp only[zz,zv]
    ·
     simp only[zQ,zR,zD,zE];exact ⟨k + 1,rfl,m,hN1,by omega,rfl⟩
   ·
    obtain rfl : k = (digs 4294967296 X).length:=by omega
    rw [List.take_length,cS];refine wp_exit (k7 _ _ ?_);refine aD fun K13 k13=>wp_block (aD fun K14 k14=>?_);rcases Js hXa with ⟨h1,h2,h3,h4⟩ | ⟨h1,h2,h3⟩ | ⟨h1,h2,h3⟩ | ⟨h1,h2,h3,h4⟩
    ·
     rw [h1] at m;refine wp_region_lit (aA (aN (c:=0) gS rfl fM rfl rfl) ?_);simp only[zz];refine aK rfl ((m.b 0 rfl).lies1 jV rfl) ?_;simp only[zz];refine aA (aB) (aR rfl (aA (aB) (aR rfl ?_)));simp only[zz];refine aA (Pu rfl rfl (by omega)) (aA (cB rfl) (aA (aC) (aG (k14 _ _ ?_))));refine cG rfl (aD fun K15 k15=>wp_region_lit (aA (aB) ?_));simp only[zz];refine aA (Si rfl rfl) (aA (kA jM oJ rfl (Pg h2)) (aA (aC) (aA (aC) ?_)));simp only[zz];refine aG (k15 _ _ ?_);refine wp_ret ?_;try simp only[Exit.inBlock,Exit.then,if_true]
     refine kK rfl rfl rfl ?_;try simp only[zD,zE]
     exact ⟨_,rfl,m.ext,Du h3 h4.symm⟩
    ·
     rw [h1] at m;refine wp_region_lit (aA (aN (c:=0) gS rfl fM rfl rfl) ?_);simp only[zz];refine aK rfl ((m.b 0 rfl).lies1 jV rfl) ?_;simp only[zz];refine aA (aB) (aR rfl (aA (aB) (aR rfl ?_)));simp only[zz];refine aA (Pv rfl rfl (by omega)) (aA (cB rfl) (aA (aC) (aG (k14 _ _ ?_))));refine gX rfl (aD fun K16 k16=>wp_region_lit (aA (aB) ?_));simp only[zz];refine aA (Ke rfl rfl (by omega)) (aA (aC) (aG (k16 _ _ ?_)));refine cG rfl (aD fun K17 k17=>wp_region_lit (aA (aC) (aA (aC) ?_)));simp only[zz];refine aG (k17 _ _ ?_);refine wp_ret ?_;try simp only[Exit.inBlock,Exit.then,if_true]
     refine kK rfl rfl rfl ?_;try simp only[zD,zE]
     exact ⟨_,rfl,m.ext,Bt h3⟩
    ·
     rw [h1] at m;refine wp_region_lit (aA (aN (c:=0) gS rfl fM rfl rfl) ?_);simp only[zz];refine aK rfl ((m.b 0 rfl).lies1 jV rfl) ?_;simp only[zz];refine aA (aB) (cD rfl (cD rfl (aA (eG rfl) ?_)));simp only[zz];refine aA (aC) (aG (k14 _ _ ?_));refine gX rfl (aD fun K18 k18=>wp_region_lit (aA (aB) ?_));simp only[zz];refine aA (Ke rfl rfl (by omega)) (aA (aC) (aG (k18 _ _ ?_)));refine cG rfl (aD fun K19 k19=>wp_region_lit (aA (aC) (aA (aC) ?_)));simp only[zz];refine aG (k19 _ _ ?_);refine wp_ret ?_;try simp only[Exit.inBlock,Exit.then,if_true]
     refine kK rfl rfl rfl ?_;try simp only[zD,zE]
     exact ⟨_,rfl,m.ext,Bt h3⟩
    ·
     rw [h1] at m;refine wp_region_lit (aA (aN (c:=0) gS rfl fM rfl rfl) ?_);simp only[zz];refine aK rfl ((m.b 0 rfl).lies1 jV rfl) ?_;simp only[zz];refine aA (aB) (cD rfl (cD rfl (aA (eG rfl) ?_)));simp only[zz];refine aA (aC) (aG (k14 _ _ ?_));refine gX rfl (aD fun K20 k20=>wp_region_lit (aA (aB) ?_));simp only[zz];refine aA (Xx rfl rfl (by omega)) (aA (aC) (aG (k20 _ _ ?_)));refine gX rfl (wp_skip (k13 _ _ ?_));refine aD fun K21 k21=>wp_region_lit (aA (aB) (aA (kA jM oJ rfl (aM (by omega) (by omega))) ?_));simp only[zz];refine aA (aC) (aA (aC) (aG (k21 _ _ ?_)));refine wp_ret ?_;simp only[zz];try simp only[Exit.inBlock,Exit.then,if_true]
     refine kK rfl rfl rfl ?_;try simp only[zD,zE]
     exact ⟨_,rfl,m.ext,Du h3 h4.symm⟩
end Go.Proofs.YtfohfflkhpfjeaaGreatDoor
namespace Go.Lith
open Go.RowKit Go.ChangeMaps Go.MapKept
def Jv (is : List It) : It where
 own b:=∃ i ∈ is,i.own b
 P w:=(∀ i ∈ is,i.P w) ∧ is.Pairwise Ap
 lt w b h e:=by obtain ⟨i,hi,ho⟩:=e;exact i.lt w b (h.1 i hi) ho
 st w w' h s k:=⟨fun i hi=>i.st w w' (h.1 i hi) s fun b hb=>k b ⟨i,hi,hb⟩,h.2⟩
section
variable {w0 w : World} {a is : List It}
theorem cA.pack (a : List It) (m : cA w0 w (a ++ is)) : cA w0 w (a ++ [Jv is]):=by
 have h:=List.pairwise_append.1 m.nd;refine ⟨m.ext,fun i hi=>?_,fun i hi b hb=>?_,List.pairwise_append.2 ⟨h.1,List.pairwise_singleton _ _,fun x hx y hy b h1 h2=>?_⟩⟩
 · rcases List.mem_append.1 hi with hi | hi
   · exact m.all i (List.mem_append_left _ hi)
   · obtain rfl:=List.mem_singleton.1 hi
     exact ⟨fun i hi=>m.all i (List.mem_append_right _ hi),h.2.1⟩
 · rcases List.mem_append.1 hi with hi | hi
   · exact m.ge i (List.mem_append_left _ hi) b hb
   · obtain rfl:=List.mem_singleton.1 hi
     obtain ⟨j,hj,hb⟩:=hb;exact m.ge j (List.mem_append_right _ hj) b hb
 · obtain rfl:=List.mem_singleton.1 hy
   obtain ⟨j,hj,hb⟩:=h2;exact h.2.2 x hx j hj b h1 hb
theorem cA.unpack (a : List It) (m : cA w0 w (a ++ [Jv is])) : cA w0 w (a ++ is):=by
 have h:=List.pairwise_append.1 m.nd;have hP : (∀ i ∈ is,i.P w) ∧ is.Pairwise Ap:=m.all _ (List.mem_append_right _ (List.mem_singleton_self _));refine ⟨m.ext,fun i hi=>?_,fun i hi b hb=>?_,List.pairwise_append.2 ⟨h.1,hP.2,fun x hx y hy b h1 h2=>?_⟩⟩
 · rcases List.mem_append.1 hi with hi | hi
   · exact m.all i (List.mem_append_left _ hi)
   · exact hP.1 i hi
 · rcases List.mem_append.1 hi with hi | hi
   · exact m.ge i (List.mem_append_left _ hi) b hb
   · exact m.ge _ (List.mem_append_right _ (List.mem_singleton_self _)) b ⟨i,hi,hb⟩
 · exact h.2.2 x hx _ (List.mem_singleton_self _) b h1 ⟨y,hy,h2⟩
end
def Tq (P : Program) (f : FuncId) (args : List Value) (w : World) (R : Value → World → Prop) : Prop :=
 bC P f ∧ Calls P f args.toArray w fun e w'=>∃ v,e = .returned v ∧ R v w'
section
variable {P : Program} {ds : List Deferred} {l : List Value} {ty : TypeId} {w : World}
variable {ops : Array Oper} {Q : Exit → Act → World → Prop} {rest : List Oper} {d : Nat} {pos : String} {after : Array Edge}
theorem Lu {f : FuncId} {fo : Operand} {xs : Array Operand} {args : List Value} {first cap : Array Value} {a0 : Array TypeId} {R : Value → World → Prop} (hf : ev l fo = .func (.func f) first cap) (hxs : first.toList ++ xs.toList.map (ev l) ++ cap.toList = args) (hc : Tq P f args w R)
 (h : ∀ v u,R v u → wpList P ops Q rest (Fr (l.set d v) ds) u) : wpList P ops Q (Oper.mk (some d) (.call { callee:=.value fo,args:=xs,argTypes:=a0 }) ty pos after none :: rest) (Fr l ds) w:=by
 refine wpList_plain rfl fun K hK=>?_;unfold Oper.wp;rw [iP,mE hc.1 hf hxs _ rfl];refine hc.2.mono ?_;rintro e w' ⟨v,rfl,hR⟩;show K ((Fr l ds).put (some d) v) w'
 rw [jZ];exact hK _ _ (h v w' hR)
end
end Go.Lith
namespace Go.Proofs.YtfohfflkhpfjeaaGreatDoor
open Go.Proofs.Tryz
open Go.RowKit Go.Lith
set_option maxRecDepth 100000
attribute [local irreducible] wpList wpQuiet dW dM dK Code.wp
theorem Sd {fs gs : List T3} {N cap N2 cap2 : Nat} {A A2 : Option Addr} {g1 : Nat} {H R J M : Value} (w : World) (hB1 : gM w g1 [.slice A N cap,.slice A2 N2 cap2,H,R,M,J] 73) (hT : dZ w A N fs) (hT2 : dZ w A2 N2 gs) (hN : N ≤ 10000000) (hN2 : N2 ≤ 10000000) : eK prog 31 [.pointer (some ⟨g1,0,none⟩)] w (fun v _=>v = .int .i64 (if cP true fs ≠ 0 then cP true fs else cP true gs)):=by
 refine ⟨afl,?_⟩;have m:=cA.refl w
 go_enter func31,ntmps31
 refine aD fun K1 k1=>wp_region_lit (aA (aC) (aG (k1 _ _ ?_)));refine aD fun K2 k2=>aD fun K3 k3=>wp_region_lit (aA (aB) (aA (dC rfl) (aA (aN (c:=0) jN rfl jW rfl rfl) ?_)));simp only[zz];refine aK rfl ((hB1.ext m.ext).lies1 oK rfl) ?_;simp only[zz];refine dY m rfl rfl (Af _ (hT.ext m.ext) hN) ?_;clear m;rintro v u m rfl;refine aA (aC) (aG (k3 _ _ ?_));refine aD fun K4 k4=>wp_region_lit (aA (aB) (aA (lK rfl rfl) ?_));simp only[zz];refine aG (k4 _ _ ?_);refine bW rfl (fun hc1=>?_) (fun hc1=>?_)
 ·
  refine aD fun K5 k5=>wp_region_lit (aA (aB) (aA (aC) (aG (k5 _ _ ?_))));refine wp_ret ?_;simp only[zz];try simp only[Exit.inBlock,Exit.then,if_true]
  refine bM rfl rfl ?_;try simp only[zD,zE]
  exact ⟨_,rfl,m.ext,by rw [if_pos hc1]⟩
 ·
  refine wp_skip (k2 _ _ ?_);refine aD fun K6 k6=>wp_region_lit (aA (aB) (aA (dC rfl) (aA (aN (c:=0) jN rfl jW rfl rfl) ?_)));simp only[zz];refine aK rfl ((hB1.ext m.ext).lies1 oK rfl) ?_;simp only[zz];refine dY m rfl rfl (Af _ (hT2.ext m.ext) hN2) ?_;clear m;rintro v u m rfl;refine aA (aC) (aG (k6 _ _ ?_));refine wp_ret ?_;simp only[zz];try simp only[Exit.inBlock,Exit.then,if_true]
  refine bM rfl rfl ?_;try simp only[zD,zE]
  exact ⟨_,rfl,m.ext,by rw [if_neg (fun h=>hc1 h)]⟩
def Cz (f c : List T3) : Int:=if aS f ≠ aS c then 30 else if iV f c (aS f) = true ∨ nE f c (aS f) = false then 30 else 0
theorem agH {f c : List T3} (h : ¬ aS f = aS c) : Cz f c = 30:=if_pos h
theorem ac4 {f c : List T3} (h : iV f c (aS f) = true ∨ nE f c (aS f) = false) : Cz f c = 30:=by
 unfold Cz;rw [if_pos h];split <;> rfl
theorem agI {f c : List T3} (h1 : aS f = aS c) (h2 : iV f c (aS f) = false) (h3 : nE f c (aS f) = true) : Cz f c = 0:=by
 rw [Cz,if_neg (fun k=>k h1),if_neg];rintro (k | k)
 · rw [h2] at k;cases k
 · rw [h3] at k;cases k
theorem Xm {K V : Type} [DecidableEq K] : ∀ {xs : List (K × V)},(xs.map (·.1)).Nodup → nI [] xs = xs:=by
 intro xs;have key : ∀ (ys D : List (K × V)),((D ++ ys).map (·.1)).Nodup → nI D ys = D ++ ys:=by
  intro ys
  induction ys with
  | nil=>intro D _;rw [List.append_nil];rfl
  | cons y ys ih =>
   intro D h;have hy : y.1 ∉ D.map (·.1):=by
    rw [List.map_append,List.nodup_append] at h;exact fun k=>h.2.2 _ k _ (by simp) rfl
   have e : gV D y.1 y.2 = D ++ [y]:=by
    have hm : oA D y.1 0 = none:=by
     cases hf : oA D y.1 0 with
     | none=>rfl
     | some q =>
      obtain ⟨p,_,hp,_⟩:=oM D y.1 0 q.1 q.2 hf;exact absurd (List.mem_map.2 ⟨_,List.mem_of_getElem? hp,rfl⟩) hy
    exact (oL D y.1 0 hm).2.1 y.2
   show nI (gV D y.1 y.2) ys = _
   rw [e,ih (D ++ [y]) (by simpa using h)];simp
 exact key xs []
theorem Tr (f c : List T3) (rim : List E3) : nE f c rim = decide (xD f rim = xD c rim):=by
 rw [Bool.eq_iff_iff,decide_eq_true_eq];unfold nE xD;rw [List.all_eq_true,List.map_inj_left];exact ⟨fun h e he=>by rw [of_decide_eq_true (h e he)],fun h e he=>decide_eq_true (congrArg Prod.snd (h e he))⟩
theorem aa6 {f c : List T3} {es : Array MapEntry} {sn : Array Nat} {dn : List (E3 × Bool)} (h : mY ed Value.bool (gL [] (mC c)) es sn dn []) (hno : ∀ y ∈ dn,Rn f (aS f) y.1 = false) : iV f c (aS f) = false:=by
 cases hj : iV f c (aS f) with
 | false=>rfl
 | true =>
  obtain ⟨e,he,hn⟩:=Jj.1 hj;have h1 : e ∈ (gL [] (mC c)).map (·.1):=(vL _ _ _).2 (.inr he);obtain ⟨y,hy,rfl⟩:=List.mem_map.1 h1;rw [hno y (h.done.mem_iff.2 hy)] at hn;cases hn
theorem aa7 {f c : List T3} {es : Array MapEntry} {sn : Array Nat} {dn rs : List (E3 × Bool)} (h : mY ed Value.bool (gL [] (mC c)) es sn dn rs) {y : E3 × Bool} (hy : y ∈ dn) (hn : Rn f (aS f) y.1 = true) : iV f c (aS f) = true:=by
 have h1 : y.1 ∈ (gL [] (mC c)).map (·.1):=List.mem_map.2 ⟨y,h.1.mem_iff.1 (List.mem_append_left _ hy),rfl⟩;exact Jj.2 ⟨y.1,((vL _ _ _).1 h1).resolve_left (by simp),hn⟩
theorem Xn {w0 w : World} {K : It} {fs gs : List T3} {N cap N2 cap2 : Nat} {A A2 : Option Addr} {g1 : Nat} {H R J M : Value} (m : cA w0 w [bI g1 [.slice A N cap,.slice A2 N2 cap2,H,R,M,J] 73,K]) (hT : dZ w0 A N fs) (hT2 : dZ w0 A2 N2 gs) (hN : N ≤ 10000000) (hN2 : N2 ≤ 10000000) (hf : cP true fs = 0) (hg : cP true gs = 0) : Tq prog 32 [.pointer (some ⟨g1,0,none⟩)] w fun v w'=>∃ A4 c4,v = .int .i64 (Cz fs gs) ∧ cA w0 w' [oI 57 6 A4 (aS fs).length c4 ((aS fs).flatMap bP),bI g1 [.slice A N cap,.slice A2 N2 cap2,H,.slice A4 (aS fs).length c4,M,J] 73,K]:=by
 refine ⟨afm,?_⟩;have hbl : (aS fs).length ≤ 30000000:=by have h1:=qK (all:=bJ fs) (bJ fs) [];have h2:=kZ fs;have h3:=hT.len;simp only[List.length_nil] at h1;unfold aS;omega
 have hbn : (aS fs).Nodup:=(xC fs).nodup
 go_enter func32,ntmps32
 refine aD fun K1 k1=>wp_region_lit (aA (aC) (aG (k1 _ _ ?_)));refine aD fun K2 k2=>wp_region_lit (aA (aB) (aA (aB) (aA (dC rfl) ?_)));simp only[zz];refine aA (aN (c:=0) jN rfl jW rfl rfl) ?_;simp only[zz];refine aK rfl ((m.b 0 rfl).lies1 oK rfl) ?_;simp only[zz];refine aZ rfl rfl (Jo _ (hT.ext m.ext) hN) ?_;rintro v u e ⟨A4,c4,n4,hn4,rfl,hN⟩;replace m:=m.newO e hN;clear e hN;subst hn4;refine aA (dC rfl) (aA (aN (c:=0) jN rfl pG rfl rfl) ?_);simp only[zz];refine Kt (off:=3) m 1 rfl rfl rfl pG (eB rfl) ⟨rfl,rfl⟩ ?_;clear m;intro u m;simp only[zz,zy,zx,bE,Nat.reduceAdd] at m;refine aG (k2 _ _ ?_);refine aD fun K3 k3=>aD fun K4 k4=>?_;refine mh m [true,true,true] [(0,true),(1,true),(2,true),(4,true),(5,true),(6,true),(3,true),(7,true),(8,false),(9,false),(10,true)] aO (by kernel_rfl) (dV (fun _ _ _ _ _ h=>h)) (ol:=?_) ?hol ?_
 case hol=>simp only[zw,zQ,zR];try rfl
 clear m;intro u m;refine bH (aB) (bH (dC rfl) (bH (aN (c:=0) jN rfl pG rfl rfl) (bH (aB) ?_)));simp only[zz];refine bH (dC rfl) (bH (aN (c:=0) jN rfl jW rfl rfl) ?_);simp only[zz];refine dQ rfl (fun u m=>((m.b 1 rfl).lies1 Ff rfl)) ?_;simp only[zz];refine dQ rfl (fun u m=>((m.b 1 rfl).lies1 oK rfl)) ?_;simp only[zz];refine cZ (aZ rfl rfl (Jo _ (hT2.ext m.ext) hN2) ?_);rintro v u e ⟨A5,c5,n5,hn5,rfl,hN⟩;replace m:=m.newO e hN;clear e hN;subst hn5;refine aG (⟨m.sel [false,true,true,true],?_⟩);refine cZ ?_;simp only[zz];refine dY m rfl rfl (Xj _ ((m.o 1 rfl).lat mD (by decide)) ((m.o 0 rfl).lat mD (by decide)) (by omega)) ?_;clear m;rintro v u m rfl;refine aG (⟨m.sel [false,true,true,true],?_⟩);refine bH (eZ rfl) (eC (k4 _ _ ?_));simp only[zz];refine eI rfl (fun hc1=>?_) (fun hc1=>?_)
 ·
  have hne : ¬ aS fs = aS gs:=by simpa using hc1
  refine aD fun K5 k5=>wp_region_lit (aA (aC) (aG (k5 _ _ ?_)));refine wp_ret ?_;simp only[zz];try simp only[Exit.inBlock,Exit.then,if_true]
  refine bM rfl rfl ?_;try simp only[zD,zE]
  exact ⟨_,rfl,_,_,by rw [agH hne],m.sel [false,true,true,true]⟩
 ·
  have hbe : aS fs = aS gs:=by simpa using hc1
  refine wp_skip (k3 _ _ ?_);refine aD fun K6 k6=>wp_region_lit (kY m ?_);clear m;intro q9 u m;have hD9:=cQ.nil (K:=P3) (V:=Bool) pt Value.bool;refine aA (aC) (aG (k6 _ _ ?_));refine aD fun K7 k7=>aD fun K8 k8=>wp_region_lit (aA (aB) (aA (dC rfl) ?_));simp only[zz];refine aA (aN (c:=0) jN rfl pG rfl rfl) ?_;simp only[zz];refine aK rfl ((m.b 3 rfl).lies1 Ff rfl) ?_;simp only[zz];refine aA (aX rfl fL rfl) (aA (aB) (aG (k8 _ _ ?_)));refine wp_block ?_;simp only[zz];try simp only[Nat.zero_add,Nat.reduceAdd,Nat.reduceMul,Int.reduceToNat]
  refine bK [33] [5,34,35,36,37,38,39,40,41,42,43] (fun n vs wl=>∃ (k : Nat) (es : Array MapEntry) (c : Nat),vs = [.int .i64 (k:Int)] ∧ cA w0 wl [mI q9 es c,oI 57 6 A4 (aS fs).length c4 ((aS fs).flatMap bP),bI g1 [.slice A N cap,.slice A2 N2 cap2,H,.slice A4 (aS fs).length c4,M,J] 73,K] ∧ (cQ pt Value.bool (gL [] (Gc ((aS fs).take k))) es c) ∧ (k ≤ (aS fs).length) ∧ (n = (aS fs).length - k)) ?_ ?_
  ·
   apply Exists.intro;simp only[zQ,zR,zD,zE];exact ⟨0,_,_,rfl,(m.sel [true,false,true,true,true]),hD9,Nat.zero_le _,rfl⟩
  ·
   intro n vs wr hI u;clear m;obtain ⟨k,es9,c9,rfl,m,hD9,hk,hn⟩:=hI;simp only[zu,zF,zG];refine aD fun K9 k9=>wp_region_lit (aA (cF rfl rfl) (aG (k9 _ _ ?_)));refine aD fun K10 k10=>?_;simp only[zz];refine bW rfl (fun hc2=>?_) (fun hc2=>?_)
   ·
    obtain ⟨e,he⟩ : ∃ e,(aS fs)[k]? = some e:=⟨_,List.getElem?_eq_getElem (by omega)⟩
    obtain ⟨gO,rfl⟩:=(m.o 1 rfl).some (by omega);refine wp_skip (k10 _ _ ?_);refine aD fun K11 k11=>wp_block (aD fun K12 k12=>wp_region_lit (aA (aI fL cJ rfl rfl (by omega) (by omega) (bV (Int.toNat_natCast _))) ?_));simp only[zz];refine aK rfl (((m.o 1 rfl).at mD he).lies kP cJ) ?_;simp only[zz];refine bF m tL rfl ?_;clear m;intro g3 u m;simp only[zz];refine aU m 0 rfl rfl rfl cJ (eB rfl) rfl ?_;clear m;intro u m;simp only[zy,zx,bE,zF,zG,Nat.reduceAdd] at m;refine aG (k12 _ _ ?_);refine mh m [true,false,true,true,true] [(0,true),(1,true),(3,true),(4,true),(2,true),(5,true),(6,false),(7,false)] aO (by kernel_rfl) (dV (fun _ _ _ _ _ h=>h)) (ol:=?_) ?hol ?_
    case hol=>simp only[zw,zQ,zR];try rfl
    clear m;intro u m;refine bH (aB) (bH (aH jU aF rfl rfl (by decide) (by decide) rfl) (bH (aB) (bH (aH jU aF rfl rfl (by decide) (by decide) rfl) ?_)));simp only[zz];refine dQ rfl (fun u m=>((m.b 0 rfl).lies aJ aF rfl rfl)) ?_;simp only[zz,zy,Nat.zero_add,Nat.reduceAdd,Nat.reduceMul,Int.reduceToNat];refine dQ rfl (fun u m=>((m.b 0 rfl).lies aJ aF rfl rfl)) ?_;simp only[zz,zy,Nat.zero_add,Nat.reduceAdd,Nat.reduceMul,Int.reduceToNat];refine cZ (fZ (ek:=pt) (en:=Value.bool) (a:=e.1) (v:=true) m 1 rfl nV iM rfl rfl rfl hD9 ?_);clear m;intro es9 c9 u m hD';clear hD9;have hD9:=hD';clear hD';simp only[zF,zG] at m;rw [← nF] at hD9;refine aG (⟨m.sel [true,false,true,true,true],?_⟩);refine cZ (fZ (ek:=pt) (en:=Value.bool) (a:=e.2) (v:=true) m 1 rfl nV iM rfl rfl rfl hD9 ?_);clear m;intro es9 c9 u m hD';clear hD9;have hD9:=hD';clear hD';simp only[zF,zG] at m;rw [← nF] at hD9;refine aG (⟨m.sel [true,false,true,true,true],?_⟩);refine eC (k11 _ _ ?_);refine wp_region_lit (aA (aP rfl rfl (aM (by omega) (by omega))) (aA (aB) (aG ?_)));simp only[zz];simp only[Exit.inBlock,Exit.then];refine ⟨(aS fs).length - (k + 1),_,?_,rfl,?_,?_⟩
    · omega
    · simp only[zz,zv]
    ·
     simp only[zQ,zR,zD,zE];exact ⟨k + 1,_,_,rfl,(m.sel [false,true,true,true,true]),by rw [On he];simpa [List.append_assoc] using hD9,by omega,rfl⟩
   ·
    obtain rfl : k = (aS fs).length:=by omega
    rw [List.take_length] at hD9;refine wp_exit (k7 _ _ ?_);refine aD fun K13 k13=>aD fun K14 k14=>?_;refine mh m [true,true,true,true] [(0,true),(1,true),(2,true),(4,true),(5,true),(6,true),(9,true),(10,true),(11,true),(13,true),(14,true),(15,true),(3,true),(7,true),(12,true),(16,true),(8,false),(17,false),(18,false),(19,true)] aO (by kernel_rfl) (dV (fun _ _ _ _ _ h=>h)) (ol:=?_) ?hol ?_
    case hol=>simp only[zw,zQ,zR];try rfl
    clear m;intro u m;refine bH (aB) (bH (dC rfl) (bH (aN (c:=0) jN rfl jW rfl rfl) (bH (aB) ?_)));simp only[zz];refine bH (dC rfl) (bH (aN (c:=0) jN rfl pG rfl rfl) (bH (aB) (bH (dC rfl) ?_)));simp only[zz];refine bH (aN (c:=0) jN rfl jW rfl rfl) (bH (aB) (bH (dC rfl) (bH (aN (c:=0) jN rfl pG rfl rfl) ?_)));simp only[zz];refine dQ rfl (fun u m=>((m.b 2 rfl).lies1 oK rfl)) ?_;simp only[zz];refine dQ rfl (fun u m=>((m.b 2 rfl).lies1 Ff rfl)) ?_;simp only[zz];refine dQ rfl (fun u m=>((m.b 2 rfl).lies1 oK rfl)) ?_;simp only[zz];refine dQ rfl (fun u m=>((m.b 2 rfl).lies1 Ff rfl)) ?_;simp only[zz];refine cZ (aZ rfl rfl (aaY (rim:=(aS fs)) _ (hT.ext m.ext) hN ((m.o 1 rfl).lat mD (by decide)) (by omega) (qT hf).1 (qT hf).2 (fun e he=>(tU.1 he).2)) ?_);rintro v u e ⟨g10,es10,c10,rfl,hM,hD10⟩;replace m:=m.plus hM;clear hM e;simp only[List.cons_append,List.nil_append] at m;refine aG (⟨m.sel [false,true,true,true,true],?_⟩);refine cZ ?_;simp only[zz];refine aZ rfl rfl (aaY (rim:=(aS fs)) _ (hT2.ext m.ext) hN2 ((m.o 2 rfl).lat mD (by decide)) (by omega) (qT hg).1 (qT hg).2 (fun e he=>(tU.1 (hbe ▸ he)).2)) ?_;rintro v u e ⟨g11,es11,c11,rfl,hM,hD11⟩;replace m:=m.plus hM;clear hM e;simp only[List.cons_append,List.nil_append] at m;rw [Xm (by rw [wM];exact hbn)] at hD10 hD11;refine aG (⟨m.sel [false,false,true,true,true,true],?_⟩);refine cZ ?_;simp only[zz];refine dY m rfl rfl (acu _ (m.p 1 rfl) hD10 (m.p 0 rfl) hD11 (by rw [wM,wM]) (by rw [wM];exact hbn)) ?_;clear m;rintro v u m rfl;refine aG (⟨m.sel [false,false,true,true,true,true],?_⟩);refine bH (eZ rfl) (eC (k14 _ _ ?_));simp only[zz];refine eI rfl (fun hc3=>?_) (fun hc3=>?_)
    ·
     have hfan : nE fs gs (aS fs) = false:=by rw [Tr];simpa using hc3
     refine aD fun K15 k15=>wp_region_lit (aA (aC) (aG (k15 _ _ ?_)));refine wp_ret ?_;simp only[zz];try simp only[Exit.inBlock,Exit.then,if_true]
     refine bM rfl rfl ?_;try simp only[zD,zE]
     exact ⟨_,rfl,_,_,by rw [ac4 (.inr hfan)],m.sel [false,false,false,true,true,true]⟩
    ·
     have hfan : nE fs gs (aS fs) = true:=by rw [Tr];simpa using hc3
     refine wp_skip (k13 _ _ ?_);refine aD fun K16 k16=>wp_region_lit (aA (aB) (aA (dC rfl) (aA (aN (c:=0) jN rfl jW rfl rfl) ?_)));simp only[zz];refine aK rfl ((m.b 4 rfl).lies1 oK rfl) ?_;simp only[zz];refine aZ rfl rfl (Gu _ (hT.ext m.ext) hN) ?_;rintro v u e ⟨g12,es12,c12,rfl,hM,hD12⟩;replace m:=m.plus hM;clear hM e;simp only[List.cons_append,List.nil_append] at m;refine aA (aC) (aG (k16 _ _ ?_));refine aD fun K17 k17=>aD fun K18 k18=>wp_region_lit (aA (aB) (aA (dC rfl) ?_));simp only[zz];refine aA (aN (c:=0) jN rfl jW rfl rfl) ?_;simp only[zz];refine aK rfl ((m.b 5 rfl).lies1 oK rfl) ?_;simp only[zz];refine aZ rfl rfl (Gu _ (hT2.ext m.ext) hN2) ?_;rintro v u e ⟨g13,es13,c13,rfl,hM,hD13⟩;replace m:=m.plus hM;clear hM e;simp only[List.cons_append,List.nil_append] at m;simp only[zz];refine xU m oR rfl (m.p 0 rfl) ?_;clear m;intro r1 u m;refine aG (k18 _ _ ?_);refine wp_block ?_;simp only[zz];try simp only[Nat.zero_add,Nat.reduceAdd,Nat.reduceMul,Int.reduceToNat]
     refine bK [] [2,7,75,76,77,78,79,80,81,82,83,84,85,86,87,88,89,90,91,92,93,94] (fun n vs wl=>∃ (dn rs : List (E3 × Bool)) (sn : Array Nat),vs = [] ∧ cA w0 wl [iI r1 g13 c13 sn,mI g13 es13 c13,mI g12 es12 c12,mI q9 es9 c9,oI 57 6 A4 (aS fs).length c4 ((aS fs).flatMap bP),bI g1 [.slice A N cap,.slice A2 N2 cap2,H,.slice A4 (aS fs).length c4,M,J] 73,K] ∧ (mY ed Value.bool (gL [] (mC gs)) es13 sn dn rs) ∧ (∀ y ∈ dn,Rn fs (aS fs) y.1 = false) ∧ (n = rs.length)) ?_ ?_
     ·
      apply Exists.intro;simp only[zQ,zR,zD,zE];exact ⟨[],_,#[],trivial,(m.sel [true,true,true,false,false,true,true,true,true]),mY.start hD13,fun _ h=>(by cases h),rfl⟩
     ·
      intro n vs wr hI u;clear m;obtain ⟨dn,rs,sn,rfl,m,hT9,hno,hn⟩:=hI;simp only[zu,zF,zG];refine aD fun K19 k19=>wp_region_lit (Fm m 0 rfl rfl (m.p 1 rfl) hD13 hT9 ?_);clear m;intro bb kk vv sn u m hN;simp only[zF,zG] at m;refine aA (tO rfl) (aG (k19 _ _ ?_));refine aD fun K20 k20=>?_;simp only[zz];refine eI rfl (fun hc4=>?_) (fun hc4=>?_)
      ·
       obtain ⟨kp,kb,rs2,hp,hT8⟩:=Fq hc4 hN;refine wp_skip (k20 _ _ ?_);refine wp_block (aD fun K21 k21=>wp_region_lit (fS (tP rfl (m.r 0 rfl) (m.p 1 rfl) hD13 hT8) ?_));simp only[zz];refine aA (aY rfl rfl) ?_;simp only[zz];refine bF m tL rfl ?_;clear m;intro g4 u m;simp only[zz];refine aU m 0 rfl rfl rfl cJ (eB rfl) rfl ?_;clear m;intro u m;simp only[zy,zx,bE,zF,zG,Nat.reduceAdd] at m;refine aG (k21 _ _ ?_);refine aD fun K22 k22=>wp_region_lit (aA (aB) (aA (aH jU aF rfl rfl (by decide) (by decide) rfl) ?_));simp only[zz];refine aK rfl ((m.b 0 rfl).lies aJ aF rfl rfl) ?_;simp only[zz,zy,Nat.zero_add,Nat.reduceAdd,Nat.reduceMul,Int.reduceToNat];refine fS (fB (ek:=pt) (en:=Value.bool) (k:=kp.1) (v0:=false) nV mX iM rfl rfl (m.p 4 rfl) hD9) ?_;simp only[zz];refine aA (aB) (cU rfl (fun hb=>aB) (cU rfl (fun hb=>aH jU aF rfl rfl (by decide) (by decide) rfl) ?_));simp only[zz];refine fC rfl (fun hb=>cE (bO hb rfl) ((m.b 0 rfl).lies aJ aF rfl rfl)) ?_;simp only[zz,zy,Nat.zero_add,Nat.reduceAdd,Nat.reduceMul,Int.reduceToNat];refine fC rfl (fun hb=>fB (ek:=pt) (en:=Value.bool) (k:=kp.2) (v0:=false) nV mX iM (bO hb rfl) (bO hb rfl) (m.p 4 rfl) hD9) ?_;simp only[zz];refine aA (cL rfl rfl rfl) (aA (aB) (cU rfl (fun hb=>aB) ?_));simp only[zz];refine fC rfl (fun hb=>cE rfl ((m.b 0 rfl).full kP cJ)) (fC rfl (fun hb=>fB (ek:=ed) (en:=Value.bool) (k:=kp) (v0:=false) oR mX oD (bO hb rfl) (bO hb rfl) (m.p 3 rfl) hD12) ?_);simp only[zz];refine cU rfl (fun hb=>eZ (bO hb rfl)) (aA (cL rfl rfl rfl) (aG (k22 _ _ ?_)));simp only[zz];refine eI rfl (fun hc5=>?_) (fun hc5=>?_)
       ·
        have hnw : Rn fs (aS fs) kp = true:=by rw [Dp,Dp,wL] at hc5;exact hc5
        have hj:=aa7 hT8 (y:=(kp,kb)) (by simp) hnw;refine aD fun K23 k23=>wp_region_lit (aA (aC) (aG (k23 _ _ ?_)));refine wp_ret ?_;simp only[zz];try simp only[Exit.inBlock,Exit.then,if_true]
        refine bM rfl rfl ?_;try simp only[zD,zE]
        exact ⟨_,rfl,_,_,by rw [ac4 (.inl hj)],m.sel [false,false,false,false,false,true,true,true]⟩
       ·
        have hnw : Rn fs (aS fs) kp = false:=by rw [Dp,Dp,wL] at hc5;exact hc5
        refine wp_skip ?_;simp only[Exit.inBlock,Exit.then];refine ⟨rs2.length,_,?_,rfl,?_,?_⟩
        · rw [hn,hp.length_eq];exact Nat.lt_succ_self _
        · simp only[zz,zv]
        ·
         simp only[zQ,zR,zD,zE];exact ⟨dn ++ [(kp,kb)],rs2,_,trivial,(m.sel [false,true,true,true,true,true,true,true]),hT8,fun y hy=>(List.mem_append.1 hy).elim (hno y) fun hy=>by obtain rfl:=List.mem_singleton.1 hy;exact hnw,rfl⟩
      ·
       obtain rfl:=Fp hc4 hN;refine wp_exit (k17 _ _ ?_);refine aD fun K24 k24=>wp_region_lit (aA (aC) (aG (k24 _ _ ?_)));refine wp_ret ?_;simp only[zz];try simp only[Exit.inBlock,Exit.then,if_true]
       refine bM rfl rfl ?_;try simp only[zD,zE]
       exact ⟨_,rfl,_,_,by rw [agI hbe (aa6 hT9 hno) hfan],m.sel [false,false,false,false,true,true,true]⟩
end Go.Proofs.YtfohfflkhpfjeaaGreatDoor
namespace Go.Proofs.YtfohfflkhpfjeaaGreatDoor
open Go.Proofs.Tryz
open Go.RowKit Go.Lith
set_option maxRecDepth 100000
attribute [local irreducible] wpList wpQuiet dW dM dK Code.wp
theorem Gy {K V : Type} [DecidableEq K] (xs : List (K × V)) (x : K × V) : nI [] (xs ++ [x]) = gV (nI [] xs) x.1 x.2:=Oc [] xs [x]
theorem ahc {x y z : Bool} (h : ((!x || !y) || !z) = false) : (x && y && z) = true:=by revert h;cases x <;> cases y <;> cases z <;> decide
theorem ahd {x y z : Bool} (h : ((!x || !y) || !z) = true) : (x && y && z) = false:=by revert h;cases x <;> cases y <;> cases z <;> decide
theorem ahe {l x y z : Bool} (h : (((!l || !x) || !y) || !z) = false) : (l && x && y && z) = true:=by revert h;cases l <;> cases x <;> cases y <;> cases z <;> decide
theorem ahf {l x y z : Bool} (h : (((!l || !x) || !y) || !z) = true) : (l && x && y && z) = false:=by revert h;cases l <;> cases x <;> cases y <;> cases z <;> decide
theorem Ak {f c : List T3} {ms : List Mv} {rim : List E3} {i : Nat} {m : Mv} (hm : ms[i]? = some m) (h : oB f c ms rim i m = false) : lM f c ms rim = false:=by
 cases hh : lM f c ms rim with
 | false=>rfl
 | true=>rw [qS.1 hh i m hm] at h;cases h
theorem Se {w : World} {a : Addr} {e : E3} (h : jG w a (bP e)) : jG w a [.int .i64 e.1.x,.int .i64 e.1.y,.int .i64 e.1.z,.int .i64 e.2.x,.int .i64 e.2.y,.int .i64 e.2.z]:=h
theorem aev {w0 w : World} {K : It} {fs gs : List T3} {ms : List Mv} {N cap N2 cap2 N3 cap3 c4 : Nat} {A A2 A3 A4 : Option Addr} {g1 q7 c7 : Nat} {es7 : Array MapEntry} {J : Value} (m : cA w0 w [oI 57 6 A4 (aS fs).length c4 ((aS fs).flatMap bP),bI g1 [.slice A N cap,.slice A2 N2 cap2,.slice A3 N3 cap3,.slice A4 (aS fs).length c4,.map (some q7),J] 73,mI q7 es7 c7,K]) (hT : dZ w0 A N fs) (hT2 : dZ w0 A2 N2 gs) (hL3 : mU bP 6 w0 A3 N3 ms) (hN : N ≤ 300000) (hN2 : N2 ≤ 300000) (hN3 : N3 ≤ 10000000) (hD7 : cQ pt pt (nI [] ([] : List Mv)) es7 c7) : Tq prog 33 [.pointer (some ⟨g1,0,none⟩)] w fun v w'=>∃ es7 c7,v = .int .i64 (if lM fs gs ms (aS fs) = true then 0 else 31) ∧ cA w0 w' [oI 57 6 A4 (aS fs).length c4 ((aS fs).flatMap bP),bI g1 [.slice A N cap,.slice A2 N2 cap2,.slice A3 N3 cap3,.slice A4 (aS fs).length c4,.map (some q7),J] 73,mI q7 es7 c7,K] ∧ (lM fs gs ms (aS fs) = true → cQ pt pt (nI [] ms) es7 c7):=by
 refine ⟨afn,?_⟩;have hbl : (aS fs).length ≤ 30000000:=by have h1:=qK (all:=bJ fs) (bJ fs) [];have h2:=kZ fs;have h3:=hT.len;simp only[List.length_nil] at h1;unfold aS;omega
 have el3:=hL3.len
 go_enter func33,ntmps33
 refine aD fun K1 k1=>wp_region_lit (aA (aC) (aG (k1 _ _ ?_)));refine aD fun K2 k2=>wp_region_lit (aA (aB) (aA (dC rfl) (aA (aN (c:=0) jN rfl jW rfl rfl) ?_)));simp only[zz];refine aK rfl ((m.b 1 rfl).lies1 oK rfl) ?_;simp only[zz];refine aZ rfl rfl (Gt _ (hT.ext m.ext) hN) ?_;rintro v u e ⟨A8,n8,cap8,_,rfl,hN,ps,rfl,hso,hmem⟩;replace m:=m.newO e hN;clear e hN;refine aA (aC) (aG (k2 _ _ ?_));refine aD fun K3 k3=>?_;simp only[zz];refine mh m [true,true,true,true,true] [(0,true),(2,true),(4,true),(5,true),(6,true),(7,true),(1,false),(3,false),(8,false),(9,false),(10,true),(11,true),(12,true)] aO (by kernel_rfl) (dV (fun _ _ _ _ _ h=>h)) (ol:=?_) ?hol ?_
 case hol=>simp only[zw,zQ,zR];try rfl
 clear m;intro u m;refine bH (aB) (bH (aB) (bH (aB) (bH (dC rfl) ?_)));simp only[zz];refine bH (aN (c:=0) jN rfl jW rfl rfl) ?_;simp only[zz];refine dQ rfl (fun u m=>((m.b 2 rfl).lies1 oK rfl)) ?_;simp only[zz];refine cZ (aZ rfl rfl (aaX _ ((m.o 0 rfl).lat Ni (by decide)) (Nat.le_trans (m.o 0 rfl).le (m.o 0 rfl).max)) ?_);rintro v u e ⟨q9,es9,c9,rfl,hM,hD9⟩;replace m:=m.plus hM;clear hM e;simp only[List.cons_append,List.nil_append] at m;refine aG (⟨m.sel [false,true,true,true,true,true],?_⟩);refine cZ ?_;simp only[zz];refine aZ rfl rfl (aaX _ ((m.o 1 rfl).lat Ni (by decide)) (Nat.le_trans (m.o 1 rfl).le (m.o 1 rfl).max)) ?_;rintro v u e ⟨q10,es10,c10,rfl,hM,hD10⟩;replace m:=m.plus hM;clear hM e;simp only[List.cons_append,List.nil_append] at m;refine aG (⟨m.sel [false,false,true,true,true,true,true],?_⟩);refine cZ ?_;simp only[zz];refine aZ rfl rfl (Gt _ (hT2.ext m.ext) hN2) ?_;rintro v u e ⟨A11,n11,cap11,_,rfl,hN,qs,rfl,hso2,hmem2⟩;replace m:=m.newO e hN;clear e hN;refine aG (⟨m.sel [false,false,false,true,true,true,true,true],?_⟩);refine cZ ?_;simp only[zz];refine aZ rfl rfl (aaX _ ((m.o 0 rfl).lat Ni (by decide)) (Nat.le_trans (m.o 0 rfl).le (m.o 0 rfl).max)) ?_;rintro v u e ⟨q12,es12,c12,rfl,hM,hD12⟩;replace m:=m.plus hM;clear hM e;simp only[List.cons_append,List.nil_append] at m;refine aG (⟨m.sel [false,false,false,false,true,true,true,true,true],?_⟩);refine bH (aC) (bH (aC) (bH (aC) ?_));simp only[zz];refine eC (k3 _ _ ?_);refine aD fun K4 k4=>aD fun K5 k5=>wp_region_lit (aA (aB) (aA (dC rfl) (aA (aN (c:=0) jN rfl pG rfl rfl) ?_)));simp only[zz];refine aK rfl ((m.b 6 rfl).lies1 Ff rfl) ?_;simp only[zz];refine aA (aX rfl fL rfl) (aA (aB) (aG (k5 _ _ ?_)));refine wp_block ?_;simp only[zz];try simp only[Nat.zero_add,Nat.reduceAdd,Nat.reduceMul,Int.reduceToNat]
 refine bK [33] [8,34,35,36,37,38,39,40,41,42,43] (fun n vs wl=>∃ (k : Nat) (es : Array MapEntry) (cc : Nat),vs = [.int .i64 (k:Int)] ∧ cA w0 wl [mI q12 es12 c12,mI q10 es10 c10,mI q9 es cc,oI 57 6 A4 (aS fs).length c4 ((aS fs).flatMap bP),bI g1 [.slice A N cap,.slice A2 N2 cap2,.slice A3 N3 cap3,.slice A4 (aS fs).length c4,.map (some q7),J] 73,mI q7 es7 c7,K] ∧ (cQ pt Value.bool ((Gc ((aS fs).take k)).foldl qO (gL [] ps)) es cc) ∧ (k ≤ (aS fs).length) ∧ (n = (aS fs).length - k)) ?_ ?_
 ·
  apply Exists.intro;simp only[zQ,zR,zD,zE];exact ⟨0,_,_,rfl,(m.sel [true,false,true,true,false,true,true,true,true]),hD9,Nat.zero_le _,rfl⟩
 ·
  intro n vs wr hI u;clear m;obtain ⟨k,es9,c9,rfl,m,hD9,hk,hn⟩:=hI;simp only[zu,zF,zG];refine aD fun K6 k6=>wp_region_lit (aA (cF rfl rfl) (aG (k6 _ _ ?_)));refine aD fun K7 k7=>?_;simp only[zz];refine bW rfl (fun hc1=>?_) (fun hc1=>?_)
  ·
   obtain ⟨e,he⟩ : ∃ e,(aS fs)[k]? = some e:=⟨_,List.getElem?_eq_getElem (by omega)⟩
   obtain ⟨gO,rfl⟩:=(m.o 3 rfl).some (by omega);refine wp_skip (k7 _ _ ?_);refine aD fun K8 k8=>wp_block (aD fun K9 k9=>wp_region_lit (aA (aI fL cJ rfl rfl (by omega) (by omega) (bV (Int.toNat_natCast _))) ?_));simp only[zz];refine aK rfl (((m.o 3 rfl).at mD he).lies kP cJ) ?_;simp only[zz];refine bF m tL rfl ?_;clear m;intro g2 u m;simp only[zz];refine aU m 0 rfl rfl rfl cJ (eB rfl) rfl ?_;clear m;intro u m;simp only[zy,zx,bE,zF,zG,Nat.reduceAdd] at m;refine aG (k9 _ _ ?_);refine aD fun K10 k10=>wp_region_lit (aA (aB) (aA (aH jU aF rfl rfl (by decide) (by decide) rfl) ?_));simp only[zz];refine aK rfl ((m.b 0 rfl).lies aJ aF rfl rfl) ?_;simp only[zz,zy,Nat.zero_add,Nat.reduceAdd,Nat.reduceMul,Int.reduceToNat];refine Gl (ek:=pt) (en:=Value.bool) (a:=e.1) m 3 rfl nV iM rfl rfl hD9 rfl ?_;clear m;intro es9 c9 u m hD';clear hD9;have hD9:=hD';clear hD';simp only[zF,zG] at m;refine aG (k10 _ _ ?_);refine wp_region_lit (aA (aB) (aA (aH jU aF rfl rfl (by decide) (by decide) rfl) ?_));simp only[zz];refine aK rfl ((m.b 0 rfl).lies aJ aF rfl rfl) ?_;simp only[zz,zy,Nat.zero_add,Nat.reduceAdd,Nat.reduceMul,Int.reduceToNat];refine Gl (ek:=pt) (en:=Value.bool) (a:=e.2) m 3 rfl nV iM rfl rfl hD9 rfl ?_;clear m;intro es9 c9 u m hD';clear hD9;have hD9:=hD';clear hD';simp only[zF,zG] at m;refine aG (k8 _ _ ?_);refine wp_region_lit (aA (aP rfl rfl (aM (by omega) (by omega))) (aA (aB) (aG ?_)));simp only[zz];simp only[Exit.inBlock,Exit.then];refine ⟨(aS fs).length - (k + 1),_,?_,rfl,?_,?_⟩
   · omega
   · simp only[zz,zv]
   ·
    simp only[zQ,zR,zD,zE];exact ⟨k + 1,_,_,rfl,(m.sel [false,true,true,true,true,true,true,true]),by rw [On he,List.foldl_append];exact hD9,by omega,rfl⟩
  ·
   obtain rfl : k = (aS fs).length:=by omega
   rw [List.take_length] at hD9;refine wp_exit (k4 _ _ ?_);refine aD fun K11 k11=>aD fun K12 k12=>wp_region_lit (aA (aB) (aA (dC rfl) (aA (aN (c:=0) jN rfl vF rfl rfl) ?_)));simp only[zz];refine aK rfl ((m.b 4 rfl).lies1 Lb rfl) ?_;simp only[zz];refine aA (aX rfl fP rfl) (aA (aB) (aG (k12 _ _ ?_)));refine wp_block ?_;simp only[zz];try simp only[Nat.zero_add,Nat.reduceAdd,Nat.reduceMul,Int.reduceToNat]
   refine bK [49] [10,50,51,52,53,54,55,56] (fun n vs wl=>∃ (k : Nat) (es : Array MapEntry) (cc : Nat),vs = [.int .i64 (k:Int)] ∧ cA w0 wl [mI q12 es cc,mI q10 es10 c10,mI q9 es9 c9,oI 57 6 A4 (aS fs).length c4 ((aS fs).flatMap bP),bI g1 [.slice A N cap,.slice A2 N2 cap2,.slice A3 N3 cap3,.slice A4 (aS fs).length c4,.map (some q7),J] 73,mI q7 es7 c7,K] ∧ (cQ pt Value.bool (((ms.take k).map (·.1)).foldl qO (gL [] qs)) es cc) ∧ (k ≤ N3) ∧ (n = N3 - k)) ?_ ?_
   ·
    apply Exists.intro;simp only[zQ,zR,zD,zE];exact ⟨0,_,_,rfl,m,hD12,Nat.zero_le _,rfl⟩
   ·
    intro n vs wr hI u;clear m;obtain ⟨k,es12,c12,rfl,m,hD12,hk,hn⟩:=hI;simp only[zu,zF,zG];refine aD fun K13 k13=>wp_region_lit (aA (cF rfl rfl) (aG (k13 _ _ ?_)));refine aD fun K14 k14=>?_;simp only[zz];refine bW rfl (fun hc2=>?_) (fun hc2=>?_)
    ·
     obtain ⟨mv,hmv,a3,rfl,hrow3⟩:=hL3.get (i:=k) (by omega);refine wp_skip (k14 _ _ ?_);refine aD fun K15 k15=>wp_block (aD fun K16 k16=>wp_region_lit (aA (aI fP dB rfl rfl (by omega) (by omega) (bV (Int.toNat_natCast _))) ?_));simp only[zz];refine aK rfl ((Se (hrow3.ext m.ext)).lies xQ dB) ?_;simp only[zz];refine bF m wE rfl ?_;clear m;intro g2 u m;simp only[zz];refine aU m 0 rfl rfl rfl dB (eB rfl) rfl ?_;clear m;intro u m;simp only[zy,zx,bE,zF,zG,Nat.reduceAdd] at m;refine aG (k16 _ _ ?_);refine wp_region_lit (aA (aB) (aA (aN (c:=2) iY rfl aF rfl rfl) ?_));simp only[zz];refine aK rfl ((m.b 0 rfl).lies aJ aF rfl rfl) ?_;simp only[zz,zy,Nat.zero_add,Nat.reduceAdd,Nat.reduceMul,Int.reduceToNat];refine Gl (ek:=pt) (en:=Value.bool) (a:=mv.1) m 1 rfl nV iM rfl rfl hD12 rfl ?_;clear m;intro es12 c12 u m hD';clear hD12;have hD12:=hD';clear hD';simp only[zF,zG] at m;refine aG (k15 _ _ ?_);refine wp_region_lit (aA (aP rfl rfl (aM (by omega) (by omega))) (aA (aB) (aG ?_)));simp only[zz];simp only[Exit.inBlock,Exit.then];refine ⟨N3 - (k + 1),_,?_,rfl,?_,?_⟩
     · omega
     · simp only[zz,zv]
     ·
      simp only[zQ,zR,zD,zE];exact ⟨k + 1,_,_,rfl,(m.sel [false,true,true,true,true,true,true,true]),by rw [dO hmv,List.map_append,List.foldl_append];exact hD12,by omega,rfl⟩
    ·
     have hkN : k = N3:=by omega
     rw [List.take_of_length_le (by omega)] at hD12;refine wp_exit (k11 _ _ ?_);refine aD fun K17 k17=>aD fun K18 k18=>wp_region_lit (aA (aB) (aA (dC rfl) (aA (aN (c:=0) jN rfl vF rfl rfl) ?_)));simp only[zz];refine aK rfl ((m.b 4 rfl).lies1 Lb rfl) ?_;simp only[zz];refine aA (aX rfl fP rfl) (aA (aB) (aG (k18 _ _ ?_)));refine wp_block ?_;simp only[zz];try simp only[Nat.zero_add,Nat.reduceAdd,Nat.reduceMul,Int.reduceToNat]
     refine bK [62] [2,11,12,63,64,65,66,67,68,69,70,71,72,73,74,75,76,77,78,79,80,81,82,83,84,85,86,87,88,89,90,91,92,93,94,95,96,97,98,99,100,101,102,103,104,105,106,107,108,109,110,111,112,113] (fun n vs wl=>∃ (k : Nat) (es : Array MapEntry) (cc : Nat),vs = [.int .i64 (k:Int)] ∧ cA w0 wl [mI q12 es12 c12,mI q10 es10 c10,mI q9 es9 c9,oI 57 6 A4 (aS fs).length c4 ((aS fs).flatMap bP),bI g1 [.slice A N cap,.slice A2 N2 cap2,.slice A3 N3 cap3,.slice A4 (aS fs).length c4,.map (some q7),J] 73,mI q7 es cc,K] ∧ (cQ pt pt (nI [] (ms.take k)) es cc) ∧ (∀ i mv,i < k → ms[i]? = some mv → oB fs gs ms (aS fs) i mv = true) ∧ (k ≤ N3) ∧ (n = N3 - k)) ?_ ?_
     ·
      apply Exists.intro;simp only[zQ,zR,zD,zE];exact ⟨0,_,_,rfl,m,hD7,fun _ _ h=>absurd h (Nat.not_lt_zero _),Nat.zero_le _,rfl⟩
     ·
      intro n vs wr hI u;clear m;obtain ⟨k,es7,c7,rfl,m,hD7,hok,hk,hn⟩:=hI;simp only[zu,zF,zG];refine aD fun K19 k19=>wp_region_lit (aA (cF rfl rfl) (aG (k19 _ _ ?_)));refine aD fun K20 k20=>?_;simp only[zz];refine bW rfl (fun hc3=>?_) (fun hc3=>?_)
      ·
       obtain ⟨mv,hmv,a3,rfl,hrow3⟩:=hL3.get (i:=k) (by omega);refine wp_skip (k20 _ _ ?_);refine aD fun K21 k21=>wp_block (aD fun K22 k22=>wp_region_lit (aA (aB) ?_));simp only[zz];refine aA (aI fP dB rfl rfl (by omega) (by omega) (bV (Int.toNat_natCast _))) ?_;simp only[zz];refine aK rfl ((Se (hrow3.ext m.ext)).lies xQ dB) ?_;simp only[zz];refine bF m wE rfl ?_;clear m;intro g2 u m;refine aA (aC) ?_;simp only[zz];refine aU m 0 rfl rfl rfl dB (eB rfl) rfl ?_;clear m;intro u m;simp only[zy,zx,bE,zF,zG,Nat.reduceAdd] at m;refine aG (k22 _ _ ?_);refine aD fun K23 k23=>aD fun K24 k24=>?_;rcases Nat.eq_zero_or_pos k with hk0 | hk0
       ·
        refine mq m aO (by kernel_rfl) (aL (aB) ?_);simp only[zz];refine aL (uL rfl rfl (by omega)) (aL (aB) (iQ rfl (iQ rfl ?_)));simp only[zz];refine iQ rfl (iQ rfl (iQ rfl (iQ rfl ?_)));simp only[zz];refine iQ rfl (iQ rfl (iQ rfl (iQ rfl ?_)));simp only[zz];refine iQ rfl (iQ rfl (iQ rfl (aL (eG rfl) ?_)));simp only[zz];refine aL (aB) (eY rfl (aL (aB) (eY rfl (aL (aN (c:=2) iY rfl aF rfl rfl) (eY rfl ?_)))));simp only[zz];refine ql rfl (fun u m=>((m.b 0 rfl).lies aJ aF rfl rfl)) ?_;simp only[zz,zy,Nat.zero_add,Nat.reduceAdd,Nat.reduceMul,Int.reduceToNat];refine eY rfl (xF (fun u m=>fB (ek:=pt) (en:=Value.bool) (k:=mv.1) (v0:=false) nV mX iM rfl rfl (m.p 3 rfl) hD9) ?_);simp only[zz];refine eY rfl (aL (eZ rfl) (aL (eG rfl) (aL (aB) (eA rfl (fun hb=>aB) ?_))));simp only[zz];refine eA rfl (fun hb=>aN (c:=2) iY rfl aF rfl rfl) ?_;simp only[zz];refine iE rfl (fun hb u m=>cE (bO hb rfl) ((m.b 0 rfl).lies aJ aF rfl rfl)) ?_;simp only[zz,zy,Nat.zero_add,Nat.reduceAdd,Nat.reduceMul,Int.reduceToNat];refine iE rfl (fun hb u m=>fB (ek:=pt) (en:=Value.bool) (k:=mv.2) (v0:=false) nV mX iM (bO hb rfl) (bO hb rfl) (m.p 2 rfl) hD10) ?_;simp only[zz];refine eA rfl (fun hb=>eZ (bO hb rfl)) (aL (fV rfl rfl rfl) (aL (aB) (eA rfl (fun hb=>aB) ?_)));simp only[zz];refine eA rfl (fun hb=>aN (c:=2) iY rfl aF rfl rfl) ?_;simp only[zz];refine iE rfl (fun hb u m=>cE (bO hb rfl) ((m.b 0 rfl).lies aJ aF rfl rfl)) ?_;simp only[zz,zy,Nat.zero_add,Nat.reduceAdd,Nat.reduceMul,Int.reduceToNat];refine iE rfl (fun hb u m=>fB (ek:=pt) (en:=Value.bool) (k:=mv.2) (v0:=false) nV mX iM (bO hb rfl) (bO hb rfl) (m.p 1 rfl) hD12) ?_;simp only[zz];refine eA rfl (fun hb=>eZ (bO hb rfl)) (aL (fV rfl rfl rfl) (dF ?_));clear m;intro u m;refine k24 _ _ ?_;simp only[zz];refine eI rfl (fun hc4=>?_) (fun hc4=>?_)
        ·
         have hmr : oB fs gs ms (aS fs) k mv = false:=by rw [wN (rim:=(aS fs)) hmem hmem2,hk0];exact ahd hc4
         refine aD fun K25 k25=>wp_region_lit (aA (aC) (aG (k25 _ _ ?_)));refine wp_ret ?_;simp only[zz];try simp only[Exit.inBlock,Exit.then,if_true]
         refine bM rfl rfl ?_;try simp only[zD,zE]
         exact ⟨_,rfl,_,_,by rw [if_neg (by rw [Ak hmv hmr];exact Bool.false_ne_true)],m.sel [false,false,false,false,true,true,true,true],fun h=>by rw [Ak hmv hmr] at h;cases h⟩
        ·
         have hmr : oB fs gs ms (aS fs) k mv = true:=by rw [wN (rim:=(aS fs)) hmem hmem2,hk0];exact ahc hc4
         have hok2 : ∀ i mv,i < k + 1 → ms[i]? = some mv → oB fs gs ms (aS fs) i mv = true:=fun i mw hi hmw=>by
          rcases Nat.lt_or_ge i k with h | h
          · exact hok i mw h hmw
          ·
           obtain rfl : i = k:=by omega
           obtain rfl:=Option.some.inj (hmv.symm.trans hmw);exact hmr
         refine wp_skip (k23 _ _ ?_);refine mh m [true,true,true,true,true,true,false,true] [(0,true),(1,true),(2,true),(4,true),(6,true),(3,true),(5,true),(7,true),(8,false)] aO (by kernel_rfl) (dV (fun _ _ _ _ _ h=>h)) (ol:=?_) ?hol ?_
         case hol=>simp only[zw,zQ,zR];try rfl
         clear m;intro u m;refine bH (aB) (bH (dC rfl) (bH (aN (c:=0) jN rfl yS rfl rfl) (bH (aN (c:=2) iY rfl aF rfl rfl) ?_)));simp only[zz];refine bH (aN (c:=2) iY rfl aF rfl rfl) ?_;simp only[zz];refine dQ rfl (fun u m=>((m.b 5 rfl).lies1 Qu rfl)) ?_;simp only[zz];refine dQ rfl (fun u m=>((m.b 0 rfl).lies aJ aF rfl rfl)) ?_;simp only[zz,zy,Nat.zero_add,Nat.reduceAdd,Nat.reduceMul,Int.reduceToNat];refine dQ rfl (fun u m=>((m.b 0 rfl).lies aJ aF rfl rfl)) ?_;simp only[zz,zy,Nat.zero_add,Nat.reduceAdd,Nat.reduceMul,Int.reduceToNat];refine cZ (fZ (ek:=pt) (en:=pt) (a:=mv.1) (v:=mv.2) m 6 rfl underlying71 iM rfl rfl rfl hD7 ?_);clear m;intro es7 c7 u m hD';clear hD7;have hD7:=hD';clear hD';simp only[zF,zG] at m;refine aG (⟨m.sel [true,true,true,true,true,true,false,true],?_⟩);refine eC (k21 _ _ ?_);refine wp_region_lit (aA (aP rfl rfl (aM (by omega) (by omega))) (aA (aB) (aG ?_)));simp only[zz];simp only[Exit.inBlock,Exit.then];refine ⟨N3 - (k + 1),_,?_,rfl,?_,?_⟩
         · omega
         · simp only[zz,zv]
         ·
          simp only[zQ,zR,zD,zE];exact ⟨k + 1,_,_,rfl,(m.sel [false,true,true,true,true,true,true,true]),by rw [dO hmv,Gy];exact hD7,hok2,by omega,rfl⟩
       ·
        obtain ⟨j,rfl⟩ : ∃ j,k = j + 1:=⟨k - 1,by omega⟩
        obtain ⟨mw,hmw,a4,ha4,hrow4⟩:=hL3.get (i:=j) (by omega);cases ha4;refine mq m aO (by kernel_rfl) (aL (aB) ?_);simp only[zz];refine aL (xG rfl rfl (by omega)) (aL (aB) (eY rfl (aL (aB) (eY rfl (aL (dC rfl) ?_)))));simp only[zz];refine eY rfl (aL (aN (c:=0) jN rfl vF rfl rfl) (eY rfl ?_));simp only[zz];refine ql rfl (fun u m=>((m.b 5 rfl).lies1 Lb rfl)) ?_;simp only[zz];refine eY rfl (aL (aB) (eY rfl ?_));simp only[zz];refine aL (eX rfl rfl (aM (by omega) (by omega))) (eY rfl ?_);simp only[zz];refine aL (aI fP dB rfl rfl (by omega) (by omega) (bV (show Int.toNat (((j + 1 : Nat) : Int) - 1) = j by omega))) (eY rfl (aL (aN (c:=2) iY rfl aF rfl rfl) (eY rfl ?_)));simp only[zz];refine ql rfl (fun u m=>((((Se (hrow4.ext m.ext)).sub 0).take 3).lies aJ aF)) ?_;simp only[zz];refine eY rfl (aL (aN (c:=2) iY rfl aF rfl rfl) (eY rfl ?_));simp only[zz];refine ql rfl (fun u m=>((m.b 0 rfl).lies aJ aF rfl rfl)) ?_;simp only[zz,zy,Nat.zero_add,Nat.reduceAdd,Nat.reduceMul,Int.reduceToNat];refine eY rfl (tE rfl rfl (wP.pure) (eY rfl (aL (eZ rfl) (aL (cB rfl) (aL (aB) ?_)))));simp only[zz];refine eA rfl (fun hb=>aB) (eA rfl (fun hb=>aN (c:=2) iY rfl aF rfl rfl) ?_);simp only[zz];refine iE rfl (fun hb u m=>cE (bO hb rfl) ((m.b 0 rfl).lies aJ aF rfl rfl)) ?_;simp only[zz,zy,Nat.zero_add,Nat.reduceAdd,Nat.reduceMul,Int.reduceToNat];refine iE rfl (fun hb u m=>fB (ek:=pt) (en:=Value.bool) (k:=mv.1) (v0:=false) nV mX iM (bO hb rfl) (bO hb rfl) (m.p 3 rfl) hD9) ?_;simp only[zz];refine eA rfl (fun hb=>eZ (bO hb rfl)) (aL (fV rfl rfl rfl) (aL (aB) (eA rfl (fun hb=>aB) ?_)));simp only[zz];refine eA rfl (fun hb=>aN (c:=2) iY rfl aF rfl rfl) ?_;simp only[zz];refine iE rfl (fun hb u m=>cE (bO hb rfl) ((m.b 0 rfl).lies aJ aF rfl rfl)) ?_;simp only[zz,zy,Nat.zero_add,Nat.reduceAdd,Nat.reduceMul,Int.reduceToNat];refine iE rfl (fun hb u m=>fB (ek:=pt) (en:=Value.bool) (k:=mv.2) (v0:=false) nV mX iM (bO hb rfl) (bO hb rfl) (m.p 2 rfl) hD10) ?_;simp only[zz];refine eA rfl (fun hb=>eZ (bO hb rfl)) (aL (fV rfl rfl rfl) (aL (aB) (eA rfl (fun hb=>aB) ?_)));simp only[zz];refine eA rfl (fun hb=>aN (c:=2) iY rfl aF rfl rfl) ?_;simp only[zz];refine iE rfl (fun hb u m=>cE (bO hb rfl) ((m.b 0 rfl).lies aJ aF rfl rfl)) ?_;simp only[zz,zy,Nat.zero_add,Nat.reduceAdd,Nat.reduceMul,Int.reduceToNat];refine iE rfl (fun hb u m=>fB (ek:=pt) (en:=Value.bool) (k:=mv.2) (v0:=false) nV mX iM (bO hb rfl) (bO hb rfl) (m.p 1 rfl) hD12) ?_;simp only[zz];refine eA rfl (fun hb=>eZ (bO hb rfl)) (aL (fV rfl rfl rfl) (dF ?_));clear m;intro u m;refine k24 _ _ ?_;simp only[zz];refine eI rfl (fun hc4=>?_) (fun hc4=>?_)
        ·
         have hmr : oB fs gs ms (aS fs) (j + 1) mv = false:=by rw [wN (rim:=(aS fs)) hmem hmem2,Nat.add_sub_cancel,hmw];exact ahf hc4
         refine aD fun K26 k26=>wp_region_lit (aA (aC) (aG (k26 _ _ ?_)));refine wp_ret ?_;simp only[zz];try simp only[Exit.inBlock,Exit.then,if_true]
         refine bM rfl rfl ?_;try simp only[zD,zE]
         exact ⟨_,rfl,_,_,by rw [if_neg (by rw [Ak hmv hmr];exact Bool.false_ne_true)],m.sel [false,false,false,false,true,true,true,true],fun h=>by rw [Ak hmv hmr] at h;cases h⟩
        ·
         have hmr : oB fs gs ms (aS fs) (j + 1) mv = true:=by rw [wN (rim:=(aS fs)) hmem hmem2,Nat.add_sub_cancel,hmw];exact ahe hc4
         have hok2 : ∀ i mv,i < j + 1 + 1 → ms[i]? = some mv → oB fs gs ms (aS fs) i mv = true:=fun i mw hi hmw=>by
          rcases Nat.lt_or_ge i (j + 1) with h | h
          · exact hok i mw h hmw
          ·
           obtain rfl : i = j + 1:=by omega
           obtain rfl:=Option.some.inj (hmv.symm.trans hmw);exact hmr
         refine wp_skip (k23 _ _ ?_);refine mh m [true,true,true,true,true,true,false,true] [(0,true),(1,true),(2,true),(4,true),(6,true),(3,true),(5,true),(7,true),(8,false)] aO (by kernel_rfl) (dV (fun _ _ _ _ _ h=>h)) (ol:=?_) ?hol ?_
         case hol=>simp only[zw,zQ,zR];try rfl
         clear m;intro u m;refine bH (aB) (bH (dC rfl) (bH (aN (c:=0) jN rfl yS rfl rfl) (bH (aN (c:=2) iY rfl aF rfl rfl) ?_)));simp only[zz];refine bH (aN (c:=2) iY rfl aF rfl rfl) ?_;simp only[zz];refine dQ rfl (fun u m=>((m.b 5 rfl).lies1 Qu rfl)) ?_;simp only[zz];refine dQ rfl (fun u m=>((m.b 0 rfl).lies aJ aF rfl rfl)) ?_;simp only[zz,zy,Nat.zero_add,Nat.reduceAdd,Nat.reduceMul,Int.reduceToNat];refine dQ rfl (fun u m=>((m.b 0 rfl).lies aJ aF rfl rfl)) ?_;simp only[zz,zy,Nat.zero_add,Nat.reduceAdd,Nat.reduceMul,Int.reduceToNat];refine cZ (fZ (ek:=pt) (en:=pt) (a:=mv.1) (v:=mv.2) m 6 rfl underlying71 iM rfl rfl rfl hD7 ?_);clear m;intro es7 c7 u m hD';clear hD7;have hD7:=hD';clear hD';simp only[zF,zG] at m;refine aG (⟨m.sel [true,true,true,true,true,true,false,true],?_⟩);refine eC (k21 _ _ ?_);refine wp_region_lit (aA (aP rfl rfl (aM (by omega) (by omega))) (aA (aB) (aG ?_)));simp only[zz];simp only[Exit.inBlock,Exit.then];refine ⟨N3 - (j + 1 + 1),_,?_,rfl,?_,?_⟩
         · omega
         · simp only[zz,zv]
         ·
          simp only[zQ,zR,zD,zE];exact ⟨j + 1 + 1,_,_,rfl,(m.sel [false,true,true,true,true,true,true,true]),by rw [dO hmv,Gy];exact hD7,hok2,by omega,rfl⟩
      ·
       have hkN : k = N3:=by omega
       rw [List.take_of_length_le (by omega)] at hD7;have hall : lM fs gs ms (aS fs) = true:=qS.2 fun i mv hm=>hok i mv (by have:=(List.getElem?_eq_some_iff.1 hm).1;omega) hm;refine wp_exit (k17 _ _ ?_);refine aD fun K27 k27=>wp_region_lit (aA (aC) (aG (k27 _ _ ?_)));refine wp_ret ?_;simp only[zz];try simp only[Exit.inBlock,Exit.then,if_true]
       refine bM rfl rfl ?_;try simp only[zD,zE]
       exact ⟨_,rfl,_,_,by rw [if_pos hall],m.sel [false,false,false,true,true,true,true],fun _=>hD7⟩
end Go.Proofs.YtfohfflkhpfjeaaGreatDoor
