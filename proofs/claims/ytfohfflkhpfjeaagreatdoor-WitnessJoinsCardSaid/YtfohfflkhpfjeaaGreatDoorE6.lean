/-
 Texts of one claim, laid together: Wide2, Wide3, Wide4, Wide5, Back, Wide7, Wide8, Wide9, Wide10, W6, Pack, W7, W8.
-/
import Derived.RangeFuncNested
import Derived.RangeFuncBound
import Derived.RangeFuncCalls
import Derived.RangeFuncBox
import Derived.RangeFuncLeaves
import Derived.Shelf.Abstract
import Derived.Shelf.RegionOpen
import Derived.WalkKit
import Derived.OwnWalkIn
import Derived.TacticsInMore
import Derived.LoopNIn
import Derived.LoopIn
import Derived.Maps.AppendAt
import Derived.Test.YtfohfflkhpfjeaaGreatDoorE5
set_option maxHeartbeats 8000000
set_option linter.unusedSimpArgs false
set_option linter.unusedVariables false
set_option linter.unusedSectionVars false
namespace Go.Proofs.YtfohfflkhpfjeaaGreatDoor
open Go.Proofs.Tryz
open Go.RowKit Go.Lith
set_option maxRecDepth 100000
attribute [local irreducible] wpList wpQuiet dY Code.wp
theorem Rs {A : Option Addr} {xs : List Nat} {na ca d : Nat} (w : World) (hS : dM w A na ca xs) (hlx : xs.length ≤ 1099511627776) (h0 : 0 < d) (h32 : d ≤ 4294967296) : eL prog 117 [.slice A na ca,.int .u64 (d : Int)] w (fun v w'=>∃ q,v = .tuple #[q,.int .u64 ((val 4294967296 xs % d : Nat) : Int)] ∧ gI (val 4294967296 xs / d) q w'):=by
 skip
 refine ⟨acU,?_⟩;have hX:=dK.refl w;obtain rfl:=hS.eq
 go_enter func117,ntmps117
 refine aF (fun K1 hK1=>wp_region_lit (aA (aD) (aA (aD) ?_)));simp only[zz];refine aG (hK1 _ _ ?_);refine aF (fun K2 hK2=>wp_region_lit (aA (aB) (aA (bA rfl bD rfl) ?_)));simp only[zz];refine jE bD lY rfl rfl rfl (Int.toNat_natCast _) (Int.toNat_natCast _) (by omega) (by omega) (by omega) (by omega) ?_;intro w1 g1 hE hg1 hB1;have hG1:=Nat.le_trans hX.size hg1;replace hX:=hX.trans hE;clear hE hg1;simp only[zz];refine aA (aD) ?_;simp only[zz];refine aG ?_;rw [fY] at hB1;refine hK2 _ _ (aF (fun K3 hK3=>wp_region_lit (aA (aD) ?_)));simp only[zz];refine aG (hK3 _ _ ?_);refine aF (fun K4 hK4=>aF (fun K5 hK5=>wp_region_lit (aA (aB) (aA (bA rfl bD rfl) (aA (eO rfl rfl (aM (by omega) (by omega))) ?_)))));simp only[zz];refine aA (aD) ?_;simp only[zz];refine aG (hK5 _ _ ?_);refine wp_block (bJ [7,8] [15,16,17,18,19,20,21,22,23,24,25,26,27,28,29,30,31,32,33,34] (fun n vs wl=>∃ (k r : Nat) (os : List Nat),vs = [.int .u64 (r:Int),.int .i64 ((k:Int) - 1)] ∧ (dK w wl) ∧ (gD wl g1 (os.map kH) 126) ∧ (k ≤ xs.length) ∧ (os.length = xs.length) ∧ (val 4294967296 (xs.drop k) = d * val 4294967296 (os.drop k) + r) ∧ (r < d) ∧ (cZ 4294967296 os) ∧ (n = k)) ?_ ?_)
 ·
  apply Exists.intro;simp only[zQ,zR,zD,zE];exact ⟨xs.length,0,List.replicate xs.length 0,rfl,hX,hB1,by omega,by simp,by rw [List.drop_length,List.drop_of_length_le (by simp)];simp only[val,Nat.mul_zero],h0,fun x hx=>by rw [List.eq_of_mem_replicate hx];decide,rfl⟩
 ·
  intro n vs wr hI u;obtain ⟨k,r,os,rfl,hX,hB1,hk,hlo,hv,hr,hd,hn⟩:=hI;simp only[zu,zF,zG];refine aF (fun K6 hK6=>aF (fun K7 hK7=>wp_region_lit (aA (aB) (aA (pP rfl rfl) ?_))));simp only[zz];refine aG (hK7 _ _ ?_);refine cC rfl (fun hc1=>?_) (fun hc1=>?_)
  ·
   refine wp_skip ?_;refine hK6 _ _ (aF (fun K8 hK8=>wp_block (aF (fun K9 hK9=>?_))));obtain ⟨a,rfl,hca,hla⟩:=(hS.ext hX).get (show k - 1 < xs.length by omega);have hr32 : r < 4294967296:=by omega
   refine wp_region_lit (aA (aB) (aA (Ah rfl rfl (by omega) (sM (n:=32) (by omega) (by omega))) (aA (aB) ?_)));simp only[zz];refine aA (aB) (aA (aK bD bC rfl rfl (by omega) (by omega) (gF (show _ = k - 1 by omega))) ?_);simp only[zz];refine aL rfl (lies1 hca eY) ?_;simp only[zz];refine aA (Ke rfl rfl (Bp (s:=32) (c:=r) (by omega) (by omega) (by omega))) (aA (aD) ?_);simp only[zz];refine aG (hK9 _ _ ?_);obtain ⟨t,ht⟩ : ∃ t : Nat,t = xs[k - 1] + r * 4294967296:=⟨_,rfl⟩
   rw [← ht];have ht64 : t < 18446744073709551616:=by omega
   have hd64 : (d : Int) ≠ 0:=by omega
   refine Fq [(0,true),(1,true),(2,true),(3,true),(4,true),(5,true),(6,true),(7,true),(8,true),(9,false),(10,true)] aP (by kernel_rfl) (dL (fun _ _ _ _ _ h=>h)) (ol:=?_) ?hol ?_
   case hol=>simp only[zw,zQ,zR];try rfl
   intro w2 hE;replace hB1:=hB1.ext hE;replace hX:=hX.trans hE;clear hE;refine vN (aB) (vN (aB) (vN (aB) ?_));simp only[zz];refine vN (aB) (vN (gY rfl rfl (by omega) (Br ht64)) (vN (aB) ?_));simp only[zz];refine vN (aB) (vN (cE rfl rfl (by omega) lC) (vN (aK bD bC rfl rfl (by omega) (by omega) (eZ (show _ = k - 1 by omega))) ?_));simp only[zz];refine acr ?_;refine dA rfl (by simp only[zz];rfl) (by exact bC) hB1 (by simp;omega) (by simp [Value.oneCell']) ?_;clear hB1;intro w3 hC hB1;replace hX:=hX.chg hC hG1;clear hC;rw [fV (by omega)] at hB1;refine aG (vN (aD) ?_);simp only[zz];refine ad0 (hK8 _ _ ?_);refine wp_region_lit (aA (aB) (aA (eO rfl rfl (aM (by omega) (by omega))) (aA (aD) ?_)));simp only[zz];refine aG ?_;obtain ⟨r1,r2,r3⟩:=Km (by omega) hk hlo hv hr hd hla;rw [← ht] at r1 r2 r3;rw [show ((k:Int) - 1 - 1) = ((k - 1 : Nat) : Int) - 1 by omega];simp only[Exit.inBlock,Exit.then];refine ⟨k - 1,_,?_,rfl,?_,?_⟩
   · omega
   · simp only[zz,zv]
   ·
    simp only[zQ,zR,zD,zE];exact ⟨k - 1,t % d,os.set (k - 1) (t / d),rfl,hX,hB1,by omega,by simpa using hlo,r1,r3,r2,rfl⟩
  ·
   refine wp_exit ?_;refine hK4 _ _ (aF (fun K10 hK10=>?_));obtain rfl : k = 0:=by omega
   refine wp_region_lit (aA (aB) ?_);simp only[zz];refine bE rfl rfl (rG _ (hB1.nat hd (by omega) (by omega))) ?_;rintro v w2 hE rfl;replace hB1:=hB1.ext hE;replace hX:=hX.trans hE;clear hE;simp only[zz];refine aA (aB) (aA (aD) (aA (aD) ?_));simp only[zz];refine aG (hK10 _ _ ?_);refine wp_ret ?_;try simp only[Exit.inBlock,Exit.then]
   refine jW rfl rfl rfl ?_;try simp only[zD,zE]
   (have hq : val 4294967296 os = val 4294967296 xs / d ∧ r = val 4294967296 xs % d:=Cq h0 hr (by simpa using hv));exact ⟨_,rfl,hX,_,by rw [hq.2],gI.of_trim (hB1.nat hd (n:=xs.length) (by omega) (by omega)) hq.1⟩
theorem Rt {A : Option Addr} {xs : List Nat} {na ca sh : Nat} (w : World) (hS : dM w A na ca xs) (hlx : xs.length ≤ 1099511627776) (hn : sh ≤ 31) : eL prog 133 [.slice A na ca,.int .i64 (sh : Int)] w (fun v w'=>∃ g os,v = .slice (some ⟨g,0,none⟩) (xs.length + 1) (xs.length + 1) ∧ w.heap.size ≤ g ∧ gD w' g (os.map kH) 126 ∧ os.length = xs.length + 1 ∧ cZ 4294967296 os ∧ val 4294967296 os = 2 ^ sh * val 4294967296 xs):=by
 skip
 refine ⟨ac5,?_⟩;have hX:=dK.refl w;obtain rfl:=hS.eq
 go_enter func133,ntmps133
 refine aF (fun K1 hK1=>wp_region_lit (aA (aD) ?_));simp only[zz];refine aG (hK1 _ _ ?_);refine aF (fun K2 hK2=>wp_region_lit (aA (aB) (aA (bA rfl bD rfl) (aA (aQ rfl rfl (aM (by omega) (by omega))) ?_))));simp only[zz];refine jE bD lY rfl rfl rfl (show _ = xs.length + 1 by omega) (show _ = xs.length + 1 by omega) (by omega) (by omega) (by omega) (by omega) ?_;intro w1 g1 hE hg1 hB1;have hG1:=Nat.le_trans hX.size hg1;replace hX:=hX.trans hE;clear hE hg1;simp only[zz];refine aA (aD) ?_;simp only[zz];refine aG ?_;rw [fY] at hB1;refine hK2 _ _ (aF (fun K3 hK3=>aF (fun K4 hK4=>wp_region_lit (aA (aB) (aA (bA rfl bD rfl) (aA (aB) ?_))))));simp only[zz];refine aG (hK4 _ _ ?_);refine wp_block (bJ [14] [6,7,15,16,17,18,19,20,21,22,23,24,25,26,27,28,29,30,31,32,33,34,35,36] (fun n vs wl=>∃ (i : Nat) (os : List Nat),vs = [.int .i64 (i:Int)] ∧ (dK w wl) ∧ (gD wl g1 (os.map kH) 126) ∧ (i ≤ xs.length) ∧ (os.length = xs.length + 1) ∧ (val 4294967296 os = 2 ^ sh * val 4294967296 (xs.take i)) ∧ (os.drop (i + 1) = List.replicate (xs.length - i) 0) ∧ (cZ 4294967296 os) ∧ (∀ h : i < os.length,os[i] < 2 ^ sh) ∧ (n = xs.length - i)) ?_ ?_)
 ·
  apply Exists.intro;simp only[zQ,zR,zD,zE];exact ⟨0,List.replicate (xs.length + 1) 0,rfl,hX,hB1,by omega,by simp,by rw [eT,List.take_zero];rfl,by rw [List.drop_replicate];congr 1,fun x hx=>by rw [List.eq_of_mem_replicate hx];decide,fun h=>by rw [List.getElem_replicate];exact Nat.pow_pos (by decide),rfl⟩
 ·
  intro n vs wr hI u;obtain ⟨i,os,rfl,hX,hB1,hi,hlo,hv,hz,hd,hc,hn⟩:=hI;simp only[zu,zF,zG];refine aF (fun K5 hK5=>wp_region_lit (aA (cO rfl rfl) ?_));simp only[zz];refine aG (hK5 _ _ ?_);refine aF (fun K6 hK6=>?_);refine cC rfl (fun hc1=>?_) (fun hc1=>?_)
  ·
   refine wp_skip ?_;refine hK6 _ _ (aF (fun K7 hK7=>wp_block (aF (fun K8 hK8=>?_))));obtain ⟨a,rfl,hca,hla⟩:=(hS.ext hX).get (show i < xs.length by omega);refine wp_region_lit (aA (aB) (aA (aK bD bC rfl rfl (by omega) (by omega) (gF (Int.toNat_natCast _))) ?_));simp only[zz];refine aL rfl (lies1 hca eY) ?_;simp only[zz];refine aA (aD) (aA (aD) ?_);simp only[zz];refine aG (hK8 _ _ ?_);refine aF (fun K9 hK9=>?_);have hm64:=Oa (n:=sh) (by omega) hla;have hf:=Bu (x:=xs[i]) (n:=sh) (by omega) (hc (by omega));refine wp_region_lit (aA (aB) (aA (aB) (aA (Ah rfl rfl (by omega) (sM (n:=sh) (by omega) hm64)) ?_)));simp only[zz];refine aA (aD) ?_;simp only[zz];refine aG (hK9 _ _ ?_);refine aF (fun K10 hK10=>?_);have hco:=hB1.word (show i < os.length by omega);have hmm : xs[i] * 2 ^ sh % 4294967296 < 4294967296:=Nat.mod_lt _ (by decide);refine wp_region_lit (aA (aB) (aA (aB) (aA (aK bD bC rfl rfl (by omega) (by omega) (eZ (Int.toNat_natCast _))) ?_)));simp only[zz];refine aL rfl (lies1 hco eY) ?_;simp only[zz];refine aA (aB) (aA (rK rfl rfl (Bq hm64)) (aA (Ke rfl rfl (Ik (s:=sh) (hc (by omega)) (Bt (by omega)) (by omega))) ?_));simp only[zz];refine aA (aK bD bC rfl rfl (by omega) (by omega) (eZ (Int.toNat_natCast _))) ?_;simp only[zz];refine dA rfl (by simp only[zz];rfl) (by exact bC) hB1 (by simp;omega) (by simp [Value.oneCell']) ?_;clear hB1;intro w2 hC hB1;replace hX:=hX.chg hC hG1;clear hC;rw [fV (by omega)] at hB1;refine aG (hK10 _ _ ?_);refine wp_region_lit (aA (aB) (aA (aB) (aA (aQ rfl rfl (aM (by omega) (by omega))) ?_)));simp only[zz];refine aA (aB) (aA (qJ rfl rfl (by omega) Nz) (aA (aK bD bC rfl rfl (by omega) (by omega) (eZ (show _ = i + 1 by omega))) ?_));simp only[zz];refine dA rfl (by simp only[zz];rfl) (by exact bC) hB1 (by simp;omega) (by simp [Value.oneCell']) ?_;clear hB1;intro w3 hC hB1;replace hX:=hX.chg hC hG1;clear hC;rw [fV (by simp;omega)] at hB1;refine aG (hK7 _ _ ?_);refine wp_region_lit (aA (aQ rfl rfl (aM (by omega) (by omega))) (aA (aB) ?_));simp only[zz];refine aG ?_;obtain ⟨r1,r2,r3,r4⟩:=Kp (by omega) (by omega) hlo hv hz hd (by omega) (hc (by omega)) hla;rw [show ((i:Int) + 1) = ((i + 1 : Nat) : Int) by omega];simp only[Exit.inBlock,Exit.then];refine ⟨xs.length - (i + 1),_,?_,rfl,?_,?_⟩
   · omega
   · simp only[zz,zv]
   ·
    simp only[zQ,zR,zD,zE];exact ⟨i + 1,(os.set i (os[i] + xs[i] * 2 ^ sh % 4294967296)).set (i + 1) (xs[i] * 2 ^ sh / 4294967296),rfl,hX,hB1,by omega,by simpa using hlo,r1,r2,r3,r4,rfl⟩
  ·
   refine wp_exit ?_;refine hK3 _ _ (aF (fun K11 hK11=>?_));obtain rfl : i = xs.length:=by omega
   refine wp_region_lit (aA (aB) (aA (aD) ?_));simp only[zz];refine aG (hK11 _ _ ?_);refine wp_ret ?_;try simp only[Exit.inBlock,Exit.then]
   refine bS rfl rfl ?_;try simp only[zD,zE]
   exact ⟨_,rfl,hX,_,os,rfl,hG1,hB1,hlo,hd,by rw [hv,List.take_length]⟩
theorem Vk {A : Option Addr} {xs : List Nat} {na ca sh : Nat} (w : World) (hS : dM w A na ca xs) (hlx : xs.length ≤ 1099511627776) (hn : sh ≤ 31) : eL prog 136 [.slice A na ca,.int .i64 (sh : Int)] w (gI (val 4294967296 xs / 2 ^ sh)):=by
 skip
 refine ⟨ac8,?_⟩;have hX:=dK.refl w;obtain rfl:=hS.eq
 go_enter func136,ntmps136
 refine aF (fun K1 hK1=>wp_region_lit (aA (aD) ?_));simp only[zz];refine aG (hK1 _ _ ?_);refine aF (fun K2 hK2=>wp_region_lit (aA (aB) (aA (bA rfl bD rfl) ?_)));simp only[zz];refine jE bD lY rfl rfl rfl (Int.toNat_natCast _) (Int.toNat_natCast _) (by omega) (by omega) (by omega) (by omega) ?_;intro w1 g1 hE hg1 hB1;have hG1:=Nat.le_trans hX.size hg1;replace hX:=hX.trans hE;clear hE hg1;simp only[zz];refine aA (aD) ?_;simp only[zz];refine aG ?_;rw [fY] at hB1;refine hK2 _ _ (aF (fun K3 hK3=>aF (fun K4 hK4=>wp_region_lit (aA (aB) (aA (bA rfl bD rfl) (aA (aB) ?_))))));simp only[zz];refine aG (hK4 _ _ ?_);refine wp_block (bJ [13] [6,7,14,15,16,17,18,19,20,21,22,23,24,25,26,27,28,29,30,31,32,33,34,35,36,37,38,39,40,41] (fun n vs wl=>∃ (i : Nat) (os : List Nat),vs = [.int .i64 (i:Int)] ∧ (dK w wl) ∧ (gD wl g1 (os.map kH) 126) ∧ (i ≤ xs.length) ∧ (os.length = xs.length) ∧ (val 4294967296 os = val 4294967296 (xs.take i) / 2 ^ sh) ∧ (os.drop i = List.replicate (xs.length - i) 0) ∧ (cZ 4294967296 os) ∧ (0 < i → ∀ h : i - 1 < os.length,os[i - 1] < 2 ^ (32 - sh)) ∧ (n = xs.length - i)) ?_ ?_)
 ·
  apply Exists.intro;simp only[zQ,zR,zD,zE];exact ⟨0,List.replicate xs.length 0,rfl,hX,hB1,by omega,by simp,by rw [eT,List.take_zero,show val 4294967296 [] = 0 from rfl,Nat.zero_div],rfl,fun x hx=>by rw [List.eq_of_mem_replicate hx];decide,fun h=>absurd h (by omega),rfl⟩
 ·
  intro n vs wr hI u;obtain ⟨i,os,rfl,hX,hB1,hi,hlo,hv,hz,hd,hc,hn⟩:=hI;simp only[zu,zF,zG];refine aF (fun K5 hK5=>wp_region_lit (aA (cO rfl rfl) ?_));simp only[zz];refine aG (hK5 _ _ ?_);refine aF (fun K6 hK6=>?_);refine cC rfl (fun hc1=>?_) (fun hc1=>?_)
  ·
   refine wp_skip ?_;refine hK6 _ _ (aF (fun K7 hK7=>wp_block (aF (fun K8 hK8=>?_))));obtain ⟨a,rfl,hca,hla⟩:=(hS.ext hX).get (show i < xs.length by omega);refine wp_region_lit (aA (aB) (aA (aK bD bC rfl rfl (by omega) (by omega) (gF (Int.toNat_natCast _))) ?_));simp only[zz];refine aL rfl (lies1 hca eY) ?_;simp only[zz];refine aA (aD) (aA (aD) ?_);simp only[zz];refine aG (hK8 _ _ ?_);refine aF (fun K9 hK9=>?_);have hco:=hB1.word (show i < os.length by omega);obtain ⟨z1,z2⟩:=gT hz (by omega);have hq : xs[i] / 2 ^ sh < 4294967296:=Nat.lt_of_le_of_lt (Nat.div_le_self _ _) hla;refine iP 9 aP (by kernel_rfl) ?_;simp only[zy];refine aI (aB) (aI (aB) (aI (aK bD bC rfl rfl (by omega) (by omega) (eZ (Int.toNat_natCast _))) ?_));simp only[zz];refine iQ rfl (fun _ hE'=>(lies1 (hE'.cell hco) eY)) ?_;simp only[zz];refine aI (aB) (aI (aB) (aI (qJ rfl rfl (by omega) (aaN (n:=sh) (by omega))) ?_));simp only[zz];refine aI (Ke rfl rfl (Ik (s:=0) (c:=xs[i] / 2 ^ sh) (by omega) (by omega) (by omega))) (aI (aK bD bC rfl rfl (by omega) (by omega) (eZ (Int.toNat_natCast _))) ?_);simp only[zz];refine cP ?_;intro w2 hE;replace hB1:=hB1.ext hE;replace hX:=hX.trans hE;clear hE;refine dA rfl (by simp only[zz];rfl) (by exact bC) hB1 (by simp;omega) (by simp [Value.oneCell']) ?_;clear hB1;intro w3 hC hB1;replace hX:=hX.chg hC hG1;clear hC;rw [fV (by omega),z1,Nat.zero_add] at hB1;refine aG (hK9 _ _ ?_);refine aF (fun K10 hK10=>wp_region_lit (aA (aB) (aA (oE rfl rfl) ?_)));simp only[zz];refine aG (hK10 _ _ ?_);refine cC rfl (fun hc2=>?_) (fun hc2=>?_)
   ·
    obtain ⟨j,rfl⟩ : ∃ j,i = j + 1:=⟨i - 1,by omega⟩
    have hm64:=Oa (x:=xs[j + 1]) (n:=32 - sh) (by omega) hla;have hcj:=hc (by omega) (by omega);simp only[Nat.add_sub_cancel] at hcj;have hf:=Bu (x:=xs[j + 1]) (n:=32 - sh) (by omega) hcj;have hmm : xs[j + 1] * 2 ^ (32 - sh) % 4294967296 < 4294967296:=Nat.mod_lt _ (by decide);have hco2:=hB1.word (show j < (os.set (j + 1) (xs[j + 1] / 2 ^ sh)).length by simp;omega);rw [List.getElem_set_ne (by omega)] at hco2;refine iP 12 aP (by kernel_rfl) ?_;simp only[zy];refine aI (aB) (aI (aB) (aI (eO rfl rfl (aM (by omega) (by omega))) ?_));simp only[zz];refine aI (aK bD bC rfl rfl (by omega) (by omega) (eZ (show _ = j by omega))) ?_;simp only[zz];refine iQ rfl (fun _ hE'=>(lies1 (hE'.cell hco2) eY)) ?_;simp only[zz];refine aI (aB) (aI (aB) (aI (eO rfl rfl ((aM (by omega) (by omega)).trans (show (32 : Int) - (sh : Int) = ((32 - sh : Nat) : Int) by omega))) ?_));simp only[zz];refine aI (Ah rfl rfl (by omega) (sM (n:=32 - sh) (by omega) hm64)) (aI (rK rfl rfl (Bq hm64)) (aI (Ke rfl rfl (Ik (s:=32 - sh) hcj (Bt (by omega)) (by omega))) ?_));simp only[zz];refine aI (aK bD bC rfl rfl (by omega) (by omega) (eZ (show _ = j by omega))) ?_;simp only[zz];refine cP ?_;intro w4 hE;replace hB1:=hB1.ext hE;replace hX:=hX.trans hE;clear hE;refine dA rfl (by simp only[zz];rfl) (by exact bC) hB1 (by simp;omega) (by simp [Value.oneCell']) ?_;clear hB1;intro w5 hC hB1;replace hX:=hX.chg hC hG1;clear hC;rw [fV (by simp;omega)] at hB1;refine aG (hK7 _ _ ?_);refine wp_region_lit (aA (aQ rfl rfl (aM (by omega) (by omega))) (aA (aB) ?_));simp only[zz];refine aG ?_;obtain ⟨r1,r2,r3⟩:=Fu (n:=sh) (by omega) (by omega) hlo hv hz hd hS.digs (by omega) hcj;rw [show (((j + 1 : Nat) : Int) + 1) = ((j + 1 + 1 : Nat) : Int) by omega];simp only[Exit.inBlock,Exit.then];refine ⟨xs.length - (j + 1 + 1),_,?_,rfl,?_,?_⟩
    · omega
    · simp only[zz,zv]
    ·
     simp only[zQ,zR,zD,zE];exact ⟨j + 1 + 1,(os.set (j + 1) (xs[j + 1] / 2 ^ sh)).set j (os[j] + xs[j + 1] * 2 ^ (32 - sh) % 4294967296),rfl,hX,hB1,by omega,by simpa using hlo,r1,r2,r3,fun _ h=>by simp only[Nat.add_sub_cancel];rw [List.getElem_set_ne (by omega),List.getElem_set_self];exact Wl (by omega) hla,rfl⟩
   ·
    refine wp_skip ?_;refine hK7 _ _ (wp_region_lit (aA (aQ rfl rfl (aM (by omega) (by omega))) (aA (aB) ?_)));simp only[zz];refine aG ?_;obtain rfl : i = 0:=by omega
    obtain ⟨r1,r2,r3⟩:=Fs (n:=sh) (by omega) (by omega) hlo hv hz hd hla;rw [show (((0 : Nat) : Int) + 1) = ((0 + 1 : Nat) : Int) by omega];simp only[Exit.inBlock,Exit.then];refine ⟨xs.length - (0 + 1),_,?_,rfl,?_,?_⟩
    · omega
    · simp only[zz,zv]
    ·
     simp only[zQ,zR,zD,zE];exact ⟨0 + 1,os.set 0 (xs[0] / 2 ^ sh),rfl,hX,hB1,by omega,by simpa using hlo,r1,r2,r3,fun _ h=>by simp only[Nat.add_sub_cancel];rw [List.getElem_set_self];exact Wl (by omega) hla,rfl⟩
  ·
   refine wp_exit ?_;refine hK3 _ _ (aF (fun K11 hK11=>?_));obtain rfl : i = xs.length:=by omega
   refine wp_region_lit (aA (aB) ?_);simp only[zz];refine bE rfl rfl (rG _ (hB1.nat hd (by omega) (by omega))) ?_;rintro v w2 hE rfl;replace hB1:=hB1.ext hE;replace hX:=hX.trans hE;clear hE;simp only[zz];refine aA (aD) ?_;simp only[zz];refine aG (hK11 _ _ ?_);refine wp_ret ?_;try simp only[Exit.inBlock,Exit.then]
   refine bS rfl rfl ?_;try simp only[zD,zE]
   exact ⟨_,rfl,hX,gI.of_trim (hB1.nat hd (n:=xs.length) (by omega) (by omega)) (by rw [hv,List.take_length])⟩
theorem Ru {A : Option Addr} {xs : List Nat} {na ca : Nat} (w : World) (hS : dM w A na ca xs) : eL prog 142 [.slice A na ca] w (aaR xs):=by
 skip
 refine ⟨adb,?_⟩;have hX:=dK.refl w;obtain rfl:=hS.eq;have hl:=hS.len
 go_enter func142,ntmps142
 refine aF (fun K1 hK1=>wp_region_lit (aA (aD) ?_));simp only[zz];refine aG (hK1 _ _ ?_);refine aF (fun K2 hK2=>aF (fun K3 hK3=>?_));rcases A with _ | a
 ·
  obtain rfl:=hS.none;refine wp_region_lit (aA (aB) (aA (Kn bD rfl rfl) ?_));simp only[zz];refine aG (hK3 _ _ ?_);refine cQ rfl (aF (fun K4 hK4=>wp_region_lit (aA (aD) ?_)));simp only[zz];refine aG (hK4 _ _ ?_);refine wp_ret ?_;try simp only[Exit.inBlock,Exit.then]
  refine bS rfl rfl ?_;try simp only[zD,zE]
  exact ⟨_,rfl,hX,none,0,rfl,dM.nil _⟩
 ·
  refine wp_region_lit (aA (aB) (aA (Kn bD rfl rfl) ?_));simp only[zz];refine aG (hK3 _ _ ?_);refine iD rfl (wp_skip ?_);refine hK2 _ _ (aF (fun K5 hK5=>wp_region_lit ?_));refine Wj bD (c:=1) (by kernel_rfl)  ?_;intro w1 g1 hE hg1 hB1;have hG1:=Nat.le_trans hX.size hg1;replace hX:=hX.trans hE;clear hE hg1;simp only[zz];refine aA (aB) ?_;simp only[zz];refine fU rfl bD lY rfl (by decide) rfl (iR.build0 (base:=g1) hB1 (Nat.le_refl _)) rfl (news:=xs.map kH) (by simp) (hS.ext hX).words (fun u hu=>by obtain ⟨x,_,rfl⟩:=List.mem_map.1 hu;rfl) (by omega) (by omega) (Nat.le_of_lt hB1.lt) ?_;intro v1 w9 hO hGr _;replace hX:=hX.grown hGr hG1;clear hB1 hGr;simp only[List.nil_append,Nat.zero_add] at hO;obtain ⟨A1,c1,rfl,hN⟩:=dM.of_owns hO rfl hS.digs (by omega);simp only[zz];refine aA (aD) ?_;simp only[zz];refine aG (hK5 _ _ ?_);refine wp_ret ?_;try simp only[Exit.inBlock,Exit.then]
  refine bS rfl rfl ?_;try simp only[zD,zE]
  exact ⟨_,rfl,hX,A1,c1,rfl,hN⟩
end Go.Proofs.YtfohfflkhpfjeaaGreatDoor
namespace Go.Proofs.YtfohfflkhpfjeaaGreatDoor
open Go.Proofs.Tryz
open Go.RowKit Go.Lith
set_option maxRecDepth 100000
attribute [local irreducible] wpList wpQuiet dY Code.wp
theorem Af {A : Option Addr} {xs : List Nat} {na cap : Nat} (w : World) (hS : dM w A na cap xs) : eL prog 132 [.slice A na cap] w (gI (val 4294967296 xs)) :=
 (rG w hS).mono fun v w' hE h=>by subst h;exact gI.of_trim (hS.ext hE) rfl
theorem aam {A B : Option Addr} {xs ys : List Nat} {na nb ca cb d : Nat} (w : World) (hS : dM w A na ca xs) (hR : dM w B nb cb ys) (hl : ys.length + 1 ≤ xs.length) (hly : ys.length ≤ 1099511627776) (hdd : d < 4294967296) : eL prog 134 [.slice A na ca,.slice B nb cb,.int .u64 (d : Int)] w (fun v _=>v = .bool (decide (val 4294967296 (xs.take (ys.length + 1)) < val 4294967296 ys * d))):=by
 skip
 refine ⟨ac6,?_⟩;have hX:=dK.refl w;obtain rfl:=hS.eq;obtain rfl:=hR.eq;have hle:=hS.le;have hcap:=hS.cap
 go_enter func134,ntmps134
 refine aF (fun K1 hK1=>wp_region_lit (aA (aD) ?_));simp only[zz];refine aG (hK1 _ _ ?_);refine aF (fun K2 hK2=>wp_region_lit (aA (aB) (aA (aB) (aA (bA rfl bD rfl) ?_))));simp only[zz];refine aA (aQ rfl rfl (aM (by omega) (by omega))) (aA (kZ bD bC rfl rfl (show _ = ys.length + 1 by omega) (by omega) (by omega)) ?_);simp only[zz];refine bE rfl rfl (Ru _ ((hS.ext hX).head hl)) ?_;rintro v w1 hE ⟨A1,c1,rfl,hN1⟩;replace hX:=hX.trans hE;clear hE;simp only[zz];refine bE rfl rfl (Af _ hN1) ?_;rintro v w2 hE ⟨A2,c2,rfl,hN2⟩;replace hX:=hX.trans hE;clear hE;simp only[zz];refine aA (aB) (aA (aB) ?_);simp only[zz];refine fD bD (z:=.int .u64 0) (by kernel_rfl) rfl (by simp only[zz];rfl) (by rfl) ?_;intro w3 g1 hE hg1 hB1;have hG1:=Nat.le_trans hX.size hg1
 (try replace hN2:=hN2.ext hE);replace hX:=hX.trans hE
 clear hE hg1;simp only[zz];refine bE rfl rfl (Af _ (hB1.nat (os:=[d]) (rO hdd) rfl (by omega))) ?_;rintro v w4 hE ⟨A3,c3,rfl,hN3⟩
 (try replace hN2:=hN2.ext hE);replace hX:=hX.trans hE
 clear hE;simp only[zz];refine bE rfl rfl (aal _ (hR.ext hX) hN3 hly (Nat.le_trans (oV (rO hdd)) (by simp))) ?_;rintro v w5 hE ⟨A4,c4,rfl,hN4⟩
 (try replace hN2:=hN2.ext hE);replace hX:=hX.trans hE
 clear hE;simp only[zz];refine bE rfl rfl (Rr _ hN2 hN4 (fZ _) (fZ _)) ?_;rintro v w6 hE rfl;replace hX:=hX.trans hE;clear hE;simp only[zz];refine aA (cO rfl rfl) (aA (aD) ?_);simp only[zz];refine aG (hK2 _ _ ?_);refine wp_ret ?_;try simp only[Exit.inBlock,Exit.then]
 refine bS rfl rfl ?_;try simp only[zD,zE]
 exact ⟨_,rfl,hX,by rw [Wn];simp only[cT,mZ]⟩
theorem Jt {B : Option Addr} {os ys : List Nat} {g0 off na nb cb d : Nat} (w : World) (hB0 : gD w g0 (os.map kH) 126) (hd : cZ 4294967296 os) (hlo : os.length ≤ 1099511627776) (hR : dM w B nb cb ys) (hoff : off + (ys.length + 1) ≤ os.length) (hna : na = os.length - off) (hdd : d < 4294967296) (hge : val 4294967296 ys * d ≤ val 4294967296 ((os.drop off).take (ys.length + 1))) : Wm prog 135 [.slice (some ⟨g0,off,none⟩) na na,.slice B nb cb,.int .u64 (d : Int)] w g0 (fun _ w'=>gD w' g0 ((laid os off (ys.length + 1) (val 4294967296 ((os.drop off).take (ys.length + 1)) - val 4294967296 ys * d)).map kH) 126):=by
 skip
 refine ⟨ac7,?_⟩;have hX:=dK.refl w;obtain rfl:=hR.eq;have hg0:=hB0.lt;have hS : dM w (some ⟨g0,off,none⟩) na na (os.drop off):=by
  have h:=(hB0.nat hd rfl (by omega)).drop (show off ≤ os.length by omega) hna;rw [gE,Nat.zero_add] at h;rwa [hna] at *
 have hle : ys.length + 1 ≤ (os.drop off).length:=by simp;omega
 obtain ⟨V,hV⟩ : ∃ V,V = val 4294967296 ((os.drop off).take (ys.length + 1)):=⟨_,rfl⟩
 rw [← hV] at hge ⊢
 go_enter func135,ntmps135
 refine aF (fun K1 hK1=>wp_region_lit (aA (aB) (aA (aB) (aA (bA rfl bD rfl) ?_))));simp only[zz];refine aA (aQ rfl rfl (aM (by omega) (by omega))) (aA (kZ bD bC rfl rfl (show _ = ys.length + 1 by omega) (by omega) (by omega)) ?_);simp only[zz];refine bE rfl rfl (Ru _ ((hS.ext hX).head hle)) ?_;rintro v w1 hE ⟨A1,c1,rfl,hN1⟩;replace hB0:=hB0.ext hE;replace hX:=hX.trans hE;clear hE;simp only[zz];refine aA (aB) (aA (aB) ?_);simp only[zz];refine fD bD (z:=.int .u64 0) (by kernel_rfl) rfl (by simp only[zz];rfl) (by rfl) ?_;intro w2 g1 hE hg1 hB1;have hG1:=Nat.le_trans hX.size hg1;have hN1_0 : g1 ≠ g0:=Nat.ne_of_gt (Nat.lt_of_lt_of_le hB0.lt hg1);replace hB0:=hB0.ext hE;(try replace hN1:=hN1.ext hE);replace hX:=hX.trans hE;clear hE hg1;simp only[zz];refine bE rfl rfl (Af _ (hB1.nat (os:=[d]) (rO hdd) rfl (by omega))) ?_;rintro v w3 hE ⟨A3,c3,rfl,hN3⟩;replace hB0:=hB0.ext hE;(try replace hN1:=hN1.ext hE);replace hX:=hX.trans hE;clear hE;simp only[zz];refine bE rfl rfl (aal _ (hR.ext hX) hN3 (by omega) (Nat.le_trans (oV (rO hdd)) (by simp))) ?_;rintro v w4 hE ⟨A4,c4,rfl,hN4⟩;replace hB0:=hB0.ext hE;(try replace hN1:=hN1.ext hE);replace hX:=hX.trans hE;clear hE;simp only[zz];have hsz:=hX.size;refine bE rfl rfl (aak _ hN1 hN4 (by simp only[cT,mZ];rw [List.length_take,Nat.min_eq_left hle];exact Bh hR.digs hdd) (by simp only[cT,mZ];rw [← hV];exact hge) (by rw [List.length_take];omega)) ?_;rintro v w5 hE ⟨⟨A5,c5,rfl,hN5⟩,hne⟩;replace hB0:=hB0.ext hE;replace hX:=hX.trans hE;clear hE;replace hne : ∀ a,A5 = some a → a.block ≠ g0:=fun a e=>by subst e;have:=hne a _ _ rfl;omega
 simp only[cT,mZ,← hV] at hN5 ⊢;have hm : (digs 4294967296 (V - val 4294967296 ys * d)).length ≤ ys.length + 1:=dQ (by omega) (Nat.lt_of_le_of_lt (Nat.sub_le _ _) (by have h:=gZ ((hd.drop off).take (ys.length + 1));rw [List.length_take,Nat.min_eq_left hle,← hV] at h;exact h));simp only[zz];refine aA (aD) ?_;simp only[zz];refine aG (hK1 _ _ ?_);refine aF (fun K2 hK2=>?_);replace hX:=hX.upd g0;have hG0 : w.heap.size ≤ g0 ∨ g0 = g0:=.inr rfl;refine wp_region_lit (aA (aB) (aA (aB) (aA (bA rfl bD rfl) ?_)));simp only[zz];refine aA (aQ rfl rfl (aM (by omega) (by omega))) (aA (kZ bD bC rfl rfl (show _ = ys.length + 1 by omega) (by omega) (by omega)) ?_);simp only[zz];refine aaP (z:=.int .u64 0) rfl bD (by kernel_rfl) rfl rfl (by omega) hB0 (by simp;omega) rfl ?_;clear hB0;intro w6 hC hB0
 (try replace hN5:=hN5.chg hC (by first | assumption | rfl));replace hX:=hX.chg hC hG0
 clear hC;refine aG (hK2 _ _ ?_);refine wp_region_lit (aA (aB) (aA (aB) ?_));simp only[zz];refine aaS rfl bD (by kernel_rfl) rfl rfl (g:=g0) (o:=off) (n:=na) (m:=(digs 4294967296 (V - val 4294967296 ys * d)).length) (us:=(digs 4294967296 (V - val 4294967296 ys * d)).map kH) (by rw [List.length_map];exact (Nat.min_eq_left (by omega)).symm) hN5.src hB0 (by rw [Kf (by simp;omega)];simp;omega) Wo ?_;clear hB0;intro w7 hC hB0;replace hX:=hX.chg hC hG0;clear hC;simp only[zz];refine aG ?_;try simp only[Exit.inBlock,Exit.then,if_true]
 exact ad2 rfl (⟨_,rfl,hX,by rw [← Ss hoff hm];exact hB0⟩)
end Go.Proofs.YtfohfflkhpfjeaaGreatDoor
namespace Go.Proofs.YtfohfflkhpfjeaaGreatDoor
open Go.Proofs.Tryz
open Go.RowKit Go.Lith
set_option maxRecDepth 100000
attribute [local irreducible] wpList wpQuiet dY Code.wp
theorem afQ {A B : Option Addr} {xs ys : List Nat} {na nb ca cb : Nat} (w : World) (hS : dM w A na ca xs) (hR : dM w B nb cb ys) (tx : fS xs) (ty : fS ys) (h0 : 0 < val 4294967296 ys) (hlx : xs.length ≤ 1000000000000) (hly : ys.length ≤ 1000000000000) : eL prog 115 [.slice A na ca,.slice B nb cb] w (fun v w'=>∃ q r,v = .tuple #[q,r] ∧ gI (val 4294967296 xs / val 4294967296 ys) q w' ∧ gI (val 4294967296 xs % val 4294967296 ys) r w'):=by
 skip
 refine ⟨acS,?_⟩;have hX:=dK.refl w;obtain rfl:=hS.eq;obtain rfl:=hR.eq
 go_enter func115,ntmps115
 refine aF (fun K1 hK1=>wp_region_lit (aA (aD) (aA (aD) ?_)));simp only[zz];refine aG (hK1 _ _ ?_);refine aF (fun K2 hK2=>aF (fun K3 hK3=>wp_region_lit (aA (aB) (aA (aB) ?_))));simp only[zz];refine bE rfl rfl (Rr _ (hS.ext hX) (hR.ext hX) tx ty) ?_;rintro v w1 hE rfl;replace hX:=hX.trans hE;clear hE;simp only[zz];refine aA (cO rfl rfl) ?_;simp only[zz];refine aG (hK3 _ _ ?_);refine cC rfl (fun hc1=>?_) (fun hc1=>?_)
 ·
  have hlt:=sN.1 hc1;refine aF (fun K4 hK4=>wp_region_lit (aA (aB) (aA (aD) (aA (aD) ?_))));simp only[zz];refine aG (hK4 _ _ ?_);refine wp_ret ?_;try simp only[Exit.inBlock,Exit.then]
  refine jW rfl rfl rfl ?_;try simp only[zD,zE]
  exact ⟨_,rfl,hX,_,_,rfl,by rw [Nat.div_eq_of_lt hlt];exact gI.zero _,by rw [Nat.mod_eq_of_lt hlt];exact gI.self (hS.ext hX) tx⟩
 ·
  have hYX : val 4294967296 ys ≤ val 4294967296 xs:=Nat.le_of_not_lt fun h=>hc1 (sN.2 h);refine wp_skip (hK2 _ _ ?_);refine aF (fun K5 hK5=>aF (fun K6 hK6=>wp_region_lit (aA (aB) (aA (bA rfl bD rfl) (aA (rJ rfl rfl) ?_)))));simp only[zz];refine aG (hK6 _ _ ?_);refine cC rfl (fun hc2=>?_) (fun hc2=>?_)
  ·
   refine aF (fun K7 hK7=>?_);obtain ⟨y,rfl⟩ : ∃ y,ys = [y]:=List.length_eq_one_iff.1 (by omega);obtain ⟨b,rfl,hcb,hyb⟩:=(hR.ext hX).get (i:=0) (by simp);simp only[List.getElem_cons_zero] at hcb hyb;refine wp_region_lit (aA (aB) (aA (aB) (aA (aK bD bC rfl rfl (by decide) (by omega) rfl) ?_)));simp only[zz];refine aL rfl (lies1 hcb eY) ?_;simp only[zz];refine bE rfl rfl (Rs _ (hS.ext hX) (by omega) (by rw [mZ] at h0;exact h0) (by omega)) ?_;rintro v w2 hE ⟨q,rfl,A1,c1,rfl,hN1⟩;replace hX:=hX.trans hE;clear hE;simp only[zz];refine aA (aB) (aA (bM rfl rfl) (aA (bM rfl rfl) ?_));simp only[zz];refine aA (aD) (aA (aD) ?_);simp only[zz];refine aG (hK7 _ _ ?_);refine aF (fun K8 hK8=>wp_region_lit (aA (aB) (aA (aB) ?_)));simp only[zz];refine fD bD (z:=.int .u64 0) (by kernel_rfl) rfl (by simp only[zz];rfl) (by rfl) ?_;intro w3 g1 hE hg1 hB1;have hG1:=Nat.le_trans hX.size hg1
   (try replace hN1:=hN1.ext hE);replace hX:=hX.trans hE
   clear hE hg1;simp only[zz];refine bE rfl rfl (Af _ (hB1.nat (os:=[val 4294967296 xs % y]) (rO (Nat.lt_of_lt_of_le (Nat.mod_lt _ (by rw [mZ] at h0;exact h0)) (by omega))) rfl (by omega))) ?_;rintro v w4 hE ⟨A2,c2,rfl,hN2⟩
   (try replace hN1:=hN1.ext hE);replace hX:=hX.trans hE
   clear hE;simp only[mZ] at hN2 ⊢;simp only[zz];refine aA (aD) (aA (aD) ?_);simp only[zz];refine aG (hK8 _ _ ?_);refine wp_ret ?_;try simp only[Exit.inBlock,Exit.then]
   refine jW rfl rfl rfl ?_;try simp only[zD,zE]
   exact ⟨_,rfl,hX,_,_,rfl,by rw [mZ];exact ⟨A1,c1,rfl,hN1⟩,by rw [mZ];exact ⟨A2,c2,rfl,hN2⟩⟩
  ·
   have hl2 : 2 ≤ ys.length:=by
    rcases ys with _ | ⟨y,ys⟩
    · exact absurd h0 (by simp [val])
    · simp only[List.length_cons] at hc2 ⊢;omega
   have hxy : ys.length ≤ xs.length:=by
    rcases Nat.lt_or_ge xs.length ys.length with h | h
    · have:=jN (B:=4294967296) (by omega) hS.digs hR.digs ty h;omega
    · exact h
   obtain ⟨b,rfl,_,hyb⟩:=hR.get (i:=ys.length - 1) (by omega);have htpy:=tR ty (by omega);refine wp_skip (hK5 _ _ ?_);refine aF (fun K9 hK9=>wp_region_lit (aA (aD) ?_));simp only[zz];refine aG (hK9 _ _ ?_);refine aF (fun K10 hK10=>wp_block ?_);refine bJ [8] [39,40,41,42,43,44,45,46,47,48,49,50] (fun n vs wl=>∃ (sh : Nat),vs = [.int .i64 (sh:Int)] ∧ (dK w wl) ∧ (ys[ys.length - 1] * 2 ^ sh < 4294967296) ∧ (sh ≤ 31) ∧ (n = 32 - sh)) ?_ ?_
   ·
    apply Exists.intro;simp only[zQ,zR,zD,zE];exact ⟨0,rfl,hX,by simpa using hyb,by omega,rfl⟩
   ·
    intro n vs wr hI u;obtain ⟨sh,rfl,hX,hsh,hs31,hn⟩:=hI;simp only[zu,zF,zG];refine aF (fun K11 hK11=>aF (fun K12 hK12=>?_));have hcb:=(hR.ext hX).at (show ys.length - 1 < ys.length by omega);refine wp_region_lit (aA (aB) (aA (aB) (aA (bA rfl bD rfl) ?_)));simp only[zz];refine aA (eO rfl rfl (aM (by omega) (by omega))) (aA (aK bD bC rfl rfl (by omega) (by omega) (gF (show _ = ys.length - 1 by omega))) ?_);simp only[zz];refine aL rfl (lies1 hcb eY) ?_;simp only[zz];refine aA (aB) (aA (Ah rfl rfl (by omega) (sM (n:=sh) (by omega) (Oa (by omega) hyb))) (aA (qJ rfl rfl (by omega) acs) ?_));simp only[zz];refine aA (rJ rfl rfl) ?_;simp only[zz];refine aG (hK12 _ _ ?_);refine cC rfl (fun hc3=>?_) (fun hc3=>?_)
    ·
     refine wp_skip ?_;refine hK11 _ _ (wp_block (wp_region_lit (aA (aB) (aA (aQ rfl rfl (aM (by omega) (by omega))) (aA (aD) ?_)))));simp only[zz];refine aG ?_;rw [show ((sh:Int) + 1) = ((sh + 1 : Nat) : Int) by omega];have hlt31 : ys[ys.length - 1] * 2 ^ sh < 2147483648:=by omega
     have hps : 2 ^ sh < 2 ^ 31:=Nat.lt_of_le_of_lt (Nat.le_mul_of_pos_left (2 ^ sh) htpy) hlt31;have hs30 : sh < 31:=(Nat.pow_lt_pow_iff_right (by omega)).1 hps;simp only[Exit.inBlock,Exit.then];refine ⟨32 - (sh + 1),_,?_,rfl,?_,?_⟩
     · omega
     · simp only[zz,zv]
     ·
      simp only[zQ,zR,zD,zE];exact ⟨sh + 1,rfl,hX,by rw [Nat.pow_succ,← Nat.mul_assoc];omega,by omega,rfl⟩
    ·
     refine wp_exit ?_;refine hK10 _ _ (aF (fun K13 hK13=>wp_region_lit (aA (aB) (aA (aB) ?_))));simp only[zz];refine bE rfl rfl (Rt _ (hS.ext hX) (by omega) (by omega)) ?_;rintro v w2 hE ⟨g1,us,rfl,hg1,hB1,hlu,hdu,hvu⟩;have hG1:=Nat.le_trans hX.size hg1;replace hX:=hX.trans hE;clear hE hg1;simp only[zz];refine aA (aB) (aA (aB) ?_);simp only[zz];refine bE rfl rfl (Rt _ (hR.ext hX) (by omega) (by omega)) ?_;rintro v w3 hE ⟨g2,vs0,rfl,hg2,hB2,hlv,hdv,hvv⟩;have hG2:=Nat.le_trans hX.size hg2;have hN2_1 : g2 ≠ g1:=Nat.ne_of_gt (Nat.lt_of_lt_of_le hB1.lt hg2);replace hB1:=hB1.ext hE;replace hX:=hX.trans hE;clear hE hg2;rw [← hlv];simp only[zz];refine bE rfl rfl (rG _ (hB2.nat hdv rfl (by omega))) ?_;rintro v w4 hE rfl;replace hB1:=hB1.ext hE;replace hB2:=hB2.ext hE;replace hX:=hX.trans hE;clear hE;simp only[zz];refine aA (aD) (aA (aD) ?_);simp only[zz];refine aG ?_;obtain ⟨ds,hvs⟩ : ∃ ds,ds = trim vs0:=⟨_,rfl⟩
     rw [← hvs];have hlvs : ds.length = ys.length:=by rw [hvs];exact St hdv hvv hR.digs (by omega) hsh htpy hs31
     have hdvs : cZ 4294967296 ds:=by rw [hvs];exact hdv.trim
     have hvvs : val 4294967296 ds = 2 ^ sh * val 4294967296 ys:=by rw [hvs,jF,hvv]
     obtain ⟨K,hK⟩ : ∃ K,K = xs.length + 1 - ds.length:=⟨_,rfl⟩
     refine hK13 _ _ ?_;refine aF (fun K14 hK14=>wp_region_lit (aA (aB) (aA (bA rfl bD rfl) (aA (aB) ?_))));simp only[zz];refine aA (bA rfl bD rfl) (aA (eO rfl rfl (aM (by omega) (by omega))) ?_);simp only[zz];refine jE bD lY rfl rfl rfl (show _ = K by omega) (show _ = K by omega) (by omega) (by omega) (by omega) (by omega) ?_;intro w5 g3 hE hg3 hB3;have hG3:=Nat.le_trans hX.size hg3;have hN3_1 : g3 ≠ g1:=Nat.ne_of_gt (Nat.lt_of_lt_of_le hB1.lt hg3);have hN3_2 : g3 ≠ g2:=Nat.ne_of_gt (Nat.lt_of_lt_of_le hB2.lt hg3);replace hB1:=hB1.ext hE;replace hB2:=hB2.ext hE;replace hX:=hX.trans hE;clear hE hg3;simp only[zz];refine aA (aD) ?_;simp only[zz];refine aG ?_;rw [fY] at hB3;refine hK14 _ _ (aF (fun K15 hK15=>?_));have hNv:=pT hB2 hdv (by omega);rw [← hvs] at hNv;have hct:=hNv.at (show ds.length - 1 < ds.length by omega);have hcs:=hNv.at (show ds.length - 2 < ds.length by omega);rw [gE,Nat.zero_add] at hct hcs;refine iM aP (by kernel_rfl) (aI (aB) (aI (aB) (aI (bA rfl bD rfl) ?_)));simp only[zz];refine aI (eO rfl rfl (aM (by omega) (by omega))) (aI (aK bD bC rfl rfl (by omega) (by omega) (eZ (show _ = ds.length - 1 by omega))) ?_);simp only[zz];refine iQ rfl (fun _ hE'=>(lies1 (hE'.cell hct) eY)) ?_;simp only[zz];refine aI (aB) (aI (aB) (aI (bA rfl bD rfl) ?_));simp only[zz];refine aI (eO rfl rfl (aM (by omega) (by omega))) (aI (aK bD bC rfl rfl (by omega) (by omega) (eZ (show _ = ds.length - 2 by omega))) ?_);simp only[zz];refine iQ rfl (fun _ hE'=>(lies1 (hE'.cell hcs) eY)) ?_;simp only[zz];refine aI (aD) (aI (aD) ?_);simp only[zz];refine cP ?_;intro w6 hE;replace hB1:=hB1.ext hE;replace hB2:=hB2.ext hE;replace hB3:=hB3.ext hE;replace hX:=hX.trans hE;clear hE;have htv : 0 < ds[ds.length - 1]:=tR (by rw [hvs];exact jX _) (by omega);obtain ⟨top,htop⟩ : ∃ top,top = ds[ds.length - 1]:=⟨_,rfl⟩
     obtain ⟨sec,hsec⟩ : ∃ sec,sec = ds[ds.length - 2]:=⟨_,rfl⟩
     have htB : top < 4294967296:=htop ▸ hdvs _ (List.getElem_mem _);have hsB : sec < 4294967296:=hsec ▸ hdvs _ (List.getElem_mem _);rw [← htop] at htv;rw [← htop,← hsec];refine hK15 _ _ (aF (fun K16 hK16=>aF (fun K17 hK17=>?_)));clear hNv hct hcs;refine wp_region_lit (aA (aB) (aA (bA rfl bD rfl) (aA (eO rfl rfl (aM (by omega) (by omega))) ?_)));simp only[zz];refine aA (aD) ?_;simp only[zz];refine aG (hK17 _ _ ?_);refine wp_block (bJ [14] [15,16,17,18,79,80,81,82,83,84,85,86,87,88,89,90,91,92,93,94,95,96,97,98,99,100,101,102,103,104,105,106,107,108,109,110,111,112,113,114,115,116,117,118,119,120,121,122,123,124,125,126,127,128,129,130,131,132,133,134,135,136,137,138,139,140,141,142,143,144,145,146] (fun n vs wl=>∃ (k : Nat) (us qs : List Nat),vs = [.int .i64 ((k:Int) - 1)] ∧ (dK w wl) ∧ (gD wl g1 (us.map kH) 126) ∧ (gD wl g2 (vs0.map kH) 126) ∧ (gD wl g3 (qs.map kH) 126) ∧ (k ≤ K) ∧ (us.length = xs.length + 1) ∧ (qs.length = K) ∧ (cZ 4294967296 us) ∧ (cZ 4294967296 qs) ∧ (val 4294967296 us + val 4294967296 qs * val 4294967296 ds = 2 ^ sh * val 4294967296 xs) ∧ (val 4294967296 (us.drop k) < val 4294967296 ds) ∧ (qs.take k = List.replicate k 0) ∧ (n = k)) ?_ ?_)
     ·
      apply Exists.intro;simp only[zQ,zR,zD,zE];exact ⟨K,us,List.replicate K 0,rfl,hX,hB1,hB2,hB3,Nat.le_refl _,hlu,by simp,hdu,fun x hx=>by rw [List.eq_of_mem_replicate hx];decide,by rw [eT,Nat.zero_mul];exact hvu,by rw [hK];exact Wu hS.digs hlu hvu (by omega) (by omega) hs31 (by rw [hvvs,hlvs];exact Su (by omega) (by omega)),by rw [List.take_of_length_le (by simp)],rfl⟩
     ·
      intro n vs wr hI u;obtain ⟨k,us,qs,rfl,hX,hB1,hB2,hB3,hk,hlu,hlq,hdu,hdq,hI,hH,hz,hn⟩:=hI;simp only[zu,zF,zG];refine aF (fun K18 hK18=>aF (fun K19 hK19=>wp_region_lit (aA (aB) (aA (pP rfl rfl) ?_))));simp only[zz];refine aG (hK19 _ _ ?_);refine cC rfl (fun hc4=>?_) (fun hc4=>?_)
      ·
       obtain ⟨i,rfl⟩ : ∃ i,k = i + 1:=⟨k - 1,by omega⟩
       rw [show (((i + 1 : Nat) : Int) - 1) = (i : Int) by omega];have hi : i + ds.length < us.length:=by omega
       refine wp_skip ?_;refine hK18 _ _ (aF (fun K20 hK20=>wp_block (aF (fun K21 hK21=>wp_region_lit (aA (aB) (aA (aB) (aA (bA rfl bD rfl) ?_)))))));simp only[zz];refine aA (aQ rfl rfl (aM (by omega) (by omega))) (aA (aD) ?_);simp only[zz];refine aG ?_;rw [show ((i:Int) + (ds.length:Int)) = ((i + ds.length : Nat) : Int) by omega];refine hK21 _ _ (aF (fun K22 hK22=>?_));have hco1:=hB1.word (show i + ds.length < us.length by omega);have hco2:=hB1.word (show i + ds.length - 1 < us.length by omega);have hb1 : us[i + ds.length] < 4294967296:=hdu _ (List.getElem_mem _);have hb2 : us[i + ds.length - 1] < 4294967296:=hdu _ (List.getElem_mem _);obtain ⟨a3,ha3⟩ : ∃ a3,a3 = us[i + ds.length - 2]:=⟨_,rfl⟩
       have hb3 : a3 < 4294967296:=ha3 ▸ hdu _ (List.getElem_mem _);obtain ⟨U,hU⟩ : ∃ U,U = val 4294967296 (us.drop i):=⟨_,rfl⟩
       refine iM aP (by kernel_rfl) (aI (aB) (aI (aB) (aI (aK bD bC rfl rfl (by omega) (by omega) (eZ (show _ = i + ds.length by omega))) ?_)));simp only[zz];refine iQ rfl (fun _ hE'=>(lies1 (hE'.cell hco1) eY)) ?_;simp only[zz];refine aI (Ah rfl rfl (by omega) (sM (n:=32) (by omega) (by omega))) (aI (aB) (aI (aB) ?_));simp only[zz];refine aI (eO rfl rfl (aM (by omega) (by omega))) (aI (aK bD bC rfl rfl (by omega) (by omega) (eZ (show _ = i + ds.length - 1 by omega))) ?_);simp only[zz];refine iQ rfl (fun _ hE'=>(lies1 (hE'.cell hco2) eY)) ?_;simp only[zz];refine aI (Ke rfl rfl (Bp (s:=32) (c:=us[i + ds.length]) (by omega) (by omega) (by omega))) (aI (aD) ?_);simp only[zz];refine cP ?_;intro w7 hE;replace hB1:=hB1.ext hE;replace hB2:=hB2.ext hE;replace hB3:=hB3.ext hE;replace hX:=hX.trans hE;clear hE;obtain ⟨two,htwo⟩ : ∃ two : Nat,two = us[i + ds.length - 1] + us[i + ds.length] * 4294967296:=⟨_,rfl⟩
       rw [← htwo];have ht64 : two < 18446744073709551616:=by omega
       obtain ⟨P,hP,f1,f2,f3,f4,f5,f6,f7⟩:=Sv hdu hdvs (by omega) hi hH htwo htop hsec ha3 hU;obtain ⟨q,hq⟩ : ∃ q,q = U / val 4294967296 ds:=⟨_,rfl⟩
       have hq1 : q * val 4294967296 ds ≤ U:=by rw [hq];exact Nat.div_mul_le_self _ _
       have hV0 : 0 < val 4294967296 ds:=by omega
       have hq2 : U < (q + 1) * val 4294967296 ds:=by rw [← Nat.div_lt_iff_lt_mul hV0];omega
       have hqB : q < 4294967296:=by rw [hq,Nat.div_lt_iff_lt_mul hV0];exact f7
       refine hK22 _ _ ?_;refine aF (fun K23 hK23=>?_);refine iM aP (by kernel_rfl) (aI (aB) (aI (aB) (aI (gY rfl rfl (by omega) (Br ht64)) ?_)));simp only[zz];refine aI (aB) (aI (aB) (aI (cE rfl rfl (by omega) lC) ?_));simp only[zz];refine aI (aD) (aI (aD) ?_);simp only[zz];refine cP ?_;intro w8 hE;replace hB1:=hB1.ext hE;replace hB2:=hB2.ext hE;replace hB3:=hB3.ext hE;replace hX:=hX.trans hE;clear hE;refine hK23 _ _ (aF (fun K24 hK24=>wp_block ?_));refine bJ [17,18] [104,105,106,107,108,109,110,111,112,113,114,115,116,117,118,119,120,121,122,123,124,125,126,127,128] (fun n vs wl=>∃ (gq rr : Nat),vs = [.int .u64 (gq:Int),.int .u64 (rr:Int)] ∧ (dK w wl) ∧ (gD wl g1 (us.map kH) 126) ∧ (gD wl g2 (vs0.map kH) 126) ∧ (gD wl g3 (qs.map kH) 126) ∧ (gq * top + rr = two) ∧ (q ≤ gq) ∧ (n = gq)) ?_ ?_
       ·
        apply Exists.intro;simp only[zQ,zR,zD,zE];exact ⟨two / top,two % top,rfl,hX,hB1,hB2,hB3,by rw [Nat.mul_comm];exact Nat.div_add_mod two top,Wq (by omega) f1 f2 hq1 htv,rfl⟩
       ·
        intro n vs wr hI u;obtain ⟨gq,rr,rfl,hX,hB1,hB2,hB3,hgr,hqg,hn3⟩:=hI;simp only[zu,zF,zG];refine aF (fun K25 hK25=>aF (fun K26 hK26=>?_));have hco3:=hB1.word (show i + ds.length - 2 < us.length by omega);rw [← ha3] at hco3;have Vz : gq ≤ two:=Nat.le_trans (Nat.le_mul_of_pos_right gq htv) (by omega);rcases (show 4294967295 < gq ∨ (gq ≤ 4294967295 ∧ 4294967295 < rr) ∨ (gq ≤ 4294967295 ∧ rr ≤ 4294967295) by omega) with hga | ⟨hga,hrr⟩ | ⟨hga,hrr⟩
        ·
         have hqg2 : q < gq:=by omega
         have hco3:=hB1.word (show i + ds.length - 2 < us.length by omega);rw [← ha3] at hco3;have Vz : gq ≤ two:=Nat.le_trans (Nat.le_mul_of_pos_right gq htv) (by omega);refine wp_region_lit (aA (aB) (aA (wB rfl rfl (by omega)) (aA (aB) ?_)));simp only[zz];refine fM rfl ?_;simp only[zz];refine fM rfl ?_;simp only[zz];refine fM rfl ?_;simp only[zz];refine kQ rfl ?_;simp only[zz];refine kQ rfl ?_;simp only[zz];refine kQ rfl ?_;simp only[zz];refine kQ rfl ?_;simp only[zz];refine kQ rfl ?_;simp only[zz];refine kQ rfl ?_;simp only[zz];refine kQ rfl ?_;simp only[zz];refine kQ rfl ?_;simp only[zz];refine kQ rfl ?_;simp only[zz];refine kQ rfl ?_;simp only[zz];refine kQ rfl ?_;simp only[zz];refine kQ rfl ?_;simp only[zz];refine fM rfl ?_;simp only[zz];refine aA (cJ rfl) ?_;simp only[zz];refine aG (hK26 _ _ ?_);refine cQ rfl (wp_skip ?_);refine hK25 _ _ (wp_block (aF (fun K27 hK27=>wp_region_lit (aA (aB) (aA (eO rfl rfl (eW (by omega) (by omega))) (aA (aD) ?_))))));simp only[zz];refine aG (hK27 _ _ ?_);have hgt2 : rr + top ≤ two:=by have:=Nat.le_mul_of_pos_left top (show 0 < gq by omega);omega
         refine wp_region_lit (aA (aB) (aA (aB) (aA (aQ rfl rfl (eW (by omega) (by omega))) ?_)));simp only[zz];refine aA (aD) ?_;simp only[zz];refine aG ?_;obtain ⟨g9,rfl⟩ : ∃ g9,gq = g9 + 1:=⟨gq - 1,by omega⟩
         rw [show (((g9 + 1 : Nat) : Int) - 1) = (g9 : Int) by omega,show ((rr:Int) + (top:Int)) = ((rr + top : Nat) : Int) by omega];simp only[Exit.inBlock,Exit.then];refine ⟨g9,_,?_,rfl,?_,?_⟩
         · omega
         · simp only[zz,zv]
         ·
          simp only[zQ,zR,zD,zE];exact ⟨g9,rr + top,rfl,hX,hB1,hB2,hB3,by rw [Nat.add_mul,Nat.one_mul] at hgr;omega,by omega,rfl⟩
        ·
         have hx : gq * sec ≤ a3 + rr * 4294967296:=Ww (by omega) hsB (by omega);have hco3:=hB1.word (show i + ds.length - 2 < us.length by omega);rw [← ha3] at hco3;have Vz : gq ≤ two:=Nat.le_trans (Nat.le_mul_of_pos_right gq htv) (by omega);refine wp_region_lit (aA (aB) (aA (tQ rfl rfl (by omega)) (aA (aB) ?_)));simp only[zz];refine bN rfl (aA (aB) ?_);simp only[zz];refine bN rfl (aA (Nw rfl rfl (by omega)) ?_);simp only[zz];refine bN rfl (aA (aB) ?_);simp only[zz];refine cN rfl ?_;simp only[zz];refine cN rfl ?_;simp only[zz];refine cN rfl ?_;simp only[zz];refine cN rfl ?_;simp only[zz];refine cN rfl ?_;simp only[zz];refine cN rfl ?_;simp only[zz];refine cN rfl ?_;simp only[zz];refine cN rfl ?_;simp only[zz];refine cN rfl ?_;simp only[zz];refine cN rfl ?_;simp only[zz];refine cN rfl ?_;simp only[zz];refine cN rfl ?_;simp only[zz];refine bN rfl (aA (cG rfl) (aA (cG rfl) ?_));simp only[zz];refine aG (hK26 _ _ ?_);refine iD rfl (wp_exit ?_);refine hK24 _ _ (aF (fun K28 hK28=>aF (fun K29 hK29=>?_)));have hNv:=pT hB2 hdv (by omega);rw [← hvs] at hNv;have hNu:=(hB1.nat hdu rfl (by omega)).drop (show i ≤ us.length by omega) rfl;rw [gE,Nat.zero_add,hlu] at hNu;have hU2 : val 4294967296 ((us.drop i).take (ds.length + 1)) = U:=by rw [← wZ hdvs (by omega) hH,hU]
         have hgl : gq ≤ q + 1:=Kr f4 f6 hq2 (Cr hgr hx) (by omega);obtain ⟨ge1,ge2⟩:=Gm hq1 hq2 hqg hgl;refine wp_region_lit (aA (aB) (aA (aB) (aA (kM bD bC rfl rfl (Int.toNat_natCast _) (by omega) (by omega) (uX (by omega))) ?_)));simp only[zz];refine aA (aB) (aA (aB) ?_);simp only[zz];refine bE rfl rfl (aam _ hNu hNv (by simp;omega) (by omega) (by omega)) ?_;rintro v w9 hE rfl;replace hB1:=hB1.ext hE;replace hB2:=hB2.ext hE;replace hB3:=hB3.ext hE;replace hX:=hX.trans hE;clear hE;simp only[zz];refine aG (hK29 _ _ ?_);refine cC rfl (fun hc6=>?_) (fun hc6=>?_)
         ·
          have hg1 : 0 < gq:=by
           rcases Nat.eq_zero_or_pos gq with h | h
           · rw [h,Nat.mul_zero] at hc6;exact absurd hc6 (Nat.not_lt_zero _)
           · exact h
          have hgq:=ge1 (by rw [← hU2];exact hc6);refine wp_region_lit (aA (aB) (aA (eO rfl rfl (eW (by omega) (by omega))) (aA (aD) ?_)));simp only[zz];refine aG ?_;rw [show ((gq:Int) - 1) = (q:Int) by omega];refine hK28 _ _ (aF (fun K30 hK30=>?_));clear hNv hNu;have hNv:=pT hB2 hdv (by omega);rw [← hvs] at hNv;refine wp_region_lit (aA (aB) (aA (aB) (aA (kM bD bC rfl rfl (Int.toNat_natCast _) (by omega) (by omega) (uX (by omega))) ?_)));simp only[zz];refine aA (aB) (aA (aB) ?_);simp only[zz];refine wY rfl rfl (Jt _ hB1 hdu (by omega) hNv (by omega) (by omega) hqB (by rw [hU2,Nat.mul_comm];exact hq1)) ?_;clear hB1;rintro v w10 hU hB1;replace hB2:=hB2.upd hU (by first | exact hN2_1 | exact Ne.symm hN1_2);replace hB3:=hB3.upd hU (by first | exact hN3_1 | exact Ne.symm hN1_3);replace hX:=hX.grownUpd hU hG1;clear hU;simp only[zz];refine aG (hK30 _ _ ?_);clear hNv;refine wp_region_lit (aA (aB) (aA (aB) (aA (aB) ?_)));simp only[zz];refine aA (aK bD bC rfl rfl (by omega) (by omega) (eZ (Int.toNat_natCast _))) ?_;simp only[zz];refine dA rfl (by simp only[zz];rfl) (by exact bC) hB3 (by simp;omega) (by simp [Value.oneCell']) ?_;clear hB3;intro w11 hC hB3;replace hB1:=hB1.chg hC (by first | exact hN1_3 | exact Ne.symm hN3_1);replace hB2:=hB2.chg hC (by first | exact hN2_3 | exact Ne.symm hN3_2);replace hX:=hX.chg hC hG3;clear hC;rw [fV (by omega)] at hB3;refine aG (hK20 _ _ ?_);refine wp_region_lit (aA (aB) (aA (eO rfl rfl (aM (by omega) (by omega))) (aA (aD) ?_)));simp only[zz];refine aG ?_;obtain ⟨r1,r2,r3,r4⟩:=uY hdvs hdu hi hH hU hq1 hq2 hI hz (by omega);simp only[Exit.inBlock,Exit.then];refine ⟨i,_,?_,rfl,?_,?_⟩
          · omega
          · simp only[zz,zv]
          ·
           simp only[zQ,zR,zD,zE];exact ⟨i,laid us i (ds.length + 1) (val 4294967296 ((us.drop i).take (ds.length + 1)) - val 4294967296 ds * q),qs.set i q,rfl,hX,hB1,hB2,hB3,by omega,by rw [r4];exact hlu,by simpa using hlq,uW hdu,hdq.set hqB,r1,r2,r3,rfl⟩
         ·
          have hgq:=ge2 (by rw [← hU2];exact hc6);rw [show (gq:Int) = (q:Int) by omega];refine wp_skip (hK28 _ _ ?_);refine aF (fun K31 hK31=>?_);clear hNv hNu;have hNv:=pT hB2 hdv (by omega);rw [← hvs] at hNv;refine wp_region_lit (aA (aB) (aA (aB) (aA (kM bD bC rfl rfl (Int.toNat_natCast _) (by omega) (by omega) (uX (by omega))) ?_)));simp only[zz];refine aA (aB) (aA (aB) ?_);simp only[zz];refine wY rfl rfl (Jt _ hB1 hdu (by omega) hNv (by omega) (by omega) hqB (by rw [hU2,Nat.mul_comm];exact hq1)) ?_;clear hB1;rintro v w10 hU hB1;replace hB2:=hB2.upd hU (by first | exact hN2_1 | exact Ne.symm hN1_2);replace hB3:=hB3.upd hU (by first | exact hN3_1 | exact Ne.symm hN1_3);replace hX:=hX.grownUpd hU hG1;clear hU;simp only[zz];refine aG (hK31 _ _ ?_);clear hNv;refine wp_region_lit (aA (aB) (aA (aB) (aA (aB) ?_)));simp only[zz];refine aA (aK bD bC rfl rfl (by omega) (by omega) (eZ (Int.toNat_natCast _))) ?_;simp only[zz];refine dA rfl (by simp only[zz];rfl) (by exact bC) hB3 (by simp;omega) (by simp [Value.oneCell']) ?_;clear hB3;intro w11 hC hB3;replace hB1:=hB1.chg hC (by first | exact hN1_3 | exact Ne.symm hN3_1);replace hB2:=hB2.chg hC (by first | exact hN2_3 | exact Ne.symm hN3_2);replace hX:=hX.chg hC hG3;clear hC;rw [fV (by omega)] at hB3;refine aG (hK20 _ _ ?_);refine wp_region_lit (aA (aB) (aA (eO rfl rfl (aM (by omega) (by omega))) (aA (aD) ?_)));simp only[zz];refine aG ?_;obtain ⟨r1,r2,r3,r4⟩:=uY hdvs hdu hi hH hU hq1 hq2 hI hz (by omega);simp only[Exit.inBlock,Exit.then];refine ⟨i,_,?_,rfl,?_,?_⟩
          · omega
          · simp only[zz,zv]
          ·
           simp only[zQ,zR,zD,zE];exact ⟨i,laid us i (ds.length + 1) (val 4294967296 ((us.drop i).take (ds.length + 1)) - val 4294967296 ds * q),qs.set i q,rfl,hX,hB1,hB2,hB3,by omega,by rw [r4];exact hlu,by simpa using hlq,uW hdu,hdq.set hqB,r1,r2,r3,rfl⟩
        ·
         have hco3:=hB1.word (show i + ds.length - 2 < us.length by omega);rw [← ha3] at hco3;have Vz : gq ≤ two:=Nat.le_trans (Nat.le_mul_of_pos_right gq htv) (by omega);refine wp_region_lit (aA (aB) (aA (tQ rfl rfl (by omega)) (aA (aB) ?_)));simp only[zz];refine bN rfl (aA (aB) ?_);simp only[zz];refine bN rfl (aA (Nv rfl rfl (by omega)) ?_);simp only[zz];refine bN rfl (aA (aB) ?_);simp only[zz];refine bN rfl (aA (aB) ?_);simp only[zz];refine bN rfl (aA (aB) ?_);simp only[zz];refine bN rfl (aA (fF rfl rfl (aaU (Nat.lt_of_le_of_lt (Wi (by omega) hsB) (by decide)))) ?_);simp only[zz];refine bN rfl (aA (aB) ?_);simp only[zz];refine bN rfl (aA (Ah rfl rfl (by omega) (sM (n:=32) (by omega) (by omega))) ?_);simp only[zz];refine bN rfl (aA (aB) ?_);simp only[zz];refine bN rfl (aA (aB) ?_);simp only[zz];refine bN rfl (aA (eO rfl rfl (aM (by omega) (by omega))) ?_);simp only[zz];refine bN rfl (aA (aK bD bC rfl rfl (by omega) (by omega) (eZ (show _ = i + ds.length - 2 by omega))) ?_);simp only[zz];refine bN rfl (aL rfl (lies1 hco3 eY) ?_);simp only[zz];refine bN rfl (aA (Ke rfl rfl (Bp (s:=32) (c:=rr) (by omega) (by omega) (by omega))) ?_);simp only[zz];refine bN rfl (aA (oE rfl rfl) ?_);simp only[zz];refine bN rfl (aA (cJ rfl) (aA (cG rfl) ?_));simp only[zz];refine aG (hK26 _ _ ?_);refine cC rfl (fun hc5=>?_) (fun hc5=>?_)
         ·
          have hqg2 : q < gq:=Ws hP f3 f5 hq1 (Ob hgr (by omega));refine wp_skip (hK25 _ _ ?_);refine wp_block (aF (fun K32 hK32=>wp_region_lit (aA (aB) (aA (eO rfl rfl (eW (by omega) (by omega))) (aA (aD) ?_)))));simp only[zz];refine aG (hK32 _ _ ?_);have hgt2 : rr + top ≤ two:=by have:=Nat.le_mul_of_pos_left top (show 0 < gq by omega);omega
          refine wp_region_lit (aA (aB) (aA (aB) (aA (aQ rfl rfl (eW (by omega) (by omega))) ?_)));simp only[zz];refine aA (aD) ?_;simp only[zz];refine aG ?_;obtain ⟨g9,rfl⟩ : ∃ g9,gq = g9 + 1:=⟨gq - 1,by omega⟩
          rw [show (((g9 + 1 : Nat) : Int) - 1) = (g9 : Int) by omega,show ((rr:Int) + (top:Int)) = ((rr + top : Nat) : Int) by omega];simp only[Exit.inBlock,Exit.then];refine ⟨g9,_,?_,rfl,?_,?_⟩
          · omega
          · simp only[zz,zv]
          ·
           simp only[zQ,zR,zD,zE];exact ⟨g9,rr + top,rfl,hX,hB1,hB2,hB3,by rw [Nat.add_mul,Nat.one_mul] at hgr;omega,by omega,rfl⟩
         ·
          have hx : gq * sec ≤ a3 + rr * 4294967296:=by omega
          refine wp_exit ?_;refine hK24 _ _ (aF (fun K33 hK33=>aF (fun K34 hK34=>?_)));have hNv:=pT hB2 hdv (by omega);rw [← hvs] at hNv;have hNu:=(hB1.nat hdu rfl (by omega)).drop (show i ≤ us.length by omega) rfl;rw [gE,Nat.zero_add,hlu] at hNu;have hU2 : val 4294967296 ((us.drop i).take (ds.length + 1)) = U:=by rw [← wZ hdvs (by omega) hH,hU]
          have hgl : gq ≤ q + 1:=Kr f4 f6 hq2 (Cr hgr hx) (by omega);obtain ⟨ge1,ge2⟩:=Gm hq1 hq2 hqg hgl;refine wp_region_lit (aA (aB) (aA (aB) (aA (kM bD bC rfl rfl (Int.toNat_natCast _) (by omega) (by omega) (uX (by omega))) ?_)));simp only[zz];refine aA (aB) (aA (aB) ?_);simp only[zz];refine bE rfl rfl (aam _ hNu hNv (by simp;omega) (by omega) (by omega)) ?_;rintro v w9 hE rfl;replace hB1:=hB1.ext hE;replace hB2:=hB2.ext hE;replace hB3:=hB3.ext hE;replace hX:=hX.trans hE;clear hE;simp only[zz];refine aG (hK34 _ _ ?_);refine cC rfl (fun hc6=>?_) (fun hc6=>?_)
          ·
           have hg1 : 0 < gq:=by
            rcases Nat.eq_zero_or_pos gq with h | h
            · rw [h,Nat.mul_zero] at hc6;exact absurd hc6 (Nat.not_lt_zero _)
            · exact h
           have hgq:=ge1 (by rw [← hU2];exact hc6);refine wp_region_lit (aA (aB) (aA (eO rfl rfl (eW (by omega) (by omega))) (aA (aD) ?_)));simp only[zz];refine aG ?_;rw [show ((gq:Int) - 1) = (q:Int) by omega];refine hK33 _ _ (aF (fun K35 hK35=>?_));clear hNv hNu;have hNv:=pT hB2 hdv (by omega);rw [← hvs] at hNv;refine wp_region_lit (aA (aB) (aA (aB) (aA (kM bD bC rfl rfl (Int.toNat_natCast _) (by omega) (by omega) (uX (by omega))) ?_)));simp only[zz];refine aA (aB) (aA (aB) ?_);simp only[zz];refine wY rfl rfl (Jt _ hB1 hdu (by omega) hNv (by omega) (by omega) hqB (by rw [hU2,Nat.mul_comm];exact hq1)) ?_;clear hB1;rintro v w10 hU hB1;replace hB2:=hB2.upd hU (by first | exact hN2_1 | exact Ne.symm hN1_2);replace hB3:=hB3.upd hU (by first | exact hN3_1 | exact Ne.symm hN1_3);replace hX:=hX.grownUpd hU hG1;clear hU;simp only[zz];refine aG (hK35 _ _ ?_);clear hNv;refine wp_region_lit (aA (aB) (aA (aB) (aA (aB) ?_)));simp only[zz];refine aA (aK bD bC rfl rfl (by omega) (by omega) (eZ (Int.toNat_natCast _))) ?_;simp only[zz];refine dA rfl (by simp only[zz];rfl) (by exact bC) hB3 (by simp;omega) (by simp [Value.oneCell']) ?_;clear hB3;intro w11 hC hB3;replace hB1:=hB1.chg hC (by first | exact hN1_3 | exact Ne.symm hN3_1);replace hB2:=hB2.chg hC (by first | exact hN2_3 | exact Ne.symm hN3_2);replace hX:=hX.chg hC hG3;clear hC;rw [fV (by omega)] at hB3;refine aG (hK20 _ _ ?_);refine wp_region_lit (aA (aB) (aA (eO rfl rfl (aM (by omega) (by omega))) (aA (aD) ?_)));simp only[zz];refine aG ?_;obtain ⟨r1,r2,r3,r4⟩:=uY hdvs hdu hi hH hU hq1 hq2 hI hz (by omega);simp only[Exit.inBlock,Exit.then];refine ⟨i,_,?_,rfl,?_,?_⟩
           · omega
           · simp only[zz,zv]
           ·
            simp only[zQ,zR,zD,zE];exact ⟨i,laid us i (ds.length + 1) (val 4294967296 ((us.drop i).take (ds.length + 1)) - val 4294967296 ds * q),qs.set i q,rfl,hX,hB1,hB2,hB3,by omega,by rw [r4];exact hlu,by simpa using hlq,uW hdu,hdq.set hqB,r1,r2,r3,rfl⟩
          ·
           have hgq:=ge2 (by rw [← hU2];exact hc6);rw [show (gq:Int) = (q:Int) by omega];refine wp_skip (hK33 _ _ ?_);refine aF (fun K36 hK36=>?_);clear hNv hNu;have hNv:=pT hB2 hdv (by omega);rw [← hvs] at hNv;refine wp_region_lit (aA (aB) (aA (aB) (aA (kM bD bC rfl rfl (Int.toNat_natCast _) (by omega) (by omega) (uX (by omega))) ?_)));simp only[zz];refine aA (aB) (aA (aB) ?_);simp only[zz];refine wY rfl rfl (Jt _ hB1 hdu (by omega) hNv (by omega) (by omega) hqB (by rw [hU2,Nat.mul_comm];exact hq1)) ?_;clear hB1;rintro v w10 hU hB1;replace hB2:=hB2.upd hU (by first | exact hN2_1 | exact Ne.symm hN1_2);replace hB3:=hB3.upd hU (by first | exact hN3_1 | exact Ne.symm hN1_3);replace hX:=hX.grownUpd hU hG1;clear hU;simp only[zz];refine aG (hK36 _ _ ?_);clear hNv;refine wp_region_lit (aA (aB) (aA (aB) (aA (aB) ?_)));simp only[zz];refine aA (aK bD bC rfl rfl (by omega) (by omega) (eZ (Int.toNat_natCast _))) ?_;simp only[zz];refine dA rfl (by simp only[zz];rfl) (by exact bC) hB3 (by simp;omega) (by simp [Value.oneCell']) ?_;clear hB3;intro w11 hC hB3;replace hB1:=hB1.chg hC (by first | exact hN1_3 | exact Ne.symm hN3_1);replace hB2:=hB2.chg hC (by first | exact hN2_3 | exact Ne.symm hN3_2);replace hX:=hX.chg hC hG3;clear hC;rw [fV (by omega)] at hB3;refine aG (hK20 _ _ ?_);refine wp_region_lit (aA (aB) (aA (eO rfl rfl (aM (by omega) (by omega))) (aA (aD) ?_)));simp only[zz];refine aG ?_;obtain ⟨r1,r2,r3,r4⟩:=uY hdvs hdu hi hH hU hq1 hq2 hI hz (by omega);simp only[Exit.inBlock,Exit.then];refine ⟨i,_,?_,rfl,?_,?_⟩
           · omega
           · simp only[zz,zv]
           ·
            simp only[zQ,zR,zD,zE];exact ⟨i,laid us i (ds.length + 1) (val 4294967296 ((us.drop i).take (ds.length + 1)) - val 4294967296 ds * q),qs.set i q,rfl,hX,hB1,hB2,hB3,by omega,by rw [r4];exact hlu,by simpa using hlq,uW hdu,hdq.set hqB,r1,r2,r3,rfl⟩
      ·
       obtain rfl : k = 0:=by omega
       rw [List.drop_zero] at hH;obtain ⟨dq,dr⟩:=Wv (X:=val 4294967296 xs) (Y:=val 4294967296 ys) (p:=2 ^ sh) (u:=val 4294967296 us) (q:=val 4294967296 qs) (Nat.pow_pos (by omega)) (by rw [← hvvs];exact hI) (by rw [← hvvs];exact hH);refine wp_exit (hK16 _ _ ?_);refine aF (fun K37 hK37=>wp_region_lit (aA (aB) ?_));simp only[zz];refine bE rfl rfl (Af _ (hB3.nat hdq (by omega) (by omega))) ?_;rintro v w7 hE ⟨A5,c5,rfl,hN5⟩;replace hB1:=hB1.ext hE;replace hX:=hX.trans hE;clear hE;simp only[zz];refine aA (aB) ?_;simp only[zz];refine bE rfl rfl (Af _ (hB1.nat hdu (by omega) (by omega))) ?_;rintro v w8 hE ⟨A6,c6,rfl,hN6⟩
       (try replace hN5:=hN5.ext hE);replace hX:=hX.trans hE
       clear hE;simp only[zz];refine aA (aB) ?_;simp only[zz];refine bE rfl rfl (Vk _ hN6 (Nat.le_trans (oV hdu) (by omega)) hs31) ?_;rintro v w9 hE ⟨A7,c7,rfl,hN7⟩
       (try replace hN5:=hN5.ext hE);replace hX:=hX.trans hE
       clear hE;simp only[zz];refine aA (aD) (aA (aD) ?_);simp only[zz];refine aG (hK37 _ _ ?_);refine wp_ret ?_;try simp only[Exit.inBlock,Exit.then]
       refine jW rfl rfl rfl ?_;try simp only[zD,zE]
       exact ⟨_,rfl,hX,_,_,rfl,by rw [← dq];exact ⟨A5,c5,rfl,hN5⟩,by rw [← dr];simp only[cT] at hN7 ⊢;exact ⟨A7,c7,rfl,hN7⟩⟩
end Go.Proofs.YtfohfflkhpfjeaaGreatDoor
namespace Go.Proofs.YtfohfflkhpfjeaaGreatDoor
open Go.Proofs.Tryz
open Go.RowKit Go.Lith
set_option maxRecDepth 100000
attribute [local irreducible] wpList wpQuiet dY Code.wp
theorem Fe {neg : Bool} {s : ByteArray} (w : World) (hs : s.size ≤ 1000000000000) : eL prog 114 [.agg #[.bool neg,.string s]] w (gI (aaV s)):=by
 skip
 refine ⟨acR,?_⟩;have hX:=dK.refl w
 go_enter func114,ntmps114
 refine aF (fun K1 hK1=>wp_region_lit ?_);refine kR (by simp only[zz];rfl) ?_;intro w1 g1 hE hg1 hB1;have hG1:=Nat.le_trans hX.size hg1;replace hX:=hX.trans hE;clear hE hg1;simp only[zz];refine aA (aD) ?_;simp only[zz];refine aG (hK1 _ _ ?_);refine aF (fun K2 hK2=>wp_region_lit (aA (aO (c:=0) gG rfl qO rfl rfl) ?_));simp only[zz];refine aL rfl (hB1.lies1 xH rfl) ?_;simp only[zz];refine aA (pR rfl qH rfl) (aA (aQ rfl rfl (aM (by omega) (by omega))) (aA (eO rfl rfl (aM (by omega) (by omega))) ?_));simp only[zz];rw [show ((s.size : Int) + 4 - 1) = ((s.size + 3 : Nat) : Int) by omega];refine aA (gY rfl rfl (by omega) (lD (n:=4) (by omega))) ?_;simp only[zz];obtain ⟨K,hK⟩ : ∃ K,K = (s.size + 3) / 4:=⟨_,rfl⟩
 rw [← hK];refine jE bD lY rfl rfl rfl (show _ = K by omega) (show _ = K by omega) (by omega) (by omega) (by omega) (by omega) ?_;intro w2 g2 hE hg2 hB2;have hG2:=Nat.le_trans hX.size hg2;have hN2_1 : g2 ≠ g1:=Nat.ne_of_gt (Nat.lt_of_lt_of_le hB1.lt hg2);replace hB1:=hB1.ext hE;replace hX:=hX.trans hE;clear hE hg2;simp only[zz];refine aA (aD) ?_;simp only[zz];refine aG ?_;rw [fY] at hB2;refine hK2 _ _ (aF (fun K3 hK3=>aF (fun K4 hK4=>wp_region_lit (aA (aO (c:=0) gG rfl qO rfl rfl) ?_))));simp only[zz];refine aL rfl (hB1.lies1 xH rfl) ?_;simp only[zz];refine aA (pR rfl qH rfl) (aA (aB) ?_);simp only[zz];refine aG (hK4 _ _ ?_);refine wp_block (bJ [16] [4,5,17,18,19,20,21,22,23,24,25,26,27,28,29,30,31,32,33,34,35,36,37,38,39,40,41] (fun n vs wl=>∃ (i : Nat) (os : List Nat),vs = [.int .i64 (i:Int)] ∧ (dK w wl) ∧ (gD wl g1 [.bool neg,.string s] 65) ∧ (gD wl g2 (os.map kH) 126) ∧ (i ≤ s.size) ∧ (os.length = K) ∧ (cZ 4294967296 os) ∧ (∀ (j : Nat) (h : j < os.length),256 ^ (s.size - i - 4 * j) ∣ os[j]) ∧ (val 4294967296 os = 256 ^ (s.size - i) * val 256 ((mA s).drop (s.size - i))) ∧ (n = s.size - i)) ?_ ?_)
 ·
  apply Exists.intro;simp only[zQ,zR,zD,zE];exact ⟨0,List.replicate K 0,rfl,hX,hB1,hB2,by omega,by simp,fun x hx=>by rw [List.eq_of_mem_replicate hx];decide,fun j h=>by rw [List.getElem_replicate];exact Nat.dvd_zero _,by rw [eT,Xb (by rw [qW];omega),Nat.mul_zero],rfl⟩
 ·
  intro n vs wr hI u;obtain ⟨i,os,rfl,hX,hB1,hB2,hi,hlo,hd,hdv,hv,hn⟩:=hI;simp only[zu,zF,zG];refine aF (fun K5 hK5=>wp_region_lit (aA (cO rfl rfl) ?_));simp only[zz];refine aG (hK5 _ _ ?_);refine aF (fun K6 hK6=>?_);refine cC rfl (fun hc1=>?_) (fun hc1=>?_)
  ·
   refine wp_skip ?_;refine hK6 _ _ (aF (fun K7 hK7=>wp_block (aF (fun K8 hK8=>wp_region_lit (aA (aB) (aA (aD) ?_))))));simp only[zz];refine aG (hK8 _ _ ?_);refine aF (fun K9 hK9=>wp_region_lit (aA (aO (c:=0) gG rfl qO rfl rfl) ?_));simp only[zz];refine aL rfl (hB1.lies1 xH rfl) ?_;simp only[zz];refine aA (pR rfl qH rfl) (aA (eO rfl rfl (aM (by omega) (by omega))) (aA (aB) ?_));simp only[zz];refine aA (eO rfl rfl (aM (by omega) (by omega))) (aA (aD) ?_);simp only[zz];refine aG ?_;obtain ⟨p,hp⟩ : ∃ p,p + 1 + i = s.size:=⟨s.size - 1 - i,by omega⟩
   rw [show ((s.size : Int) - 1 - (i : Int)) = (p : Int) by omega];refine hK9 _ _ ?_;obtain ⟨b,hb,hpl,hbp⟩:=wC hp;have hco:=hB2.word (show p / 4 < os.length by omega);obtain ⟨f1,f2,f3,f4⟩:=Sw (r:=p % 4) (j:=p / 4) hpl (by omega) (by omega) (by omega) hd (Aj s) (by rw [show p + 1 = s.size - i by omega];exact hdv) (by rw [show p + 1 = s.size - i by omega];exact hv);rw [hbp,Cs] at f1 f3 f4;have hb256 : b.toNat < 256:=b.toNat_lt;have f5 : b.toNat * 2 ^ (8 * (p % 4)) < 2 ^ (8 * (p % 4 + 1)):=by
    rw [show 8 * (p % 4 + 1) = 8 + 8 * (p % 4) by omega,Nat.pow_add];exact Nat.mul_lt_mul_of_pos_right hb256 (Nat.pow_pos (by omega))
   obtain ⟨c,f6⟩ : ∃ c,os[p / 4] = 2 ^ (8 * (p % 4 + 1)) * c:=by
    obtain ⟨c,hc⟩:=f2;exact ⟨c,by rw [hc,Cs]⟩
   refine iP 16 aP (by kernel_rfl) ?_;simp only[zy];refine aI (aB) (aI (aB) (aI (gY rfl rfl (by omega) (lD (n:=4) (by omega))) ?_));simp only[zz];refine aI (aK bD bC rfl rfl (by omega) (by omega) (eZ (show _ = p / 4 by omega))) ?_;simp only[zz];refine iQ rfl (fun _ hE'=>(lies1 (hE'.cell hco) eY)) ?_;simp only[zz];refine aI (aO (c:=0) gG rfl qO rfl rfl) ?_;simp only[zz];refine iQ rfl (fun _ hE'=>((hB1.ext hE').lies1 xH rfl)) ?_;simp only[zz];refine aI (aB) ?_;simp only[zz];refine aI ((nN qH rfl rfl (by omega) (by rw [Int.toNat_natCast];exact hb))) ?_;simp only[zz];refine aI (jI nR Ge rfl (eW (by omega) (by omega))) (aI (aB) (aI (cE rfl rfl (by omega) (lC (n:=4))) ?_));simp only[zz];refine aI (fF rfl rfl ((aM (by omega) (by omega)).trans (show (8 : Int) * ((p % 4 : Nat) : Int) = ((8 * (p % 4) : Nat) : Int) by omega))) (aI (Ah rfl rfl (by omega) (sM (n:=8 * (p % 4)) (by omega) (by omega))) (aI (Ke rfl rfl ((Bp (s:=8 * (p % 4 + 1)) (a:=b.toNat * 2 ^ (8 * (p % 4))) (b:=os[p / 4]) f5 f6 (by omega)).trans (show (((b.toNat * 2 ^ (8 * (p % 4))) + os[p / 4] : Nat) : Int) = ((os[p / 4] + b.toNat * 2 ^ (8 * (p % 4)) : Nat) : Int) by omega))) ?_));simp only[zz];refine aI (aK bD bC rfl rfl (by omega) (by omega) (eZ (show _ = p / 4 by omega))) ?_;simp only[zz];refine cP ?_;intro w3 hE;replace hB1:=hB1.ext hE;replace hB2:=hB2.ext hE;replace hX:=hX.trans hE;clear hE;refine dA rfl (by simp only[zz];rfl) (by exact bC) hB2 (by simp;omega) (by simp [Value.oneCell']) ?_;clear hB2;intro w4 hC hB2;replace hB1:=hB1.chg hC (by first | exact hN1_2 | exact Ne.symm hN2_1);replace hX:=hX.chg hC hG2;clear hC;rw [fV (by omega)] at hB2;refine aG (hK7 _ _ ?_);refine wp_region_lit (aA (aQ rfl rfl (aM (by omega) (by omega))) (aA (aB) ?_));simp only[zz];refine aG ?_;rw [show ((i:Int) + 1) = ((i + 1 : Nat) : Int) by omega];simp only[Exit.inBlock,Exit.then];refine ⟨s.size - (i + 1),_,?_,rfl,?_,?_⟩
   · omega
   · simp only[zz,zv]
   ·
    simp only[zQ,zR,zD,zE];exact ⟨i + 1,os.set (p / 4) (os[p / 4] + b.toNat * 2 ^ (8 * (p % 4))),rfl,hX,hB1,hB2,by omega,by simpa using hlo,hd.set f1,by rw [show s.size - (i + 1) = p by omega];exact f3,by rw [show s.size - (i + 1) = p by omega];exact f4,rfl⟩
  ·
   refine wp_exit ?_;refine hK3 _ _ (aF (fun K10 hK10=>?_));obtain rfl : i = s.size:=by omega
   refine wp_region_lit (aA (aB) ?_);simp only[zz];refine bE rfl rfl (rG _ (hB2.nat hd (by omega) (by omega))) ?_;rintro v w3 hE rfl;replace hB2:=hB2.ext hE;replace hX:=hX.trans hE;clear hE;simp only[zz];refine aA (aD) ?_;simp only[zz];refine aG (hK10 _ _ ?_);refine wp_ret ?_;try simp only[Exit.inBlock,Exit.then]
   refine bS rfl rfl ?_;try simp only[zD,zE]
   exact ⟨_,rfl,hX,gI.of_trim (hB2.nat hd (n:=K) (by omega) (by omega)) (by rw [hv,Nat.sub_self,Nat.pow_zero,Nat.one_mul,List.drop_zero];rfl)⟩
end Go.Proofs.YtfohfflkhpfjeaaGreatDoor
namespace Go.Proofs.YtfohfflkhpfjeaaGreatDoor
open Go.Proofs.Tryz
open Go.RowKit Go.Lith
attribute [local go_sem] Oper.semAt_some
def sF (n₀ Bs : Nat) (W W' : World) : Prop:=Below n₀ W W' ∧ W'.heap[Bs]? = W.heap[Bs]?
theorem sF.refl (n₀ Bs : Nat) (W : World) : sF n₀ Bs W W:=⟨Below.refl _ _,rfl⟩
theorem sF.trans {n₀ Bs : Nat} {A B C : World} (h : sF n₀ Bs A B) (k : sF n₀ Bs B C) : sF n₀ Bs A C:=⟨h.1.trans k.1,k.2.trans h.2⟩
theorem sF.box {n₀ Bs : Nat} {A B : World} (h : sF n₀ Bs A B) {v : Value} (hc : A.cell? ⟨Bs,0,none⟩ = some v) : B.cell? ⟨Bs,0,none⟩ = some v:=(World.cell?_of_block h.2).trans hc
set_option maxRecDepth 100000 in
theorem aan (F : Fence) (n : Nat) (h7 : F.fn 143) (hro : F.round = none) (hn : 1 ≤ n) (l Bs n₀ cap : Nat) (a : Addr) (xs : List Nat) (hreach : xs.length * 8 ≤ 140737488351232) (hb : a.block < n₀) (J Jx : List (Nat × Nat) → World → Prop)
 (hY : ∀ pre x W,J pre W → pre.length < xs.length → YieldAt F (n - 1) prog l #[.int .i64 (x.1 : Int),.int .u64 (x.2 : Int)] W fun e W' =>
  (e = .returned (.bool true) ∧ J (pre ++ [x]) W' ∧ sF n₀ Bs W W') ∨ (e = .returned (.bool false) ∧ Jx (pre ++ [x]) W'))
 (W : World) (hBs : W.cell? ⟨Bs,0,none⟩ = some (.slice (some a) xs.length cap)) (hc : ∀ j (h : j < xs.length),W.cell? (a.add j) = some (.int .u64 (xs[j] : Nat))) (h0 : J [] W) :
 CallsIn F n prog 143 #[.func (.yield l) #[] #[],.pointer (some ⟨Bs,0,none⟩)] W fun e W'=>(∃ v,e = .returned v) ∧
  ((∃ ys : List (Nat × Nat),ys.map Prod.snd = xs.reverse ∧ J ys W') ∨ (∃ pre,True ∧ Jx pre W')):=by
 refine callsIn_of_wp func143 rfl h7 ?_ hro;simp only[ntmps143,List.size_toArray,List.length_cons,List.length_nil,Nat.reduceAdd,Nat.reduceSub,Array.replicate_succ,Array.replicate_zero,List.push_toArray,List.append_toArray,List.nil_append,List.cons_append]
 gi_wp2
 gi_loopw [3] (fun i wr=>∃ (k : Nat) (pre : List (Nat × Nat)),k ≤ xs.length ∧ i = .int .i64 ((k : Int) - 1) ∧ pre.length = xs.length - k ∧ pre.map Prod.snd = (xs.drop k).reverse ∧ J pre wr ∧ sF n₀ Bs W wr)
  (fun i _=>(intOf i + 1).toNat)
 case atStart=>exact ⟨xs.length,[],Nat.le_refl _,rfl,by simp,by simp,h0,sF.refl _ _ _⟩
 case round =>
  obtain ⟨k,pre,hk,rfl,hpl,hpre,hJs,hnx⟩:=hrel;have hBw : wr.cell? ⟨Bs,0,none⟩ = some (.slice (some a) xs.length cap):=hnx.box hBs;by_cases hk0 : 0 < k
  · have hlt : k - 1 < xs.length:=by omega
    have hcx : wr.cell? (a.add (k - 1)) = some (.int .u64 ((xs[k - 1] : Nat) : Int)):=(hnx.1.cell (by rw [nO];exact hb)).trans (hc _ hlt);obtain ⟨fn,tmps,assign,body,hy,hR⟩:=hY pre (k - 1,xs[k - 1]) wr hJs (by omega);dsimp only at hy;obtain ⟨j,rfl⟩ : ∃ j,k = j + 1:=⟨k - 1,by omega⟩
    rw [show (((j + 1 : Nat) : Int) - 1) = (j : Int) by omega];simp only[Nat.add_sub_cancel] at hy hR hcx hlt
    gi_wp2
    refine hR.mono ?_;rintro e W3 (⟨rfl,hJ3,hk3⟩ | ⟨rfl,hJx3⟩)
    · gi_wp2
      go_roundw
      case rel=>exact ⟨j,pre ++ [(j,xs[j])],by omega,by simp,by simp;omega,by rw [List.drop_eq_getElem_cons hlt,List.reverse_cons,List.map_append,hpre];rfl,hJ3,hnx.trans hk3⟩
      case measure=>simp [intOf]
    · gi_wp2
      refine bodyPost_ret (results_none rfl _ _ _) rfl ?_;exact ⟨⟨_,rfl⟩,.inr ⟨_,trivial,hJx3⟩⟩
  · obtain rfl : k = 0:=by omega
    gi_wp2
    go_end0
    exact ⟨⟨_,rfl⟩,.inl ⟨pre,by rw [hpre];rfl,hJs⟩⟩
set_option maxRecDepth 100000 in
theorem Ju (F : Fence) (n : Nat) (h7 : F.fn 143) (hro : F.round = none) (l Bs cap : Nat) (A : Option Addr) (J : List (Nat × Nat) → World → Prop) (W : World) (hBs : W.cell? ⟨Bs,0,none⟩ = some (.slice A 0 cap)) (h0 : J [] W) :
 CallsIn F n prog 143 #[.func (.yield l) #[] #[],.pointer (some ⟨Bs,0,none⟩)] W fun e W'=>(∃ v,e = .returned v) ∧ J [] W':=by
 refine callsIn_of_wp func143 rfl h7 ?_ hro;simp only[ntmps143,List.size_toArray,List.length_cons,List.length_nil,Nat.reduceAdd,Nat.reduceSub,Array.replicate_succ,Array.replicate_zero,List.push_toArray,List.append_toArray,List.nil_append,List.cons_append]
 gi_wp2
 gi_loopw [3] (fun i wr=>i = .int .i64 (-1) ∧ J [] wr) (fun _ _=>0)
 case atStart=>exact ⟨rfl,h0⟩
 case round =>
  obtain ⟨rfl,hJs⟩:=hrel
  gi_wp2
  go_end0
  exact ⟨⟨_,rfl⟩,hJs⟩
theorem abL (F : Fence) (n : Nat) (h5 : F.fn 137) (hro : F.round = none) (a : Option Addr) (len cap : Nat) (w : World) :
 CallsIn F n prog 137 #[.slice a len cap] w fun e w'=>e = .returned (.func (.func 143) #[] #[.pointer (some ⟨w.heap.size,0,none⟩)]) ∧ w' = w.alloc (.cells #[.slice a len cap] 157):=by
 refine callsIn_of_wp func137 rfl h5 ?_ hro;simp only[ntmps137,List.size_toArray,List.length_cons,List.length_nil,Nat.reduceAdd,Nat.reduceSub,Array.replicate_succ,Array.replicate_zero,List.push_toArray,List.append_toArray,List.nil_append,List.cons_append]
 gi_wp2
 go_ret
 exact ⟨rfl,rfl⟩
theorem Qk (F : Fence) (n : Nat) (h7 : F.fn 143) (hro : F.round = none) (hn : 1 ≤ n) (Bs n₀ cap : Nat) (A : Option Addr) (xs : List Nat) (hreach : xs.length * 8 ≤ 140737488351232) (w : World) (hBs : Bs < w.heap.size) (hn₀ : n₀ ≤ w.heap.size)
 (hc : w.cell? ⟨Bs,0,none⟩ = some (.slice A xs.length cap)) (hI : ∀ (i x : Nat),xs[i]? = some x → ∃ a,A = some a ∧ w.cell? (a.add i) = some (.int .u64 (x : Int))) (hA : ∀ a,0 < xs.length → A = some a → a.block < n₀) :
 SeqStopsK F n prog 143 #[.pointer (some ⟨Bs,0,none⟩)] (fun x : Nat × Nat=>#[Value.int .i64 (x.1 : Int),Value.int .u64 (x.2 : Int)]) (sF n₀ Bs) (fun ys=>ys.map Prod.snd = xs.reverse) (fun _=>True) xs.length w:=fun l J Jx W hW _ _ hY h0=>by
 have hc':=(hW.cell (p:=⟨Bs,0,none⟩) hBs).trans hc;rcases Nat.eq_zero_or_pos xs.length with h | h
 · obtain rfl : xs = []:=List.eq_nil_of_length_eq_zero h
   exact (Ju F n h7 hro l Bs cap A J W hc' h0).mono fun e W' ⟨he,hj⟩=>⟨he,.inl ⟨[],rfl,hj⟩⟩
 · obtain ⟨a,rfl,_⟩:=hI 0 xs[0] (List.getElem?_eq_getElem h)
   refine aan F n h7 hro hn l Bs n₀ cap a xs hreach (hA a h rfl) J Jx hY W hc' (fun j hj=>?_) h0;obtain ⟨a',e,hcl⟩:=hI j xs[j] (List.getElem?_eq_getElem hj);cases e;exact (hW.cell (by rw [nO];exact Nat.lt_of_lt_of_le (hA a h rfl) hn₀)).trans hcl
theorem adD {A : Option Addr} {n cap : Nat} (w : World) : eL prog 137 [.slice A n cap] w (fun v w'=>∃ g,v = .func (.func 143) #[] #[.pointer (some ⟨g,0,none⟩)] ∧ w.heap.size ≤ g ∧ gD w' g [.slice A n cap] 157):=by
 refine ⟨ac9,(callsIn_wide (n:=2)).1 ((abL Fence.wide 2 trivial rfl A n cap w).mono ?_)⟩;rintro e w' ⟨rfl,rfl⟩;exact ⟨_,rfl,(dK.refl w).alloc _,_,rfl,Nat.le_refl _,iN w _ _⟩
end Go.Proofs.YtfohfflkhpfjeaaGreatDoor
namespace Go.Proofs.YtfohfflkhpfjeaaGreatDoor
open Go.Proofs.Tryz
open Go.RowKit Go.Lith
set_option maxRecDepth 100000
attribute [local irreducible] wpList wpQuiet dY Code.wp
attribute [local go_sem] Oper.semAt_some
theorem abM : (prog.info? 5).map (fun i=>(i.zero,i.size,i.bytes)) = some (some (.int .u8 0),1,1):=by kernel_rfl
theorem Ff {W w1 : World} {tmp : Obj} {v v' : Value} {base size k g g3 : Nat} {e t : TypeId} {xs cs : List Value} (hB : gD W g cs t) (hte : t ≠ e) (hr : W.ownsRow base e size v k xs) (hg : (W.alloc tmp).grownBy w1 v.ownBlock) (hne : g ≠ g3) : (w1.setCell ⟨g3,0,none⟩ v').heap[g]? = W.heap[g]?:=by
 have h1 : some g ≠ v.ownBlock:=by
  rcases hr.2 with ⟨rfl,_⟩ | ⟨g',cap,cur,rfl,_,hgb,_⟩
  · simp [Value.ownBlock]
  ·
   intro h;obtain rfl : g = g':=by simpa [Value.ownBlock] using h
   rw [hB] at hgb;cases hgb;exact hte rfl
 exact ((Below.heap_setCell w1 ⟨g3,0,none⟩ v' g hne).trans (hg.block g (by simp;have:=hB.lt;omega) h1)).trans (Below.heap_alloc W tmp g hB.lt)
theorem uR {A : Option Addr} {xs : List Nat} {na cap : Nat} {neg : Bool} (w : World) (hS : dM w A na cap xs) (hl : xs.length ≤ 100000000000) : eL prog 119 [.slice A na cap,.bool neg] w (fun v _=>v = W (Fw neg (val 4294967296 xs))):=by
 skip
 refine ⟨acW,?_⟩;have hX:=dK.refl w;obtain rfl:=hS.eq;have hlt:=iS xs;have hle:=hS.le;refine (callsIn_wide (n:=4)).1 (callsIn_of_wp_marks func119 rfl trivial ?_ rfl);simp only[ntmps119,List.size_toArray,List.length_cons,List.length_nil,Nat.reduceAdd,Nat.reduceSub,Array.replicate_succ,Array.replicate_zero,List.push_toArray,List.append_toArray,List.nil_append,List.cons_append];refine wpIn_wide.2 (aF (fun K1 hK1=>wp_region_lit ?_));refine jM eX rfl ?_;intro w1 g1 hE hg1 hB1;have hG1:=Nat.le_trans hX.size hg1;replace hX:=hX.trans hE;clear hE hg1;simp only[zz];refine aG (hK1 _ _ ?_);refine aF (fun K2 hK2=>wp_region_lit (aA (aB) ?_));simp only[zz];refine bE rfl rfl (rG _ (hS.ext hX)) ?_;rintro v w2 hE rfl;replace hB1:=hB1.ext hE;replace hX:=hX.trans hE;clear hE;simp only[zz];refine aA (aD) ?_;simp only[zz];refine aG ?_;obtain ⟨ys,hys⟩ : ∃ ys,ys = trim xs:=⟨_,rfl⟩
 rw [← hys] at hlt ⊢;refine hK2 _ _ (aF (fun K3 hK3=>wp_region_lit (aA (aB) (aA (bA rfl bD rfl) (aA (fF rfl rfl (aM (by omega) (by omega))) ?_)))));simp only[zz];refine jE mB Gy rfl rfl rfl (show _ = 0 by omega) (show _ = 4 * ys.length by omega) (by omega) (by omega) (by omega) (by omega) ?_;intro w3 g2 hE hg2 hB2;have hG2:=Nat.le_trans hX.size hg2;have hN2_1 : g2 ≠ g1:=Nat.ne_of_gt (Nat.lt_of_lt_of_le hB1.lt hg2);replace hB1:=hB1.ext hE;replace hX:=hX.trans hE;clear hE hg2;simp only[zz];refine jM Yl rfl ?_;intro w4 g3 hE hg3 hB3;have hG3:=Nat.le_trans hX.size hg3;have hN3_1 : g3 ≠ g1:=Nat.ne_of_gt (Nat.lt_of_lt_of_le hB1.lt hg3);have hN3_2 : g3 ≠ g2:=Nat.ne_of_gt (Nat.lt_of_lt_of_le hB2.lt hg3);replace hB1:=hB1.ext hE;replace hB2:=hB2.ext hE;replace hX:=hX.trans hE;clear hE hg3;simp only[zz];refine dA rfl (by simp only[zz];rfl) (by exact Tw) hB3 (by simp) (by simp [Value.oneCell']) ?_;clear hB3;intro w5 hC hB3;replace hB1:=hB1.chg hC (by first | exact hN1_3 | exact Ne.symm hN3_1);replace hB2:=hB2.chg hC (by first | exact hN2_3 | exact Ne.symm hN3_2);replace hX:=hX.chg hC hG3;clear hC;simp only[zy,zx,bK,Nat.reduceAdd] at hB3;refine aG (hK3 _ _ ?_);refine aF (fun K4 hK4=>aF (fun K5 hK5=>wp_region_lit (aA (aB) ?_)));simp only[zz];refine bE rfl rfl (adD _) ?_;rintro v w6 hE ⟨g4,rfl,hg4,hB4⟩;have hG4:=Nat.le_trans hX.size hg4;have hN4_1 : g4 ≠ g1:=Nat.ne_of_gt (Nat.lt_of_lt_of_le hB1.lt hg4);have hN4_2 : g4 ≠ g2:=Nat.ne_of_gt (Nat.lt_of_lt_of_le hB2.lt hg4);have hN4_3 : g4 ≠ g3:=Nat.ne_of_gt (Nat.lt_of_lt_of_le hB3.lt hg4);replace hB1:=hB1.ext hE;replace hB2:=hB2.ext hE;replace hB3:=hB3.ext hE;replace hX:=hX.trans hE;clear hE hg4;simp only[zz];refine aG (hK5 _ _ ?_);refine wp_block ((wpIn_wide (n:=4)).1 ?_);have hbase : w.heap.size ≤ w6.heap.size:=hX.size;obtain ⟨n0,hn0⟩ : ∃ n0,n0 = w.heap.size:=⟨_,rfl⟩
 have hT : dM w6 A ys.length cap ys:=(((hS.ext hX).take (trim xs).length).as (gS xs).symm |> fun h=>by rw [← gS,← hys] at h;exact h)
 have hA : ∀ a,0 < ys.length → A = some a → a.block < w.heap.size:=fun a h0 e=>by
  obtain ⟨a',e',hc⟩:=hS.row 0 (xs[0]'(by omega)) (List.getElem?_eq_getElem (by omega));rw [e] at e';cases e';have:=World.block_lt_of_cell? _ _ hc;rwa [nO] at this
 refine wpIn_rangeFunc_ownG (F:=Fence.wide) rfl (by omega) (gf:=143) (lb:=#[.pointer (some ⟨g4,0,none⟩)]) rfl trivial (enters_of func143 (by kernel_rfl) rfl)
  (Qk Fence.wide 3 trivial rfl (by omega) g4 w.heap.size cap A ys (by omega) w6 hB4.lt hX.size (hB4.cell rfl) hT.row hA) sF.trans (fun W l o o' hl ho _ _=>⟨belowK_b (w:=w6) hX.size W l o o' hl ho ‹_› ‹_›,World.putObj_heap_other (by have:=hB4.lt;omega)⟩) (Below.refl _ _) (fun _=>rfl)
  (fun pre W=>((∃ v,Boxed W g3 131 v ∧ W.ownsRow w.heap.size 5 1 v (Kt pre).length ((Kt pre).map u8v) ∧ True) ∧ gD W g1 [.bool false,.string ⟨#[]⟩] 65 ∧ gD W g4 [.slice A ys.length cap] 157) ∧ Below w.heap.size w W)
  (fun _ _ _=>False)
  (OwnFrom.and (OwnFrom.and (Own.from (holdsRow_own w.heap.size g3 131 5 1 (fun pre=>(Kt pre).length) (fun pre=>(Kt pre).map u8v) (fun _ _=>True)) _) (Own.from (fun s X Y row hs hg hr=>⟨(grownBy_keeps_cells hg hr hs.1 rfl).trans hs.1,(grownBy_keeps_cells hg hr hs.2 rfl).trans hs.2⟩) _)) (ownFrom_below (Nat.le_refl _) hX.size))
  (fun _ _ _ _ _ hs _ _=>hs)
  ⟨⟨⟨_,hB3,⟨rfl,.inr ⟨g2,4 * ys.length,_,rfl,hG2,hB2,Nat.zero_le _,by show _ ≤ 9223372036854775807;omega,by simp,by simp [Kt]⟩⟩,trivial⟩,hB1,hB4⟩,hX⟩
  (fun x=>{ tmps:=#[.slice A ys.length cap,.bool neg,undef,undef,.pointer (some ⟨g1,0,none⟩),.pointer (some ⟨g3,0,none⟩),undef,.int .u64 (x.2 : Int),undef,.slice A xs.length cap,.slice A ys.length cap,.slice A ys.length cap,.int .i64 (ys.length : Int),.int .i64 (4 * (ys.length : Int)),.slice (some ⟨g2,0,none⟩) 0 (4 * ys.length),.slice A ys.length cap,.func (.func 143) #[] #[.pointer (some ⟨g4,0,none⟩)],.int .i64 (x.1 : Int),.int .u64 (x.2 : Int),undef,undef,undef,undef,undef,undef,undef,undef,undef,undef,undef,undef,undef,undef,undef,undef,undef,undef,undef,undef,undef,undef,undef,undef],defers:=[] }) ?assign ?body ?done ?stop
 case assign =>
  intro l x W K hK;clear hys
  gi_wp2
  exact hK
 case stop =>
  rintro D c pre W _ _ h _;exact h.elim
 case body =>
  rintro l pre x W ⟨⟨⟨v,hv,hrow,_⟩,hB1',hB4'⟩,hB⟩ hlt;have hc:=hv.cell;have hwl : (Kt pre).length ≤ 4 * pre.length:=Nat.le_of_eq (Cv pre);clear hys;obtain ⟨i0,hi,hz0,hz1,hz2⟩:=info_parts abM
  gi_wp2_with (gi_at_builtin;refine wpListIn_append_own _ rfl _ _ 131 rfl w.heap.size 5 i0 (.int .u8 0) 1 1 mB hi hz0 hz1 hz2 rfl (by decide) _ _ _ rfl (hrow.alloc _) ⟨W.heap.size,0,none⟩ 4 4 [.int .u8 ((x.2 : Int) / 16777216 % 256),.int .u8 ((x.2 : Int) / 65536 % 256),.int .u8 ((x.2 : Int) / 256 % 256),.int .u8 ((x.2 : Int) % 256)] rfl rfl ((iN W _ 5).row 0) (by simp [Value.oneCell']) (by show _ ≤ 9223372036854775807;omega) (by omega) (by have:=hB.size;simp;omega) ?_;intro v' w1 hown' hgrow _;obtain ⟨g',cap',rfl⟩:=ownsRow_succ hown';obtain ⟨hv1,hv2,hr2,hk2,hb2⟩:=hv.appended (by decide) hrow hB.size hG3 hown' hgrow;have hc1:=hv1.cell;have hf1:=hv1.frozen)
  have e1:=Ff hB1' (by decide) hrow hgrow (Ne.symm hN3_1) (v':=.slice (some ⟨g',0,none⟩) ((Kt pre).length + 3 + 1) cap');have e4:=Ff hB4' (by decide) hrow hgrow hN4_3 (v':=.slice (some ⟨g',0,none⟩) ((Kt pre).length + 3 + 1) cap');refine ⟨hk2.from _,⟨hb2,e4⟩,⟨⟨_,hv2,?_,trivial⟩,e1.trans hB1',e4.trans hB4'⟩,hB.trans hb2⟩;rw [Xd,List.length_append,List.map_append];have e : (wb x.2).map u8v = [.int .u8 ((x.2 : Int) / 16777216 % 256),.int .u8 ((x.2 : Int) / 65536 % 256),.int .u8 ((x.2 : Int) / 256 % 256),.int .u8 ((x.2 : Int) % 256)]:=by simp [wb,UInt8.toNat_ofNat']
  rw [e];exact hr2
 rintro D ls W hD hls ⟨⟨⟨v,hv,hrow,_⟩,hB1',_⟩,hX'⟩ hK';replace hD:=Nat.le_trans hX.size hD;clear hB1 hB2 hB3 hB4 hX hG2 hG4 hN2_1 hN3_2 hN4_1 hN4_2 hN4_3 hbase hT;have hB1:=hB1';have hB3 : gD W g3 [v] 131:=hv;have hX : dK w W:=hX';have hK : Xc W D:=⟨hK'⟩
 have hDg1:=hK.ne hB1;have hlb : (Kt ls).length ≤ 1000000000000000:=by
  have:=congrArg List.length hls;rw [List.length_map,List.length_reverse] at this;rw [Cv];omega
 have hbs : lG (iG (Kt ls)) = mX (Fw neg (val 4294967296 xs)):=by
  have e : Kt ls = ys.reverse.flatMap wb:=by rw [← hls,List.flatMap_map];rfl
  have hd : cZ 4294967296 ys:=by rw [hys];exact hS.digs.trim
  rw [e,Oi hd neg,hys,jF]
 dsimp only;refine hK4 _ _ (aF (fun K6 hK6=>wp_region_lit ?_));refine aL rfl (hB3.lies1 abd rfl) ?_;simp only[zz];refine fL (Cu mB Ge qH rfl hrow) ?_;simp only[zz];refine uT rfl rfl (Qj hlb) ?_;intro w7 hE;replace hB1:=hB1.ext hE;(try replace hK:=hK.ext hE);replace hX:=hX.trans hE;clear hE;simp only[zz];refine aA (aD) ?_;simp only[zz];refine aG ?_;rw [hbs];refine hK6 _ _ (aF (fun K7 hK7=>?_));cases neg
 ·
  refine wp_region_lit (aA (aB) (aA (aB) ?_));simp only[zz];refine cN rfl ?_;simp only[zz];refine cN rfl ?_;simp only[zz];refine aA (cG rfl) (aA (aB) (aA (pX rfl rfl) ?_));simp only[zz];refine dA rfl (by simp only[zz];rfl) (by exact aR) hB1 (by simp) (by simp [Value.oneCell']) ?_;clear hB1;intro w8 hC hB1
  (try replace hK:=hK.chg hC (by first | assumption | rfl));replace hX:=hX.chg hC hG1
  clear hC;simp only[zy,zx,bK,Nat.reduceAdd] at hB1;refine aG (hK7 _ _ ?_);refine wp_ret ?_;try simp only[Exit.inBlock,Exit.then]
  refine ad3 hK ?_;replace hB1:=hB1.putD hK (o:=.deferred none);replace hX:=hX.putD hD (o:=.deferred none);refine bS rfl ⟨_,rfl,(hB1.lies cA aR rfl rfl)⟩ ?_;try simp only[zD,zE]
  exact ⟨_,rfl,hX,by simp [Lith.W,Ir,Cw]⟩
 ·
  refine wp_region_lit (aA (aB) (aA (aB) ?_));simp only[zz];refine bN rfl (aA (aB) ?_);simp only[zz];refine bN rfl (aA (acv qH rfl rfl) (aA (cJ rfl) (aA (aB) ?_)));simp only[zz];refine aA (pX rfl rfl) ?_;simp only[zz];refine dA rfl (by simp only[zz];rfl) (by exact aR) hB1 (by simp) (by simp [Value.oneCell']) ?_;clear hB1;intro w8 hC hB1
  (try replace hK:=hK.chg hC (by first | assumption | rfl));replace hX:=hX.chg hC hG1
  clear hC;simp only[zy,zx,bK,Nat.reduceAdd] at hB1;refine aG (hK7 _ _ ?_);refine wp_ret ?_;try simp only[Exit.inBlock,Exit.then]
  refine ad3 hK ?_;replace hB1:=hB1.putD hK (o:=.deferred none);replace hX:=hX.putD hD (o:=.deferred none);refine bS rfl ⟨_,rfl,(hB1.lies cA aR rfl rfl)⟩ ?_;try simp only[zD,zE]
  exact ⟨_,rfl,hX,by simp [Lith.W,Ir,Cw]⟩
end Go.Proofs.YtfohfflkhpfjeaaGreatDoor
namespace Go.Proofs.YtfohfflkhpfjeaaGreatDoor
open Go.Proofs.Tryz
open Go.RowKit Go.Lith
set_option maxRecDepth 100000
attribute [local irreducible] wpList wpQuiet dY Code.wp
theorem afR {a : Int} (ha : Bd 1000000 a) : iX prog 96 [W a] (W (-a)):=by
 intro w;refine ⟨afy,?_⟩;have hX:=dK.refl w
 go_enter func96,ntmps96
 refine aF (fun K1 hK1=>wp_region_lit ?_);refine kR (by simp only[zz];rfl) ?_;intro w1 g1 hE hg1 hB1;have hG1:=Nat.le_trans hX.size hg1;replace hX:=hX.trans hE;clear hE hg1;simp only[zz];refine jM eX rfl ?_;intro w2 g2 hE hg2 hB2;have hG2:=Nat.le_trans hX.size hg2;have hN2_1 : g2 ≠ g1:=Nat.ne_of_gt (Nat.lt_of_lt_of_le hB1.lt hg2);replace hB1:=hB1.ext hE;replace hX:=hX.trans hE;clear hE hg2;simp only[zz];refine aG (hK1 _ _ ?_);refine aF (fun K2 hK2=>?_);refine eH [(2,true),(0,true),(3,true),(4,true),(1,false),(5,false),(6,false)] aP (by kernel_rfl) (dL (fun _ _ _ _ _ h=>h)) (ol:=?_) ?hol ?_
 case hol=>simp only[zw,zQ,zR];try rfl
 intro w3 hE;replace hB1:=hB1.ext hE;replace hB2:=hB2.ext hE;replace hX:=hX.trans hE;clear hE;refine ⟨_,(lJ.blk hB1 lJ.nil),?_⟩;refine aZ (aO (c:=0) gG rfl fC rfl rfl) ?_;simp only[zz];refine cU rfl (fun _ ⟨hB1,_⟩=>(hB1.lies cA aR rfl rfl)) ?_;simp only[zz];refine cU rfl (fun _ ⟨hB1,_⟩=>(hB1.lies1 jG rfl)) ?_;simp only[zz];refine aZ (fN rfl) ?_;simp only[zz];refine cW (bE rfl rfl (Fe _ (gQ ha)) ?_);rintro v w4 hE ⟨A1,c1,rfl,hN1⟩;replace hB1:=hB1.ext hE;replace hB2:=hB2.ext hE;replace hX:=hX.trans hE;clear hE;rw [gC] at hN1 ⊢;simp only[zz];refine aG (⟨⟨hB1,trivial⟩,?_⟩);refine cW (bE rfl rfl (uR _ hN1 (Nat.le_trans (tV ha) (by decide))) ?_);rintro v w5 hE rfl;replace hB1:=hB1.ext hE;replace hB2:=hB2.ext hE;replace hX:=hX.trans hE;clear hE;simp only[cT];simp only[zz];refine aG (⟨⟨hB1,trivial⟩,?_⟩);refine cW ?_;refine dA rfl (by simp only[zz];rfl) (by exact aR) hB2 (by simp) (by simp [Value.oneCell']) ?_;clear hB2;intro w6 hC hB2;replace hB1:=hB1.chg hC (by first | exact hN1_2 | exact Ne.symm hN2_1);replace hX:=hX.chg hC hG2;clear hC;simp only[zy,zx,bK,Nat.reduceAdd] at hB2;refine aG (⟨⟨hB1,trivial⟩,?_⟩);refine dU ?_;rw [Qs] at hB2;refine hK2 _ _ (wp_ret ?_);try simp only[Exit.inBlock,Exit.then]
 refine bS rfl ⟨_,rfl,(hB2.lies cA aR rfl rfl)⟩ ?_;try simp only[zD,zE]
 exact ⟨_,rfl,hX,rfl⟩
theorem Nb {a b : Int} (ha : Bd 1000000 a) (hb : Bd 1000000 b) : iX prog 79 [W a,W b] (W (a + b)):=by
 intro w;refine ⟨afh,?_⟩;have hX:=dK.refl w;have hla:=tV ha;have hlb:=tV hb;have hls:=tV (Bd.add ha hb)
 go_enter func79,ntmps79
 refine aF (fun K1 hK1=>wp_region_lit ?_);refine kR (by simp only[zz];rfl) ?_;intro w1 g1 hE hg1 hB1;have hG1:=Nat.le_trans hX.size hg1;replace hX:=hX.trans hE;clear hE hg1;simp only[zz];refine kR (by simp only[zz];rfl) ?_;intro w2 g2 hE hg2 hB2;have hG2:=Nat.le_trans hX.size hg2;have hN2_1 : g2 ≠ g1:=Nat.ne_of_gt (Nat.lt_of_lt_of_le hB1.lt hg2);replace hB1:=hB1.ext hE;replace hX:=hX.trans hE;clear hE hg2;simp only[zz];refine jM eX rfl ?_;intro w3 g3 hE hg3 hB3;have hG3:=Nat.le_trans hX.size hg3;have hN3_1 : g3 ≠ g1:=Nat.ne_of_gt (Nat.lt_of_lt_of_le hB1.lt hg3);have hN3_2 : g3 ≠ g2:=Nat.ne_of_gt (Nat.lt_of_lt_of_le hB2.lt hg3);replace hB1:=hB1.ext hE;replace hB2:=hB2.ext hE;replace hX:=hX.trans hE;clear hE hg3;simp only[zz];refine aG (hK1 _ _ ?_);refine aF (fun K2 hK2=>?_);refine eH [(0,true),(2,true),(1,false),(3,false),(4,true),(5,true)] aP (by kernel_rfl) (dL (fun _ _ _ _ _ h=>h)) (ol:=?_) ?hol ?_
 case hol=>simp only[zw,zQ,zR];try rfl
 intro w4 hE;replace hB1:=hB1.ext hE;replace hB2:=hB2.ext hE;replace hB3:=hB3.ext hE;replace hX:=hX.trans hE;clear hE;refine ⟨_,(lJ.blk hB1 (lJ.blk hB2 lJ.nil)),?_⟩;refine cU rfl (fun _ ⟨hB1,hB2,_⟩=>(hB1.lies cA aR rfl rfl)) ?_;simp only[zz];refine cU rfl (fun _ ⟨hB1,hB2,_⟩=>(hB2.lies cA aR rfl rfl)) ?_;simp only[zz];refine cW (bE rfl rfl (Fe _ (gQ ha)) ?_);rintro v w5 hE ⟨A1,c1,rfl,hN1⟩;replace hB1:=hB1.ext hE;replace hB2:=hB2.ext hE;replace hB3:=hB3.ext hE;replace hX:=hX.trans hE;clear hE;rw [gC] at hN1 ⊢;simp only[zz];refine aG (⟨⟨hB1,hB2,trivial⟩,?_⟩);refine cW (bE rfl rfl (Fe _ (gQ hb)) ?_);rintro v w6 hE ⟨A2,c2,rfl,hN2⟩;replace hB1:=hB1.ext hE;replace hB2:=hB2.ext hE;replace hB3:=hB3.ext hE;(try replace hN1:=hN1.ext hE);replace hX:=hX.trans hE;clear hE;rw [gC] at hN2 ⊢;simp only[zz];refine aG (⟨⟨hB1,hB2,trivial⟩,?_⟩);refine aZ (aD) (aZ (aD) ?_);simp only[zz];refine dU (hK2 _ _ ?_);refine aF (fun K3 hK3=>wp_block (aF (fun K4 hK4=>wp_region_lit (aA (aO (c:=0) gG rfl fC rfl rfl) ?_))));simp only[zz];refine aL rfl (hB1.lies1 jG rfl) ?_;simp only[zz];refine aA (aO (c:=0) gG rfl fC rfl rfl) ?_;simp only[zz];refine aL rfl (hB2.lies1 jG rfl) ?_;simp only[zz];refine aA (Wz Oy rfl rfl) (aA (aD) ?_);simp only[zz];refine aG (hK4 _ _ ?_);refine cC rfl (fun hc1=>?_) (fun hc1=>?_)
 ·
  refine aF (fun K5 hK5=>?_);refine eH [(0,true),(1,true),(3,true),(4,true),(2,false),(5,false),(6,false)] aP (by kernel_rfl) (dL (fun _ _ _ _ _ h=>h)) (ol:=?_) ?hol ?_
  case hol=>simp only[zw,zQ,zR];try rfl
  intro w7 hE;replace hB1:=hB1.ext hE;replace hB3:=hB3.ext hE;(try replace hN1:=hN1.ext hE);(try replace hN2:=hN2.ext hE);replace hX:=hX.trans hE;clear hE;refine ⟨_,(lJ.blk hB1 lJ.nil),?_⟩;refine aZ (aB) (aZ (aB) (aZ (aO (c:=0) gG rfl fC rfl rfl) ?_));simp only[zz];refine cU rfl (fun _ ⟨hB1,_⟩=>(hB1.lies1 jG rfl)) ?_;simp only[zz];refine cW (bE rfl rfl (ace _ hN1 hN2 (Nat.le_trans hla (by decide)) (Nat.le_trans hlb (by decide))) ?_);rintro v w8 hE ⟨A3,c3,rfl,hN3⟩;replace hB1:=hB1.ext hE;replace hB3:=hB3.ext hE;replace hX:=hX.trans hE;clear hE;simp only[zz];refine aG (⟨⟨hB1,trivial⟩,?_⟩);refine cW ?_;simp only[cT] at hN3 ⊢;have hl3 : (digs 4294967296 (a.natAbs + b.natAbs)).length ≤ 100000000000:=Nat.le_trans (Tc ha hb) (by decide);refine bE rfl rfl (uR _ hN3 hl3) ?_;rintro v w9 hE rfl;replace hB1:=hB1.ext hE;replace hB3:=hB3.ext hE;replace hX:=hX.trans hE;clear hE;simp only[cT];simp only[zz];refine aG (⟨⟨hB1,trivial⟩,?_⟩);refine cW ?_;refine dA rfl (by simp only[zz];rfl) (by exact aR) hB3 (by simp) (by simp [Value.oneCell']) ?_;clear hB3;intro w10 hC hB3;replace hB1:=hB1.chg hC (by first | exact hN1_3 | exact Ne.symm hN3_1);replace hX:=hX.chg hC hG3;clear hC;simp only[zy,zx,bK,Nat.reduceAdd] at hB3;refine aG (⟨⟨hB1,trivial⟩,?_⟩);refine dU ?_;rw [Qt hc1] at hB3;refine hK5 _ _ (wp_ret ?_);try simp only[Exit.inBlock,Exit.then]
  refine bS rfl ⟨_,rfl,(hB3.lies cA aR rfl rfl)⟩ ?_;try simp only[zD,zE]
  exact ⟨_,rfl,hX,rfl⟩
 ·
  refine aF (fun K6 hK6=>wp_region_lit (aA (aB) (aA (aB) ?_)));simp only[zz];refine bE rfl rfl (Rr _ hN1 hN2 (fZ _) (fZ _)) ?_;rintro v w7 hE rfl;replace hB1:=hB1.ext hE;replace hB2:=hB2.ext hE;replace hB3:=hB3.ext hE;(try replace hN1:=hN1.ext hE);(try replace hN2:=hN2.ext hE);replace hX:=hX.trans hE;clear hE;simp only[cT];simp only[zz];refine aA (cO rfl rfl) (aA (aD) ?_);simp only[zz];refine aG (hK6 _ _ ?_);refine cC rfl (fun hc2=>?_) (fun hc2=>?_)
  ·
   have hlt:=sN.1 hc2;refine aF (fun K7 hK7=>?_);refine eH [(0,true),(1,true),(3,true),(4,true),(2,false),(5,false),(6,false)] aP (by kernel_rfl) (dL (fun _ _ _ _ _ h=>h)) (ol:=?_) ?hol ?_
   case hol=>simp only[zw,zQ,zR];try rfl
   intro w8 hE;replace hB2:=hB2.ext hE;replace hB3:=hB3.ext hE;(try replace hN1:=hN1.ext hE);(try replace hN2:=hN2.ext hE);replace hX:=hX.trans hE;clear hE;refine ⟨_,(lJ.blk hB2 lJ.nil),?_⟩;refine aZ (aB) (aZ (aB) (aZ (aO (c:=0) gG rfl fC rfl rfl) ?_));simp only[zz];refine cU rfl (fun _ ⟨hB2,_⟩=>(hB2.lies1 jG rfl)) ?_;simp only[zz];refine cW ?_;refine bE rfl rfl (aak _ hN2 hN1 (Cy (Nat.le_of_lt hlt)) (by simp only[cT];omega) (Nat.le_trans hlb (by decide))) ?_;rintro v w9 hE ⟨⟨A3,c3,rfl,hN3⟩,_⟩;replace hB2:=hB2.ext hE;replace hB3:=hB3.ext hE;replace hX:=hX.trans hE;clear hE;simp only[cT] at hN3 ⊢;have hl3:=Cy (Nat.sub_le b.natAbs a.natAbs);simp only[zz];refine aG (⟨⟨hB2,trivial⟩,?_⟩);refine cW (bE rfl rfl (uR _ hN3 (Nat.le_trans hl3 (Nat.le_trans hlb (by decide)))) ?_);rintro v w10 hE rfl;replace hB2:=hB2.ext hE;replace hB3:=hB3.ext hE;replace hX:=hX.trans hE;clear hE;simp only[cT];simp only[zz];refine aG (⟨⟨hB2,trivial⟩,?_⟩);refine cW ?_;refine dA rfl (by simp only[zz];rfl) (by exact aR) hB3 (by simp) (by simp [Value.oneCell']) ?_;clear hB3;intro w11 hC hB3;replace hB2:=hB2.chg hC (by first | exact hN2_3 | exact Ne.symm hN3_2);replace hX:=hX.chg hC hG3;clear hC;simp only[zy,zx,bK,Nat.reduceAdd] at hB3;refine aG (⟨⟨hB2,trivial⟩,?_⟩);refine dU ?_;rw [Xe hc1 hlt] at hB3;refine hK7 _ _ (wp_ret ?_);try simp only[Exit.inBlock,Exit.then]
   refine bS rfl ⟨_,rfl,(hB3.lies cA aR rfl rfl)⟩ ?_;try simp only[zD,zE]
   exact ⟨_,rfl,hX,rfl⟩
  ·
   have hge : b.natAbs ≤ a.natAbs:=Nat.le_of_not_lt fun h=>hc2 (sN.2 h);refine wp_skip (hK3 _ _ ?_);refine aF (fun K8 hK8=>?_);refine eH [(0,true),(1,true),(3,true),(4,true),(2,false),(5,false),(6,false)] aP (by kernel_rfl) (dL (fun _ _ _ _ _ h=>h)) (ol:=?_) ?hol ?_
   case hol=>simp only[zw,zQ,zR];try rfl
   intro w8 hE;replace hB1:=hB1.ext hE;replace hB3:=hB3.ext hE;(try replace hN1:=hN1.ext hE);(try replace hN2:=hN2.ext hE);replace hX:=hX.trans hE;clear hE;refine ⟨_,(lJ.blk hB1 lJ.nil),?_⟩;refine aZ (aB) (aZ (aB) (aZ (aO (c:=0) gG rfl fC rfl rfl) ?_));simp only[zz];refine cU rfl (fun _ ⟨hB1,_⟩=>(hB1.lies1 jG rfl)) ?_;simp only[zz];refine cW ?_;refine bE rfl rfl (aak _ hN1 hN2 (Cy hge) (by simp only[cT];omega) (Nat.le_trans hla (by decide))) ?_;rintro v w9 hE ⟨⟨A3,c3,rfl,hN3⟩,_⟩;replace hB1:=hB1.ext hE;replace hB3:=hB3.ext hE;replace hX:=hX.trans hE;clear hE;simp only[cT] at hN3 ⊢;have hl3:=Cy (Nat.sub_le a.natAbs b.natAbs);simp only[zz];refine aG (⟨⟨hB1,trivial⟩,?_⟩);refine cW (bE rfl rfl (uR _ hN3 (Nat.le_trans hl3 (Nat.le_trans hla (by decide)))) ?_);rintro v w10 hE rfl;replace hB1:=hB1.ext hE;replace hB3:=hB3.ext hE;replace hX:=hX.trans hE;clear hE;simp only[cT];simp only[zz];refine aG (⟨⟨hB1,trivial⟩,?_⟩);refine cW ?_;refine dA rfl (by simp only[zz];rfl) (by exact aR) hB3 (by simp) (by simp [Value.oneCell']) ?_;clear hB3;intro w11 hC hB3;replace hB1:=hB1.chg hC (by first | exact hN1_3 | exact Ne.symm hN3_1);replace hX:=hX.chg hC hG3;clear hC;simp only[zy,zx,bK,Nat.reduceAdd] at hB3;refine aG (⟨⟨hB1,trivial⟩,?_⟩);refine dU ?_;rw [Xf hc1 hge] at hB3;refine hK8 _ _ (wp_ret ?_);try simp only[Exit.inBlock,Exit.then]
   refine bS rfl ⟨_,rfl,(hB3.lies cA aR rfl rfl)⟩ ?_;try simp only[zD,zE]
   exact ⟨_,rfl,hX,rfl⟩
end Go.Proofs.YtfohfflkhpfjeaaGreatDoor
namespace Go.Proofs.YtfohfflkhpfjeaaGreatDoor
open Go.Proofs.Tryz
open Go.RowKit Go.Lith
set_option maxRecDepth 100000
attribute [local irreducible] wpList wpQuiet dY Code.wp
theorem aao {a b : Int} (ha : Bd 1000000 a) (hb : Bd 1000000 b) : iX prog 54 [W a,W b] (W (a - b)):=by
 intro w;refine ⟨aeU,?_⟩;have hX:=dK.refl w
 go_enter func54,ntmps54
 refine aF (fun K1 hK1=>wp_region_lit ?_);refine kR (by simp only[zz];rfl) ?_;intro w1 g1 hE hg1 hB1;have hG1:=Nat.le_trans hX.size hg1;replace hX:=hX.trans hE;clear hE hg1;simp only[zz];refine kR (by simp only[zz];rfl) ?_;intro w2 g2 hE hg2 hB2;have hG2:=Nat.le_trans hX.size hg2;have hN2_1 : g2 ≠ g1:=Nat.ne_of_gt (Nat.lt_of_lt_of_le hB1.lt hg2);replace hB1:=hB1.ext hE;replace hX:=hX.trans hE;clear hE hg2;simp only[zz];refine jM eX rfl ?_;intro w3 g3 hE hg3 hB3;have hG3:=Nat.le_trans hX.size hg3;have hN3_1 : g3 ≠ g1:=Nat.ne_of_gt (Nat.lt_of_lt_of_le hB1.lt hg3);have hN3_2 : g3 ≠ g2:=Nat.ne_of_gt (Nat.lt_of_lt_of_le hB2.lt hg3);replace hB1:=hB1.ext hE;replace hB2:=hB2.ext hE;replace hX:=hX.trans hE;clear hE hg3;simp only[zz];refine aG (hK1 _ _ ?_);refine aF (fun K2 hK2=>?_);refine iP 4 aP (by kernel_rfl) ?_;simp only[zy];refine iQ rfl (fun _ hE'=>((hB1.ext hE').lies cA aR rfl rfl)) ?_;simp only[zz];refine iQ rfl (fun _ hE'=>((hB2.ext hE').lies cA aR rfl rfl)) ?_;simp only[zz];refine Bn rfl rfl (afR hb) ?_;simp only[zz];refine Bn rfl rfl (Nb ha hb.neg) ?_;simp only[zz];refine cP ?_;intro w4 hE;replace hB3:=hB3.ext hE;replace hX:=hX.trans hE;clear hE;refine dA rfl (by simp only[zz];rfl) (by exact aR) hB3 (by simp) (by simp [Value.oneCell']) ?_;clear hB3;intro w5 hC hB3;replace hX:=hX.chg hC hG3;clear hC;simp only[zy,zx,bK,Nat.reduceAdd] at hB3;refine aG ?_;rw [← Int.sub_eq_add_neg] at hB3;refine hK2 _ _ (wp_ret ?_);try simp only[Exit.inBlock,Exit.then]
 refine bS rfl ⟨_,rfl,(hB3.lies cA aR rfl rfl)⟩ ?_;try simp only[zD,zE]
 exact ⟨_,rfl,hX,rfl⟩
theorem Rv {a b : Int} (ha : Bd 1000000 a) (hb : Bd 1000000 b) : iX prog 78 [W a,W b] (W (a * b)):=by
 intro w;refine ⟨afg,?_⟩;have hX:=dK.refl w;have hla:=tV ha;have hlb:=tV hb;have hls:=tV (Bd.mul ha hb)
 go_enter func78,ntmps78
 refine aF (fun K1 hK1=>wp_region_lit ?_);refine kR (by simp only[zz];rfl) ?_;intro w1 g1 hE hg1 hB1;have hG1:=Nat.le_trans hX.size hg1;replace hX:=hX.trans hE;clear hE hg1;simp only[zz];refine kR (by simp only[zz];rfl) ?_;intro w2 g2 hE hg2 hB2;have hG2:=Nat.le_trans hX.size hg2;have hN2_1 : g2 ≠ g1:=Nat.ne_of_gt (Nat.lt_of_lt_of_le hB1.lt hg2);replace hB1:=hB1.ext hE;replace hX:=hX.trans hE;clear hE hg2;simp only[zz];refine jM eX rfl ?_;intro w3 g3 hE hg3 hB3;have hG3:=Nat.le_trans hX.size hg3;have hN3_1 : g3 ≠ g1:=Nat.ne_of_gt (Nat.lt_of_lt_of_le hB1.lt hg3);have hN3_2 : g3 ≠ g2:=Nat.ne_of_gt (Nat.lt_of_lt_of_le hB2.lt hg3);replace hB1:=hB1.ext hE;replace hB2:=hB2.ext hE;replace hX:=hX.trans hE;clear hE hg3;simp only[zz];refine aG (hK1 _ _ ?_);refine aF (fun K2 hK2=>?_);refine eH [(5,true),(7,true),(0,true),(2,true),(6,true),(8,true),(9,true),(1,false),(3,false),(4,false),(10,false),(11,false)] aP (by kernel_rfl) (dL (fun _ _ _ _ _ h=>h)) (ol:=?_) ?hol ?_
 case hol=>simp only[zw,zQ,zR];try rfl
 intro w4 hE;replace hB1:=hB1.ext hE;replace hB2:=hB2.ext hE;replace hB3:=hB3.ext hE;replace hX:=hX.trans hE;clear hE;refine ⟨_,(lJ.blk hB1 (lJ.blk hB2 lJ.nil)),?_⟩;refine aZ (aO (c:=0) gG rfl fC rfl rfl) (aZ (aO (c:=0) gG rfl fC rfl rfl) ?_);simp only[zz];refine cU rfl (fun _ ⟨hB1,hB2,_⟩=>(hB1.lies cA aR rfl rfl)) ?_;simp only[zz];refine cU rfl (fun _ ⟨hB1,hB2,_⟩=>(hB2.lies cA aR rfl rfl)) ?_;simp only[zz];refine cU rfl (fun _ ⟨hB1,hB2,_⟩=>(hB1.lies1 jG rfl)) ?_;simp only[zz];refine cU rfl (fun _ ⟨hB1,hB2,_⟩=>(hB2.lies1 jG rfl)) ?_;simp only[zz];refine aZ (Xa Oy rfl rfl) ?_;simp only[zz];refine cW (bE rfl rfl (Fe _ (gQ ha)) ?_);rintro v w5 hE ⟨A1,c1,rfl,hN1⟩;replace hB1:=hB1.ext hE;replace hB2:=hB2.ext hE;replace hB3:=hB3.ext hE;replace hX:=hX.trans hE;clear hE;rw [gC] at hN1 ⊢;simp only[zz];refine aG (⟨⟨hB1,hB2,trivial⟩,?_⟩);refine cW (bE rfl rfl (Fe _ (gQ hb)) ?_);rintro v w6 hE ⟨A2,c2,rfl,hN2⟩;replace hB1:=hB1.ext hE;replace hB2:=hB2.ext hE;replace hB3:=hB3.ext hE;(try replace hN1:=hN1.ext hE);replace hX:=hX.trans hE;clear hE;rw [gC] at hN2 ⊢;simp only[zz];refine aG (⟨⟨hB1,hB2,trivial⟩,?_⟩);refine cW (bE rfl rfl (aal _ hN1 hN2 (Nat.le_trans hla (by decide)) (Nat.le_trans hlb (by decide))) ?_);rintro v w7 hE ⟨A3,c3,rfl,hN3⟩;replace hB1:=hB1.ext hE;replace hB2:=hB2.ext hE;replace hB3:=hB3.ext hE;replace hX:=hX.trans hE;clear hE;simp only[cT] at hN3 ⊢;rw [← Int.natAbs_mul] at hN3 ⊢;simp only[zz];refine aG (⟨⟨hB1,hB2,trivial⟩,?_⟩);refine cW (bE rfl rfl (uR _ hN3 (Nat.le_trans hls (by decide))) ?_);rintro v w8 hE rfl;replace hB1:=hB1.ext hE;replace hB2:=hB2.ext hE;replace hB3:=hB3.ext hE;replace hX:=hX.trans hE;clear hE;simp only[cT];simp only[zz];refine aG (⟨⟨hB1,hB2,trivial⟩,?_⟩);refine cW ?_;refine dA rfl (by simp only[zz];rfl) (by exact aR) hB3 (by simp) (by simp [Value.oneCell']) ?_;clear hB3;intro w9 hC hB3;replace hB1:=hB1.chg hC (by first | exact hN1_3 | exact Ne.symm hN3_1);replace hB2:=hB2.chg hC (by first | exact hN2_3 | exact Ne.symm hN3_2);replace hX:=hX.chg hC hG3;clear hC;simp only[zy,zx,bK,Nat.reduceAdd] at hB3;refine aG (⟨⟨hB1,hB2,trivial⟩,?_⟩);refine dU ?_;rw [Int.natAbs_mul,Qu] at hB3;refine hK2 _ _ (wp_ret ?_);try simp only[Exit.inBlock,Exit.then]
 refine bS rfl ⟨_,rfl,(hB3.lies cA aR rfl rfl)⟩ ?_;try simp only[zD,zE]
 exact ⟨_,rfl,hX,rfl⟩
theorem wP {n : Int} (h : oJ n) : iX prog 80 [.int .i64 n] (W n):=by
 intro w;refine ⟨afi,?_⟩;have hX:=dK.refl w;have hna:=h.natAbs
 go_enter func80,ntmps80
 refine aF (fun K1 hK1=>wp_region_lit ?_);refine jM eX rfl ?_;intro w1 g1 hE hg1 hB1;have hG1:=Nat.le_trans hX.size hg1;replace hX:=hX.trans hE;clear hE hg1;simp only[zz];refine aG (hK1 _ _ ?_);refine aF (fun K2 hK2=>?_);rcases (show n < 0 ∨ 0 ≤ n by omega) with h0 | h0
 ·
  refine wp_region_lit (aA (aB) (aA (jI nR iT rfl (Qv h h0)) (aA (aD) ?_)));simp only[zz];refine aG (hK2 _ _ ?_);refine aF (fun K3 hK3=>aF (fun K4 hK4=>wp_region_lit (aA (aB) (aA (bW rfl rfl (by omega)) ?_))));simp only[zz];refine aG (hK4 _ _ ?_);refine cQ rfl (wp_region_lit (aA (aB) (aA (Qq rfl (Gp hna (by omega))) (aA (aD) ?_))));simp only[zz];refine aG (hK3 _ _ ?_);refine aF (fun K5 hK5=>wp_region_lit (aA (aB) (aA (rK rfl rfl (Bq (by omega))) (aA (aB) ?_))));simp only[zz];refine aA (qJ rfl rfl (by omega) Nz) ?_;simp only[zz];refine Ko bD (z:=.int .u64 0) (by kernel_rfl) rfl (by simp only[zz];rfl) (by rfl) (by simp only[zz];rfl) (by rfl) ?_;intro w2 g2 hE hg2 hB2;have hG2:=Nat.le_trans hX.size hg2;have hN2_1 : g2 ≠ g1:=Nat.ne_of_gt (Nat.lt_of_lt_of_le hB1.lt hg2);replace hB1:=hB1.ext hE;replace hX:=hX.trans hE;clear hE hg2;simp only[zz];refine aA (aB) (aA (bW rfl rfl (by omega)) ?_);simp only[zz];refine bE rfl rfl (uR _ (hB2.nat (os:=[n.natAbs % 4294967296,n.natAbs / 4294967296]) (Cz (by omega)) rfl (by omega)) (by simp)) ?_;rintro v w3 hE rfl;replace hB1:=hB1.ext hE;replace hX:=hX.trans hE;clear hE;simp only[zz];refine dA rfl (by simp only[zz];rfl) (by exact aR) hB1 (by simp) (by simp [Value.oneCell']) ?_;clear hB1;intro w4 hC hB1;replace hX:=hX.chg hC hG1;clear hC;simp only[zy,zx,bK,Nat.reduceAdd] at hB1;refine aG (hK5 _ _ ?_);refine wp_ret ?_;try simp only[Exit.inBlock,Exit.then]
  refine bS rfl ⟨_,rfl,(hB1.lies cA aR rfl rfl)⟩ ?_;try simp only[zD,zE]
  exact ⟨_,rfl,hX,by rw [Gq,show true = iE n from (decide_eq_true h0).symm,xA];rfl⟩
 ·
  refine wp_region_lit (aA (aB) (aA (jI nR iT rfl (Xg h h0)) (aA (aD) ?_)));simp only[zz];refine aG (hK2 _ _ ?_);refine aF (fun K6 hK6=>aF (fun K7 hK7=>wp_region_lit (aA (aB) (aA (eM rfl rfl (by omega)) ?_))));simp only[zz];refine aG (hK7 _ _ ?_);refine iD rfl (wp_skip ?_);refine hK6 _ _ (aF (fun K8 hK8=>wp_region_lit (aA (aB) (aA (rK rfl rfl (Bq (by omega))) (aA (aB) ?_)))));simp only[zz];refine aA (qJ rfl rfl (by omega) Nz) ?_;simp only[zz];refine Ko bD (z:=.int .u64 0) (by kernel_rfl) rfl (by simp only[zz];rfl) (by rfl) (by simp only[zz];rfl) (by rfl) ?_;intro w2 g2 hE hg2 hB2;have hG2:=Nat.le_trans hX.size hg2;have hN2_1 : g2 ≠ g1:=Nat.ne_of_gt (Nat.lt_of_lt_of_le hB1.lt hg2);replace hB1:=hB1.ext hE;replace hX:=hX.trans hE;clear hE hg2;simp only[zz];refine aA (aB) (aA (eM rfl rfl (by omega)) ?_);simp only[zz];refine bE rfl rfl (uR _ (hB2.nat (os:=[n.natAbs % 4294967296,n.natAbs / 4294967296]) (Cz (by omega)) rfl (by omega)) (by simp)) ?_;rintro v w3 hE rfl;replace hB1:=hB1.ext hE;replace hX:=hX.trans hE;clear hE;simp only[zz];refine dA rfl (by simp only[zz];rfl) (by exact aR) hB1 (by simp) (by simp [Value.oneCell']) ?_;clear hB1;intro w4 hC hB1;replace hX:=hX.chg hC hG1;clear hC;simp only[zy,zx,bK,Nat.reduceAdd] at hB1;refine aG (hK8 _ _ ?_);refine wp_ret ?_;try simp only[Exit.inBlock,Exit.then]
  refine bS rfl ⟨_,rfl,(hB1.lies cA aR rfl rfl)⟩ ?_;try simp only[zD,zE]
  exact ⟨_,rfl,hX,by rw [Gq,show false = iE n from (decide_eq_false (by omega)).symm,xA];rfl⟩
end Go.Proofs.YtfohfflkhpfjeaaGreatDoor
namespace Go.Proofs.YtfohfflkhpfjeaaGreatDoor
open Go.Proofs.Tryz
open Go.RowKit Go.Lith
set_option maxRecDepth 100000
attribute [local irreducible] wpList wpQuiet dY Code.wp
theorem Vl {K n R Y M : Nat} (hM : M = 4294967296 ^ (K + 1)) (hRM : R < M) (hy : Y < 4294967296 ^ n) : (digs 4294967296 (R + Y)).length ≤ K + 1 + n + 1:=dQ (by omega) (acw (hM ▸ hRM) hy)
theorem adE {a : Int} (ha : Bd 1000000 a) (h0 : 0 ≤ a) : iX prog 77 [W a] (.tuple #[W (eE a.natAbs : Int),.bool true]):=by
 intro w;refine ⟨aff,?_⟩;have hX:=dK.refl w;have hla:=tV ha;obtain ⟨X,hXa⟩ : ∃ X,X = a.natAbs:=⟨_,rfl⟩
 obtain ⟨K,hK⟩ : ∃ K,K = ((digs 4294967296 X).length + 1) / 2:=⟨_,rfl⟩
 rw [← hXa] at hla;obtain ⟨M,hM⟩ : ∃ M,M = 4294967296 ^ (K + 1):=⟨_,rfl⟩
 have hlen : ∀ V : Nat,V < M → (digs 4294967296 V).length ≤ 1000001:=fun V h=>Nat.le_trans (dQ (by omega) (by rw [← hM];exact h)) (by omega);have hXd : X < 4294967296 ^ (digs 4294967296 X).length:=by have:=gZ (jT X);rwa [cT] at this
 have hst:=Oj hXd;rw [← hK] at hst;have hMK : 4294967296 ^ K < M:=by rw [hM];exact Nat.pow_lt_pow_right (by omega) (by omega)
 have hp0 : 0 < 4294967296 ^ K:=Nat.pow_pos (by omega);obtain ⟨R0,hR0⟩ : ∃ R0,R0 = 4294967296 ^ K:=⟨_,rfl⟩
 rw [← hR0] at hst hMK hp0;rw [← hXa]
 go_enter func77,ntmps77
 refine aF (fun K1 hK1=>wp_region_lit ?_);refine kR (by simp only[zz];rfl) ?_;intro w1 g1 hE hg1 hB1;have hG1:=Nat.le_trans hX.size hg1;replace hX:=hX.trans hE;clear hE;simp only[zz];refine jM eX rfl ?_;intro w2 g2 hE hg2 hB2;have hG2:=Nat.le_trans hX.size hg2;have hN2_1 : g2 ≠ g1:=Nat.ne_of_gt (Nat.lt_of_lt_of_le hB1.lt hg2);have hL2_1:=Nat.lt_of_lt_of_le hB1.lt hg2;replace hB1:=hB1.ext hE;replace hX:=hX.trans hE;clear hE;simp only[zz];refine aA (aD) ?_;simp only[zz];refine aG (hK1 _ _ ?_);refine aF (fun K2 hK2=>wp_region_lit ?_);refine aL rfl (hB1.lies cA aR rfl rfl) ?_;simp only[zz];refine bE rfl rfl (Fe _ (gQ ha)) ?_;rintro v w3 hE ⟨A1,c1,rfl,hN1⟩;replace hB1:=hB1.ext hE;replace hB2:=hB2.ext hE;replace hX:=hX.trans hE;clear hE;rw [gC,← hXa] at hN1 ⊢;simp only[zz];refine aA (aD) ?_;simp only[zz];refine aG (hK2 _ _ ?_);refine aF (fun K3 hK3=>aF (fun K4 hK4=>?_));rcases Nat.eq_zero_or_pos X with hX0 | hX0
 ·
  subst hX0;refine wp_region_lit (aA (aB) (aA (bA rfl bD rfl) (aA (qT rfl rfl (by rfl)) ?_)));simp only[zz];refine aG (hK4 _ _ ?_);refine cQ rfl (aF (fun K5 hK5=>wp_region_lit (aA (Ar) ?_)));simp only[zz];refine dA rfl (by simp only[zz];rfl) (by exact aR) hB2 (by simp) (by simp [Value.oneCell']) ?_;clear hB2;intro w4 hC hB2;replace hX:=hX.chg hC hG2;clear hC;simp only[zy,zx,bK,Nat.reduceAdd] at hB2;refine aA (aD) ?_;simp only[zz];refine aG (hK5 _ _ ?_);refine wp_ret ?_;try simp only[Exit.inBlock,Exit.then]
  refine jW rfl ⟨_,rfl,(hB2.lies cA aR rfl rfl)⟩ rfl ?_;try simp only[zD,zE]
  exact ⟨_,rfl,hX,rfl⟩
 ·
  refine wp_region_lit (aA (aB) (aA (bA rfl bD rfl) (aA (Nx rfl rfl (fun e=>by have h1:=(qL (B:=4294967296) (by omega)).1 (List.eq_nil_of_length_eq_zero (show (digs 4294967296 X).length = 0 by omega));omega)) ?_)));simp only[zz];refine aG (hK4 _ _ ?_);refine iD rfl (wp_skip ?_);refine hK3 _ _ (aF (fun K6 hK6=>aF (fun K7 hK7=>wp_region_lit (aA (aO (c:=0) gG rfl fC rfl rfl) ?_))));simp only[zz];refine aL rfl (hB1.lies1 jG rfl) ?_;simp only[zz];refine aG (hK7 _ _ ?_);refine lI rfl (fun hc2=>?_) (fun hc2=>?_)
  ·
   exact absurd (yP hc2) (by omega)
  ·
   refine wp_skip ?_;refine hK6 _ _ (aF (fun K8 hK8=>wp_region_lit (aA (aB) (aA (bA rfl bD rfl) (aA (aQ rfl rfl (aM (by omega) (by omega))) ?_)))));simp only[zz];refine aA (gY rfl rfl (by omega) ((lD (m:=(digs 4294967296 X).length + 1) (n:=2) (by omega)).trans (congrArg (fun q : Nat=>(q : Int)) hK.symm))) ?_;simp only[zz];have hN0:=hN1;have hE0:=dK.refl_of hB1;refine jE bD lY rfl rfl rfl (show _ = K by omega) (show _ = K by omega) (by omega) (by omega) (by omega) (by omega) ?_;intro w4 g3 hE hg3 hB3;have hG3:=Nat.le_trans hX.size hg3;have hN3_1 : g3 ≠ g1:=Nat.ne_of_gt (Nat.lt_of_lt_of_le hB1.lt hg3);have hN3_2 : g3 ≠ g2:=Nat.ne_of_gt (Nat.lt_of_lt_of_le hB2.lt hg3);have hL3_1:=Nat.lt_of_lt_of_le hB1.lt hg3;have hL3_2:=Nat.lt_of_lt_of_le hB2.lt hg3;replace hB1:=hB1.ext hE;replace hB2:=hB2.ext hE;(try replace hE0:=hE0.ext hE);replace hX:=hX.trans hE;clear hE;simp only[zz];refine fD bD (z:=.int .u64 0) (by kernel_rfl) rfl (by simp only[zz];rfl) (by rfl) ?_;intro w5 g4 hE hg4 hB4;have hG4:=Nat.le_trans hX.size hg4;have hN4_1 : g4 ≠ g1:=Nat.ne_of_gt (Nat.lt_of_lt_of_le hB1.lt hg4);have hN4_2 : g4 ≠ g2:=Nat.ne_of_gt (Nat.lt_of_lt_of_le hB2.lt hg4);have hN4_3 : g4 ≠ g3:=Nat.ne_of_gt (Nat.lt_of_lt_of_le hB3.lt hg4);have hL4_1:=Nat.lt_of_lt_of_le hB1.lt hg4;have hL4_2:=Nat.lt_of_lt_of_le hB2.lt hg4;have hL4_3:=Nat.lt_of_lt_of_le hB3.lt hg4;replace hB2:=hB2.ext hE;replace hB3:=hB3.ext hE;(try replace hE0:=hE0.ext hE);replace hX:=hX.trans hE;clear hE;simp only[zz];refine fU rfl bD lY rfl (by decide) rfl (iR.full (base:=g3) hB3 (Nat.le_refl _) (by simp) (by omega)) rfl (news:=[kH 1]) rfl (hB4.row 0) (by simp [Value.oneCell']) (by omega) (by omega) (Nat.le_of_lt hB3.lt) ?_;intro v1 w9 hO hGr _;replace hX:=hX.grown hGr hG3;replace hB2:=hB2.grew hGr hL3_2;replace hN1:=hN0.grew hE0 hGr hg3;obtain ⟨A5,c5,rfl,hN5⟩:=dM.of_owns (xs:=List.replicate K 0 ++ [1]) (by have h:=hO;rw [fY] at h;rw [List.map_append];exact h) (by simp) (by rw [Gs];exact jT _) (by omega);rw [Gs,← hR0] at hN5;have hl5:=hN5.eq;rw [hl5] at hN5 ⊢;clear hB3 hB4;simp only[zz];refine aA (aD) ?_;simp only[zz];refine aG (hK8 _ _ ?_);refine wp_block (bJ [5] [3,6,7,8,9,26,27,28,29,30,31,32,33,34,35,36,37,38,39,40,41,42,43,44,45] (fun n vs wl=>∃ (R : Nat) (A5 : Option Addr) (c5 : Nat),vs = [.slice A5 (digs 4294967296 R).length c5] ∧ (dK w wl) ∧ (gD wl g2 [.bool false,.string ⟨#[]⟩] 65) ∧ (dM wl A1 (digs 4294967296 X).length c1 (digs 4294967296 X)) ∧ (dM wl A5 (digs 4294967296 R).length c5 (digs 4294967296 R)) ∧ (0 < R) ∧ (X < (R + 1) * (R + 1)) ∧ (R < M) ∧ (n = R)) ?_ ?_)
   ·
    apply Exists.intro;simp only[zQ,zR,zD,zE];exact ⟨R0,A5,c5,rfl,hX,hB2,hN1,hN5,hp0,hst,hMK,rfl⟩
   ·
    intro n vs wr hI u;obtain ⟨R,A5,c5,rfl,hX,hB2,hN1,hN5,hp1,hRx,hRM,hn⟩:=hI;simp only[zu,zF,zG];refine wp_block (aF (fun K9 hK9=>wp_region_lit (aA (aB) (aA (aB) ?_))));simp only[zz];refine bE rfl rfl (afQ _ hN1 hN5 (fZ _) (fZ _) (by rw [cT];exact hp1) (by omega) (Nat.le_trans (hlen _ hRM) (by decide))) ?_;rintro v w6 hE ⟨_,_,rfl,⟨A3,c3,rfl,hN3⟩,⟨A4,c4,rfl,hN4⟩⟩;replace hB2:=hB2.ext hE;(try replace hN1:=hN1.ext hE);(try replace hN5:=hN5.ext hE);replace hX:=hX.trans hE;clear hE;simp only[cT] at hN3 hN4 ⊢;have hl3:=Cy (Nat.div_le_self X R);simp only[zz];refine aA (aB) (aA (bM rfl rfl) (aA (bM rfl rfl) ?_));simp only[zz];refine aA (aD) (aA (aD) ?_);simp only[zz];refine aG (hK9 _ _ ?_);refine aF (fun K10 hK10=>wp_region_lit (aA (aB) (aA (aB) ?_)));simp only[zz];refine bE rfl rfl (ace _ hN5 hN3 (Nat.le_trans (hlen _ hRM) (by decide)) (by omega)) ?_;rintro v w7 hE ⟨A6,c6,rfl,hN6⟩;replace hB2:=hB2.ext hE;(try replace hN1:=hN1.ext hE);(try replace hN5:=hN5.ext hE);replace hX:=hX.trans hE;clear hE;simp only[cT] at hN6 ⊢;simp only[zz];have hl6 : (digs 4294967296 (R + X / R)).length ≤ 1099511627776:=by
     have h1:=gZ (jT X);rw [cT] at h1;have h2 : X / R ≤ X:=Nat.div_le_self _ _;exact Nat.le_trans (Vl hM hRM (Nat.lt_of_le_of_lt h2 h1)) (by omega)
    refine bE rfl rfl (Rs (d:=2) _ hN6 hl6 (by omega) (by omega)) ?_;rintro v w8 hE ⟨q,rfl,A7,c7,rfl,hN7⟩;replace hB2:=hB2.ext hE;(try replace hN1:=hN1.ext hE);(try replace hN5:=hN5.ext hE);replace hX:=hX.trans hE;clear hE;simp only[cT] at hN7 ⊢;simp only[zz];refine aA (aB) (aA (bM rfl rfl) (aA (bM rfl rfl) ?_));simp only[zz];refine aA (aD) (aA (aD) ?_);simp only[zz];refine aG (hK10 _ _ ?_);refine aF (fun K11 hK11=>aF (fun K12 hK12=>wp_region_lit (aA (aB) (aA (aB) ?_))));simp only[zz];refine bE rfl rfl (Rr _ hN7 hN5 (fZ _) (fZ _)) ?_;rintro v w9 hE rfl;replace hB2:=hB2.ext hE;(try replace hN1:=hN1.ext hE);(try replace hN5:=hN5.ext hE);(try replace hN7:=hN7.ext hE);replace hX:=hX.trans hE;clear hE;simp only[cT];simp only[zz];refine aA (pP rfl rfl) ?_;simp only[zz];refine aG (hK12 _ _ ?_);refine cC rfl (fun hc3=>?_) (fun hc3=>?_)
    ·
     have hge:=sQ.1 hc3;have hres:=Te hp1 hRx hge;refine aF (fun K13 hK13=>wp_region_lit (aA (aB) ?_));simp only[zz];refine bE rfl rfl (uR _ hN5 (Nat.le_trans (hlen _ hRM) (by decide))) ?_;rintro v w10 hE rfl;replace hB2:=hB2.ext hE;replace hX:=hX.trans hE;clear hE;simp only[cT];simp only[zz];refine dA rfl (by simp only[zz];rfl) (by exact aR) hB2 (by simp) (by simp [Value.oneCell']) ?_;clear hB2;intro w11 hC hB2;replace hX:=hX.chg hC hG2;clear hC;simp only[zy,zx,bK,Nat.reduceAdd] at hB2;refine aA (aD) ?_;simp only[zz];refine aG (hK13 _ _ ?_);refine wp_ret ?_;try simp only[Exit.inBlock,Exit.then]
     refine jW rfl ⟨_,rfl,(hB2.lies cA aR rfl rfl)⟩ rfl ?_;try simp only[zD,zE]
     exact ⟨_,rfl,hX,by rw [← hres,nP];rfl⟩
    ·
     have hlt : ¬ R ≤ (R + X / R) / 2:=fun h=>hc3 (sQ.2 h);refine wp_skip (hK11 _ _ ?_);refine wp_region_lit (aA (aB) (aA (aD) ?_));simp only[zz];refine aG ?_;simp only[Exit.inBlock,Exit.then];refine ⟨(R + X / R) / 2,_,?_,rfl,?_,?_⟩
     · rw [hn];exact Gr hlt
     · simp only[zz,zv]
     ·
      simp only[zQ,zR,zD,zE];exact ⟨(R + X / R) / 2,A7,c7,rfl,hX,hB2,hN1,hN7,Xh hp1 hRx hX0,Td hp1,Nat.lt_trans (Gr hlt) hRM,rfl⟩
end Go.Proofs.YtfohfflkhpfjeaaGreatDoor
namespace Go.Proofs.YtfohfflkhpfjeaaGreatDoor
open Go.Proofs.Tryz
open Go.RowKit Go.Lith
set_option maxRecDepth 100000
attribute [local irreducible] wpList wpQuiet dY dO dN Code.wp
theorem afS {X k : Nat} (hk : k < (digs 4294967296 X).length) (h2 : (digs 4294967296 X).length ≤ 2) : IntKind.u64.wrap ((BitVec.ofInt IntKind.u64.bits ((val 4294967296 ((digs 4294967296 X).take k) : Nat) : Int) ||| BitVec.ofInt IntKind.u64.bits (((digs 4294967296 X)[k] * 4294967296 ^ k : Nat) : Int)).toNat : Int) = ((val 4294967296 ((digs 4294967296 X).take (k + 1)) : Nat) : Int):=by
 have hd:=jT X;have h1:=gZ (fun x hx=>hd x (List.mem_of_mem_take hx) : cZ 4294967296 ((digs 4294967296 X).take k));rw [List.length_take,Nat.min_eq_left (by omega)] at h1;rw [agl h1 (hd _ (List.getElem_mem hk)) (by omega),cR hk,Nat.mul_comm]
theorem abN {X : Nat} (hl : (digs 4294967296 X).length ≤ 2) : X < 18446744073709551616:=by
 have h:=gZ (jT X);rw [cT] at h;have h3 : 4294967296 ^ (digs 4294967296 X).length ≤ 4294967296 ^ 2:=Nat.pow_le_pow_right (by omega) hl;omega
theorem adF {a : Int} (ha : Bd 1000000 a) : iX prog 81 [W a] (.tuple #[.int .i64 (Js a),.bool (decide (oJ a))]):=by
 intro w;refine ⟨afj,?_⟩;have m:=cF.refl w;obtain ⟨X,hXa⟩ : ∃ X,X = a.natAbs:=⟨_,rfl⟩
 go_enter func81,ntmps81
 refine aF fun K1 k1=>wp_region_lit (eP m rfl ?_);clear m;intro g1 u m;refine aA (aD) (aA (aD) (aG (k1 _ _ ?_)));refine aF fun K2 k2=>wp_region_lit ?_;simp only[zz];refine aL rfl ((m.b 0 rfl).full cA aR) ?_;simp only[zz];refine eQ m rfl rfl (Fe _ (gQ ha)) ?_;clear m;rintro v u m ⟨A1,c1,rfl,hN1⟩;simp only[zz];rw [gC,← hXa] at hN1;rw [gC,← hXa];have hx1:=m.ext;refine aA (aD) (aG (k2 _ _ ?_));refine aF fun K3 k3=>aF fun K4 k4=>wp_region_lit (aA (aB) (aA (bA rfl bD rfl) (aA (oE rfl rfl) ?_)));simp only[zz];refine aG (k4 _ _ ?_);refine cC rfl (fun hc1=>?_) (fun hc1=>?_)
 ·
  have hbig : ¬ oJ a:=aaj hXa (by omega);refine aF fun K5 k5=>wp_region_lit (aA (aD) (aA (aD) (aG (k5 _ _ ?_))));refine wp_ret ?_;simp only[zz];try simp only[Exit.inBlock,Exit.then,if_true]
  refine jW rfl rfl rfl ?_;try simp only[zD,zE]
  exact ⟨_,rfl,m.ext,Ae hbig⟩
 ·
  have hl2 : (digs 4294967296 X).length ≤ 2:=by omega
  have hX64:=abN hl2;refine wp_skip (k3 _ _ ?_);refine aF fun K6 k6=>wp_region_lit (aA (aD) (aG (k6 _ _ ?_)));refine aF fun K7 k7=>aF fun K8 k8=>wp_region_lit (aA (aB) (aA (bA rfl bD rfl) (aA (aB) ?_)));simp only[zz];refine aG (k8 _ _ ?_);refine wp_block ?_;try simp only[Nat.zero_add,Nat.reduceAdd,Nat.reduceMul,Int.reduceToNat]
  refine bJ [5,15] [6,7,16,17,18,19,20,21,22,23,24,25,26] (fun n vs wl=>∃ (k : Nat),vs = [.int .u64 ((val 4294967296 ((digs 4294967296 X).take k) : Nat) : Int),.int .i64 (k:Int)] ∧ cF w wl [bI g1 [.bool (iE a),.string (mX a)] 65] ∧ (dM wl A1 (digs 4294967296 X).length c1 (digs 4294967296 X)) ∧ (k ≤ (digs 4294967296 X).length) ∧ (n = (digs 4294967296 X).length - k)) ?_ ?_
  ·
   apply Exists.intro;simp only[zQ,zR,zD,zE];exact ⟨0,rfl,m,hN1,Nat.zero_le _,rfl⟩
  ·
   intro n vs wr hI u;clear m;obtain ⟨k,rfl,m,hN1,hk,hn⟩:=hI;simp only[zu,zF,zG];refine aF fun K9 k9=>wp_region_lit (aA (cO rfl rfl) (aG (k9 _ _ ?_)));refine aF fun K10 k10=>?_;simp only[zz];refine cC rfl (fun hc2=>?_) (fun hc2=>?_)
   ·
    have hkl : k < (digs 4294967296 X).length:=by omega
    obtain ⟨p,rfl,hca,hlt⟩:=hN1.get hkl;refine wp_skip (k10 _ _ ?_);refine aF fun K11 k11=>wp_block (aF fun K12 k12=>wp_region_lit (aA (aB) ?_));simp only[zz];refine aA (aK bD bC rfl rfl (by omega) (by omega) (gF (Int.toNat_natCast _))) ?_;simp only[zz];refine aL rfl (lies1 hca eY) ?_;simp only[zz];refine aA (aD) (aA (aD) (aG (k12 _ _ ?_)));refine wp_region_lit (aA (aB) (aA (aB) ?_));simp only[zz];refine aA (aB) ?_;simp only[zz];refine aA (fF rfl rfl (aM (by omega) (by omega))) ?_;simp only[zz];refine aA (Ah rfl rfl (by omega) (afP hlt (by omega))) (aA (Ke rfl rfl (afS hkl hl2)) (aA (aD) (aG (k11 _ _ ?_))));refine wp_region_lit ?_;simp only[zz];refine aA (aQ rfl rfl (aM (by omega) (by omega))) (aA (aB) (aG ?_));simp only[zz];simp only[Exit.inBlock,Exit.then];refine ⟨(digs 4294967296 X).length - (k + 1),_,?_,rfl,?_,?_⟩
    · omega
    · simp only[zz,zv]
    ·
     simp only[zQ,zR,zD,zE];exact ⟨k + 1,rfl,m,hN1,by omega,rfl⟩
   ·
    obtain rfl : k = (digs 4294967296 X).length:=by omega
    rw [List.take_length,cT];refine wp_exit (k7 _ _ ?_);refine aF fun K13 k13=>wp_block (aF fun K14 k14=>?_);rcases Hw hXa with ⟨h1,h2,h3,h4⟩ | ⟨h1,h2,h3⟩ | ⟨h1,h2,h3⟩ | ⟨h1,h2,h3,h4⟩
    ·
     rw [h1] at m;refine wp_region_lit (aA (aO (c:=0) gG rfl fC rfl rfl) ?_);simp only[zz];refine aL rfl ((m.b 0 rfl).lies1 jG rfl) ?_;simp only[zz];refine aA (aB) (bN rfl (aA (aB) (bN rfl ?_)));simp only[zz];refine aA (Nv rfl rfl (by omega)) (aA (cJ rfl) (aA (aD) (aG (k14 _ _ ?_))));refine cQ rfl (aF fun K15 k15=>wp_region_lit (aA (aB) ?_));simp only[zz];refine aA (Qq rfl rfl) (aA (jI iT nR rfl (Na h2)) (aA (aD) (aA (aD) ?_)));simp only[zz];refine aG (k15 _ _ ?_);refine wp_ret ?_;try simp only[Exit.inBlock,Exit.then,if_true]
     refine jW rfl rfl rfl ?_;try simp only[zD,zE]
     exact ⟨_,rfl,m.ext,Ch h3 h4.symm⟩
    ·
     rw [h1] at m;refine wp_region_lit (aA (aO (c:=0) gG rfl fC rfl rfl) ?_);simp only[zz];refine aL rfl ((m.b 0 rfl).lies1 jG rfl) ?_;simp only[zz];refine aA (aB) (bN rfl (aA (aB) (bN rfl ?_)));simp only[zz];refine aA (Nw rfl rfl (by omega)) (aA (cJ rfl) (aA (aD) (aG (k14 _ _ ?_))));refine iD rfl (aF fun K16 k16=>wp_region_lit (aA (aB) ?_));simp only[zz];refine aA (Ih rfl rfl (by omega)) (aA (aD) (aG (k16 _ _ ?_)));refine cQ rfl (aF fun K17 k17=>wp_region_lit (aA (aD) (aA (aD) ?_)));simp only[zz];refine aG (k17 _ _ ?_);refine wp_ret ?_;try simp only[Exit.inBlock,Exit.then,if_true]
     refine jW rfl rfl rfl ?_;try simp only[zD,zE]
     exact ⟨_,rfl,m.ext,Ae h3⟩
    ·
     rw [h1] at m;refine wp_region_lit (aA (aO (c:=0) gG rfl fC rfl rfl) ?_);simp only[zz];refine aL rfl ((m.b 0 rfl).lies1 jG rfl) ?_;simp only[zz];refine aA (aB) (cN rfl (cN rfl (aA (cG rfl) ?_)));simp only[zz];refine aA (aD) (aG (k14 _ _ ?_));refine iD rfl (aF fun K18 k18=>wp_region_lit (aA (aB) ?_));simp only[zz];refine aA (Ih rfl rfl (by omega)) (aA (aD) (aG (k18 _ _ ?_)));refine cQ rfl (aF fun K19 k19=>wp_region_lit (aA (aD) (aA (aD) ?_)));simp only[zz];refine aG (k19 _ _ ?_);refine wp_ret ?_;try simp only[Exit.inBlock,Exit.then,if_true]
     refine jW rfl rfl rfl ?_;try simp only[zD,zE]
     exact ⟨_,rfl,m.ext,Ae h3⟩
    ·
     rw [h1] at m;refine wp_region_lit (aA (aO (c:=0) gG rfl fC rfl rfl) ?_);simp only[zz];refine aL rfl ((m.b 0 rfl).lies1 jG rfl) ?_;simp only[zz];refine aA (aB) (cN rfl (cN rfl (aA (cG rfl) ?_)));simp only[zz];refine aA (aD) (aG (k14 _ _ ?_));refine iD rfl (aF fun K20 k20=>wp_region_lit (aA (aB) ?_));simp only[zz];refine aA (Wf rfl rfl (by omega)) (aA (aD) (aG (k20 _ _ ?_)));refine iD rfl (wp_skip (k13 _ _ ?_));refine aF fun K21 k21=>wp_region_lit (aA (aB) (aA (jI iT nR rfl (aM (by omega) (by omega))) ?_));simp only[zz];refine aA (aD) (aA (aD) (aG (k21 _ _ ?_)));refine wp_ret ?_;simp only[zz];try simp only[Exit.inBlock,Exit.then,if_true]
     refine jW rfl rfl rfl ?_;try simp only[zD,zE]
     exact ⟨_,rfl,m.ext,Ch h3 h4.symm⟩
end Go.Proofs.YtfohfflkhpfjeaaGreatDoor
namespace Go.Lith
open Go.RowKit Go.ChangeMaps Go.MapKept
def Hx (is : List It) : It where
 own b:=∃ i ∈ is,i.own b
 P w:=(∀ i ∈ is,i.P w) ∧ is.Pairwise Ap
 lt w b h e:=by obtain ⟨i,hi,ho⟩:=e;exact i.lt w b (h.1 i hi) ho
 st w w' h s k:=⟨fun i hi=>i.st w w' (h.1 i hi) s fun b hb=>k b ⟨i,hi,hb⟩,h.2⟩
section
variable {w0 w : World} {a is : List It}
theorem cF.pack (a : List It) (m : cF w0 w (a ++ is)) : cF w0 w (a ++ [Hx is]):=by
 have h:=List.pairwise_append.1 m.nd;refine ⟨m.ext,fun i hi=>?_,fun i hi b hb=>?_,List.pairwise_append.2 ⟨h.1,List.pairwise_singleton _ _,fun x hx y hy b h1 h2=>?_⟩⟩
 · rcases List.mem_append.1 hi with hi | hi
   · exact m.all i (List.mem_append_left _ hi)
   · obtain rfl:=List.mem_singleton.1 hi
     exact ⟨fun i hi=>m.all i (List.mem_append_right _ hi),h.2.1⟩
 · rcases List.mem_append.1 hi with hi | hi
   · exact m.ge i (List.mem_append_left _ hi) b hb
   · obtain rfl:=List.mem_singleton.1 hi
     obtain ⟨j,hj,hb⟩:=hb;exact m.ge j (List.mem_append_right _ hj) b hb
 · obtain rfl:=List.mem_singleton.1 hy
   obtain ⟨j,hj,hb⟩:=h2;exact h.2.2 x hx j hj b h1 hb
theorem cF.unpack (a : List It) (m : cF w0 w (a ++ [Hx is])) : cF w0 w (a ++ is):=by
 have h:=List.pairwise_append.1 m.nd;have hP : (∀ i ∈ is,i.P w) ∧ is.Pairwise Ap:=m.all _ (List.mem_append_right _ (List.mem_singleton_self _));refine ⟨m.ext,fun i hi=>?_,fun i hi b hb=>?_,List.pairwise_append.2 ⟨h.1,hP.2,fun x hx y hy b h1 h2=>?_⟩⟩
 · rcases List.mem_append.1 hi with hi | hi
   · exact m.all i (List.mem_append_left _ hi)
   · exact hP.1 i hi
 · rcases List.mem_append.1 hi with hi | hi
   · exact m.ge i (List.mem_append_left _ hi) b hb
   · exact m.ge _ (List.mem_append_right _ (List.mem_singleton_self _)) b ⟨i,hi,hb⟩
 · exact h.2.2 x hx _ (List.mem_singleton_self _) b h1 ⟨y,hy,h2⟩
end
def Rw (P : Program) (f : FuncId) (args : List Value) (w : World) (R : Value → World → Prop) : Prop :=
 bF P f ∧ Calls P f args.toArray w fun e w'=>∃ v,e = .returned v ∧ R v w'
section
variable {P : Program} {ds : List Deferred} {l : List Value} {ty : TypeId} {w : World}
variable {ops : Array Oper} {Q : Exit → Act → World → Prop} {rest : List Oper} {d : Nat} {pos : String} {after : Array Edge}
theorem Jv {f : FuncId} {fo : Operand} {xs : Array Operand} {args : List Value} {first cap : Array Value} {a0 : Array TypeId} {R : Value → World → Prop} (hf : ev l fo = .func (.func f) first cap) (hxs : first.toList ++ xs.toList.map (ev l) ++ cap.toList = args) (hc : Rw P f args w R)
 (h : ∀ v u,R v u → wpList P ops Q rest (Fr (l.set d v) ds) u) : wpList P ops Q (Oper.mk (some d) (.call { callee:=.value fo,args:=xs,argTypes:=a0 }) ty pos after none :: rest) (Fr l ds) w:=by
 refine wpList_plain rfl fun K hK=>?_;unfold Oper.wp;rw [iF,lM hc.1 hf hxs _ rfl];refine hc.2.mono ?_;rintro e w' ⟨v,rfl,hR⟩;show K ((Fr l ds).put (some d) v) w'
 rw [jA];exact hK _ _ (h v w' hR)
end
end Go.Lith
namespace Go.Proofs.YtfohfflkhpfjeaaGreatDoor
open Go.Proofs.Tryz
open Go.RowKit Go.Lith
set_option maxRecDepth 100000
attribute [local irreducible] wpList wpQuiet dY dO dN Code.wp
theorem Ql {fs gs : List T3} {N cap N2 cap2 : Nat} {A A2 : Option Addr} {g1 : Nat} {H R J M : Value} (w : World) (hB1 : gD w g1 [.slice A N cap,.slice A2 N2 cap2,H,R,M,J] 73) (hT : fA w A N fs) (hT2 : fA w A2 N2 gs) (hN : N ≤ 10000000) (hN2 : N2 ≤ 10000000) : eL prog 31 [.pointer (some ⟨g1,0,none⟩)] w (fun v _=>v = .int .i64 (if cX true fs ≠ 0 then cX true fs else cX true gs)):=by
 refine ⟨aex,?_⟩;have m:=cF.refl w
 go_enter func31,ntmps31
 refine aF fun K1 k1=>wp_region_lit (aA (aD) (aG (k1 _ _ ?_)));refine aF fun K2 k2=>aF fun K3 k3=>wp_region_lit (aA (aB) (aA (dB rfl) (aA (aO (c:=0) iZ rfl jH rfl rfl) ?_)));simp only[zz];refine aL rfl ((hB1.ext m.ext).lies1 nS rfl) ?_;simp only[zz];refine eQ m rfl rfl (yB _ (hT.ext m.ext) hN) ?_;clear m;rintro v u m rfl;refine aA (aD) (aG (k3 _ _ ?_));refine aF fun K4 k4=>wp_region_lit (aA (aB) (aA (kW rfl rfl) ?_));simp only[zz];refine aG (k4 _ _ ?_);refine cC rfl (fun hc1=>?_) (fun hc1=>?_)
 ·
  refine aF fun K5 k5=>wp_region_lit (aA (aB) (aA (aD) (aG (k5 _ _ ?_))));refine wp_ret ?_;simp only[zz];try simp only[Exit.inBlock,Exit.then,if_true]
  refine bS rfl rfl ?_;try simp only[zD,zE]
  exact ⟨_,rfl,m.ext,by rw [if_pos hc1]⟩
 ·
  refine wp_skip (k2 _ _ ?_);refine aF fun K6 k6=>wp_region_lit (aA (aB) (aA (dB rfl) (aA (aO (c:=0) iZ rfl jH rfl rfl) ?_)));simp only[zz];refine aL rfl ((hB1.ext m.ext).lies1 nS rfl) ?_;simp only[zz];refine eQ m rfl rfl (yB _ (hT2.ext m.ext) hN2) ?_;clear m;rintro v u m rfl;refine aA (aD) (aG (k6 _ _ ?_));refine wp_ret ?_;simp only[zz];try simp only[Exit.inBlock,Exit.then,if_true]
  refine bS rfl rfl ?_;try simp only[zD,zE]
  exact ⟨_,rfl,m.ext,by rw [if_neg (fun h=>hc1 h)]⟩
def Bl (f c : List T3) : Int:=if aU f ≠ aU c then 30 else if iV f c (aU f) = true ∨ nJ f c (aU f) = false then 30 else 0
theorem afT {f c : List T3} (h : ¬ aU f = aU c) : Bl f c = 30:=if_pos h
theorem acf {f c : List T3} (h : iV f c (aU f) = true ∨ nJ f c (aU f) = false) : Bl f c = 30:=by
 unfold Bl;rw [if_pos h];split <;> rfl
theorem afU {f c : List T3} (h1 : aU f = aU c) (h2 : iV f c (aU f) = false) (h3 : nJ f c (aU f) = true) : Bl f c = 0:=by
 rw [Bl,if_neg (fun k=>k h1),if_neg];rintro (k | k)
 · rw [h2] at k;cases k
 · rw [h3] at k;cases k
theorem Vm {K V : Type} [DecidableEq K] : ∀ {xs : List (K × V)},(xs.map (·.1)).Nodup → mU [] xs = xs:=by
 intro xs;have key : ∀ (ys D : List (K × V)),((D ++ ys).map (·.1)).Nodup → mU D ys = D ++ ys:=by
  intro ys
  induction ys with
  | nil=>intro D _;rw [List.append_nil];rfl
  | cons y ys ih =>
   intro D h;have hy : y.1 ∉ D.map (·.1):=by
    rw [List.map_append,List.nodup_append] at h;exact fun k=>h.2.2 _ k _ (by simp) rfl
   have e : gL D y.1 y.2 = D ++ [y]:=by
    have hm : nI D y.1 0 = none:=by
     cases hf : nI D y.1 0 with
     | none=>rfl
     | some q =>
      obtain ⟨p,_,hp,_⟩:=nU D y.1 0 q.1 q.2 hf;exact absurd (List.mem_map.2 ⟨_,List.mem_of_getElem? hp,rfl⟩) hy
    exact (nT D y.1 0 hm).2.1 y.2
   show mU (gL D y.1 y.2) ys = _
   rw [e,ih (D ++ [y]) (by simpa using h)];simp
 exact key xs []
theorem Rx (f c : List T3) (rim : List E3) : nJ f c rim = decide (vY f rim = vY c rim):=by
 rw [Bool.eq_iff_iff,decide_eq_true_eq];unfold nJ vY;rw [List.all_eq_true,List.map_inj_left];exact ⟨fun h e he=>by rw [of_decide_eq_true (h e he)],fun h e he=>decide_eq_true (congrArg Prod.snd (h e he))⟩
theorem aap {f c : List T3} {es : Array MapEntry} {sn : Array Nat} {dn : List (E3 × Bool)} (h : mF ed Value.bool (gB [] (lL c)) es sn dn []) (hno : ∀ y ∈ dn,Pv f (aU f) y.1 = false) : iV f c (aU f) = false:=by
 cases hj : iV f c (aU f) with
 | false=>rfl
 | true =>
  obtain ⟨e,he,hn⟩:=Ho.1 hj;have h1 : e ∈ (gB [] (lL c)).map (·.1):=(uK _ _ _).2 (.inr he);obtain ⟨y,hy,rfl⟩:=List.mem_map.1 h1;rw [hno y (h.done.mem_iff.2 hy)] at hn;cases hn
theorem aaq {f c : List T3} {es : Array MapEntry} {sn : Array Nat} {dn rs : List (E3 × Bool)} (h : mF ed Value.bool (gB [] (lL c)) es sn dn rs) {y : E3 × Bool} (hy : y ∈ dn) (hn : Pv f (aU f) y.1 = true) : iV f c (aU f) = true:=by
 have h1 : y.1 ∈ (gB [] (lL c)).map (·.1):=List.mem_map.2 ⟨y,h.1.mem_iff.1 (List.mem_append_left _ hy),rfl⟩;exact Ho.2 ⟨y.1,((uK _ _ _).1 h1).resolve_left (by simp),hn⟩
theorem Vn {w0 w : World} {K : It} {fs gs : List T3} {N cap N2 cap2 : Nat} {A A2 : Option Addr} {g1 : Nat} {H R J M : Value} (m : cF w0 w [bI g1 [.slice A N cap,.slice A2 N2 cap2,H,R,M,J] 73,K]) (hT : fA w0 A N fs) (hT2 : fA w0 A2 N2 gs) (hN : N ≤ 10000000) (hN2 : N2 ≤ 10000000) (hf : cX true fs = 0) (hg : cX true gs = 0) : Rw prog 32 [.pointer (some ⟨g1,0,none⟩)] w fun v w'=>∃ A4 c4,v = .int .i64 (Bl fs gs) ∧ cF w0 w' [oI 57 6 A4 (aU fs).length c4 ((aU fs).flatMap cB),bI g1 [.slice A N cap,.slice A2 N2 cap2,H,.slice A4 (aU fs).length c4,M,J] 73,K]:=by
 refine ⟨aey,?_⟩;have hbl : (aU fs).length ≤ 30000000:=by have h1:=rS (all:=bB fs) (bB fs) [];have h2:=jD fs;have h3:=hT.len;simp only[List.length_nil] at h1;unfold aU;omega
 have hbn : (aU fs).Nodup:=(vX fs).nodup
 go_enter func32,ntmps32
 refine aF fun K1 k1=>wp_region_lit (aA (aD) (aG (k1 _ _ ?_)));refine aF fun K2 k2=>wp_region_lit (aA (aB) (aA (aB) (aA (dB rfl) ?_)));simp only[zz];refine aA (aO (c:=0) iZ rfl jH rfl rfl) ?_;simp only[zz];refine aL rfl ((m.b 0 rfl).lies1 nS rfl) ?_;simp only[zz];refine bE rfl rfl (Hs _ (hT.ext m.ext) hN) ?_;rintro v u e ⟨A4,c4,n4,hn4,rfl,hN⟩;replace m:=m.newO e hN;clear e hN;subst hn4;refine aA (dB rfl) (aA (aO (c:=0) iZ rfl oN rfl rfl) ?_);simp only[zz];refine Bz (off:=3) m 1 rfl rfl rfl oN (dX rfl) ⟨rfl,rfl⟩ ?_;clear m;intro u m;simp only[zz,zy,zx,bK,Nat.reduceAdd] at m;refine aG (k2 _ _ ?_);refine aF fun K3 k3=>aF fun K4 k4=>?_;refine mh m [true,true,true] [(0,true),(1,true),(2,true),(4,true),(5,true),(6,true),(3,true),(7,true),(8,false),(9,false),(10,true)] aP (by kernel_rfl) (dL (fun _ _ _ _ _ h=>h)) (ol:=?_) ?hol ?_
 case hol=>simp only[zw,zQ,zR];try rfl
 clear m;intro u m;refine aZ (aB) (aZ (dB rfl) (aZ (aO (c:=0) iZ rfl oN rfl rfl) (aZ (aB) ?_)));simp only[zz];refine aZ (dB rfl) (aZ (aO (c:=0) iZ rfl jH rfl rfl) ?_);simp only[zz];refine cU rfl (fun u m=>((m.b 1 rfl).lies1 Do rfl)) ?_;simp only[zz];refine cU rfl (fun u m=>((m.b 1 rfl).lies1 nS rfl)) ?_;simp only[zz];refine cW (bE rfl rfl (Hs _ (hT2.ext m.ext) hN2) ?_);rintro v u e ⟨A5,c5,n5,hn5,rfl,hN⟩;replace m:=m.newO e hN;clear e hN;subst hn5;refine aG (⟨m.sel [false,true,true,true],?_⟩);refine cW ?_;simp only[zz];refine eQ m rfl rfl (Vj _ ((m.o 1 rfl).lat rQ (by decide)) ((m.o 0 rfl).lat rQ (by decide)) (by omega)) ?_;clear m;rintro v u m rfl;refine aG (⟨m.sel [false,true,true,true],?_⟩);refine aZ (fN rfl) (dU (k4 _ _ ?_));simp only[zz];refine eD rfl (fun hc1=>?_) (fun hc1=>?_)
 ·
  have hne : ¬ aU fs = aU gs:=by simpa using hc1
  refine aF fun K5 k5=>wp_region_lit (aA (aD) (aG (k5 _ _ ?_)));refine wp_ret ?_;simp only[zz];try simp only[Exit.inBlock,Exit.then,if_true]
  refine bS rfl rfl ?_;try simp only[zD,zE]
  exact ⟨_,rfl,_,_,by rw [afT hne],m.sel [false,true,true,true]⟩
 ·
  have hbe : aU fs = aU gs:=by simpa using hc1
  refine wp_skip (k3 _ _ ?_);refine aF fun K6 k6=>wp_region_lit (kL m ?_);clear m;intro q9 u m;have hD9:=cS.nil (K:=P3) (V:=Bool) pt Value.bool;refine aA (aD) (aG (k6 _ _ ?_));refine aF fun K7 k7=>aF fun K8 k8=>wp_region_lit (aA (aB) (aA (dB rfl) ?_));simp only[zz];refine aA (aO (c:=0) iZ rfl oN rfl rfl) ?_;simp only[zz];refine aL rfl ((m.b 3 rfl).lies1 Do rfl) ?_;simp only[zz];refine aA (bA rfl eU rfl) (aA (aB) (aG (k8 _ _ ?_)));refine wp_block ?_;simp only[zz];try simp only[Nat.zero_add,Nat.reduceAdd,Nat.reduceMul,Int.reduceToNat]
  refine bJ [33] [5,34,35,36,37,38,39,40,41,42,43] (fun n vs wl=>∃ (k : Nat) (es : Array MapEntry) (c : Nat),vs = [.int .i64 (k:Int)] ∧ cF w0 wl [mI q9 es c,oI 57 6 A4 (aU fs).length c4 ((aU fs).flatMap cB),bI g1 [.slice A N cap,.slice A2 N2 cap2,H,.slice A4 (aU fs).length c4,M,J] 73,K] ∧ (cS pt Value.bool (gB [] (Ek ((aU fs).take k))) es c) ∧ (k ≤ (aU fs).length) ∧ (n = (aU fs).length - k)) ?_ ?_
  ·
   apply Exists.intro;simp only[zQ,zR,zD,zE];exact ⟨0,_,_,rfl,(m.sel [true,false,true,true,true]),hD9,Nat.zero_le _,rfl⟩
  ·
   intro n vs wr hI u;clear m;obtain ⟨k,es9,c9,rfl,m,hD9,hk,hn⟩:=hI;simp only[zu,zF,zG];refine aF fun K9 k9=>wp_region_lit (aA (cO rfl rfl) (aG (k9 _ _ ?_)));refine aF fun K10 k10=>?_;simp only[zz];refine cC rfl (fun hc2=>?_) (fun hc2=>?_)
   ·
    obtain ⟨e,he⟩ : ∃ e,(aU fs)[k]? = some e:=⟨_,List.getElem?_eq_getElem (by omega)⟩
    obtain ⟨gO,rfl⟩:=(m.o 1 rfl).some (by omega);refine wp_skip (k10 _ _ ?_);refine aF fun K11 k11=>wp_block (aF fun K12 k12=>wp_region_lit (aA (aK eU cK rfl rfl (by omega) (by omega) (bY (Int.toNat_natCast _))) ?_));simp only[zz];refine aL rfl (((m.o 1 rfl).at rQ he).lies jR cK) ?_;simp only[zz];refine bH m qP rfl ?_;clear m;intro g3 u m;simp only[zz];refine aT m 0 rfl rfl rfl cK (dX rfl) rfl ?_;clear m;intro u m;simp only[zy,zx,bK,zF,zG,Nat.reduceAdd] at m;refine aG (k12 _ _ ?_);refine mh m [true,false,true,true,true] [(0,true),(1,true),(3,true),(4,true),(2,true),(5,true),(6,false),(7,false)] aP (by kernel_rfl) (dL (fun _ _ _ _ _ h=>h)) (ol:=?_) ?hol ?_
    case hol=>simp only[zw,zQ,zR];try rfl
    clear m;intro u m;refine aZ (aB) (aZ (aH cH aC rfl rfl (by decide) (by decide) rfl) (aZ (aB) (aZ (aH cH aC rfl rfl (by decide) (by decide) rfl) ?_)));simp only[zz];refine cU rfl (fun u m=>((m.b 0 rfl).lies aJ aC rfl rfl)) ?_;simp only[zz,zy,Nat.zero_add,Nat.reduceAdd,Nat.reduceMul,Int.reduceToNat];refine cU rfl (fun u m=>((m.b 0 rfl).lies aJ aC rfl rfl)) ?_;simp only[zz,zy,Nat.zero_add,Nat.reduceAdd,Nat.reduceMul,Int.reduceToNat];refine cW (fT (ek:=pt) (en:=Value.bool) (a:=e.1) (v:=true) m 1 rfl nH iC rfl rfl rfl hD9 ?_);clear m;intro es9 c9 u m hD';clear hD9;have hD9:=hD';clear hD';simp only[zF,zG] at m;rw [← mR] at hD9;refine aG (⟨m.sel [true,false,true,true,true],?_⟩);refine cW (fT (ek:=pt) (en:=Value.bool) (a:=e.2) (v:=true) m 1 rfl nH iC rfl rfl rfl hD9 ?_);clear m;intro es9 c9 u m hD';clear hD9;have hD9:=hD';clear hD';simp only[zF,zG] at m;rw [← mR] at hD9;refine aG (⟨m.sel [true,false,true,true,true],?_⟩);refine dU (k11 _ _ ?_);refine wp_region_lit (aA (aQ rfl rfl (aM (by omega) (by omega))) (aA (aB) (aG ?_)));simp only[zz];simp only[Exit.inBlock,Exit.then];refine ⟨(aU fs).length - (k + 1),_,?_,rfl,?_,?_⟩
    · omega
    · simp only[zz,zv]
    ·
     simp only[zQ,zR,zD,zE];exact ⟨k + 1,_,_,rfl,(m.sel [false,true,true,true,true]),by rw [Mk he];simpa [List.append_assoc] using hD9,by omega,rfl⟩
   ·
    obtain rfl : k = (aU fs).length:=by omega
    rw [List.take_length] at hD9;refine wp_exit (k7 _ _ ?_);refine aF fun K13 k13=>aF fun K14 k14=>?_;refine mh m [true,true,true,true] [(0,true),(1,true),(2,true),(4,true),(5,true),(6,true),(9,true),(10,true),(11,true),(13,true),(14,true),(15,true),(3,true),(7,true),(12,true),(16,true),(8,false),(17,false),(18,false),(19,true)] aP (by kernel_rfl) (dL (fun _ _ _ _ _ h=>h)) (ol:=?_) ?hol ?_
    case hol=>simp only[zw,zQ,zR];try rfl
    clear m;intro u m;refine aZ (aB) (aZ (dB rfl) (aZ (aO (c:=0) iZ rfl jH rfl rfl) (aZ (aB) ?_)));simp only[zz];refine aZ (dB rfl) (aZ (aO (c:=0) iZ rfl oN rfl rfl) (aZ (aB) (aZ (dB rfl) ?_)));simp only[zz];refine aZ (aO (c:=0) iZ rfl jH rfl rfl) (aZ (aB) (aZ (dB rfl) (aZ (aO (c:=0) iZ rfl oN rfl rfl) ?_)));simp only[zz];refine cU rfl (fun u m=>((m.b 2 rfl).lies1 nS rfl)) ?_;simp only[zz];refine cU rfl (fun u m=>((m.b 2 rfl).lies1 Do rfl)) ?_;simp only[zz];refine cU rfl (fun u m=>((m.b 2 rfl).lies1 nS rfl)) ?_;simp only[zz];refine cU rfl (fun u m=>((m.b 2 rfl).lies1 Do rfl)) ?_;simp only[zz];refine cW (bE rfl rfl (aah (rim:=(aU fs)) _ (hT.ext m.ext) hN ((m.o 1 rfl).lat rQ (by decide)) (by omega) (qF hf).1 (qF hf).2 (fun e he=>(nV.1 he).2)) ?_);rintro v u e ⟨g10,es10,c10,rfl,hM,hD10⟩;replace m:=m.plus hM;clear hM e;simp only[List.cons_append,List.nil_append] at m;refine aG (⟨m.sel [false,true,true,true,true],?_⟩);refine cW ?_;simp only[zz];refine bE rfl rfl (aah (rim:=(aU fs)) _ (hT2.ext m.ext) hN2 ((m.o 2 rfl).lat rQ (by decide)) (by omega) (qF hg).1 (qF hg).2 (fun e he=>(nV.1 (hbe ▸ he)).2)) ?_;rintro v u e ⟨g11,es11,c11,rfl,hM,hD11⟩;replace m:=m.plus hM;clear hM e;simp only[List.cons_append,List.nil_append] at m;rw [Vm (by rw [vH];exact hbn)] at hD10 hD11;refine aG (⟨m.sel [false,false,true,true,true,true],?_⟩);refine cW ?_;simp only[zz];refine eQ m rfl rfl (abJ _ (m.p 1 rfl) hD10 (m.p 0 rfl) hD11 (by rw [vH,vH]) (by rw [vH];exact hbn)) ?_;clear m;rintro v u m rfl;refine aG (⟨m.sel [false,false,true,true,true,true],?_⟩);refine aZ (fN rfl) (dU (k14 _ _ ?_));simp only[zz];refine eD rfl (fun hc3=>?_) (fun hc3=>?_)
    ·
     have hfan : nJ fs gs (aU fs) = false:=by rw [Rx];simpa using hc3
     refine aF fun K15 k15=>wp_region_lit (aA (aD) (aG (k15 _ _ ?_)));refine wp_ret ?_;simp only[zz];try simp only[Exit.inBlock,Exit.then,if_true]
     refine bS rfl rfl ?_;try simp only[zD,zE]
     exact ⟨_,rfl,_,_,by rw [acf (.inr hfan)],m.sel [false,false,false,true,true,true]⟩
    ·
     have hfan : nJ fs gs (aU fs) = true:=by rw [Rx];simpa using hc3
     refine wp_skip (k13 _ _ ?_);refine aF fun K16 k16=>wp_region_lit (aA (aB) (aA (dB rfl) (aA (aO (c:=0) iZ rfl jH rfl rfl) ?_)));simp only[zz];refine aL rfl ((m.b 4 rfl).lies1 nS rfl) ?_;simp only[zz];refine bE rfl rfl (Fb _ (hT.ext m.ext) hN) ?_;rintro v u e ⟨g12,es12,c12,rfl,hM,hD12⟩;replace m:=m.plus hM;clear hM e;simp only[List.cons_append,List.nil_append] at m;refine aA (aD) (aG (k16 _ _ ?_));refine aF fun K17 k17=>aF fun K18 k18=>wp_region_lit (aA (aB) (aA (dB rfl) ?_));simp only[zz];refine aA (aO (c:=0) iZ rfl jH rfl rfl) ?_;simp only[zz];refine aL rfl ((m.b 5 rfl).lies1 nS rfl) ?_;simp only[zz];refine bE rfl rfl (Fb _ (hT2.ext m.ext) hN2) ?_;rintro v u e ⟨g13,es13,c13,rfl,hM,hD13⟩;replace m:=m.plus hM;clear hM e;simp only[List.cons_append,List.nil_append] at m;simp only[zz];refine wM m nY rfl (m.p 0 rfl) ?_;clear m;intro r1 u m;refine aG (k18 _ _ ?_);refine wp_block ?_;simp only[zz];try simp only[Nat.zero_add,Nat.reduceAdd,Nat.reduceMul,Int.reduceToNat]
     refine bJ [] [2,7,75,76,77,78,79,80,81,82,83,84,85,86,87,88,89,90,91,92,93,94] (fun n vs wl=>∃ (dn rs : List (E3 × Bool)) (sn : Array Nat),vs = [] ∧ cF w0 wl [iI r1 g13 c13 sn,mI g13 es13 c13,mI g12 es12 c12,mI q9 es9 c9,oI 57 6 A4 (aU fs).length c4 ((aU fs).flatMap cB),bI g1 [.slice A N cap,.slice A2 N2 cap2,H,.slice A4 (aU fs).length c4,M,J] 73,K] ∧ (mF ed Value.bool (gB [] (lL gs)) es13 sn dn rs) ∧ (∀ y ∈ dn,Pv fs (aU fs) y.1 = false) ∧ (n = rs.length)) ?_ ?_
     ·
      apply Exists.intro;simp only[zQ,zR,zD,zE];exact ⟨[],_,#[],trivial,(m.sel [true,true,true,false,false,true,true,true,true]),mF.start hD13,fun _ h=>(by cases h),rfl⟩
     ·
      intro n vs wr hI u;clear m;obtain ⟨dn,rs,sn,rfl,m,hT9,hno,hn⟩:=hI;simp only[zu,zF,zG];refine aF fun K19 k19=>wp_region_lit (Dv m 0 rfl rfl (m.p 1 rfl) hD13 hT9 ?_);clear m;intro bb kk vv sn u m hN;simp only[zF,zG] at m;refine aA (sW rfl) (aG (k19 _ _ ?_));refine aF fun K20 k20=>?_;simp only[zz];refine eD rfl (fun hc4=>?_) (fun hc4=>?_)
      ·
       obtain ⟨kp,kb,rs2,hp,hT8⟩:=Dy hc4 hN;refine wp_skip (k20 _ _ ?_);refine wp_block (aF fun K21 k21=>wp_region_lit (fL (sX rfl (m.r 0 rfl) (m.p 1 rfl) hD13 hT8) ?_));simp only[zz];refine aA (bM rfl rfl) ?_;simp only[zz];refine bH m qP rfl ?_;clear m;intro g4 u m;simp only[zz];refine aT m 0 rfl rfl rfl cK (dX rfl) rfl ?_;clear m;intro u m;simp only[zy,zx,bK,zF,zG,Nat.reduceAdd] at m;refine aG (k21 _ _ ?_);refine aF fun K22 k22=>wp_region_lit (aA (aB) (aA (aH cH aC rfl rfl (by decide) (by decide) rfl) ?_));simp only[zz];refine aL rfl ((m.b 0 rfl).lies aJ aC rfl rfl) ?_;simp only[zz,zy,Nat.zero_add,Nat.reduceAdd,Nat.reduceMul,Int.reduceToNat];refine fL (eR (ek:=pt) (en:=Value.bool) (k:=kp.1) (v0:=false) nH mD iC rfl rfl (m.p 4 rfl) hD9) ?_;simp only[zz];refine aA (aB) (dF rfl (fun hb=>aB) (dF rfl (fun hb=>aH cH aC rfl rfl (by decide) (by decide) rfl) ?_));simp only[zz];refine eC rfl (fun hb=>cM (bO hb rfl) ((m.b 0 rfl).lies aJ aC rfl rfl)) ?_;simp only[zz,zy,Nat.zero_add,Nat.reduceAdd,Nat.reduceMul,Int.reduceToNat];refine eC rfl (fun hb=>eR (ek:=pt) (en:=Value.bool) (k:=kp.2) (v0:=false) nH mD iC (bO hb rfl) (bO hb rfl) (m.p 4 rfl) hD9) ?_;simp only[zz];refine aA (dC rfl rfl rfl) (aA (aB) (dF rfl (fun hb=>aB) ?_));simp only[zz];refine eC rfl (fun hb=>cM rfl ((m.b 0 rfl).full jR cK)) (eC rfl (fun hb=>eR (ek:=ed) (en:=Value.bool) (k:=kp) (v0:=false) nY mD nM (bO hb rfl) (bO hb rfl) (m.p 3 rfl) hD12) ?_);simp only[zz];refine dF rfl (fun hb=>fN (bO hb rfl)) (aA (dC rfl rfl rfl) (aG (k22 _ _ ?_)));simp only[zz];refine eD rfl (fun hc5=>?_) (fun hc5=>?_)
       ·
        have hnw : Pv fs (aU fs) kp = true:=by rw [Cd,Cd,vG] at hc5;exact hc5
        have hj:=aaq hT8 (y:=(kp,kb)) (by simp) hnw;refine aF fun K23 k23=>wp_region_lit (aA (aD) (aG (k23 _ _ ?_)));refine wp_ret ?_;simp only[zz];try simp only[Exit.inBlock,Exit.then,if_true]
        refine bS rfl rfl ?_;try simp only[zD,zE]
        exact ⟨_,rfl,_,_,by rw [acf (.inl hj)],m.sel [false,false,false,false,false,true,true,true]⟩
       ·
        have hnw : Pv fs (aU fs) kp = false:=by rw [Cd,Cd,vG] at hc5;exact hc5
        refine wp_skip ?_;simp only[Exit.inBlock,Exit.then];refine ⟨rs2.length,_,?_,rfl,?_,?_⟩
        · rw [hn,hp.length_eq];exact Nat.lt_succ_self _
        · simp only[zz,zv]
        ·
         simp only[zQ,zR,zD,zE];exact ⟨dn ++ [(kp,kb)],rs2,_,trivial,(m.sel [false,true,true,true,true,true,true,true]),hT8,fun y hy=>(List.mem_append.1 hy).elim (hno y) fun hy=>by obtain rfl:=List.mem_singleton.1 hy;exact hnw,rfl⟩
      ·
       obtain rfl:=Dx hc4 hN;refine wp_exit (k17 _ _ ?_);refine aF fun K24 k24=>wp_region_lit (aA (aD) (aG (k24 _ _ ?_)));refine wp_ret ?_;simp only[zz];try simp only[Exit.inBlock,Exit.then,if_true]
       refine bS rfl rfl ?_;try simp only[zD,zE]
       exact ⟨_,rfl,_,_,by rw [afU hbe (aap hT9 hno) hfan],m.sel [false,false,false,false,true,true,true]⟩
end Go.Proofs.YtfohfflkhpfjeaaGreatDoor
namespace Go.Proofs.YtfohfflkhpfjeaaGreatDoor
open Go.Proofs.Tryz
open Go.RowKit Go.Lith
set_option maxRecDepth 100000
attribute [local irreducible] wpList wpQuiet dY dO dN Code.wp
theorem Fg {K V : Type} [DecidableEq K] (xs : List (K × V)) (x : K × V) : mU [] (xs ++ [x]) = gL (mU [] xs) x.1 x.2:=Md [] xs [x]
theorem agm {x y z : Bool} (h : ((!x || !y) || !z) = false) : (x && y && z) = true:=by revert h;cases x <;> cases y <;> cases z <;> decide
theorem agn {x y z : Bool} (h : ((!x || !y) || !z) = true) : (x && y && z) = false:=by revert h;cases x <;> cases y <;> cases z <;> decide
theorem ago {l x y z : Bool} (h : (((!l || !x) || !y) || !z) = false) : (l && x && y && z) = true:=by revert h;cases l <;> cases x <;> cases y <;> cases z <;> decide
theorem agp {l x y z : Bool} (h : (((!l || !x) || !y) || !z) = true) : (l && x && y && z) = false:=by revert h;cases l <;> cases x <;> cases y <;> cases z <;> decide
theorem yG {f c : List T3} {ms : List Mv} {rim : List E3} {i : Nat} {m : Mv} (hm : ms[i]? = some m) (h : nK f c ms rim i m = false) : lK f c ms rim = false:=by
 cases hh : lK f c ms rim with
 | false=>rfl
 | true=>rw [qD.1 hh i m hm] at h;cases h
theorem Qm {w : World} {a : Addr} {e : E3} (h : jL w a (cB e)) : jL w a [.int .i64 e.1.x,.int .i64 e.1.y,.int .i64 e.1.z,.int .i64 e.2.x,.int .i64 e.2.y,.int .i64 e.2.z]:=h
theorem adG {w0 w : World} {K : It} {fs gs : List T3} {ms : List Mv} {N cap N2 cap2 N3 cap3 c4 : Nat} {A A2 A3 A4 : Option Addr} {g1 q7 c7 : Nat} {es7 : Array MapEntry} {J : Value} (m : cF w0 w [oI 57 6 A4 (aU fs).length c4 ((aU fs).flatMap cB),bI g1 [.slice A N cap,.slice A2 N2 cap2,.slice A3 N3 cap3,.slice A4 (aU fs).length c4,.map (some q7),J] 73,mI q7 es7 c7,K]) (hT : fA w0 A N fs) (hT2 : fA w0 A2 N2 gs) (hL3 : oU cB 6 w0 A3 N3 ms) (hN : N ≤ 300000) (hN2 : N2 ≤ 300000) (hN3 : N3 ≤ 10000000) (hD7 : cS pt pt (mU [] ([] : List Mv)) es7 c7) : Rw prog 33 [.pointer (some ⟨g1,0,none⟩)] w fun v w'=>∃ es7 c7,v = .int .i64 (if lK fs gs ms (aU fs) = true then 0 else 31) ∧ cF w0 w' [oI 57 6 A4 (aU fs).length c4 ((aU fs).flatMap cB),bI g1 [.slice A N cap,.slice A2 N2 cap2,.slice A3 N3 cap3,.slice A4 (aU fs).length c4,.map (some q7),J] 73,mI q7 es7 c7,K] ∧ (lK fs gs ms (aU fs) = true → cS pt pt (mU [] ms) es7 c7):=by
 refine ⟨aez,?_⟩;have hbl : (aU fs).length ≤ 30000000:=by have h1:=rS (all:=bB fs) (bB fs) [];have h2:=jD fs;have h3:=hT.len;simp only[List.length_nil] at h1;unfold aU;omega
 have el3:=hL3.len
 go_enter func33,ntmps33
 refine aF fun K1 k1=>wp_region_lit (aA (aD) (aG (k1 _ _ ?_)));refine aF fun K2 k2=>wp_region_lit (aA (aB) (aA (dB rfl) (aA (aO (c:=0) iZ rfl jH rfl rfl) ?_)));simp only[zz];refine aL rfl ((m.b 1 rfl).lies1 nS rfl) ?_;simp only[zz];refine bE rfl rfl (Fa _ (hT.ext m.ext) hN) ?_;rintro v u e ⟨A8,n8,cap8,_,rfl,hN,ps,rfl,hso,hmem⟩;replace m:=m.newO e hN;clear e hN;refine aA (aD) (aG (k2 _ _ ?_));refine aF fun K3 k3=>?_;simp only[zz];refine mh m [true,true,true,true,true] [(0,true),(2,true),(4,true),(5,true),(6,true),(7,true),(1,false),(3,false),(8,false),(9,false),(10,true),(11,true),(12,true)] aP (by kernel_rfl) (dL (fun _ _ _ _ _ h=>h)) (ol:=?_) ?hol ?_
 case hol=>simp only[zw,zQ,zR];try rfl
 clear m;intro u m;refine aZ (aB) (aZ (aB) (aZ (aB) (aZ (dB rfl) ?_)));simp only[zz];refine aZ (aO (c:=0) iZ rfl jH rfl rfl) ?_;simp only[zz];refine cU rfl (fun u m=>((m.b 2 rfl).lies1 nS rfl)) ?_;simp only[zz];refine cW (bE rfl rfl (aag _ ((m.o 0 rfl).lat Lf (by decide)) (Nat.le_trans (m.o 0 rfl).le (m.o 0 rfl).max)) ?_);rintro v u e ⟨q9,es9,c9,rfl,hM,hD9⟩;replace m:=m.plus hM;clear hM e;simp only[List.cons_append,List.nil_append] at m;refine aG (⟨m.sel [false,true,true,true,true,true],?_⟩);refine cW ?_;simp only[zz];refine bE rfl rfl (aag _ ((m.o 1 rfl).lat Lf (by decide)) (Nat.le_trans (m.o 1 rfl).le (m.o 1 rfl).max)) ?_;rintro v u e ⟨q10,es10,c10,rfl,hM,hD10⟩;replace m:=m.plus hM;clear hM e;simp only[List.cons_append,List.nil_append] at m;refine aG (⟨m.sel [false,false,true,true,true,true,true],?_⟩);refine cW ?_;simp only[zz];refine bE rfl rfl (Fa _ (hT2.ext m.ext) hN2) ?_;rintro v u e ⟨A11,n11,cap11,_,rfl,hN,qs,rfl,hso2,hmem2⟩;replace m:=m.newO e hN;clear e hN;refine aG (⟨m.sel [false,false,false,true,true,true,true,true],?_⟩);refine cW ?_;simp only[zz];refine bE rfl rfl (aag _ ((m.o 0 rfl).lat Lf (by decide)) (Nat.le_trans (m.o 0 rfl).le (m.o 0 rfl).max)) ?_;rintro v u e ⟨q12,es12,c12,rfl,hM,hD12⟩;replace m:=m.plus hM;clear hM e;simp only[List.cons_append,List.nil_append] at m;refine aG (⟨m.sel [false,false,false,false,true,true,true,true,true],?_⟩);refine aZ (aD) (aZ (aD) (aZ (aD) ?_));simp only[zz];refine dU (k3 _ _ ?_);refine aF fun K4 k4=>aF fun K5 k5=>wp_region_lit (aA (aB) (aA (dB rfl) (aA (aO (c:=0) iZ rfl oN rfl rfl) ?_)));simp only[zz];refine aL rfl ((m.b 6 rfl).lies1 Do rfl) ?_;simp only[zz];refine aA (bA rfl eU rfl) (aA (aB) (aG (k5 _ _ ?_)));refine wp_block ?_;simp only[zz];try simp only[Nat.zero_add,Nat.reduceAdd,Nat.reduceMul,Int.reduceToNat]
 refine bJ [33] [8,34,35,36,37,38,39,40,41,42,43] (fun n vs wl=>∃ (k : Nat) (es : Array MapEntry) (cc : Nat),vs = [.int .i64 (k:Int)] ∧ cF w0 wl [mI q12 es12 c12,mI q10 es10 c10,mI q9 es cc,oI 57 6 A4 (aU fs).length c4 ((aU fs).flatMap cB),bI g1 [.slice A N cap,.slice A2 N2 cap2,.slice A3 N3 cap3,.slice A4 (aU fs).length c4,.map (some q7),J] 73,mI q7 es7 c7,K] ∧ (cS pt Value.bool ((Ek ((aU fs).take k)).foldl pY (gB [] ps)) es cc) ∧ (k ≤ (aU fs).length) ∧ (n = (aU fs).length - k)) ?_ ?_
 ·
  apply Exists.intro;simp only[zQ,zR,zD,zE];exact ⟨0,_,_,rfl,(m.sel [true,false,true,true,false,true,true,true,true]),hD9,Nat.zero_le _,rfl⟩
 ·
  intro n vs wr hI u;clear m;obtain ⟨k,es9,c9,rfl,m,hD9,hk,hn⟩:=hI;simp only[zu,zF,zG];refine aF fun K6 k6=>wp_region_lit (aA (cO rfl rfl) (aG (k6 _ _ ?_)));refine aF fun K7 k7=>?_;simp only[zz];refine cC rfl (fun hc1=>?_) (fun hc1=>?_)
  ·
   obtain ⟨e,he⟩ : ∃ e,(aU fs)[k]? = some e:=⟨_,List.getElem?_eq_getElem (by omega)⟩
   obtain ⟨gO,rfl⟩:=(m.o 3 rfl).some (by omega);refine wp_skip (k7 _ _ ?_);refine aF fun K8 k8=>wp_block (aF fun K9 k9=>wp_region_lit (aA (aK eU cK rfl rfl (by omega) (by omega) (bY (Int.toNat_natCast _))) ?_));simp only[zz];refine aL rfl (((m.o 3 rfl).at rQ he).lies jR cK) ?_;simp only[zz];refine bH m qP rfl ?_;clear m;intro g2 u m;simp only[zz];refine aT m 0 rfl rfl rfl cK (dX rfl) rfl ?_;clear m;intro u m;simp only[zy,zx,bK,zF,zG,Nat.reduceAdd] at m;refine aG (k9 _ _ ?_);refine aF fun K10 k10=>wp_region_lit (aA (aB) (aA (aH cH aC rfl rfl (by decide) (by decide) rfl) ?_));simp only[zz];refine aL rfl ((m.b 0 rfl).lies aJ aC rfl rfl) ?_;simp only[zz,zy,Nat.zero_add,Nat.reduceAdd,Nat.reduceMul,Int.reduceToNat];refine Ev (ek:=pt) (en:=Value.bool) (a:=e.1) m 3 rfl nH iC rfl rfl hD9 rfl ?_;clear m;intro es9 c9 u m hD';clear hD9;have hD9:=hD';clear hD';simp only[zF,zG] at m;refine aG (k10 _ _ ?_);refine wp_region_lit (aA (aB) (aA (aH cH aC rfl rfl (by decide) (by decide) rfl) ?_));simp only[zz];refine aL rfl ((m.b 0 rfl).lies aJ aC rfl rfl) ?_;simp only[zz,zy,Nat.zero_add,Nat.reduceAdd,Nat.reduceMul,Int.reduceToNat];refine Ev (ek:=pt) (en:=Value.bool) (a:=e.2) m 3 rfl nH iC rfl rfl hD9 rfl ?_;clear m;intro es9 c9 u m hD';clear hD9;have hD9:=hD';clear hD';simp only[zF,zG] at m;refine aG (k8 _ _ ?_);refine wp_region_lit (aA (aQ rfl rfl (aM (by omega) (by omega))) (aA (aB) (aG ?_)));simp only[zz];simp only[Exit.inBlock,Exit.then];refine ⟨(aU fs).length - (k + 1),_,?_,rfl,?_,?_⟩
   · omega
   · simp only[zz,zv]
   ·
    simp only[zQ,zR,zD,zE];exact ⟨k + 1,_,_,rfl,(m.sel [false,true,true,true,true,true,true,true]),by rw [Mk he,List.foldl_append];exact hD9,by omega,rfl⟩
  ·
   obtain rfl : k = (aU fs).length:=by omega
   rw [List.take_length] at hD9;refine wp_exit (k4 _ _ ?_);refine aF fun K11 k11=>aF fun K12 k12=>wp_region_lit (aA (aB) (aA (dB rfl) (aA (aO (c:=0) iZ rfl uG rfl rfl) ?_)));simp only[zz];refine aL rfl ((m.b 4 rfl).lies1 Jd rfl) ?_;simp only[zz];refine aA (bA rfl kJ rfl) (aA (aB) (aG (k12 _ _ ?_)));refine wp_block ?_;simp only[zz];try simp only[Nat.zero_add,Nat.reduceAdd,Nat.reduceMul,Int.reduceToNat]
   refine bJ [49] [10,50,51,52,53,54,55,56] (fun n vs wl=>∃ (k : Nat) (es : Array MapEntry) (cc : Nat),vs = [.int .i64 (k:Int)] ∧ cF w0 wl [mI q12 es cc,mI q10 es10 c10,mI q9 es9 c9,oI 57 6 A4 (aU fs).length c4 ((aU fs).flatMap cB),bI g1 [.slice A N cap,.slice A2 N2 cap2,.slice A3 N3 cap3,.slice A4 (aU fs).length c4,.map (some q7),J] 73,mI q7 es7 c7,K] ∧ (cS pt Value.bool (((ms.take k).map (·.1)).foldl pY (gB [] qs)) es cc) ∧ (k ≤ N3) ∧ (n = N3 - k)) ?_ ?_
   ·
    apply Exists.intro;simp only[zQ,zR,zD,zE];exact ⟨0,_,_,rfl,m,hD12,Nat.zero_le _,rfl⟩
   ·
    intro n vs wr hI u;clear m;obtain ⟨k,es12,c12,rfl,m,hD12,hk,hn⟩:=hI;simp only[zu,zF,zG];refine aF fun K13 k13=>wp_region_lit (aA (cO rfl rfl) (aG (k13 _ _ ?_)));refine aF fun K14 k14=>?_;simp only[zz];refine cC rfl (fun hc2=>?_) (fun hc2=>?_)
    ·
     obtain ⟨mv,hmv,a3,rfl,hrow3⟩:=hL3.get (i:=k) (by omega);refine wp_skip (k14 _ _ ?_);refine aF fun K15 k15=>wp_block (aF fun K16 k16=>wp_region_lit (aA (aK kJ fK rfl rfl (by omega) (by omega) (bY (Int.toNat_natCast _))) ?_));simp only[zz];refine aL rfl ((Qm (hrow3.ext m.ext)).lies Pa fK) ?_;simp only[zz];refine bH m xJ rfl ?_;clear m;intro g2 u m;simp only[zz];refine aT m 0 rfl rfl rfl fK (dX rfl) rfl ?_;clear m;intro u m;simp only[zy,zx,bK,zF,zG,Nat.reduceAdd] at m;refine aG (k16 _ _ ?_);refine wp_region_lit (aA (aB) (aA (aO (c:=2) iY rfl aC rfl rfl) ?_));simp only[zz];refine aL rfl ((m.b 0 rfl).lies aJ aC rfl rfl) ?_;simp only[zz,zy,Nat.zero_add,Nat.reduceAdd,Nat.reduceMul,Int.reduceToNat];refine Ev (ek:=pt) (en:=Value.bool) (a:=mv.1) m 1 rfl nH iC rfl rfl hD12 rfl ?_;clear m;intro es12 c12 u m hD';clear hD12;have hD12:=hD';clear hD';simp only[zF,zG] at m;refine aG (k15 _ _ ?_);refine wp_region_lit (aA (aQ rfl rfl (aM (by omega) (by omega))) (aA (aB) (aG ?_)));simp only[zz];simp only[Exit.inBlock,Exit.then];refine ⟨N3 - (k + 1),_,?_,rfl,?_,?_⟩
     · omega
     · simp only[zz,zv]
     ·
      simp only[zQ,zR,zD,zE];exact ⟨k + 1,_,_,rfl,(m.sel [false,true,true,true,true,true,true,true]),by rw [dJ hmv,List.map_append,List.foldl_append];exact hD12,by omega,rfl⟩
    ·
     have hkN : k = N3:=by omega
     rw [List.take_of_length_le (by omega)] at hD12;refine wp_exit (k11 _ _ ?_);refine aF fun K17 k17=>aF fun K18 k18=>wp_region_lit (aA (aB) (aA (dB rfl) (aA (aO (c:=0) iZ rfl uG rfl rfl) ?_)));simp only[zz];refine aL rfl ((m.b 4 rfl).lies1 Jd rfl) ?_;simp only[zz];refine aA (bA rfl kJ rfl) (aA (aB) (aG (k18 _ _ ?_)));refine wp_block ?_;simp only[zz];try simp only[Nat.zero_add,Nat.reduceAdd,Nat.reduceMul,Int.reduceToNat]
     refine bJ [62] [2,11,12,63,64,65,66,67,68,69,70,71,72,73,74,75,76,77,78,79,80,81,82,83,84,85,86,87,88,89,90,91,92,93,94,95,96,97,98,99,100,101,102,103,104,105,106,107,108,109,110,111,112,113] (fun n vs wl=>∃ (k : Nat) (es : Array MapEntry) (cc : Nat),vs = [.int .i64 (k:Int)] ∧ cF w0 wl [mI q12 es12 c12,mI q10 es10 c10,mI q9 es9 c9,oI 57 6 A4 (aU fs).length c4 ((aU fs).flatMap cB),bI g1 [.slice A N cap,.slice A2 N2 cap2,.slice A3 N3 cap3,.slice A4 (aU fs).length c4,.map (some q7),J] 73,mI q7 es cc,K] ∧ (cS pt pt (mU [] (ms.take k)) es cc) ∧ (∀ i mv,i < k → ms[i]? = some mv → nK fs gs ms (aU fs) i mv = true) ∧ (k ≤ N3) ∧ (n = N3 - k)) ?_ ?_
     ·
      apply Exists.intro;simp only[zQ,zR,zD,zE];exact ⟨0,_,_,rfl,m,hD7,fun _ _ h=>absurd h (Nat.not_lt_zero _),Nat.zero_le _,rfl⟩
     ·
      intro n vs wr hI u;clear m;obtain ⟨k,es7,c7,rfl,m,hD7,hok,hk,hn⟩:=hI;simp only[zu,zF,zG];refine aF fun K19 k19=>wp_region_lit (aA (cO rfl rfl) (aG (k19 _ _ ?_)));refine aF fun K20 k20=>?_;simp only[zz];refine cC rfl (fun hc3=>?_) (fun hc3=>?_)
      ·
       obtain ⟨mv,hmv,a3,rfl,hrow3⟩:=hL3.get (i:=k) (by omega);refine wp_skip (k20 _ _ ?_);refine aF fun K21 k21=>wp_block (aF fun K22 k22=>wp_region_lit (aA (aB) ?_));simp only[zz];refine aA (aK kJ fK rfl rfl (by omega) (by omega) (bY (Int.toNat_natCast _))) ?_;simp only[zz];refine aL rfl ((Qm (hrow3.ext m.ext)).lies Pa fK) ?_;simp only[zz];refine bH m xJ rfl ?_;clear m;intro g2 u m;refine aA (aD) ?_;simp only[zz];refine aT m 0 rfl rfl rfl fK (dX rfl) rfl ?_;clear m;intro u m;simp only[zy,zx,bK,zF,zG,Nat.reduceAdd] at m;refine aG (k22 _ _ ?_);refine aF fun K23 k23=>aF fun K24 k24=>?_;rcases Nat.eq_zero_or_pos k with hk0 | hk0
       ·
        refine mq m aP (by kernel_rfl) (aI (aB) ?_);simp only[zz];refine aI (tQ rfl rfl (by omega)) (aI (aB) (aV rfl (aV rfl ?_)));simp only[zz];refine aV rfl (aV rfl (aV rfl (aV rfl ?_)));simp only[zz];refine aV rfl (aV rfl (aV rfl (aV rfl ?_)));simp only[zz];refine aV rfl (aV rfl (aV rfl (aI (cG rfl) ?_)));simp only[zz];refine aI (aB) (aN rfl (aI (aB) (aN rfl (aI (aO (c:=2) iY rfl aC rfl rfl) (aN rfl ?_)))));simp only[zz];refine ql rfl (fun u m=>((m.b 0 rfl).lies aJ aC rfl rfl)) ?_;simp only[zz,zy,Nat.zero_add,Nat.reduceAdd,Nat.reduceMul,Int.reduceToNat];refine aN rfl (wA (fun u m=>eR (ek:=pt) (en:=Value.bool) (k:=mv.1) (v0:=false) nH mD iC rfl rfl (m.p 3 rfl) hD9) ?_);simp only[zz];refine aN rfl (aI (fN rfl) (aI (cG rfl) (aI (aB) (dS rfl (fun hb=>aB) ?_))));simp only[zz];refine dS rfl (fun hb=>aO (c:=2) iY rfl aC rfl rfl) ?_;simp only[zz];refine gV rfl (fun hb u m=>cM (bO hb rfl) ((m.b 0 rfl).lies aJ aC rfl rfl)) ?_;simp only[zz,zy,Nat.zero_add,Nat.reduceAdd,Nat.reduceMul,Int.reduceToNat];refine gV rfl (fun hb u m=>eR (ek:=pt) (en:=Value.bool) (k:=mv.2) (v0:=false) nH mD iC (bO hb rfl) (bO hb rfl) (m.p 2 rfl) hD10) ?_;simp only[zz];refine dS rfl (fun hb=>fN (bO hb rfl)) (aI (fQ rfl rfl rfl) (aI (aB) (dS rfl (fun hb=>aB) ?_)));simp only[zz];refine dS rfl (fun hb=>aO (c:=2) iY rfl aC rfl rfl) ?_;simp only[zz];refine gV rfl (fun hb u m=>cM (bO hb rfl) ((m.b 0 rfl).lies aJ aC rfl rfl)) ?_;simp only[zz,zy,Nat.zero_add,Nat.reduceAdd,Nat.reduceMul,Int.reduceToNat];refine gV rfl (fun hb u m=>eR (ek:=pt) (en:=Value.bool) (k:=mv.2) (v0:=false) nH mD iC (bO hb rfl) (bO hb rfl) (m.p 1 rfl) hD12) ?_;simp only[zz];refine dS rfl (fun hb=>fN (bO hb rfl)) (aI (fQ rfl rfl rfl) (cP ?_));clear m;intro u m;refine k24 _ _ ?_;simp only[zz];refine eD rfl (fun hc4=>?_) (fun hc4=>?_)
        ·
         have hmr : nK fs gs ms (aU fs) k mv = false:=by rw [vI (rim:=(aU fs)) hmem hmem2,hk0];exact agn hc4
         refine aF fun K25 k25=>wp_region_lit (aA (aD) (aG (k25 _ _ ?_)));refine wp_ret ?_;simp only[zz];try simp only[Exit.inBlock,Exit.then,if_true]
         refine bS rfl rfl ?_;try simp only[zD,zE]
         exact ⟨_,rfl,_,_,by rw [if_neg (by rw [yG hmv hmr];exact Bool.false_ne_true)],m.sel [false,false,false,false,true,true,true,true],fun h=>by rw [yG hmv hmr] at h;cases h⟩
        ·
         have hmr : nK fs gs ms (aU fs) k mv = true:=by rw [vI (rim:=(aU fs)) hmem hmem2,hk0];exact agm hc4
         have hok2 : ∀ i mv,i < k + 1 → ms[i]? = some mv → nK fs gs ms (aU fs) i mv = true:=fun i mw hi hmw=>by
          rcases Nat.lt_or_ge i k with h | h
          · exact hok i mw h hmw
          ·
           obtain rfl : i = k:=by omega
           obtain rfl:=Option.some.inj (hmv.symm.trans hmw);exact hmr
         refine wp_skip (k23 _ _ ?_);refine mh m [true,true,true,true,true,true,false,true] [(0,true),(1,true),(2,true),(4,true),(6,true),(3,true),(5,true),(7,true),(8,false)] aP (by kernel_rfl) (dL (fun _ _ _ _ _ h=>h)) (ol:=?_) ?hol ?_
         case hol=>simp only[zw,zQ,zR];try rfl
         clear m;intro u m;refine aZ (aB) (aZ (dB rfl) (aZ (aO (c:=0) iZ rfl xK rfl rfl) (aZ (aO (c:=2) iY rfl aC rfl rfl) ?_)));simp only[zz];refine aZ (aO (c:=2) iY rfl aC rfl rfl) ?_;simp only[zz];refine cU rfl (fun u m=>((m.b 5 rfl).lies1 Pb rfl)) ?_;simp only[zz];refine cU rfl (fun u m=>((m.b 0 rfl).lies aJ aC rfl rfl)) ?_;simp only[zz,zy,Nat.zero_add,Nat.reduceAdd,Nat.reduceMul,Int.reduceToNat];refine cU rfl (fun u m=>((m.b 0 rfl).lies aJ aC rfl rfl)) ?_;simp only[zz,zy,Nat.zero_add,Nat.reduceAdd,Nat.reduceMul,Int.reduceToNat];refine cW (fT (ek:=pt) (en:=pt) (a:=mv.1) (v:=mv.2) m 6 rfl underlying71 iC rfl rfl rfl hD7 ?_);clear m;intro es7 c7 u m hD';clear hD7;have hD7:=hD';clear hD';simp only[zF,zG] at m;refine aG (⟨m.sel [true,true,true,true,true,true,false,true],?_⟩);refine dU (k21 _ _ ?_);refine wp_region_lit (aA (aQ rfl rfl (aM (by omega) (by omega))) (aA (aB) (aG ?_)));simp only[zz];simp only[Exit.inBlock,Exit.then];refine ⟨N3 - (k + 1),_,?_,rfl,?_,?_⟩
         · omega
         · simp only[zz,zv]
         ·
          simp only[zQ,zR,zD,zE];exact ⟨k + 1,_,_,rfl,(m.sel [false,true,true,true,true,true,true,true]),by rw [dJ hmv,Fg];exact hD7,hok2,by omega,rfl⟩
       ·
        obtain ⟨j,rfl⟩ : ∃ j,k = j + 1:=⟨k - 1,by omega⟩
        obtain ⟨mw,hmw,a4,ha4,hrow4⟩:=hL3.get (i:=j) (by omega);cases ha4;refine mq m aP (by kernel_rfl) (aI (aB) ?_);simp only[zz];refine aI (wB rfl rfl (by omega)) (aI (aB) (aN rfl (aI (aB) (aN rfl (aI (dB rfl) ?_)))));simp only[zz];refine aN rfl (aI (aO (c:=0) iZ rfl uG rfl rfl) (aN rfl ?_));simp only[zz];refine ql rfl (fun u m=>((m.b 5 rfl).lies1 Jd rfl)) ?_;simp only[zz];refine aN rfl (aI (aB) (aN rfl ?_));simp only[zz];refine aI (eO rfl rfl (aM (by omega) (by omega))) (aN rfl ?_);simp only[zz];refine aI (aK kJ fK rfl rfl (by omega) (by omega) (bY (show Int.toNat (((j + 1 : Nat) : Int) - 1) = j by omega))) (aN rfl (aI (aO (c:=2) iY rfl aC rfl rfl) (aN rfl ?_)));simp only[zz];refine ql rfl (fun u m=>((((Qm (hrow4.ext m.ext)).sub 0).take 3).lies aJ aC)) ?_;simp only[zz];refine aN rfl (aI (aO (c:=2) iY rfl aC rfl rfl) (aN rfl ?_));simp only[zz];refine ql rfl (fun u m=>((m.b 0 rfl).lies aJ aC rfl rfl)) ?_;simp only[zz,zy,Nat.zero_add,Nat.reduceAdd,Nat.reduceMul,Int.reduceToNat];refine aN rfl (sS rfl rfl (vJ.pure) (aN rfl (aI (fN rfl) (aI (cJ rfl) (aI (aB) ?_)))));simp only[zz];refine dS rfl (fun hb=>aB) (dS rfl (fun hb=>aO (c:=2) iY rfl aC rfl rfl) ?_);simp only[zz];refine gV rfl (fun hb u m=>cM (bO hb rfl) ((m.b 0 rfl).lies aJ aC rfl rfl)) ?_;simp only[zz,zy,Nat.zero_add,Nat.reduceAdd,Nat.reduceMul,Int.reduceToNat];refine gV rfl (fun hb u m=>eR (ek:=pt) (en:=Value.bool) (k:=mv.1) (v0:=false) nH mD iC (bO hb rfl) (bO hb rfl) (m.p 3 rfl) hD9) ?_;simp only[zz];refine dS rfl (fun hb=>fN (bO hb rfl)) (aI (fQ rfl rfl rfl) (aI (aB) (dS rfl (fun hb=>aB) ?_)));simp only[zz];refine dS rfl (fun hb=>aO (c:=2) iY rfl aC rfl rfl) ?_;simp only[zz];refine gV rfl (fun hb u m=>cM (bO hb rfl) ((m.b 0 rfl).lies aJ aC rfl rfl)) ?_;simp only[zz,zy,Nat.zero_add,Nat.reduceAdd,Nat.reduceMul,Int.reduceToNat];refine gV rfl (fun hb u m=>eR (ek:=pt) (en:=Value.bool) (k:=mv.2) (v0:=false) nH mD iC (bO hb rfl) (bO hb rfl) (m.p 2 rfl) hD10) ?_;simp only[zz];refine dS rfl (fun hb=>fN (bO hb rfl)) (aI (fQ rfl rfl rfl) (aI (aB) (dS rfl (fun hb=>aB) ?_)));simp only[zz];refine dS rfl (fun hb=>aO (c:=2) iY rfl aC rfl rfl) ?_;simp only[zz];refine gV rfl (fun hb u m=>cM (bO hb rfl) ((m.b 0 rfl).lies aJ aC rfl rfl)) ?_;simp only[zz,zy,Nat.zero_add,Nat.reduceAdd,Nat.reduceMul,Int.reduceToNat];refine gV rfl (fun hb u m=>eR (ek:=pt) (en:=Value.bool) (k:=mv.2) (v0:=false) nH mD iC (bO hb rfl) (bO hb rfl) (m.p 1 rfl) hD12) ?_;simp only[zz];refine dS rfl (fun hb=>fN (bO hb rfl)) (aI (fQ rfl rfl rfl) (cP ?_));clear m;intro u m;refine k24 _ _ ?_;simp only[zz];refine eD rfl (fun hc4=>?_) (fun hc4=>?_)
        ·
         have hmr : nK fs gs ms (aU fs) (j + 1) mv = false:=by rw [vI (rim:=(aU fs)) hmem hmem2,Nat.add_sub_cancel,hmw];exact agp hc4
         refine aF fun K26 k26=>wp_region_lit (aA (aD) (aG (k26 _ _ ?_)));refine wp_ret ?_;simp only[zz];try simp only[Exit.inBlock,Exit.then,if_true]
         refine bS rfl rfl ?_;try simp only[zD,zE]
         exact ⟨_,rfl,_,_,by rw [if_neg (by rw [yG hmv hmr];exact Bool.false_ne_true)],m.sel [false,false,false,false,true,true,true,true],fun h=>by rw [yG hmv hmr] at h;cases h⟩
        ·
         have hmr : nK fs gs ms (aU fs) (j + 1) mv = true:=by rw [vI (rim:=(aU fs)) hmem hmem2,Nat.add_sub_cancel,hmw];exact ago hc4
         have hok2 : ∀ i mv,i < j + 1 + 1 → ms[i]? = some mv → nK fs gs ms (aU fs) i mv = true:=fun i mw hi hmw=>by
          rcases Nat.lt_or_ge i (j + 1) with h | h
          · exact hok i mw h hmw
          ·
           obtain rfl : i = j + 1:=by omega
           obtain rfl:=Option.some.inj (hmv.symm.trans hmw);exact hmr
         refine wp_skip (k23 _ _ ?_);refine mh m [true,true,true,true,true,true,false,true] [(0,true),(1,true),(2,true),(4,true),(6,true),(3,true),(5,true),(7,true),(8,false)] aP (by kernel_rfl) (dL (fun _ _ _ _ _ h=>h)) (ol:=?_) ?hol ?_
         case hol=>simp only[zw,zQ,zR];try rfl
         clear m;intro u m;refine aZ (aB) (aZ (dB rfl) (aZ (aO (c:=0) iZ rfl xK rfl rfl) (aZ (aO (c:=2) iY rfl aC rfl rfl) ?_)));simp only[zz];refine aZ (aO (c:=2) iY rfl aC rfl rfl) ?_;simp only[zz];refine cU rfl (fun u m=>((m.b 5 rfl).lies1 Pb rfl)) ?_;simp only[zz];refine cU rfl (fun u m=>((m.b 0 rfl).lies aJ aC rfl rfl)) ?_;simp only[zz,zy,Nat.zero_add,Nat.reduceAdd,Nat.reduceMul,Int.reduceToNat];refine cU rfl (fun u m=>((m.b 0 rfl).lies aJ aC rfl rfl)) ?_;simp only[zz,zy,Nat.zero_add,Nat.reduceAdd,Nat.reduceMul,Int.reduceToNat];refine cW (fT (ek:=pt) (en:=pt) (a:=mv.1) (v:=mv.2) m 6 rfl underlying71 iC rfl rfl rfl hD7 ?_);clear m;intro es7 c7 u m hD';clear hD7;have hD7:=hD';clear hD';simp only[zF,zG] at m;refine aG (⟨m.sel [true,true,true,true,true,true,false,true],?_⟩);refine dU (k21 _ _ ?_);refine wp_region_lit (aA (aQ rfl rfl (aM (by omega) (by omega))) (aA (aB) (aG ?_)));simp only[zz];simp only[Exit.inBlock,Exit.then];refine ⟨N3 - (j + 1 + 1),_,?_,rfl,?_,?_⟩
         · omega
         · simp only[zz,zv]
         ·
          simp only[zQ,zR,zD,zE];exact ⟨j + 1 + 1,_,_,rfl,(m.sel [false,true,true,true,true,true,true,true]),by rw [dJ hmv,Fg];exact hD7,hok2,by omega,rfl⟩
      ·
       have hkN : k = N3:=by omega
       rw [List.take_of_length_le (by omega)] at hD7;have hall : lK fs gs ms (aU fs) = true:=qD.2 fun i mv hm=>hok i mv (by have:=(List.getElem?_eq_some_iff.1 hm).1;omega) hm;refine wp_exit (k17 _ _ ?_);refine aF fun K27 k27=>wp_region_lit (aA (aD) (aG (k27 _ _ ?_)));refine wp_ret ?_;simp only[zz];try simp only[Exit.inBlock,Exit.then,if_true]
       refine bS rfl rfl ?_;try simp only[zD,zE]
       exact ⟨_,rfl,_,_,by rw [if_pos hall],m.sel [false,false,false,true,true,true,true],fun _=>hD7⟩
end Go.Proofs.YtfohfflkhpfjeaaGreatDoor
