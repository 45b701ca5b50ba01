/-
 Texts of one claim, laid together: Wide2, Wide3, Wide4, Wide5, Back, Wide7, Wide8, Wide9, Wide10, W6, Pack, W7, W8.
-/
import Derived.RangeFuncNested
import Derived.RangeFuncBound
import Derived.RangeFuncCalls
import Derived.RangeFuncBox
import Derived.RangeFuncLeaves
import Derived.Shelf.Abstract
import Derived.Shelf.RegionOpen
import Derived.WalkKit
import Derived.OwnWalkIn
import Derived.TacticsInMore
import Derived.LoopNIn
import Derived.LoopIn
import Derived.Maps.AppendAt
import Derived.Test.YtfohfflkhpfjeaaGreatDoorD4
set_option maxHeartbeats 8000000
set_option linter.unusedSimpArgs false
set_option linter.unusedVariables false
set_option linter.unusedSectionVars false
namespace Go.Proofs.YtfohfflkhpfjeaaGreatDoor
open Go.Proofs.Tryz
open Go.RowKit Go.Lith
set_option maxRecDepth 100000
attribute [local irreducible] wpList wpQuiet dD Code.wp
theorem Pj {A : Option Addr} {xs : List Nat} {na ca d : Nat} (w : World) (hS : cX w A na ca xs) (hlx : xs.length ≤ 1099511627776) (h0 : 0 < d) (h32 : d ≤ 4294967296) : eE prog 117 [.slice A na ca,.int .u64 (d : Int)] w (fun v w'=>∃ q,v = .tuple #[q,.int .u64 ((val 4294967296 xs % d : Nat) : Int)] ∧ fS (val 4294967296 xs / d) q w'):=by
 skip
 refine ⟨abv,?_⟩;have hX:=cZ.refl w;obtain rfl:=hS.eq
 go_enter func117,ntmps117
 refine aC (fun K1 hK1=>wp_region_lit (aA (aF) (aA (aF) ?_)));simp only[zz];refine aD (hK1 _ _ ?_);refine aC (fun K2 hK2=>wp_region_lit (aA (aB) (aA (bC rfl bA rfl) ?_)));simp only[zz];refine kU bA kV rfl rfl rfl (Int.toNat_natCast _) (Int.toNat_natCast _) (by omega) (by omega) (by omega) (by omega) ?_;intro w1 g1 hE hg1 hB1;have hG1:=Nat.le_trans hX.size hg1;replace hX:=hX.trans hE;clear hE hg1;simp only[zz];refine aA (aF) ?_;simp only[zz];refine aD ?_;rw [fJ] at hB1;refine hK2 _ _ (aC (fun K3 hK3=>wp_region_lit (aA (aF) ?_)));simp only[zz];refine aD (hK3 _ _ ?_);refine aC (fun K4 hK4=>aC (fun K5 hK5=>wp_region_lit (aA (aB) (aA (bC rfl bA rfl) (aA (eI rfl rfl (aM (by omega) (by omega))) ?_)))));simp only[zz];refine aA (aF) ?_;simp only[zz];refine aD (hK5 _ _ ?_);refine wp_block (bN [7,8] [15,16,17,18,19,20,21,22,23,24,25,26,27,28,29,30,31,32,33,34] (fun n vs wl=>∃ (k r : Nat) (os : List Nat),vs = [.int .u64 (r:Int),.int .i64 ((k:Int) - 1)] ∧ (cZ w wl) ∧ (fQ wl g1 (os.map jH) 126) ∧ (k ≤ xs.length) ∧ (os.length = xs.length) ∧ (val 4294967296 (xs.drop k) = d * val 4294967296 (os.drop k) + r) ∧ (r < d) ∧ (cJ 4294967296 os) ∧ (n = k)) ?_ ?_)
 ·
  apply Exists.intro;simp only[zQ,zR,zD,zE];exact ⟨xs.length,0,List.replicate xs.length 0,rfl,hX,hB1,by omega,by simp,by rw [List.drop_length,List.drop_of_length_le (by simp)];simp only[val,Nat.mul_zero],h0,fun x hx=>by rw [List.eq_of_mem_replicate hx];decide,rfl⟩
 ·
  intro n vs wr hI u;obtain ⟨k,r,os,rfl,hX,hB1,hk,hlo,hv,hr,hd,hn⟩:=hI;simp only[zu,zF,zG];refine aC (fun K6 hK6=>aC (fun K7 hK7=>wp_region_lit (aA (aB) (aA (oR rfl rfl) ?_))));simp only[zz];refine aD (hK7 _ _ ?_);refine cD rfl (fun hc1=>?_) (fun hc1=>?_)
  ·
   refine wp_skip ?_;refine hK6 _ _ (aC (fun K8 hK8=>wp_block (aC (fun K9 hK9=>?_))));obtain ⟨a,rfl,hca,hla⟩:=(hS.ext hX).get (show k - 1 < xs.length by omega);have hr32 : r < 4294967296:=by omega
   refine wp_region_lit (aA (aB) (aA (yI rfl rfl (by omega) (rA (n:=32) (by omega) (by omega))) (aA (aB) ?_)));simp only[zz];refine aA (aB) (aA (aL bA aZ rfl rfl (by omega) (by omega) (fW (show _ = k - 1 by omega))) ?_);simp only[zz];refine aI rfl (lies1 hca eD) ?_;simp only[zz];refine aA (Ih rfl rfl (Aa (s:=32) (c:=r) (by omega) (by omega) (by omega))) (aA (aF) ?_);simp only[zz];refine aD (hK9 _ _ ?_);obtain ⟨t,ht⟩ : ∃ t : Nat,t = xs[k - 1] + r * 4294967296:=⟨_,rfl⟩
   rw [← ht];have ht64 : t < 18446744073709551616:=by omega
   have hd64 : (d : Int) ≠ 0:=by omega
   refine Dw [(0,true),(1,true),(2,true),(3,true),(4,true),(5,true),(6,true),(7,true),(8,true),(9,false),(10,true)] aP (by kernel_rfl) (dB (fun _ _ _ _ _ h=>h)) (ol:=?_) ?hol ?_
   case hol=>simp only[zw,zQ,zR];try rfl
   intro w2 hE;replace hB1:=hB1.ext hE;replace hX:=hX.trans hE;clear hE;refine uO (aB) (uO (aB) (uO (aB) ?_));simp only[zz];refine uO (aB) (uO (gE rfl rfl (by omega) (Ac ht64)) (uO (aB) ?_));simp only[zz];refine uO (aB) (uO (dJ rfl rfl (by omega) kE) (uO (aL bA aZ rfl rfl (by omega) (by omega) (eM (show _ = k - 1 by omega))) ?_));simp only[zz];refine aa1 ?_;refine cK rfl (by simp only[zz];rfl) (by exact aZ) hB1 (by simp;omega) (by simp [Value.oneCell']) ?_;clear hB1;intro w3 hC hB1;replace hX:=hX.chg hC hG1;clear hC;rw [fE (by omega)] at hB1;refine aD (uO (aF) ?_);simp only[zz];refine acA (hK8 _ _ ?_);refine wp_region_lit (aA (aB) (aA (eI rfl rfl (aM (by omega) (by omega))) (aA (aF) ?_)));simp only[zz];refine aD ?_;obtain ⟨r1,r2,r3⟩:=Ir (by omega) hk hlo hv hr hd hla;rw [← ht] at r1 r2 r3;rw [show ((k:Int) - 1 - 1) = ((k - 1 : Nat) : Int) - 1 by omega];simp only[Exit.inBlock,Exit.then];refine ⟨k - 1,_,?_,rfl,?_,?_⟩
   · omega
   · simp only[zz,zv]
   ·
    simp only[zQ,zR,zD,zE];exact ⟨k - 1,t % d,os.set (k - 1) (t / d),rfl,hX,hB1,by omega,by simpa using hlo,r1,r3,r2,rfl⟩
  ·
   refine wp_exit ?_;refine hK4 _ _ (aC (fun K10 hK10=>?_));obtain rfl : k = 0:=by omega
   refine wp_region_lit (aA (aB) ?_);simp only[zz];refine bE rfl rfl (pO _ (hB1.nat hd (by omega) (by omega))) ?_;rintro v w2 hE rfl;replace hB1:=hB1.ext hE;replace hX:=hX.trans hE;clear hE;simp only[zz];refine aA (aB) (aA (aF) (aA (aF) ?_));simp only[zz];refine aD (hK10 _ _ ?_);refine wp_ret ?_;try simp only[Exit.inBlock,Exit.then]
   refine pS rfl rfl rfl ?_;try simp only[zD,zE]
   (have hq : val 4294967296 os = val 4294967296 xs / d ∧ r = val 4294967296 xs % d:=Aw h0 hr (by simpa using hv));exact ⟨_,rfl,hX,_,by rw [hq.2],fS.of_trim (hB1.nat hd (n:=xs.length) (by omega) (by omega)) hq.1⟩
theorem Pk {A : Option Addr} {xs : List Nat} {na ca sh : Nat} (w : World) (hS : cX w A na ca xs) (hlx : xs.length ≤ 1099511627776) (hn : sh ≤ 31) : eE prog 133 [.slice A na ca,.int .i64 (sh : Int)] w (fun v w'=>∃ g os,v = .slice (some ⟨g,0,none⟩) (xs.length + 1) (xs.length + 1) ∧ w.heap.size ≤ g ∧ fQ w' g (os.map jH) 126 ∧ os.length = xs.length + 1 ∧ cJ 4294967296 os ∧ val 4294967296 os = 2 ^ sh * val 4294967296 xs):=by
 skip
 refine ⟨abH,?_⟩;have hX:=cZ.refl w;obtain rfl:=hS.eq
 go_enter func133,ntmps133
 refine aC (fun K1 hK1=>wp_region_lit (aA (aF) ?_));simp only[zz];refine aD (hK1 _ _ ?_);refine aC (fun K2 hK2=>wp_region_lit (aA (aB) (aA (bC rfl bA rfl) (aA (aR rfl rfl (aM (by omega) (by omega))) ?_))));simp only[zz];refine kU bA kV rfl rfl rfl (show _ = xs.length + 1 by omega) (show _ = xs.length + 1 by omega) (by omega) (by omega) (by omega) (by omega) ?_;intro w1 g1 hE hg1 hB1;have hG1:=Nat.le_trans hX.size hg1;replace hX:=hX.trans hE;clear hE hg1;simp only[zz];refine aA (aF) ?_;simp only[zz];refine aD ?_;rw [fJ] at hB1;refine hK2 _ _ (aC (fun K3 hK3=>aC (fun K4 hK4=>wp_region_lit (aA (aB) (aA (bC rfl bA rfl) (aA (aB) ?_))))));simp only[zz];refine aD (hK4 _ _ ?_);refine wp_block (bN [14] [6,7,15,16,17,18,19,20,21,22,23,24,25,26,27,28,29,30,31,32,33,34,35,36] (fun n vs wl=>∃ (i : Nat) (os : List Nat),vs = [.int .i64 (i:Int)] ∧ (cZ w wl) ∧ (fQ wl g1 (os.map jH) 126) ∧ (i ≤ xs.length) ∧ (os.length = xs.length + 1) ∧ (val 4294967296 os = 2 ^ sh * val 4294967296 (xs.take i)) ∧ (os.drop (i + 1) = List.replicate (xs.length - i) 0) ∧ (cJ 4294967296 os) ∧ (∀ h : i < os.length,os[i] < 2 ^ sh) ∧ (n = xs.length - i)) ?_ ?_)
 ·
  apply Exists.intro;simp only[zQ,zR,zD,zE];exact ⟨0,List.replicate (xs.length + 1) 0,rfl,hX,hB1,by omega,by simp,by rw [eH,List.take_zero];rfl,by rw [List.drop_replicate];congr 1,fun x hx=>by rw [List.eq_of_mem_replicate hx];decide,fun h=>by rw [List.getElem_replicate];exact Nat.pow_pos (by decide),rfl⟩
 ·
  intro n vs wr hI u;obtain ⟨i,os,rfl,hX,hB1,hi,hlo,hv,hz,hd,hc,hn⟩:=hI;simp only[zu,zF,zG];refine aC (fun K5 hK5=>wp_region_lit (aA (cS rfl rfl) ?_));simp only[zz];refine aD (hK5 _ _ ?_);refine aC (fun K6 hK6=>?_);refine cD rfl (fun hc1=>?_) (fun hc1=>?_)
  ·
   refine wp_skip ?_;refine hK6 _ _ (aC (fun K7 hK7=>wp_block (aC (fun K8 hK8=>?_))));obtain ⟨a,rfl,hca,hla⟩:=(hS.ext hX).get (show i < xs.length by omega);refine wp_region_lit (aA (aB) (aA (aL bA aZ rfl rfl (by omega) (by omega) (fW (Int.toNat_natCast _))) ?_));simp only[zz];refine aI rfl (lies1 hca eD) ?_;simp only[zz];refine aA (aF) (aA (aF) ?_);simp only[zz];refine aD (hK8 _ _ ?_);refine aC (fun K9 hK9=>?_);have hm64:=Lx (n:=sh) (by omega) hla;have hf:=Ae (x:=xs[i]) (n:=sh) (by omega) (hc (by omega));refine wp_region_lit (aA (aB) (aA (aB) (aA (yI rfl rfl (by omega) (rA (n:=sh) (by omega) hm64)) ?_)));simp only[zz];refine aA (aF) ?_;simp only[zz];refine aD (hK9 _ _ ?_);refine aC (fun K10 hK10=>?_);have hco:=hB1.word (show i < os.length by omega);have hmm : xs[i] * 2 ^ sh % 4294967296 < 4294967296:=Nat.mod_lt _ (by decide);refine wp_region_lit (aA (aB) (aA (aB) (aA (aL bA aZ rfl rfl (by omega) (by omega) (eM (Int.toNat_natCast _))) ?_)));simp only[zz];refine aI rfl (lies1 hco eD) ?_;simp only[zz];refine aA (aB) (aA (pR rfl rfl (Ab hm64)) (aA (Ih rfl rfl (Gr (s:=sh) (hc (by omega)) (Ad (by omega)) (by omega))) ?_));simp only[zz];refine aA (aL bA aZ rfl rfl (by omega) (by omega) (eM (Int.toNat_natCast _))) ?_;simp only[zz];refine cK rfl (by simp only[zz];rfl) (by exact aZ) hB1 (by simp;omega) (by simp [Value.oneCell']) ?_;clear hB1;intro w2 hC hB1;replace hX:=hX.chg hC hG1;clear hC;rw [fE (by omega)] at hB1;refine aD (hK10 _ _ ?_);refine wp_region_lit (aA (aB) (aA (aB) (aA (aR rfl rfl (aM (by omega) (by omega))) ?_)));simp only[zz];refine aA (aB) (aA (oS rfl rfl (by omega) Lw) (aA (aL bA aZ rfl rfl (by omega) (by omega) (eM (show _ = i + 1 by omega))) ?_));simp only[zz];refine cK rfl (by simp only[zz];rfl) (by exact aZ) hB1 (by simp;omega) (by simp [Value.oneCell']) ?_;clear hB1;intro w3 hC hB1;replace hX:=hX.chg hC hG1;clear hC;rw [fE (by simp;omega)] at hB1;refine aD (hK7 _ _ ?_);refine wp_region_lit (aA (aR rfl rfl (aM (by omega) (by omega))) (aA (aB) ?_));simp only[zz];refine aD ?_;obtain ⟨r1,r2,r3,r4⟩:=Iv (by omega) (by omega) hlo hv hz hd (by omega) (hc (by omega)) hla;rw [show ((i:Int) + 1) = ((i + 1 : Nat) : Int) by omega];simp only[Exit.inBlock,Exit.then];refine ⟨xs.length - (i + 1),_,?_,rfl,?_,?_⟩
   · omega
   · simp only[zz,zv]
   ·
    simp only[zQ,zR,zD,zE];exact ⟨i + 1,(os.set i (os[i] + xs[i] * 2 ^ sh % 4294967296)).set (i + 1) (xs[i] * 2 ^ sh / 4294967296),rfl,hX,hB1,by omega,by simpa using hlo,r1,r2,r3,r4,rfl⟩
  ·
   refine wp_exit ?_;refine hK3 _ _ (aC (fun K11 hK11=>?_));obtain rfl : i = xs.length:=by omega
   refine wp_region_lit (aA (aB) (aA (aF) ?_));simp only[zz];refine aD (hK11 _ _ ?_);refine wp_ret ?_;try simp only[Exit.inBlock,Exit.then]
   refine bP rfl rfl ?_;try simp only[zD,zE]
   exact ⟨_,rfl,hX,_,os,rfl,hG1,hB1,hlo,hd,by rw [hv,List.take_length]⟩
theorem Ss {A : Option Addr} {xs : List Nat} {na ca sh : Nat} (w : World) (hS : cX w A na ca xs) (hlx : xs.length ≤ 1099511627776) (hn : sh ≤ 31) : eE prog 136 [.slice A na ca,.int .i64 (sh : Int)] w (fS (val 4294967296 xs / 2 ^ sh)):=by
 skip
 refine ⟨abK,?_⟩;have hX:=cZ.refl w;obtain rfl:=hS.eq
 go_enter func136,ntmps136
 refine aC (fun K1 hK1=>wp_region_lit (aA (aF) ?_));simp only[zz];refine aD (hK1 _ _ ?_);refine aC (fun K2 hK2=>wp_region_lit (aA (aB) (aA (bC rfl bA rfl) ?_)));simp only[zz];refine kU bA kV rfl rfl rfl (Int.toNat_natCast _) (Int.toNat_natCast _) (by omega) (by omega) (by omega) (by omega) ?_;intro w1 g1 hE hg1 hB1;have hG1:=Nat.le_trans hX.size hg1;replace hX:=hX.trans hE;clear hE hg1;simp only[zz];refine aA (aF) ?_;simp only[zz];refine aD ?_;rw [fJ] at hB1;refine hK2 _ _ (aC (fun K3 hK3=>aC (fun K4 hK4=>wp_region_lit (aA (aB) (aA (bC rfl bA rfl) (aA (aB) ?_))))));simp only[zz];refine aD (hK4 _ _ ?_);refine wp_block (bN [13] [6,7,14,15,16,17,18,19,20,21,22,23,24,25,26,27,28,29,30,31,32,33,34,35,36,37,38,39,40,41] (fun n vs wl=>∃ (i : Nat) (os : List Nat),vs = [.int .i64 (i:Int)] ∧ (cZ w wl) ∧ (fQ wl g1 (os.map jH) 126) ∧ (i ≤ xs.length) ∧ (os.length = xs.length) ∧ (val 4294967296 os = val 4294967296 (xs.take i) / 2 ^ sh) ∧ (os.drop i = List.replicate (xs.length - i) 0) ∧ (cJ 4294967296 os) ∧ (0 < i → ∀ h : i - 1 < os.length,os[i - 1] < 2 ^ (32 - sh)) ∧ (n = xs.length - i)) ?_ ?_)
 ·
  apply Exists.intro;simp only[zQ,zR,zD,zE];exact ⟨0,List.replicate xs.length 0,rfl,hX,hB1,by omega,by simp,by rw [eH,List.take_zero,show val 4294967296 [] = 0 from rfl,Nat.zero_div],rfl,fun x hx=>by rw [List.eq_of_mem_replicate hx];decide,fun h=>absurd h (by omega),rfl⟩
 ·
  intro n vs wr hI u;obtain ⟨i,os,rfl,hX,hB1,hi,hlo,hv,hz,hd,hc,hn⟩:=hI;simp only[zu,zF,zG];refine aC (fun K5 hK5=>wp_region_lit (aA (cS rfl rfl) ?_));simp only[zz];refine aD (hK5 _ _ ?_);refine aC (fun K6 hK6=>?_);refine cD rfl (fun hc1=>?_) (fun hc1=>?_)
  ·
   refine wp_skip ?_;refine hK6 _ _ (aC (fun K7 hK7=>wp_block (aC (fun K8 hK8=>?_))));obtain ⟨a,rfl,hca,hla⟩:=(hS.ext hX).get (show i < xs.length by omega);refine wp_region_lit (aA (aB) (aA (aL bA aZ rfl rfl (by omega) (by omega) (fW (Int.toNat_natCast _))) ?_));simp only[zz];refine aI rfl (lies1 hca eD) ?_;simp only[zz];refine aA (aF) (aA (aF) ?_);simp only[zz];refine aD (hK8 _ _ ?_);refine aC (fun K9 hK9=>?_);have hco:=hB1.word (show i < os.length by omega);obtain ⟨z1,z2⟩:=fX hz (by omega);have hq : xs[i] / 2 ^ sh < 4294967296:=Nat.lt_of_le_of_lt (Nat.div_le_self _ _) hla;refine gV 9 aP (by kernel_rfl) ?_;simp only[zy];refine aN (aB) (aN (aB) (aN (aL bA aZ rfl rfl (by omega) (by omega) (eM (Int.toNat_natCast _))) ?_));simp only[zz];refine gW rfl (fun _ hE'=>(lies1 (hE'.cell hco) eD)) ?_;simp only[zz];refine aN (aB) (aN (aB) (aN (oS rfl rfl (by omega) (Yo (n:=sh) (by omega))) ?_));simp only[zz];refine aN (Ih rfl rfl (Gr (s:=0) (c:=xs[i] / 2 ^ sh) (by omega) (by omega) (by omega))) (aN (aL bA aZ rfl rfl (by omega) (by omega) (eM (Int.toNat_natCast _))) ?_);simp only[zz];refine dN ?_;intro w2 hE;replace hB1:=hB1.ext hE;replace hX:=hX.trans hE;clear hE;refine cK rfl (by simp only[zz];rfl) (by exact aZ) hB1 (by simp;omega) (by simp [Value.oneCell']) ?_;clear hB1;intro w3 hC hB1;replace hX:=hX.chg hC hG1;clear hC;rw [fE (by omega),z1,Nat.zero_add] at hB1;refine aD (hK9 _ _ ?_);refine aC (fun K10 hK10=>wp_region_lit (aA (aB) (aA (oQ rfl rfl) ?_)));simp only[zz];refine aD (hK10 _ _ ?_);refine cD rfl (fun hc2=>?_) (fun hc2=>?_)
   ·
    obtain ⟨j,rfl⟩ : ∃ j,i = j + 1:=⟨i - 1,by omega⟩
    have hm64:=Lx (x:=xs[j + 1]) (n:=32 - sh) (by omega) hla;have hcj:=hc (by omega) (by omega);simp only[Nat.add_sub_cancel] at hcj;have hf:=Ae (x:=xs[j + 1]) (n:=32 - sh) (by omega) hcj;have hmm : xs[j + 1] * 2 ^ (32 - sh) % 4294967296 < 4294967296:=Nat.mod_lt _ (by decide);have hco2:=hB1.word (show j < (os.set (j + 1) (xs[j + 1] / 2 ^ sh)).length by simp;omega);rw [List.getElem_set_ne (by omega)] at hco2;refine gV 12 aP (by kernel_rfl) ?_;simp only[zy];refine aN (aB) (aN (aB) (aN (eI rfl rfl (aM (by omega) (by omega))) ?_));simp only[zz];refine aN (aL bA aZ rfl rfl (by omega) (by omega) (eM (show _ = j by omega))) ?_;simp only[zz];refine gW rfl (fun _ hE'=>(lies1 (hE'.cell hco2) eD)) ?_;simp only[zz];refine aN (aB) (aN (aB) (aN (eI rfl rfl ((aM (by omega) (by omega)).trans (show (32 : Int) - (sh : Int) = ((32 - sh : Nat) : Int) by omega))) ?_));simp only[zz];refine aN (yI rfl rfl (by omega) (rA (n:=32 - sh) (by omega) hm64)) (aN (pR rfl rfl (Ab hm64)) (aN (Ih rfl rfl (Gr (s:=32 - sh) hcj (Ad (by omega)) (by omega))) ?_));simp only[zz];refine aN (aL bA aZ rfl rfl (by omega) (by omega) (eM (show _ = j by omega))) ?_;simp only[zz];refine dN ?_;intro w4 hE;replace hB1:=hB1.ext hE;replace hX:=hX.trans hE;clear hE;refine cK rfl (by simp only[zz];rfl) (by exact aZ) hB1 (by simp;omega) (by simp [Value.oneCell']) ?_;clear hB1;intro w5 hC hB1;replace hX:=hX.chg hC hG1;clear hC;rw [fE (by simp;omega)] at hB1;refine aD (hK7 _ _ ?_);refine wp_region_lit (aA (aR rfl rfl (aM (by omega) (by omega))) (aA (aB) ?_));simp only[zz];refine aD ?_;obtain ⟨r1,r2,r3⟩:=Dz (n:=sh) (by omega) (by omega) hlo hv hz hd hS.digs (by omega) hcj;rw [show (((j + 1 : Nat) : Int) + 1) = ((j + 1 + 1 : Nat) : Int) by omega];simp only[Exit.inBlock,Exit.then];refine ⟨xs.length - (j + 1 + 1),_,?_,rfl,?_,?_⟩
    · omega
    · simp only[zz,zv]
    ·
     simp only[zQ,zR,zD,zE];exact ⟨j + 1 + 1,(os.set (j + 1) (xs[j + 1] / 2 ^ sh)).set j (os[j] + xs[j + 1] * 2 ^ (32 - sh) % 4294967296),rfl,hX,hB1,by omega,by simpa using hlo,r1,r2,r3,fun _ h=>by simp only[Nat.add_sub_cancel];rw [List.getElem_set_ne (by omega),List.getElem_set_self];exact Tq (by omega) hla,rfl⟩
   ·
    refine wp_skip ?_;refine hK7 _ _ (wp_region_lit (aA (aR rfl rfl (aM (by omega) (by omega))) (aA (aB) ?_)));simp only[zz];refine aD ?_;obtain rfl : i = 0:=by omega
    obtain ⟨r1,r2,r3⟩:=Dx (n:=sh) (by omega) (by omega) hlo hv hz hd hla;rw [show (((0 : Nat) : Int) + 1) = ((0 + 1 : Nat) : Int) by omega];simp only[Exit.inBlock,Exit.then];refine ⟨xs.length - (0 + 1),_,?_,rfl,?_,?_⟩
    · omega
    · simp only[zz,zv]
    ·
     simp only[zQ,zR,zD,zE];exact ⟨0 + 1,os.set 0 (xs[0] / 2 ^ sh),rfl,hX,hB1,by omega,by simpa using hlo,r1,r2,r3,fun _ h=>by simp only[Nat.add_sub_cancel];rw [List.getElem_set_self];exact Tq (by omega) hla,rfl⟩
  ·
   refine wp_exit ?_;refine hK3 _ _ (aC (fun K11 hK11=>?_));obtain rfl : i = xs.length:=by omega
   refine wp_region_lit (aA (aB) ?_);simp only[zz];refine bE rfl rfl (pO _ (hB1.nat hd (by omega) (by omega))) ?_;rintro v w2 hE rfl;replace hB1:=hB1.ext hE;replace hX:=hX.trans hE;clear hE;simp only[zz];refine aA (aF) ?_;simp only[zz];refine aD (hK11 _ _ ?_);refine wp_ret ?_;try simp only[Exit.inBlock,Exit.then]
   refine bP rfl rfl ?_;try simp only[zD,zE]
   exact ⟨_,rfl,hX,fS.of_trim (hB1.nat hd (n:=xs.length) (by omega) (by omega)) (by rw [hv,List.take_length])⟩
theorem Pm {A : Option Addr} {xs : List Nat} {na ca : Nat} (w : World) (hS : cX w A na ca xs) : eE prog 142 [.slice A na ca] w (Ys xs):=by
 skip
 refine ⟨abN,?_⟩;have hX:=cZ.refl w;obtain rfl:=hS.eq;have hl:=hS.len
 go_enter func142,ntmps142
 refine aC (fun K1 hK1=>wp_region_lit (aA (aF) ?_));simp only[zz];refine aD (hK1 _ _ ?_);refine aC (fun K2 hK2=>aC (fun K3 hK3=>?_));rcases A with _ | a
 ·
  obtain rfl:=hS.none;refine wp_region_lit (aA (aB) (aA (Is bA rfl rfl) ?_));simp only[zz];refine aD (hK3 _ _ ?_);refine cG rfl (aC (fun K4 hK4=>wp_region_lit (aA (aF) ?_)));simp only[zz];refine aD (hK4 _ _ ?_);refine wp_ret ?_;try simp only[Exit.inBlock,Exit.then]
  refine bP rfl rfl ?_;try simp only[zD,zE]
  exact ⟨_,rfl,hX,none,0,rfl,cX.nil _⟩
 ·
  refine wp_region_lit (aA (aB) (aA (Is bA rfl rfl) ?_));simp only[zz];refine aD (hK3 _ _ ?_);refine iT rfl (wp_skip ?_);refine hK2 _ _ (aC (fun K5 hK5=>wp_region_lit ?_));refine Ax bA (c:=1) (by kernel_rfl)  ?_;intro w1 g1 hE hg1 hB1;have hG1:=Nat.le_trans hX.size hg1;replace hX:=hX.trans hE;clear hE hg1;simp only[zz];refine aA (aB) ?_;simp only[zz];refine fL rfl bA kV rfl (by decide) rfl (jG.build0 (base:=g1) hB1 (Nat.le_refl _)) rfl (news:=xs.map jH) (by simp) (hS.ext hX).words (fun u hu=>by obtain ⟨x,_,rfl⟩:=List.mem_map.1 hu;rfl) (by omega) (by omega) (Nat.le_of_lt hB1.lt) ?_;intro v1 w9 hO hGr _;replace hX:=hX.grown hGr hG1;clear hB1 hGr;simp only[List.nil_append,Nat.zero_add] at hO;obtain ⟨A1,c1,rfl,hN⟩:=cX.of_owns hO rfl hS.digs (by omega);simp only[zz];refine aA (aF) ?_;simp only[zz];refine aD (hK5 _ _ ?_);refine wp_ret ?_;try simp only[Exit.inBlock,Exit.then]
  refine bP rfl rfl ?_;try simp only[zD,zE]
  exact ⟨_,rfl,hX,A1,c1,rfl,hN⟩
end Go.Proofs.YtfohfflkhpfjeaaGreatDoor
namespace Go.Proofs.YtfohfflkhpfjeaaGreatDoor
open Go.Proofs.Tryz
open Go.RowKit Go.Lith
set_option maxRecDepth 100000
attribute [local irreducible] wpList wpQuiet dD Code.wp
theorem yE {A : Option Addr} {xs : List Nat} {na cap : Nat} (w : World) (hS : cX w A na cap xs) : eE prog 132 [.slice A na cap] w (fS (val 4294967296 xs)) :=
 (pO w hS).mono fun v w' hE h=>by subst h;exact fS.of_trim (hS.ext hE) rfl
theorem Xm {A B : Option Addr} {xs ys : List Nat} {na nb ca cb d : Nat} (w : World) (hS : cX w A na ca xs) (hR : cX w B nb cb ys) (hl : ys.length + 1 ≤ xs.length) (hly : ys.length ≤ 1099511627776) (hdd : d < 4294967296) : eE prog 134 [.slice A na ca,.slice B nb cb,.int .u64 (d : Int)] w (fun v _=>v = .bool (decide (val 4294967296 (xs.take (ys.length + 1)) < val 4294967296 ys * d))):=by
 skip
 refine ⟨abI,?_⟩;have hX:=cZ.refl w;obtain rfl:=hS.eq;obtain rfl:=hR.eq;have hle:=hS.le;have hcap:=hS.cap
 go_enter func134,ntmps134
 refine aC (fun K1 hK1=>wp_region_lit (aA (aF) ?_));simp only[zz];refine aD (hK1 _ _ ?_);refine aC (fun K2 hK2=>wp_region_lit (aA (aB) (aA (aB) (aA (bC rfl bA rfl) ?_))));simp only[zz];refine aA (aR rfl rfl (aM (by omega) (by omega))) (aA (kB bA aZ rfl rfl (show _ = ys.length + 1 by omega) (by omega) (by omega)) ?_);simp only[zz];refine bE rfl rfl (Pm _ ((hS.ext hX).head hl)) ?_;rintro v w1 hE ⟨A1,c1,rfl,hN1⟩;replace hX:=hX.trans hE;clear hE;simp only[zz];refine bE rfl rfl (yE _ hN1) ?_;rintro v w2 hE ⟨A2,c2,rfl,hN2⟩;replace hX:=hX.trans hE;clear hE;simp only[zz];refine aA (aB) (aA (aB) ?_);simp only[zz];refine eU bA (z:=.int .u64 0) (by kernel_rfl) rfl (by simp only[zz];rfl) (by rfl) ?_;intro w3 g1 hE hg1 hB1;have hG1:=Nat.le_trans hX.size hg1
 (try replace hN2:=hN2.ext hE);replace hX:=hX.trans hE
 clear hE hg1;simp only[zz];refine bE rfl rfl (yE _ (hB1.nat (os:=[d]) (pY hdd) rfl (by omega))) ?_;rintro v w4 hE ⟨A3,c3,rfl,hN3⟩
 (try replace hN2:=hN2.ext hE);replace hX:=hX.trans hE
 clear hE;simp only[zz];refine bE rfl rfl (Xl _ (hR.ext hX) hN3 hly (Nat.le_trans (nG (pY hdd)) (by simp))) ?_;rintro v w5 hE ⟨A4,c4,rfl,hN4⟩
 (try replace hN2:=hN2.ext hE);replace hX:=hX.trans hE
 clear hE;simp only[zz];refine bE rfl rfl (Pi _ hN2 hN4 (fM _) (fM _)) ?_;rintro v w6 hE rfl;replace hX:=hX.trans hE;clear hE;simp only[zz];refine aA (cS rfl rfl) (aA (aF) ?_);simp only[zz];refine aD (hK2 _ _ ?_);refine wp_ret ?_;try simp only[Exit.inBlock,Exit.then]
 refine bP rfl rfl ?_;try simp only[zD,zE]
 exact ⟨_,rfl,hX,by rw [Ts];simp only[cE,lP]⟩
theorem Hz {B : Option Addr} {os ys : List Nat} {g0 off na nb cb d : Nat} (w : World) (hB0 : fQ w g0 (os.map jH) 126) (hd : cJ 4294967296 os) (hlo : os.length ≤ 1099511627776) (hR : cX w B nb cb ys) (hoff : off + (ys.length + 1) ≤ os.length) (hna : na = os.length - off) (hdd : d < 4294967296) (hge : val 4294967296 ys * d ≤ val 4294967296 ((os.drop off).take (ys.length + 1))) : Tr prog 135 [.slice (some ⟨g0,off,none⟩) na na,.slice B nb cb,.int .u64 (d : Int)] w g0 (fun _ w'=>fQ w' g0 ((laid os off (ys.length + 1) (val 4294967296 ((os.drop off).take (ys.length + 1)) - val 4294967296 ys * d)).map jH) 126):=by
 skip
 refine ⟨abJ,?_⟩;have hX:=cZ.refl w;obtain rfl:=hR.eq;have hg0:=hB0.lt;have hS : cX w (some ⟨g0,off,none⟩) na na (os.drop off):=by
  have h:=(hB0.nat hd rfl (by omega)).drop (show off ≤ os.length by omega) hna;rw [fC,Nat.zero_add] at h;rwa [hna] at *
 have hle : ys.length + 1 ≤ (os.drop off).length:=by simp;omega
 obtain ⟨V,hV⟩ : ∃ V,V = val 4294967296 ((os.drop off).take (ys.length + 1)):=⟨_,rfl⟩
 rw [← hV] at hge ⊢
 go_enter func135,ntmps135
 refine aC (fun K1 hK1=>wp_region_lit (aA (aB) (aA (aB) (aA (bC rfl bA rfl) ?_))));simp only[zz];refine aA (aR rfl rfl (aM (by omega) (by omega))) (aA (kB bA aZ rfl rfl (show _ = ys.length + 1 by omega) (by omega) (by omega)) ?_);simp only[zz];refine bE rfl rfl (Pm _ ((hS.ext hX).head hle)) ?_;rintro v w1 hE ⟨A1,c1,rfl,hN1⟩;replace hB0:=hB0.ext hE;replace hX:=hX.trans hE;clear hE;simp only[zz];refine aA (aB) (aA (aB) ?_);simp only[zz];refine eU bA (z:=.int .u64 0) (by kernel_rfl) rfl (by simp only[zz];rfl) (by rfl) ?_;intro w2 g1 hE hg1 hB1;have hG1:=Nat.le_trans hX.size hg1;have hN1_0 : g1 ≠ g0:=Nat.ne_of_gt (Nat.lt_of_lt_of_le hB0.lt hg1);replace hB0:=hB0.ext hE;(try replace hN1:=hN1.ext hE);replace hX:=hX.trans hE;clear hE hg1;simp only[zz];refine bE rfl rfl (yE _ (hB1.nat (os:=[d]) (pY hdd) rfl (by omega))) ?_;rintro v w3 hE ⟨A3,c3,rfl,hN3⟩;replace hB0:=hB0.ext hE;(try replace hN1:=hN1.ext hE);replace hX:=hX.trans hE;clear hE;simp only[zz];refine bE rfl rfl (Xl _ (hR.ext hX) hN3 (by omega) (Nat.le_trans (nG (pY hdd)) (by simp))) ?_;rintro v w4 hE ⟨A4,c4,rfl,hN4⟩;replace hB0:=hB0.ext hE;(try replace hN1:=hN1.ext hE);replace hX:=hX.trans hE;clear hE;simp only[zz];have hsz:=hX.size;refine bE rfl rfl (Xk _ hN1 hN4 (by simp only[cE,lP];rw [List.length_take,Nat.min_eq_left hle];exact yX hR.digs hdd) (by simp only[cE,lP];rw [← hV];exact hge) (by rw [List.length_take];omega)) ?_;rintro v w5 hE ⟨⟨A5,c5,rfl,hN5⟩,hne⟩;replace hB0:=hB0.ext hE;replace hX:=hX.trans hE;clear hE;replace hne : ∀ a,A5 = some a → a.block ≠ g0:=fun a e=>by subst e;have:=hne a _ _ rfl;omega
 simp only[cE,lP,← hV] at hN5 ⊢;have hm : (digs 4294967296 (V - val 4294967296 ys * d)).length ≤ ys.length + 1:=dO (by omega) (Nat.lt_of_le_of_lt (Nat.sub_le _ _) (by have h:=iB ((hd.drop off).take (ys.length + 1));rw [List.length_take,Nat.min_eq_left hle,← hV] at h;exact h));simp only[zz];refine aA (aF) ?_;simp only[zz];refine aD (hK1 _ _ ?_);refine aC (fun K2 hK2=>?_);replace hX:=hX.upd g0;have hG0 : w.heap.size ≤ g0 ∨ g0 = g0:=.inr rfl;refine wp_region_lit (aA (aB) (aA (aB) (aA (bC rfl bA rfl) ?_)));simp only[zz];refine aA (aR rfl rfl (aM (by omega) (by omega))) (aA (kB bA aZ rfl rfl (show _ = ys.length + 1 by omega) (by omega) (by omega)) ?_);simp only[zz];refine Yq (z:=.int .u64 0) rfl bA (by kernel_rfl) rfl rfl (by omega) hB0 (by simp;omega) rfl ?_;clear hB0;intro w6 hC hB0
 (try replace hN5:=hN5.chg hC (by first | assumption | rfl));replace hX:=hX.chg hC hG0
 clear hC;refine aD (hK2 _ _ ?_);refine wp_region_lit (aA (aB) (aA (aB) ?_));simp only[zz];refine Yt rfl bA (by kernel_rfl) rfl rfl (g:=g0) (o:=off) (n:=na) (m:=(digs 4294967296 (V - val 4294967296 ys * d)).length) (us:=(digs 4294967296 (V - val 4294967296 ys * d)).map jH) (by rw [List.length_map];exact (Nat.min_eq_left (by omega)).symm) hN5.src hB0 (by rw [oT (by simp;omega)];simp;omega) Tt ?_;clear hB0;intro w7 hC hB0;replace hX:=hX.chg hC hG0;clear hC;simp only[zz];refine aD ?_;try simp only[Exit.inBlock,Exit.then,if_true]
 exact acC rfl (⟨_,rfl,hX,by rw [← Qd hoff hm];exact hB0⟩)
end Go.Proofs.YtfohfflkhpfjeaaGreatDoor
namespace Go.Proofs.YtfohfflkhpfjeaaGreatDoor
open Go.Proofs.Tryz
open Go.RowKit Go.Lith
set_option maxRecDepth 100000
attribute [local irreducible] wpList wpQuiet dD Code.wp
theorem ad4 {A B : Option Addr} {xs ys : List Nat} {na nb ca cb : Nat} (w : World) (hS : cX w A na ca xs) (hR : cX w B nb cb ys) (tx : eY xs) (ty : eY ys) (h0 : 0 < val 4294967296 ys) (hlx : xs.length ≤ 1000000000000) (hly : ys.length ≤ 1000000000000) : eE prog 115 [.slice A na ca,.slice B nb cb] w (fun v w'=>∃ q r,v = .tuple #[q,r] ∧ fS (val 4294967296 xs / val 4294967296 ys) q w' ∧ fS (val 4294967296 xs % val 4294967296 ys) r w'):=by
 skip
 refine ⟨abt,?_⟩;have hX:=cZ.refl w;obtain rfl:=hS.eq;obtain rfl:=hR.eq
 go_enter func115,ntmps115
 refine aC (fun K1 hK1=>wp_region_lit (aA (aF) (aA (aF) ?_)));simp only[zz];refine aD (hK1 _ _ ?_);refine aC (fun K2 hK2=>aC (fun K3 hK3=>wp_region_lit (aA (aB) (aA (aB) ?_))));simp only[zz];refine bE rfl rfl (Pi _ (hS.ext hX) (hR.ext hX) tx ty) ?_;rintro v w1 hE rfl;replace hX:=hX.trans hE;clear hE;simp only[zz];refine aA (cS rfl rfl) ?_;simp only[zz];refine aD (hK3 _ _ ?_);refine cD rfl (fun hc1=>?_) (fun hc1=>?_)
 ·
  have hlt:=rB.1 hc1;refine aC (fun K4 hK4=>wp_region_lit (aA (aB) (aA (aF) (aA (aF) ?_))));simp only[zz];refine aD (hK4 _ _ ?_);refine wp_ret ?_;try simp only[Exit.inBlock,Exit.then]
  refine pS rfl rfl rfl ?_;try simp only[zD,zE]
  exact ⟨_,rfl,hX,_,_,rfl,by rw [Nat.div_eq_of_lt hlt];exact fS.zero _,by rw [Nat.mod_eq_of_lt hlt];exact fS.self (hS.ext hX) tx⟩
 ·
  have hYX : val 4294967296 ys ≤ val 4294967296 xs:=Nat.le_of_not_lt fun h=>hc1 (rB.2 h);refine wp_skip (hK2 _ _ ?_);refine aC (fun K5 hK5=>aC (fun K6 hK6=>wp_region_lit (aA (aB) (aA (bC rfl bA rfl) (aA (kL rfl rfl) ?_)))));simp only[zz];refine aD (hK6 _ _ ?_);refine cD rfl (fun hc2=>?_) (fun hc2=>?_)
  ·
   refine aC (fun K7 hK7=>?_);obtain ⟨y,rfl⟩ : ∃ y,ys = [y]:=List.length_eq_one_iff.1 (by omega);obtain ⟨b,rfl,hcb,hyb⟩:=(hR.ext hX).get (i:=0) (by simp);simp only[List.getElem_cons_zero] at hcb hyb;refine wp_region_lit (aA (aB) (aA (aB) (aA (aL bA aZ rfl rfl (by decide) (by omega) rfl) ?_)));simp only[zz];refine aI rfl (lies1 hcb eD) ?_;simp only[zz];refine bE rfl rfl (Pj _ (hS.ext hX) (by omega) (by rw [lP] at h0;exact h0) (by omega)) ?_;rintro v w2 hE ⟨q,rfl,A1,c1,rfl,hN1⟩;replace hX:=hX.trans hE;clear hE;simp only[zz];refine aA (aB) (aA (bL rfl rfl) (aA (bL rfl rfl) ?_));simp only[zz];refine aA (aF) (aA (aF) ?_);simp only[zz];refine aD (hK7 _ _ ?_);refine aC (fun K8 hK8=>wp_region_lit (aA (aB) (aA (aB) ?_)));simp only[zz];refine eU bA (z:=.int .u64 0) (by kernel_rfl) rfl (by simp only[zz];rfl) (by rfl) ?_;intro w3 g1 hE hg1 hB1;have hG1:=Nat.le_trans hX.size hg1
   (try replace hN1:=hN1.ext hE);replace hX:=hX.trans hE
   clear hE hg1;simp only[zz];refine bE rfl rfl (yE _ (hB1.nat (os:=[val 4294967296 xs % y]) (pY (Nat.lt_of_lt_of_le (Nat.mod_lt _ (by rw [lP] at h0;exact h0)) (by omega))) rfl (by omega))) ?_;rintro v w4 hE ⟨A2,c2,rfl,hN2⟩
   (try replace hN1:=hN1.ext hE);replace hX:=hX.trans hE
   clear hE;simp only[lP] at hN2 ⊢;simp only[zz];refine aA (aF) (aA (aF) ?_);simp only[zz];refine aD (hK8 _ _ ?_);refine wp_ret ?_;try simp only[Exit.inBlock,Exit.then]
   refine pS rfl rfl rfl ?_;try simp only[zD,zE]
   exact ⟨_,rfl,hX,_,_,rfl,by rw [lP];exact ⟨A1,c1,rfl,hN1⟩,by rw [lP];exact ⟨A2,c2,rfl,hN2⟩⟩
  ·
   have hl2 : 2 ≤ ys.length:=by
    rcases ys with _ | ⟨y,ys⟩
    · exact absurd h0 (by simp [val])
    · simp only[List.length_cons] at hc2 ⊢;omega
   have hxy : ys.length ≤ xs.length:=by
    rcases Nat.lt_or_ge xs.length ys.length with h | h
    · have:=iU (B:=4294967296) (by omega) hS.digs hR.digs ty h;omega
    · exact h
   obtain ⟨b,rfl,_,hyb⟩:=hR.get (i:=ys.length - 1) (by omega);have htpy:=sI ty (by omega);refine wp_skip (hK5 _ _ ?_);refine aC (fun K9 hK9=>wp_region_lit (aA (aF) ?_));simp only[zz];refine aD (hK9 _ _ ?_);refine aC (fun K10 hK10=>wp_block ?_);refine bN [8] [39,40,41,42,43,44,45,46,47,48,49,50] (fun n vs wl=>∃ (sh : Nat),vs = [.int .i64 (sh:Int)] ∧ (cZ w wl) ∧ (ys[ys.length - 1] * 2 ^ sh < 4294967296) ∧ (sh ≤ 31) ∧ (n = 32 - sh)) ?_ ?_
   ·
    apply Exists.intro;simp only[zQ,zR,zD,zE];exact ⟨0,rfl,hX,by simpa using hyb,by omega,rfl⟩
   ·
    intro n vs wr hI u;obtain ⟨sh,rfl,hX,hsh,hs31,hn⟩:=hI;simp only[zu,zF,zG];refine aC (fun K11 hK11=>aC (fun K12 hK12=>?_));have hcb:=(hR.ext hX).at (show ys.length - 1 < ys.length by omega);refine wp_region_lit (aA (aB) (aA (aB) (aA (bC rfl bA rfl) ?_)));simp only[zz];refine aA (eI rfl rfl (aM (by omega) (by omega))) (aA (aL bA aZ rfl rfl (by omega) (by omega) (fW (show _ = ys.length - 1 by omega))) ?_);simp only[zz];refine aI rfl (lies1 hcb eD) ?_;simp only[zz];refine aA (aB) (aA (yI rfl rfl (by omega) (rA (n:=sh) (by omega) (Lx (by omega) hyb))) (aA (oS rfl rfl (by omega) aa2) ?_));simp only[zz];refine aA (kL rfl rfl) ?_;simp only[zz];refine aD (hK12 _ _ ?_);refine cD rfl (fun hc3=>?_) (fun hc3=>?_)
    ·
     refine wp_skip ?_;refine hK11 _ _ (wp_block (wp_region_lit (aA (aB) (aA (aR rfl rfl (aM (by omega) (by omega))) (aA (aF) ?_)))));simp only[zz];refine aD ?_;rw [show ((sh:Int) + 1) = ((sh + 1 : Nat) : Int) by omega];have hlt31 : ys[ys.length - 1] * 2 ^ sh < 2147483648:=by omega
     have hps : 2 ^ sh < 2 ^ 31:=Nat.lt_of_le_of_lt (Nat.le_mul_of_pos_left (2 ^ sh) htpy) hlt31;have hs30 : sh < 31:=(Nat.pow_lt_pow_iff_right (by omega)).1 hps;simp only[Exit.inBlock,Exit.then];refine ⟨32 - (sh + 1),_,?_,rfl,?_,?_⟩
     · omega
     · simp only[zz,zv]
     ·
      simp only[zQ,zR,zD,zE];exact ⟨sh + 1,rfl,hX,by rw [Nat.pow_succ,← Nat.mul_assoc];omega,by omega,rfl⟩
    ·
     refine wp_exit ?_;refine hK10 _ _ (aC (fun K13 hK13=>wp_region_lit (aA (aB) (aA (aB) ?_))));simp only[zz];refine bE rfl rfl (Pk _ (hS.ext hX) (by omega) (by omega)) ?_;rintro v w2 hE ⟨g1,us,rfl,hg1,hB1,hlu,hdu,hvu⟩;have hG1:=Nat.le_trans hX.size hg1;replace hX:=hX.trans hE;clear hE hg1;simp only[zz];refine aA (aB) (aA (aB) ?_);simp only[zz];refine bE rfl rfl (Pk _ (hR.ext hX) (by omega) (by omega)) ?_;rintro v w3 hE ⟨g2,vs0,rfl,hg2,hB2,hlv,hdv,hvv⟩;have hG2:=Nat.le_trans hX.size hg2;have hN2_1 : g2 ≠ g1:=Nat.ne_of_gt (Nat.lt_of_lt_of_le hB1.lt hg2);replace hB1:=hB1.ext hE;replace hX:=hX.trans hE;clear hE hg2;rw [← hlv];simp only[zz];refine bE rfl rfl (pO _ (hB2.nat hdv rfl (by omega))) ?_;rintro v w4 hE rfl;replace hB1:=hB1.ext hE;replace hB2:=hB2.ext hE;replace hX:=hX.trans hE;clear hE;simp only[zz];refine aA (aF) (aA (aF) ?_);simp only[zz];refine aD ?_;obtain ⟨ds,hvs⟩ : ∃ ds,ds = trim vs0:=⟨_,rfl⟩
     rw [← hvs];have hlvs : ds.length = ys.length:=by rw [hvs];exact Qe hdv hvv hR.digs (by omega) hsh htpy hs31
     have hdvs : cJ 4294967296 ds:=by rw [hvs];exact hdv.trim
     have hvvs : val 4294967296 ds = 2 ^ sh * val 4294967296 ys:=by rw [hvs,pU,hvv]
     obtain ⟨K,hK⟩ : ∃ K,K = xs.length + 1 - ds.length:=⟨_,rfl⟩
     refine hK13 _ _ ?_;refine aC (fun K14 hK14=>wp_region_lit (aA (aB) (aA (bC rfl bA rfl) (aA (aB) ?_))));simp only[zz];refine aA (bC rfl bA rfl) (aA (eI rfl rfl (aM (by omega) (by omega))) ?_);simp only[zz];refine kU bA kV rfl rfl rfl (show _ = K by omega) (show _ = K by omega) (by omega) (by omega) (by omega) (by omega) ?_;intro w5 g3 hE hg3 hB3;have hG3:=Nat.le_trans hX.size hg3;have hN3_1 : g3 ≠ g1:=Nat.ne_of_gt (Nat.lt_of_lt_of_le hB1.lt hg3);have hN3_2 : g3 ≠ g2:=Nat.ne_of_gt (Nat.lt_of_lt_of_le hB2.lt hg3);replace hB1:=hB1.ext hE;replace hB2:=hB2.ext hE;replace hX:=hX.trans hE;clear hE hg3;simp only[zz];refine aA (aF) ?_;simp only[zz];refine aD ?_;rw [fJ] at hB3;refine hK14 _ _ (aC (fun K15 hK15=>?_));have hNv:=oD hB2 hdv (by omega);rw [← hvs] at hNv;have hct:=hNv.at (show ds.length - 1 < ds.length by omega);have hcs:=hNv.at (show ds.length - 2 < ds.length by omega);rw [fC,Nat.zero_add] at hct hcs;refine gQ aP (by kernel_rfl) (aN (aB) (aN (aB) (aN (bC rfl bA rfl) ?_)));simp only[zz];refine aN (eI rfl rfl (aM (by omega) (by omega))) (aN (aL bA aZ rfl rfl (by omega) (by omega) (eM (show _ = ds.length - 1 by omega))) ?_);simp only[zz];refine gW rfl (fun _ hE'=>(lies1 (hE'.cell hct) eD)) ?_;simp only[zz];refine aN (aB) (aN (aB) (aN (bC rfl bA rfl) ?_));simp only[zz];refine aN (eI rfl rfl (aM (by omega) (by omega))) (aN (aL bA aZ rfl rfl (by omega) (by omega) (eM (show _ = ds.length - 2 by omega))) ?_);simp only[zz];refine gW rfl (fun _ hE'=>(lies1 (hE'.cell hcs) eD)) ?_;simp only[zz];refine aN (aF) (aN (aF) ?_);simp only[zz];refine dN ?_;intro w6 hE;replace hB1:=hB1.ext hE;replace hB2:=hB2.ext hE;replace hB3:=hB3.ext hE;replace hX:=hX.trans hE;clear hE;have htv : 0 < ds[ds.length - 1]:=sI (by rw [hvs];exact qY _) (by omega);obtain ⟨top,htop⟩ : ∃ top,top = ds[ds.length - 1]:=⟨_,rfl⟩
     obtain ⟨sec,hsec⟩ : ∃ sec,sec = ds[ds.length - 2]:=⟨_,rfl⟩
     have htB : top < 4294967296:=htop ▸ hdvs _ (List.getElem_mem _);have hsB : sec < 4294967296:=hsec ▸ hdvs _ (List.getElem_mem _);rw [← htop] at htv;rw [← htop,← hsec];refine hK15 _ _ (aC (fun K16 hK16=>aC (fun K17 hK17=>?_)));clear hNv hct hcs;refine wp_region_lit (aA (aB) (aA (bC rfl bA rfl) (aA (eI rfl rfl (aM (by omega) (by omega))) ?_)));simp only[zz];refine aA (aF) ?_;simp only[zz];refine aD (hK17 _ _ ?_);refine wp_block (bN [14] [15,16,17,18,79,80,81,82,83,84,85,86,87,88,89,90,91,92,93,94,95,96,97,98,99,100,101,102,103,104,105,106,107,108,109,110,111,112,113,114,115,116,117,118,119,120,121,122,123,124,125,126,127,128,129,130,131,132,133,134,135,136,137,138,139,140,141,142,143,144,145,146] (fun n vs wl=>∃ (k : Nat) (us qs : List Nat),vs = [.int .i64 ((k:Int) - 1)] ∧ (cZ w wl) ∧ (fQ wl g1 (us.map jH) 126) ∧ (fQ wl g2 (vs0.map jH) 126) ∧ (fQ wl g3 (qs.map jH) 126) ∧ (k ≤ K) ∧ (us.length = xs.length + 1) ∧ (qs.length = K) ∧ (cJ 4294967296 us) ∧ (cJ 4294967296 qs) ∧ (val 4294967296 us + val 4294967296 qs * val 4294967296 ds = 2 ^ sh * val 4294967296 xs) ∧ (val 4294967296 (us.drop k) < val 4294967296 ds) ∧ (qs.take k = List.replicate k 0) ∧ (n = k)) ?_ ?_)
     ·
      apply Exists.intro;simp only[zQ,zR,zD,zE];exact ⟨K,us,List.replicate K 0,rfl,hX,hB1,hB2,hB3,Nat.le_refl _,hlu,by simp,hdu,fun x hx=>by rw [List.eq_of_mem_replicate hx];decide,by rw [eH,Nat.zero_mul];exact hvu,by rw [hK];exact Ty hS.digs hlu hvu (by omega) (by omega) hs31 (by rw [hvvs,hlvs];exact Qf (by omega) (by omega)),by rw [List.take_of_length_le (by simp)],rfl⟩
     ·
      intro n vs wr hI u;obtain ⟨k,us,qs,rfl,hX,hB1,hB2,hB3,hk,hlu,hlq,hdu,hdq,hI,hH,hz,hn⟩:=hI;simp only[zu,zF,zG];refine aC (fun K18 hK18=>aC (fun K19 hK19=>wp_region_lit (aA (aB) (aA (oR rfl rfl) ?_))));simp only[zz];refine aD (hK19 _ _ ?_);refine cD rfl (fun hc4=>?_) (fun hc4=>?_)
      ·
       obtain ⟨i,rfl⟩ : ∃ i,k = i + 1:=⟨k - 1,by omega⟩
       rw [show (((i + 1 : Nat) : Int) - 1) = (i : Int) by omega];have hi : i + ds.length < us.length:=by omega
       refine wp_skip ?_;refine hK18 _ _ (aC (fun K20 hK20=>wp_block (aC (fun K21 hK21=>wp_region_lit (aA (aB) (aA (aB) (aA (bC rfl bA rfl) ?_)))))));simp only[zz];refine aA (aR rfl rfl (aM (by omega) (by omega))) (aA (aF) ?_);simp only[zz];refine aD ?_;rw [show ((i:Int) + (ds.length:Int)) = ((i + ds.length : Nat) : Int) by omega];refine hK21 _ _ (aC (fun K22 hK22=>?_));have hco1:=hB1.word (show i + ds.length < us.length by omega);have hco2:=hB1.word (show i + ds.length - 1 < us.length by omega);have hb1 : us[i + ds.length] < 4294967296:=hdu _ (List.getElem_mem _);have hb2 : us[i + ds.length - 1] < 4294967296:=hdu _ (List.getElem_mem _);obtain ⟨a3,ha3⟩ : ∃ a3,a3 = us[i + ds.length - 2]:=⟨_,rfl⟩
       have hb3 : a3 < 4294967296:=ha3 ▸ hdu _ (List.getElem_mem _);obtain ⟨U,hU⟩ : ∃ U,U = val 4294967296 (us.drop i):=⟨_,rfl⟩
       refine gQ aP (by kernel_rfl) (aN (aB) (aN (aB) (aN (aL bA aZ rfl rfl (by omega) (by omega) (eM (show _ = i + ds.length by omega))) ?_)));simp only[zz];refine gW rfl (fun _ hE'=>(lies1 (hE'.cell hco1) eD)) ?_;simp only[zz];refine aN (yI rfl rfl (by omega) (rA (n:=32) (by omega) (by omega))) (aN (aB) (aN (aB) ?_));simp only[zz];refine aN (eI rfl rfl (aM (by omega) (by omega))) (aN (aL bA aZ rfl rfl (by omega) (by omega) (eM (show _ = i + ds.length - 1 by omega))) ?_);simp only[zz];refine gW rfl (fun _ hE'=>(lies1 (hE'.cell hco2) eD)) ?_;simp only[zz];refine aN (Ih rfl rfl (Aa (s:=32) (c:=us[i + ds.length]) (by omega) (by omega) (by omega))) (aN (aF) ?_);simp only[zz];refine dN ?_;intro w7 hE;replace hB1:=hB1.ext hE;replace hB2:=hB2.ext hE;replace hB3:=hB3.ext hE;replace hX:=hX.trans hE;clear hE;obtain ⟨two,htwo⟩ : ∃ two : Nat,two = us[i + ds.length - 1] + us[i + ds.length] * 4294967296:=⟨_,rfl⟩
       rw [← htwo];have ht64 : two < 18446744073709551616:=by omega
       obtain ⟨P,hP,f1,f2,f3,f4,f5,f6,f7⟩:=Qg hdu hdvs (by omega) hi hH htwo htop hsec ha3 hU;obtain ⟨q,hq⟩ : ∃ q,q = U / val 4294967296 ds:=⟨_,rfl⟩
       have hq1 : q * val 4294967296 ds ≤ U:=by rw [hq];exact Nat.div_mul_le_self _ _
       have hV0 : 0 < val 4294967296 ds:=by omega
       have hq2 : U < (q + 1) * val 4294967296 ds:=by rw [← Nat.div_lt_iff_lt_mul hV0];omega
       have hqB : q < 4294967296:=by rw [hq,Nat.div_lt_iff_lt_mul hV0];exact f7
       refine hK22 _ _ ?_;refine aC (fun K23 hK23=>?_);refine gQ aP (by kernel_rfl) (aN (aB) (aN (aB) (aN (gE rfl rfl (by omega) (Ac ht64)) ?_)));simp only[zz];refine aN (aB) (aN (aB) (aN (dJ rfl rfl (by omega) kE) ?_));simp only[zz];refine aN (aF) (aN (aF) ?_);simp only[zz];refine dN ?_;intro w8 hE;replace hB1:=hB1.ext hE;replace hB2:=hB2.ext hE;replace hB3:=hB3.ext hE;replace hX:=hX.trans hE;clear hE;refine hK23 _ _ (aC (fun K24 hK24=>wp_block ?_));refine bN [17,18] [104,105,106,107,108,109,110,111,112,113,114,115,116,117,118,119,120,121,122,123,124,125,126,127,128] (fun n vs wl=>∃ (gq rr : Nat),vs = [.int .u64 (gq:Int),.int .u64 (rr:Int)] ∧ (cZ w wl) ∧ (fQ wl g1 (us.map jH) 126) ∧ (fQ wl g2 (vs0.map jH) 126) ∧ (fQ wl g3 (qs.map jH) 126) ∧ (gq * top + rr = two) ∧ (q ≤ gq) ∧ (n = gq)) ?_ ?_
       ·
        apply Exists.intro;simp only[zQ,zR,zD,zE];exact ⟨two / top,two % top,rfl,hX,hB1,hB2,hB3,by rw [Nat.mul_comm];exact Nat.div_add_mod two top,Tv (by omega) f1 f2 hq1 htv,rfl⟩
       ·
        intro n vs wr hI u;obtain ⟨gq,rr,rfl,hX,hB1,hB2,hB3,hgr,hqg,hn3⟩:=hI;simp only[zu,zF,zG];refine aC (fun K25 hK25=>aC (fun K26 hK26=>?_));have hco3:=hB1.word (show i + ds.length - 2 < us.length by omega);rw [← ha3] at hco3;have Yg : gq ≤ two:=Nat.le_trans (Nat.le_mul_of_pos_right gq htv) (by omega);rcases (show 4294967295 < gq ∨ (gq ≤ 4294967295 ∧ 4294967295 < rr) ∨ (gq ≤ 4294967295 ∧ rr ≤ 4294967295) by omega) with hga | ⟨hga,hrr⟩ | ⟨hga,hrr⟩
        ·
         have hqg2 : q < gq:=by omega
         have hco3:=hB1.word (show i + ds.length - 2 < us.length by omega);rw [← ha3] at hco3;have Yg : gq ≤ two:=Nat.le_trans (Nat.le_mul_of_pos_right gq htv) (by omega);refine wp_region_lit (aA (aB) (aA (vB rfl rfl (by omega)) (aA (aB) ?_)));simp only[zz];refine fG rfl ?_;simp only[zz];refine fG rfl ?_;simp only[zz];refine fG rfl ?_;simp only[zz];refine kT rfl ?_;simp only[zz];refine kT rfl ?_;simp only[zz];refine kT rfl ?_;simp only[zz];refine kT rfl ?_;simp only[zz];refine kT rfl ?_;simp only[zz];refine kT rfl ?_;simp only[zz];refine kT rfl ?_;simp only[zz];refine kT rfl ?_;simp only[zz];refine kT rfl ?_;simp only[zz];refine kT rfl ?_;simp only[zz];refine kT rfl ?_;simp only[zz];refine kT rfl ?_;simp only[zz];refine fG rfl ?_;simp only[zz];refine aA (eF rfl) ?_;simp only[zz];refine aD (hK26 _ _ ?_);refine cG rfl (wp_skip ?_);refine hK25 _ _ (wp_block (aC (fun K27 hK27=>wp_region_lit (aA (aB) (aA (eI rfl rfl (eT (by omega) (by omega))) (aA (aF) ?_))))));simp only[zz];refine aD (hK27 _ _ ?_);have hgt2 : rr + top ≤ two:=by have:=Nat.le_mul_of_pos_left top (show 0 < gq by omega);omega
         refine wp_region_lit (aA (aB) (aA (aB) (aA (aR rfl rfl (eT (by omega) (by omega))) ?_)));simp only[zz];refine aA (aF) ?_;simp only[zz];refine aD ?_;obtain ⟨g9,rfl⟩ : ∃ g9,gq = g9 + 1:=⟨gq - 1,by omega⟩
         rw [show (((g9 + 1 : Nat) : Int) - 1) = (g9 : Int) by omega,show ((rr:Int) + (top:Int)) = ((rr + top : Nat) : Int) by omega];simp only[Exit.inBlock,Exit.then];refine ⟨g9,_,?_,rfl,?_,?_⟩
         · omega
         · simp only[zz,zv]
         ·
          simp only[zQ,zR,zD,zE];exact ⟨g9,rr + top,rfl,hX,hB1,hB2,hB3,by rw [Nat.add_mul,Nat.one_mul] at hgr;omega,by omega,rfl⟩
        ·
         have hx : gq * sec ≤ a3 + rr * 4294967296:=Ua (by omega) hsB (by omega);have hco3:=hB1.word (show i + ds.length - 2 < us.length by omega);rw [← ha3] at hco3;have Yg : gq ≤ two:=Nat.le_trans (Nat.le_mul_of_pos_right gq htv) (by omega);refine wp_region_lit (aA (aB) (aA (sF rfl rfl (by omega)) (aA (aB) ?_)));simp only[zz];refine bM rfl (aA (aB) ?_);simp only[zz];refine bM rfl (aA (Tj rfl rfl (by omega)) ?_);simp only[zz];refine bM rfl (aA (aB) ?_);simp only[zz];refine dA rfl ?_;simp only[zz];refine dA rfl ?_;simp only[zz];refine dA rfl ?_;simp only[zz];refine dA rfl ?_;simp only[zz];refine dA rfl ?_;simp only[zz];refine dA rfl ?_;simp only[zz];refine dA rfl ?_;simp only[zz];refine dA rfl ?_;simp only[zz];refine dA rfl ?_;simp only[zz];refine dA rfl ?_;simp only[zz];refine dA rfl ?_;simp only[zz];refine dA rfl ?_;simp only[zz];refine bM rfl (aA (gF rfl) (aA (gF rfl) ?_));simp only[zz];refine aD (hK26 _ _ ?_);refine iT rfl (wp_exit ?_);refine hK24 _ _ (aC (fun K28 hK28=>aC (fun K29 hK29=>?_)));have hNv:=oD hB2 hdv (by omega);rw [← hvs] at hNv;have hNu:=(hB1.nat hdu rfl (by omega)).drop (show i ≤ us.length by omega) rfl;rw [fC,Nat.zero_add,hlu] at hNu;have hU2 : val 4294967296 ((us.drop i).take (ds.length + 1)) = U:=by rw [← wC hdvs (by omega) hH,hU]
         have hgl : gq ≤ q + 1:=Iy f4 f6 hq2 (Ay hgr hx) (by omega);obtain ⟨ge1,ge2⟩:=Eu hq1 hq2 hqg hgl;refine wp_region_lit (aA (aB) (aA (aB) (aA (kC bA aZ rfl rfl (Int.toNat_natCast _) (by omega) (by omega) (tU (by omega))) ?_)));simp only[zz];refine aA (aB) (aA (aB) ?_);simp only[zz];refine bE rfl rfl (Xm _ hNu hNv (by simp;omega) (by omega) (by omega)) ?_;rintro v w9 hE rfl;replace hB1:=hB1.ext hE;replace hB2:=hB2.ext hE;replace hB3:=hB3.ext hE;replace hX:=hX.trans hE;clear hE;simp only[zz];refine aD (hK29 _ _ ?_);refine cD rfl (fun hc6=>?_) (fun hc6=>?_)
         ·
          have hg1 : 0 < gq:=by
           rcases Nat.eq_zero_or_pos gq with h | h
           · rw [h,Nat.mul_zero] at hc6;exact absurd hc6 (Nat.not_lt_zero _)
           · exact h
          have hgq:=ge1 (by rw [← hU2];exact hc6);refine wp_region_lit (aA (aB) (aA (eI rfl rfl (eT (by omega) (by omega))) (aA (aF) ?_)));simp only[zz];refine aD ?_;rw [show ((gq:Int) - 1) = (q:Int) by omega];refine hK28 _ _ (aC (fun K30 hK30=>?_));clear hNv hNu;have hNv:=oD hB2 hdv (by omega);rw [← hvs] at hNv;refine wp_region_lit (aA (aB) (aA (aB) (aA (kC bA aZ rfl rfl (Int.toNat_natCast _) (by omega) (by omega) (tU (by omega))) ?_)));simp only[zz];refine aA (aB) (aA (aB) ?_);simp only[zz];refine wB rfl rfl (Hz _ hB1 hdu (by omega) hNv (by omega) (by omega) hqB (by rw [hU2,Nat.mul_comm];exact hq1)) ?_;clear hB1;rintro v w10 hU hB1;replace hB2:=hB2.upd hU (by first | exact hN2_1 | exact Ne.symm hN1_2);replace hB3:=hB3.upd hU (by first | exact hN3_1 | exact Ne.symm hN1_3);replace hX:=hX.grownUpd hU hG1;clear hU;simp only[zz];refine aD (hK30 _ _ ?_);clear hNv;refine wp_region_lit (aA (aB) (aA (aB) (aA (aB) ?_)));simp only[zz];refine aA (aL bA aZ rfl rfl (by omega) (by omega) (eM (Int.toNat_natCast _))) ?_;simp only[zz];refine cK rfl (by simp only[zz];rfl) (by exact aZ) hB3 (by simp;omega) (by simp [Value.oneCell']) ?_;clear hB3;intro w11 hC hB3;replace hB1:=hB1.chg hC (by first | exact hN1_3 | exact Ne.symm hN3_1);replace hB2:=hB2.chg hC (by first | exact hN2_3 | exact Ne.symm hN3_2);replace hX:=hX.chg hC hG3;clear hC;rw [fE (by omega)] at hB3;refine aD (hK20 _ _ ?_);refine wp_region_lit (aA (aB) (aA (eI rfl rfl (aM (by omega) (by omega))) (aA (aF) ?_)));simp only[zz];refine aD ?_;obtain ⟨r1,r2,r3,r4⟩:=tV hdvs hdu hi hH hU hq1 hq2 hI hz (by omega);simp only[Exit.inBlock,Exit.then];refine ⟨i,_,?_,rfl,?_,?_⟩
          · omega
          · simp only[zz,zv]
          ·
           simp only[zQ,zR,zD,zE];exact ⟨i,laid us i (ds.length + 1) (val 4294967296 ((us.drop i).take (ds.length + 1)) - val 4294967296 ds * q),qs.set i q,rfl,hX,hB1,hB2,hB3,by omega,by rw [r4];exact hlu,by simpa using hlq,tS hdu,hdq.set hqB,r1,r2,r3,rfl⟩
         ·
          have hgq:=ge2 (by rw [← hU2];exact hc6);rw [show (gq:Int) = (q:Int) by omega];refine wp_skip (hK28 _ _ ?_);refine aC (fun K31 hK31=>?_);clear hNv hNu;have hNv:=oD hB2 hdv (by omega);rw [← hvs] at hNv;refine wp_region_lit (aA (aB) (aA (aB) (aA (kC bA aZ rfl rfl (Int.toNat_natCast _) (by omega) (by omega) (tU (by omega))) ?_)));simp only[zz];refine aA (aB) (aA (aB) ?_);simp only[zz];refine wB rfl rfl (Hz _ hB1 hdu (by omega) hNv (by omega) (by omega) hqB (by rw [hU2,Nat.mul_comm];exact hq1)) ?_;clear hB1;rintro v w10 hU hB1;replace hB2:=hB2.upd hU (by first | exact hN2_1 | exact Ne.symm hN1_2);replace hB3:=hB3.upd hU (by first | exact hN3_1 | exact Ne.symm hN1_3);replace hX:=hX.grownUpd hU hG1;clear hU;simp only[zz];refine aD (hK31 _ _ ?_);clear hNv;refine wp_region_lit (aA (aB) (aA (aB) (aA (aB) ?_)));simp only[zz];refine aA (aL bA aZ rfl rfl (by omega) (by omega) (eM (Int.toNat_natCast _))) ?_;simp only[zz];refine cK rfl (by simp only[zz];rfl) (by exact aZ) hB3 (by simp;omega) (by simp [Value.oneCell']) ?_;clear hB3;intro w11 hC hB3;replace hB1:=hB1.chg hC (by first | exact hN1_3 | exact Ne.symm hN3_1);replace hB2:=hB2.chg hC (by first | exact hN2_3 | exact Ne.symm hN3_2);replace hX:=hX.chg hC hG3;clear hC;rw [fE (by omega)] at hB3;refine aD (hK20 _ _ ?_);refine wp_region_lit (aA (aB) (aA (eI rfl rfl (aM (by omega) (by omega))) (aA (aF) ?_)));simp only[zz];refine aD ?_;obtain ⟨r1,r2,r3,r4⟩:=tV hdvs hdu hi hH hU hq1 hq2 hI hz (by omega);simp only[Exit.inBlock,Exit.then];refine ⟨i,_,?_,rfl,?_,?_⟩
          · omega
          · simp only[zz,zv]
          ·
           simp only[zQ,zR,zD,zE];exact ⟨i,laid us i (ds.length + 1) (val 4294967296 ((us.drop i).take (ds.length + 1)) - val 4294967296 ds * q),qs.set i q,rfl,hX,hB1,hB2,hB3,by omega,by rw [r4];exact hlu,by simpa using hlq,tS hdu,hdq.set hqB,r1,r2,r3,rfl⟩
        ·
         have hco3:=hB1.word (show i + ds.length - 2 < us.length by omega);rw [← ha3] at hco3;have Yg : gq ≤ two:=Nat.le_trans (Nat.le_mul_of_pos_right gq htv) (by omega);refine wp_region_lit (aA (aB) (aA (sF rfl rfl (by omega)) (aA (aB) ?_)));simp only[zz];refine bM rfl (aA (aB) ?_);simp only[zz];refine bM rfl (aA (Ti rfl rfl (by omega)) ?_);simp only[zz];refine bM rfl (aA (aB) ?_);simp only[zz];refine bM rfl (aA (aB) ?_);simp only[zz];refine bM rfl (aA (aB) ?_);simp only[zz];refine bM rfl (aA (eO rfl rfl (Yv (Nat.lt_of_le_of_lt (To (by omega) hsB) (by decide)))) ?_);simp only[zz];refine bM rfl (aA (aB) ?_);simp only[zz];refine bM rfl (aA (yI rfl rfl (by omega) (rA (n:=32) (by omega) (by omega))) ?_);simp only[zz];refine bM rfl (aA (aB) ?_);simp only[zz];refine bM rfl (aA (aB) ?_);simp only[zz];refine bM rfl (aA (eI rfl rfl (aM (by omega) (by omega))) ?_);simp only[zz];refine bM rfl (aA (aL bA aZ rfl rfl (by omega) (by omega) (eM (show _ = i + ds.length - 2 by omega))) ?_);simp only[zz];refine bM rfl (aI rfl (lies1 hco3 eD) ?_);simp only[zz];refine bM rfl (aA (Ih rfl rfl (Aa (s:=32) (c:=rr) (by omega) (by omega) (by omega))) ?_);simp only[zz];refine bM rfl (aA (oQ rfl rfl) ?_);simp only[zz];refine bM rfl (aA (eF rfl) (aA (gF rfl) ?_));simp only[zz];refine aD (hK26 _ _ ?_);refine cD rfl (fun hc5=>?_) (fun hc5=>?_)
         ·
          have hqg2 : q < gq:=Tw hP f3 f5 hq1 (Ly hgr (by omega));refine wp_skip (hK25 _ _ ?_);refine wp_block (aC (fun K32 hK32=>wp_region_lit (aA (aB) (aA (eI rfl rfl (eT (by omega) (by omega))) (aA (aF) ?_)))));simp only[zz];refine aD (hK32 _ _ ?_);have hgt2 : rr + top ≤ two:=by have:=Nat.le_mul_of_pos_left top (show 0 < gq by omega);omega
          refine wp_region_lit (aA (aB) (aA (aB) (aA (aR rfl rfl (eT (by omega) (by omega))) ?_)));simp only[zz];refine aA (aF) ?_;simp only[zz];refine aD ?_;obtain ⟨g9,rfl⟩ : ∃ g9,gq = g9 + 1:=⟨gq - 1,by omega⟩
          rw [show (((g9 + 1 : Nat) : Int) - 1) = (g9 : Int) by omega,show ((rr:Int) + (top:Int)) = ((rr + top : Nat) : Int) by omega];simp only[Exit.inBlock,Exit.then];refine ⟨g9,_,?_,rfl,?_,?_⟩
          · omega
          · simp only[zz,zv]
          ·
           simp only[zQ,zR,zD,zE];exact ⟨g9,rr + top,rfl,hX,hB1,hB2,hB3,by rw [Nat.add_mul,Nat.one_mul] at hgr;omega,by omega,rfl⟩
         ·
          have hx : gq * sec ≤ a3 + rr * 4294967296:=by omega
          refine wp_exit ?_;refine hK24 _ _ (aC (fun K33 hK33=>aC (fun K34 hK34=>?_)));have hNv:=oD hB2 hdv (by omega);rw [← hvs] at hNv;have hNu:=(hB1.nat hdu rfl (by omega)).drop (show i ≤ us.length by omega) rfl;rw [fC,Nat.zero_add,hlu] at hNu;have hU2 : val 4294967296 ((us.drop i).take (ds.length + 1)) = U:=by rw [← wC hdvs (by omega) hH,hU]
          have hgl : gq ≤ q + 1:=Iy f4 f6 hq2 (Ay hgr hx) (by omega);obtain ⟨ge1,ge2⟩:=Eu hq1 hq2 hqg hgl;refine wp_region_lit (aA (aB) (aA (aB) (aA (kC bA aZ rfl rfl (Int.toNat_natCast _) (by omega) (by omega) (tU (by omega))) ?_)));simp only[zz];refine aA (aB) (aA (aB) ?_);simp only[zz];refine bE rfl rfl (Xm _ hNu hNv (by simp;omega) (by omega) (by omega)) ?_;rintro v w9 hE rfl;replace hB1:=hB1.ext hE;replace hB2:=hB2.ext hE;replace hB3:=hB3.ext hE;replace hX:=hX.trans hE;clear hE;simp only[zz];refine aD (hK34 _ _ ?_);refine cD rfl (fun hc6=>?_) (fun hc6=>?_)
          ·
           have hg1 : 0 < gq:=by
            rcases Nat.eq_zero_or_pos gq with h | h
            · rw [h,Nat.mul_zero] at hc6;exact absurd hc6 (Nat.not_lt_zero _)
            · exact h
           have hgq:=ge1 (by rw [← hU2];exact hc6);refine wp_region_lit (aA (aB) (aA (eI rfl rfl (eT (by omega) (by omega))) (aA (aF) ?_)));simp only[zz];refine aD ?_;rw [show ((gq:Int) - 1) = (q:Int) by omega];refine hK33 _ _ (aC (fun K35 hK35=>?_));clear hNv hNu;have hNv:=oD hB2 hdv (by omega);rw [← hvs] at hNv;refine wp_region_lit (aA (aB) (aA (aB) (aA (kC bA aZ rfl rfl (Int.toNat_natCast _) (by omega) (by omega) (tU (by omega))) ?_)));simp only[zz];refine aA (aB) (aA (aB) ?_);simp only[zz];refine wB rfl rfl (Hz _ hB1 hdu (by omega) hNv (by omega) (by omega) hqB (by rw [hU2,Nat.mul_comm];exact hq1)) ?_;clear hB1;rintro v w10 hU hB1;replace hB2:=hB2.upd hU (by first | exact hN2_1 | exact Ne.symm hN1_2);replace hB3:=hB3.upd hU (by first | exact hN3_1 | exact Ne.symm hN1_3);replace hX:=hX.grownUpd hU hG1;clear hU;simp only[zz];refine aD (hK35 _ _ ?_);clear hNv;refine wp_region_lit (aA (aB) (aA (aB) (aA (aB) ?_)));simp only[zz];refine aA (aL bA aZ rfl rfl (by omega) (by omega) (eM (Int.toNat_natCast _))) ?_;simp only[zz];refine cK rfl (by simp only[zz];rfl) (by exact aZ) hB3 (by simp;omega) (by simp [Value.oneCell']) ?_;clear hB3;intro w11 hC hB3;replace hB1:=hB1.chg hC (by first | exact hN1_3 | exact Ne.symm hN3_1);replace hB2:=hB2.chg hC (by first | exact hN2_3 | exact Ne.symm hN3_2);replace hX:=hX.chg hC hG3;clear hC;rw [fE (by omega)] at hB3;refine aD (hK20 _ _ ?_);refine wp_region_lit (aA (aB) (aA (eI rfl rfl (aM (by omega) (by omega))) (aA (aF) ?_)));simp only[zz];refine aD ?_;obtain ⟨r1,r2,r3,r4⟩:=tV hdvs hdu hi hH hU hq1 hq2 hI hz (by omega);simp only[Exit.inBlock,Exit.then];refine ⟨i,_,?_,rfl,?_,?_⟩
           · omega
           · simp only[zz,zv]
           ·
            simp only[zQ,zR,zD,zE];exact ⟨i,laid us i (ds.length + 1) (val 4294967296 ((us.drop i).take (ds.length + 1)) - val 4294967296 ds * q),qs.set i q,rfl,hX,hB1,hB2,hB3,by omega,by rw [r4];exact hlu,by simpa using hlq,tS hdu,hdq.set hqB,r1,r2,r3,rfl⟩
          ·
           have hgq:=ge2 (by rw [← hU2];exact hc6);rw [show (gq:Int) = (q:Int) by omega];refine wp_skip (hK33 _ _ ?_);refine aC (fun K36 hK36=>?_);clear hNv hNu;have hNv:=oD hB2 hdv (by omega);rw [← hvs] at hNv;refine wp_region_lit (aA (aB) (aA (aB) (aA (kC bA aZ rfl rfl (Int.toNat_natCast _) (by omega) (by omega) (tU (by omega))) ?_)));simp only[zz];refine aA (aB) (aA (aB) ?_);simp only[zz];refine wB rfl rfl (Hz _ hB1 hdu (by omega) hNv (by omega) (by omega) hqB (by rw [hU2,Nat.mul_comm];exact hq1)) ?_;clear hB1;rintro v w10 hU hB1;replace hB2:=hB2.upd hU (by first | exact hN2_1 | exact Ne.symm hN1_2);replace hB3:=hB3.upd hU (by first | exact hN3_1 | exact Ne.symm hN1_3);replace hX:=hX.grownUpd hU hG1;clear hU;simp only[zz];refine aD (hK36 _ _ ?_);clear hNv;refine wp_region_lit (aA (aB) (aA (aB) (aA (aB) ?_)));simp only[zz];refine aA (aL bA aZ rfl rfl (by omega) (by omega) (eM (Int.toNat_natCast _))) ?_;simp only[zz];refine cK rfl (by simp only[zz];rfl) (by exact aZ) hB3 (by simp;omega) (by simp [Value.oneCell']) ?_;clear hB3;intro w11 hC hB3;replace hB1:=hB1.chg hC (by first | exact hN1_3 | exact Ne.symm hN3_1);replace hB2:=hB2.chg hC (by first | exact hN2_3 | exact Ne.symm hN3_2);replace hX:=hX.chg hC hG3;clear hC;rw [fE (by omega)] at hB3;refine aD (hK20 _ _ ?_);refine wp_region_lit (aA (aB) (aA (eI rfl rfl (aM (by omega) (by omega))) (aA (aF) ?_)));simp only[zz];refine aD ?_;obtain ⟨r1,r2,r3,r4⟩:=tV hdvs hdu hi hH hU hq1 hq2 hI hz (by omega);simp only[Exit.inBlock,Exit.then];refine ⟨i,_,?_,rfl,?_,?_⟩
           · omega
           · simp only[zz,zv]
           ·
            simp only[zQ,zR,zD,zE];exact ⟨i,laid us i (ds.length + 1) (val 4294967296 ((us.drop i).take (ds.length + 1)) - val 4294967296 ds * q),qs.set i q,rfl,hX,hB1,hB2,hB3,by omega,by rw [r4];exact hlu,by simpa using hlq,tS hdu,hdq.set hqB,r1,r2,r3,rfl⟩
      ·
       obtain rfl : k = 0:=by omega
       rw [List.drop_zero] at hH;obtain ⟨dq,dr⟩:=Tz (X:=val 4294967296 xs) (Y:=val 4294967296 ys) (p:=2 ^ sh) (u:=val 4294967296 us) (q:=val 4294967296 qs) (Nat.pow_pos (by omega)) (by rw [← hvvs];exact hI) (by rw [← hvvs];exact hH);refine wp_exit (hK16 _ _ ?_);refine aC (fun K37 hK37=>wp_region_lit (aA (aB) ?_));simp only[zz];refine bE rfl rfl (yE _ (hB3.nat hdq (by omega) (by omega))) ?_;rintro v w7 hE ⟨A5,c5,rfl,hN5⟩;replace hB1:=hB1.ext hE;replace hX:=hX.trans hE;clear hE;simp only[zz];refine aA (aB) ?_;simp only[zz];refine bE rfl rfl (yE _ (hB1.nat hdu (by omega) (by omega))) ?_;rintro v w8 hE ⟨A6,c6,rfl,hN6⟩
       (try replace hN5:=hN5.ext hE);replace hX:=hX.trans hE
       clear hE;simp only[zz];refine aA (aB) ?_;simp only[zz];refine bE rfl rfl (Ss _ hN6 (Nat.le_trans (nG hdu) (by omega)) hs31) ?_;rintro v w9 hE ⟨A7,c7,rfl,hN7⟩
       (try replace hN5:=hN5.ext hE);replace hX:=hX.trans hE
       clear hE;simp only[zz];refine aA (aF) (aA (aF) ?_);simp only[zz];refine aD (hK37 _ _ ?_);refine wp_ret ?_;try simp only[Exit.inBlock,Exit.then]
       refine pS rfl rfl rfl ?_;try simp only[zD,zE]
       exact ⟨_,rfl,hX,_,_,rfl,by rw [← dq];exact ⟨A5,c5,rfl,hN5⟩,by rw [← dr];simp only[cE] at hN7 ⊢;exact ⟨A7,c7,rfl,hN7⟩⟩
end Go.Proofs.YtfohfflkhpfjeaaGreatDoor
namespace Go.Proofs.YtfohfflkhpfjeaaGreatDoor
open Go.Proofs.Tryz
open Go.RowKit Go.Lith
set_option maxRecDepth 100000
attribute [local irreducible] wpList wpQuiet dD Code.wp
theorem Di {neg : Bool} {s : ByteArray} (w : World) (hs : s.size ≤ 1000000000000) : eE prog 114 [.agg #[.bool neg,.string s]] w (fS (Yw s)):=by
 skip
 refine ⟨abr,?_⟩;have hX:=cZ.refl w
 go_enter func114,ntmps114
 refine aC (fun K1 hK1=>wp_region_lit ?_);refine lX (by simp only[zz];rfl) ?_;intro w1 g1 hE hg1 hB1;have hG1:=Nat.le_trans hX.size hg1;replace hX:=hX.trans hE;clear hE hg1;simp only[zz];refine aA (aF) ?_;simp only[zz];refine aD (hK1 _ _ ?_);refine aC (fun K2 hK2=>wp_region_lit (aA (aJ (c:=0) gR rfl oY rfl rfl) ?_));simp only[zz];refine aI rfl (hB1.lies1 wK rfl) ?_;simp only[zz];refine aA (nZ rfl oO rfl) (aA (aR rfl rfl (aM (by omega) (by omega))) (aA (eI rfl rfl (aM (by omega) (by omega))) ?_));simp only[zz];rw [show ((s.size : Int) + 4 - 1) = ((s.size + 3 : Nat) : Int) by omega];refine aA (gE rfl rfl (by omega) (lQ (n:=4) (by omega))) ?_;simp only[zz];obtain ⟨K,hK⟩ : ∃ K,K = (s.size + 3) / 4:=⟨_,rfl⟩
 rw [← hK];refine kU bA kV rfl rfl rfl (show _ = K by omega) (show _ = K by omega) (by omega) (by omega) (by omega) (by omega) ?_;intro w2 g2 hE hg2 hB2;have hG2:=Nat.le_trans hX.size hg2;have hN2_1 : g2 ≠ g1:=Nat.ne_of_gt (Nat.lt_of_lt_of_le hB1.lt hg2);replace hB1:=hB1.ext hE;replace hX:=hX.trans hE;clear hE hg2;simp only[zz];refine aA (aF) ?_;simp only[zz];refine aD ?_;rw [fJ] at hB2;refine hK2 _ _ (aC (fun K3 hK3=>aC (fun K4 hK4=>wp_region_lit (aA (aJ (c:=0) gR rfl oY rfl rfl) ?_))));simp only[zz];refine aI rfl (hB1.lies1 wK rfl) ?_;simp only[zz];refine aA (nZ rfl oO rfl) (aA (aB) ?_);simp only[zz];refine aD (hK4 _ _ ?_);refine wp_block (bN [16] [4,5,17,18,19,20,21,22,23,24,25,26,27,28,29,30,31,32,33,34,35,36,37,38,39,40,41] (fun n vs wl=>∃ (i : Nat) (os : List Nat),vs = [.int .i64 (i:Int)] ∧ (cZ w wl) ∧ (fQ wl g1 [.bool neg,.string s] 65) ∧ (fQ wl g2 (os.map jH) 126) ∧ (i ≤ s.size) ∧ (os.length = K) ∧ (cJ 4294967296 os) ∧ (∀ (j : Nat) (h : j < os.length),256 ^ (s.size - i - 4 * j) ∣ os[j]) ∧ (val 4294967296 os = 256 ^ (s.size - i) * val 256 ((kX s).drop (s.size - i))) ∧ (n = s.size - i)) ?_ ?_)
 ·
  apply Exists.intro;simp only[zQ,zR,zD,zE];exact ⟨0,List.replicate K 0,rfl,hX,hB1,hB2,by omega,by simp,fun x hx=>by rw [List.eq_of_mem_replicate hx];decide,fun j h=>by rw [List.getElem_replicate];exact Nat.dvd_zero _,by rw [eH,Uf (by rw [pF];omega),Nat.mul_zero],rfl⟩
 ·
  intro n vs wr hI u;obtain ⟨i,os,rfl,hX,hB1,hB2,hi,hlo,hd,hdv,hv,hn⟩:=hI;simp only[zu,zF,zG];refine aC (fun K5 hK5=>wp_region_lit (aA (cS rfl rfl) ?_));simp only[zz];refine aD (hK5 _ _ ?_);refine aC (fun K6 hK6=>?_);refine cD rfl (fun hc1=>?_) (fun hc1=>?_)
  ·
   refine wp_skip ?_;refine hK6 _ _ (aC (fun K7 hK7=>wp_block (aC (fun K8 hK8=>wp_region_lit (aA (aB) (aA (aF) ?_))))));simp only[zz];refine aD (hK8 _ _ ?_);refine aC (fun K9 hK9=>wp_region_lit (aA (aJ (c:=0) gR rfl oY rfl rfl) ?_));simp only[zz];refine aI rfl (hB1.lies1 wK rfl) ?_;simp only[zz];refine aA (nZ rfl oO rfl) (aA (eI rfl rfl (aM (by omega) (by omega))) (aA (aB) ?_));simp only[zz];refine aA (eI rfl rfl (aM (by omega) (by omega))) (aA (aF) ?_);simp only[zz];refine aD ?_;obtain ⟨p,hp⟩ : ∃ p,p + 1 + i = s.size:=⟨s.size - 1 - i,by omega⟩
   rw [show ((s.size : Int) - 1 - (i : Int)) = (p : Int) by omega];refine hK9 _ _ ?_;obtain ⟨b,hb,hpl,hbp⟩:=vC hp;have hco:=hB2.word (show p / 4 < os.length by omega);obtain ⟨f1,f2,f3,f4⟩:=Qh (r:=p % 4) (j:=p / 4) hpl (by omega) (by omega) (by omega) hd (yJ s) (by rw [show p + 1 = s.size - i by omega];exact hdv) (by rw [show p + 1 = s.size - i by omega];exact hv);rw [hbp,Az] at f1 f3 f4;have hb256 : b.toNat < 256:=b.toNat_lt;have f5 : b.toNat * 2 ^ (8 * (p % 4)) < 2 ^ (8 * (p % 4 + 1)):=by
    rw [show 8 * (p % 4 + 1) = 8 + 8 * (p % 4) by omega,Nat.pow_add];exact Nat.mul_lt_mul_of_pos_right hb256 (Nat.pow_pos (by omega))
   obtain ⟨c,f6⟩ : ∃ c,os[p / 4] = 2 ^ (8 * (p % 4 + 1)) * c:=by
    obtain ⟨c,hc⟩:=f2;exact ⟨c,by rw [hc,Az]⟩
   refine gV 16 aP (by kernel_rfl) ?_;simp only[zy];refine aN (aB) (aN (aB) (aN (gE rfl rfl (by omega) (lQ (n:=4) (by omega))) ?_));simp only[zz];refine aN (aL bA aZ rfl rfl (by omega) (by omega) (eM (show _ = p / 4 by omega))) ?_;simp only[zz];refine gW rfl (fun _ hE'=>(lies1 (hE'.cell hco) eD)) ?_;simp only[zz];refine aN (aJ (c:=0) gR rfl oY rfl rfl) ?_;simp only[zz];refine gW rfl (fun _ hE'=>((hB1.ext hE').lies1 wK rfl)) ?_;simp only[zz];refine aN (aB) ?_;simp only[zz];refine aN ((mD oO rfl rfl (by omega) (by rw [Int.toNat_natCast];exact hb))) ?_;simp only[zz];refine aN (jM pG Ej rfl (eT (by omega) (by omega))) (aN (aB) (aN (dJ rfl rfl (by omega) (kE (n:=4))) ?_));simp only[zz];refine aN (eO rfl rfl ((aM (by omega) (by omega)).trans (show (8 : Int) * ((p % 4 : Nat) : Int) = ((8 * (p % 4) : Nat) : Int) by omega))) (aN (yI rfl rfl (by omega) (rA (n:=8 * (p % 4)) (by omega) (by omega))) (aN (Ih rfl rfl ((Aa (s:=8 * (p % 4 + 1)) (a:=b.toNat * 2 ^ (8 * (p % 4))) (b:=os[p / 4]) f5 f6 (by omega)).trans (show (((b.toNat * 2 ^ (8 * (p % 4))) + os[p / 4] : Nat) : Int) = ((os[p / 4] + b.toNat * 2 ^ (8 * (p % 4)) : Nat) : Int) by omega))) ?_));simp only[zz];refine aN (aL bA aZ rfl rfl (by omega) (by omega) (eM (show _ = p / 4 by omega))) ?_;simp only[zz];refine dN ?_;intro w3 hE;replace hB1:=hB1.ext hE;replace hB2:=hB2.ext hE;replace hX:=hX.trans hE;clear hE;refine cK rfl (by simp only[zz];rfl) (by exact aZ) hB2 (by simp;omega) (by simp [Value.oneCell']) ?_;clear hB2;intro w4 hC hB2;replace hB1:=hB1.chg hC (by first | exact hN1_2 | exact Ne.symm hN2_1);replace hX:=hX.chg hC hG2;clear hC;rw [fE (by omega)] at hB2;refine aD (hK7 _ _ ?_);refine wp_region_lit (aA (aR rfl rfl (aM (by omega) (by omega))) (aA (aB) ?_));simp only[zz];refine aD ?_;rw [show ((i:Int) + 1) = ((i + 1 : Nat) : Int) by omega];simp only[Exit.inBlock,Exit.then];refine ⟨s.size - (i + 1),_,?_,rfl,?_,?_⟩
   · omega
   · simp only[zz,zv]
   ·
    simp only[zQ,zR,zD,zE];exact ⟨i + 1,os.set (p / 4) (os[p / 4] + b.toNat * 2 ^ (8 * (p % 4))),rfl,hX,hB1,hB2,by omega,by simpa using hlo,hd.set f1,by rw [show s.size - (i + 1) = p by omega];exact f3,by rw [show s.size - (i + 1) = p by omega];exact f4,rfl⟩
  ·
   refine wp_exit ?_;refine hK3 _ _ (aC (fun K10 hK10=>?_));obtain rfl : i = s.size:=by omega
   refine wp_region_lit (aA (aB) ?_);simp only[zz];refine bE rfl rfl (pO _ (hB2.nat hd (by omega) (by omega))) ?_;rintro v w3 hE rfl;replace hB2:=hB2.ext hE;replace hX:=hX.trans hE;clear hE;simp only[zz];refine aA (aF) ?_;simp only[zz];refine aD (hK10 _ _ ?_);refine wp_ret ?_;try simp only[Exit.inBlock,Exit.then]
   refine bP rfl rfl ?_;try simp only[zD,zE]
   exact ⟨_,rfl,hX,fS.of_trim (hB2.nat hd (n:=K) (by omega) (by omega)) (by rw [hv,Nat.sub_self,Nat.pow_zero,Nat.one_mul,List.drop_zero];rfl)⟩
end Go.Proofs.YtfohfflkhpfjeaaGreatDoor
namespace Go.Proofs.YtfohfflkhpfjeaaGreatDoor
open Go.Proofs.Tryz
open Go.RowKit Go.Lith
attribute [local go_sem] Oper.semAt_some
def qT (n₀ Bs : Nat) (W W' : World) : Prop:=Below n₀ W W' ∧ W'.heap[Bs]? = W.heap[Bs]?
theorem qT.refl (n₀ Bs : Nat) (W : World) : qT n₀ Bs W W:=⟨Below.refl _ _,rfl⟩
theorem qT.trans {n₀ Bs : Nat} {A B C : World} (h : qT n₀ Bs A B) (k : qT n₀ Bs B C) : qT n₀ Bs A C:=⟨h.1.trans k.1,k.2.trans h.2⟩
theorem qT.box {n₀ Bs : Nat} {A B : World} (h : qT n₀ Bs A B) {v : Value} (hc : A.cell? ⟨Bs,0,none⟩ = some v) : B.cell? ⟨Bs,0,none⟩ = some v:=(World.cell?_of_block h.2).trans hc
set_option maxRecDepth 100000 in
theorem Xn (F : Fence) (n : Nat) (h7 : F.fn 143) (hro : F.round = none) (hn : 1 ≤ n) (l Bs n₀ cap : Nat) (a : Addr) (xs : List Nat) (hreach : xs.length * 8 ≤ 140737488351232) (hb : a.block < n₀) (J Jx : List (Nat × Nat) → World → Prop)
 (hY : ∀ pre x W,J pre W → pre.length < xs.length → YieldAt F (n - 1) prog l #[.int .i64 (x.1 : Int),.int .u64 (x.2 : Int)] W fun e W' =>
  (e = .returned (.bool true) ∧ J (pre ++ [x]) W' ∧ qT n₀ Bs W W') ∨ (e = .returned (.bool false) ∧ Jx (pre ++ [x]) W'))
 (W : World) (hBs : W.cell? ⟨Bs,0,none⟩ = some (.slice (some a) xs.length cap)) (hc : ∀ j (h : j < xs.length),W.cell? (a.add j) = some (.int .u64 (xs[j] : Nat))) (h0 : J [] W) :
 CallsIn F n prog 143 #[.func (.yield l) #[] #[],.pointer (some ⟨Bs,0,none⟩)] W fun e W'=>(∃ v,e = .returned v) ∧
  ((∃ ys : List (Nat × Nat),ys.map Prod.snd = xs.reverse ∧ J ys W') ∨ (∃ pre,True ∧ Jx pre W')):=by
 refine callsIn_of_wp func143 rfl h7 ?_ hro;simp only[ntmps143,List.size_toArray,List.length_cons,List.length_nil,Nat.reduceAdd,Nat.reduceSub,Array.replicate_succ,Array.replicate_zero,List.push_toArray,List.append_toArray,List.nil_append,List.cons_append]
 gi_wp2
 gi_loopw [3] (fun i wr=>∃ (k : Nat) (pre : List (Nat × Nat)),k ≤ xs.length ∧ i = .int .i64 ((k : Int) - 1) ∧ pre.length = xs.length - k ∧ pre.map Prod.snd = (xs.drop k).reverse ∧ J pre wr ∧ qT n₀ Bs W wr)
  (fun i _=>(intOf i + 1).toNat)
 case atStart=>exact ⟨xs.length,[],Nat.le_refl _,rfl,by simp,by simp,h0,qT.refl _ _ _⟩
 case round =>
  obtain ⟨k,pre,hk,rfl,hpl,hpre,hJs,hnx⟩:=hrel;have hBw : wr.cell? ⟨Bs,0,none⟩ = some (.slice (some a) xs.length cap):=hnx.box hBs;by_cases hk0 : 0 < k
  · have hlt : k - 1 < xs.length:=by omega
    have hcx : wr.cell? (a.add (k - 1)) = some (.int .u64 ((xs[k - 1] : Nat) : Int)):=(hnx.1.cell (by rw [mE];exact hb)).trans (hc _ hlt);obtain ⟨fn,tmps,assign,body,hy,hR⟩:=hY pre (k - 1,xs[k - 1]) wr hJs (by omega);dsimp only at hy;obtain ⟨j,rfl⟩ : ∃ j,k = j + 1:=⟨k - 1,by omega⟩
    rw [show (((j + 1 : Nat) : Int) - 1) = (j : Int) by omega];simp only[Nat.add_sub_cancel] at hy hR hcx hlt
    gi_wp2
    refine hR.mono ?_;rintro e W3 (⟨rfl,hJ3,hk3⟩ | ⟨rfl,hJx3⟩)
    · gi_wp2
      go_roundw
      case rel=>exact ⟨j,pre ++ [(j,xs[j])],by omega,by simp,by simp;omega,by rw [List.drop_eq_getElem_cons hlt,List.reverse_cons,List.map_append,hpre];rfl,hJ3,hnx.trans hk3⟩
      case measure=>simp [intOf]
    · gi_wp2
      refine bodyPost_ret (results_none rfl _ _ _) rfl ?_;exact ⟨⟨_,rfl⟩,.inr ⟨_,trivial,hJx3⟩⟩
  · obtain rfl : k = 0:=by omega
    gi_wp2
    go_end0
    exact ⟨⟨_,rfl⟩,.inl ⟨pre,by rw [hpre];rfl,hJs⟩⟩
set_option maxRecDepth 100000 in
theorem Ia (F : Fence) (n : Nat) (h7 : F.fn 143) (hro : F.round = none) (l Bs cap : Nat) (A : Option Addr) (J : List (Nat × Nat) → World → Prop) (W : World) (hBs : W.cell? ⟨Bs,0,none⟩ = some (.slice A 0 cap)) (h0 : J [] W) :
 CallsIn F n prog 143 #[.func (.yield l) #[] #[],.pointer (some ⟨Bs,0,none⟩)] W fun e W'=>(∃ v,e = .returned v) ∧ J [] W':=by
 refine callsIn_of_wp func143 rfl h7 ?_ hro;simp only[ntmps143,List.size_toArray,List.length_cons,List.length_nil,Nat.reduceAdd,Nat.reduceSub,Array.replicate_succ,Array.replicate_zero,List.push_toArray,List.append_toArray,List.nil_append,List.cons_append]
 gi_wp2
 gi_loopw [3] (fun i wr=>i = .int .i64 (-1) ∧ J [] wr) (fun _ _=>0)
 case atStart=>exact ⟨rfl,h0⟩
 case round =>
  obtain ⟨rfl,hJs⟩:=hrel
  gi_wp2
  go_end0
  exact ⟨⟨_,rfl⟩,hJs⟩
theorem aap (F : Fence) (n : Nat) (h5 : F.fn 137) (hro : F.round = none) (a : Option Addr) (len cap : Nat) (w : World) :
 CallsIn F n prog 137 #[.slice a len cap] w fun e w'=>e = .returned (.func (.func 143) #[] #[.pointer (some ⟨w.heap.size,0,none⟩)]) ∧ w' = w.alloc (.cells #[.slice a len cap] 157):=by
 refine callsIn_of_wp func137 rfl h5 ?_ hro;simp only[ntmps137,List.size_toArray,List.length_cons,List.length_nil,Nat.reduceAdd,Nat.reduceSub,Array.replicate_succ,Array.replicate_zero,List.push_toArray,List.append_toArray,List.nil_append,List.cons_append]
 gi_wp2
 go_ret
 exact ⟨rfl,rfl⟩
theorem Nz (F : Fence) (n : Nat) (h7 : F.fn 143) (hro : F.round = none) (hn : 1 ≤ n) (Bs n₀ cap : Nat) (A : Option Addr) (xs : List Nat) (hreach : xs.length * 8 ≤ 140737488351232) (w : World) (hBs : Bs < w.heap.size) (hn₀ : n₀ ≤ w.heap.size)
 (hc : w.cell? ⟨Bs,0,none⟩ = some (.slice A xs.length cap)) (hI : ∀ (i x : Nat),xs[i]? = some x → ∃ a,A = some a ∧ w.cell? (a.add i) = some (.int .u64 (x : Int))) (hA : ∀ a,0 < xs.length → A = some a → a.block < n₀) :
 SeqStopsK F n prog 143 #[.pointer (some ⟨Bs,0,none⟩)] (fun x : Nat × Nat=>#[Value.int .i64 (x.1 : Int),Value.int .u64 (x.2 : Int)]) (qT n₀ Bs) (fun ys=>ys.map Prod.snd = xs.reverse) (fun _=>True) xs.length w:=fun l J Jx W hW _ _ hY h0=>by
 have hc':=(hW.cell (p:=⟨Bs,0,none⟩) hBs).trans hc;rcases Nat.eq_zero_or_pos xs.length with h | h
 · obtain rfl : xs = []:=List.eq_nil_of_length_eq_zero h
   exact (Ia F n h7 hro l Bs cap A J W hc' h0).mono fun e W' ⟨he,hj⟩=>⟨he,.inl ⟨[],rfl,hj⟩⟩
 · obtain ⟨a,rfl,_⟩:=hI 0 xs[0] (List.getElem?_eq_getElem h)
   refine Xn F n h7 hro hn l Bs n₀ cap a xs hreach (hA a h rfl) J Jx hY W hc' (fun j hj=>?_) h0;obtain ⟨a',e,hcl⟩:=hI j xs[j] (List.getElem?_eq_getElem hj);cases e;exact (hW.cell (by rw [mE];exact Nat.lt_of_lt_of_le (hA a h rfl) hn₀)).trans hcl
theorem acf {A : Option Addr} {n cap : Nat} (w : World) : eE prog 137 [.slice A n cap] w (fun v w'=>∃ g,v = .func (.func 143) #[] #[.pointer (some ⟨g,0,none⟩)] ∧ w.heap.size ≤ g ∧ fQ w' g [.slice A n cap] 157):=by
 refine ⟨abL,(callsIn_wide (n:=2)).1 ((aap Fence.wide 2 trivial rfl A n cap w).mono ?_)⟩;rintro e w' ⟨rfl,rfl⟩;exact ⟨_,rfl,(cZ.refl w).alloc _,_,rfl,Nat.le_refl _,gS w _ _⟩
end Go.Proofs.YtfohfflkhpfjeaaGreatDoor
namespace Go.Proofs.YtfohfflkhpfjeaaGreatDoor
open Go.Proofs.Tryz
open Go.RowKit Go.Lith
set_option maxRecDepth 100000
attribute [local irreducible] wpList wpQuiet dD Code.wp
attribute [local go_sem] Oper.semAt_some
theorem aaq : (prog.info? 5).map (fun i=>(i.zero,i.size,i.bytes)) = some (some (.int .u8 0),1,1):=by kernel_rfl
theorem Dj {W w1 : World} {tmp : Obj} {v v' : Value} {base size k g g3 : Nat} {e t : TypeId} {xs cs : List Value} (hB : fQ W g cs t) (hte : t ≠ e) (hr : W.ownsRow base e size v k xs) (hg : (W.alloc tmp).grownBy w1 v.ownBlock) (hne : g ≠ g3) : (w1.setCell ⟨g3,0,none⟩ v').heap[g]? = W.heap[g]?:=by
 have h1 : some g ≠ v.ownBlock:=by
  rcases hr.2 with ⟨rfl,_⟩ | ⟨g',cap,cur,rfl,_,hgb,_⟩
  · simp [Value.ownBlock]
  ·
   intro h;obtain rfl : g = g':=by simpa [Value.ownBlock] using h
   rw [hB] at hgb;cases hgb;exact hte rfl
 exact ((Below.heap_setCell w1 ⟨g3,0,none⟩ v' g hne).trans (hg.block g (by simp;have:=hB.lt;omega) h1)).trans (Below.heap_alloc W tmp g hB.lt)
theorem tO {A : Option Addr} {xs : List Nat} {na cap : Nat} {neg : Bool} (w : World) (hS : cX w A na cap xs) (hl : xs.length ≤ 100000000000) : eE prog 119 [.slice A na cap,.bool neg] w (fun v _=>v = W (Eb neg (val 4294967296 xs))):=by
 skip
 refine ⟨abx,?_⟩;have hX:=cZ.refl w;obtain rfl:=hS.eq;have hlt:=oC xs;have hle:=hS.le;refine (callsIn_wide (n:=4)).1 (callsIn_of_wp_marks func119 rfl trivial ?_ rfl);simp only[ntmps119,List.size_toArray,List.length_cons,List.length_nil,Nat.reduceAdd,Nat.reduceSub,Array.replicate_succ,Array.replicate_zero,List.push_toArray,List.append_toArray,List.nil_append,List.cons_append];refine wpIn_wide.2 (aC (fun K1 hK1=>wp_region_lit ?_));refine jA cL rfl ?_;intro w1 g1 hE hg1 hB1;have hG1:=Nat.le_trans hX.size hg1;replace hX:=hX.trans hE;clear hE hg1;simp only[zz];refine aD (hK1 _ _ ?_);refine aC (fun K2 hK2=>wp_region_lit (aA (aB) ?_));simp only[zz];refine bE rfl rfl (pO _ (hS.ext hX)) ?_;rintro v w2 hE rfl;replace hB1:=hB1.ext hE;replace hX:=hX.trans hE;clear hE;simp only[zz];refine aA (aF) ?_;simp only[zz];refine aD ?_;obtain ⟨ys,hys⟩ : ∃ ys,ys = trim xs:=⟨_,rfl⟩
 rw [← hys] at hlt ⊢;refine hK2 _ _ (aC (fun K3 hK3=>wp_region_lit (aA (aB) (aA (bC rfl bA rfl) (aA (eO rfl rfl (aM (by omega) (by omega))) ?_)))));simp only[zz];refine kU kY Fl rfl rfl rfl (show _ = 0 by omega) (show _ = 4 * ys.length by omega) (by omega) (by omega) (by omega) (by omega) ?_;intro w3 g2 hE hg2 hB2;have hG2:=Nat.le_trans hX.size hg2;have hN2_1 : g2 ≠ g1:=Nat.ne_of_gt (Nat.lt_of_lt_of_le hB1.lt hg2);replace hB1:=hB1.ext hE;replace hX:=hX.trans hE;clear hE hg2;simp only[zz];refine jA Vu rfl ?_;intro w4 g3 hE hg3 hB3;have hG3:=Nat.le_trans hX.size hg3;have hN3_1 : g3 ≠ g1:=Nat.ne_of_gt (Nat.lt_of_lt_of_le hB1.lt hg3);have hN3_2 : g3 ≠ g2:=Nat.ne_of_gt (Nat.lt_of_lt_of_le hB2.lt hg3);replace hB1:=hB1.ext hE;replace hB2:=hB2.ext hE;replace hX:=hX.trans hE;clear hE hg3;simp only[zz];refine cK rfl (by simp only[zz];rfl) (by exact Rh) hB3 (by simp) (by simp [Value.oneCell']) ?_;clear hB3;intro w5 hC hB3;replace hB1:=hB1.chg hC (by first | exact hN1_3 | exact Ne.symm hN3_1);replace hB2:=hB2.chg hC (by first | exact hN2_3 | exact Ne.symm hN3_2);replace hX:=hX.chg hC hG3;clear hC;simp only[zy,zx,bB,Nat.reduceAdd] at hB3;refine aD (hK3 _ _ ?_);refine aC (fun K4 hK4=>aC (fun K5 hK5=>wp_region_lit (aA (aB) ?_)));simp only[zz];refine bE rfl rfl (acf _) ?_;rintro v w6 hE ⟨g4,rfl,hg4,hB4⟩;have hG4:=Nat.le_trans hX.size hg4;have hN4_1 : g4 ≠ g1:=Nat.ne_of_gt (Nat.lt_of_lt_of_le hB1.lt hg4);have hN4_2 : g4 ≠ g2:=Nat.ne_of_gt (Nat.lt_of_lt_of_le hB2.lt hg4);have hN4_3 : g4 ≠ g3:=Nat.ne_of_gt (Nat.lt_of_lt_of_le hB3.lt hg4);replace hB1:=hB1.ext hE;replace hB2:=hB2.ext hE;replace hB3:=hB3.ext hE;replace hX:=hX.trans hE;clear hE hg4;simp only[zz];refine aD (hK5 _ _ ?_);refine wp_block ((wpIn_wide (n:=4)).1 ?_);have hbase : w.heap.size ≤ w6.heap.size:=hX.size;obtain ⟨n0,hn0⟩ : ∃ n0,n0 = w.heap.size:=⟨_,rfl⟩
 have hT : cX w6 A ys.length cap ys:=(((hS.ext hX).take (trim xs).length).as (gM xs).symm |> fun h=>by rw [← gM,← hys] at h;exact h)
 have hA : ∀ a,0 < ys.length → A = some a → a.block < w.heap.size:=fun a h0 e=>by
  obtain ⟨a',e',hc⟩:=hS.row 0 (xs[0]'(by omega)) (List.getElem?_eq_getElem (by omega));rw [e] at e';cases e';have:=World.block_lt_of_cell? _ _ hc;rwa [mE] at this
 refine wpIn_rangeFunc_ownG (F:=Fence.wide) rfl (by omega) (gf:=143) (lb:=#[.pointer (some ⟨g4,0,none⟩)]) rfl trivial (enters_of func143 (by kernel_rfl) rfl)
  (Nz Fence.wide 3 trivial rfl (by omega) g4 w.heap.size cap A ys (by omega) w6 hB4.lt hX.size (hB4.cell rfl) hT.row hA) qT.trans (fun W l o o' hl ho _ _=>⟨belowK_b (w:=w6) hX.size W l o o' hl ho ‹_› ‹_›,World.putObj_heap_other (by have:=hB4.lt;omega)⟩) (Below.refl _ _) (fun _=>rfl)
  (fun pre W=>((∃ v,Boxed W g3 131 v ∧ W.ownsRow w.heap.size 5 1 v (Ja pre).length ((Ja pre).map Yx) ∧ True) ∧ fQ W g1 [.bool false,.string ⟨#[]⟩] 65 ∧ fQ W g4 [.slice A ys.length cap] 157) ∧ Below w.heap.size w W)
  (fun _ _ _=>False)
  (OwnFrom.and (OwnFrom.and (Own.from (holdsRow_own w.heap.size g3 131 5 1 (fun pre=>(Ja pre).length) (fun pre=>(Ja pre).map Yx) (fun _ _=>True)) _) (Own.from (fun s X Y row hs hg hr=>⟨(grownBy_keeps_cells hg hr hs.1 rfl).trans hs.1,(grownBy_keeps_cells hg hr hs.2 rfl).trans hs.2⟩) _)) (ownFrom_below (Nat.le_refl _) hX.size))
  (fun _ _ _ _ _ hs _ _=>hs)
  ⟨⟨⟨_,hB3,⟨rfl,.inr ⟨g2,4 * ys.length,_,rfl,hG2,hB2,Nat.zero_le _,by show _ ≤ 9223372036854775807;omega,by simp,by simp [Ja]⟩⟩,trivial⟩,hB1,hB4⟩,hX⟩
  (fun x=>{ tmps:=#[.slice A ys.length cap,.bool neg,undef,undef,.pointer (some ⟨g1,0,none⟩),.pointer (some ⟨g3,0,none⟩),undef,.int .u64 (x.2 : Int),undef,.slice A xs.length cap,.slice A ys.length cap,.slice A ys.length cap,.int .i64 (ys.length : Int),.int .i64 (4 * (ys.length : Int)),.slice (some ⟨g2,0,none⟩) 0 (4 * ys.length),.slice A ys.length cap,.func (.func 143) #[] #[.pointer (some ⟨g4,0,none⟩)],.int .i64 (x.1 : Int),.int .u64 (x.2 : Int),undef,undef,undef,undef,undef,undef,undef,undef,undef,undef,undef,undef,undef,undef,undef,undef,undef,undef,undef,undef,undef,undef,undef,undef],defers:=[] }) ?assign ?body ?done ?stop
 case assign =>
  intro l x W K hK;clear hys
  gi_wp2
  exact hK
 case stop =>
  rintro D c pre W _ _ h _;exact h.elim
 case body =>
  rintro l pre x W ⟨⟨⟨v,hv,hrow,_⟩,hB1',hB4'⟩,hB⟩ hlt;have hc:=hv.cell;have hwl : (Ja pre).length ≤ 4 * pre.length:=Nat.le_of_eq (Bc pre);clear hys;obtain ⟨i0,hi,hz0,hz1,hz2⟩:=info_parts aaq
  gi_wp2_with (gi_at_builtin;refine wpListIn_append_own _ rfl _ _ 131 rfl w.heap.size 5 i0 (.int .u8 0) 1 1 kY hi hz0 hz1 hz2 rfl (by decide) _ _ _ rfl (hrow.alloc _) ⟨W.heap.size,0,none⟩ 4 4 [.int .u8 ((x.2 : Int) / 16777216 % 256),.int .u8 ((x.2 : Int) / 65536 % 256),.int .u8 ((x.2 : Int) / 256 % 256),.int .u8 ((x.2 : Int) % 256)] rfl rfl ((gS W _ 5).row 0) (by simp [Value.oneCell']) (by show _ ≤ 9223372036854775807;omega) (by omega) (by have:=hB.size;simp;omega) ?_;intro v' w1 hown' hgrow _;obtain ⟨g',cap',rfl⟩:=ownsRow_succ hown';obtain ⟨hv1,hv2,hr2,hk2,hb2⟩:=hv.appended (by decide) hrow hB.size hG3 hown' hgrow;have hc1:=hv1.cell;have hf1:=hv1.frozen)
  have e1:=Dj hB1' (by decide) hrow hgrow (Ne.symm hN3_1) (v':=.slice (some ⟨g',0,none⟩) ((Ja pre).length + 3 + 1) cap');have e4:=Dj hB4' (by decide) hrow hgrow hN4_3 (v':=.slice (some ⟨g',0,none⟩) ((Ja pre).length + 3 + 1) cap');refine ⟨hk2.from _,⟨hb2,e4⟩,⟨⟨_,hv2,?_,trivial⟩,e1.trans hB1',e4.trans hB4'⟩,hB.trans hb2⟩;rw [Uh,List.length_append,List.map_append];have e : (wb x.2).map Yx = [.int .u8 ((x.2 : Int) / 16777216 % 256),.int .u8 ((x.2 : Int) / 65536 % 256),.int .u8 ((x.2 : Int) / 256 % 256),.int .u8 ((x.2 : Int) % 256)]:=by simp [wb,UInt8.toNat_ofNat']
  rw [e];exact hr2
 rintro D ls W hD hls ⟨⟨⟨v,hv,hrow,_⟩,hB1',_⟩,hX'⟩ hK';replace hD:=Nat.le_trans hX.size hD;clear hB1 hB2 hB3 hB4 hX hG2 hG4 hN2_1 hN3_2 hN4_1 hN4_2 hN4_3 hbase hT;have hB1:=hB1';have hB3 : fQ W g3 [v] 131:=hv;have hX : cZ w W:=hX';have hK : Ug W D:=⟨hK'⟩
 have hDg1:=hK.ne hB1;have hlb : (Ja ls).length ≤ 1000000000000000:=by
  have:=congrArg List.length hls;rw [List.length_map,List.length_reverse] at this;rw [Bc];omega
 have hbs : kI (gG (Ja ls)) = lN (Eb neg (val 4294967296 xs)):=by
  have e : Ja ls = ys.reverse.flatMap wb:=by rw [← hls,List.flatMap_map];rfl
  have hd : cJ 4294967296 ys:=by rw [hys];exact hS.digs.trim
  rw [e,Mf hd neg,hys,pU]
 dsimp only;refine hK4 _ _ (aC (fun K6 hK6=>wp_region_lit ?_));refine aI rfl (hB3.lies1 Zo rfl) ?_;simp only[zz];refine eL (Bb kY Ej oO rfl hrow) ?_;simp only[zz];refine Gn rfl rfl (Ny hlb) ?_;intro w7 hE;replace hB1:=hB1.ext hE;(try replace hK:=hK.ext hE);replace hX:=hX.trans hE;clear hE;simp only[zz];refine aA (aF) ?_;simp only[zz];refine aD ?_;rw [hbs];refine hK6 _ _ (aC (fun K7 hK7=>?_));cases neg
 ·
  refine wp_region_lit (aA (aB) (aA (aB) ?_));simp only[zz];refine dA rfl ?_;simp only[zz];refine dA rfl ?_;simp only[zz];refine aA (gF rfl) (aA (aB) (aA (oG rfl rfl) ?_));simp only[zz];refine cK rfl (by simp only[zz];rfl) (by exact aO) hB1 (by simp) (by simp [Value.oneCell']) ?_;clear hB1;intro w8 hC hB1
  (try replace hK:=hK.chg hC (by first | assumption | rfl));replace hX:=hX.chg hC hG1
  clear hC;simp only[zy,zx,bB,Nat.reduceAdd] at hB1;refine aD (hK7 _ _ ?_);refine wp_ret ?_;try simp only[Exit.inBlock,Exit.then]
  refine acD hK ?_;replace hB1:=hB1.putD hK (o:=.deferred none);replace hX:=hX.putD hD (o:=.deferred none);refine bP rfl ⟨_,rfl,(hB1.lies bG aO rfl rfl)⟩ ?_;try simp only[zD,zE]
  exact ⟨_,rfl,hX,by simp [Lith.W,Gx,Be]⟩
 ·
  refine wp_region_lit (aA (aB) (aA (aB) ?_));simp only[zz];refine bM rfl (aA (aB) ?_);simp only[zz];refine bM rfl (aA (aa4 oO rfl rfl) (aA (eF rfl) (aA (aB) ?_)));simp only[zz];refine aA (oG rfl rfl) ?_;simp only[zz];refine cK rfl (by simp only[zz];rfl) (by exact aO) hB1 (by simp) (by simp [Value.oneCell']) ?_;clear hB1;intro w8 hC hB1
  (try replace hK:=hK.chg hC (by first | assumption | rfl));replace hX:=hX.chg hC hG1
  clear hC;simp only[zy,zx,bB,Nat.reduceAdd] at hB1;refine aD (hK7 _ _ ?_);refine wp_ret ?_;try simp only[Exit.inBlock,Exit.then]
  refine acD hK ?_;replace hB1:=hB1.putD hK (o:=.deferred none);replace hX:=hX.putD hD (o:=.deferred none);refine bP rfl ⟨_,rfl,(hB1.lies bG aO rfl rfl)⟩ ?_;try simp only[zD,zE]
  exact ⟨_,rfl,hX,by simp [Lith.W,Gx,Be]⟩
end Go.Proofs.YtfohfflkhpfjeaaGreatDoor
namespace Go.Proofs.YtfohfflkhpfjeaaGreatDoor
open Go.Proofs.Tryz
open Go.RowKit Go.Lith
set_option maxRecDepth 100000
attribute [local irreducible] wpList wpQuiet dD Code.wp
theorem ad5 {a : Int} (ha : Bd 1000000 a) : jB prog 96 [W a] (W (-a)):=by
 intro w;refine ⟨adR,?_⟩;have hX:=cZ.refl w
 go_enter func96,ntmps96
 refine aC (fun K1 hK1=>wp_region_lit ?_);refine lX (by simp only[zz];rfl) ?_;intro w1 g1 hE hg1 hB1;have hG1:=Nat.le_trans hX.size hg1;replace hX:=hX.trans hE;clear hE hg1;simp only[zz];refine jA cL rfl ?_;intro w2 g2 hE hg2 hB2;have hG2:=Nat.le_trans hX.size hg2;have hN2_1 : g2 ≠ g1:=Nat.ne_of_gt (Nat.lt_of_lt_of_le hB1.lt hg2);replace hB1:=hB1.ext hE;replace hX:=hX.trans hE;clear hE hg2;simp only[zz];refine aD (hK1 _ _ ?_);refine aC (fun K2 hK2=>?_);refine dT [(2,true),(0,true),(3,true),(4,true),(1,false),(5,false),(6,false)] aP (by kernel_rfl) (dB (fun _ _ _ _ _ h=>h)) (ol:=?_) ?hol ?_
 case hol=>simp only[zw,zQ,zR];try rfl
 intro w3 hE;replace hB1:=hB1.ext hE;replace hB2:=hB2.ext hE;replace hX:=hX.trans hE;clear hE;refine ⟨_,(kN.blk hB1 kN.nil),?_⟩;refine aW (aJ (c:=0) gR rfl fV rfl rfl) ?_;simp only[zz];refine bQ rfl (fun _ ⟨hB1,_⟩=>(hB1.lies bG aO rfl rfl)) ?_;simp only[zz];refine bQ rfl (fun _ ⟨hB1,_⟩=>(hB1.lies1 jY rfl)) ?_;simp only[zz];refine aW (iO rfl) ?_;simp only[zz];refine bU (bE rfl rfl (Di _ (iE ha)) ?_);rintro v w4 hE ⟨A1,c1,rfl,hN1⟩;replace hB1:=hB1.ext hE;replace hB2:=hB2.ext hE;replace hX:=hX.trans hE;clear hE;rw [gT] at hN1 ⊢;simp only[zz];refine aD (⟨⟨hB1,trivial⟩,?_⟩);refine bU (bE rfl rfl (tO _ hN1 (Nat.le_trans (sM ha) (by decide))) ?_);rintro v w5 hE rfl;replace hB1:=hB1.ext hE;replace hB2:=hB2.ext hE;replace hX:=hX.trans hE;clear hE;simp only[cE];simp only[zz];refine aD (⟨⟨hB1,trivial⟩,?_⟩);refine bU ?_;refine cK rfl (by simp only[zz];rfl) (by exact aO) hB2 (by simp) (by simp [Value.oneCell']) ?_;clear hB2;intro w6 hC hB2;replace hB1:=hB1.chg hC (by first | exact hN1_2 | exact Ne.symm hN2_1);replace hX:=hX.chg hC hG2;clear hC;simp only[zy,zx,bB,Nat.reduceAdd] at hB2;refine aD (⟨⟨hB1,trivial⟩,?_⟩);refine dF ?_;rw [Oe] at hB2;refine hK2 _ _ (wp_ret ?_);try simp only[Exit.inBlock,Exit.then]
 refine bP rfl ⟨_,rfl,(hB2.lies bG aO rfl rfl)⟩ ?_;try simp only[zD,zE]
 exact ⟨_,rfl,hX,rfl⟩
theorem yV {a b : Int} (ha : Bd 1000000 a) (hb : Bd 1000000 b) : jB prog 79 [W a,W b] (W (a + b)):=by
 intro w;refine ⟨adH,?_⟩;have hX:=cZ.refl w;have hla:=sM ha;have hlb:=sM hb;have hls:=sM (Bd.add ha hb)
 go_enter func79,ntmps79
 refine aC (fun K1 hK1=>wp_region_lit ?_);refine lX (by simp only[zz];rfl) ?_;intro w1 g1 hE hg1 hB1;have hG1:=Nat.le_trans hX.size hg1;replace hX:=hX.trans hE;clear hE hg1;simp only[zz];refine lX (by simp only[zz];rfl) ?_;intro w2 g2 hE hg2 hB2;have hG2:=Nat.le_trans hX.size hg2;have hN2_1 : g2 ≠ g1:=Nat.ne_of_gt (Nat.lt_of_lt_of_le hB1.lt hg2);replace hB1:=hB1.ext hE;replace hX:=hX.trans hE;clear hE hg2;simp only[zz];refine jA cL rfl ?_;intro w3 g3 hE hg3 hB3;have hG3:=Nat.le_trans hX.size hg3;have hN3_1 : g3 ≠ g1:=Nat.ne_of_gt (Nat.lt_of_lt_of_le hB1.lt hg3);have hN3_2 : g3 ≠ g2:=Nat.ne_of_gt (Nat.lt_of_lt_of_le hB2.lt hg3);replace hB1:=hB1.ext hE;replace hB2:=hB2.ext hE;replace hX:=hX.trans hE;clear hE hg3;simp only[zz];refine aD (hK1 _ _ ?_);refine aC (fun K2 hK2=>?_);refine dT [(0,true),(2,true),(1,false),(3,false),(4,true),(5,true)] aP (by kernel_rfl) (dB (fun _ _ _ _ _ h=>h)) (ol:=?_) ?hol ?_
 case hol=>simp only[zw,zQ,zR];try rfl
 intro w4 hE;replace hB1:=hB1.ext hE;replace hB2:=hB2.ext hE;replace hB3:=hB3.ext hE;replace hX:=hX.trans hE;clear hE;refine ⟨_,(kN.blk hB1 (kN.blk hB2 kN.nil)),?_⟩;refine bQ rfl (fun _ ⟨hB1,hB2,_⟩=>(hB1.lies bG aO rfl rfl)) ?_;simp only[zz];refine bQ rfl (fun _ ⟨hB1,hB2,_⟩=>(hB2.lies bG aO rfl rfl)) ?_;simp only[zz];refine bU (bE rfl rfl (Di _ (iE ha)) ?_);rintro v w5 hE ⟨A1,c1,rfl,hN1⟩;replace hB1:=hB1.ext hE;replace hB2:=hB2.ext hE;replace hB3:=hB3.ext hE;replace hX:=hX.trans hE;clear hE;rw [gT] at hN1 ⊢;simp only[zz];refine aD (⟨⟨hB1,hB2,trivial⟩,?_⟩);refine bU (bE rfl rfl (Di _ (iE hb)) ?_);rintro v w6 hE ⟨A2,c2,rfl,hN2⟩;replace hB1:=hB1.ext hE;replace hB2:=hB2.ext hE;replace hB3:=hB3.ext hE;(try replace hN1:=hN1.ext hE);replace hX:=hX.trans hE;clear hE;rw [gT] at hN2 ⊢;simp only[zz];refine aD (⟨⟨hB1,hB2,trivial⟩,?_⟩);refine aW (aF) (aW (aF) ?_);simp only[zz];refine dF (hK2 _ _ ?_);refine aC (fun K3 hK3=>wp_block (aC (fun K4 hK4=>wp_region_lit (aA (aJ (c:=0) gR rfl fV rfl rfl) ?_))));simp only[zz];refine aI rfl (hB1.lies1 jY rfl) ?_;simp only[zz];refine aA (aJ (c:=0) gR rfl fV rfl rfl) ?_;simp only[zz];refine aI rfl (hB2.lies1 jY rfl) ?_;simp only[zz];refine aA (Ud Mq rfl rfl) (aA (aF) ?_);simp only[zz];refine aD (hK4 _ _ ?_);refine cD rfl (fun hc1=>?_) (fun hc1=>?_)
 ·
  refine aC (fun K5 hK5=>?_);refine dT [(0,true),(1,true),(3,true),(4,true),(2,false),(5,false),(6,false)] aP (by kernel_rfl) (dB (fun _ _ _ _ _ h=>h)) (ol:=?_) ?hol ?_
  case hol=>simp only[zw,zQ,zR];try rfl
  intro w7 hE;replace hB1:=hB1.ext hE;replace hB3:=hB3.ext hE;(try replace hN1:=hN1.ext hE);(try replace hN2:=hN2.ext hE);replace hX:=hX.trans hE;clear hE;refine ⟨_,(kN.blk hB1 kN.nil),?_⟩;refine aW (aB) (aW (aB) (aW (aJ (c:=0) gR rfl fV rfl rfl) ?_));simp only[zz];refine bQ rfl (fun _ ⟨hB1,_⟩=>(hB1.lies1 jY rfl)) ?_;simp only[zz];refine bU (bE rfl rfl (aaT _ hN1 hN2 (Nat.le_trans hla (by decide)) (Nat.le_trans hlb (by decide))) ?_);rintro v w8 hE ⟨A3,c3,rfl,hN3⟩;replace hB1:=hB1.ext hE;replace hB3:=hB3.ext hE;replace hX:=hX.trans hE;clear hE;simp only[zz];refine aD (⟨⟨hB1,trivial⟩,?_⟩);refine bU ?_;simp only[cE] at hN3 ⊢;have hl3 : (digs 4294967296 (a.natAbs + b.natAbs)).length ≤ 100000000000:=Nat.le_trans (Ql ha hb) (by decide);refine bE rfl rfl (tO _ hN3 hl3) ?_;rintro v w9 hE rfl;replace hB1:=hB1.ext hE;replace hB3:=hB3.ext hE;replace hX:=hX.trans hE;clear hE;simp only[cE];simp only[zz];refine aD (⟨⟨hB1,trivial⟩,?_⟩);refine bU ?_;refine cK rfl (by simp only[zz];rfl) (by exact aO) hB3 (by simp) (by simp [Value.oneCell']) ?_;clear hB3;intro w10 hC hB3;replace hB1:=hB1.chg hC (by first | exact hN1_3 | exact Ne.symm hN3_1);replace hX:=hX.chg hC hG3;clear hC;simp only[zy,zx,bB,Nat.reduceAdd] at hB3;refine aD (⟨⟨hB1,trivial⟩,?_⟩);refine dF ?_;rw [Of hc1] at hB3;refine hK5 _ _ (wp_ret ?_);try simp only[Exit.inBlock,Exit.then]
  refine bP rfl ⟨_,rfl,(hB3.lies bG aO rfl rfl)⟩ ?_;try simp only[zD,zE]
  exact ⟨_,rfl,hX,rfl⟩
 ·
  refine aC (fun K6 hK6=>wp_region_lit (aA (aB) (aA (aB) ?_)));simp only[zz];refine bE rfl rfl (Pi _ hN1 hN2 (fM _) (fM _)) ?_;rintro v w7 hE rfl;replace hB1:=hB1.ext hE;replace hB2:=hB2.ext hE;replace hB3:=hB3.ext hE;(try replace hN1:=hN1.ext hE);(try replace hN2:=hN2.ext hE);replace hX:=hX.trans hE;clear hE;simp only[cE];simp only[zz];refine aA (cS rfl rfl) (aA (aF) ?_);simp only[zz];refine aD (hK6 _ _ ?_);refine cD rfl (fun hc2=>?_) (fun hc2=>?_)
  ·
   have hlt:=rB.1 hc2;refine aC (fun K7 hK7=>?_);refine dT [(0,true),(1,true),(3,true),(4,true),(2,false),(5,false),(6,false)] aP (by kernel_rfl) (dB (fun _ _ _ _ _ h=>h)) (ol:=?_) ?hol ?_
   case hol=>simp only[zw,zQ,zR];try rfl
   intro w8 hE;replace hB2:=hB2.ext hE;replace hB3:=hB3.ext hE;(try replace hN1:=hN1.ext hE);(try replace hN2:=hN2.ext hE);replace hX:=hX.trans hE;clear hE;refine ⟨_,(kN.blk hB2 kN.nil),?_⟩;refine aW (aB) (aW (aB) (aW (aJ (c:=0) gR rfl fV rfl rfl) ?_));simp only[zz];refine bQ rfl (fun _ ⟨hB2,_⟩=>(hB2.lies1 jY rfl)) ?_;simp only[zz];refine bU ?_;refine bE rfl rfl (Xk _ hN2 hN1 (Bf (Nat.le_of_lt hlt)) (by simp only[cE];omega) (Nat.le_trans hlb (by decide))) ?_;rintro v w9 hE ⟨⟨A3,c3,rfl,hN3⟩,_⟩;replace hB2:=hB2.ext hE;replace hB3:=hB3.ext hE;replace hX:=hX.trans hE;clear hE;simp only[cE] at hN3 ⊢;have hl3:=Bf (Nat.sub_le b.natAbs a.natAbs);simp only[zz];refine aD (⟨⟨hB2,trivial⟩,?_⟩);refine bU (bE rfl rfl (tO _ hN3 (Nat.le_trans hl3 (Nat.le_trans hlb (by decide)))) ?_);rintro v w10 hE rfl;replace hB2:=hB2.ext hE;replace hB3:=hB3.ext hE;replace hX:=hX.trans hE;clear hE;simp only[cE];simp only[zz];refine aD (⟨⟨hB2,trivial⟩,?_⟩);refine bU ?_;refine cK rfl (by simp only[zz];rfl) (by exact aO) hB3 (by simp) (by simp [Value.oneCell']) ?_;clear hB3;intro w11 hC hB3;replace hB2:=hB2.chg hC (by first | exact hN2_3 | exact Ne.symm hN3_2);replace hX:=hX.chg hC hG3;clear hC;simp only[zy,zx,bB,Nat.reduceAdd] at hB3;refine aD (⟨⟨hB2,trivial⟩,?_⟩);refine dF ?_;rw [Ui hc1 hlt] at hB3;refine hK7 _ _ (wp_ret ?_);try simp only[Exit.inBlock,Exit.then]
   refine bP rfl ⟨_,rfl,(hB3.lies bG aO rfl rfl)⟩ ?_;try simp only[zD,zE]
   exact ⟨_,rfl,hX,rfl⟩
  ·
   have hge : b.natAbs ≤ a.natAbs:=Nat.le_of_not_lt fun h=>hc2 (rB.2 h);refine wp_skip (hK3 _ _ ?_);refine aC (fun K8 hK8=>?_);refine dT [(0,true),(1,true),(3,true),(4,true),(2,false),(5,false),(6,false)] aP (by kernel_rfl) (dB (fun _ _ _ _ _ h=>h)) (ol:=?_) ?hol ?_
   case hol=>simp only[zw,zQ,zR];try rfl
   intro w8 hE;replace hB1:=hB1.ext hE;replace hB3:=hB3.ext hE;(try replace hN1:=hN1.ext hE);(try replace hN2:=hN2.ext hE);replace hX:=hX.trans hE;clear hE;refine ⟨_,(kN.blk hB1 kN.nil),?_⟩;refine aW (aB) (aW (aB) (aW (aJ (c:=0) gR rfl fV rfl rfl) ?_));simp only[zz];refine bQ rfl (fun _ ⟨hB1,_⟩=>(hB1.lies1 jY rfl)) ?_;simp only[zz];refine bU ?_;refine bE rfl rfl (Xk _ hN1 hN2 (Bf hge) (by simp only[cE];omega) (Nat.le_trans hla (by decide))) ?_;rintro v w9 hE ⟨⟨A3,c3,rfl,hN3⟩,_⟩;replace hB1:=hB1.ext hE;replace hB3:=hB3.ext hE;replace hX:=hX.trans hE;clear hE;simp only[cE] at hN3 ⊢;have hl3:=Bf (Nat.sub_le a.natAbs b.natAbs);simp only[zz];refine aD (⟨⟨hB1,trivial⟩,?_⟩);refine bU (bE rfl rfl (tO _ hN3 (Nat.le_trans hl3 (Nat.le_trans hla (by decide)))) ?_);rintro v w10 hE rfl;replace hB1:=hB1.ext hE;replace hB3:=hB3.ext hE;replace hX:=hX.trans hE;clear hE;simp only[cE];simp only[zz];refine aD (⟨⟨hB1,trivial⟩,?_⟩);refine bU ?_;refine cK rfl (by simp only[zz];rfl) (by exact aO) hB3 (by simp) (by simp [Value.oneCell']) ?_;clear hB3;intro w11 hC hB3;replace hB1:=hB1.chg hC (by first | exact hN1_3 | exact Ne.symm hN3_1);replace hX:=hX.chg hC hG3;clear hC;simp only[zy,zx,bB,Nat.reduceAdd] at hB3;refine aD (⟨⟨hB1,trivial⟩,?_⟩);refine dF ?_;rw [Uj hc1 hge] at hB3;refine hK8 _ _ (wp_ret ?_);try simp only[Exit.inBlock,Exit.then]
   refine bP rfl ⟨_,rfl,(hB3.lies bG aO rfl rfl)⟩ ?_;try simp only[zD,zE]
   exact ⟨_,rfl,hX,rfl⟩
end Go.Proofs.YtfohfflkhpfjeaaGreatDoor
namespace Go.Proofs.YtfohfflkhpfjeaaGreatDoor
open Go.Proofs.Tryz
open Go.RowKit Go.Lith
set_option maxRecDepth 100000
attribute [local irreducible] wpList wpQuiet dD Code.wp
theorem Dk {a b : Int} (ha : Bd 1000000 a) (hb : Bd 1000000 b) : jB prog 54 [W a,W b] (W (a - b)):=by
 intro w;refine ⟨adk,?_⟩;have hX:=cZ.refl w
 go_enter func54,ntmps54
 refine aC (fun K1 hK1=>wp_region_lit ?_);refine lX (by simp only[zz];rfl) ?_;intro w1 g1 hE hg1 hB1;have hG1:=Nat.le_trans hX.size hg1;replace hX:=hX.trans hE;clear hE hg1;simp only[zz];refine lX (by simp only[zz];rfl) ?_;intro w2 g2 hE hg2 hB2;have hG2:=Nat.le_trans hX.size hg2;have hN2_1 : g2 ≠ g1:=Nat.ne_of_gt (Nat.lt_of_lt_of_le hB1.lt hg2);replace hB1:=hB1.ext hE;replace hX:=hX.trans hE;clear hE hg2;simp only[zz];refine jA cL rfl ?_;intro w3 g3 hE hg3 hB3;have hG3:=Nat.le_trans hX.size hg3;have hN3_1 : g3 ≠ g1:=Nat.ne_of_gt (Nat.lt_of_lt_of_le hB1.lt hg3);have hN3_2 : g3 ≠ g2:=Nat.ne_of_gt (Nat.lt_of_lt_of_le hB2.lt hg3);replace hB1:=hB1.ext hE;replace hB2:=hB2.ext hE;replace hX:=hX.trans hE;clear hE hg3;simp only[zz];refine aD (hK1 _ _ ?_);refine aC (fun K2 hK2=>?_);refine gV 4 aP (by kernel_rfl) ?_;simp only[zy];refine gW rfl (fun _ hE'=>((hB1.ext hE').lies bG aO rfl rfl)) ?_;simp only[zz];refine gW rfl (fun _ hE'=>((hB2.ext hE').lies bG aO rfl rfl)) ?_;simp only[zz];refine zY rfl rfl (ad5 hb) ?_;simp only[zz];refine zY rfl rfl (yV ha hb.neg) ?_;simp only[zz];refine dN ?_;intro w4 hE;replace hB3:=hB3.ext hE;replace hX:=hX.trans hE;clear hE;refine cK rfl (by simp only[zz];rfl) (by exact aO) hB3 (by simp) (by simp [Value.oneCell']) ?_;clear hB3;intro w5 hC hB3;replace hX:=hX.chg hC hG3;clear hC;simp only[zy,zx,bB,Nat.reduceAdd] at hB3;refine aD ?_;rw [← Int.sub_eq_add_neg] at hB3;refine hK2 _ _ (wp_ret ?_);try simp only[Exit.inBlock,Exit.then]
 refine bP rfl ⟨_,rfl,(hB3.lies bG aO rfl rfl)⟩ ?_;try simp only[zD,zE]
 exact ⟨_,rfl,hX,rfl⟩
theorem Gf {a b : Int} (ha : Bd 1000000 a) (hb : Bd 1000000 b) : jB prog 78 [W a,W b] (W (a * b)):=by
 intro w;refine ⟨adG,?_⟩;have hX:=cZ.refl w;have hla:=sM ha;have hlb:=sM hb;have hls:=sM (Bd.mul ha hb)
 go_enter func78,ntmps78
 refine aC (fun K1 hK1=>wp_region_lit ?_);refine lX (by simp only[zz];rfl) ?_;intro w1 g1 hE hg1 hB1;have hG1:=Nat.le_trans hX.size hg1;replace hX:=hX.trans hE;clear hE hg1;simp only[zz];refine lX (by simp only[zz];rfl) ?_;intro w2 g2 hE hg2 hB2;have hG2:=Nat.le_trans hX.size hg2;have hN2_1 : g2 ≠ g1:=Nat.ne_of_gt (Nat.lt_of_lt_of_le hB1.lt hg2);replace hB1:=hB1.ext hE;replace hX:=hX.trans hE;clear hE hg2;simp only[zz];refine jA cL rfl ?_;intro w3 g3 hE hg3 hB3;have hG3:=Nat.le_trans hX.size hg3;have hN3_1 : g3 ≠ g1:=Nat.ne_of_gt (Nat.lt_of_lt_of_le hB1.lt hg3);have hN3_2 : g3 ≠ g2:=Nat.ne_of_gt (Nat.lt_of_lt_of_le hB2.lt hg3);replace hB1:=hB1.ext hE;replace hB2:=hB2.ext hE;replace hX:=hX.trans hE;clear hE hg3;simp only[zz];refine aD (hK1 _ _ ?_);refine aC (fun K2 hK2=>?_);refine dT [(5,true),(7,true),(0,true),(2,true),(6,true),(8,true),(9,true),(1,false),(3,false),(4,false),(10,false),(11,false)] aP (by kernel_rfl) (dB (fun _ _ _ _ _ h=>h)) (ol:=?_) ?hol ?_
 case hol=>simp only[zw,zQ,zR];try rfl
 intro w4 hE;replace hB1:=hB1.ext hE;replace hB2:=hB2.ext hE;replace hB3:=hB3.ext hE;replace hX:=hX.trans hE;clear hE;refine ⟨_,(kN.blk hB1 (kN.blk hB2 kN.nil)),?_⟩;refine aW (aJ (c:=0) gR rfl fV rfl rfl) (aW (aJ (c:=0) gR rfl fV rfl rfl) ?_);simp only[zz];refine bQ rfl (fun _ ⟨hB1,hB2,_⟩=>(hB1.lies bG aO rfl rfl)) ?_;simp only[zz];refine bQ rfl (fun _ ⟨hB1,hB2,_⟩=>(hB2.lies bG aO rfl rfl)) ?_;simp only[zz];refine bQ rfl (fun _ ⟨hB1,hB2,_⟩=>(hB1.lies1 jY rfl)) ?_;simp only[zz];refine bQ rfl (fun _ ⟨hB1,hB2,_⟩=>(hB2.lies1 jY rfl)) ?_;simp only[zz];refine aW (Ue Mq rfl rfl) ?_;simp only[zz];refine bU (bE rfl rfl (Di _ (iE ha)) ?_);rintro v w5 hE ⟨A1,c1,rfl,hN1⟩;replace hB1:=hB1.ext hE;replace hB2:=hB2.ext hE;replace hB3:=hB3.ext hE;replace hX:=hX.trans hE;clear hE;rw [gT] at hN1 ⊢;simp only[zz];refine aD (⟨⟨hB1,hB2,trivial⟩,?_⟩);refine bU (bE rfl rfl (Di _ (iE hb)) ?_);rintro v w6 hE ⟨A2,c2,rfl,hN2⟩;replace hB1:=hB1.ext hE;replace hB2:=hB2.ext hE;replace hB3:=hB3.ext hE;(try replace hN1:=hN1.ext hE);replace hX:=hX.trans hE;clear hE;rw [gT] at hN2 ⊢;simp only[zz];refine aD (⟨⟨hB1,hB2,trivial⟩,?_⟩);refine bU (bE rfl rfl (Xl _ hN1 hN2 (Nat.le_trans hla (by decide)) (Nat.le_trans hlb (by decide))) ?_);rintro v w7 hE ⟨A3,c3,rfl,hN3⟩;replace hB1:=hB1.ext hE;replace hB2:=hB2.ext hE;replace hB3:=hB3.ext hE;replace hX:=hX.trans hE;clear hE;simp only[cE] at hN3 ⊢;rw [← Int.natAbs_mul] at hN3 ⊢;simp only[zz];refine aD (⟨⟨hB1,hB2,trivial⟩,?_⟩);refine bU (bE rfl rfl (tO _ hN3 (Nat.le_trans hls (by decide))) ?_);rintro v w8 hE rfl;replace hB1:=hB1.ext hE;replace hB2:=hB2.ext hE;replace hB3:=hB3.ext hE;replace hX:=hX.trans hE;clear hE;simp only[cE];simp only[zz];refine aD (⟨⟨hB1,hB2,trivial⟩,?_⟩);refine bU ?_;refine cK rfl (by simp only[zz];rfl) (by exact aO) hB3 (by simp) (by simp [Value.oneCell']) ?_;clear hB3;intro w9 hC hB3;replace hB1:=hB1.chg hC (by first | exact hN1_3 | exact Ne.symm hN3_1);replace hB2:=hB2.chg hC (by first | exact hN2_3 | exact Ne.symm hN3_2);replace hX:=hX.chg hC hG3;clear hC;simp only[zy,zx,bB,Nat.reduceAdd] at hB3;refine aD (⟨⟨hB1,hB2,trivial⟩,?_⟩);refine dF ?_;rw [Int.natAbs_mul,Og] at hB3;refine hK2 _ _ (wp_ret ?_);try simp only[Exit.inBlock,Exit.then]
 refine bP rfl ⟨_,rfl,(hB3.lies bG aO rfl rfl)⟩ ?_;try simp only[zD,zE]
 exact ⟨_,rfl,hX,rfl⟩
theorem pP {n : Int} (h : nO n) : jB prog 80 [.int .i64 n] (W n):=by
 intro w;refine ⟨adI,?_⟩;have hX:=cZ.refl w;have hna:=h.natAbs
 go_enter func80,ntmps80
 refine aC (fun K1 hK1=>wp_region_lit ?_);refine jA cL rfl ?_;intro w1 g1 hE hg1 hB1;have hG1:=Nat.le_trans hX.size hg1;replace hX:=hX.trans hE;clear hE hg1;simp only[zz];refine aD (hK1 _ _ ?_);refine aC (fun K2 hK2=>?_);rcases (show n < 0 ∨ 0 ≤ n by omega) with h0 | h0
 ·
  refine wp_region_lit (aA (aB) (aA (jM pG iN rfl (Oh h h0)) (aA (aF) ?_)));simp only[zz];refine aD (hK2 _ _ ?_);refine aC (fun K3 hK3=>aC (fun K4 hK4=>wp_region_lit (aA (aB) (aA (bT rfl rfl (by omega)) ?_))));simp only[zz];refine aD (hK4 _ _ ?_);refine cG rfl (wp_region_lit (aA (aB) (aA (Tg rfl (Ex hna (by omega))) (aA (aF) ?_))));simp only[zz];refine aD (hK3 _ _ ?_);refine aC (fun K5 hK5=>wp_region_lit (aA (aB) (aA (pR rfl rfl (Ab (by omega))) (aA (aB) ?_))));simp only[zz];refine aA (oS rfl rfl (by omega) Lw) ?_;simp only[zz];refine Iu bA (z:=.int .u64 0) (by kernel_rfl) rfl (by simp only[zz];rfl) (by rfl) (by simp only[zz];rfl) (by rfl) ?_;intro w2 g2 hE hg2 hB2;have hG2:=Nat.le_trans hX.size hg2;have hN2_1 : g2 ≠ g1:=Nat.ne_of_gt (Nat.lt_of_lt_of_le hB1.lt hg2);replace hB1:=hB1.ext hE;replace hX:=hX.trans hE;clear hE hg2;simp only[zz];refine aA (aB) (aA (bT rfl rfl (by omega)) ?_);simp only[zz];refine bE rfl rfl (tO _ (hB2.nat (os:=[n.natAbs % 4294967296,n.natAbs / 4294967296]) (Bg (by omega)) rfl (by omega)) (by simp)) ?_;rintro v w3 hE rfl;replace hB1:=hB1.ext hE;replace hX:=hX.trans hE;clear hE;simp only[zz];refine cK rfl (by simp only[zz];rfl) (by exact aO) hB1 (by simp) (by simp [Value.oneCell']) ?_;clear hB1;intro w4 hC hB1;replace hX:=hX.chg hC hG1;clear hC;simp only[zy,zx,bB,Nat.reduceAdd] at hB1;refine aD (hK5 _ _ ?_);refine wp_ret ?_;try simp only[Exit.inBlock,Exit.then]
  refine bP rfl ⟨_,rfl,(hB1.lies bG aO rfl rfl)⟩ ?_;try simp only[zD,zE]
  exact ⟨_,rfl,hX,by rw [Ey,show true = gI n from (decide_eq_true h0).symm,wD];rfl⟩
 ·
  refine wp_region_lit (aA (aB) (aA (jM pG iN rfl (Uk h h0)) (aA (aF) ?_)));simp only[zz];refine aD (hK2 _ _ ?_);refine aC (fun K6 hK6=>aC (fun K7 hK7=>wp_region_lit (aA (aB) (aA (eG rfl rfl (by omega)) ?_))));simp only[zz];refine aD (hK7 _ _ ?_);refine iT rfl (wp_skip ?_);refine hK6 _ _ (aC (fun K8 hK8=>wp_region_lit (aA (aB) (aA (pR rfl rfl (Ab (by omega))) (aA (aB) ?_)))));simp only[zz];refine aA (oS rfl rfl (by omega) Lw) ?_;simp only[zz];refine Iu bA (z:=.int .u64 0) (by kernel_rfl) rfl (by simp only[zz];rfl) (by rfl) (by simp only[zz];rfl) (by rfl) ?_;intro w2 g2 hE hg2 hB2;have hG2:=Nat.le_trans hX.size hg2;have hN2_1 : g2 ≠ g1:=Nat.ne_of_gt (Nat.lt_of_lt_of_le hB1.lt hg2);replace hB1:=hB1.ext hE;replace hX:=hX.trans hE;clear hE hg2;simp only[zz];refine aA (aB) (aA (eG rfl rfl (by omega)) ?_);simp only[zz];refine bE rfl rfl (tO _ (hB2.nat (os:=[n.natAbs % 4294967296,n.natAbs / 4294967296]) (Bg (by omega)) rfl (by omega)) (by simp)) ?_;rintro v w3 hE rfl;replace hB1:=hB1.ext hE;replace hX:=hX.trans hE;clear hE;simp only[zz];refine cK rfl (by simp only[zz];rfl) (by exact aO) hB1 (by simp) (by simp [Value.oneCell']) ?_;clear hB1;intro w4 hC hB1;replace hX:=hX.chg hC hG1;clear hC;simp only[zy,zx,bB,Nat.reduceAdd] at hB1;refine aD (hK8 _ _ ?_);refine wp_ret ?_;try simp only[Exit.inBlock,Exit.then]
  refine bP rfl ⟨_,rfl,(hB1.lies bG aO rfl rfl)⟩ ?_;try simp only[zD,zE]
  exact ⟨_,rfl,hX,by rw [Ey,show false = gI n from (decide_eq_false (by omega)).symm,wD];rfl⟩
end Go.Proofs.YtfohfflkhpfjeaaGreatDoor
namespace Go.Proofs.YtfohfflkhpfjeaaGreatDoor
open Go.Proofs.Tryz
open Go.RowKit Go.Lith
set_option maxRecDepth 100000
attribute [local irreducible] wpList wpQuiet dD Code.wp
theorem St {K n R Y M : Nat} (hM : M = 4294967296 ^ (K + 1)) (hRM : R < M) (hy : Y < 4294967296 ^ n) : (digs 4294967296 (R + Y)).length ≤ K + 1 + n + 1:=dO (by omega) (aa5 (hM ▸ hRM) hy)
theorem acg {a : Int} (ha : Bd 1000000 a) (h0 : 0 ≤ a) : jB prog 77 [W a] (.tuple #[W (fI a.natAbs : Int),.bool true]):=by
 intro w;refine ⟨adF,?_⟩;have hX:=cZ.refl w;have hla:=sM ha;obtain ⟨X,hXa⟩ : ∃ X,X = a.natAbs:=⟨_,rfl⟩
 obtain ⟨K,hK⟩ : ∃ K,K = ((digs 4294967296 X).length + 1) / 2:=⟨_,rfl⟩
 rw [← hXa] at hla;obtain ⟨M,hM⟩ : ∃ M,M = 4294967296 ^ (K + 1):=⟨_,rfl⟩
 have hlen : ∀ V : Nat,V < M → (digs 4294967296 V).length ≤ 1000001:=fun V h=>Nat.le_trans (dO (by omega) (by rw [← hM];exact h)) (by omega);have hXd : X < 4294967296 ^ (digs 4294967296 X).length:=by have:=iB (iZ X);rwa [cE] at this
 have hst:=Mh hXd;rw [← hK] at hst;have hMK : 4294967296 ^ K < M:=by rw [hM];exact Nat.pow_lt_pow_right (by omega) (by omega)
 have hp0 : 0 < 4294967296 ^ K:=Nat.pow_pos (by omega);obtain ⟨R0,hR0⟩ : ∃ R0,R0 = 4294967296 ^ K:=⟨_,rfl⟩
 rw [← hR0] at hst hMK hp0;rw [← hXa]
 go_enter func77,ntmps77
 refine aC (fun K1 hK1=>wp_region_lit ?_);refine lX (by simp only[zz];rfl) ?_;intro w1 g1 hE hg1 hB1;have hG1:=Nat.le_trans hX.size hg1;replace hX:=hX.trans hE;clear hE;simp only[zz];refine jA cL rfl ?_;intro w2 g2 hE hg2 hB2;have hG2:=Nat.le_trans hX.size hg2;have hN2_1 : g2 ≠ g1:=Nat.ne_of_gt (Nat.lt_of_lt_of_le hB1.lt hg2);have hL2_1:=Nat.lt_of_lt_of_le hB1.lt hg2;replace hB1:=hB1.ext hE;replace hX:=hX.trans hE;clear hE;simp only[zz];refine aA (aF) ?_;simp only[zz];refine aD (hK1 _ _ ?_);refine aC (fun K2 hK2=>wp_region_lit ?_);refine aI rfl (hB1.lies bG aO rfl rfl) ?_;simp only[zz];refine bE rfl rfl (Di _ (iE ha)) ?_;rintro v w3 hE ⟨A1,c1,rfl,hN1⟩;replace hB1:=hB1.ext hE;replace hB2:=hB2.ext hE;replace hX:=hX.trans hE;clear hE;rw [gT,← hXa] at hN1 ⊢;simp only[zz];refine aA (aF) ?_;simp only[zz];refine aD (hK2 _ _ ?_);refine aC (fun K3 hK3=>aC (fun K4 hK4=>?_));rcases Nat.eq_zero_or_pos X with hX0 | hX0
 ·
  subst hX0;refine wp_region_lit (aA (aB) (aA (bC rfl bA rfl) (aA (sG rfl rfl (by rfl)) ?_)));simp only[zz];refine aD (hK4 _ _ ?_);refine cG rfl (aC (fun K5 hK5=>wp_region_lit (aA (oZ) ?_)));simp only[zz];refine cK rfl (by simp only[zz];rfl) (by exact aO) hB2 (by simp) (by simp [Value.oneCell']) ?_;clear hB2;intro w4 hC hB2;replace hX:=hX.chg hC hG2;clear hC;simp only[zy,zx,bB,Nat.reduceAdd] at hB2;refine aA (aF) ?_;simp only[zz];refine aD (hK5 _ _ ?_);refine wp_ret ?_;try simp only[Exit.inBlock,Exit.then]
  refine pS rfl ⟨_,rfl,(hB2.lies bG aO rfl rfl)⟩ rfl ?_;try simp only[zD,zE]
  exact ⟨_,rfl,hX,rfl⟩
 ·
  refine wp_region_lit (aA (aB) (aA (bC rfl bA rfl) (aA (Tl rfl rfl (fun e=>by have h1:=(sH (B:=4294967296) (by omega)).1 (List.eq_nil_of_length_eq_zero (show (digs 4294967296 X).length = 0 by omega));omega)) ?_)));simp only[zz];refine aD (hK4 _ _ ?_);refine iT rfl (wp_skip ?_);refine hK3 _ _ (aC (fun K6 hK6=>aC (fun K7 hK7=>wp_region_lit (aA (aJ (c:=0) gR rfl fV rfl rfl) ?_))));simp only[zz];refine aI rfl (hB1.lies1 jY rfl) ?_;simp only[zz];refine aD (hK7 _ _ ?_);refine sD rfl (fun hc2=>?_) (fun hc2=>?_)
  ·
   exact absurd (Ew hc2) (by omega)
  ·
   refine wp_skip ?_;refine hK6 _ _ (aC (fun K8 hK8=>wp_region_lit (aA (aB) (aA (bC rfl bA rfl) (aA (aR rfl rfl (aM (by omega) (by omega))) ?_)))));simp only[zz];refine aA (gE rfl rfl (by omega) ((lQ (m:=(digs 4294967296 X).length + 1) (n:=2) (by omega)).trans (congrArg (fun q : Nat=>(q : Int)) hK.symm))) ?_;simp only[zz];have hN0:=hN1;have hE0:=cZ.refl_of hB1;refine kU bA kV rfl rfl rfl (show _ = K by omega) (show _ = K by omega) (by omega) (by omega) (by omega) (by omega) ?_;intro w4 g3 hE hg3 hB3;have hG3:=Nat.le_trans hX.size hg3;have hN3_1 : g3 ≠ g1:=Nat.ne_of_gt (Nat.lt_of_lt_of_le hB1.lt hg3);have hN3_2 : g3 ≠ g2:=Nat.ne_of_gt (Nat.lt_of_lt_of_le hB2.lt hg3);have hL3_1:=Nat.lt_of_lt_of_le hB1.lt hg3;have hL3_2:=Nat.lt_of_lt_of_le hB2.lt hg3;replace hB1:=hB1.ext hE;replace hB2:=hB2.ext hE;(try replace hE0:=hE0.ext hE);replace hX:=hX.trans hE;clear hE;simp only[zz];refine eU bA (z:=.int .u64 0) (by kernel_rfl) rfl (by simp only[zz];rfl) (by rfl) ?_;intro w5 g4 hE hg4 hB4;have hG4:=Nat.le_trans hX.size hg4;have hN4_1 : g4 ≠ g1:=Nat.ne_of_gt (Nat.lt_of_lt_of_le hB1.lt hg4);have hN4_2 : g4 ≠ g2:=Nat.ne_of_gt (Nat.lt_of_lt_of_le hB2.lt hg4);have hN4_3 : g4 ≠ g3:=Nat.ne_of_gt (Nat.lt_of_lt_of_le hB3.lt hg4);have hL4_1:=Nat.lt_of_lt_of_le hB1.lt hg4;have hL4_2:=Nat.lt_of_lt_of_le hB2.lt hg4;have hL4_3:=Nat.lt_of_lt_of_le hB3.lt hg4;replace hB2:=hB2.ext hE;replace hB3:=hB3.ext hE;(try replace hE0:=hE0.ext hE);replace hX:=hX.trans hE;clear hE;simp only[zz];refine fL rfl bA kV rfl (by decide) rfl (jG.full (base:=g3) hB3 (Nat.le_refl _) (by simp) (by omega)) rfl (news:=[jH 1]) rfl (hB4.row 0) (by simp [Value.oneCell']) (by omega) (by omega) (Nat.le_of_lt hB3.lt) ?_;intro v1 w9 hO hGr _;replace hX:=hX.grown hGr hG3;replace hB2:=hB2.grew hGr hL3_2;replace hN1:=hN0.grew hE0 hGr hg3;obtain ⟨A5,c5,rfl,hN5⟩:=cX.of_owns (xs:=List.replicate K 0 ++ [1]) (by have h:=hO;rw [fJ] at h;rw [List.map_append];exact h) (by simp) (by rw [Fa];exact iZ _) (by omega);rw [Fa,← hR0] at hN5;have hl5:=hN5.eq;rw [hl5] at hN5 ⊢;clear hB3 hB4;simp only[zz];refine aA (aF) ?_;simp only[zz];refine aD (hK8 _ _ ?_);refine wp_block (bN [5] [3,6,7,8,9,26,27,28,29,30,31,32,33,34,35,36,37,38,39,40,41,42,43,44,45] (fun n vs wl=>∃ (R : Nat) (A5 : Option Addr) (c5 : Nat),vs = [.slice A5 (digs 4294967296 R).length c5] ∧ (cZ w wl) ∧ (fQ wl g2 [.bool false,.string ⟨#[]⟩] 65) ∧ (cX wl A1 (digs 4294967296 X).length c1 (digs 4294967296 X)) ∧ (cX wl A5 (digs 4294967296 R).length c5 (digs 4294967296 R)) ∧ (0 < R) ∧ (X < (R + 1) * (R + 1)) ∧ (R < M) ∧ (n = R)) ?_ ?_)
   ·
    apply Exists.intro;simp only[zQ,zR,zD,zE];exact ⟨R0,A5,c5,rfl,hX,hB2,hN1,hN5,hp0,hst,hMK,rfl⟩
   ·
    intro n vs wr hI u;obtain ⟨R,A5,c5,rfl,hX,hB2,hN1,hN5,hp1,hRx,hRM,hn⟩:=hI;simp only[zu,zF,zG];refine wp_block (aC (fun K9 hK9=>wp_region_lit (aA (aB) (aA (aB) ?_))));simp only[zz];refine bE rfl rfl (ad4 _ hN1 hN5 (fM _) (fM _) (by rw [cE];exact hp1) (by omega) (Nat.le_trans (hlen _ hRM) (by decide))) ?_;rintro v w6 hE ⟨_,_,rfl,⟨A3,c3,rfl,hN3⟩,⟨A4,c4,rfl,hN4⟩⟩;replace hB2:=hB2.ext hE;(try replace hN1:=hN1.ext hE);(try replace hN5:=hN5.ext hE);replace hX:=hX.trans hE;clear hE;simp only[cE] at hN3 hN4 ⊢;have hl3:=Bf (Nat.div_le_self X R);simp only[zz];refine aA (aB) (aA (bL rfl rfl) (aA (bL rfl rfl) ?_));simp only[zz];refine aA (aF) (aA (aF) ?_);simp only[zz];refine aD (hK9 _ _ ?_);refine aC (fun K10 hK10=>wp_region_lit (aA (aB) (aA (aB) ?_)));simp only[zz];refine bE rfl rfl (aaT _ hN5 hN3 (Nat.le_trans (hlen _ hRM) (by decide)) (by omega)) ?_;rintro v w7 hE ⟨A6,c6,rfl,hN6⟩;replace hB2:=hB2.ext hE;(try replace hN1:=hN1.ext hE);(try replace hN5:=hN5.ext hE);replace hX:=hX.trans hE;clear hE;simp only[cE] at hN6 ⊢;simp only[zz];have hl6 : (digs 4294967296 (R + X / R)).length ≤ 1099511627776:=by
     have h1:=iB (iZ X);rw [cE] at h1;have h2 : X / R ≤ X:=Nat.div_le_self _ _;exact Nat.le_trans (St hM hRM (Nat.lt_of_le_of_lt h2 h1)) (by omega)
    refine bE rfl rfl (Pj (d:=2) _ hN6 hl6 (by omega) (by omega)) ?_;rintro v w8 hE ⟨q,rfl,A7,c7,rfl,hN7⟩;replace hB2:=hB2.ext hE;(try replace hN1:=hN1.ext hE);(try replace hN5:=hN5.ext hE);replace hX:=hX.trans hE;clear hE;simp only[cE] at hN7 ⊢;simp only[zz];refine aA (aB) (aA (bL rfl rfl) (aA (bL rfl rfl) ?_));simp only[zz];refine aA (aF) (aA (aF) ?_);simp only[zz];refine aD (hK10 _ _ ?_);refine aC (fun K11 hK11=>aC (fun K12 hK12=>wp_region_lit (aA (aB) (aA (aB) ?_))));simp only[zz];refine bE rfl rfl (Pi _ hN7 hN5 (fM _) (fM _)) ?_;rintro v w9 hE rfl;replace hB2:=hB2.ext hE;(try replace hN1:=hN1.ext hE);(try replace hN5:=hN5.ext hE);(try replace hN7:=hN7.ext hE);replace hX:=hX.trans hE;clear hE;simp only[cE];simp only[zz];refine aA (oR rfl rfl) ?_;simp only[zz];refine aD (hK12 _ _ ?_);refine cD rfl (fun hc3=>?_) (fun hc3=>?_)
    ·
     have hge:=rD.1 hc3;have hres:=Qn hp1 hRx hge;refine aC (fun K13 hK13=>wp_region_lit (aA (aB) ?_));simp only[zz];refine bE rfl rfl (tO _ hN5 (Nat.le_trans (hlen _ hRM) (by decide))) ?_;rintro v w10 hE rfl;replace hB2:=hB2.ext hE;replace hX:=hX.trans hE;clear hE;simp only[cE];simp only[zz];refine cK rfl (by simp only[zz];rfl) (by exact aO) hB2 (by simp) (by simp [Value.oneCell']) ?_;clear hB2;intro w11 hC hB2;replace hX:=hX.chg hC hG2;clear hC;simp only[zy,zx,bB,Nat.reduceAdd] at hB2;refine aA (aF) ?_;simp only[zz];refine aD (hK13 _ _ ?_);refine wp_ret ?_;try simp only[Exit.inBlock,Exit.then]
     refine pS rfl ⟨_,rfl,(hB2.lies bG aO rfl rfl)⟩ rfl ?_;try simp only[zD,zE]
     exact ⟨_,rfl,hX,by rw [← hres,nV];rfl⟩
    ·
     have hlt : ¬ R ≤ (R + X / R) / 2:=fun h=>hc3 (rD.2 h);refine wp_skip (hK11 _ _ ?_);refine wp_region_lit (aA (aB) (aA (aF) ?_));simp only[zz];refine aD ?_;simp only[Exit.inBlock,Exit.then];refine ⟨(R + X / R) / 2,_,?_,rfl,?_,?_⟩
     · rw [hn];exact Ez hlt
     · simp only[zz,zv]
     ·
      simp only[zQ,zR,zD,zE];exact ⟨(R + X / R) / 2,A7,c7,rfl,hX,hB2,hN1,hN7,Ul hp1 hRx hX0,Qm hp1,Nat.lt_trans (Ez hlt) hRM,rfl⟩
end Go.Proofs.YtfohfflkhpfjeaaGreatDoor
namespace Go.Proofs.YtfohfflkhpfjeaaGreatDoor
open Go.Proofs.Tryz
open Go.RowKit Go.Lith
set_option maxRecDepth 100000
attribute [local irreducible] wpList wpQuiet dD cO cF Code.wp
theorem ad6 {X k : Nat} (hk : k < (digs 4294967296 X).length) (h2 : (digs 4294967296 X).length ≤ 2) : IntKind.u64.wrap ((BitVec.ofInt IntKind.u64.bits ((val 4294967296 ((digs 4294967296 X).take k) : Nat) : Int) ||| BitVec.ofInt IntKind.u64.bits (((digs 4294967296 X)[k] * 4294967296 ^ k : Nat) : Int)).toNat : Int) = ((val 4294967296 ((digs 4294967296 X).take (k + 1)) : Nat) : Int):=by
 have hd:=iZ X;have h1:=iB (fun x hx=>hd x (List.mem_of_mem_take hx) : cJ 4294967296 ((digs 4294967296 X).take k));rw [List.length_take,Nat.min_eq_left (by omega)] at h1;rw [aeC h1 (hd _ (List.getElem_mem hk)) (by omega),bX hk,Nat.mul_comm]
theorem aar {X : Nat} (hl : (digs 4294967296 X).length ≤ 2) : X < 18446744073709551616:=by
 have h:=iB (iZ X);rw [cE] at h;have h3 : 4294967296 ^ (digs 4294967296 X).length ≤ 4294967296 ^ 2:=Nat.pow_le_pow_right (by omega) hl;omega
theorem ach {a : Int} (ha : Bd 1000000 a) : jB prog 81 [W a] (.tuple #[.int .i64 (Sn a),.bool (decide (nO a))]):=by
 intro w;refine ⟨adJ,?_⟩;have m:=bS.refl w;obtain ⟨X,hXa⟩ : ∃ X,X = a.natAbs:=⟨_,rfl⟩
 go_enter func81,ntmps81
 refine aC fun K1 k1=>wp_region_lit (fA m rfl ?_);clear m;intro g1 u m;refine aA (aF) (aA (aF) (aD (k1 _ _ ?_)));refine aC fun K2 k2=>wp_region_lit ?_;simp only[zz];refine aI rfl ((m.b 0 rfl).full bG aO) ?_;simp only[zz];refine fF m rfl rfl (Di _ (iE ha)) ?_;clear m;rintro v u m ⟨A1,c1,rfl,hN1⟩;simp only[zz];rw [gT,← hXa] at hN1;rw [gT,← hXa];have hx1:=m.ext;refine aA (aF) (aD (k2 _ _ ?_));refine aC fun K3 k3=>aC fun K4 k4=>wp_region_lit (aA (aB) (aA (bC rfl bA rfl) (aA (oQ rfl rfl) ?_)));simp only[zz];refine aD (k4 _ _ ?_);refine cD rfl (fun hc1=>?_) (fun hc1=>?_)
 ·
  have hbig : ¬ nO a:=Xj hXa (by omega);refine aC fun K5 k5=>wp_region_lit (aA (aF) (aA (aF) (aD (k5 _ _ ?_))));refine wp_ret ?_;simp only[zz];try simp only[Exit.inBlock,Exit.then,if_true]
  refine pS rfl rfl rfl ?_;try simp only[zD,zE]
  exact ⟨_,rfl,m.ext,Nx hbig⟩
 ·
  have hl2 : (digs 4294967296 X).length ≤ 2:=by omega
  have hX64:=aar hl2;refine wp_skip (k3 _ _ ?_);refine aC fun K6 k6=>wp_region_lit (aA (aF) (aD (k6 _ _ ?_)));refine aC fun K7 k7=>aC fun K8 k8=>wp_region_lit (aA (aB) (aA (bC rfl bA rfl) (aA (aB) ?_)));simp only[zz];refine aD (k8 _ _ ?_);refine wp_block ?_;try simp only[Nat.zero_add,Nat.reduceAdd,Nat.reduceMul,Int.reduceToNat]
  refine bN [5,15] [6,7,16,17,18,19,20,21,22,23,24,25,26] (fun n vs wl=>∃ (k : Nat),vs = [.int .u64 ((val 4294967296 ((digs 4294967296 X).take k) : Nat) : Int),.int .i64 (k:Int)] ∧ bS w wl [bI g1 [.bool (gI a),.string (lN a)] 65] ∧ (cX wl A1 (digs 4294967296 X).length c1 (digs 4294967296 X)) ∧ (k ≤ (digs 4294967296 X).length) ∧ (n = (digs 4294967296 X).length - k)) ?_ ?_
  ·
   apply Exists.intro;simp only[zQ,zR,zD,zE];exact ⟨0,rfl,m,hN1,Nat.zero_le _,rfl⟩
  ·
   intro n vs wr hI u;clear m;obtain ⟨k,rfl,m,hN1,hk,hn⟩:=hI;simp only[zu,zF,zG];refine aC fun K9 k9=>wp_region_lit (aA (cS rfl rfl) (aD (k9 _ _ ?_)));refine aC fun K10 k10=>?_;simp only[zz];refine cD rfl (fun hc2=>?_) (fun hc2=>?_)
   ·
    have hkl : k < (digs 4294967296 X).length:=by omega
    obtain ⟨p,rfl,hca,hlt⟩:=hN1.get hkl;refine wp_skip (k10 _ _ ?_);refine aC fun K11 k11=>wp_block (aC fun K12 k12=>wp_region_lit (aA (aB) ?_));simp only[zz];refine aA (aL bA aZ rfl rfl (by omega) (by omega) (fW (Int.toNat_natCast _))) ?_;simp only[zz];refine aI rfl (lies1 hca eD) ?_;simp only[zz];refine aA (aF) (aA (aF) (aD (k12 _ _ ?_)));refine wp_region_lit (aA (aB) (aA (aB) ?_));simp only[zz];refine aA (aB) ?_;simp only[zz];refine aA (eO rfl rfl (aM (by omega) (by omega))) ?_;simp only[zz];refine aA (yI rfl rfl (by omega) (ad3 hlt (by omega))) (aA (Ih rfl rfl (ad6 hkl hl2)) (aA (aF) (aD (k11 _ _ ?_))));refine wp_region_lit ?_;simp only[zz];refine aA (aR rfl rfl (aM (by omega) (by omega))) (aA (aB) (aD ?_));simp only[zz];simp only[Exit.inBlock,Exit.then];refine ⟨(digs 4294967296 X).length - (k + 1),_,?_,rfl,?_,?_⟩
    · omega
    · simp only[zz,zv]
    ·
     simp only[zQ,zR,zD,zE];exact ⟨k + 1,rfl,m,hN1,by omega,rfl⟩
   ·
    obtain rfl : k = (digs 4294967296 X).length:=by omega
    rw [List.take_length,cE];refine wp_exit (k7 _ _ ?_);refine aC fun K13 k13=>wp_block (aC fun K14 k14=>?_);rcases So hXa with ⟨h1,h2,h3,h4⟩ | ⟨h1,h2,h3⟩ | ⟨h1,h2,h3⟩ | ⟨h1,h2,h3,h4⟩
    ·
     rw [h1] at m;refine wp_region_lit (aA (aJ (c:=0) gR rfl fV rfl rfl) ?_);simp only[zz];refine aI rfl ((m.b 0 rfl).lies1 jY rfl) ?_;simp only[zz];refine aA (aB) (bM rfl (aA (aB) (bM rfl ?_)));simp only[zz];refine aA (Ti rfl rfl (by omega)) (aA (eF rfl) (aA (aF) (aD (k14 _ _ ?_))));refine cG rfl (aC fun K15 k15=>wp_region_lit (aA (aB) ?_));simp only[zz];refine aA (Tg rfl rfl) (aA (jM iN pG rfl (Xf h2)) (aA (aF) (aA (aF) ?_)));simp only[zz];refine aD (k15 _ _ ?_);refine wp_ret ?_;try simp only[Exit.inBlock,Exit.then,if_true]
     refine pS rfl rfl rfl ?_;try simp only[zD,zE]
     exact ⟨_,rfl,m.ext,Ph h3 h4.symm⟩
    ·
     rw [h1] at m;refine wp_region_lit (aA (aJ (c:=0) gR rfl fV rfl rfl) ?_);simp only[zz];refine aI rfl ((m.b 0 rfl).lies1 jY rfl) ?_;simp only[zz];refine aA (aB) (bM rfl (aA (aB) (bM rfl ?_)));simp only[zz];refine aA (Tj rfl rfl (by omega)) (aA (eF rfl) (aA (aF) (aD (k14 _ _ ?_))));refine iT rfl (aC fun K16 k16=>wp_region_lit (aA (aB) ?_));simp only[zz];refine aA (Tk rfl rfl (by omega)) (aA (aF) (aD (k16 _ _ ?_)));refine cG rfl (aC fun K17 k17=>wp_region_lit (aA (aF) (aA (aF) ?_)));simp only[zz];refine aD (k17 _ _ ?_);refine wp_ret ?_;try simp only[Exit.inBlock,Exit.then,if_true]
     refine pS rfl rfl rfl ?_;try simp only[zD,zE]
     exact ⟨_,rfl,m.ext,Nx h3⟩
    ·
     rw [h1] at m;refine wp_region_lit (aA (aJ (c:=0) gR rfl fV rfl rfl) ?_);simp only[zz];refine aI rfl ((m.b 0 rfl).lies1 jY rfl) ?_;simp only[zz];refine aA (aB) (dA rfl (dA rfl (aA (gF rfl) ?_)));simp only[zz];refine aA (aF) (aD (k14 _ _ ?_));refine iT rfl (aC fun K18 k18=>wp_region_lit (aA (aB) ?_));simp only[zz];refine aA (Tk rfl rfl (by omega)) (aA (aF) (aD (k18 _ _ ?_)));refine cG rfl (aC fun K19 k19=>wp_region_lit (aA (aF) (aA (aF) ?_)));simp only[zz];refine aD (k19 _ _ ?_);refine wp_ret ?_;try simp only[Exit.inBlock,Exit.then,if_true]
     refine pS rfl rfl rfl ?_;try simp only[zD,zE]
     exact ⟨_,rfl,m.ext,Nx h3⟩
    ·
     rw [h1] at m;refine wp_region_lit (aA (aJ (c:=0) gR rfl fV rfl rfl) ?_);simp only[zz];refine aI rfl ((m.b 0 rfl).lies1 jY rfl) ?_;simp only[zz];refine aA (aB) (dA rfl (dA rfl (aA (gF rfl) ?_)));simp only[zz];refine aA (aF) (aD (k14 _ _ ?_));refine iT rfl (aC fun K20 k20=>wp_region_lit (aA (aB) ?_));simp only[zz];refine aA (aa0 rfl rfl (by omega)) (aA (aF) (aD (k20 _ _ ?_)));refine iT rfl (wp_skip (k13 _ _ ?_));refine aC fun K21 k21=>wp_region_lit (aA (aB) (aA (jM iN pG rfl (aM (by omega) (by omega))) ?_));simp only[zz];refine aA (aF) (aA (aF) (aD (k21 _ _ ?_)));refine wp_ret ?_;simp only[zz];try simp only[Exit.inBlock,Exit.then,if_true]
     refine pS rfl rfl rfl ?_;try simp only[zD,zE]
     exact ⟨_,rfl,m.ext,Ph h3 h4.symm⟩
end Go.Proofs.YtfohfflkhpfjeaaGreatDoor
namespace Go.Lith
open Go.RowKit Go.ChangeMaps Go.MapKept
def Gg (is : List It) : It where
 own b:=∃ i ∈ is,i.own b
 P w:=(∀ i ∈ is,i.P w) ∧ is.Pairwise Ap
 lt w b h e:=by obtain ⟨i,hi,ho⟩:=e;exact i.lt w b (h.1 i hi) ho
 st w w' h s k:=⟨fun i hi=>i.st w w' (h.1 i hi) s fun b hb=>k b ⟨i,hi,hb⟩,h.2⟩
section
variable {w0 w : World} {a is : List It}
theorem bS.pack (a : List It) (m : bS w0 w (a ++ is)) : bS w0 w (a ++ [Gg is]):=by
 have h:=List.pairwise_append.1 m.nd;refine ⟨m.ext,fun i hi=>?_,fun i hi b hb=>?_,List.pairwise_append.2 ⟨h.1,List.pairwise_singleton _ _,fun x hx y hy b h1 h2=>?_⟩⟩
 · rcases List.mem_append.1 hi with hi | hi
   · exact m.all i (List.mem_append_left _ hi)
   · obtain rfl:=List.mem_singleton.1 hi
     exact ⟨fun i hi=>m.all i (List.mem_append_right _ hi),h.2.1⟩
 · rcases List.mem_append.1 hi with hi | hi
   · exact m.ge i (List.mem_append_left _ hi) b hb
   · obtain rfl:=List.mem_singleton.1 hi
     obtain ⟨j,hj,hb⟩:=hb;exact m.ge j (List.mem_append_right _ hj) b hb
 · obtain rfl:=List.mem_singleton.1 hy
   obtain ⟨j,hj,hb⟩:=h2;exact h.2.2 x hx j hj b h1 hb
theorem bS.unpack (a : List It) (m : bS w0 w (a ++ [Gg is])) : bS w0 w (a ++ is):=by
 have h:=List.pairwise_append.1 m.nd;have hP : (∀ i ∈ is,i.P w) ∧ is.Pairwise Ap:=m.all _ (List.mem_append_right _ (List.mem_singleton_self _));refine ⟨m.ext,fun i hi=>?_,fun i hi b hb=>?_,List.pairwise_append.2 ⟨h.1,hP.2,fun x hx y hy b h1 h2=>?_⟩⟩
 · rcases List.mem_append.1 hi with hi | hi
   · exact m.all i (List.mem_append_left _ hi)
   · exact hP.1 i hi
 · rcases List.mem_append.1 hi with hi | hi
   · exact m.ge i (List.mem_append_left _ hi) b hb
   · exact m.ge _ (List.mem_append_right _ (List.mem_singleton_self _)) b ⟨i,hi,hb⟩
 · exact h.2.2 x hx _ (List.mem_singleton_self _) b h1 ⟨y,hy,h2⟩
end
def Pn (P : Program) (f : FuncId) (args : List Value) (w : World) (R : Value → World → Prop) : Prop :=
 bD P f ∧ Calls P f args.toArray w fun e w'=>∃ v,e = .returned v ∧ R v w'
section
variable {P : Program} {ds : List Deferred} {l : List Value} {ty : TypeId} {w : World}
variable {ops : Array Oper} {Q : Exit → Act → World → Prop} {rest : List Oper} {d : Nat} {pos : String} {after : Array Edge}
theorem Ib {f : FuncId} {fo : Operand} {xs : Array Operand} {args : List Value} {first cap : Array Value} {a0 : Array TypeId} {R : Value → World → Prop} (hf : ev l fo = .func (.func f) first cap) (hxs : first.toList ++ xs.toList.map (ev l) ++ cap.toList = args) (hc : Pn P f args w R)
 (h : ∀ v u,R v u → wpList P ops Q rest (Fr (l.set d v) ds) u) : wpList P ops Q (Oper.mk (some d) (.call { callee:=.value fo,args:=xs,argTypes:=a0 }) ty pos after none :: rest) (Fr l ds) w:=by
 refine wpList_plain rfl fun K hK=>?_;unfold Oper.wp;rw [gD,kM hc.1 hf hxs _ rfl];refine hc.2.mono ?_;rintro e w' ⟨v,rfl,hR⟩;show K ((Fr l ds).put (some d) v) w'
 rw [iL];exact hK _ _ (h v w' hR)
end
end Go.Lith
namespace Go.Proofs.YtfohfflkhpfjeaaGreatDoor
open Go.Proofs.Tryz
open Go.RowKit Go.Lith
set_option maxRecDepth 100000
attribute [local irreducible] wpList wpQuiet dD cO cF Code.wp
theorem Oa {fs gs : List T3} {N cap N2 cap2 : Nat} {A A2 : Option Addr} {g1 : Nat} {H R J M : Value} (w : World) (hB1 : fQ w g1 [.slice A N cap,.slice A2 N2 cap2,H,R,M,J] 73) (hT : dZ w A N fs) (hT2 : dZ w A2 N2 gs) (hN : N ≤ 10000000) (hN2 : N2 ≤ 10000000) : eE prog 31 [.pointer (some ⟨g1,0,none⟩)] w (fun v _=>v = .int .i64 (if eA true fs ≠ 0 then eA true fs else eA true gs)):=by
 refine ⟨ac4,?_⟩;have m:=bS.refl w
 go_enter func31,ntmps31
 refine aC fun K1 k1=>wp_region_lit (aA (aF) (aD (k1 _ _ ?_)));refine aC fun K2 k2=>aC fun K3 k3=>wp_region_lit (aA (aB) (aA (cN rfl) (aA (aJ (c:=0) iA rfl iJ rfl rfl) ?_)));simp only[zz];refine aI rfl ((hB1.ext m.ext).lies1 mG rfl) ?_;simp only[zz];refine fF m rfl rfl (xA _ (hT.ext m.ext) hN) ?_;clear m;rintro v u m rfl;refine aA (aF) (aD (k3 _ _ ?_));refine aC fun K4 k4=>wp_region_lit (aA (aB) (aA (mV rfl rfl) ?_));simp only[zz];refine aD (k4 _ _ ?_);refine cD rfl (fun hc1=>?_) (fun hc1=>?_)
 ·
  refine aC fun K5 k5=>wp_region_lit (aA (aB) (aA (aF) (aD (k5 _ _ ?_))));refine wp_ret ?_;simp only[zz];try simp only[Exit.inBlock,Exit.then,if_true]
  refine bP rfl rfl ?_;try simp only[zD,zE]
  exact ⟨_,rfl,m.ext,by rw [if_pos hc1]⟩
 ·
  refine wp_skip (k2 _ _ ?_);refine aC fun K6 k6=>wp_region_lit (aA (aB) (aA (cN rfl) (aA (aJ (c:=0) iA rfl iJ rfl rfl) ?_)));simp only[zz];refine aI rfl ((hB1.ext m.ext).lies1 mG rfl) ?_;simp only[zz];refine fF m rfl rfl (xA _ (hT2.ext m.ext) hN2) ?_;clear m;rintro v u m rfl;refine aA (aF) (aD (k6 _ _ ?_));refine wp_ret ?_;simp only[zz];try simp only[Exit.inBlock,Exit.then,if_true]
  refine bP rfl rfl ?_;try simp only[zD,zE]
  exact ⟨_,rfl,m.ext,by rw [if_neg (fun h=>hc1 h)]⟩
def zW (f c : List T3) : Int:=if aS f ≠ aS c then 30 else if pL f c (aS f) = true ∨ wV f c (aS f) = false then 30 else 0
theorem ad7 {f c : List T3} (h : ¬ aS f = aS c) : zW f c = 30:=if_pos h
theorem aaU {f c : List T3} (h : pL f c (aS f) = true ∨ wV f c (aS f) = false) : zW f c = 30:=by
 unfold zW;rw [if_pos h];split <;> rfl
theorem ad8 {f c : List T3} (h1 : aS f = aS c) (h2 : pL f c (aS f) = false) (h3 : wV f c (aS f) = true) : zW f c = 0:=by
 rw [zW,if_neg (fun k=>k h1),if_neg];rintro (k | k)
 · rw [h2] at k;cases k
 · rw [h3] at k;cases k
theorem Su {K V : Type} [DecidableEq K] : ∀ {xs : List (K × V)},(xs.map (·.1)).Nodup → lK [] xs = xs:=by
 intro xs;have key : ∀ (ys D : List (K × V)),((D ++ ys).map (·.1)).Nodup → lK D ys = D ++ ys:=by
  intro ys
  induction ys with
  | nil=>intro D _;rw [List.append_nil];rfl
  | cons y ys ih =>
   intro D h;have hy : y.1 ∉ D.map (·.1):=by
    rw [List.map_append,List.nodup_append] at h;exact fun k=>h.2.2 _ k _ (by simp) rfl
   have e : fT D y.1 y.2 = D ++ [y]:=by
    have hm : lZ D y.1 0 = none:=by
     cases hf : lZ D y.1 0 with
     | none=>rfl
     | some q =>
      obtain ⟨p,_,hp,_⟩:=mJ D y.1 0 q.1 q.2 hf;exact absurd (List.mem_map.2 ⟨_,List.mem_of_getElem? hp,rfl⟩) hy
    exact (mH D y.1 0 hm).2.1 y.2
   show lK (fT D y.1 y.2) ys = _
   rw [e,ih (D ++ [y]) (by simpa using h)];simp
 exact key xs []
theorem Po (f c : List T3) (rim : List E3) : wV f c rim = decide (uX f rim = uX c rim):=by
 rw [Bool.eq_iff_iff,decide_eq_true_eq];unfold wV uX;rw [List.all_eq_true,List.map_inj_left];exact ⟨fun h e he=>by rw [of_decide_eq_true (h e he)],fun h e he=>decide_eq_true (congrArg Prod.snd (h e he))⟩
theorem Xo {f c : List T3} {es : Array MapEntry} {sn : Array Nat} {dn : List (E3 × Bool)} (h : lB ed Value.bool (fP [] (kK c)) es sn dn []) (hno : ∀ y ∈ dn,Nm f (aS f) y.1 = false) : pL f c (aS f) = false:=by
 cases hj : pL f c (aS f) with
 | false=>rfl
 | true =>
  obtain ⟨e,he,hn⟩:=Fz.1 hj;have h1 : e ∈ (fP [] (kK c)).map (·.1):=(tC _ _ _).2 (.inr he);obtain ⟨y,hy,rfl⟩:=List.mem_map.1 h1;rw [hno y (h.done.mem_iff.2 hy)] at hn;cases hn
theorem Xp {f c : List T3} {es : Array MapEntry} {sn : Array Nat} {dn rs : List (E3 × Bool)} (h : lB ed Value.bool (fP [] (kK c)) es sn dn rs) {y : E3 × Bool} (hy : y ∈ dn) (hn : Nm f (aS f) y.1 = true) : pL f c (aS f) = true:=by
 have h1 : y.1 ∈ (fP [] (kK c)).map (·.1):=List.mem_map.2 ⟨y,h.1.mem_iff.1 (List.mem_append_left _ hy),rfl⟩;exact Fz.2 ⟨y.1,((tC _ _ _).1 h1).resolve_left (by simp),hn⟩
theorem Sv {w0 w : World} {K : It} {fs gs : List T3} {N cap N2 cap2 : Nat} {A A2 : Option Addr} {g1 : Nat} {H R J M : Value} (m : bS w0 w [bI g1 [.slice A N cap,.slice A2 N2 cap2,H,R,M,J] 73,K]) (hT : dZ w0 A N fs) (hT2 : dZ w0 A2 N2 gs) (hN : N ≤ 10000000) (hN2 : N2 ≤ 10000000) (hf : eA true fs = 0) (hg : eA true gs = 0) : Pn prog 32 [.pointer (some ⟨g1,0,none⟩)] w fun v w'=>∃ A4 c4,v = .int .i64 (zW fs gs) ∧ bS w0 w' [oI 57 6 A4 (aS fs).length c4 ((aS fs).flatMap bV),bI g1 [.slice A N cap,.slice A2 N2 cap2,H,.slice A4 (aS fs).length c4,M,J] 73,K]:=by
 refine ⟨ac5,?_⟩;have hbl : (aS fs).length ≤ 30000000:=by have h1:=sV (all:=bH fs) (bH fs) [];have h2:=mF fs;have h3:=hT.len;simp only[List.length_nil] at h1;unfold aS;omega
 have hbn : (aS fs).Nodup:=(uW fs).nodup
 go_enter func32,ntmps32
 refine aC fun K1 k1=>wp_region_lit (aA (aF) (aD (k1 _ _ ?_)));refine aC fun K2 k2=>wp_region_lit (aA (aB) (aA (aB) (aA (cN rfl) ?_)));simp only[zz];refine aA (aJ (c:=0) iA rfl iJ rfl rfl) ?_;simp only[zz];refine aI rfl ((m.b 0 rfl).lies1 mG rfl) ?_;simp only[zz];refine bE rfl rfl (Gb _ (hT.ext m.ext) hN) ?_;rintro v u e ⟨A4,c4,n4,hn4,rfl,hN⟩;replace m:=m.newO e hN;clear e hN;subst hn4;refine aA (cN rfl) (aA (aJ (c:=0) iA rfl nC rfl rfl) ?_);simp only[zz];refine Ol (off:=3) m 1 rfl rfl rfl nC (dH rfl) ⟨rfl,rfl⟩ ?_;clear m;intro u m;simp only[zz,zy,zx,bB,Nat.reduceAdd] at m;refine aD (k2 _ _ ?_);refine aC fun K3 k3=>aC fun K4 k4=>?_;refine mh m [true,true,true] [(0,true),(1,true),(2,true),(4,true),(5,true),(6,true),(3,true),(7,true),(8,false),(9,false),(10,true)] aP (by kernel_rfl) (dB (fun _ _ _ _ _ h=>h)) (ol:=?_) ?hol ?_
 case hol=>simp only[zw,zQ,zR];try rfl
 clear m;intro u m;refine aW (aB) (aW (cN rfl) (aW (aJ (c:=0) iA rfl nC rfl rfl) (aW (aB) ?_)));simp only[zz];refine aW (cN rfl) (aW (aJ (c:=0) iA rfl iJ rfl rfl) ?_);simp only[zz];refine bQ rfl (fun u m=>((m.b 1 rfl).lies1 Bz rfl)) ?_;simp only[zz];refine bQ rfl (fun u m=>((m.b 1 rfl).lies1 mG rfl)) ?_;simp only[zz];refine bU (bE rfl rfl (Gb _ (hT2.ext m.ext) hN2) ?_);rintro v u e ⟨A5,c5,n5,hn5,rfl,hN⟩;replace m:=m.newO e hN;clear e hN;subst hn5;refine aD (⟨m.sel [false,true,true,true],?_⟩);refine bU ?_;simp only[zz];refine fF m rfl rfl (Sr _ ((m.o 1 rfl).lat tY (by decide)) ((m.o 0 rfl).lat tY (by decide)) (by omega)) ?_;clear m;rintro v u m rfl;refine aD (⟨m.sel [false,true,true,true],?_⟩);refine aW (iO rfl) (dF (k4 _ _ ?_));simp only[zz];refine fB rfl (fun hc1=>?_) (fun hc1=>?_)
 ·
  have hne : ¬ aS fs = aS gs:=by simpa using hc1
  refine aC fun K5 k5=>wp_region_lit (aA (aF) (aD (k5 _ _ ?_)));refine wp_ret ?_;simp only[zz];try simp only[Exit.inBlock,Exit.then,if_true]
  refine bP rfl rfl ?_;try simp only[zD,zE]
  exact ⟨_,rfl,_,_,by rw [ad7 hne],m.sel [false,true,true,true]⟩
 ·
  have hbe : aS fs = aS gs:=by simpa using hc1
  refine wp_skip (k3 _ _ ?_);refine aC fun K6 k6=>wp_region_lit (jL m ?_);clear m;intro q9 u m;have hD9:=bZ.nil (K:=P3) (V:=Bool) pt Value.bool;refine aA (aF) (aD (k6 _ _ ?_));refine aC fun K7 k7=>aC fun K8 k8=>wp_region_lit (aA (aB) (aA (cN rfl) ?_));simp only[zz];refine aA (aJ (c:=0) iA rfl nC rfl rfl) ?_;simp only[zz];refine aI rfl ((m.b 3 rfl).lies1 Bz rfl) ?_;simp only[zz];refine aA (bC rfl gB rfl) (aA (aB) (aD (k8 _ _ ?_)));refine wp_block ?_;simp only[zz];try simp only[Nat.zero_add,Nat.reduceAdd,Nat.reduceMul,Int.reduceToNat]
  refine bN [33] [5,34,35,36,37,38,39,40,41,42,43] (fun n vs wl=>∃ (k : Nat) (es : Array MapEntry) (c : Nat),vs = [.int .i64 (k:Int)] ∧ bS w0 wl [mI q9 es c,oI 57 6 A4 (aS fs).length c4 ((aS fs).flatMap bV),bI g1 [.slice A N cap,.slice A2 N2 cap2,H,.slice A4 (aS fs).length c4,M,J] 73,K] ∧ (bZ pt Value.bool (fP [] (Cv ((aS fs).take k))) es c) ∧ (k ≤ (aS fs).length) ∧ (n = (aS fs).length - k)) ?_ ?_
  ·
   apply Exists.intro;simp only[zQ,zR,zD,zE];exact ⟨0,_,_,rfl,(m.sel [true,false,true,true,true]),hD9,Nat.zero_le _,rfl⟩
  ·
   intro n vs wr hI u;clear m;obtain ⟨k,es9,c9,rfl,m,hD9,hk,hn⟩:=hI;simp only[zu,zF,zG];refine aC fun K9 k9=>wp_region_lit (aA (cS rfl rfl) (aD (k9 _ _ ?_)));refine aC fun K10 k10=>?_;simp only[zz];refine cD rfl (fun hc2=>?_) (fun hc2=>?_)
   ·
    obtain ⟨e,he⟩ : ∃ e,(aS fs)[k]? = some e:=⟨_,List.getElem?_eq_getElem (by omega)⟩
    obtain ⟨gO,rfl⟩:=(m.o 1 rfl).some (by omega);refine wp_skip (k10 _ _ ?_);refine aC fun K11 k11=>wp_block (aC fun K12 k12=>wp_region_lit (aA (aL gB cV rfl rfl (by omega) (by omega) (dP (Int.toNat_natCast _))) ?_));simp only[zz];refine aI rfl (((m.o 1 rfl).at tY he).lies kJ cV) ?_;simp only[zz];refine aY m rJ rfl ?_;clear m;intro g3 u m;simp only[zz];refine aQ m 0 rfl rfl rfl cV (dH rfl) rfl ?_;clear m;intro u m;simp only[zy,zx,bB,zF,zG,Nat.reduceAdd] at m;refine aD (k12 _ _ ?_);refine mh m [true,false,true,true,true] [(0,true),(1,true),(3,true),(4,true),(2,true),(5,true),(6,false),(7,false)] aP (by kernel_rfl) (dB (fun _ _ _ _ _ h=>h)) (ol:=?_) ?hol ?_
    case hol=>simp only[zw,zQ,zR];try rfl
    clear m;intro u m;refine aW (aB) (aW (aH jJ aG rfl rfl (by decide) (by decide) rfl) (aW (aB) (aW (aH jJ aG rfl rfl (by decide) (by decide) rfl) ?_)));simp only[zz];refine bQ rfl (fun u m=>((m.b 0 rfl).lies aK aG rfl rfl)) ?_;simp only[zz,zy,Nat.zero_add,Nat.reduceAdd,Nat.reduceMul,Int.reduceToNat];refine bQ rfl (fun u m=>((m.b 0 rfl).lies aK aG rfl rfl)) ?_;simp only[zz,zy,Nat.zero_add,Nat.reduceAdd,Nat.reduceMul,Int.reduceToNat];refine bU (eZ (ek:=pt) (en:=Value.bool) (a:=e.1) (v:=true) m 1 rfl lV gC rfl rfl rfl hD9 ?_);clear m;intro es9 c9 u m hD';clear hD9;have hD9:=hD';clear hD';simp only[zF,zG] at m;rw [← lJ] at hD9;refine aD (⟨m.sel [true,false,true,true,true],?_⟩);refine bU (eZ (ek:=pt) (en:=Value.bool) (a:=e.2) (v:=true) m 1 rfl lV gC rfl rfl rfl hD9 ?_);clear m;intro es9 c9 u m hD';clear hD9;have hD9:=hD';clear hD';simp only[zF,zG] at m;rw [← lJ] at hD9;refine aD (⟨m.sel [true,false,true,true,true],?_⟩);refine dF (k11 _ _ ?_);refine wp_region_lit (aA (aR rfl rfl (aM (by omega) (by omega))) (aA (aB) (aD ?_)));simp only[zz];simp only[Exit.inBlock,Exit.then];refine ⟨(aS fs).length - (k + 1),_,?_,rfl,?_,?_⟩
    · omega
    · simp only[zz,zv]
    ·
     simp only[zQ,zR,zD,zE];exact ⟨k + 1,_,_,rfl,(m.sel [false,true,true,true,true]),by rw [Kw he];simpa [List.append_assoc] using hD9,by omega,rfl⟩
   ·
    obtain rfl : k = (aS fs).length:=by omega
    rw [List.take_length] at hD9;refine wp_exit (k7 _ _ ?_);refine aC fun K13 k13=>aC fun K14 k14=>?_;refine mh m [true,true,true,true] [(0,true),(1,true),(2,true),(4,true),(5,true),(6,true),(9,true),(10,true),(11,true),(13,true),(14,true),(15,true),(3,true),(7,true),(12,true),(16,true),(8,false),(17,false),(18,false),(19,true)] aP (by kernel_rfl) (dB (fun _ _ _ _ _ h=>h)) (ol:=?_) ?hol ?_
    case hol=>simp only[zw,zQ,zR];try rfl
    clear m;intro u m;refine aW (aB) (aW (cN rfl) (aW (aJ (c:=0) iA rfl iJ rfl rfl) (aW (aB) ?_)));simp only[zz];refine aW (cN rfl) (aW (aJ (c:=0) iA rfl nC rfl rfl) (aW (aB) (aW (cN rfl) ?_)));simp only[zz];refine aW (aJ (c:=0) iA rfl iJ rfl rfl) (aW (aB) (aW (cN rfl) (aW (aJ (c:=0) iA rfl nC rfl rfl) ?_)));simp only[zz];refine bQ rfl (fun u m=>((m.b 2 rfl).lies1 mG rfl)) ?_;simp only[zz];refine bQ rfl (fun u m=>((m.b 2 rfl).lies1 Bz rfl)) ?_;simp only[zz];refine bQ rfl (fun u m=>((m.b 2 rfl).lies1 mG rfl)) ?_;simp only[zz];refine bQ rfl (fun u m=>((m.b 2 rfl).lies1 Bz rfl)) ?_;simp only[zz];refine bU (bE rfl rfl (Xh (rim:=(aS fs)) _ (hT.ext m.ext) hN ((m.o 1 rfl).lat tY (by decide)) (by omega) (xE hf).1 (xE hf).2 (fun e he=>(rO.1 he).2)) ?_);rintro v u e ⟨g10,es10,c10,rfl,hM,hD10⟩;replace m:=m.plus hM;clear hM e;simp only[List.cons_append,List.nil_append] at m;refine aD (⟨m.sel [false,true,true,true,true],?_⟩);refine bU ?_;simp only[zz];refine bE rfl rfl (Xh (rim:=(aS fs)) _ (hT2.ext m.ext) hN2 ((m.o 2 rfl).lat tY (by decide)) (by omega) (xE hg).1 (xE hg).2 (fun e he=>(rO.1 (hbe ▸ he)).2)) ?_;rintro v u e ⟨g11,es11,c11,rfl,hM,hD11⟩;replace m:=m.plus hM;clear hM e;simp only[List.cons_append,List.nil_append] at m;rw [Su (by rw [uG];exact hbn)] at hD10 hD11;refine aD (⟨m.sel [false,false,true,true,true,true],?_⟩);refine bU ?_;simp only[zz];refine fF m rfl rfl (aan _ (m.p 1 rfl) hD10 (m.p 0 rfl) hD11 (by rw [uG,uG]) (by rw [uG];exact hbn)) ?_;clear m;rintro v u m rfl;refine aD (⟨m.sel [false,false,true,true,true,true],?_⟩);refine aW (iO rfl) (dF (k14 _ _ ?_));simp only[zz];refine fB rfl (fun hc3=>?_) (fun hc3=>?_)
    ·
     have hfan : wV fs gs (aS fs) = false:=by rw [Po];simpa using hc3
     refine aC fun K15 k15=>wp_region_lit (aA (aF) (aD (k15 _ _ ?_)));refine wp_ret ?_;simp only[zz];try simp only[Exit.inBlock,Exit.then,if_true]
     refine bP rfl rfl ?_;try simp only[zD,zE]
     exact ⟨_,rfl,_,_,by rw [aaU (.inr hfan)],m.sel [false,false,false,true,true,true]⟩
    ·
     have hfan : wV fs gs (aS fs) = true:=by rw [Po];simpa using hc3
     refine wp_skip (k13 _ _ ?_);refine aC fun K16 k16=>wp_region_lit (aA (aB) (aA (cN rfl) (aA (aJ (c:=0) iA rfl iJ rfl rfl) ?_)));simp only[zz];refine aI rfl ((m.b 4 rfl).lies1 mG rfl) ?_;simp only[zz];refine bE rfl rfl (Dg _ (hT.ext m.ext) hN) ?_;rintro v u e ⟨g12,es12,c12,rfl,hM,hD12⟩;replace m:=m.plus hM;clear hM e;simp only[List.cons_append,List.nil_append] at m;refine aA (aF) (aD (k16 _ _ ?_));refine aC fun K17 k17=>aC fun K18 k18=>wp_region_lit (aA (aB) (aA (cN rfl) ?_));simp only[zz];refine aA (aJ (c:=0) iA rfl iJ rfl rfl) ?_;simp only[zz];refine aI rfl ((m.b 5 rfl).lies1 mG rfl) ?_;simp only[zz];refine bE rfl rfl (Dg _ (hT2.ext m.ext) hN2) ?_;rintro v u e ⟨g13,es13,c13,rfl,hM,hD13⟩;replace m:=m.plus hM;clear hM e;simp only[List.cons_append,List.nil_append] at m;simp only[zz];refine vN m mP rfl (m.p 0 rfl) ?_;clear m;intro r1 u m;refine aD (k18 _ _ ?_);refine wp_block ?_;simp only[zz];try simp only[Nat.zero_add,Nat.reduceAdd,Nat.reduceMul,Int.reduceToNat]
     refine bN [] [2,7,75,76,77,78,79,80,81,82,83,84,85,86,87,88,89,90,91,92,93,94] (fun n vs wl=>∃ (dn rs : List (E3 × Bool)) (sn : Array Nat),vs = [] ∧ bS w0 wl [iI r1 g13 c13 sn,mI g13 es13 c13,mI g12 es12 c12,mI q9 es9 c9,oI 57 6 A4 (aS fs).length c4 ((aS fs).flatMap bV),bI g1 [.slice A N cap,.slice A2 N2 cap2,H,.slice A4 (aS fs).length c4,M,J] 73,K] ∧ (lB ed Value.bool (fP [] (kK gs)) es13 sn dn rs) ∧ (∀ y ∈ dn,Nm fs (aS fs) y.1 = false) ∧ (n = rs.length)) ?_ ?_
     ·
      apply Exists.intro;simp only[zQ,zR,zD,zE];exact ⟨[],_,#[],trivial,(m.sel [true,true,true,false,false,true,true,true,true]),lB.start hD13,fun _ h=>(by cases h),rfl⟩
     ·
      intro n vs wr hI u;clear m;obtain ⟨dn,rs,sn,rfl,m,hT9,hno,hn⟩:=hI;simp only[zu,zF,zG];refine aC fun K19 k19=>wp_region_lit (Cg m 0 rfl rfl (m.p 1 rfl) hD13 hT9 ?_);clear m;intro bb kk vv sn u m hN;simp only[zF,zG] at m;refine aA (rK rfl) (aD (k19 _ _ ?_));refine aC fun K20 k20=>?_;simp only[zz];refine fB rfl (fun hc4=>?_) (fun hc4=>?_)
      ·
       obtain ⟨kp,kb,rs2,hp,hT8⟩:=Cj hc4 hN;refine wp_skip (k20 _ _ ?_);refine wp_block (aC fun K21 k21=>wp_region_lit (eL (rL rfl (m.r 0 rfl) (m.p 1 rfl) hD13 hT8) ?_));simp only[zz];refine aA (bL rfl rfl) ?_;simp only[zz];refine aY m rJ rfl ?_;clear m;intro g4 u m;simp only[zz];refine aQ m 0 rfl rfl rfl cV (dH rfl) rfl ?_;clear m;intro u m;simp only[zy,zx,bB,zF,zG,Nat.reduceAdd] at m;refine aD (k21 _ _ ?_);refine aC fun K22 k22=>wp_region_lit (aA (aB) (aA (aH jJ aG rfl rfl (by decide) (by decide) rfl) ?_));simp only[zz];refine aI rfl ((m.b 0 rfl).lies aK aG rfl rfl) ?_;simp only[zz,zy,Nat.zero_add,Nat.reduceAdd,Nat.reduceMul,Int.reduceToNat];refine eL (eB (ek:=pt) (en:=Value.bool) (k:=kp.1) (v0:=false) lV lA gC rfl rfl (m.p 4 rfl) hD9) ?_;simp only[zz];refine aA (aB) (dS rfl (fun hb=>aB) (dS rfl (fun hb=>aH jJ aG rfl rfl (by decide) (by decide) rfl) ?_));simp only[zz];refine iQ rfl (fun hb=>dI (bW hb rfl) ((m.b 0 rfl).lies aK aG rfl rfl)) ?_;simp only[zz,zy,Nat.zero_add,Nat.reduceAdd,Nat.reduceMul,Int.reduceToNat];refine iQ rfl (fun hb=>eB (ek:=pt) (en:=Value.bool) (k:=kp.2) (v0:=false) lV lA gC (bW hb rfl) (bW hb rfl) (m.p 4 rfl) hD9) ?_;simp only[zz];refine aA (dV rfl rfl rfl) (aA (aB) (dS rfl (fun hb=>aB) ?_));simp only[zz];refine iQ rfl (fun hb=>dI rfl ((m.b 0 rfl).full kJ cV)) (iQ rfl (fun hb=>eB (ek:=ed) (en:=Value.bool) (k:=kp) (v0:=false) mP lA mB (bW hb rfl) (bW hb rfl) (m.p 3 rfl) hD12) ?_);simp only[zz];refine dS rfl (fun hb=>iO (bW hb rfl)) (aA (dV rfl rfl rfl) (aD (k22 _ _ ?_)));simp only[zz];refine fB rfl (fun hc5=>?_) (fun hc5=>?_)
       ·
        have hnw : Nm fs (aS fs) kp = true:=by rw [Am,Am,uF] at hc5;exact hc5
        have hj:=Xp hT8 (y:=(kp,kb)) (by simp) hnw;refine aC fun K23 k23=>wp_region_lit (aA (aF) (aD (k23 _ _ ?_)));refine wp_ret ?_;simp only[zz];try simp only[Exit.inBlock,Exit.then,if_true]
        refine bP rfl rfl ?_;try simp only[zD,zE]
        exact ⟨_,rfl,_,_,by rw [aaU (.inl hj)],m.sel [false,false,false,false,false,true,true,true]⟩
       ·
        have hnw : Nm fs (aS fs) kp = false:=by rw [Am,Am,uF] at hc5;exact hc5
        refine wp_skip ?_;simp only[Exit.inBlock,Exit.then];refine ⟨rs2.length,_,?_,rfl,?_,?_⟩
        · rw [hn,hp.length_eq];exact Nat.lt_succ_self _
        · simp only[zz,zv]
        ·
         simp only[zQ,zR,zD,zE];exact ⟨dn ++ [(kp,kb)],rs2,_,trivial,(m.sel [false,true,true,true,true,true,true,true]),hT8,fun y hy=>(List.mem_append.1 hy).elim (hno y) fun hy=>by obtain rfl:=List.mem_singleton.1 hy;exact hnw,rfl⟩
      ·
       obtain rfl:=Ci hc4 hN;refine wp_exit (k17 _ _ ?_);refine aC fun K24 k24=>wp_region_lit (aA (aF) (aD (k24 _ _ ?_)));refine wp_ret ?_;simp only[zz];try simp only[Exit.inBlock,Exit.then,if_true]
       refine bP rfl rfl ?_;try simp only[zD,zE]
       exact ⟨_,rfl,_,_,by rw [ad8 hbe (Xo hT9 hno) hfan],m.sel [false,false,false,false,true,true,true]⟩
end Go.Proofs.YtfohfflkhpfjeaaGreatDoor
namespace Go.Proofs.YtfohfflkhpfjeaaGreatDoor
open Go.Proofs.Tryz
open Go.RowKit Go.Lith
set_option maxRecDepth 100000
attribute [local irreducible] wpList wpQuiet dD cO cF Code.wp
theorem Dl {K V : Type} [DecidableEq K] (xs : List (K × V)) (x : K × V) : lK [] (xs ++ [x]) = fT (lK [] xs) x.1 x.2:=Kl [] xs [x]
theorem aeD {x y z : Bool} (h : ((!x || !y) || !z) = false) : (x && y && z) = true:=by revert h;cases x <;> cases y <;> cases z <;> decide
theorem aeE {x y z : Bool} (h : ((!x || !y) || !z) = true) : (x && y && z) = false:=by revert h;cases x <;> cases y <;> cases z <;> decide
theorem aeF {l x y z : Bool} (h : (((!l || !x) || !y) || !z) = false) : (l && x && y && z) = true:=by revert h;cases l <;> cases x <;> cases y <;> cases z <;> decide
theorem aeG {l x y z : Bool} (h : (((!l || !x) || !y) || !z) = true) : (l && x && y && z) = false:=by revert h;cases l <;> cases x <;> cases y <;> cases z <;> decide
theorem xF {f c : List T3} {ms : List Mv} {rim : List E3} {i : Nat} {m : Mv} (hm : ms[i]? = some m) (h : qP f c ms rim i m = false) : oM f c ms rim = false:=by
 cases hh : oM f c ms rim with
 | false=>rfl
 | true=>rw [vQ.1 hh i m hm] at h;cases h
theorem Ob {w : World} {a : Addr} {e : E3} (h : mC w a (bV e)) : mC w a [.int .i64 e.1.x,.int .i64 e.1.y,.int .i64 e.1.z,.int .i64 e.2.x,.int .i64 e.2.y,.int .i64 e.2.z]:=h
theorem aci {w0 w : World} {K : It} {fs gs : List T3} {ms : List Mv} {N cap N2 cap2 N3 cap3 c4 : Nat} {A A2 A3 A4 : Option Addr} {g1 q7 c7 : Nat} {es7 : Array MapEntry} {J : Value} (m : bS w0 w [oI 57 6 A4 (aS fs).length c4 ((aS fs).flatMap bV),bI g1 [.slice A N cap,.slice A2 N2 cap2,.slice A3 N3 cap3,.slice A4 (aS fs).length c4,.map (some q7),J] 73,mI q7 es7 c7,K]) (hT : dZ w0 A N fs) (hT2 : dZ w0 A2 N2 gs) (hL3 : uN bV 6 w0 A3 N3 ms) (hN : N ≤ 300000) (hN2 : N2 ≤ 300000) (hN3 : N3 ≤ 10000000) (hD7 : bZ pt pt (lK [] ([] : List Mv)) es7 c7) : Pn prog 33 [.pointer (some ⟨g1,0,none⟩)] w fun v w'=>∃ es7 c7,v = .int .i64 (if oM fs gs ms (aS fs) = true then 0 else 31) ∧ bS w0 w' [oI 57 6 A4 (aS fs).length c4 ((aS fs).flatMap bV),bI g1 [.slice A N cap,.slice A2 N2 cap2,.slice A3 N3 cap3,.slice A4 (aS fs).length c4,.map (some q7),J] 73,mI q7 es7 c7,K] ∧ (oM fs gs ms (aS fs) = true → bZ pt pt (lK [] ms) es7 c7):=by
 refine ⟨ac6,?_⟩;have hbl : (aS fs).length ≤ 30000000:=by have h1:=sV (all:=bH fs) (bH fs) [];have h2:=mF fs;have h3:=hT.len;simp only[List.length_nil] at h1;unfold aS;omega
 have el3:=hL3.len
 go_enter func33,ntmps33
 refine aC fun K1 k1=>wp_region_lit (aA (aF) (aD (k1 _ _ ?_)));refine aC fun K2 k2=>wp_region_lit (aA (aB) (aA (cN rfl) (aA (aJ (c:=0) iA rfl iJ rfl rfl) ?_)));simp only[zz];refine aI rfl ((m.b 1 rfl).lies1 mG rfl) ?_;simp only[zz];refine bE rfl rfl (Df _ (hT.ext m.ext) hN) ?_;rintro v u e ⟨A8,n8,cap8,_,rfl,hN,ps,rfl,hso,hmem⟩;replace m:=m.newO e hN;clear e hN;refine aA (aF) (aD (k2 _ _ ?_));refine aC fun K3 k3=>?_;simp only[zz];refine mh m [true,true,true,true,true] [(0,true),(2,true),(4,true),(5,true),(6,true),(7,true),(1,false),(3,false),(8,false),(9,false),(10,true),(11,true),(12,true)] aP (by kernel_rfl) (dB (fun _ _ _ _ _ h=>h)) (ol:=?_) ?hol ?_
 case hol=>simp only[zw,zQ,zR];try rfl
 clear m;intro u m;refine aW (aB) (aW (aB) (aW (aB) (aW (cN rfl) ?_)));simp only[zz];refine aW (aJ (c:=0) iA rfl iJ rfl rfl) ?_;simp only[zz];refine bQ rfl (fun u m=>((m.b 2 rfl).lies1 mG rfl)) ?_;simp only[zz];refine bU (bE rfl rfl (Xg _ ((m.o 0 rfl).lat pc3 (by decide)) (Nat.le_trans (m.o 0 rfl).le (m.o 0 rfl).max)) ?_);rintro v u e ⟨q9,es9,c9,rfl,hM,hD9⟩;replace m:=m.plus hM;clear hM e;simp only[List.cons_append,List.nil_append] at m;refine aD (⟨m.sel [false,true,true,true,true,true],?_⟩);refine bU ?_;simp only[zz];refine bE rfl rfl (Xg _ ((m.o 1 rfl).lat pc3 (by decide)) (Nat.le_trans (m.o 1 rfl).le (m.o 1 rfl).max)) ?_;rintro v u e ⟨q10,es10,c10,rfl,hM,hD10⟩;replace m:=m.plus hM;clear hM e;simp only[List.cons_append,List.nil_append] at m;refine aD (⟨m.sel [false,false,true,true,true,true,true],?_⟩);refine bU ?_;simp only[zz];refine bE rfl rfl (Df _ (hT2.ext m.ext) hN2) ?_;rintro v u e ⟨A11,n11,cap11,_,rfl,hN,qs,rfl,hso2,hmem2⟩;replace m:=m.newO e hN;clear e hN;refine aD (⟨m.sel [false,false,false,true,true,true,true,true],?_⟩);refine bU ?_;simp only[zz];refine bE rfl rfl (Xg _ ((m.o 0 rfl).lat pc3 (by decide)) (Nat.le_trans (m.o 0 rfl).le (m.o 0 rfl).max)) ?_;rintro v u e ⟨q12,es12,c12,rfl,hM,hD12⟩;replace m:=m.plus hM;clear hM e;simp only[List.cons_append,List.nil_append] at m;refine aD (⟨m.sel [false,false,false,false,true,true,true,true,true],?_⟩);refine aW (aF) (aW (aF) (aW (aF) ?_));simp only[zz];refine dF (k3 _ _ ?_);refine aC fun K4 k4=>aC fun K5 k5=>wp_region_lit (aA (aB) (aA (cN rfl) (aA (aJ (c:=0) iA rfl nC rfl rfl) ?_)));simp only[zz];refine aI rfl ((m.b 6 rfl).lies1 Bz rfl) ?_;simp only[zz];refine aA (bC rfl gB rfl) (aA (aB) (aD (k5 _ _ ?_)));refine wp_block ?_;simp only[zz];try simp only[Nat.zero_add,Nat.reduceAdd,Nat.reduceMul,Int.reduceToNat]
 refine bN [33] [8,34,35,36,37,38,39,40,41,42,43] (fun n vs wl=>∃ (k : Nat) (es : Array MapEntry) (cc : Nat),vs = [.int .i64 (k:Int)] ∧ bS w0 wl [mI q12 es12 c12,mI q10 es10 c10,mI q9 es cc,oI 57 6 A4 (aS fs).length c4 ((aS fs).flatMap bV),bI g1 [.slice A N cap,.slice A2 N2 cap2,.slice A3 N3 cap3,.slice A4 (aS fs).length c4,.map (some q7),J] 73,mI q7 es7 c7,K] ∧ (bZ pt Value.bool ((Cv ((aS fs).take k)).foldl oH (fP [] ps)) es cc) ∧ (k ≤ (aS fs).length) ∧ (n = (aS fs).length - k)) ?_ ?_
 ·
  apply Exists.intro;simp only[zQ,zR,zD,zE];exact ⟨0,_,_,rfl,(m.sel [true,false,true,true,false,true,true,true,true]),hD9,Nat.zero_le _,rfl⟩
 ·
  intro n vs wr hI u;clear m;obtain ⟨k,es9,c9,rfl,m,hD9,hk,hn⟩:=hI;simp only[zu,zF,zG];refine aC fun K6 k6=>wp_region_lit (aA (cS rfl rfl) (aD (k6 _ _ ?_)));refine aC fun K7 k7=>?_;simp only[zz];refine cD rfl (fun hc1=>?_) (fun hc1=>?_)
  ·
   obtain ⟨e,he⟩ : ∃ e,(aS fs)[k]? = some e:=⟨_,List.getElem?_eq_getElem (by omega)⟩
   obtain ⟨gO,rfl⟩:=(m.o 3 rfl).some (by omega);refine wp_skip (k7 _ _ ?_);refine aC fun K8 k8=>wp_block (aC fun K9 k9=>wp_region_lit (aA (aL gB cV rfl rfl (by omega) (by omega) (dP (Int.toNat_natCast _))) ?_));simp only[zz];refine aI rfl (((m.o 3 rfl).at tY he).lies kJ cV) ?_;simp only[zz];refine aY m rJ rfl ?_;clear m;intro g2 u m;simp only[zz];refine aQ m 0 rfl rfl rfl cV (dH rfl) rfl ?_;clear m;intro u m;simp only[zy,zx,bB,zF,zG,Nat.reduceAdd] at m;refine aD (k9 _ _ ?_);refine aC fun K10 k10=>wp_region_lit (aA (aB) (aA (aH jJ aG rfl rfl (by decide) (by decide) rfl) ?_));simp only[zz];refine aI rfl ((m.b 0 rfl).lies aK aG rfl rfl) ?_;simp only[zz,zy,Nat.zero_add,Nat.reduceAdd,Nat.reduceMul,Int.reduceToNat];refine Db (ek:=pt) (en:=Value.bool) (a:=e.1) m 3 rfl lV gC rfl rfl hD9 rfl ?_;clear m;intro es9 c9 u m hD';clear hD9;have hD9:=hD';clear hD';simp only[zF,zG] at m;refine aD (k10 _ _ ?_);refine wp_region_lit (aA (aB) (aA (aH jJ aG rfl rfl (by decide) (by decide) rfl) ?_));simp only[zz];refine aI rfl ((m.b 0 rfl).lies aK aG rfl rfl) ?_;simp only[zz,zy,Nat.zero_add,Nat.reduceAdd,Nat.reduceMul,Int.reduceToNat];refine Db (ek:=pt) (en:=Value.bool) (a:=e.2) m 3 rfl lV gC rfl rfl hD9 rfl ?_;clear m;intro es9 c9 u m hD';clear hD9;have hD9:=hD';clear hD';simp only[zF,zG] at m;refine aD (k8 _ _ ?_);refine wp_region_lit (aA (aR rfl rfl (aM (by omega) (by omega))) (aA (aB) (aD ?_)));simp only[zz];simp only[Exit.inBlock,Exit.then];refine ⟨(aS fs).length - (k + 1),_,?_,rfl,?_,?_⟩
   · omega
   · simp only[zz,zv]
   ·
    simp only[zQ,zR,zD,zE];exact ⟨k + 1,_,_,rfl,(m.sel [false,true,true,true,true,true,true,true]),by rw [Kw he,List.foldl_append];exact hD9,by omega,rfl⟩
  ·
   obtain rfl : k = (aS fs).length:=by omega
   rw [List.take_length] at hD9;refine wp_exit (k4 _ _ ?_);refine aC fun K11 k11=>aC fun K12 k12=>wp_region_lit (aA (aB) (aA (cN rfl) (aA (aJ (c:=0) iA rfl sY rfl rfl) ?_)));simp only[zz];refine aI rfl ((m.b 4 rfl).lies1 Hk rfl) ?_;simp only[zz];refine aA (bC rfl oX rfl) (aA (aB) (aD (k12 _ _ ?_)));refine wp_block ?_;simp only[zz];try simp only[Nat.zero_add,Nat.reduceAdd,Nat.reduceMul,Int.reduceToNat]
   refine bN [49] [10,50,51,52,53,54,55,56] (fun n vs wl=>∃ (k : Nat) (es : Array MapEntry) (cc : Nat),vs = [.int .i64 (k:Int)] ∧ bS w0 wl [mI q12 es cc,mI q10 es10 c10,mI q9 es9 c9,oI 57 6 A4 (aS fs).length c4 ((aS fs).flatMap bV),bI g1 [.slice A N cap,.slice A2 N2 cap2,.slice A3 N3 cap3,.slice A4 (aS fs).length c4,.map (some q7),J] 73,mI q7 es7 c7,K] ∧ (bZ pt Value.bool (((ms.take k).map (·.1)).foldl oH (fP [] qs)) es cc) ∧ (k ≤ N3) ∧ (n = N3 - k)) ?_ ?_
   ·
    apply Exists.intro;simp only[zQ,zR,zD,zE];exact ⟨0,_,_,rfl,m,hD12,Nat.zero_le _,rfl⟩
   ·
    intro n vs wr hI u;clear m;obtain ⟨k,es12,c12,rfl,m,hD12,hk,hn⟩:=hI;simp only[zu,zF,zG];refine aC fun K13 k13=>wp_region_lit (aA (cS rfl rfl) (aD (k13 _ _ ?_)));refine aC fun K14 k14=>?_;simp only[zz];refine cD rfl (fun hc2=>?_) (fun hc2=>?_)
    ·
     obtain ⟨mv,hmv,a3,rfl,hrow3⟩:=hL3.get (i:=k) (by omega);refine wp_skip (k14 _ _ ?_);refine aC fun K15 k15=>wp_block (aC fun K16 k16=>wp_region_lit (aA (aL oX jK rfl rfl (by omega) (by omega) (dP (Int.toNat_natCast _))) ?_));simp only[zz];refine aI rfl ((Ob (hrow3.ext m.ext)).lies Ms jK) ?_;simp only[zz];refine aY m wL rfl ?_;clear m;intro g2 u m;simp only[zz];refine aQ m 0 rfl rfl rfl jK (dH rfl) rfl ?_;clear m;intro u m;simp only[zy,zx,bB,zF,zG,Nat.reduceAdd] at m;refine aD (k16 _ _ ?_);refine wp_region_lit (aA (aB) (aA (aJ (c:=2) lF rfl aG rfl rfl) ?_));simp only[zz];refine aI rfl ((m.b 0 rfl).lies aK aG rfl rfl) ?_;simp only[zz,zy,Nat.zero_add,Nat.reduceAdd,Nat.reduceMul,Int.reduceToNat];refine Db (ek:=pt) (en:=Value.bool) (a:=mv.1) m 1 rfl lV gC rfl rfl hD12 rfl ?_;clear m;intro es12 c12 u m hD';clear hD12;have hD12:=hD';clear hD';simp only[zF,zG] at m;refine aD (k15 _ _ ?_);refine wp_region_lit (aA (aR rfl rfl (aM (by omega) (by omega))) (aA (aB) (aD ?_)));simp only[zz];simp only[Exit.inBlock,Exit.then];refine ⟨N3 - (k + 1),_,?_,rfl,?_,?_⟩
     · omega
     · simp only[zz,zv]
     ·
      simp only[zQ,zR,zD,zE];exact ⟨k + 1,_,_,rfl,(m.sel [false,true,true,true,true,true,true,true]),by rw [eR hmv,List.map_append,List.foldl_append];exact hD12,by omega,rfl⟩
    ·
     have hkN : k = N3:=by omega
     rw [List.take_of_length_le (by omega)] at hD12;refine wp_exit (k11 _ _ ?_);refine aC fun K17 k17=>aC fun K18 k18=>wp_region_lit (aA (aB) (aA (cN rfl) (aA (aJ (c:=0) iA rfl sY rfl rfl) ?_)));simp only[zz];refine aI rfl ((m.b 4 rfl).lies1 Hk rfl) ?_;simp only[zz];refine aA (bC rfl oX rfl) (aA (aB) (aD (k18 _ _ ?_)));refine wp_block ?_;simp only[zz];try simp only[Nat.zero_add,Nat.reduceAdd,Nat.reduceMul,Int.reduceToNat]
     refine bN [62] [2,11,12,63,64,65,66,67,68,69,70,71,72,73,74,75,76,77,78,79,80,81,82,83,84,85,86,87,88,89,90,91,92,93,94,95,96,97,98,99,100,101,102,103,104,105,106,107,108,109,110,111,112,113] (fun n vs wl=>∃ (k : Nat) (es : Array MapEntry) (cc : Nat),vs = [.int .i64 (k:Int)] ∧ bS w0 wl [mI q12 es12 c12,mI q10 es10 c10,mI q9 es9 c9,oI 57 6 A4 (aS fs).length c4 ((aS fs).flatMap bV),bI g1 [.slice A N cap,.slice A2 N2 cap2,.slice A3 N3 cap3,.slice A4 (aS fs).length c4,.map (some q7),J] 73,mI q7 es cc,K] ∧ (bZ pt pt (lK [] (ms.take k)) es cc) ∧ (∀ i mv,i < k → ms[i]? = some mv → qP fs gs ms (aS fs) i mv = true) ∧ (k ≤ N3) ∧ (n = N3 - k)) ?_ ?_
     ·
      apply Exists.intro;simp only[zQ,zR,zD,zE];exact ⟨0,_,_,rfl,m,hD7,fun _ _ h=>absurd h (Nat.not_lt_zero _),Nat.zero_le _,rfl⟩
     ·
      intro n vs wr hI u;clear m;obtain ⟨k,es7,c7,rfl,m,hD7,hok,hk,hn⟩:=hI;simp only[zu,zF,zG];refine aC fun K19 k19=>wp_region_lit (aA (cS rfl rfl) (aD (k19 _ _ ?_)));refine aC fun K20 k20=>?_;simp only[zz];refine cD rfl (fun hc3=>?_) (fun hc3=>?_)
      ·
       obtain ⟨mv,hmv,a3,rfl,hrow3⟩:=hL3.get (i:=k) (by omega);refine wp_skip (k20 _ _ ?_);refine aC fun K21 k21=>wp_block (aC fun K22 k22=>wp_region_lit (aA (aB) ?_));simp only[zz];refine aA (aL oX jK rfl rfl (by omega) (by omega) (dP (Int.toNat_natCast _))) ?_;simp only[zz];refine aI rfl ((Ob (hrow3.ext m.ext)).lies Ms jK) ?_;simp only[zz];refine aY m wL rfl ?_;clear m;intro g2 u m;refine aA (aF) ?_;simp only[zz];refine aQ m 0 rfl rfl rfl jK (dH rfl) rfl ?_;clear m;intro u m;simp only[zy,zx,bB,zF,zG,Nat.reduceAdd] at m;refine aD (k22 _ _ ?_);refine aC fun K23 k23=>aC fun K24 k24=>?_;rcases Nat.eq_zero_or_pos k with hk0 | hk0
       ·
        refine mq m aP (by kernel_rfl) (aN (aB) ?_);simp only[zz];refine aN (sF rfl rfl (by omega)) (aN (aB) (jO rfl (jO rfl ?_)));simp only[zz];refine jO rfl (jO rfl (jO rfl (jO rfl ?_)));simp only[zz];refine jO rfl (jO rfl (jO rfl (jO rfl ?_)));simp only[zz];refine jO rfl (jO rfl (jO rfl (aN (gF rfl) ?_)));simp only[zz];refine aN (aB) (iS rfl (aN (aB) (iS rfl (aN (aJ (c:=2) lF rfl aG rfl rfl) (iS rfl ?_)))));simp only[zz];refine ql rfl (fun u m=>((m.b 0 rfl).lies aK aG rfl rfl)) ?_;simp only[zz,zy,Nat.zero_add,Nat.reduceAdd,Nat.reduceMul,Int.reduceToNat];refine iS rfl (vA (fun u m=>eB (ek:=pt) (en:=Value.bool) (k:=mv.1) (v0:=false) lV lA gC rfl rfl (m.p 3 rfl) hD9) ?_);simp only[zz];refine iS rfl (aN (iO rfl) (aN (gF rfl) (aN (aB) (fH rfl (fun hb=>aB) ?_))));simp only[zz];refine fH rfl (fun hb=>aJ (c:=2) lF rfl aG rfl rfl) ?_;simp only[zz];refine iH rfl (fun hb u m=>dI (bW hb rfl) ((m.b 0 rfl).lies aK aG rfl rfl)) ?_;simp only[zz,zy,Nat.zero_add,Nat.reduceAdd,Nat.reduceMul,Int.reduceToNat];refine iH rfl (fun hb u m=>eB (ek:=pt) (en:=Value.bool) (k:=mv.2) (v0:=false) lV lA gC (bW hb rfl) (bW hb rfl) (m.p 2 rfl) hD10) ?_;simp only[zz];refine fH rfl (fun hb=>iO (bW hb rfl)) (aN (iW rfl rfl rfl) (aN (aB) (fH rfl (fun hb=>aB) ?_)));simp only[zz];refine fH rfl (fun hb=>aJ (c:=2) lF rfl aG rfl rfl) ?_;simp only[zz];refine iH rfl (fun hb u m=>dI (bW hb rfl) ((m.b 0 rfl).lies aK aG rfl rfl)) ?_;simp only[zz,zy,Nat.zero_add,Nat.reduceAdd,Nat.reduceMul,Int.reduceToNat];refine iH rfl (fun hb u m=>eB (ek:=pt) (en:=Value.bool) (k:=mv.2) (v0:=false) lV lA gC (bW hb rfl) (bW hb rfl) (m.p 1 rfl) hD12) ?_;simp only[zz];refine fH rfl (fun hb=>iO (bW hb rfl)) (aN (iW rfl rfl rfl) (dN ?_));clear m;intro u m;refine k24 _ _ ?_;simp only[zz];refine fB rfl (fun hc4=>?_) (fun hc4=>?_)
        ·
         have hmr : qP fs gs ms (aS fs) k mv = false:=by rw [uH (rim:=(aS fs)) hmem hmem2,hk0];exact aeE hc4
         refine aC fun K25 k25=>wp_region_lit (aA (aF) (aD (k25 _ _ ?_)));refine wp_ret ?_;simp only[zz];try simp only[Exit.inBlock,Exit.then,if_true]
         refine bP rfl rfl ?_;try simp only[zD,zE]
         exact ⟨_,rfl,_,_,by rw [if_neg (by rw [xF hmv hmr];exact Bool.false_ne_true)],m.sel [false,false,false,false,true,true,true,true],fun h=>by rw [xF hmv hmr] at h;cases h⟩
        ·
         have hmr : qP fs gs ms (aS fs) k mv = true:=by rw [uH (rim:=(aS fs)) hmem hmem2,hk0];exact aeD hc4
         have hok2 : ∀ i mv,i < k + 1 → ms[i]? = some mv → qP fs gs ms (aS fs) i mv = true:=fun i mw hi hmw=>by
          rcases Nat.lt_or_ge i k with h | h
          · exact hok i mw h hmw
          ·
           obtain rfl : i = k:=by omega
           obtain rfl:=Option.some.inj (hmv.symm.trans hmw);exact hmr
         refine wp_skip (k23 _ _ ?_);refine mh m [true,true,true,true,true,true,false,true] [(0,true),(1,true),(2,true),(4,true),(6,true),(3,true),(5,true),(7,true),(8,false)] aP (by kernel_rfl) (dB (fun _ _ _ _ _ h=>h)) (ol:=?_) ?hol ?_
         case hol=>simp only[zw,zQ,zR];try rfl
         clear m;intro u m;refine aW (aB) (aW (cN rfl) (aW (aJ (c:=0) iA rfl wM rfl rfl) (aW (aJ (c:=2) lF rfl aG rfl rfl) ?_)));simp only[zz];refine aW (aJ (c:=2) lF rfl aG rfl rfl) ?_;simp only[zz];refine bQ rfl (fun u m=>((m.b 5 rfl).lies1 Mt rfl)) ?_;simp only[zz];refine bQ rfl (fun u m=>((m.b 0 rfl).lies aK aG rfl rfl)) ?_;simp only[zz,zy,Nat.zero_add,Nat.reduceAdd,Nat.reduceMul,Int.reduceToNat];refine bQ rfl (fun u m=>((m.b 0 rfl).lies aK aG rfl rfl)) ?_;simp only[zz,zy,Nat.zero_add,Nat.reduceAdd,Nat.reduceMul,Int.reduceToNat];refine bU (eZ (ek:=pt) (en:=pt) (a:=mv.1) (v:=mv.2) m 6 rfl underlying71 gC rfl rfl rfl hD7 ?_);clear m;intro es7 c7 u m hD';clear hD7;have hD7:=hD';clear hD';simp only[zF,zG] at m;refine aD (⟨m.sel [true,true,true,true,true,true,false,true],?_⟩);refine dF (k21 _ _ ?_);refine wp_region_lit (aA (aR rfl rfl (aM (by omega) (by omega))) (aA (aB) (aD ?_)));simp only[zz];simp only[Exit.inBlock,Exit.then];refine ⟨N3 - (k + 1),_,?_,rfl,?_,?_⟩
         · omega
         · simp only[zz,zv]
         ·
          simp only[zQ,zR,zD,zE];exact ⟨k + 1,_,_,rfl,(m.sel [false,true,true,true,true,true,true,true]),by rw [eR hmv,Dl];exact hD7,hok2,by omega,rfl⟩
       ·
        obtain ⟨j,rfl⟩ : ∃ j,k = j + 1:=⟨k - 1,by omega⟩
        obtain ⟨mw,hmw,a4,ha4,hrow4⟩:=hL3.get (i:=j) (by omega);cases ha4;refine mq m aP (by kernel_rfl) (aN (aB) ?_);simp only[zz];refine aN (vB rfl rfl (by omega)) (aN (aB) (iS rfl (aN (aB) (iS rfl (aN (cN rfl) ?_)))));simp only[zz];refine iS rfl (aN (aJ (c:=0) iA rfl sY rfl rfl) (iS rfl ?_));simp only[zz];refine ql rfl (fun u m=>((m.b 5 rfl).lies1 Hk rfl)) ?_;simp only[zz];refine iS rfl (aN (aB) (iS rfl ?_));simp only[zz];refine aN (eI rfl rfl (aM (by omega) (by omega))) (iS rfl ?_);simp only[zz];refine aN (aL oX jK rfl rfl (by omega) (by omega) (dP (show Int.toNat (((j + 1 : Nat) : Int) - 1) = j by omega))) (iS rfl (aN (aJ (c:=2) lF rfl aG rfl rfl) (iS rfl ?_)));simp only[zz];refine ql rfl (fun u m=>((((Ob (hrow4.ext m.ext)).sub 0).take 3).lies aK aG)) ?_;simp only[zz];refine iS rfl (aN (aJ (c:=2) lF rfl aG rfl rfl) (iS rfl ?_));simp only[zz];refine ql rfl (fun u m=>((m.b 0 rfl).lies aK aG rfl rfl)) ?_;simp only[zz,zy,Nat.zero_add,Nat.reduceAdd,Nat.reduceMul,Int.reduceToNat];refine iS rfl (sB rfl rfl (uI.pure) (iS rfl (aN (iO rfl) (aN (eF rfl) (aN (aB) ?_)))));simp only[zz];refine fH rfl (fun hb=>aB) (fH rfl (fun hb=>aJ (c:=2) lF rfl aG rfl rfl) ?_);simp only[zz];refine iH rfl (fun hb u m=>dI (bW hb rfl) ((m.b 0 rfl).lies aK aG rfl rfl)) ?_;simp only[zz,zy,Nat.zero_add,Nat.reduceAdd,Nat.reduceMul,Int.reduceToNat];refine iH rfl (fun hb u m=>eB (ek:=pt) (en:=Value.bool) (k:=mv.1) (v0:=false) lV lA gC (bW hb rfl) (bW hb rfl) (m.p 3 rfl) hD9) ?_;simp only[zz];refine fH rfl (fun hb=>iO (bW hb rfl)) (aN (iW rfl rfl rfl) (aN (aB) (fH rfl (fun hb=>aB) ?_)));simp only[zz];refine fH rfl (fun hb=>aJ (c:=2) lF rfl aG rfl rfl) ?_;simp only[zz];refine iH rfl (fun hb u m=>dI (bW hb rfl) ((m.b 0 rfl).lies aK aG rfl rfl)) ?_;simp only[zz,zy,Nat.zero_add,Nat.reduceAdd,Nat.reduceMul,Int.reduceToNat];refine iH rfl (fun hb u m=>eB (ek:=pt) (en:=Value.bool) (k:=mv.2) (v0:=false) lV lA gC (bW hb rfl) (bW hb rfl) (m.p 2 rfl) hD10) ?_;simp only[zz];refine fH rfl (fun hb=>iO (bW hb rfl)) (aN (iW rfl rfl rfl) (aN (aB) (fH rfl (fun hb=>aB) ?_)));simp only[zz];refine fH rfl (fun hb=>aJ (c:=2) lF rfl aG rfl rfl) ?_;simp only[zz];refine iH rfl (fun hb u m=>dI (bW hb rfl) ((m.b 0 rfl).lies aK aG rfl rfl)) ?_;simp only[zz,zy,Nat.zero_add,Nat.reduceAdd,Nat.reduceMul,Int.reduceToNat];refine iH rfl (fun hb u m=>eB (ek:=pt) (en:=Value.bool) (k:=mv.2) (v0:=false) lV lA gC (bW hb rfl) (bW hb rfl) (m.p 1 rfl) hD12) ?_;simp only[zz];refine fH rfl (fun hb=>iO (bW hb rfl)) (aN (iW rfl rfl rfl) (dN ?_));clear m;intro u m;refine k24 _ _ ?_;simp only[zz];refine fB rfl (fun hc4=>?_) (fun hc4=>?_)
        ·
         have hmr : qP fs gs ms (aS fs) (j + 1) mv = false:=by rw [uH (rim:=(aS fs)) hmem hmem2,Nat.add_sub_cancel,hmw];exact aeG hc4
         refine aC fun K26 k26=>wp_region_lit (aA (aF) (aD (k26 _ _ ?_)));refine wp_ret ?_;simp only[zz];try simp only[Exit.inBlock,Exit.then,if_true]
         refine bP rfl rfl ?_;try simp only[zD,zE]
         exact ⟨_,rfl,_,_,by rw [if_neg (by rw [xF hmv hmr];exact Bool.false_ne_true)],m.sel [false,false,false,false,true,true,true,true],fun h=>by rw [xF hmv hmr] at h;cases h⟩
        ·
         have hmr : qP fs gs ms (aS fs) (j + 1) mv = true:=by rw [uH (rim:=(aS fs)) hmem hmem2,Nat.add_sub_cancel,hmw];exact aeF hc4
         have hok2 : ∀ i mv,i < j + 1 + 1 → ms[i]? = some mv → qP fs gs ms (aS fs) i mv = true:=fun i mw hi hmw=>by
          rcases Nat.lt_or_ge i (j + 1) with h | h
          · exact hok i mw h hmw
          ·
           obtain rfl : i = j + 1:=by omega
           obtain rfl:=Option.some.inj (hmv.symm.trans hmw);exact hmr
         refine wp_skip (k23 _ _ ?_);refine mh m [true,true,true,true,true,true,false,true] [(0,true),(1,true),(2,true),(4,true),(6,true),(3,true),(5,true),(7,true),(8,false)] aP (by kernel_rfl) (dB (fun _ _ _ _ _ h=>h)) (ol:=?_) ?hol ?_
         case hol=>simp only[zw,zQ,zR];try rfl
         clear m;intro u m;refine aW (aB) (aW (cN rfl) (aW (aJ (c:=0) iA rfl wM rfl rfl) (aW (aJ (c:=2) lF rfl aG rfl rfl) ?_)));simp only[zz];refine aW (aJ (c:=2) lF rfl aG rfl rfl) ?_;simp only[zz];refine bQ rfl (fun u m=>((m.b 5 rfl).lies1 Mt rfl)) ?_;simp only[zz];refine bQ rfl (fun u m=>((m.b 0 rfl).lies aK aG rfl rfl)) ?_;simp only[zz,zy,Nat.zero_add,Nat.reduceAdd,Nat.reduceMul,Int.reduceToNat];refine bQ rfl (fun u m=>((m.b 0 rfl).lies aK aG rfl rfl)) ?_;simp only[zz,zy,Nat.zero_add,Nat.reduceAdd,Nat.reduceMul,Int.reduceToNat];refine bU (eZ (ek:=pt) (en:=pt) (a:=mv.1) (v:=mv.2) m 6 rfl underlying71 gC rfl rfl rfl hD7 ?_);clear m;intro es7 c7 u m hD';clear hD7;have hD7:=hD';clear hD';simp only[zF,zG] at m;refine aD (⟨m.sel [true,true,true,true,true,true,false,true],?_⟩);refine dF (k21 _ _ ?_);refine wp_region_lit (aA (aR rfl rfl (aM (by omega) (by omega))) (aA (aB) (aD ?_)));simp only[zz];simp only[Exit.inBlock,Exit.then];refine ⟨N3 - (j + 1 + 1),_,?_,rfl,?_,?_⟩
         · omega
         · simp only[zz,zv]
         ·
          simp only[zQ,zR,zD,zE];exact ⟨j + 1 + 1,_,_,rfl,(m.sel [false,true,true,true,true,true,true,true]),by rw [eR hmv,Dl];exact hD7,hok2,by omega,rfl⟩
      ·
       have hkN : k = N3:=by omega
       rw [List.take_of_length_le (by omega)] at hD7;have hall : oM fs gs ms (aS fs) = true:=vQ.2 fun i mv hm=>hok i mv (by have:=(List.getElem?_eq_some_iff.1 hm).1;omega) hm;refine wp_exit (k17 _ _ ?_);refine aC fun K27 k27=>wp_region_lit (aA (aF) (aD (k27 _ _ ?_)));refine wp_ret ?_;simp only[zz];try simp only[Exit.inBlock,Exit.then,if_true]
       refine bP rfl rfl ?_;try simp only[zD,zE]
       exact ⟨_,rfl,_,_,by rw [if_pos hall],m.sel [false,false,false,true,true,true,true],fun _=>hD7⟩
end Go.Proofs.YtfohfflkhpfjeaaGreatDoor
