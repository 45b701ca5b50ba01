/-
 Texts of one claim, laid together: V9, Join, JoinWitnessChain.
-/
import Derived.OpenVars
import Derived.OpenShut
import Derived.WalkKit
import Derived.ProofKit
import Derived.Test.YtfohfflkhpfjeaaGreatDoorCards
import Derived.Test.YtfohfflkhpfjeaaGreatDoorTie
import Derived.Deep.DeepHandedRow
import Derived.Lib.LaidTab
import Derived.Test.YtfohfflkhpfjeaaGreatDoorF7
set_option maxHeartbeats 8000000
set_option linter.unusedSimpArgs false
set_option linter.unusedVariables false
set_option linter.unusedSectionVars false
namespace Go.Proofs.YtfohfflkhpfjeaaGreatDoor
open Go.Proofs.Tryz
open Go.RowKit Go.Lith
set_option maxRecDepth 100000
attribute [local irreducible] wpList wpQuiet dC cS cR Code.wp
theorem sQ {n : Int} (h : nJ n) : IntKind.i64.wrap n = n:=aN h.1 h.2
def uL (m : Mv) : Mv:=(⟨m.1.x - 3000,m.1.y,m.1.z⟩,⟨m.2.x - 3000,m.2.y,m.2.z⟩)
def chJ (ms : List Mv) (m : Mv) : Mv:=(m.1,dP ms m.2)
theorem Oe (m : Mv) : uL m = (m.1.sh vE,m.2.sh vE) :=
 Prod.ext (P3.eq (show m.1.x - 3000 = m.1.x + -3000 by omega) (Int.add_zero _).symm (Int.add_zero _).symm) (P3.eq (show m.2.x - 3000 = m.2.x + -3000 by omega) (Int.add_zero _).symm (Int.add_zero _).symm)
theorem Wy {ms : List Mv} {k : Nat} {m : Mv} (h : ms[k]? = some m) : ((ms.take k).map uL).flatMap bJ ++ bJ (uL m) = ((ms.take (k + 1)).map uL).flatMap bJ:=by
 rw [dN h,List.map_append,List.flatMap_append];simp
theorem Tn {ms bk : List Mv} {k : Nat} {m : Mv} {q : P3} (h : bk[k]? = some m) (hq : dP ms m.2 = q) : ((bk.take k).map (chJ ms)).flatMap bJ ++ bJ (m.1,q) = ((bk.take (k + 1)).map (chJ ms)).flatMap bJ:=by
 subst hq;rw [dN h,List.map_append,List.flatMap_append];simp [chJ]
def Of (x : P3) : Prop:=-3000000 ≤ x.x ∧ x.x ≤ 3000000 ∧ -3000000 ≤ x.y ∧ x.y ≤ 3000000 ∧ -3000000 ≤ x.z ∧ x.z ≤ 3000000
theorem aa4 {x : P3} (h : Fs x) : Of (x.sh v3):=by
 obtain ⟨h1,h2,h3,h4,h5,h6⟩:=h;refine ⟨?_,?_,?_,?_,?_,?_⟩ <;> (simp only[P3.sh,v3];omega)
theorem Of.i3 {x : P3} (h : Of x) : I3 x:=by
 obtain ⟨h1,h2,h3,h4,h5,h6⟩:=h;exact ⟨⟨by omega,by omega⟩,⟨by omega,by omega⟩,⟨by omega,by omega⟩⟩
theorem Of.ib {x : P3} (h : Of x) : I3 (x.sh vE):=by
 obtain ⟨h1,h2,h3,h4,h5,h6⟩:=h;refine ⟨⟨?_,?_⟩,⟨?_,?_⟩,⟨?_,?_⟩⟩ <;> (simp only[P3.sh,vE];omega)
theorem Of.sub {x : P3} (h : Of x) : nJ (x.x - 3000):=⟨by have:=h.1;omega,by have:=h.2.1;omega⟩
theorem To {v : P3} {ts : List T3} {x : P3} (h : x ∈ aY (ts.map (T3.sh v))) : ∃ y ∈ aY ts,x = y.sh v:=by
 obtain ⟨t,ht,hx⟩:=eZ.1 h;obtain ⟨u,hu,rfl⟩:=List.mem_map.1 ht;rcases hx with rfl | rfl | rfl
 · exact ⟨u.cor 0,eZ.2 ⟨u,hu,.inl rfl⟩,rfl⟩
 · exact ⟨u.cor 1,eZ.2 ⟨u,hu,.inr (.inl rfl)⟩,rfl⟩
 · exact ⟨u.cor 2,eZ.2 ⟨u,hu,.inr (.inr rfl)⟩,rfl⟩
theorem Ri {ts : List T3} (h : ∀ x ∈ aY ts,Fs x) : ∀ x ∈ aY (ts.map (T3.sh v3)),Of x:=fun x hx=>by
 obtain ⟨y,hy,rfl⟩:=To hx;exact aa4 (h y hy)
theorem Rj {ts : List T3} (h : ∀ x ∈ aY ts,Of x) : ∀ t ∈ ts,IT t:=aaM fun x hx=>(h x hx).i3
theorem Rk {ts : List T3} (h : ∀ x ∈ aY ts,Of x) : ∀ t ∈ ts.map (T3.sh vE),IT t:=aaM fun x hx=>by
 obtain ⟨y,hy,rfl⟩:=To hx;exact (h y hy).ib
theorem acV {v : P3} {ts : List T3} (h : ∀ t ∈ ts.map (T3.sh v),IT t) : ∀ t ∈ ts,IT (t.sh v):=fun t ht=>h _ (List.mem_map_of_mem ht)
theorem agA {rim : List E3} {l us : List T3} {ms : List Mv} {i : Nat} (h : qZ rim l i us ms) (hi : i ≤ 12) (hl : ∀ x ∈ aY l,Of x) : (∀ x ∈ aY us,Of x) ∧ ∀ m ∈ ms,Of m.1 ∧ Of m.2:=by
 have k : ∀ x,vH l i x → Of x:=fun x hx=>by
  rcases hx with hx | ⟨j,hj,h1,h2,h3,h4,h5,h6⟩
  · exact hl x hx
  · exact ⟨by omega,by omega,by omega,by omega,by omega,by omega⟩
 exact ⟨fun x hx=>k x (h.pts.1 x hx),fun m hm=>⟨k _ (h.pts.2 m hm).1,k _ (h.pts.2 m hm).2⟩⟩
theorem acr {ms : List Mv} (h : ∀ m ∈ ms,Of m.1 ∧ Of m.2) : ∀ m ∈ ms.map uL,I3 m.1 ∧ I3 m.2:=fun m hm=>by
 obtain ⟨q,hq,rfl⟩:=List.mem_map.1 hm;rw [Oe];exact ⟨(h q hq).1.ib,(h q hq).2.ib⟩
theorem aa5 {bk ms : List Mv} (h : ∀ m ∈ bk,I3 m.1 ∧ I3 m.2) (k : ∀ m ∈ ms,I3 m.1 ∧ I3 m.2) : ∀ m ∈ bk.map (chJ ms) ++ ms,I3 m.1 ∧ I3 m.2:=fun m hm=>by
 rcases List.mem_append.1 hm with hm | hm
 ·
  obtain ⟨q,hq,rfl⟩:=List.mem_map.1 hm;refine ⟨(h q hq).1,?_⟩;rcases Rh q.2 ms with e | e
  · show I3 (dP ms q.2);rw [e];exact (h q hq).2
  · exact (k _ e).2
 · exact k m hm
theorem acs (kind bits : Int) (zs : List Int) : ∀ x ∈ aY (gC kind bits zs),0 ≤ x.x ∧ x.x < 100:=fun x hx=>by
 refine ⟨?_,aew kind bits zs x hx⟩;obtain ⟨t,ht,h⟩:=eZ.1 hx;have k:=xI t ht;rcases h with rfl | rfl | rfl
 · exact k.1.1.1
 · exact k.2.1.1.1
 · exact k.2.2.1.1
theorem acu {kind bits : Int} {zs : List Int} {us us2 : List T3} {ms ms2 : List Mv} {i i2 : Nat} (h1 : qZ (aR (gC kind bits zs)) (gC kind bits zs) i us ms) (hi1 : i ≤ 12)
 (h2 : qZ (aR (us.map (T3.sh v3))) (us.map (T3.sh v3)) i2 us2 ms2) (hi2 : i2 ≤ 12) (hc : cV true (gC kind bits zs) = 0) :
 ∃ a b c : Nat,iK us (gC kind bits zs) ms = ((a : Int),0) ∧ iK (us2.map (T3.sh vE)) us (ms2.map uL) = ((b : Int),0) ∧ iK (us2.map (T3.sh vE)) (gC kind bits zs) ((ms2.map uL).map (chJ ms) ++ ms) = ((c : Int),0) ∧ c ≤ a + b ∧ a ≤ 12000000 ∧ b ≤ 12000000:=by
 have e : ms2.map uL = ms2.map fun m=>(m.1.sh vE,m.2.sh vE):=List.map_congr_left fun m _=>Oe m;rw [e];exact Wx h1 hi1 h2 hi2 hc (Qx (Wn kind bits zs) (pL.1 hc).2.1) (acs kind bits zs) (Qy xI)
theorem Og {ts : List T3} {N cap : Nat} {A : Option Addr} {v : P3} (w : World) (hT : eG w A N ts) (hI : ∀ t ∈ ts,IT (t.sh v)) (hN : N ≤ 100000) : eI prog 20 [.slice A N cap,pt v] w (TS 53 (ts.map (T3.sh v)) w):=by
 refine ⟨ae1,?_⟩;have m:=bR.refl w;have htl:=hT.len
 go_enter func20,ntmps20
 refine aD fun K1 k1=>wp_region_lit (eY m rfl ?_);clear m;intro g1 u m;refine aA (aF) (aG (k1 _ _ ?_));refine aD fun K2 k2=>wp_region_lit (aA (aF) ?_);replace m:=m.nilO 53 9;refine aG (k2 _ _ ?_);refine aD fun K3 k3=>aD fun K4 k4=>wp_region_lit (aA (aF) ?_);simp only[zz];refine aG (k4 _ _ ?_);refine wp_block ?_;try simp only[Nat.zero_add,Nat.reduceAdd,Nat.reduceMul,Int.reduceToNat]
 refine bM [5,6] [7,8,9,10,11,12,13,14,15,16,17,18,19,20,21,22,23,24,25,26,27,28,29,30,31,32,33,34,35,36,37,38,39,40,41,42,43,44,45,46,47,48,49,50] (fun n vs wl=>∃ (k cap5 : Nat) (A5 : Option Addr),vs = [.slice A5 k cap5,.int .i64 (k:Int)] ∧ bR w wl [oI 53 9 A5 k cap5 (((ts.take k).map (T3.sh v)).flatMap aX),bI g1 [.int .i64 v.x,.int .i64 v.y,.int .i64 v.z] 48] ∧ (k ≤ N) ∧ (n = N - k)) ?_ ?_
 ·
  apply Exists.intro;simp only[zQ,zR,zD,zE];exact ⟨0,_,_,rfl,m,Nat.zero_le _,rfl⟩
 ·
  intro n vs wr hI u;clear m;obtain ⟨k,cap5,A5,rfl,m,hk,hn⟩:=hI;simp only[zu,zF,zG];refine aD fun K5 k5=>aD fun K6 k6=>wp_region_lit (aA (aB) (aA (aB) (aA (bF rfl bZ rfl) (aA (cJ rfl rfl) ?_))));simp only[zz];refine aG (k6 _ _ ?_);refine cO rfl (fun hc1=>?_) (fun hc1=>?_)
  ·
   obtain ⟨t,ht,_,a,rfl,hrow⟩:=hT.get (i:=k) (by omega);have hIt:=hI t (List.mem_of_getElem? ht);refine wp_skip (k5 _ _ ?_);refine aD fun K7 k7=>wp_block (aD fun K8 k8=>wp_region_lit (aA (aB) (aA (aB) ?_)));simp only[zz];refine aA (aM bZ aU rfl rfl (by omega) (by omega) (cA (Int.toNat_natCast _))) ?_;simp only[zz];refine aJ rfl ((hrow.ext m.ext).lies eQ aU) ?_;simp only[zz];refine bC m iY rfl ?_;clear m;intro g2 u m;simp only[zz];refine aS m 0 rfl rfl rfl aU (dX rfl) rfl ?_;clear m;intro u m;simp only[zy,zx,bG,zF,zG,Nat.reduceAdd] at m;refine aG (k8 _ _ ?_);refine aD fun K9 k9=>aD fun K10 k10=>wp_region_lit (aA (aF) (aG (k10 _ _ ?_)));refine wp_block (wp_loop_rounds 4 (cZ (aD fun K11 k11=>aD fun K12 k12=>wp_region_lit (aA (aB) (aA (bT (m:=0) (n:=3) rfl rfl (by decide)) (aG (k12 _ _ ?_)))))));refine cK rfl (wp_skip (k11 _ _ ?_));refine aD fun K13 k13=>wp_block ?_;simp only[zz];refine gB m 24 aO (by kernel_rfl) ?_;simp only[zy];refine aL (aB) (aL (aB) (aL (aH bL aC rfl rfl (by decide) (by decide) rfl) (aL (aK (c:=0) cN rfl bA rfl rfl) ?_)));simp only[zz];refine ql rfl (fun u m=>((m.b 0 rfl).lies1 bQ rfl)) ?_;simp only[zz];refine aL (aK (c:=0) cN rfl bA rfl rfl) ?_;simp only[zz];refine ql rfl (fun u m=>((m.b 2 rfl).lies1 bQ rfl)) ?_;simp only[zz];refine aL (aQ rfl rfl (sQ (n:=t.a.x + v.x) hIt.a.x)) (aL (aB) (aL (aH bL aC rfl rfl (by decide) (by decide) rfl) (aL (aK (c:=0) cN rfl bA rfl rfl) ?_)));simp only[zz];refine ql rfl (fun u m=>((m.b 0 rfl).lies1 bQ rfl)) ?_;simp only[zz];refine aL (aK (c:=0) cN rfl bA rfl rfl) ?_;simp only[zz];refine ql rfl (fun u m=>((m.b 2 rfl).lies1 bQ rfl)) ?_;simp only[zz];refine aL (aQ rfl rfl (sQ (n:=t.a.y + v.y) hIt.a.y)) (aL (aB) (aL (aH bL aC rfl rfl (by decide) (by decide) rfl) (aL (aK (c:=0) cN rfl bA rfl rfl) ?_)));simp only[zz];refine ql rfl (fun u m=>((m.b 0 rfl).lies1 bQ rfl)) ?_;simp only[zz];refine aL (aK (c:=0) cN rfl bA rfl rfl) ?_;simp only[zz];refine ql rfl (fun u m=>((m.b 2 rfl).lies1 bQ rfl)) ?_;simp only[zz];refine aL (aQ rfl rfl (sQ (n:=t.a.z + v.z) hIt.a.z)) (aL (cB rfl rfl rfl) (aL (aH bL aC rfl rfl (by decide) (by decide) rfl) (dF ?_)));clear m;intro u m;simp only[zz];refine aS m 0 rfl rfl rfl aC (dX rfl) rfl ?_;clear m;intro u m;simp only[zy,zx,bG,zF,zG,Nat.reduceAdd] at m;refine aG (k13 _ _ ?_);refine wp_region_lit (aA (aB) (aA (aQ (m:=0) (n:=1) (r:=1) rfl rfl (by decide)) (aA (aF) (aG (aT (aD fun K14 k14=>aD fun K15 k15=>wp_region_lit (aA (aB) ?_)))))));simp only[zz];refine aA (bT (m:=1) (n:=3) rfl rfl (by decide)) (aG (k15 _ _ ?_));refine cK rfl (wp_skip (k14 _ _ ?_));refine aD fun K16 k16=>wp_block ?_;simp only[zz];refine gB m 24 aO (by kernel_rfl) ?_;simp only[zy];refine aL (aB) (aL (aB) (aL (aH bL aC rfl rfl (by decide) (by decide) rfl) (aL (aK (c:=0) cN rfl bA rfl rfl) ?_)));simp only[zz];refine ql rfl (fun u m=>((m.b 0 rfl).lies1 bQ rfl)) ?_;simp only[zz];refine aL (aK (c:=0) cN rfl bA rfl rfl) ?_;simp only[zz];refine ql rfl (fun u m=>((m.b 2 rfl).lies1 bQ rfl)) ?_;simp only[zz];refine aL (aQ rfl rfl (sQ (n:=t.b.x + v.x) hIt.b.x)) (aL (aB) (aL (aH bL aC rfl rfl (by decide) (by decide) rfl) (aL (aK (c:=0) cN rfl bA rfl rfl) ?_)));simp only[zz];refine ql rfl (fun u m=>((m.b 0 rfl).lies1 bQ rfl)) ?_;simp only[zz];refine aL (aK (c:=0) cN rfl bA rfl rfl) ?_;simp only[zz];refine ql rfl (fun u m=>((m.b 2 rfl).lies1 bQ rfl)) ?_;simp only[zz];refine aL (aQ rfl rfl (sQ (n:=t.b.y + v.y) hIt.b.y)) (aL (aB) (aL (aH bL aC rfl rfl (by decide) (by decide) rfl) (aL (aK (c:=0) cN rfl bA rfl rfl) ?_)));simp only[zz];refine ql rfl (fun u m=>((m.b 0 rfl).lies1 bQ rfl)) ?_;simp only[zz];refine aL (aK (c:=0) cN rfl bA rfl rfl) ?_;simp only[zz];refine ql rfl (fun u m=>((m.b 2 rfl).lies1 bQ rfl)) ?_;simp only[zz];refine aL (aQ rfl rfl (sQ (n:=t.b.z + v.z) hIt.b.z)) (aL (cB rfl rfl rfl) (aL (aH bL aC rfl rfl (by decide) (by decide) rfl) (dF ?_)));clear m;intro u m;simp only[zz];refine aS m 0 rfl rfl rfl aC (dX rfl) rfl ?_;clear m;intro u m;simp only[zy,zx,bG,zF,zG,Nat.reduceAdd] at m;refine aG (k16 _ _ ?_);refine wp_region_lit (aA (aB) (aA (aQ (m:=1) (n:=1) (r:=2) rfl rfl (by decide)) (aA (aF) (aG (aT (aD fun K17 k17=>aD fun K18 k18=>wp_region_lit (aA (aB) ?_)))))));simp only[zz];refine aA (bT (m:=2) (n:=3) rfl rfl (by decide)) (aG (k18 _ _ ?_));refine cK rfl (wp_skip (k17 _ _ ?_));refine aD fun K19 k19=>wp_block ?_;simp only[zz];refine gB m 24 aO (by kernel_rfl) ?_;simp only[zy];refine aL (aB) (aL (aB) (aL (aH bL aC rfl rfl (by decide) (by decide) rfl) (aL (aK (c:=0) cN rfl bA rfl rfl) ?_)));simp only[zz];refine ql rfl (fun u m=>((m.b 0 rfl).lies1 bQ rfl)) ?_;simp only[zz];refine aL (aK (c:=0) cN rfl bA rfl rfl) ?_;simp only[zz];refine ql rfl (fun u m=>((m.b 2 rfl).lies1 bQ rfl)) ?_;simp only[zz];refine aL (aQ rfl rfl (sQ (n:=t.c.x + v.x) hIt.c.x)) (aL (aB) (aL (aH bL aC rfl rfl (by decide) (by decide) rfl) (aL (aK (c:=0) cN rfl bA rfl rfl) ?_)));simp only[zz];refine ql rfl (fun u m=>((m.b 0 rfl).lies1 bQ rfl)) ?_;simp only[zz];refine aL (aK (c:=0) cN rfl bA rfl rfl) ?_;simp only[zz];refine ql rfl (fun u m=>((m.b 2 rfl).lies1 bQ rfl)) ?_;simp only[zz];refine aL (aQ rfl rfl (sQ (n:=t.c.y + v.y) hIt.c.y)) (aL (aB) (aL (aH bL aC rfl rfl (by decide) (by decide) rfl) (aL (aK (c:=0) cN rfl bA rfl rfl) ?_)));simp only[zz];refine ql rfl (fun u m=>((m.b 0 rfl).lies1 bQ rfl)) ?_;simp only[zz];refine aL (aK (c:=0) cN rfl bA rfl rfl) ?_;simp only[zz];refine ql rfl (fun u m=>((m.b 2 rfl).lies1 bQ rfl)) ?_;simp only[zz];refine aL (aQ rfl rfl (sQ (n:=t.c.z + v.z) hIt.c.z)) (aL (cB rfl rfl rfl) (aL (aH bL aC rfl rfl (by decide) (by decide) rfl) (dF ?_)));clear m;intro u m;simp only[zz];refine aS m 0 rfl rfl rfl aC (dX rfl) rfl ?_;clear m;intro u m;simp only[zy,zx,bG,zF,zG,Nat.reduceAdd] at m;refine aG (k19 _ _ ?_);refine wp_region_lit (aA (aB) (aA (aQ (m:=2) (n:=1) (r:=3) rfl rfl (by decide)) (aA (aF) (aG (aT (aD fun K20 k20=>aD fun K21 k21=>wp_region_lit (aA (aB) ?_)))))));simp only[zz];refine aA (fT (m:=3) (n:=3) rfl rfl (by decide)) (aG (k21 _ _ ?_));refine jM rfl (wp_exit (k9 _ _ ?_));refine wp_region_lit (aA (aB) ?_);simp only[zz];refine aJ rfl ((m.b 0 rfl).full eQ aU) ?_;simp only[zz];refine Hk rfl ?_;intro u g3 e hg hB;replace m:=m.newB e hg hB;clear e hg hB;simp only[zz];refine dM m 2 rfl rfl bZ nM rfl (by decide) rfl rfl rfl (m.b 0 rfl).rowsO (pD rfl) (by omega) (by omega) ?_;clear m;intro A5 cap5 u m;simp only[zF,zG] at m;refine aA (aF) (aG (k7 _ _ ?_));refine wp_region_lit (aA (aB) ?_);simp only[zz];refine aA (aQ rfl rfl (aN (by omega) (by omega))) (aA (aF) (aG ?_));simp only[zz];simp only[Exit.inBlock,Exit.then];refine ⟨N - (k + 1),_,?_,rfl,?_,?_⟩
   · omega
   · simp only[zz,zv]
   ·
    simp only[zQ,zR,zD,zE];exact ⟨k + 1,_,_,rfl,((m.reO 2 rfl ((m.o 2 rfl).as (by rw [dN ht,List.map_append,List.flatMap_append];rfl))).sel [false,false,true,true]),by omega,rfl⟩
  ·
   obtain rfl : k = N:=by omega
   rw [show ts.take k = ts from List.take_of_length_le (by omega)] at m;refine wp_exit (k3 _ _ ?_);refine aD fun K22 k22=>wp_region_lit (aA (aB) (aA (aF) (aG (k22 _ _ ?_))));refine wp_ret ?_;simp only[zz];try simp only[Exit.inBlock,Exit.then,if_true]
   refine bS rfl rfl ?_;try simp only[zD,zE]
   exact ⟨_,rfl,m.ext,⟨_,_,_,by rw [List.length_map];exact htl.symm,rfl,(m.o 0 rfl)⟩⟩
theorem Fq {kind bits : Int} [Iw kind] [Iw bits] {HN Hc DN Dc : Nat} {HA DA : Option Addr} {zs : List Int} {qs : List Q4} {DN1 Dc1 : Nat} {DA1 : Option Addr} {qs1 : List Q4} (w : World) (hZ : nK w HA HN zs) (hQ : sR q4C 4 w DA DN qs) (hI : ∀ q ∈ qs,IQ q) (hQ1 : sR q4C 4 w DA1 DN1 qs1) (hI1 : ∀ q ∈ qs1,IQ q) : eI prog 6 [.agg #[.int .i64 kind,.int .i64 bits,.slice HA HN Hc,.slice DA DN Dc],.slice DA1 DN1 Dc1] w (fun v _=>v = .bool true):=by
 refine ⟨agp,?_⟩;have m:=bR.refl w
 go_enter func6,ntmps6
 refine aD fun K1 k1=>wp_region_lit (eY m rfl ?_);clear m;intro g1 u m;refine aA (aF) (aG (k1 _ _ ?_));refine aD fun K2 k2=>wp_region_lit ?_;simp only[zz];refine iV m rfl rfl (aaP) ?_;clear m;intro u m;refine aA (aF) (aG (k2 _ _ ?_));refine aD fun K3 k3=>wp_region_lit ?_;simp only[zz];refine aJ rfl ((m.b 0 rfl).full adV Zj) ?_;simp only[zz];refine bK rfl rfl (aeu _ (hZ.ext m.ext) (hQ.ext m.ext) hI) ?_;rintro v u e ⟨us,ms,A7,c7,A8,c8,A5,c5,i,rfl,hM,hi,hdv⟩;replace m:=m.plus hM;clear hM e;simp only[List.cons_append,List.nil_append] at m;have hs:=hdv.srf hi;have hs1:=hs.ul;have hs2:=hs.ll;have hs3:=hs.ml;refine aA (aB) (aA (aZ rfl rfl) (aA (aZ rfl rfl) ?_));simp only[zz];refine aA (aZ rfl rfl) (aA (aF) (aA (aF) (aA (aF) ?_)));simp only[zz];refine aG (k3 _ _ ?_);refine aD fun K4 k4=>aD fun K5 k5=>wp_region_lit (aA (aB) ?_);simp only[zz];refine gF m rfl rfl (Js _ ((m.o 2 rfl).tris (wS hs.lm)) (by omega)) ?_;clear m;rintro v u m rfl;refine aA (nS rfl rfl) (aG (k5 _ _ ?_));simp only[zz];refine cO rfl (fun hc1=>?_) (fun hc1=>?_)
 ·
  refine aD fun K6 k6=>wp_region_lit (aA (aB) (aA (aF) (aG (k6 _ _ ?_))));refine wp_ret ?_;simp only[zz];try simp only[Exit.inBlock,Exit.then,if_true]
  refine bS rfl rfl ?_;try simp only[zD,zE]
  exact ⟨_,rfl,m.ext,rfl⟩
 ·
  have hch : cV true (gC kind bits zs) = 0:=Classical.not_not.1 hc1;refine wp_skip (k4 _ _ ?_);refine aD fun K7 k7=>wp_region_lit (aA (aB) (aA (rV rfl) ?_));simp only[zz];refine bK rfl rfl (Og (v:=v3) _ ((m.o 1 rfl).tris (wS hs.um)) (acV (Rj (Ri hs.um))) (by omega)) ?_;rintro v u e ⟨A11,c11,n11,hn11,rfl,hN⟩;replace m:=m.newO e hN;clear e hN;rw [List.length_map] at hn11;subst hn11;refine aA (aB) ?_;simp only[zz];refine bK rfl rfl (Ib _ ((m.o 0 rfl).tris (Rj (Ri hs.um))) (by omega) (hQ1.ext m.ext) hI1) ?_;rintro v u e ⟨us2,ms2,A13,c13,A14,c14,i2,rfl,hM,hi2,hdv2⟩;replace m:=m.plus hM;clear hM e;simp only[List.cons_append,List.nil_append] at m;obtain ⟨hw2,hwm2⟩:=agA hdv2 hi2 (Ri hs.um);obtain ⟨hl2,hl3⟩:=hdv2.len;rw [List.length_map] at hl2;obtain ⟨a,b,c,hka,hkb,hkc,hab,ha12,hb12⟩:=acu hdv hi hdv2 hi2 hch;refine aA (aB) (aA (aZ rfl rfl) (aA (aZ rfl rfl) ?_));simp only[zz];refine aA (aF) (aA (aF) (aG (k7 _ _ ?_)));refine aD fun K8 k8=>wp_region_lit (aA (aB) (aA (rV rfl) ?_));simp only[zz];refine bK rfl rfl (Og (v:=vE) _ ((m.o 1 rfl).tris (Rj hw2)) (acV (Rk hw2)) (by omega)) ?_;rintro v u e ⟨A16,c16,n16,hn16,rfl,hN⟩;replace m:=m.newO e hN;clear e hN;rw [List.length_map] at hn16;subst hn16;refine aA (aF) (aG (k8 _ _ ?_));refine aD fun K9 k9=>wp_region_lit (aA (aF) ?_);replace m:=m.nilO 50 6;refine aG (k9 _ _ ?_);refine aD fun K10 k10=>aD fun K11 k11=>wp_region_lit (aA (aF) ?_);simp only[zz];refine aG (k11 _ _ ?_);refine wp_block ?_;try simp only[Nat.zero_add,Nat.reduceAdd,Nat.reduceMul,Int.reduceToNat]
  refine bM [11,12] [13,46,47,48,49,50,51,52,53,54,55,56,57,58,59,60,61,62,63,64,65,66,67,68,69,70,71] (fun n vs wl=>∃ (k : Nat) (A17 : Option Addr) (c17 : Nat),vs = [.slice A17 k c17,.int .i64 (k:Int)] ∧ bR w wl [oI 50 6 A17 k c17 (((ms2.take k).map uL).flatMap bJ),oI 53 9 A16 us2.length c16 ((us2.map (T3.sh vE)).flatMap aX),oI 50 6 A14 ms2.length c14 (ms2.flatMap bJ),oI 50 6 A8 ms.length c8 (ms.flatMap bJ),oI 53 9 A7 us.length c7 (us.flatMap aX),oI 53 9 A5 (gC kind bits zs).length c5 ((gC kind bits zs).flatMap aX)] ∧ (k ≤ ms2.length) ∧ (n = ms2.length - k)) ?_ ?_
  ·
   apply Exists.intro;simp only[zQ,zR,zD,zE];exact ⟨0,_,_,rfl,(m.sel [true,true,true,false,false,true,true,true,false]),Nat.zero_le _,rfl⟩
  ·
   intro n vs wr hI u;clear m;obtain ⟨k,A17,c17,rfl,m,hk,hn⟩:=hI;simp only[zu,zF,zG];refine aD fun K12 k12=>aD fun K13 k13=>wp_region_lit (aA (aB) (aA (aB) (aA (bF rfl jG rfl) (aA (cJ rfl rfl) ?_))));simp only[zz];refine aG (k13 _ _ ?_);refine cO rfl (fun hc2=>?_) (fun hc2=>?_)
   ·
    obtain ⟨mv,hmv⟩ : ∃ mv,ms2[k]? = some mv:=⟨_,List.getElem?_eq_getElem (by omega)⟩
    obtain ⟨gO,rfl⟩:=(m.o 2 rfl).some (by omega);obtain ⟨hwa,hwb⟩:=hwm2 mv (List.mem_of_getElem? hmv);refine wp_skip (k12 _ _ ?_);refine aD fun K14 k14=>wp_block (aD fun K15 k15=>wp_region_lit (aA (aB) (aA (aB) ?_)));simp only[zz];refine aA (aM jG eH rfl rfl (by omega) (by omega) (cA (Int.toNat_natCast _))) ?_;simp only[zz];refine aJ rfl (((m.o 2 rfl).at pR hmv).lies tS eH) ?_;simp only[zz];refine bC m rT rfl ?_;clear m;intro g2 u m;simp only[zz];refine aS m 0 rfl rfl rfl eH (dX rfl) rfl ?_;clear m;intro u m;simp only[zy,zx,bG,zF,zG,Nat.reduceAdd] at m;refine aG (k15 _ _ ?_);refine aD fun K16 k16=>wp_region_lit (aA (aK (c:=2) iL rfl aC rfl rfl) (aA (aK (c:=0) cN rfl bA rfl rfl) ?_));simp only[zz];refine aJ rfl ((m.b 0 rfl).lies1 bQ rfl) ?_;simp only[zz];refine aA (gL rfl rfl (sQ (n:=mv.1.x - 3000) hwa.sub)) (aA (aK (c:=2) iL rfl aC rfl rfl) (aA (aK (c:=0) cN rfl bA rfl rfl) ?_));simp only[zz];refine By m 0 rfl rfl rfl bA (dX rfl) ⟨rfl,rfl⟩ ?_;clear m;intro u m;simp only[zz,zy,zx,bG,Nat.reduceAdd] at m;refine aG (k16 _ _ ?_);refine aD fun K17 k17=>wp_region_lit (aA (aK (c:=2) iL rfl aC rfl rfl) (aA (aK (c:=0) cN rfl bA rfl rfl) ?_));simp only[zz];refine aJ rfl ((m.b 0 rfl).lies1 bQ rfl) ?_;simp only[zz];refine aA (gL rfl rfl (sQ (n:=mv.2.x - 3000) hwb.sub)) (aA (aK (c:=2) iL rfl aC rfl rfl) (aA (aK (c:=0) cN rfl bA rfl rfl) ?_));simp only[zz];refine By (off:=3) m 0 rfl rfl rfl bA (dX rfl) ⟨rfl,rfl⟩ ?_;clear m;intro u m;simp only[zz,zy,zx,bG,Nat.reduceAdd] at m;refine aG (k17 _ _ ?_);refine wp_region_lit (aA (aB) ?_);simp only[zz];refine aJ rfl ((m.b 0 rfl).full tS eH) ?_;simp only[zz];refine lH rfl ?_;intro u g3 e hg hB;replace m:=m.newB e hg hB;clear e hg hB;simp only[zz];refine dM m 2 rfl rfl jG yY rfl (by decide) rfl rfl rfl (m.b 0 rfl).rowsO (pD rfl) (by omega) (by omega) ?_;clear m;intro A17 cap17 u m;simp only[zF,zG] at m;refine aA (aF) (aG (k14 _ _ ?_));refine wp_region_lit (aA (aB) ?_);simp only[zz];refine aA (aQ rfl rfl (aN (by omega) (by omega))) (aA (aF) (aG ?_));simp only[zz];simp only[Exit.inBlock,Exit.then];refine ⟨ms2.length - (k + 1),_,?_,rfl,?_,?_⟩
    · omega
    · simp only[zz,zv]
    ·
     simp only[zQ,zR,zD,zE];exact ⟨k + 1,_,_,rfl,((m.reO 2 rfl ((m.o 2 rfl).as (Wy hmv))).sel [false,false,true,true,true,true,true,true]),by omega,rfl⟩
   ·
    obtain rfl : k = ms2.length:=by omega
    have hIb:=acr hwm2;have hbl : (ms2.map uL).length = ms2.length:=List.length_map ..;obtain ⟨bk,hbk⟩ : ∃ bk,bk = ms2.map uL:=⟨_,rfl⟩
    rw [List.take_length,← hbk] at m;rw [← hbk] at hkb hkc hIb hbl;refine wp_exit (k10 _ _ ?_);refine aD fun K18 k18=>wp_region_lit (aA (aB) (aA (aB) (aA (aB) ?_)));simp only[zz];refine gF m rfl rfl (pB (fs:=us) (gs:=(gC kind bits zs)) (ms:=ms) _ ((m.o 4 rfl).tris (wS hs.um)) ((m.o 5 rfl).tris (wS hs.lm)) ((m.o 3 rfl).lat pR (by decide)) (by omega) (by omega) (by omega) (aaO hs.mm)) ?_;clear m;rintro v u m rfl;simp only[zz];rw [hka];dsimp only;refine aA (aB) (aA (aZ rfl rfl) (aA (aZ rfl rfl) (aA (aF) ?_)));simp only[zz];refine aA (aF) (aG (k18 _ _ ?_));refine aD fun K19 k19=>wp_region_lit (aA (aB) (aA (aB) (aA (aB) ?_)));simp only[zz];refine gF m rfl rfl (pB (fs:=us2.map (T3.sh vE)) (gs:=us) (ms:=bk) _ ((m.o 1 rfl).tris (Rk hw2)) ((m.o 4 rfl).tris (wS hs.um)) ((m.o 0 rfl).lat pR (by decide)) (by omega) (by omega) (by omega) hIb) ?_;clear m;rintro v u m rfl;simp only[zz];rw [hkb];dsimp only;refine aA (aB) (aA (aZ rfl rfl) (aA (aZ rfl rfl) (aA (aF) ?_)));simp only[zz];refine aA (aF) (aG (k19 _ _ ?_));refine aD fun K20 k20=>wp_region_lit (aA (aF) ?_);replace m:=m.nilO 50 6;refine aG (k20 _ _ ?_);refine aD fun K21 k21=>aD fun K22 k22=>wp_region_lit (aA (aF) (aG (k22 _ _ ?_)));refine wp_block ?_;simp only[zz];try simp only[Nat.zero_add,Nat.reduceAdd,Nat.reduceMul,Int.reduceToNat]
    refine bM [18,19] [20,21,86,87,88,89,90,91,92,93,94,95,96,97,98,99,100,101,102,103,104,105,106,107,108,109,110,111,112,113,114,115,116,117,118,119] (fun n vs wl=>∃ (k : Nat) (A18 : Option Addr) (c18 : Nat),vs = [.slice A18 k c18,.int .i64 (k:Int)] ∧ bR w wl [oI 50 6 A18 k c18 (((bk.take k).map (chJ ms)).flatMap bJ),oI 50 6 A17 ms2.length c17 (bk.flatMap bJ),oI 53 9 A16 us2.length c16 ((us2.map (T3.sh vE)).flatMap aX),oI 50 6 A8 ms.length c8 (ms.flatMap bJ),oI 53 9 A7 us.length c7 (us.flatMap aX),oI 53 9 A5 (gC kind bits zs).length c5 ((gC kind bits zs).flatMap aX)] ∧ (k ≤ ms2.length) ∧ (n = ms2.length - k)) ?_ ?_
    ·
     apply Exists.intro;simp only[zQ,zR,zD,zE];exact ⟨0,_,_,rfl,(m.sel [true,true,true,false,true,true,true]),Nat.zero_le _,rfl⟩
    ·
     intro n vs wr hI u;clear m;obtain ⟨k,A18,c18,rfl,m,hk,hn⟩:=hI;simp only[zu,zF,zG];refine aD fun K23 k23=>aD fun K24 k24=>wp_region_lit (aA (aB) (aA (aB) (aA (bF rfl jG rfl) (aA (cJ rfl rfl) ?_))));simp only[zz];refine aG (k24 _ _ ?_);refine cO rfl (fun hc3=>?_) (fun hc3=>?_)
     ·
      obtain ⟨mv,hmv⟩ : ∃ mv,bk[k]? = some mv:=⟨_,List.getElem?_eq_getElem (by omega)⟩
      obtain ⟨gO,rfl⟩:=(m.o 1 rfl).some (by omega);refine wp_skip (k23 _ _ ?_);refine aD fun K25 k25=>wp_block (aD fun K26 k26=>wp_region_lit (aA (aB) (aA (aB) ?_)));simp only[zz];refine aA (aM jG eH rfl rfl (by omega) (by omega) (cA (Int.toNat_natCast _))) ?_;simp only[zz];refine aJ rfl (((m.o 1 rfl).at pR hmv).lies tS eH) ?_;simp only[zz];refine bC m rT rfl ?_;clear m;intro g2 u m;simp only[zz];refine aS m 0 rfl rfl rfl eH (dX rfl) rfl ?_;clear m;intro u m;simp only[zy,zx,bG,zF,zG,Nat.reduceAdd] at m;refine aG (k26 _ _ ?_);refine aD fun K27 k27=>aD fun K28 k28=>wp_region_lit (aA (aF) (aG (k28 _ _ ?_)));refine wp_block ?_;simp only[zz];try simp only[Nat.zero_add,Nat.reduceAdd,Nat.reduceMul,Int.reduceToNat]
      refine bM [21] [96,97,98,99,100,101,102,103,104,105,106,107,108,109,110,111,112,113,114,115] (fun n vs wl=>∃ (j : Nat),vs = [.int .i64 (j:Int)] ∧ bR w wl [bI g2 (bJ mv) 50,oI 50 6 A18 k c18 (((bk.take k).map (chJ ms)).flatMap bJ),oI 50 6 (some ⟨gO,0,none⟩) ms2.length c17 (bk.flatMap bJ),oI 53 9 A16 us2.length c16 ((us2.map (T3.sh vE)).flatMap aX),oI 50 6 A8 ms.length c8 (ms.flatMap bJ),oI 53 9 A7 us.length c7 (us.flatMap aX),oI 53 9 A5 (gC kind bits zs).length c5 ((gC kind bits zs).flatMap aX)] ∧ (dP ms mv.2 = dP (ms.drop j) mv.2) ∧ (j ≤ ms.length) ∧ (n = ms.length - j)) ?_ ?_
      ·
       apply Exists.intro;simp only[zQ,zR,zD,zE];exact ⟨0,rfl,m,rfl,Nat.zero_le _,rfl⟩
      ·
       intro n vs wr hI u;clear m;obtain ⟨j,rfl,m,hj0,hj,hn3⟩:=hI;simp only[zu,zF,zG];refine aD fun K29 k29=>aD fun K30 k30=>wp_region_lit (aA (aB) (aA (aB) (aA (bF rfl jG rfl) (aA (cJ rfl rfl) ?_))));simp only[zz];refine aG (k30 _ _ ?_);refine cO rfl (fun hc4=>?_) (fun hc4=>?_)
       ·
        obtain ⟨mu,hmu⟩ : ∃ mu,ms[j]? = some mu:=⟨_,List.getElem?_eq_getElem (by omega)⟩
        obtain ⟨gM,rfl⟩:=(m.o 4 rfl).some (by omega);refine wp_skip (k29 _ _ ?_);refine aD fun K31 k31=>wp_block (aD fun K32 k32=>?_);refine mh m [true,true,true,true,true,true,true] [(0,true),(1,true),(2,true),(3,true),(5,true),(4,true),(6,true),(7,true)] aO (by kernel_rfl) (eE (fun _ _ _ _ _ h=>h)) (ol:=?_) ?hol ?_
        case hol=>simp only[zw,zQ,zR];try rfl
        clear m;intro u m;refine bO (aB) (bO (aB) ?_);simp only[zz];refine bO (aM jG eH rfl rfl (by omega) (by omega) (cA (Int.toNat_natCast _))) (bO (aK (c:=2) iL rfl aC rfl rfl) (bO (aK (c:=2) iL rfl aC rfl rfl) ?_));simp only[zz];refine dU rfl (fun u m=>((Qj ((m.o 4 rfl).at pR hmu)).lies aI aC)) ?_;simp only[zz];refine dU rfl (fun u m=>((m.b 0 rfl).lies aI aC rfl rfl)) ?_;simp only[zz,zy,Nat.zero_add,Nat.reduceAdd,Nat.reduceMul,Int.reduceToNat];refine bO (cP rfl rfl) (eF (k32 _ _ ?_));simp only[zz];refine cO rfl (fun hc5=>?_) (fun hc5=>?_)
        ·
         have hh:=Sh hmu hj0 (iX.1 hc5);refine aD fun K33 k33=>wp_region_lit (aA (aB) (aA (aB) ?_));simp only[zz];refine aA (aM jG eH rfl rfl (by omega) (by omega) (cA (Int.toNat_natCast _))) (aA (aK (c:=2) iL rfl aC rfl rfl) ?_);simp only[zz];refine aJ rfl ((Qk ((m.o 4 rfl).at pR hmu)).lies aI aC) ?_;simp only[zz];refine aA (aK (c:=2) iL rfl aC rfl rfl) ?_;simp only[zz];refine aS (off:=3) m 0 rfl rfl rfl aC (dX rfl) rfl ?_;clear m;intro u m;simp only[zy,zx,bG,zF,zG,Nat.reduceAdd] at m;refine aG (k33 _ _ ?_);refine wp_exit (k27 _ _ ?_);refine wp_region_lit (aA (aB) ?_);simp only[zz];refine aJ rfl ((m.b 0 rfl).full tS eH) ?_;simp only[zz];refine lH rfl ?_;intro u g3 e hg hB;replace m:=m.newB e hg hB;clear e hg hB;simp only[zz];refine dM m 2 rfl rfl jG yY rfl (by decide) rfl rfl rfl (m.b 0 rfl).rowsO (pD rfl) (by omega) (by omega) ?_;clear m;intro A18 cap18 u m;simp only[zF,zG] at m;refine aA (aF) (aG (k25 _ _ ?_));refine wp_region_lit (aA (aB) ?_);simp only[zz];refine aA (aQ rfl rfl (aN (by omega) (by omega))) (aA (aF) (aG ?_));simp only[zz];simp only[Exit.inBlock,Exit.then];refine ⟨ms2.length - (k + 1),_,?_,rfl,?_,?_⟩
         · omega
         · simp only[zz,zv]
         ·
          simp only[zQ,zR,zD,zE];exact ⟨k + 1,_,_,rfl,((m.reO 2 rfl ((m.o 2 rfl).as (Tn (q:=mu.2) hmv hh))).sel [false,false,true,true,true,true,true,true]),by omega,rfl⟩
        ·
         have hj1:=My hmu hj0 (mt iX.2 hc5);refine wp_skip (k31 _ _ ?_);refine wp_region_lit (aA (aB) ?_);simp only[zz];refine aA (aQ rfl rfl (aN (by omega) (by omega))) (aA (aF) (aG ?_));simp only[zz];simp only[Exit.inBlock,Exit.then];refine ⟨ms.length - (j + 1),_,?_,rfl,?_,?_⟩
         · omega
         · simp only[zz,zv]
         ·
          simp only[zQ,zR,zD,zE];exact ⟨j + 1,rfl,m,hj1,by omega,rfl⟩
       ·
        obtain rfl : j = ms.length:=by omega
        rw [show ms.drop ms.length = [] from List.drop_of_length_le (Nat.le_refl _)] at hj0;have hh : dP ms mv.2 = mv.2:=hj0;refine wp_exit (k27 _ _ ?_);refine wp_region_lit (aA (aB) ?_);simp only[zz];refine aJ rfl ((m.b 0 rfl).full tS eH) ?_;simp only[zz];refine lH rfl ?_;intro u g3 e hg hB;replace m:=m.newB e hg hB;clear e hg hB;simp only[zz];refine dM m 2 rfl rfl jG yY rfl (by decide) rfl rfl rfl (m.b 0 rfl).rowsO (pD rfl) (by omega) (by omega) ?_;clear m;intro A18 cap18 u m;simp only[zF,zG] at m;refine aA (aF) (aG (k25 _ _ ?_));refine wp_region_lit (aA (aB) ?_);simp only[zz];refine aA (aQ rfl rfl (aN (by omega) (by omega))) (aA (aF) (aG ?_));simp only[zz];simp only[Exit.inBlock,Exit.then];refine ⟨ms2.length - (k + 1),_,?_,rfl,?_,?_⟩
        · omega
        · simp only[zz,zv]
        ·
         simp only[zQ,zR,zD,zE];exact ⟨k + 1,_,_,rfl,((m.reO 2 rfl ((m.o 2 rfl).as (Tn (q:=mv.2) hmv hh))).sel [false,false,true,true,true,true,true,true]),by omega,rfl⟩
     ·
      obtain rfl : k = ms2.length:=by omega
      rw [show bk.take ms2.length = bk from List.take_of_length_le (by omega)] at m;refine wp_exit (k21 _ _ ?_);refine aD fun K34 k34=>wp_region_lit (aA (aB) (aA (aB) (aA (aB) (aA (aB) ?_))));simp only[zz];refine dM m 0 rfl rfl jG yY rfl (by decide) rfl rfl (m.o 3 rfl).own.1 (m.o 3 rfl).row (Di _) (by omega) (by omega) ?_;clear m;intro A18 cap18 u m;simp only[zF,zG] at m;rw [← List.flatMap_append] at m;simp only[zz];refine gF m rfl rfl (pB (fs:=us2.map (T3.sh vE)) (gs:=(gC kind bits zs)) (ms:=bk.map (chJ ms) ++ ms) _ ((m.o 2 rfl).tris (Rk hw2)) ((m.o 5 rfl).tris (wS hs.lm)) ((m.o 0 rfl).lat pR (by decide)) (by omega) (by omega) (by omega) (aa5 hIb (aaO hs.mm))) ?_;clear m;rintro v u m rfl;simp only[zz];rw [hkc];dsimp only;refine aA (aB) (aA (aZ rfl rfl) (aA (aZ rfl rfl) (aA (aF) ?_)));simp only[zz];refine aA (aF) (aG (k34 _ _ ?_));refine aD fun K35 k35=>wp_region_lit (aA (aB) (aA (aB) (bU rfl (aA (aB) ?_))));simp only[zz];refine bU rfl (aA (pM (m:=0) (n:=0) rfl rfl (by decide)) (aA (gA rfl) (aA (aB) (bU rfl (aA (aB) ?_)))));simp only[zz];refine bU rfl (aA (pM (m:=0) (n:=0) rfl rfl (by decide)) (aA (gA rfl) (aA (aB) (bU rfl (aA (aB) ?_)))));simp only[zz];refine bU rfl (aA (pM (m:=0) (n:=0) rfl rfl (by decide)) (aA (gA rfl) (aA (aB) (bU rfl (aA (aB) ?_)))));simp only[zz];refine bU rfl (aA (aB) (bU rfl (aA (aB) (bU rfl (aA (aQ rfl rfl (sQ (n:=(a : Int) + (b : Int)) ⟨by omega,by omega⟩)) (bU rfl ?_))))));simp only[zz];refine aA (Ol rfl rfl (by omega)) (aA (gA rfl) (aA (aF) (aG (k35 _ _ ?_))));refine wp_ret ?_;simp only[zz];try simp only[Exit.inBlock,Exit.then,if_true]
      refine bS rfl rfl ?_;try simp only[zD,zE]
      exact ⟨_,rfl,m.ext,rfl⟩
end Go.Proofs.YtfohfflkhpfjeaaGreatDoor
namespace Go.Lith
open Go.RowKit Go.ChangeShapes
variable {H : Type} {enc : TypeId × Value → H} {P : Program}
theorem Bg (hl : laidOutB P = true) {W W' : World} (hb : dD W W') {sp : Nat → Bool} :
 ∀ {ts : List TypeId} {vs : List Value} {ds : List (DataW H)} {ps : List MemPlace},(ts.all fun t=>P.readableRec t && decide (t < P.types.size)) = true → DataW.TrodAll enc P W 0 (fun _=>true) true ts vs ds ps → (∀ p ∈ ps,sp p.block = true) → DataW.TrodAll enc P W' 0 sp true ts vs ds ps
 | [],[],[],_,_,h,_=>h
 | [],[],_ :: _,_,_,h,_=>h.elim
 | [],_ :: _,_,_,_,h,_=>h.elim
 | _ :: _,[],_,_,_,h,_=>h.elim
 | _ :: _,_ :: _,[],_,_,h,_=>h.elim
 | t :: ts,v :: vs,d :: ds,ps,hv,h,hs=>by
  obtain ⟨p,q,⟨n,h1⟩,h2,e⟩:=h;subst e;simp only[List.all_cons,Bool.and_eq_true,decide_eq_true_eq] at hv;have hlt:=DataW.trod_lt n _ _ _ h1;exact ⟨p,q,⟨n,DataW.trod_stays (kids_book hl hv.1.1) (book_sized hv.1.1) (fun h=>by cases h) ⟨hv.1.2,book_self t⟩ h1 (fun x hx=>Below.same hb (hlt x hx)) (fun x hx=>hs x (by simp [hx]))⟩,
   Bg hl hb (by simpa using hv.2) h2 (fun x hx=>hs x (by simp [hx])),rfl⟩
theorem Oh {f : Func} {s : ChangeSpec} {apart fresh handsOn again : Bool} {W W' : World} {args : Array Value} {t : TypeId} {ds gs : List (DataW H)} {before : List MemPlace}
 (hl : laidOutB P = true) (hps : (f.params.toList.all fun t=>P.readableRec t && decide (t < P.types.size)) = true) (hv : s.vars = []) (hr : f.resultTypes = #[t]) (hu : P.underlying t = some .bool)
 (hW : DataW.Whole enc P f.params.toList s.vars apart W args.toList ds gs before) (hfn : (s.fn H (ds ++ gs)).results = [.lit (.bool true)] ∧ (s.fn H (ds ++ gs)).args = ds ∧ (s.fn H (ds ++ gs)).vars = []) (hb : dD W W') :
 s.post enc P f apart fresh handsOn again W args (.bool true) W':=by
 have hW0:=hW;obtain ⟨p,q,hA,hV,rfl,hz,hn⟩:=hW0;rw [hv] at hV;obtain ⟨rfl,rfl⟩:=trodVars_none hV;have hargs : ∀ sp : Nat → Bool,(∀ x ∈ p ++ [],sp x.block = true) → DataW.TrodAll enc P W' 0 sp true f.params.toList args.toList (s.fn H (ds ++ [])).args p:=fun sp hsp=>by
  rw [hfn.2.1];exact Bg hl hb hps hA (fun x hx=>hsp x (by simp [hx]))
 have hvars : ∀ sp : Nat → Bool,DataW.TrodVars enc P W' sp s.vars (s.fn H (ds ++ [])).vars []:=fun sp=>by
  rw [hv,hfn.2.2];exact rfl
 have hres : ∀ (b : Nat) (sp : Nat → Bool) (hd : Bool),DataW.TrodAll enc P W' b sp hd f.resultTypes.toList ((Value.bool true).resultList f.resultTypes.size) (s.fn H (ds ++ [])).results []:=fun b sp hd=>by
  rw [hr,hfn.1];exact trodAll_cons_mk (shut_bool hu true) trodAll_mk0
 have hok : ∀ (j : Nat) (t : TypeId) (r : Value),f.resultTypes[j]? = some t → ((Value.bool true).resultList f.resultTypes.size)[j]? = some r → Value.okWide P W' .any 0 t r:=ok_one hr rfl (okWide_bool_mk hu _);have hlt : ∀ x ∈ p ++ [],x.block < W.heap.size:=hW.lt;have hold : ∀ x ∈ p ++ [],(fun b=>decide (b < W.heap.size)) x.block = true:=fun x hx=>by simpa using hlt x hx
 refine ⟨ds,[],p ++ [],[],p,[],hW,hres _ _ _,hargs _ hold,hvars _,Below.frame hb _,fun _=>?_⟩;refine ⟨hok,_,_,([] ++ p) ++ [],⟨[] ++ p,[],trodAll_append (hargs _ (fun _ _=>rfl)) (hres _ _ _),hvars _,rfl,?_,?_⟩,?_⟩
 · intro b off hp
   have h1 : MemPlace.cell b off ∈ p ++ []:=by simpa using hp
   rw [Below.frozen hb (p:=⟨b,off,none⟩) (hlt _ h1)];exact hz b off h1
 · intro ha
   simpa using hn ha
 · intro x hp _
   simpa using hp
end Go.Lith
namespace Go.Proofs.YtfohfflkhpfjeaaGreatDoor.witnessChain
open Go.Proofs.Tryz
open Go.ChangeShapes Go.WideShapes Go.ChangeAt Go.RowKit Go.Lith
set_option maxRecDepth 100000
theorem own : ownKnob prog.godebug = none:=by kernel_rfl
theorem laidOut : laidOutB prog = true:=by kernel_rfl
theorem contract (H : Type) (enc : TypeId × Value → H) (W : World) (base : Nat) (args : Array Value) (ds gs : List (DataW H)) (before : List MemPlace)
 (hval : ∀ (j : Nat) t v,f6.params[j]? = some t → args[j]? = some v → Value.okWide prog W .any base t v)
 (hW : DataW.Whole enc prog f6.params.toList Rows.witnessChainSpec.vars false W args.toList ds gs before) :
 Calls prog 6 args W fun e W'=>∃ v,e = .returned v ∧ Rows.witnessChainSpec.post enc prog f6 false true false false W args v W':=by
 have hW':=hW;obtain ⟨p,q,hA,hV,rfl,hfz,hnd⟩:=hW;rw [params6] at hA hval;obtain ⟨v0,vs0,d0,ds0,p0,q0,e0,rfl,rfl,h0,r0⟩:=trodAll_cons hA;obtain ⟨v1,vs1,d1,ds1,p1,q1,e1,rfl,rfl,h1,r1⟩:=trodAll_cons r0;obtain ⟨rfl,rfl,rfl⟩:=trodAll_nil r1;subst e1;obtain rfl : args = #[v0,v1]:=by cases args;simp_all
 obtain ⟨rfl,rfl⟩:=trodVars_none hV;obtain ⟨kind,bits,HA,DA,HN,Hc,DN,Dc,zs,qs,rfl,i0,i1,hZ,hQ,hI⟩:=Oc (n:=5) (tI:=3) (tH:=22) (tM:=23) (tT:=80) Hf (by kernel_rfl) (by kernel_rfl) (by kernel_rfl) (by kernel_rfl) xL (by kernel_rfl) vS (by kernel_rfl) (by kernel_rfl) (by kernel_rfl) (hval 0 25 v0 rfl rfl) h0;obtain ⟨DA1,DN1,Dc1,qs1,rfl,hQ1,hI1⟩:=Od (n:=5) vS (by kernel_rfl) (by kernel_rfl) (hval 1 23 v1 rfl rfl) h1;refine (Fq W hZ hQ hI hQ1 hI1).2.mono ?_;rintro e W' ⟨v,rfl,hE,rfl⟩;exact ⟨_,rfl,Oh laidOut (by kernel_rfl) rfl rfl Zc hW' ⟨rfl,rfl,rfl⟩ hE⟩
def accepts : List Value:=[128,191,160,191,128,159,144,191,128,143,0,0,0,0,0,0,0,0,0,0,0,0,0,0,0,0,0,0,0,0,0,0].map fun n=>.int .u8 n
def firsts : List Value:=Go.Pinned.utf8FirstZ.map fun (n : Nat)=>Value.int .u8 (n : Int)
def relaid (cs : List Value) : Obj → Obj
 | .cells _ t frozen=>.cells cs.toArray t frozen
 | o=>o
noncomputable def laidWorld (os : Os) : World :=
 { World.holding prog os ⟨#[],#[],[]⟩ with heap:=((World.holding prog os ⟨#[],#[],[]⟩).heap.modify 0 (relaid firsts)).modify 1 (relaid accepts) }
def inp : Array Value:=#[.agg #[.int .i64 0,.int .i64 0,.slice none 0 0,.slice none 0 0],.slice none 0 0]
theorem laid_met (os : Os) : laidMet prog Rows.witnessChainRow.laid ((laidWorld os).forCall (fun _ _=>0) ⟨#[],inp,[]⟩).memory :=
 laidMet_of_run' 8 (by kernel_rfl) (by kernel_rfl)
theorem reads (os : Os) {H : Type} (enc : TypeId × Value → H) : ∃ places,DataW.whole enc prog ((laidWorld os).forCall (fun _ _=>0) ⟨#[],inp,[]⟩).memory f6.params.toList Rows.witnessChainSpec.vars false inp.toList 8 = some ([.agg [.lit (.int .i64 0),.lit (.int .i64 0),.nil,.nil],.nil],[],places) :=
 ⟨[],by kernel_rfl⟩
theorem lifted (os : Os) (started : os.Started) (H : Type) (enc : TypeId × Value → H) (F : Stop.Interp) :
 ReturnsInHanded {} checked os 6 .any ((OpenSpec.ofChange Rows.witnessChainSpec).preRow enc prog f6 Rows.witnessChainRow.domain false Rows.witnessChainRow.laid) (((OpenSpec.ofChange Rows.witnessChainSpec).at F).post enc prog f6 false true false false):=by
 obtain ⟨places,hx⟩:=reads os enc;refine returnsInHanded_of_row (C:=checked) (s:=OpenSpec.ofChange Rows.witnessChainSpec) own started (by kernel_rfl) func6
  (witness_row_at (enc:=enc) (C:=checked) false (laidWorld os) inp rfl (by kernel_rfl) (by kernel_rfl) (by kernel_rfl)
   (OpenSpec.preRow_of_cond 8 hx (by kernel_rfl) (fun k hk=>by cases hk) (by kernel_rfl) (laid_met os))) ?_
 intro W base args ds gs before hval hW _ _ _ hL _ _;exact contract H enc W base args ds gs before hval hW
theorem said : Rows.WitnessChainSaid :=
 OpenClaim.holds_of_cond 6 f6 rfl rfl rfl rfl rfl rfl rfl ⟨rfl,rfl,rfl,rfl,rfl⟩ rfl rfl rfl rfl rfl (by kernel_rfl) func6 (by kernel_rfl)
  (of_decide_eq_true (by kernel_rfl)) (by unfold Func.isWrapper;first | (rw [if_pos (by decide +kernel)];kernel_rfl) | (rw [if_neg (by decide +kernel)];exact ⟨rfl,rfl⟩))
  (fun os started H enc _ F=>by rw [OpenClaim.pre_eq_preRow];exact lifted os started H enc F)
theorem plain (f : FuncId) (fn : Func) (hf : Tryz.pinned.checked.prog.funcNamed Rows.witnessChainRow.func = some f) (hfn : Tryz.pinned.checked.prog.funcs[f]? = some fn) :
 false = Tryz.pinned.checked.prog.looks [] ∧ ∀ (j : Nat) t,fn.params[j]? = some t → Tryz.pinned.checked.prog.wantsStandIn t = false:=by
 obtain rfl : f = 6:=Option.some.inj ((show prog.funcNamed Rows.witnessChainRow.func = some 6 by kernel_rfl).symm.trans hf) |>.symm
 obtain rfl : fn = f6:=(Option.some.inj (func6.symm.trans hfn)).symm;refine ⟨by kernel_rfl,fun j t ht=>?_⟩;rw [params6] at ht;have hm : t ∈ [25,23]:=by simpa using Array.mem_of_getElem? ht
 have hall : ([25,23].all fun u=>!prog.wantsStandIn u) = true:=by kernel_rfl
 exact (show prog.wantsStandIn t = false by simpa using List.all_eq_true.1 hall t hm)
theorem card : Rows.WitnessChainCardSaid :=
 Claim7.holds_tied_plain_at .later [] _ _ _ _ said (fun _ h=>by cases h) (by kernel_rfl) (fun _ h=>by cases h) witnessChain_row_tie rfl ⟨rfl,rfl⟩ (by kernel_rfl) rfl plain (by kernel_rfl)
end Go.Proofs.YtfohfflkhpfjeaaGreatDoor.witnessChain
