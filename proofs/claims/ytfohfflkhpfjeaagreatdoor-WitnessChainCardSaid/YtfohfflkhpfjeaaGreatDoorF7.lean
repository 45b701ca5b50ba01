/-
 Texts of one claim, laid together: V4, Wj, V6, Wk, Wl, Wm, Wn, Wo, Wp, Sh, Wq, Wr, Open5.
-/
import Derived.Test.YtfohfflkhpfjeaaGreatDoorF6
set_option maxHeartbeats 8000000
set_option linter.unusedSimpArgs false
set_option linter.unusedVariables false
set_option linter.unusedSectionVars false
namespace Go.Proofs.YtfohfflkhpfjeaaGreatDoor
open Go.Proofs.Tryz
open Go.RowKit Go.Lith
abbrev Ia:=@underlying80
set_option maxRecDepth 100000
attribute [local irreducible] wpList wpQuiet dC cS cR Code.wp
theorem aet {i N : Nat} {L : Int} (h : ((decide ((i : Int) < (N : Int)) && decide ((i : Int) < 12)) && decide (0 < L)) = true) : i < N ∧ i < 12 ∧ 0 < L:=by
 simp only[Bool.and_eq_true,decide_eq_true_eq] at h;omega
theorem agw {x y z : Bool} (h : ((x && y) && !z) = true) : x = true ∧ y = true ∧ z = false:=by revert h;cases x <;> cases y <;> cases z <;> decide
theorem Ib {ts : List T3} {qs : List Q4} {N cap NQ capQ : Nat} {A AQ : Option Addr} (w : World) (hT : eG w A N ts) (hN : N ≤ 100000) (hQ : sR q4C 4 w AQ NQ qs) (hI : ∀ q ∈ qs,IQ q) : eI prog 19 [.slice A N cap,.slice AQ NQ capQ] w (fun v w'=>∃ us ms A7 c7 A8 c8 i,v = .tuple #[.slice A7 us.length c7,.slice A8 ms.length c8] ∧ bR w w' [oI 50 6 A8 ms.length c8 (ms.flatMap bJ),oI 53 9 A7 us.length c7 (us.flatMap aX)] ∧ i ≤ 12 ∧ qZ (aR ts) ts i us ms):=by
 refine ⟨ae0,?_⟩;have m:=bR.refl w;obtain rfl : ts.length = N:=hT.len;have hbl : (aR ts).length ≤ 1000000:=by have h1:=tN (all:=aP ts) (aP ts) [];have h2:=lG ts;simp only[List.length_nil] at h1;unfold aR;omega
 go_enter func19,ntmps19
 refine aD fun K1 k1=>wp_region_lit (aA (aF) (aA (aF) (aG (k1 _ _ ?_))));refine aD fun K2 k2=>wp_region_lit (aA (aB) ?_);simp only[zz];refine bK rfl rfl (Zs _ (hT.ext m.ext) (by omega)) ?_;rintro v u e ⟨A6,c6,n6,hn6,rfl,hN⟩;replace m:=m.newO e hN;clear e hN;subst hn6;refine aA (aF) (aG (k2 _ _ ?_));refine aD fun K3 k3=>wp_region_lit ?_;simp only[zz];refine Kx bZ (c:=9) (by kernel_rfl)  ?_;intro u g1 e hg hB;replace m:=m.newB e hg hB;clear e hg hB;simp only[zz];replace m:=m.own 0 rfl (n:=0) (c:=9) rfl (dX rfl);simp only[zG] at m;refine aA (aB) ?_;simp only[zz];refine dM m 0 rfl rfl bZ nM rfl (by decide) rfl rfl (by rw [Jf,hT.len]) (eG.cells (hT.ext m.ext)) (oQ _) (by omega) (by omega) ?_;clear m;intro A7 cap7 u m;simp only[zF,zG] at m;rw [List.nil_append,Nat.zero_add] at m;rw [Nat.zero_add];refine aA (aF) (aG (k3 _ _ ?_));refine aD fun K4 k4=>wp_region_lit (aA (aF) ?_);replace m:=m.nilO 50 6;refine aG (k4 _ _ ?_);refine aD fun K5 k5=>aD fun K6 k6=>wp_region_lit (aA (aF) ?_);simp only[zz];refine aG (k6 _ _ ?_);refine wp_block ?_;try simp only[Nat.zero_add,Nat.reduceAdd,Nat.reduceMul,Int.reduceToNat]
 refine bM [7,8,9] [10,11,12,13,14,15,16,17,18,19,20,21,27,28,29,30,31,32,33,34,35,36,37,38,39,40,41,42,43,44,45,46,47,48,49,50,51,52,53,54,55,56,57,58,59,60,61,62,63,64,65,66,67,68,69,70,71,72,73,74,75,76,77,78,79,80,81,82,83,84,85,86,87,88,89,90,91,92,93,94,95,96,97,98,99,100,101,102,103,104,105,106,107,108,109,110,111,112,113,114,115,116,117,118,119,120,121,122,123,124,125,126,127,128,129,130,131,132,133,134,135,136,137,138,139,140,141,142,143,144,145,146,147,148,149,150,151,152,153,154,155,156,157,158,159,160,161,162,163,164,165,166,167,168,169,170,171,172,173,174,175,176,177,178,179,180,181,182,183,184,185,186,187,188,189,190,191,192,193,194,195,196,197,198,199,200] (fun n vs wl=>∃ (us : List T3) (ms : List Mv) (A7 : Option Addr) (c7 : Nat) (A8 : Option Addr) (c8 i : Nat),vs = [.slice A7 us.length c7,.slice A8 ms.length c8,.int .i64 (i:Int)] ∧ bR w wl [oI 50 6 A8 ms.length c8 (ms.flatMap bJ),oI 53 9 A7 us.length c7 (us.flatMap aX),oI 57 6 A6 (aR ts).length c6 ((aR ts).flatMap bJ)] ∧ (qZ (aR ts) ts i us ms) ∧ (i ≤ 12) ∧ (n = 12 - i)) ?_ ?_
 ·
  apply Exists.intro;simp only[zQ,zR,zD,zE];exact ⟨_,[],_,_,_,_,0,rfl,m,qZ.nil,Nat.zero_le _,rfl⟩
 ·
  intro n vs wr hI u;clear m;obtain ⟨us,ms,A7,c7,A8,c8,i,rfl,m,hdv,hi,hn⟩:=hI;simp only[zu,zF,zG];refine aD fun K7 k7=>aD fun K8 k8=>wp_region_lit (aA (aB) (aA (aB) (aA (bF rfl vS rfl) (aA (cJ rfl rfl) ?_))));simp only[zz];refine aA (aB) (dO rfl (fun hb=>aB) (dO rfl (fun hb=>cJ (bH hb rfl) rfl) (aA (dA rfl rfl rfl) ?_)));simp only[zz];refine aA (aB) (dO rfl (fun hb=>aB) (dO rfl (fun hb=>bF rfl bZ (bH hb rfl)) (dO rfl (fun hb=>sU (bH hb rfl) rfl) ?_)));simp only[zz];refine aA (dA rfl rfl rfl) (aG (k8 _ _ ?_));simp only[zz];refine eU rfl (fun hc1=>?_) (fun hc1=>?_)
  ·
   obtain ⟨hi1,hi2,hi3⟩:=aet hc1;obtain ⟨q,hq,aq,rfl,hrow⟩:=hQ.get (i:=i) (by omega);obtain ⟨hqa,hqb,hqc,hqd⟩:=hI q (List.mem_of_getElem? hq);haveI : Iw q.a:=⟨hqa⟩
   haveI : Iw q.b:=⟨hqb⟩
   haveI : Iw q.c:=⟨hqc⟩
   haveI : Iw q.d:=⟨hqd⟩
   haveI : Iw (q.b.tdiv 40):=⟨(aaJ hqb).2⟩
   have hlen:=hdv.len;have hpos : 0 < us.length:=by omega
   obtain ⟨gO,rfl⟩:=(m.o 1 rfl).some hpos;obtain ⟨k,hk,hkl⟩:=Rv (q:=q.a) hpos;obtain ⟨c,hc,hc3⟩ : ∃ c : Nat,q.d % 3 = (c : Int) ∧ c < 3:=Rv (N:=3) (by decide);obtain ⟨t,htk⟩:=adh hkl;have hb1:=lX (n:=q.b) (m:=40) (by decide);have hb3:=lX (n:=q.c) (m:=300) (by decide);refine wp_skip (k7 _ _ ?_);refine aD fun K9 k9=>wp_block (aD fun K10 k10=>wp_region_lit (aA (aB) (aA (aB) ?_)));simp only[zz];refine aA (aM vS qM rfl rfl (by omega) (by omega) (cA (Int.toNat_natCast _))) (aA (aH Ia bA rfl rfl (by decide) (by decide) rfl) ?_);simp only[zz];refine aJ rfl (lies1 ((hrow.ext m.ext) 0 _ rfl) bQ) ?_;simp only[zz];refine aA (aB) (aA (bF rfl bZ rfl) ?_);simp only[zz];refine iV m rfl rfl (sH (n:=q.a) (k:=(us.length : Int)) (by omega) (by omega)) ?_;clear m;intro u m;refine aA (aF) (aG ?_);simp only[zz];rw [hk];refine k10 _ _ ?_;refine aD fun K11 k11=>wp_region_lit (aA (aB) (aA (aB) ?_));simp only[zz];refine aA (aM bZ aU rfl rfl (by omega) (by omega) (cA (Int.toNat_natCast _))) ?_;simp only[zz];refine aJ rfl (((m.o 1 rfl).tri htk).lies eQ aU) ?_;simp only[zz];refine bC m iY rfl ?_;clear m;intro g2 u m;simp only[zz];refine aS m 0 rfl rfl rfl aU (dX rfl) rfl ?_;clear m;intro u m;simp only[zy,zx,bG,zF,zG,Nat.reduceAdd] at m;refine aG (k11 _ _ ?_);refine aD fun K12 k12=>?_;refine sL 26 [0,1,2,3,4,5,6,7,8,9,10,11,12,13,14,15,16,17,18,19,20,21,22,23,24] [⟨25,12,48,[.int .i64 0,.int .i64 0,.int .i64 0]⟩] aO (by kernel_rfl) (al1 ⟨_,_,_,rfl,by kernel_rfl,_,bP,rfl⟩) (ol:=?_) ?hol ?_
   case hol=>simp only[zw,zQ,zR];try rfl
   intro u e;replace m:=m.ext' e;clear e;refine iQ (aB) ?_;simp only[zz];refine iQ (eT rfl rfl (aN (by omega) (by omega))) ?_;simp only[zz];refine iQ (aQ rfl rfl (aN (by omega) (by omega))) (iQ (aB) (iQ (aB) ?_));simp only[zz];refine iQ (aM vS qM rfl rfl (by omega) (by omega) (cA (Int.toNat_natCast _))) (iQ (aH Ia bA rfl rfl (by decide) (by decide) rfl) ?_);simp only[zz];refine yT rfl (fun u e=>(lies1 ((hrow.ext (m.ext' e).ext) 1 _ rfl) bQ)) ?_;simp only[zz];refine Je rfl rfl (sH (n:=q.b) (k:=40) (by decide) (by decide)) ?_;simp only[zz];refine iQ (aQ rfl rfl (aN (by omega) (by omega))) (iQ (aB) (iQ (aB) ?_));simp only[zz];refine iQ (aM vS qM rfl rfl (by omega) (by omega) (cA (Int.toNat_natCast _))) (iQ (aH Ia bA rfl rfl (by decide) (by decide) rfl) ?_);simp only[zz];refine yT rfl (fun u e=>(lies1 ((hrow.ext (m.ext' e).ext) 1 _ rfl) bQ)) ?_;simp only[zz];refine iQ (jE rfl rfl (by omega) (aaJ (Iw.h (n:=q.b))).1) ?_;simp only[zz];refine Je rfl rfl (sH (n:=q.b.tdiv 40) (k:=200) (by decide) (by decide)) (iQ (aB) (iQ (aB) ?_));simp only[zz];refine iQ (aM vS qM rfl rfl (by omega) (by omega) (cA (Int.toNat_natCast _))) (iQ (aH Ia bA rfl rfl (by decide) (by decide) rfl) ?_);simp only[zz];refine yT rfl (fun u e=>(lies1 ((hrow.ext (m.ext' e).ext) 2 _ rfl) bQ)) ?_;simp only[zz];refine Je rfl rfl (sH (n:=q.c) (k:=300) (by decide) (by decide)) ?_;simp only[zz];refine iQ (gL rfl rfl (aN (by omega) (by omega))) (iQ (cB rfl rfl rfl) (acz ?_));simp only[zz];refine mf1 m ?_;clear m;intro g3 u m;simp only[zJ,zK,zF,zG];refine aS m 0 rfl rfl rfl aC (dX rfl) rfl ?_;clear m;intro u m;simp only[zy,zx,bG,zF,zG,Nat.reduceAdd] at m;refine aG ?_;obtain ⟨p,hpe⟩ : ∃ p,p = aep i q:=⟨_,rfl⟩
   rw [show 100 + 50 * (i : Int) + q.b % 40 = p.x by rw [hpe];rfl,show q.b.tdiv 40 % 200 = p.y by rw [hpe];rfl,show q.c % 300 - 50 = p.z by rw [hpe];rfl] at m;have hpp : qY i p:=by rw [hpe];exact acg i q
   clear hpe;refine k12 _ _ ?_;refine aD fun K13 k13=>wp_region_lit (aA (aB) (aA (aB) ?_));simp only[zz];refine aA (aM vS qM rfl rfl (by omega) (by omega) (cA (Int.toNat_natCast _))) (aA (aH Ia bA rfl rfl (by decide) (by decide) rfl) ?_);simp only[zz];refine aJ rfl (lies1 ((hrow.ext m.ext) 3 _ rfl) bQ) ?_;simp only[zz];refine iV m rfl rfl (sH (n:=q.d) (k:=3) (by decide) (by decide)) ?_;clear m;intro u m;refine aA (aF) (aG ?_);simp only[zz];rw [hc];refine k13 _ _ ?_;refine aD fun K14 k14=>wp_region_lit (aA (aB) ?_);simp only[zz];refine aA (aH bL aC rfl rfl (by omega) (by omega) (cA (Int.toNat_natCast _))) ?_;simp only[zz];refine aJ rfl ((jP.cor (c:=c) (show jP _ _ (aX t) from ((m.b 1 rfl)).row 0) (by omega)).lies aI aC) ?_;simp only[zz];refine bC m bP rfl ?_;clear m;intro g4 u m;simp only[zz];refine aS m 0 rfl rfl rfl aC (dX rfl) rfl ?_;clear m;intro u m;simp only[zy,zx,bG,zF,zG,Nat.reduceAdd] at m;refine aG (k14 _ _ ?_);refine aD fun K15 k15=>wp_region_lit (aA (aB) ?_);simp only[zz];refine aA (aQ rfl rfl (aN (by omega) (by omega))) ?_;simp only[zz];refine aA (dK rfl rfl (by omega) (Gz (k:=c + 1))) ?_;simp only[zz];refine aA (aH bL aC rfl rfl (by omega) (by omega) (cA (Int.toNat_natCast _))) ?_;simp only[zz];refine aJ rfl ((jP.cor (c:=(c + 1) % 3) (show jP _ _ (aX t) from ((m.b 2 rfl)).row 0) (by omega)).lies aI aC) ?_;simp only[zz];refine bC m bP rfl ?_;clear m;intro g5 u m;simp only[zz];refine aS m 0 rfl rfl rfl aC (dX rfl) rfl ?_;clear m;intro u m;simp only[zy,zx,bG,zF,zG,Nat.reduceAdd] at m;refine aG (k15 _ _ ?_);refine aD fun K16 k16=>wp_region_lit (aA (aB) ?_);simp only[zz];refine aA (aQ rfl rfl (aN (by omega) (by omega))) ?_;simp only[zz];refine aA (dK rfl rfl (by omega) (Gz (k:=c + 2))) ?_;simp only[zz];refine aA (aH bL aC rfl rfl (by omega) (by omega) (cA (Int.toNat_natCast _))) ?_;simp only[zz];refine aJ rfl ((jP.cor (c:=(c + 2) % 3) (show jP _ _ (aX t) from ((m.b 3 rfl)).row 0) (by omega)).lies aI aC) ?_;simp only[zz];refine bC m bP rfl ?_;clear m;intro g6 u m;simp only[zz];refine aS m 0 rfl rfl rfl aC (dX rfl) rfl ?_;clear m;intro u m;simp only[zy,zx,bG,zF,zG,Nat.reduceAdd] at m;refine aG (k16 _ _ ?_);refine aD fun K17 k17=>wp_region_lit (aA (aB) ?_);simp only[zz];refine aJ rfl ((m.b 1 rfl).full aI aC) ?_;simp only[zz];refine aJ rfl ((m.b 2 rfl).full aI aC) ?_;simp only[zz];refine gF m rfl rfl (ad4 (p:=(t.cor ((c + 1) % 3))) (q:=(t.cor c)) _ ((m.o 6 rfl).lat adi (by decide)) (by omega)) ?_;clear m;rintro v u m rfl;refine aA (aF) (aG (k17 _ _ ?_));refine aD fun K18 k18=>wp_region_lit (aA (aB) ?_);simp only[zz];refine aJ rfl ((m.b 2 rfl).full aI aC) ?_;simp only[zz];refine gF m rfl rfl (aaf (p:=(t.cor c)) _ ((m.o 7 rfl).lat pR (by decide)) (by omega)) ?_;clear m;rintro v u m rfl;refine aA (aB) (dO rfl (fun hb=>aB) ?_);simp only[zz];refine iM rfl (fun hb=>cF rfl ((m.b 1 rfl).full aI aC)) (abN m rfl rfl (fun hb=>by simp only[List.toList_toArray,List.map_cons,List.map_nil,zA,zB,zC,zD,zE,hb,vO];rfl) (fun hb=>aaf (p:=(t.cor ((c + 1) % 3))) _ ((m.o 7 rfl).lat pR (by decide)) (by omega)) ?_);clear m;intro u m;refine aA (dA rfl rfl rfl) (aA (aF) (aG (k18 _ _ ?_)));refine aD fun K19 k19=>aD fun K20 k20=>wp_region_lit (aA (aB) ?_);simp only[zz];refine aA (aB) ?_;simp only[zz];refine aA (aM vS qM rfl rfl (by omega) (by omega) (cA (Int.toNat_natCast _))) (aA (aH Ia bA rfl rfl (by decide) (by decide) rfl) ?_);simp only[zz];refine aJ rfl (lies1 ((hrow.ext m.ext) 3 _ rfl) bQ) ?_;simp only[zz];refine aA (dK rfl rfl (by omega) rfl) (aA (vJ rfl rfl) (aA (aB) (dO rfl (fun hb=>aB) ?_)));simp only[zz];refine dO rfl (fun hb=>vI (bH hb rfl) rfl) (aA (dA rfl rfl rfl) (aA (aB) (dO rfl (fun hb=>aB) ?_)));simp only[zz];refine dO rfl (fun hb=>gX (bH hb rfl)) (aA (dA rfl rfl rfl) (aG (k20 _ _ ?_)));simp only[zz];refine eU rfl (fun hc2=>?_) (fun hc2=>?_)
   ·
    obtain ⟨h2a,h2b,h2c⟩:=agw hc2;obtain ⟨hop,hbn⟩ | ⟨j,o,x,hop,hto,hfx,hbx⟩:=Vu us (t.cor ((c + 1) % 3)) (t.cor c)
    · rw [hop] at h2b;simp at h2b
    rw [hop];have hjl:=(List.getElem?_eq_some_iff.1 hto).1;have hnb : ¬ (uB (aR ts) (t.cor c) = true ∧ uB (aR ts) (t.cor ((c + 1) % 3)) = true):=fun h=>by have h3:=hc2;rw [h.1,h.2] at h3;simp at h3
    refine aD fun K21 k21=>wp_region_lit (aA (aB) (aA (aB) ?_));simp only[zz];refine aA (aM bZ aU rfl rfl (by omega) (by omega) (cA (Int.toNat_natCast _))) ?_;simp only[zz];refine aJ rfl (((m.o 6 rfl).tri hto).lies eQ aU) ?_;simp only[zz];refine bC m iY rfl ?_;clear m;intro g7 u m;simp only[zz];refine aS m 0 rfl rfl rfl aU (dX rfl) rfl ?_;clear m;intro u m;simp only[zy,zx,bG,zF,zG,Nat.reduceAdd] at m;refine aG (k21 _ _ ?_);refine aD fun K22 k22=>wp_region_lit (aA (aH bL aC rfl rfl (by decide) (by decide) rfl) ?_);simp only[zz];refine aJ rfl ((m.b 0 rfl).lies aI aC rfl rfl) ?_;simp only[zz,zy,Nat.zero_add,Nat.reduceAdd,Nat.reduceMul,Int.reduceToNat];refine bC m bP rfl ?_;clear m;intro g8 u m;simp only[zz];refine aS m 0 rfl rfl rfl aC (dX rfl) rfl ?_;clear m;intro u m;simp only[zy,zx,bG,zF,zG,Nat.reduceAdd] at m;refine aG (k22 _ _ ?_);refine aD fun K23 k23=>aD fun K24 k24=>wp_region_lit (aA (aF) (aG (k24 _ _ ?_)));refine wp_block (wp_loop_rounds 4 (cZ (aD fun K25 k25=>aD fun K26 k26=>wp_region_lit (aA (aB) (aA (bT (m:=0) (n:=3) rfl rfl (by decide)) (aG (k26 _ _ ?_)))))));refine cK rfl (wp_skip (k25 _ _ ?_));refine aD fun K27 k27=>wp_block (aD fun K28 k28=>?_);simp only[zz];refine mq m aO (by kernel_rfl) (aL (aB) (aL (aH bL aC rfl rfl (by decide) (by decide) rfl) ?_));simp only[zz];refine ql rfl (fun u m=>((m.b 1 rfl).lies aI aC rfl rfl)) ?_;simp only[zz,zy,Nat.zero_add,Nat.reduceAdd,Nat.reduceMul,Int.reduceToNat];refine ql rfl (fun u m=>((m.b 4 rfl).full aI aC)) ?_;simp only[zz];refine aL (iD rfl rfl) (aL (aB) (cG rfl (fun hb=>aB) (cG rfl (fun hb=>aH bL aC rfl (bH hb rfl) (by decide) (by decide) rfl) ?_)));simp only[zz];refine gK rfl (fun hb u m=>cF (bH hb rfl) ((m.b 1 rfl).lies aI aC rfl rfl)) ?_;simp only[zz,zy,Nat.zero_add,Nat.reduceAdd,Nat.reduceMul,Int.reduceToNat];refine gK rfl (fun hb u m=>cF rfl ((m.b 3 rfl).full aI aC)) (cG rfl (fun hb=>iD (bH hb rfl) (bH hb rfl)) (aL (dA rfl rfl rfl) (dF ?_)));clear m;intro u m;refine k28 _ _ ?_;simp only[zz];refine sD m 0 [] [147,148,149] (fun vs i=>vs = [] ∧ i = bI g8 [.int .i64 (fB (o.cor 0) (o.cor 0) (t.cor c) (t.cor ((c + 1) % 3))).x,.int .i64 (fB (o.cor 0) (o.cor 0) (t.cor c) (t.cor ((c + 1) % 3))).y,.int .i64 (fB (o.cor 0) (o.cor 0) (t.cor c) (t.cor ((c + 1) % 3))).z] 48) ?_ ?_
    ·
     refine eU rfl (fun hc4=>?_) (fun hc4=>?_)
     ·
      refine wp_region_lit (aA (aB) (aA (aH bL aC rfl rfl (by decide) (by decide) rfl) ?_));simp only[zz];refine aJ rfl ((m.b 1 rfl).lies aI aC rfl rfl) ?_;simp only[zz,zy,Nat.zero_add,Nat.reduceAdd,Nat.reduceMul,Int.reduceToNat];refine aS m 0 rfl rfl rfl aC (dX rfl) rfl ?_;clear m;intro u m;simp only[zy,zx,bG,zF,zG,Nat.reduceAdd] at m;refine aG ?_;simp only[Exit.inBlock,Exit.then];refine ⟨_,_,rfl,?_,m,?_⟩
      · simp only[zz,zv]
      ·
       simp only[zQ,zR,zD,zE];exact ⟨trivial,by rw [aaK (e:=(o.cor 0)) (x:=o.cor 0) hc4] <;> rfl⟩
     ·
      refine wp_skip ?_;simp only[Exit.inBlock,Exit.then];refine ⟨_,_,rfl,?_,m,?_⟩
      · simp only[zz,zv]
      ·
       simp only[zQ,zR,zD,zE];exact ⟨trivial,by rw [aaL (e:=(o.cor 0)) (x:=o.cor 0) hc4] <;> rfl⟩
    ·
     intro vs i wr m hI u;obtain ⟨rfl,rfl⟩:=hI;simp only[zF,zG] at m;simp only[zu,zF,zG];refine k27 _ _ (wp_region_lit (aA (aB) (aA (aQ (m:=0) (n:=1) (r:=1) rfl rfl (by decide)) (aA (aF) (aG (aT (aD fun K29 k29=>aD fun K30 k30=>wp_region_lit (aA (aB) ?_))))))));simp only[zz];refine aA (bT (m:=1) (n:=3) rfl rfl (by decide)) (aG (k30 _ _ ?_));refine cK rfl (wp_skip (k29 _ _ ?_));refine aD fun K31 k31=>wp_block (aD fun K32 k32=>?_);simp only[zz];refine mq m aO (by kernel_rfl) (aL (aB) (aL (aH bL aC rfl rfl (by decide) (by decide) rfl) ?_));simp only[zz];refine ql rfl (fun u m=>((m.b 1 rfl).lies aI aC rfl rfl)) ?_;simp only[zz,zy,Nat.zero_add,Nat.reduceAdd,Nat.reduceMul,Int.reduceToNat];refine ql rfl (fun u m=>((m.b 4 rfl).full aI aC)) ?_;simp only[zz];refine aL (iD rfl rfl) (aL (aB) (cG rfl (fun hb=>aB) (cG rfl (fun hb=>aH bL aC rfl (bH hb rfl) (by decide) (by decide) rfl) ?_)));simp only[zz];refine gK rfl (fun hb u m=>cF (bH hb rfl) ((m.b 1 rfl).lies aI aC rfl rfl)) ?_;simp only[zz,zy,Nat.zero_add,Nat.reduceAdd,Nat.reduceMul,Int.reduceToNat];refine gK rfl (fun hb u m=>cF rfl ((m.b 3 rfl).full aI aC)) (cG rfl (fun hb=>iD (bH hb rfl) (bH hb rfl)) (aL (dA rfl rfl rfl) (dF ?_)));clear m;intro u m;refine k32 _ _ ?_;simp only[zz];refine sD m 0 [] [147,148,149] (fun vs i=>vs = [] ∧ i = bI g8 [.int .i64 (fB (fB (o.cor 0) (o.cor 0) (t.cor c) (t.cor ((c + 1) % 3))) (o.cor 1) (t.cor c) (t.cor ((c + 1) % 3))).x,.int .i64 (fB (fB (o.cor 0) (o.cor 0) (t.cor c) (t.cor ((c + 1) % 3))) (o.cor 1) (t.cor c) (t.cor ((c + 1) % 3))).y,.int .i64 (fB (fB (o.cor 0) (o.cor 0) (t.cor c) (t.cor ((c + 1) % 3))) (o.cor 1) (t.cor c) (t.cor ((c + 1) % 3))).z] 48) ?_ ?_
     ·
      refine eU rfl (fun hc4=>?_) (fun hc4=>?_)
      ·
       refine wp_region_lit (aA (aB) (aA (aH bL aC rfl rfl (by decide) (by decide) rfl) ?_));simp only[zz];refine aJ rfl ((m.b 1 rfl).lies aI aC rfl rfl) ?_;simp only[zz,zy,Nat.zero_add,Nat.reduceAdd,Nat.reduceMul,Int.reduceToNat];refine aS m 0 rfl rfl rfl aC (dX rfl) rfl ?_;clear m;intro u m;simp only[zy,zx,bG,zF,zG,Nat.reduceAdd] at m;refine aG ?_;simp only[Exit.inBlock,Exit.then];refine ⟨_,_,rfl,?_,m,?_⟩
       · simp only[zz,zv]
       ·
        simp only[zQ,zR,zD,zE];exact ⟨trivial,by rw [aaK (e:=(fB (o.cor 0) (o.cor 0) (t.cor c) (t.cor ((c + 1) % 3)))) (x:=o.cor 1) hc4] <;> rfl⟩
      ·
       refine wp_skip ?_;simp only[Exit.inBlock,Exit.then];refine ⟨_,_,rfl,?_,m,?_⟩
       · simp only[zz,zv]
       ·
        simp only[zQ,zR,zD,zE];exact ⟨trivial,by rw [aaL (e:=(fB (o.cor 0) (o.cor 0) (t.cor c) (t.cor ((c + 1) % 3)))) (x:=o.cor 1) hc4] <;> rfl⟩
     ·
      intro vs i wr m hI u;obtain ⟨rfl,rfl⟩:=hI;simp only[zF,zG] at m;simp only[zu,zF,zG];refine k31 _ _ (wp_region_lit (aA (aB) (aA (aQ (m:=1) (n:=1) (r:=2) rfl rfl (by decide)) (aA (aF) (aG (aT (aD fun K33 k33=>aD fun K34 k34=>wp_region_lit (aA (aB) ?_))))))));simp only[zz];refine aA (bT (m:=2) (n:=3) rfl rfl (by decide)) (aG (k34 _ _ ?_));refine cK rfl (wp_skip (k33 _ _ ?_));refine aD fun K35 k35=>wp_block (aD fun K36 k36=>?_);simp only[zz];refine mq m aO (by kernel_rfl) (aL (aB) (aL (aH bL aC rfl rfl (by decide) (by decide) rfl) ?_));simp only[zz];refine ql rfl (fun u m=>((m.b 1 rfl).lies aI aC rfl rfl)) ?_;simp only[zz,zy,Nat.zero_add,Nat.reduceAdd,Nat.reduceMul,Int.reduceToNat];refine ql rfl (fun u m=>((m.b 4 rfl).full aI aC)) ?_;simp only[zz];refine aL (iD rfl rfl) (aL (aB) (cG rfl (fun hb=>aB) (cG rfl (fun hb=>aH bL aC rfl (bH hb rfl) (by decide) (by decide) rfl) ?_)));simp only[zz];refine gK rfl (fun hb u m=>cF (bH hb rfl) ((m.b 1 rfl).lies aI aC rfl rfl)) ?_;simp only[zz,zy,Nat.zero_add,Nat.reduceAdd,Nat.reduceMul,Int.reduceToNat];refine gK rfl (fun hb u m=>cF rfl ((m.b 3 rfl).full aI aC)) (cG rfl (fun hb=>iD (bH hb rfl) (bH hb rfl)) (aL (dA rfl rfl rfl) (dF ?_)));clear m;intro u m;refine k36 _ _ ?_;simp only[zz];refine sD m 0 [] [147,148,149] (fun vs i=>vs = [] ∧ i = bI g8 [.int .i64 (fB (fB (fB (o.cor 0) (o.cor 0) (t.cor c) (t.cor ((c + 1) % 3))) (o.cor 1) (t.cor c) (t.cor ((c + 1) % 3))) (o.cor 2) (t.cor c) (t.cor ((c + 1) % 3))).x,.int .i64 (fB (fB (fB (o.cor 0) (o.cor 0) (t.cor c) (t.cor ((c + 1) % 3))) (o.cor 1) (t.cor c) (t.cor ((c + 1) % 3))) (o.cor 2) (t.cor c) (t.cor ((c + 1) % 3))).y,.int .i64 (fB (fB (fB (o.cor 0) (o.cor 0) (t.cor c) (t.cor ((c + 1) % 3))) (o.cor 1) (t.cor c) (t.cor ((c + 1) % 3))) (o.cor 2) (t.cor c) (t.cor ((c + 1) % 3))).z] 48) ?_ ?_
      ·
       refine eU rfl (fun hc4=>?_) (fun hc4=>?_)
       ·
        refine wp_region_lit (aA (aB) (aA (aH bL aC rfl rfl (by decide) (by decide) rfl) ?_));simp only[zz];refine aJ rfl ((m.b 1 rfl).lies aI aC rfl rfl) ?_;simp only[zz,zy,Nat.zero_add,Nat.reduceAdd,Nat.reduceMul,Int.reduceToNat];refine aS m 0 rfl rfl rfl aC (dX rfl) rfl ?_;clear m;intro u m;simp only[zy,zx,bG,zF,zG,Nat.reduceAdd] at m;refine aG ?_;simp only[Exit.inBlock,Exit.then];refine ⟨_,_,rfl,?_,m,?_⟩
        · simp only[zz,zv]
        ·
         simp only[zQ,zR,zD,zE];exact ⟨trivial,by rw [aaK (e:=(fB (fB (o.cor 0) (o.cor 0) (t.cor c) (t.cor ((c + 1) % 3))) (o.cor 1) (t.cor c) (t.cor ((c + 1) % 3)))) (x:=o.cor 2) hc4] <;> rfl⟩
       ·
        refine wp_skip ?_;simp only[Exit.inBlock,Exit.then];refine ⟨_,_,rfl,?_,m,?_⟩
        · simp only[zz,zv]
        ·
         simp only[zQ,zR,zD,zE];exact ⟨trivial,by rw [aaL (e:=(fB (fB (o.cor 0) (o.cor 0) (t.cor c) (t.cor ((c + 1) % 3))) (o.cor 1) (t.cor c) (t.cor ((c + 1) % 3)))) (x:=o.cor 2) hc4] <;> rfl⟩
      ·
       intro vs i wr m hI u;obtain ⟨rfl,rfl⟩:=hI;simp only[zF,zG] at m;simp only[zu,zF,zG];refine k35 _ _ (wp_region_lit (aA (aB) (aA (aQ (m:=2) (n:=1) (r:=3) rfl rfl (by decide)) (aA (aF) (aG (aT (aD fun K37 k37=>aD fun K38 k38=>wp_region_lit (aA (aB) ?_))))))));simp only[zz];refine aA (fT (m:=3) (n:=3) rfl rfl (by decide)) (aG (k38 _ _ ?_));refine jM rfl (wp_exit (k23 _ _ ?_));refine aD fun K39 k39=>wp_region_lit (aA (aB) (aA (aB) ?_));simp only[zz];refine aJ rfl ((m.b 4 rfl).full aI aC) ?_;simp only[zz];refine aJ rfl ((m.b 5 rfl).full aI aC) ?_;simp only[zz];refine aJ rfl ((m.b 2 rfl).full aI aC) ?_;simp only[zz];refine aA (bN rfl rfl rfl) ?_;simp only[zz];refine aA (aM bZ aU rfl rfl (by omega) (by omega) (yR (Int.toNat_natCast _))) ?_;simp only[zz];refine Jg m 8 rfl rfl rfl aU (by simp only[List.length_cons,List.length_nil,Nat.zero_add,Nat.reduceAdd,Int.reduceToNat,Nat.reduceMul];omega) rfl ?_;clear m;intro u m;simp only[zF,zG] at m;try simp only[Nat.zero_add] at m
       rw [show bG (us.flatMap aX) (k * 9) [.int .i64 (t.cor c).x,.int .i64 (t.cor c).y,.int .i64 (t.cor c).z,.int .i64 p.x,.int .i64 p.y,.int .i64 p.z,.int .i64 (t.cor ((c + 2) % 3)).x,.int .i64 (t.cor ((c + 2) % 3)).y,.int .i64 (t.cor ((c + 2) % 3)).z] = (us.set k (⟨(t.cor c),p,(t.cor ((c + 2) % 3))⟩ : T3)).flatMap aX from Dh (u:=(⟨(t.cor c),p,(t.cor ((c + 2) % 3))⟩ : T3)) htk] at m;refine aG (k39 _ _ ?_);refine aD fun K40 k40=>wp_region_lit (aA (aB) (aA (aB) ?_));simp only[zz];refine aJ rfl ((m.b 3 rfl).full aI aC) ?_;simp only[zz];refine aJ rfl ((m.b 5 rfl).full aI aC) ?_;simp only[zz];refine aJ rfl ((m.b 0 rfl).full aI aC) ?_;simp only[zz];refine aA (bN rfl rfl rfl) ?_;simp only[zz];refine aA (aM bZ aU rfl rfl (by omega) (by omega) (yR (Int.toNat_natCast _))) ?_;simp only[zz];refine Jg m 8 rfl rfl rfl aU (by simp only[List.length_cons,List.length_nil,Nat.zero_add,Nat.reduceAdd,Int.reduceToNat,Nat.reduceMul];omega) rfl ?_;clear m;intro u m;simp only[zF,zG] at m;try simp only[Nat.zero_add] at m
       rw [show bG ((us.set k (⟨(t.cor c),p,(t.cor ((c + 2) % 3))⟩ : T3)).flatMap aX) (j * 9) [.int .i64 (t.cor ((c + 1) % 3)).x,.int .i64 (t.cor ((c + 1) % 3)).y,.int .i64 (t.cor ((c + 1) % 3)).z,.int .i64 p.x,.int .i64 p.y,.int .i64 p.z,.int .i64 (fB (fB (fB (o.cor 0) (o.cor 0) (t.cor c) (t.cor ((c + 1) % 3))) (o.cor 1) (t.cor c) (t.cor ((c + 1) % 3))) (o.cor 2) (t.cor c) (t.cor ((c + 1) % 3))).x,.int .i64 (fB (fB (fB (o.cor 0) (o.cor 0) (t.cor c) (t.cor ((c + 1) % 3))) (o.cor 1) (t.cor c) (t.cor ((c + 1) % 3))) (o.cor 2) (t.cor c) (t.cor ((c + 1) % 3))).y,.int .i64 (fB (fB (fB (o.cor 0) (o.cor 0) (t.cor c) (t.cor ((c + 1) % 3))) (o.cor 1) (t.cor c) (t.cor ((c + 1) % 3))) (o.cor 2) (t.cor c) (t.cor ((c + 1) % 3))).z] = ((us.set k (⟨(t.cor c),p,(t.cor ((c + 2) % 3))⟩ : T3)).set j (⟨(t.cor ((c + 1) % 3)),p,(qA o (t.cor c) (t.cor ((c + 1) % 3)))⟩ : T3)).flatMap aX from Dh (u:=(⟨(t.cor ((c + 1) % 3)),p,(qA o (t.cor c) (t.cor ((c + 1) % 3)))⟩ : T3)) (List.getElem?_eq_getElem (by simp only[List.length_set];omega))] at m;refine aG (k40 _ _ ?_);refine wp_region_lit (aA (aB) ?_);simp only[zz];refine aJ rfl ((m.b 5 rfl).full aI aC) ?_;simp only[zz];refine aJ rfl ((m.b 3 rfl).full aI aC) ?_;simp only[zz];refine aJ rfl ((m.b 2 rfl).full aI aC) ?_;simp only[zz];refine aA (bN rfl rfl rfl) ?_;simp only[zz];refine aJ rfl ((m.b 5 rfl).full aI aC) ?_;simp only[zz];refine aJ rfl ((m.b 4 rfl).full aI aC) ?_;simp only[zz];refine aJ rfl ((m.b 0 rfl).full aI aC) ?_;simp only[zz];refine aA (bN rfl rfl rfl) ?_;simp only[zz];refine uX rfl rfl ?_;intro u g9 e hg hB;replace m:=m.newB e hg hB;clear e hg hB;simp only[zz];refine dM m 9 rfl rfl bZ nM rfl (by decide) rfl rfl rfl (m.b 0 rfl).rowsO (pD rfl) (by omega) (by omega) ?_;clear m;intro A7 cap7 u m;simp only[zF,zG] at m;rw [show (((us.set k (⟨(t.cor c),p,(t.cor ((c + 2) % 3))⟩ : T3)).set j (⟨(t.cor ((c + 1) % 3)),p,(qA o (t.cor c) (t.cor ((c + 1) % 3)))⟩ : T3)).flatMap aX) ++ _ = (((us.set k (⟨(t.cor c),p,(t.cor ((c + 2) % 3))⟩ : T3)).set j (⟨(t.cor ((c + 1) % 3)),p,(qA o (t.cor c) (t.cor ((c + 1) % 3)))⟩ : T3)) ++ [(⟨p,(t.cor ((c + 1) % 3)),(t.cor ((c + 2) % 3))⟩ : T3),(⟨p,(t.cor c),(qA o (t.cor c) (t.cor ((c + 1) % 3)))⟩ : T3)]).flatMap aX by rw [List.flatMap_append];rfl] at m;rw [show us.length + 2 = (((us.set k (⟨(t.cor c),p,(t.cor ((c + 2) % 3))⟩ : T3)).set j (⟨(t.cor ((c + 1) % 3)),p,(qA o (t.cor c) (t.cor ((c + 1) % 3)))⟩ : T3)) ++ [(⟨p,(t.cor ((c + 1) % 3)),(t.cor ((c + 2) % 3))⟩ : T3),(⟨p,(t.cor c),(qA o (t.cor c) (t.cor ((c + 1) % 3)))⟩ : T3)]).length by simp only[List.length_append,List.length_set,List.length_cons,List.length_nil]] at m;rw [show us.length + 2 = (((us.set k (⟨(t.cor c),p,(t.cor ((c + 2) % 3))⟩ : T3)).set j (⟨(t.cor ((c + 1) % 3)),p,(qA o (t.cor c) (t.cor ((c + 1) % 3)))⟩ : T3)) ++ [(⟨p,(t.cor ((c + 1) % 3)),(t.cor ((c + 2) % 3))⟩ : T3),(⟨p,(t.cor c),(qA o (t.cor c) (t.cor ((c + 1) % 3)))⟩ : T3)]).length by simp only[List.length_append,List.length_set,List.length_cons,List.length_nil]];refine aA (aF) (aG (k19 _ _ ?_));simp only[zz];refine mh m [true,true,true,true,true,true,true,true,false,true,true] [(0,true),(2,true),(1,true),(3,true),(4,false),(5,true),(6,false),(7,false),(8,true)] aO (by kernel_rfl) (eE (fun _ _ _ _ _ h=>h)) (ol:=?_) ?hol ?_
       case hol=>simp only[zw,zQ,zR];try rfl
       clear m;intro u m;refine bO (aB) (bO (aB) ?_);simp only[zz];refine dU rfl (fun u m=>((m.b 6 rfl).full aI aC)) ?_;simp only[zz];refine dU rfl (fun u m=>((m.b 5 rfl).full aI aC)) ?_;simp only[zz];refine dT (gF m rfl rfl (Na (p:=(t.cor c)) _ ((m.o 8 rfl).lat pR (by decide)) (by omega)) ?_);clear m;rintro v u m rfl;refine aG (⟨m.sel [true,true,true,true,true,true,true,true,false,true,true],?_⟩);refine bO (oU rfl rfl) (dT ?_);simp only[zz];refine lH rfl ?_;intro u g10 e hg hB;replace m:=m.newB e hg hB;clear e hg hB;refine aG (⟨m.sel [false,true,true,true,true,true,true,true,true,false,true,true],?_⟩);refine dT ?_;simp only[zz];refine dM m 9 rfl rfl jG yY rfl (by decide) rfl rfl rfl (m.b 0 rfl).rowsO (pD rfl) (by omega) (by omega) ?_;clear m;intro A8 cap8 u m;simp only[zF,zG] at m;rw [show ms.flatMap bJ ++ _ = (ms ++ [(p,dP ms (t.cor c))]).flatMap bJ by rw [List.flatMap_append];rfl] at m;rw [show ms.length + 1 = (ms ++ [(p,dP ms (t.cor c))]).length by simp] at m;rw [show ms.length + 1 = (ms ++ [(p,dP ms (t.cor c))]).length by simp];refine aG (⟨m.sel [false,true,true,true,true,true,true,true,true,false,true,true],?_⟩);refine bO (aF) (eF (k9 _ _ ?_));refine wp_region_lit (aA (aB) ?_);simp only[zz];refine aA (aQ rfl rfl (aN (by omega) (by omega))) (aA (aF) (aG ?_));simp only[zz];simp only[Exit.inBlock,Exit.then];refine ⟨12 - (i + 1),_,?_,rfl,?_,?_⟩
       · omega
       · simp only[zz,zv]
       ·
        simp only[zQ,zR,zD,zE];exact ⟨(((us.set k (⟨(t.cor c),p,(t.cor ((c + 2) % 3))⟩ : T3)).set j (⟨(t.cor ((c + 1) % 3)),p,(qA o (t.cor c) (t.cor ((c + 1) % 3)))⟩ : T3)) ++ [(⟨p,(t.cor ((c + 1) % 3)),(t.cor ((c + 2) % 3))⟩ : T3),(⟨p,(t.cor c),(qA o (t.cor c) (t.cor ((c + 1) % 3)))⟩ : T3)]),(ms ++ [(p,dP ms (t.cor c))]),_,_,_,_,i + 1,rfl,(m.sel [false,false,false,false,false,false,false,false,false,true,true,true]),.step hdv (.edge k j t o x c _ htk hc3 hto hfx hnb hpp),by omega,rfl⟩
   ·
    refine aD fun K41 k41=>wp_region_lit (aA (aB) (aA (aB) ?_));simp only[zz];refine aJ rfl ((m.b 2 rfl).full aI aC) ?_;simp only[zz];refine aJ rfl ((m.b 1 rfl).full aI aC) ?_;simp only[zz];refine aJ rfl ((m.b 3 rfl).full aI aC) ?_;simp only[zz];refine aA (bN rfl rfl rfl) ?_;simp only[zz];refine aA (aM bZ aU rfl rfl (by omega) (by omega) (yR (Int.toNat_natCast _))) ?_;simp only[zz];refine Jg m 6 rfl rfl rfl aU (by simp only[List.length_cons,List.length_nil,Nat.zero_add,Nat.reduceAdd,Int.reduceToNat,Nat.reduceMul];omega) rfl ?_;clear m;intro u m;simp only[zF,zG] at m;try simp only[Nat.zero_add] at m
    rw [show bG (us.flatMap aX) (k * 9) [.int .i64 (t.cor c).x,.int .i64 (t.cor c).y,.int .i64 (t.cor c).z,.int .i64 (t.cor ((c + 1) % 3)).x,.int .i64 (t.cor ((c + 1) % 3)).y,.int .i64 (t.cor ((c + 1) % 3)).z,.int .i64 p.x,.int .i64 p.y,.int .i64 p.z] = (us.set k (⟨(t.cor c),(t.cor ((c + 1) % 3)),p⟩ : T3)).flatMap aX from Dh (u:=(⟨(t.cor c),(t.cor ((c + 1) % 3)),p⟩ : T3)) htk] at m;refine aG (k41 _ _ ?_);refine wp_region_lit (aA (aB) ?_);simp only[zz];refine aJ rfl ((m.b 1 rfl).full aI aC) ?_;simp only[zz];refine aJ rfl ((m.b 0 rfl).full aI aC) ?_;simp only[zz];refine aJ rfl ((m.b 3 rfl).full aI aC) ?_;simp only[zz];refine aA (bN rfl rfl rfl) ?_;simp only[zz];refine aJ rfl ((m.b 0 rfl).full aI aC) ?_;simp only[zz];refine aJ rfl ((m.b 2 rfl).full aI aC) ?_;simp only[zz];refine aJ rfl ((m.b 3 rfl).full aI aC) ?_;simp only[zz];refine aA (bN rfl rfl rfl) ?_;simp only[zz];refine uX rfl rfl ?_;intro u g7 e hg hB;replace m:=m.newB e hg hB;clear e hg hB;simp only[zz];refine dM m 7 rfl rfl bZ nM rfl (by decide) rfl rfl rfl (m.b 0 rfl).rowsO (pD rfl) (by omega) (by omega) ?_;clear m;intro A7 cap7 u m;simp only[zF,zG] at m;rw [show ((us.set k (⟨(t.cor c),(t.cor ((c + 1) % 3)),p⟩ : T3)).flatMap aX) ++ _ = ((us.set k (⟨(t.cor c),(t.cor ((c + 1) % 3)),p⟩ : T3)) ++ [(⟨(t.cor ((c + 1) % 3)),(t.cor ((c + 2) % 3)),p⟩ : T3),(⟨(t.cor ((c + 2) % 3)),(t.cor c),p⟩ : T3)]).flatMap aX by rw [List.flatMap_append];rfl] at m;rw [show us.length + 2 = ((us.set k (⟨(t.cor c),(t.cor ((c + 1) % 3)),p⟩ : T3)) ++ [(⟨(t.cor ((c + 1) % 3)),(t.cor ((c + 2) % 3)),p⟩ : T3),(⟨(t.cor ((c + 2) % 3)),(t.cor c),p⟩ : T3)]).length by simp only[List.length_append,List.length_set,List.length_cons,List.length_nil]] at m;rw [show us.length + 2 = ((us.set k (⟨(t.cor c),(t.cor ((c + 1) % 3)),p⟩ : T3)) ++ [(⟨(t.cor ((c + 1) % 3)),(t.cor ((c + 2) % 3)),p⟩ : T3),(⟨(t.cor ((c + 2) % 3)),(t.cor c),p⟩ : T3)]).length by simp only[List.length_append,List.length_set,List.length_cons,List.length_nil]];refine aA (aF) (aG (k19 _ _ ?_));simp only[zz];refine mh m [true,true,true,true,true,true,false,true,true] [(0,true),(2,true),(1,true),(3,true),(4,false),(5,true),(6,false),(7,false),(8,true)] aO (by kernel_rfl) (eE (fun _ _ _ _ _ h=>h)) (ol:=?_) ?hol ?_
    case hol=>simp only[zw,zQ,zR];try rfl
    clear m;intro u m;refine bO (aB) (bO (aB) ?_);simp only[zz];refine dU rfl (fun u m=>((m.b 4 rfl).full aI aC)) ?_;simp only[zz];refine dU rfl (fun u m=>((m.b 3 rfl).full aI aC)) ?_;simp only[zz];refine dT (gF m rfl rfl (Na (p:=(t.cor c)) _ ((m.o 6 rfl).lat pR (by decide)) (by omega)) ?_);clear m;rintro v u m rfl;refine aG (⟨m.sel [true,true,true,true,true,true,false,true,true],?_⟩);refine bO (oU rfl rfl) (dT ?_);simp only[zz];refine lH rfl ?_;intro u g8 e hg hB;replace m:=m.newB e hg hB;clear e hg hB;refine aG (⟨m.sel [false,true,true,true,true,true,true,false,true,true],?_⟩);refine dT ?_;simp only[zz];refine dM m 7 rfl rfl jG yY rfl (by decide) rfl rfl rfl (m.b 0 rfl).rowsO (pD rfl) (by omega) (by omega) ?_;clear m;intro A8 cap8 u m;simp only[zF,zG] at m;rw [show ms.flatMap bJ ++ _ = (ms ++ [(p,dP ms (t.cor c))]).flatMap bJ by rw [List.flatMap_append];rfl] at m;rw [show ms.length + 1 = (ms ++ [(p,dP ms (t.cor c))]).length by simp] at m;rw [show ms.length + 1 = (ms ++ [(p,dP ms (t.cor c))]).length by simp];refine aG (⟨m.sel [false,true,true,true,true,true,true,false,true,true],?_⟩);refine bO (aF) (eF (k9 _ _ ?_));refine wp_region_lit (aA (aB) ?_);simp only[zz];refine aA (aQ rfl rfl (aN (by omega) (by omega))) (aA (aF) (aG ?_));simp only[zz];simp only[Exit.inBlock,Exit.then];refine ⟨12 - (i + 1),_,?_,rfl,?_,?_⟩
    · omega
    · simp only[zz,zv]
    ·
     simp only[zQ,zR,zD,zE];exact ⟨((us.set k (⟨(t.cor c),(t.cor ((c + 1) % 3)),p⟩ : T3)) ++ [(⟨(t.cor ((c + 1) % 3)),(t.cor ((c + 2) % 3)),p⟩ : T3),(⟨(t.cor ((c + 2) % 3)),(t.cor c),p⟩ : T3)]),(ms ++ [(p,dP ms (t.cor c))]),_,_,_,_,i + 1,rfl,(m.sel [false,false,false,false,false,false,false,true,true,true]),.step hdv (.tri k t c _ htk hc3 hpp),by omega,rfl⟩
  ·
   refine wp_exit (k5 _ _ ?_);refine aD fun K42 k42=>wp_region_lit (aA (aB) (aA (aB) (aA (aF) (aA (aF) ?_))));simp only[zz];refine aG (k42 _ _ ?_);refine wp_ret ?_;try simp only[Exit.inBlock,Exit.then,if_true]
   refine nV rfl rfl rfl ?_;try simp only[zD,zE]
   exact ⟨_,rfl,m.ext,us,ms,_,_,_,_,i,rfl,m.sel [true,true,false],hi,hdv⟩
end Go.Proofs.YtfohfflkhpfjeaaGreatDoor
namespace Go.Lith
open Go.RowKit
def Fc (e : P3) : List T3:=[⟨⟨0,0,0⟩,⟨0,30,0⟩,e⟩,⟨⟨0,30,0⟩,⟨30,0,0⟩,e⟩,⟨⟨30,0,0⟩,⟨0,0,0⟩,e⟩,⟨⟨0,0,0⟩,⟨30,0,0⟩,⟨0,0,30⟩⟩,⟨⟨30,0,0⟩,⟨0,30,0⟩,⟨0,0,30⟩⟩,⟨⟨0,30,0⟩,⟨0,0,0⟩,⟨0,0,30⟩⟩]
def Fe : List T3:=[⟨⟨0,0,0⟩,⟨0,30,0⟩,⟨30,0,0⟩⟩,⟨⟨0,0,0⟩,⟨30,0,0⟩,⟨0,0,30⟩⟩,⟨⟨30,0,0⟩,⟨0,30,0⟩,⟨0,0,30⟩⟩,⟨⟨0,30,0⟩,⟨0,0,0⟩,⟨0,0,30⟩⟩]
theorem af8 : iK (Fc ⟨3,4,1⟩) Fe [(⟨3,4,1⟩,⟨0,0,0⟩)] = (6,0):=by decide +kernel
theorem af9 : iK (Fc ⟨3,4,1⟩) Fe [(⟨3,4,1⟩,⟨0,0,30⟩)] = (0,32):=by decide +kernel
theorem aga : iK (Fc ⟨3,4,1⟩) Fe [] = (0,32):=by decide +kernel
theorem agb : iK (Fc ⟨3,4,1⟩) Fe [(⟨0,0,30⟩,⟨0,0,0⟩)] = (0,32):=by decide +kernel
theorem Sx : I3 ⟨0,0,0⟩:=⟨by decide,by decide,by decide⟩
theorem Sy : I3 ⟨0,0,30⟩:=⟨by decide,by decide,by decide⟩
theorem Wl : I3 ⟨3,4,1⟩:=⟨by decide,by decide,by decide⟩
theorem Ch (e : P3) [h : I3 e] : ∀ t ∈ Fc e,IT t:=fun t ht=>by
 have a : I3 ⟨0,0,0⟩:=Sx;have b : I3 ⟨30,0,0⟩:=⟨by decide,by decide,by decide⟩
 have c : I3 ⟨0,30,0⟩:=⟨by decide,by decide,by decide⟩
 have d : I3 ⟨0,0,30⟩:=Sy;simp only[Fc,List.mem_cons,List.not_mem_nil,or_false] at ht;rcases ht with rfl | rfl | rfl | rfl | rfl | rfl
 · exact ⟨a,c,h⟩
 · exact ⟨c,b,h⟩
 · exact ⟨b,a,h⟩
 · exact ⟨a,b,d⟩
 · exact ⟨b,c,d⟩
 · exact ⟨c,a,d⟩
theorem Ci : ∀ t ∈ Fe,IT t:=fun t ht=>by
 have a : I3 ⟨0,0,0⟩:=Sx;have b : I3 ⟨30,0,0⟩:=⟨by decide,by decide,by decide⟩
 have c : I3 ⟨0,30,0⟩:=⟨by decide,by decide,by decide⟩
 have d : I3 ⟨0,0,30⟩:=Sy;simp only[Fe,List.mem_cons,List.not_mem_nil,or_false] at ht;rcases ht with rfl | rfl | rfl | rfl
 · exact ⟨a,c,b⟩
 · exact ⟨a,b,d⟩
 · exact ⟨b,c,d⟩
 · exact ⟨c,a,d⟩
structure Srf (l us : List T3) (ms : List Mv) : Prop where
 ll : l.length ≤ 400
 ul : us.length ≤ 424
 ml : ms.length ≤ 12
 lm : ∀ x ∈ aY l,Fs x
 um : ∀ x ∈ aY us,Fs x
 mm : ∀ m ∈ ms,Fs m.1 ∧ Fs m.2
theorem qZ.srf {rim : List E3} {kind bits : Int} {zs : List Int} {us : List T3} {i : Nat} {ms : List Mv} (h : qZ rim (gC kind bits zs) i us ms) (hi : i ≤ 12) : Srf (gC kind bits zs) us ms:=by
 obtain ⟨h1,h2⟩:=h.len;obtain ⟨h3,h4⟩:=h.pts;have hl:=Ls (kind:=kind) (bits:=bits) (zs:=zs);have hm:=Qy (xI (kind:=kind) (bits:=bits) (zs:=zs));exact ⟨hl,by omega,by omega,hm,fun x hx=>(h3 x hx).mid hm (by omega),fun m hm2=>⟨(h4 m hm2).1.mid hm (by omega),(h4 m hm2).2.mid hm (by omega)⟩⟩
theorem wS {ts : List T3} (h : ∀ x ∈ aY ts,Fs x) : ∀ t ∈ ts,IT t:=aaM fun x hx=>(h x hx).i3
theorem aaO {ms : List Mv} (h : ∀ m ∈ ms,Fs m.1 ∧ Fs m.2) : ∀ m ∈ ms,I3 m.1 ∧ I3 m.2:=fun m hm=>⟨(h m hm).1.i3,(h m hm).2.i3⟩
end Go.Lith
namespace Go.Proofs.YtfohfflkhpfjeaaGreatDoor
open Go.Proofs.Tryz
open Go.RowKit Go.Lith
set_option maxRecDepth 100000
attribute [local irreducible] wpList wpQuiet dC cS cR Code.wp
theorem aci {e : P3} (w : World) : eI prog 23 [pt e] w (fun v w'=>∃ A1 c1 A2 c2,v = .tuple #[.slice A1 6 c1,.slice A2 4 c2] ∧ bR w w' [oI 53 9 A1 6 c1 ((Fc e).flatMap aX),oI 53 9 A2 4 c2 (Fe.flatMap aX)]):=by
 refine ⟨ae4,?_⟩;have m:=bR.refl w
 go_enter func23,ntmps23
 refine aD fun K1 k1=>wp_region_lit (eY m rfl ?_);clear m;intro g1 u m;refine aA (aF) (aA (aF) (aG (k1 _ _ ?_)));refine aD fun K2 k2=>wp_region_lit (aA (Ma) ?_);simp only[zz];refine bC m bP rfl ?_;clear m;intro g2 u m;simp only[zz];refine aS m 0 rfl rfl rfl aC (dX rfl) rfl ?_;clear m;intro u m;simp only[zy,zx,bG,zF,zG,Nat.reduceAdd] at m;refine aG (k2 _ _ ?_);refine aD fun K3 k3=>wp_region_lit (aA (rV rfl) ?_);simp only[zz];refine bC m bP rfl ?_;clear m;intro g3 u m;simp only[zz];refine aS m 0 rfl rfl rfl aC (dX rfl) rfl ?_;clear m;intro u m;simp only[zy,zx,bG,zF,zG,Nat.reduceAdd] at m;refine aG (k3 _ _ ?_);refine aD fun K4 k4=>wp_region_lit (aA (Jp rfl) ?_);simp only[zz];refine bC m bP rfl ?_;clear m;intro g4 u m;simp only[zz];refine aS m 0 rfl rfl rfl aC (dX rfl) rfl ?_;clear m;intro u m;simp only[zy,zx,bG,zF,zG,Nat.reduceAdd] at m;refine aG (k4 _ _ ?_);refine aD fun K5 k5=>wp_region_lit (aA (xP rfl) ?_);simp only[zz];refine bC m bP rfl ?_;clear m;intro g5 u m;simp only[zz];refine aS m 0 rfl rfl rfl aC (dX rfl) rfl ?_;clear m;intro u m;simp only[zy,zx,bG,zF,zG,Nat.reduceAdd] at m;refine aG (k5 _ _ ?_);refine aD fun K6 k6=>wp_region_lit (aJ rfl ((m.b 3 rfl).full aI aC) ?_);simp only[zz];refine aJ rfl ((m.b 1 rfl).full aI aC) ?_;simp only[zz];refine aJ rfl ((m.b 2 rfl).full aI aC) ?_;simp only[zz];refine aA (bN rfl rfl rfl) ?_;simp only[zz];refine aJ rfl ((m.b 3 rfl).full aI aC) ?_;simp only[zz];refine aJ rfl ((m.b 2 rfl).full aI aC) ?_;simp only[zz];refine aJ rfl ((m.b 0 rfl).full aI aC) ?_;simp only[zz];refine aA (bN rfl rfl rfl) ?_;simp only[zz];refine aJ rfl ((m.b 2 rfl).full aI aC) ?_;simp only[zz];refine aJ rfl ((m.b 1 rfl).full aI aC) ?_;simp only[zz];refine aJ rfl ((m.b 0 rfl).full aI aC) ?_;simp only[zz];refine aA (bN rfl rfl rfl) ?_;simp only[zz];refine aJ rfl ((m.b 1 rfl).full aI aC) ?_;simp only[zz];refine aJ rfl ((m.b 3 rfl).full aI aC) ?_;simp only[zz];refine aJ rfl ((m.b 0 rfl).full aI aC) ?_;simp only[zz];refine aA (bN rfl rfl rfl) ?_;simp only[zz];refine Vf rfl rfl rfl rfl ?_;intro u g6 e hg hB;replace m:=m.newB e hg hB;clear e hg hB;simp only[zz];replace m:=m.own 0 rfl (n:=4) (c:=9) rfl (dX rfl);simp only[zG] at m;refine aA (aF) (aG (k6 _ _ ?_));refine aD fun K7 k7=>wp_region_lit ?_;simp only[zz];refine aJ rfl ((m.b 4 rfl).full aI aC) ?_;simp only[zz];refine aJ rfl ((m.b 2 rfl).full aI aC) ?_;simp only[zz];refine aJ rfl ((m.b 5 rfl).full aI aC) ?_;simp only[zz];refine aA (bN rfl rfl rfl) ?_;simp only[zz];refine aJ rfl ((m.b 2 rfl).full aI aC) ?_;simp only[zz];refine aJ rfl ((m.b 3 rfl).full aI aC) ?_;simp only[zz];refine aJ rfl ((m.b 5 rfl).full aI aC) ?_;simp only[zz];refine aA (bN rfl rfl rfl) ?_;simp only[zz];refine aJ rfl ((m.b 3 rfl).full aI aC) ?_;simp only[zz];refine aJ rfl ((m.b 4 rfl).full aI aC) ?_;simp only[zz];refine aJ rfl ((m.b 5 rfl).full aI aC) ?_;simp only[zz];refine aA (bN rfl rfl rfl) ?_;simp only[zz];refine aJ rfl ((m.b 4 rfl).full aI aC) ?_;simp only[zz];refine aJ rfl ((m.b 3 rfl).full aI aC) ?_;simp only[zz];refine aJ rfl ((m.b 1 rfl).full aI aC) ?_;simp only[zz];refine aA (bN rfl rfl rfl) ?_;simp only[zz];refine aJ rfl ((m.b 3 rfl).full aI aC) ?_;simp only[zz];refine aJ rfl ((m.b 2 rfl).full aI aC) ?_;simp only[zz];refine aJ rfl ((m.b 1 rfl).full aI aC) ?_;simp only[zz];refine aA (bN rfl rfl rfl) ?_;simp only[zz];refine aJ rfl ((m.b 2 rfl).full aI aC) ?_;simp only[zz];refine aJ rfl ((m.b 4 rfl).full aI aC) ?_;simp only[zz];refine aJ rfl ((m.b 1 rfl).full aI aC) ?_;simp only[zz];refine aA (bN rfl rfl rfl) ?_;simp only[zz];refine Vg rfl rfl rfl rfl rfl rfl ?_;intro u g7 e hg hB;replace m:=m.newB e hg hB;clear e hg hB;simp only[zz];replace m:=m.own 0 rfl (n:=6) (c:=9) rfl (dX rfl);simp only[zG] at m;refine aA (aB) (aA (aF) (aA (aF) (aG (k7 _ _ ?_))));refine wp_ret ?_;simp only[zz];try simp only[Exit.inBlock,Exit.then,if_true]
 refine nV rfl rfl rfl ?_;try simp only[zD,zE]
 exact ⟨_,rfl,m.ext,_,_,_,_,rfl,m.sel [true,true,false,false,false,false,false]⟩
theorem aaP  : kV prog 11 [] (.bool true):=by
 intro w;refine ⟨aeV,?_⟩;have m:=bR.refl w
 go_enter func11,ntmps11
 refine aD fun K1 k1=>wp_region_lit (aA (aF) (aG (k1 _ _ ?_)));refine aD fun K2 k2=>wp_region_lit (aA (cB rfl rfl rfl) ?_);simp only[zz];refine bC m bP rfl ?_;clear m;intro g1 u m;simp only[zz];refine aS m 0 rfl rfl rfl aC (dX rfl) rfl ?_;clear m;intro u m;simp only[zy,zx,bG,zF,zG,Nat.reduceAdd] at m;refine aG (k2 _ _ ?_);refine aD fun K3 k3=>wp_region_lit (aJ rfl ((m.b 0 rfl).full aI aC) ?_);simp only[zz];refine bK rfl rfl (aci (e:=(⟨3,4,1⟩ : P3)) _) ?_;rintro v u e ⟨A2,c2,A1,c1,rfl,hM⟩;replace m:=m.plus hM;clear hM e;simp only[List.cons_append,List.nil_append] at m;refine aA (aB) (aA (aZ rfl rfl) (aA (aZ rfl rfl) ?_));simp only[zz];refine aA (aF) (aA (aF) (aG (k3 _ _ ?_)));refine aD fun K4 k4=>wp_region_lit (aA (xP rfl) ?_);simp only[zz];refine bC m bP rfl ?_;clear m;intro g2 u m;simp only[zz];refine aS m 0 rfl rfl rfl aC (dX rfl) rfl ?_;clear m;intro u m;simp only[zy,zx,bG,zF,zG,Nat.reduceAdd] at m;refine aG (k4 _ _ ?_);refine aD fun K5 k5=>wp_region_lit (aA (aB) (aA (aB) ?_));simp only[zz];refine aJ rfl ((m.b 3 rfl).full aI aC) ?_;simp only[zz];refine aA (xQ rfl) ?_;simp only[zz];refine lH rfl ?_;intro u g3 e hg hB;replace m:=m.newB e hg hB;clear e hg hB;simp only[zz];replace m:=m.own 0 rfl (n:=1) (c:=6) rfl (dX rfl);simp only[zG] at m;refine gF m rfl rfl (pB (fs:=Fc ⟨3,4,1⟩) (gs:=Fe) (ms:=[((⟨3,4,1⟩ : P3),(⟨0,0,0⟩ : P3))]) _ ((m.o 2 rfl).tris (haveI:=Wl;Ch _)) ((m.o 3 rfl).tris Ci) (((m.o 0 rfl)).lat pR (by decide)) (by decide) (by decide) (by decide) (fun mv h=>by obtain rfl:=List.mem_singleton.1 h;exact ⟨Wl,Sx⟩)) ?_;clear m;rintro v u m rfl;simp only[zz];rw [af8];dsimp only;refine aA (aB) (aA (aZ rfl rfl) (aA (aZ rfl rfl) (aA (aF) ?_)));simp only[zz];refine aA (aF) (aG (k5 _ _ ?_));refine aD fun K6 k6=>wp_region_lit (aA (aB) (aA (aB) ?_));simp only[zz];refine aJ rfl ((m.b 4 rfl).full aI aC) ?_;simp only[zz];refine aJ rfl ((m.b 1 rfl).full aI aC) ?_;simp only[zz];refine aA (oU rfl rfl) ?_;simp only[zz];refine lH rfl ?_;intro u g4 e hg hB;replace m:=m.newB e hg hB;clear e hg hB;simp only[zz];replace m:=m.own 0 rfl (n:=1) (c:=6) rfl (dX rfl);simp only[zG] at m;refine gF m rfl rfl (pB (fs:=Fc ⟨3,4,1⟩) (gs:=Fe) (ms:=[((⟨3,4,1⟩ : P3),(⟨0,0,30⟩ : P3))]) _ ((m.o 3 rfl).tris (haveI:=Wl;Ch _)) ((m.o 4 rfl).tris Ci) (((m.o 0 rfl)).lat pR (by decide)) (by decide) (by decide) (by decide) (fun mv h=>by obtain rfl:=List.mem_singleton.1 h;exact ⟨Wl,Sy⟩)) ?_;clear m;rintro v u m rfl;simp only[zz];rw [af9];dsimp only;refine aA (aB) (aA (aZ rfl rfl) (aA (aZ rfl rfl) (aA (aF) ?_)));simp only[zz];refine aA (aF) (aG (k6 _ _ ?_));refine aD fun K7 k7=>wp_region_lit (aA (aB) (aA (aB) ?_));simp only[zz];refine gF m rfl rfl (pB (fs:=Fc ⟨3,4,1⟩) (gs:=Fe) (ms:=[]) _ ((m.o 3 rfl).tris (haveI:=Wl;Ch _)) ((m.o 4 rfl).tris Ci) (sR.nil _ _) (by decide) (by decide) (by decide) (fun mv h=>by cases h)) ?_;clear m;rintro v u m rfl;simp only[zz];rw [aga];dsimp only;refine aA (aB) (aA (aZ rfl rfl) (aA (aZ rfl rfl) (aA (aF) ?_)));simp only[zz];refine aA (aF) (aG (k7 _ _ ?_));refine aD fun K8 k8=>wp_region_lit (aA (aB) (aA (aB) ?_));simp only[zz];refine aJ rfl ((m.b 2 rfl).full aI aC) ?_;simp only[zz];refine aA (xQ rfl) ?_;simp only[zz];refine lH rfl ?_;intro u g5 e hg hB;replace m:=m.newB e hg hB;clear e hg hB;simp only[zz];replace m:=m.own 0 rfl (n:=1) (c:=6) rfl (dX rfl);simp only[zG] at m;refine gF m rfl rfl (pB (fs:=Fc ⟨3,4,1⟩) (gs:=Fe) (ms:=[((⟨0,0,30⟩ : P3),(⟨0,0,0⟩ : P3))]) _ ((m.o 4 rfl).tris (haveI:=Wl;Ch _)) ((m.o 5 rfl).tris Ci) (((m.o 0 rfl)).lat pR (by decide)) (by decide) (by decide) (by decide) (fun mv h=>by obtain rfl:=List.mem_singleton.1 h;exact ⟨Sy,Sx⟩)) ?_;clear m;rintro v u m rfl;simp only[zz];rw [agb];dsimp only;refine aA (aB) (aA (aZ rfl rfl) (aA (aZ rfl rfl) (aA (aF) ?_)));simp only[zz];refine aA (aF) (aG (k8 _ _ ?_));refine aD fun K9 k9=>wp_region_lit (aA (aB) (aA (pM (m:=6) (n:=6) rfl rfl (by decide)) (aA (aB) ?_)));simp only[zz];refine bU rfl (aA (aB) (bU rfl (aA (pM (m:=0) (n:=0) rfl rfl (by decide)) (aA (gA rfl) (aA (aB) ?_)))));simp only[zz];refine bU rfl (aA (aB) (bU rfl (aA (pM (m:=32) (n:=32) rfl rfl (by decide)) (aA (gA rfl) (aA (aB) ?_)))));simp only[zz];refine bU rfl (aA (aB) (bU rfl (aA (pM (m:=32) (n:=32) rfl rfl (by decide)) (aA (gA rfl) (aA (aB) ?_)))));simp only[zz];refine bU rfl (aA (aB) (bU rfl (aA (pM (m:=32) (n:=32) rfl rfl (by decide)) (aA (gA rfl) (aA (aF) ?_)))));simp only[zz];refine aG (k9 _ _ ?_);refine wp_ret ?_;try simp only[Exit.inBlock,Exit.then,if_true]
 refine bS rfl rfl ?_;try simp only[zD,zE]
 exact ⟨_,rfl,m.ext,rfl⟩
theorem aeu {kind bits : Int} [Iw kind] [Iw bits] {HN Hc DN Dc : Nat} {HA DA : Option Addr} {zs : List Int} {qs : List Q4} (w : World) (hZ : nK w HA HN zs) (hQ : sR q4C 4 w DA DN qs) (hI : ∀ q ∈ qs,IQ q) : eI prog 12 [.agg #[.int .i64 kind,.int .i64 bits,.slice HA HN Hc,.slice DA DN Dc]] w (fun v w'=>∃ us ms A7 c7 A8 c8 A5 c5 i,v = .tuple #[.slice A7 us.length c7,.slice A5 (gC kind bits zs).length c5,.slice A8 ms.length c8] ∧ bR w w' [oI 50 6 A8 ms.length c8 (ms.flatMap bJ),oI 53 9 A7 us.length c7 (us.flatMap aX),oI 53 9 A5 (gC kind bits zs).length c5 ((gC kind bits zs).flatMap aX)] ∧ i ≤ 12 ∧ qZ (aR (gC kind bits zs)) (gC kind bits zs) i us ms):=by
 refine ⟨aeW,?_⟩;have m:=bR.refl w;have hl:=Ls (kind:=kind) (bits:=bits) (zs:=zs)
 go_enter func12,ntmps12
 refine aD fun K1 k1=>wp_region_lit (eY m rfl ?_);clear m;intro g1 u m;refine aA (aF) (aA (aF) (aA (aF) ?_));simp only[zz];refine aG (k1 _ _ ?_);refine aD fun K2 k2=>wp_region_lit (aA (aK (c:=0) Hf rfl bA rfl rfl) ?_);simp only[zz];refine aJ rfl ((m.b 0 rfl).lies1 bQ rfl) ?_;simp only[zz];refine aA (aK (c:=0) Hf rfl bA rfl rfl) ?_;simp only[zz];refine aJ rfl ((m.b 0 rfl).lies1 bQ rfl) ?_;simp only[zz];refine aA (aK (c:=0) Hf rfl Zh rfl rfl) ?_;simp only[zz];refine aJ rfl ((m.b 0 rfl).lies1 adT rfl) ?_;simp only[zz];refine bK rfl rfl (aes (kind:=kind) (bits:=bits) _ (hZ.ext m.ext)) ?_;rintro v u e ⟨A5,cap5,_,rfl,rfl,hN⟩;replace m:=m.newO e hN;clear e hN;refine aA (aF) (aG (k2 _ _ ?_));refine aD fun K3 k3=>wp_region_lit (aA (aB) (aA (aK (c:=0) Hf rfl Zi rfl rfl) ?_));simp only[zz];refine aJ rfl ((m.b 1 rfl).lies1 adU rfl) ?_;simp only[zz];refine bK rfl rfl (Ib _ ((m.o 0 rfl).tris (wS (Qy xI))) (by omega) (hQ.ext m.ext) hI) ?_;rintro v u e ⟨us,ms,A7,c7,A8,c8,i,rfl,hM,hi,hdv⟩;replace m:=m.plus hM;clear hM e;simp only[List.cons_append,List.nil_append] at m;refine aA (aB) (aA (aZ rfl rfl) (aA (aZ rfl rfl) ?_));simp only[zz];refine aA (aF) (aA (aF) (aG (k3 _ _ ?_)));refine aD fun K4 k4=>wp_region_lit (aA (aB) (aA (aB) ?_));simp only[zz];refine aA (aB) (aA (aF) (aA (aF) (aA (aF) ?_)));simp only[zz];refine aG (k4 _ _ ?_);refine wp_ret ?_;try simp only[Exit.inBlock,Exit.then,if_true]
 refine agl rfl rfl rfl rfl ?_;try simp only[zD,zE]
 exact ⟨_,rfl,m.ext,us,ms,_,_,_,_,_,_,i,rfl,m.sel [true,true,true,false],hi,hdv⟩
end Go.Proofs.YtfohfflkhpfjeaaGreatDoor
namespace Go.Lith
open Go.RowKit
/-! ### Two places of a list -/
theorem Ic {α : Type} : ∀ (us : List α) (k j : Nat) (t o : α),k ≠ j → us[k]? = some t → us[j]? = some o → ∃ R,us.Perm (t :: o :: R) ∧ ∀ x y,((us.set k x).set j y).Perm (x :: y :: R)
 | [],_,_,_,_,_,h,_=>by cases h
 | v :: vs,0,0,_,_,h,_,_=>absurd rfl h
 | v :: vs,0,j + 1,t,o,_,ht,ho=>by
  cases ht;have ho' : vs[j]? = some o:=ho;exact ⟨vs.eraseIdx j,(Cg ho').cons _,fun x y=>by rw [List.set_cons_zero,List.set_cons_succ];exact (yF ho').cons _⟩
 | v :: vs,k + 1,0,t,o,_,ht,ho=>by
  cases ho;have ht' : vs[k]? = some t:=ht;exact ⟨vs.eraseIdx k,((Cg ht').cons _).trans (List.Perm.swap ..),fun x y=>by rw [List.set_cons_succ,List.set_cons_zero];exact ((yF ht').cons _).trans (List.Perm.swap ..)⟩
 | v :: vs,k + 1,j + 1,t,o,h,ht,ho=>by
  obtain ⟨R,h1,h2⟩:=Ic vs k j t o (fun e=>h (by rw [e])) ht ho;refine ⟨v :: R,(h1.cons v).trans ?_,fun x y=>?_⟩
  · exact (List.Perm.swap ..).trans ((List.Perm.swap ..).cons _)
  · rw [List.set_cons_succ,List.set_cons_succ]
    exact ((h2 x y).cons v).trans ((List.Perm.swap ..).trans ((List.Perm.swap ..).cons _))
/-! ### A step -/
theorem Ff (t : T3) {c : Nat} (hc : c < 3) : pZ ⟨t.cor c,t.cor ((c + 1) % 3),t.cor ((c + 2) % 3)⟩ t:=by
 obtain rfl | rfl | rfl : c = 0 ∨ c = 1 ∨ c = 2:=by omega
 · exact .inl rfl
 · exact .inr (.inr rfl)
 · exact .inr (.inl rfl)
theorem aaQ {o : T3} {p q x : P3} (h : o.fnd p q = some x) : pZ ⟨p,q,x⟩ o:=by
 unfold T3.fnd at h;split at h
 · rename_i k;cases h;obtain ⟨rfl,rfl⟩:=k;exact .inl rfl
 · split at h
   · rename_i k;cases h;obtain ⟨rfl,rfl⟩:=k;exact .inr (.inr rfl)
   · split at h
     · rename_i k;cases h;obtain ⟨rfl,rfl⟩:=k;exact .inr (.inl rfl)
     · cases h
theorem aev {o : T3} {a b x : P3} (ht : pZ ⟨b,a,x⟩ o) (hd : jN o = false) : qA o a b = x:=by
 obtain ⟨h1,h2,h3⟩:=Gh hd;rcases ht with rfl | rfl | rfl
 · simp only[qA,T3.cor] at h1 h2 h3 ⊢
   have e2 : fB (fB (fB b b a b) a a b) x a b = x:=if_pos ⟨fun e=>h2 e.symm,h3⟩;exact e2
 · have e2 : qA ⟨a,x,b⟩ a b = x:=by
    have e0 : fB a a a b = a:=by unfold fB;split <;> rfl
    have e1 : fB a x a b = x:=if_pos ⟨fun e=>h1 e.symm,h2⟩;have e3 : fB x b a b = x:=if_neg fun k=>k.2 rfl;show fB (fB (fB a a a b) x a b) b a b = x
    rw [e0,e1,e3]
   exact e2
 · have e2 : qA ⟨x,b,a⟩ a b = x:=by
    have e0 : fB x x a b = x:=by unfold fB;split <;> rfl
    have e1 : fB x b a b = x:=if_neg fun k=>k.2 rfl;have e3 : fB x a a b = x:=if_neg fun k=>k.1 rfl;show fB (fB (fB x x a b) b a b) a a b = x
    rw [e0,e1,e3]
   exact e2
theorem Wm {us : List T3} {t o : T3} {k j : Nat} {a b d x : P3} (hd : lK us) (ht : us[k]? = some t) (ho : us[j]? = some o) (h1 : pZ ⟨a,b,d⟩ t) (h2 : pZ ⟨b,a,x⟩ o) : k ≠ j:=fun e=>by
 subst e;obtain rfl:=Option.some.inj (ht.symm.trans ho);obtain ⟨g1,g2,g3⟩:=Gh (hd t (List.mem_of_getElem? ht));have e1:=(jW h1).2 (show (a,b) ∈ jS ⟨a,b,d⟩ by simp [jS]);have e2:=(jW h2).2 (show (b,a) ∈ jS ⟨b,a,x⟩ by simp [jS]);simp only[jS,List.mem_cons,List.not_mem_nil,or_false,Prod.mk.injEq] at e1 e2;rcases e1 with ⟨rfl,rfl⟩ | ⟨rfl,rfl⟩ | ⟨rfl,rfl⟩ <;> rcases e2 with ⟨k1,k2⟩ | ⟨k1,k2⟩ | ⟨k1,k2⟩ <;> first | exact g1 k1 | exact g1 k1.symm | exact g1 k2 | exact g1 k2.symm | exact g2 k1 | exact g2 k1.symm | exact g2 k2 | exact g2 k2.symm | exact g3 k1 | exact g3 k1.symm | exact g3 k2 | exact g3 k2.symm
/-! ### The surfaces -/
theorem vD {α : Type} {f : α → List T3} {l : List α} (h : ∀ x ∈ l,Gj (f x)) : Gj (l.flatMap f):=fun t ht=>by
 obtain ⟨x,hx,ht⟩:=List.mem_flatMap.1 ht;obtain ⟨a,b,c,d,hbd,⟨e,hm⟩ | ⟨e,hm⟩⟩:=h x hx t ht
 · exact ⟨a,b,c,d,hbd,.inl ⟨e,List.mem_flatMap.2 ⟨x,hx,hm⟩⟩⟩
 · exact ⟨a,b,c,d,hbd,.inr ⟨e,List.mem_flatMap.2 ⟨x,hx,hm⟩⟩⟩
theorem Nl : Gj []:=fun t h=>by cases h
theorem Ie {a b c d : P3} (h : b ≠ d) : Gj (lY a b c d):=fun t ht=>by
 simp only[lY,List.mem_cons,List.not_mem_nil,or_false] at ht;rcases ht with rfl | rfl
 · exact ⟨a,b,c,d,h,.inl ⟨rfl,by simp [lY]⟩⟩
 · exact ⟨a,b,c,d,h,.inr ⟨rfl,by simp [lY]⟩⟩
theorem aaR {p : P3} {m n : Nat} (h : m < 8) (k : n < 8) (hmn : m ≠ n) : bY p 8 m ≠ bY p 8 n:=fun e=>by
 have e1:=congrArg P3.x e;have e2:=congrArg P3.y e;have e3:=congrArg P3.z e;simp only[bY] at e1 e2 e3;omega
theorem Fg {n f : Nat} (h : f < 6) : ∃ i j k m,j < 8 ∧ m < 8 ∧ j ≠ m ∧ i < 8 ∧ k < 8 ∧ sN n f = lY (bY (vP n) 8 i) (bY (vP n) 8 j) (bY (vP n) 8 k) (bY (vP n) 8 m):=by
 rcases xH h with rfl | rfl | rfl | rfl | rfl | rfl
 · exact ⟨0,2,3,1,by decide,by decide,by decide,by decide,by decide,rfl⟩
 · exact ⟨4,5,7,6,by decide,by decide,by decide,by decide,by decide,rfl⟩
 · exact ⟨0,1,5,4,by decide,by decide,by decide,by decide,by decide,rfl⟩
 · exact ⟨2,6,7,3,by decide,by decide,by decide,by decide,by decide,rfl⟩
 · exact ⟨0,4,6,2,by decide,by decide,by decide,by decide,by decide,rfl⟩
 · exact ⟨1,3,7,5,by decide,by decide,by decide,by decide,by decide,rfl⟩
theorem aaS (b : Nat) : Gj (Pg b):=vD fun n _=>by
 show Gj (if yU b n = true then mK b n 6 else [])
 split
 · refine vD fun f hf=>?_
   show Gj (if vQ b n f = true then sN n f else [])
   split
   · obtain ⟨i,j,k,m,hj,hm,hjm,_,_,e⟩:=Fg (n:=n) (List.mem_range.1 hf)
     rw [e];exact Ie (aaR hj hm hjm)
   · exact Nl
 · exact Nl
theorem Qz (zs : List Int) (n : Nat) : Gj (wC 10 zs n):=vD fun y _=>vD fun x _=>Ie fun e=>by
 have e1:=congrArg P3.x e;simp only[kA] at e1;omega
theorem Wn (kind bits : Int) (zs : List Int) : Gj (gC kind bits zs):=by
 unfold gC;split
 · exact aaS _
 · exact Qz _ _
def acS (t : T3) : Prop:=t.a.x < 100 ∧ t.b.x < 100 ∧ t.c.x < 100
theorem Sz {a b c d : P3} (ha : a.x < 100) (hb : b.x < 100) (hc : c.x < 100) (hd : d.x < 100) : ∀ t ∈ lY a b c d,acS t:=fun t ht=>by
 simp only[lY,List.mem_cons,List.not_mem_nil,or_false] at ht;rcases ht with rfl | rfl
 · exact ⟨ha,hb,hc⟩
 · exact ⟨ha,hc,hd⟩
theorem yH {n i : Nat} : (bY (vP n) 8 i).x < 100:=by
 simp only[bY,vP];omega
theorem acj (kind bits : Int) (zs : List Int) : ∀ t ∈ gC kind bits zs,acS t:=fun t ht=>by
 unfold gC at ht;split at ht
 · obtain ⟨n,_,h⟩:=List.mem_flatMap.1 ht
   split at h
   · obtain ⟨f,hf,h⟩:=List.mem_flatMap.1 h
     split at h
     · obtain ⟨i,j,k,m,_,_,_,_,_,e⟩:=Fg (n:=n) (List.mem_range.1 hf)
       rw [e] at h;exact Sz yH yH yH yH t h
     · cases h
   · cases h
 · obtain ⟨y,hy,h⟩:=List.mem_flatMap.1 ht
   obtain ⟨x,hx,h⟩:=List.mem_flatMap.1 h;have h1:=List.mem_range.1 hx;have h2:=lX (n:=kind.tdiv 3) (m:=6) (by decide);exact Sz (by simp only[kA];omega) (by simp only[kA];omega) (by simp only[kA];omega) (by simp only[kA];omega) t h
theorem aew (kind bits : Int) (zs : List Int) : ∀ x ∈ aY (gC kind bits zs),x.x < 100:=fun x hx=>by
 obtain ⟨t,ht,hx⟩:=eZ.1 hx;obtain ⟨h1,h2,h3⟩:=acj kind bits zs t ht;rcases hx with rfl | rfl | rfl
 · exact h1
 · exact h2
 · exact h3
end Go.Lith
namespace Go.Lith
open Go.RowKit
def T3.mapP (f : P3 → P3) (t : T3) : T3:=⟨f t.a,f t.b,f t.c⟩
def Nm (f : P3 → P3) (e : E3) : E3:=(f e.1,f e.2)
def Inj (f : P3 → P3) (S : P3 → Prop) : Prop:=∀ x y,S x → S y → f x = f y → x = y
section
variable {f : P3 → P3} {S : P3 → Prop} {ts : List T3}
def InS (S : P3 → Prop) (ts : List T3) : Prop:=∀ t ∈ ts,S t.a ∧ S t.b ∧ S t.c
theorem Fh (f : P3 → P3) (ts : List T3) : aP (ts.map (T3.mapP f)) = (aP ts).map (Nm f):=by
 unfold aP;rw [List.flatMap_map,List.map_flatMap];rfl
theorem aaT (h : InS S ts) {e : E3} (he : e ∈ aP ts) : S e.1 ∧ S e.2:=by
 obtain ⟨t,ht,hx⟩:=List.mem_flatMap.1 he;obtain ⟨h1,h2,h3⟩:=h t ht;simp only[List.mem_cons,List.not_mem_nil,or_false] at hx;rcases hx with rfl | rfl | rfl
 · exact ⟨h1,h2⟩
 · exact ⟨h2,h3⟩
 · exact ⟨h3,h1⟩
theorem Nn (hf : Inj f S) {e d : E3} (he : S e.1 ∧ S e.2) (hd : S d.1 ∧ S d.2) (h : Nm f e = Nm f d) : e = d :=
 Prod.ext (hf _ _ he.1 hd.1 (congrArg Prod.fst h)) (hf _ _ he.2 hd.2 (congrArg Prod.snd h))
theorem aaU (hf : Inj f S) (h : InS S ts) {e : E3} (he : S e.1 ∧ S e.2) : Nm f e ∈ aP (ts.map (T3.mapP f)) ↔ e ∈ aP ts:=by
 rw [Fh,List.mem_map];exact ⟨fun ⟨d,hd,k⟩=>Nn hf (aaT h hd) he k ▸ hd,fun k=>⟨e,k,rfl⟩⟩
theorem aaV (hf : Inj f S) {t : T3} (h : S t.a ∧ S t.b ∧ S t.c) : jN (t.mapP f) = jN t:=by
 obtain ⟨h1,h2,h3⟩:=h;have e : ∀ x y,S x → S y → decide (f x = f y) = decide (x = y):=fun x y hx hy=>by
  rw [decide_eq_decide];exact ⟨hf x y hx hy,fun k=>by rw [k]⟩
 unfold jN T3.mapP;simp only[e _ _ h1 h2,e _ _ h2 h3,e _ _ h3 h1]
theorem Wo (f : P3 → P3) (ts : List T3) : aY (ts.map (T3.mapP f)) = (aY ts).map f:=by
 unfold aY;rw [List.flatMap_map,List.map_flatMap];rfl
end
theorem If {ts : List T3} : (dR ts).any (xK ts) = true ↔ ∃ e ∈ aP ts,∃ j,1 ≤ j ∧ j < lN (aY ts) e.1 ∧ kM ts e.1 j e.2 = some e.2:=by
 rw [pinned];refine exists_congr fun e=>?_;rw [Ei,Ef,Eh];refine and_congr Iff.rfl (exists_congr fun j=>?_);rw [xY];constructor
 · rintro ⟨h1,h2,h3⟩;exact ⟨h1,by omega,h3⟩
 · rintro ⟨h1,h2,h3⟩;exact ⟨h1,by omega,h3⟩
theorem Wp {ts : List T3} : cV true ts = 0 ↔ lK ts ∧ (aP ts).Nodup ∧ ¬ ∃ e ∈ aP ts,∃ j,1 ≤ j ∧ j < lN (aY ts) e.1 ∧ kM ts e.1 j e.2 = some e.2:=by
 constructor
 · intro h
   obtain ⟨h1,h2⟩:=uG h;refine ⟨h1,h2,fun k=>?_⟩;have hp:=If.2 k;have hd : ts.any jN = false:=List.any_eq_false.2 fun t ht=>by rw [h1 t ht];exact Bool.false_ne_true
   have hn:=xX (es:=aP ts);rw [decide_eq_false (fun k=>k h2)] at hn;unfold cV at h;rw [hd,hn,hp] at h;simp at h
 · rintro ⟨h1,h2,h3⟩
   have hp : (dR ts).any (xK ts) = false:=by
    cases hh : (dR ts).any (xK ts) with
    | false=>rfl
    | true=>exact absurd (If.1 hh) h3
   have hd : ts.any jN = false:=List.any_eq_false.2 fun t ht=>by rw [h1 t ht];exact Bool.false_ne_true
   have hn:=xX (es:=aP ts);rw [decide_eq_false (fun k=>k h2)] at hn;unfold cV;rw [hd,hn,hp];rfl
/-! ### An edge is divided -/
section
variable {f : P3 → P3} {S : P3 → Prop}
end
end Go.Lith
namespace Go.Lith
open Go.RowKit
inductive rD (N : P3 → P3 → Prop) : P3 → P3 → Prop
 | refl (a : P3) : rD N a a
 | tail {a b c : P3} (h : rD N a b) (s : N b c) : rD N a c
section
variable {N N' : P3 → P3 → Prop} {a b c p q x0 y0 : P3}
theorem rD.one (h : N a b) : rD N a b:=.tail (.refl a) h
theorem rD.trans (h : rD N a b) (k : rD N b c) : rD N a c:=by
 induction k with
 | refl=>exact h
 | tail _ s ih=>exact .tail ih s
theorem rD.head (h : rD N a b) : a = b ∨ ∃ c,N a c ∧ rD N c b:=by
 induction h with
 | refl=>exact .inl rfl
 | tail _ s ih =>
  rcases ih with rfl | ⟨d,hd,k⟩
  · exact .inr ⟨_,s,.refl _⟩
  · exact .inr ⟨d,hd,.tail k s⟩
def Cyc (N : P3 → P3 → Prop) (s : P3) : Prop:=∃ y,N s y ∧ rD N y s
def gZ (N : P3 → P3 → Prop) : Prop:=∀ s,Cyc N s → ∀ x y,N x y → rD N s x
def yI (N : P3 → P3 → Prop) (a z : P3) : Prop:=rD N a z ∧ ∀ y,¬ N z y
/-! ### A corner between two -/
structure Ins (p x0 y0 : P3) (N N' : P3 → P3 → Prop) : Prop where
 no : ∀ x y,N x y → x ≠ p ∧ y ≠ p
 was : N x0 y0
 iff : ∀ x y,N' x y ↔ (N x y ∧ ¬ (x = x0 ∧ y = y0)) ∨ (x = x0 ∧ y = p) ∨ (x = p ∧ y = y0)
theorem Ins.up (h : Ins p x0 y0 N N') (k : rD N a b) : rD N' a b:=by
 induction k with
 | refl=>exact .refl _
 | @tail b c _ s ih =>
  by_cases e : b = x0 ∧ c = y0
  · obtain ⟨rfl,rfl⟩:=e
    exact .tail (.tail ih ((h.iff _ _).2 (.inr (.inl ⟨rfl,rfl⟩)))) ((h.iff _ _).2 (.inr (.inr ⟨rfl,rfl⟩)))
  · exact .tail ih ((h.iff _ _).2 (.inl ⟨s,e⟩))
theorem Ins.down (h : Ins p x0 y0 N N') (ha : a ≠ p) (k : rD N' a b) : (b ≠ p ∧ rD N a b) ∨ (b = p ∧ rD N a x0):=by
 obtain ⟨n1,n2⟩:=h.no _ _ h.was
 induction k with
 | refl=>exact .inl ⟨ha,.refl _⟩
 | @tail b c _ s ih =>
  rcases (h.iff _ _).1 s with ⟨s,_⟩ | ⟨rfl,rfl⟩ | ⟨rfl,rfl⟩
  · rcases ih with ⟨_,ih⟩ | ⟨e,_⟩
    · exact .inl ⟨(h.no _ _ s).2,.tail ih s⟩
    · exact absurd e (h.no _ _ s).1
  · rcases ih with ⟨_,ih⟩ | ⟨e,_⟩
    · exact .inr ⟨rfl,ih⟩
    · exact absurd e n1
  · rcases ih with ⟨e,_⟩ | ⟨_,ih⟩
    · exact absurd rfl e
    · exact .inl ⟨n2,.tail ih h.was⟩
theorem Ins.nopin (h : Ins p x0 y0 N N') (hN : gZ N) : gZ N':=by
 obtain ⟨n1,n2⟩:=h.no _ _ h.was;have key : ∀ s,s ≠ p → Cyc N' s → ∀ x y,N' x y → rD N' s x:=by
  rintro s hs ⟨y,hy,hr⟩ x' y' hx;have hc : Cyc N s:=by
   rcases (h.iff _ _).1 hy with ⟨k,_⟩ | ⟨rfl,rfl⟩ | ⟨e,_⟩
   · rcases h.down (h.no _ _ k).2 hr with ⟨_,r⟩ | ⟨e,_⟩
     · exact ⟨y,k,r⟩
     · exact absurd e hs
   · rcases hr.head with e | ⟨c,hc,r⟩
     · exact absurd e.symm hs
     · rcases (h.iff _ _).1 hc with ⟨k,_⟩ | ⟨e,_⟩ | ⟨_,rfl⟩
       · exact absurd rfl (h.no _ _ k).1
       · exact absurd e.symm n1
       · rcases h.down n2 r with ⟨_,r⟩ | ⟨e,_⟩
         · exact ⟨_,h.was,r⟩
         · exact absurd e hs
   · exact absurd e hs
  have all:=hN s hc;rcases (h.iff _ _).1 hx with ⟨k,_⟩ | ⟨rfl,rfl⟩ | ⟨rfl,rfl⟩
  · exact h.up (all _ _ k)
  · exact h.up (all _ _ h.was)
  · exact .tail (h.up (all _ _ h.was)) ((h.iff _ _).2 (.inr (.inl ⟨rfl,rfl⟩)))
 intro s hc;by_cases hs : s = p
 · subst hs
   obtain ⟨y,hy,hr⟩:=hc;obtain rfl : y = y0:=by
    rcases (h.iff _ _).1 hy with ⟨k,_⟩ | ⟨e,_⟩ | ⟨_,e⟩
    · exact absurd rfl (h.no _ _ k).1
    · exact absurd e.symm n1
    · exact e
   have hc2 : Cyc N' y:=by
    rcases hr.head with e | ⟨c,hc,r⟩
    · exact absurd e n2
    · exact ⟨c,hc,.tail r hy⟩
   exact fun x z hx=>(rD.one hy).trans (key y n2 hc2 x z hx)
 · exact key s hs hc
theorem Ins.fan (h : Ins p x0 y0 N N') {z : P3} (hz : z ≠ p) (k : yI N a z) : yI N' a z :=
 ⟨h.up k.1,fun y hy=>by
  rcases (h.iff _ _).1 hy with ⟨s,_⟩ | ⟨rfl,rfl⟩ | ⟨e,_⟩
  · exact k.2 _ s
  · exact k.2 _ h.was
  · exact hz e⟩
/-! ### A corner in another's place -/
def ren (q p x : P3) : P3:=if x = q then p else x
theorem yJ : ren q p q = p:=if_pos rfl
theorem mE {x : P3} (h : x ≠ q) : ren q p x = x:=if_neg h
theorem Ta {x y : P3} (hx : x ≠ p) (hy : y ≠ p) (h : ren q p x = ren q p y) : x = y:=by
 unfold ren at h;by_cases e1 : x = q <;> by_cases e2 : y = q
 · rw [e1,e2]
 · rw [if_pos e1,if_neg e2] at h;exact absurd h.symm hy
 · rw [if_neg e1,if_pos e2] at h;exact absurd h hx
 · rwa [if_neg e1,if_neg e2] at h
structure Ren (q p : P3) (N N' : P3 → P3 → Prop) : Prop where
 no : ∀ x y,N x y → x ≠ p ∧ y ≠ p
 iff : ∀ x y,N' x y ↔ ∃ u v,N u v ∧ x = ren q p u ∧ y = ren q p v
theorem Ren.up (h : Ren q p N N') (k : rD N a b) : rD N' (ren q p a) (ren q p b):=by
 induction k with
 | refl=>exact .refl _
 | tail _ s ih=>exact .tail ih ((h.iff _ _).2 ⟨_,_,s,rfl,rfl⟩)
theorem Ren.down (h : Ren q p N N') (ha : a ≠ p) (k : rD N' (ren q p a) b) : ∃ c,c ≠ p ∧ b = ren q p c ∧ rD N a c:=by
 induction k with
 | refl=>exact ⟨a,ha,rfl,.refl _⟩
 | tail _ s ih =>
  obtain ⟨c,hc,rfl,r⟩:=ih;obtain ⟨u,v,hs,e,rfl⟩:=(h.iff _ _).1 s;obtain rfl:=Ta hc (h.no _ _ hs).1 e;exact ⟨v,(h.no _ _ hs).2,rfl,.tail r hs⟩
theorem Ren.nopin (h : Ren q p N N') (hN : gZ N) : gZ N':=by
 rintro s ⟨y,hy,hr⟩ x' y' hx;obtain ⟨u,v,hs,rfl,rfl⟩:=(h.iff _ _).1 hy;obtain ⟨n1,n2⟩:=h.no _ _ hs;obtain ⟨c,hc,e,r⟩:=h.down n2 hr;obtain rfl:=Ta n1 hc e;obtain ⟨u2,v2,hs2,rfl,rfl⟩:=(h.iff _ _).1 hx;exact h.up (hN _ ⟨_,hs,r⟩ _ _ hs2)
theorem Ren.fan (h : Ren q p N N') {z : P3} (ha : a ≠ q) (hzq : z ≠ q) (hz : z ≠ p) (k : yI N a z) : yI N' a z:=by
 have r:=h.up k.1;rw [mE ha,mE hzq] at r;refine ⟨r,fun y hy=>?_⟩;obtain ⟨u,v,hs,e,rfl⟩:=(h.iff _ _).1 hy;by_cases eu : u = q
 · rw [eu,yJ] at e;exact hz e
 · rw [mE eu] at e;exact k.2 _ (e ▸ hs)
theorem wT (h : ∀ x y,N' x y ↔ N x y) (hN : gZ N) : gZ N':=by
 have : N' = N:=funext fun x=>funext fun y=>propext (h x y);rwa [this]
theorem aaX (h : ∀ x y,N' x y ↔ N x y) {z : P3} (k : yI N a z) : yI N' a z:=by
 have : N' = N:=funext fun x=>funext fun y=>propext (h x y);rwa [this]
end
/-! ### The corners behind each other round a corner -/
def Nx (ts : List T3) (v x y : P3) : Prop:=((v,x),y) ∈ dS ts
theorem sI {ts : List T3} (hn : (aP ts).Nodup) {v x y : P3} : Nx ts v x y ↔ bD ts v x = some y:=by
 constructor
 · intro h
   obtain ⟨z,hz⟩:=pI (show (v,x) ∈ aP ts by rw [← jD];exact List.mem_map.2 ⟨_,h,rfl⟩);rw [hz,sB hn h (lA hz)]
 · exact lA
theorem Fi {ts : List T3} (hn : (aP ts).Nodup) {v a b : P3} : rD (Nx ts v) a b ↔ ∃ n,kM ts v n a = some b:=by
 constructor
 · intro h
   induction h with
   | refl=>exact ⟨0,rfl⟩
   | tail _ s ih =>
    obtain ⟨n,h⟩:=ih;exact ⟨n + 1,by rw [kN,h,Option.bind_some];exact (sI hn).1 s⟩
 · rintro ⟨n,h⟩
   induction n generalizing b with
   | zero=>cases h;exact .refl _
   | succ n ih =>
    rw [kN] at h;obtain ⟨c,hc,h⟩:=Option.bind_eq_some_iff.1 h;exact .tail (ih hc) ((sI hn).2 h)
theorem acT {P : Nat → Prop} : ∀ n,P n → ∃ m,P m ∧ ∀ k,k < m → ¬ P k:=by
 intro n
 induction n using Nat.strongRecOn with
 | _ n ih =>
  intro h;by_cases k : ∃ m,m < n ∧ P m
  · obtain ⟨m,hm,hp⟩:=k
    exact ih m hm hp
  · exact ⟨n,h,fun m hm hp=>k ⟨m,hm,hp⟩⟩
def No (ts : List T3) (v : P3) : List P3:=((aP ts).filter fun e=>decide (e.1 = v)).map (·.2)
theorem Fj {ts : List T3} {v x : P3} : x ∈ No ts v ↔ (v,x) ∈ aP ts:=by
 unfold No;rw [List.mem_map];constructor
 · rintro ⟨e,he,rfl⟩
   obtain ⟨h1,h2⟩:=List.mem_filter.1 he;rw [← of_decide_eq_true h2];exact h1
 · exact fun h=>⟨(v,x),List.mem_filter.2 ⟨h,decide_eq_true rfl⟩,rfl⟩
theorem Ra {ts : List T3} {v : P3} (hn : (aP ts).Nodup) : (No ts v).Nodup:=by
 unfold No;rw [List.Nodup,List.pairwise_map];refine (hn.sublist List.filter_sublist).imp_of_mem fun {a b} ha hb hne e=>hne ?_;have h1:=of_decide_eq_true (List.mem_filter.1 ha).2;have h2:=of_decide_eq_true (List.mem_filter.1 hb).2;exact Prod.ext (h1.trans h2.symm) e
theorem aaY : ∀ ts : List T3,(aP ts).map (·.1) = aY ts:=by
 intro ts;unfold aP aY;rw [List.map_flatMap];rfl
theorem Np (ts : List T3) (v : P3) : (No ts v).length = lN (aY ts) v:=by
 rw [← aaY];unfold No lN;rw [List.length_map,List.filter_map,List.length_map];rfl
theorem full {S E : List P3} (hS : S.Nodup) (hs : ∀ x ∈ S,x ∈ E) (hl : E.length ≤ S.length) : ∀ x ∈ E,x ∈ S:=fun x hx=>by
 refine Decidable.byContradiction fun hn=>?_;have h1 : S.length ≤ (E.erase x).length:=rZ hS fun y hy=>by
  have hne : y ≠ x:=fun e=>hn (e ▸ hy);exact (List.mem_erase_of_ne hne).2 (hs y hy)
 rw [List.length_erase_of_mem hx] at h1;have : 0 < E.length:=List.length_pos_of_mem hx;omega
theorem Rb {ts : List T3} {v a b : P3} {i j : Nat} (h : kM ts v i a = some b) : kM ts v (i + j) a = kM ts v j b:=by rw [Cb,h,Option.bind_some]
theorem aex {ts : List T3} {v s : P3} {j : Nat} (h1 : 1 ≤ j) (h : kM ts v j s = some s) : ∀ n,kM ts v n s = kM ts v (n % j) s:=fun n=>by
 induction n using Nat.strongRecOn with
 | _ n ih =>
  rcases Nat.lt_or_ge n j with hl | hl
  · rw [Nat.mod_eq_of_lt hl]
  · have e : n = j + (n - j):=by omega
    rw [e,Rb h,ih (n - j) (by omega),Nat.add_mod_left]
theorem Nq {ts : List T3} (hn : (aP ts).Nodup) {v s : P3} {j : Nat} (hm : ∀ k,1 ≤ k → k < j → kM ts v k s ≠ some s) : ∀ (i k : Nat) (x : P3),i < k → k < j → kM ts v i s = some x → kM ts v k s ≠ some x
 | 0,k,x,hik,hk,h,h2=>by cases h;exact hm k (by omega) hk h2
 | i + 1,k,x,hik,hk,h,h2=>by
  obtain ⟨m,rfl⟩ : ∃ m,k = m + 1:=⟨k - 1,by omega⟩
  rw [kN] at h h2;obtain ⟨y,hy,hy'⟩:=Option.bind_eq_some_iff.1 h;obtain ⟨z,hz,hz'⟩:=Option.bind_eq_some_iff.1 h2;obtain rfl:=Ee hn hy' hz';exact Nq hn hm i m y (by omega) (by omega) hy hz
theorem Tb {ts : List T3} {v a b : P3} {i j : Nat} (hij : i ≤ j) (h : kM ts v j a = some b) : ∃ y,kM ts v i a = some y:=by
 have e : j = i + (j - i):=by omega
 rw [e,Cb] at h;obtain ⟨y,hy,_⟩:=Option.bind_eq_some_iff.1 h;exact ⟨y,hy⟩
theorem Ig {ts : List T3} (hn : (aP ts).Nodup) {v s : P3} {j : Nat} (h1 : 1 ≤ j) (h : kM ts v j s = some s) (hm : ∀ k,1 ≤ k → k < j → kM ts v k s ≠ some s) :
 ∃ L : List P3,L.Nodup ∧ L.length = j ∧ (∀ x ∈ L,x ∈ No ts v) ∧ ∀ x,x ∈ L ↔ rD (Nx ts v) s x:=by
 have get : ∀ i,i ≤ j → ∃ y,kM ts v i s = some y:=fun i hi=>Tb hi h;refine ⟨(List.range j).map fun i=>(kM ts v i s).getD s,?_,by rw [List.length_map,List.length_range],fun x hx=>?_,fun x=>?_⟩
 · rw [List.Nodup,List.pairwise_map]
   refine (List.pairwise_lt_range (n:=j)).imp_of_mem fun {a b} ha hb hab e=>?_;have hb':=List.mem_range.1 hb;obtain ⟨y,hy⟩:=get a (by omega);obtain ⟨z,hz⟩:=get b (by omega);rw [hy,hz] at e;obtain rfl : y = z:=e;exact Nq hn hm a b y hab hb' hy hz
 · obtain ⟨i,hi,rfl⟩:=List.mem_map.1 hx
   have hi':=List.mem_range.1 hi;obtain ⟨y,hy⟩:=get i (by omega);obtain ⟨z,hz⟩:=get (i + 1) (by omega);rw [kN,hy,Option.bind_some] at hz;rw [hy];exact Fj.2 (nC hz)
 · rw [Fi hn,List.mem_map]
   constructor
   · rintro ⟨i,hi,rfl⟩
     obtain ⟨y,hy⟩:=get i (by have:=List.mem_range.1 hi;omega);exact ⟨i,by rw [hy];rfl⟩
   · rintro ⟨n,hx⟩
     rw [aex h1 h] at hx;exact ⟨n % j,List.mem_range.2 (Nat.mod_lt _ (by omega)),by rw [hx];rfl⟩
theorem Ih {ts : List T3} (hn : (aP ts).Nodup) : (¬ ∃ e ∈ aP ts,∃ j,1 ≤ j ∧ j < lN (aY ts) e.1 ∧ kM ts e.1 j e.2 = some e.2) ↔ ∀ v,gZ (Nx ts v):=by
 constructor
 · rintro hno v s ⟨y,hy,hr⟩ x z hx
   obtain ⟨n,hr⟩:=(Fi hn).1 hr;have h0 : kM ts v (1 + n) s = some s:=by rw [Rb (b:=y) (by rw [kM,(sI hn).1 hy];rfl)];exact hr
   obtain ⟨j,⟨hj1,hj⟩,hm⟩:=acT (P:=fun k=>1 ≤ k ∧ kM ts v k s = some s) (1 + n) ⟨by omega,h0⟩;obtain ⟨L,hL1,hL2,hL3,hL4⟩:=Ig hn hj1 hj (fun k h1 h2 h3=>hm k h2 ⟨h1,h3⟩);have hge : lN (aY ts) v ≤ j:=by
    refine Nat.le_of_not_lt fun hlt=>hno ⟨(v,s),nC ((sI hn).1 hy),j,hj1,hlt,hj⟩
   exact (hL4 x).1 (full hL1 hL3 (by rw [hL2,Np];exact hge) x (Fj.2 (nC ((sI hn).1 hx))))
 · rintro hall ⟨⟨v,s⟩,he,j0,h1,h2,h3⟩
   simp only at h2 h3;obtain ⟨j,⟨hj1,hj⟩,hm⟩:=acT (P:=fun k=>1 ≤ k ∧ kM ts v k s = some s) j0 ⟨h1,h3⟩;have hjj : j ≤ j0:=Nat.le_of_not_lt fun hlt=>hm j0 hlt ⟨h1,h3⟩;obtain ⟨L,hL1,hL2,hL3,hL4⟩:=Ig hn hj1 hj (fun k h1 h2 h3=>hm k h2 ⟨h1,h3⟩);have hcyc : Cyc (Nx ts v) s:=by
    obtain ⟨y,hy⟩:=Tb (i:=1) hj1 hj;have hy' : bD ts v s = some y:=by
     rw [kM] at hy;cases hb : bD ts v s with
     | none=>rw [hb] at hy;cases hy
     | some w=>rw [hb] at hy;exact hy
    refine ⟨y,(sI hn).2 hy',(Fi hn).2 ⟨j - 1,?_⟩⟩;have e : j = 1 + (j - 1):=by omega
    rw [e,Rb hy] at hj;exact hj
   have hle : (No ts v).length ≤ L.length:=rZ (Ra hn) fun x hx=>by
    obtain ⟨y,hy⟩:=pI (Fj.1 hx);exact (hL4 x).2 (hall v s hcyc x y ((sI hn).2 hy))
   rw [Np,hL2] at hle;omega
theorem pL {ts : List T3} : cV true ts = 0 ↔ lK ts ∧ (aP ts).Nodup ∧ ∀ v,gZ (Nx ts v):=by
 rw [Wp];constructor
 · rintro ⟨h1,h2,h3⟩;exact ⟨h1,h2,(Ih h2).1 h3⟩
 · rintro ⟨h1,h2,h3⟩;exact ⟨h1,h2,(Ih h2).2 h3⟩
end Go.Lith
namespace Go.Lith
open Go.RowKit
/-! ### Images -/
theorem sJ {t : T3} : t.nd = true ↔ t.a ≠ t.b ∧ t.b ≠ t.c ∧ t.c ≠ t.a:=by
 unfold T3.nd;simp only[Bool.and_eq_true,decide_eq_true_eq,and_assoc]
theorem Ii {t : T3} : t.nd = false ↔ t.a = t.b ∨ t.b = t.c ∨ t.c = t.a:=by
 cases h : t.nd with
 | true =>
  obtain ⟨h1,h2,h3⟩:=sJ.1 h;exact ⟨fun k=>(by cases k),fun k=>k.elim (fun k=>absurd k h1) fun k=>k.elim (fun k=>absurd k h2) fun k=>absurd k h3⟩
 | false =>
  refine ⟨fun _=>?_,fun _=>rfl⟩;by_cases h1 : t.a = t.b
  · exact .inl h1
  · by_cases h2 : t.b = t.c
    · exact .inr (.inl h2)
    · refine .inr (.inr (Decidable.byContradiction fun h3=>?_))
      rw [sJ.2 ⟨h1,h2,h3⟩] at h;cases h
theorem Tc {f : P3 → P3} {t : T3} (h : t.nd = false) : (t.mapP f).nd = false:=by
 rw [Ii] at h ⊢;unfold T3.mapP;rcases h with h | h | h
 · exact .inl (by simp only[h])
 · exact .inr (.inl (by simp only[h]))
 · exact .inr (.inr (by simp only[h]))
theorem Ij (t : T3) : pZ t (eD t):=by
 unfold eD;split
 · exact .inr (.inr rfl)
 · split
   · exact .inr (.inl rfl)
   · exact .inl rfl
theorem Wq {t u : T3} (f : P3 → P3) (h : pZ t u) : pZ (t.mapP f) (u.mapP f):=by
 rcases h with rfl | rfl | rfl
 · exact .inl rfl
 · exact .inr (.inl rfl)
 · exact .inr (.inr rfl)
def hF (f : P3 → P3) (t : T3) : List T3:=if (t.mapP f).nd then [eD (t.mapP f)] else []
def oD (f : P3 → P3) (us : List T3) : List T3:=us.flatMap (hF f)
theorem Td (ms : List Mv) : ∀ us : List T3,mC ms us = oD (dP ms) us
 | []=>rfl
 | t :: us=>by
  have ih:=Td ms us;unfold mC oD at ih ⊢;rw [List.flatMap_cons,← ih];show _ = (if (t.img ms).nd then [eD (t.img ms)] else []) ++ _
  cases h : (t.img ms).nd with
  | true=>rw [List.filter_cons_of_pos (p:=fun t : T3=>(t.img ms).nd) h];rfl
  | false=>rw [List.filter_cons_of_neg (by simp [h])];rfl
theorem Te {f : P3 → P3} {t u : T3} (h : pZ t u) : hF f u = hF f t:=by
 have k:=Wq f h;unfold hF;rw [Su k];cases hn : (t.mapP f).nd with
 | true=>rw [uI k hn]
 | false=>rfl
theorem acl (f g : P3 → P3) (t : T3) : hF (fun x=>f (g x)) t = (hF g t).flatMap (hF f):=by
 have e : t.mapP (fun x=>f (g x)) = (t.mapP g).mapP f:=rfl;cases h : (t.mapP g).nd with
 | true =>
  have : hF g t = [eD (t.mapP g)]:=if_pos h;rw [this,List.flatMap_cons,List.flatMap_nil,List.append_nil,Te (Ij _)];unfold hF;rw [e]
 | false =>
  have k : hF g t = []:=if_neg (by rw [h];exact Bool.false_ne_true);rw [k,List.flatMap_nil];unfold hF;rw [e,Tc h];rfl
theorem Ik (f g : P3 → P3) : ∀ us : List T3,oD (fun x=>f (g x)) us = (oD g us).flatMap (hF f)
 | []=>rfl
 | t :: us=>by
  have ih:=Ik f g us;unfold oD at ih ⊢;rw [List.flatMap_cons,List.flatMap_cons,List.flatMap_append,ih,acl]
theorem aaZ (f : P3 → P3) (us vs : List T3) : oD f (us ++ vs) = oD f us ++ oD f vs:=List.flatMap_append
theorem Fk {f g : P3 → P3} {us : List T3} (h : ∀ x ∈ aY us,f x = g x) : oD f us = oD g us:=by
 unfold oD;have key : ∀ t ∈ us,hF f t = hF g t:=fun t ht=>by
  have e : t.mapP f = t.mapP g:=Jy (h _ (eZ.2 ⟨t,ht,.inl rfl⟩)) (h _ (eZ.2 ⟨t,ht,.inr (.inl rfl)⟩)) (h _ (eZ.2 ⟨t,ht,.inr (.inr rfl)⟩));unfold hF;rw [e]
 clear h
 induction us with
 | nil=>rfl
 | cons t us ih=>rw [List.flatMap_cons,List.flatMap_cons,key t (List.mem_cons_self ..),ih fun u hu=>key u (List.mem_cons_of_mem _ hu)]
theorem Tf {f : P3 → P3} {us : List T3} (hd : lK us) (h : ∀ x ∈ aY us,f x = x) : oD f us = us.map eD:=by
 rw [Fk (g:=fun x=>x) h];clear h
 induction us with
 | nil=>rfl
 | cons t us ih =>
  have e : hF (fun x=>x) t = [eD t]:=by
   unfold hF;have : t.mapP (fun x=>x) = t:=rfl;rw [this,afT (hd t (List.mem_cons_self ..))];rfl
  unfold oD at ih ⊢;rw [List.flatMap_cons,e,ih fun u hu=>hd u (List.mem_cons_of_mem _ hu)];rfl
theorem Ws {f : P3 → P3} {us vs : List T3} (h : us.Perm vs) : (oD f us).Perm (oD f vs):=h.flatMap_right _
/-! ### What holds of both -/
structure Bc (l us : List T3) (f : P3 → P3) : Prop where
 dg : lK us
 nd : (aP us).Nodup
 np : pK us
 pin : ∀ v,gZ (Nx us v)
 bd : ∀ e,nE us e ↔ nE l e
 sub : ∀ x ∈ aY l,x ∈ aY us
 fix : ∀ x ∈ aY l,f x = x
 img : ∀ x ∈ aY us,f x ∈ aY l
 hit : (oD f us).Perm (l.map eD)
 pair : ∀ t ∈ us,∀ x y,t.has x = true → t.has y = true → oC l (f x) (f y) = true
 keep : ∀ e ∈ aP l,uB (aR l) e.1 = true → uB (aR l) e.2 = true → e ∈ aP us
 fan : ∀ v a z,nE l (v,a) → yI (Nx l v) a z → yI (Nx us v) a z
theorem Bc.refl {l : List T3} (dg : lK l) (nd : (aP l).Nodup) (np : pK l) (pin : ∀ v,gZ (Nx l v)) : Bc l l (fun x=>x) :=
 ⟨dg,nd,np,pin,fun _=>Iff.rfl,fun _ h=>h,fun _ _=>rfl,fun _ h=>h,by rw [Tf dg fun _ _=>rfl],fun t ht x y hx hy=>gI.2 ⟨t,ht,hx,hy⟩,fun _ h _ _=>h,fun _ _ _ _ h=>h⟩
theorem kQ {ts : List T3} {t : T3} {x : P3} (ht : t ∈ ts) (h : t.has x = true) : x ∈ aY ts:=eZ.2 ⟨t,ht,eA.1 h⟩
theorem Bc.congr {l us : List T3} {f g : P3 → P3} (h : Bc l us f) (e : ∀ x ∈ aY us,f x = g x) : Bc l us g :=
 ⟨h.dg,h.nd,h.np,h.pin,h.bd,h.sub,fun x hx=>(e x (h.sub x hx)).symm.trans (h.fix x hx),fun x hx=>e x hx ▸ h.img x hx,Fk e ▸ h.hit,
  fun t ht x y hx hy=>by rw [← e x (kQ ht hx),← e y (kQ ht hy)];exact h.pair t ht x y hx hy,h.keep,h.fan⟩
theorem Bc.rim {l us : List T3} {f : P3 → P3} (h : Bc l us f) : aR us = aR l:=Nk h.bd
theorem Bc.trans {l mid us : List T3} {f g : P3 → P3} (h : Bc l mid f) (k : Bc mid us g) : Bc l us (fun x=>f (g x)):=by
 refine ⟨k.dg,k.nd,k.np,k.pin,fun e=>(k.bd e).trans (h.bd e),fun x hx=>k.sub x (h.sub x hx),fun x hx=>?_,fun x hx=>h.img _ (k.img x hx),?_,fun t ht x y hx hy=>?_,fun e he h1 h2=>?_,fun v a z hb hf=>?_⟩
 · show f (g x) = x
   rw [k.fix x (h.sub x hx),h.fix x hx]
 · rw [Ik]
   refine (k.hit.flatMap_right (hF f)).trans ?_;have e : (mid.map eD).flatMap (hF f) = oD f mid:=by
    unfold oD;rw [List.flatMap_map]
    congr 1
    exact funext fun t=>Te (Ij t)
   rw [e];exact h.hit
 · obtain ⟨u,hu,k1,k2⟩:=gI.1 (k.pair t ht x y hx hy)
   exact h.pair u hu _ _ k1 k2
 · refine k.keep e (h.keep e he h1 h2) ?_ ?_ <;> rw [h.rim] <;> assumption
 · exact k.fan v a z ((h.bd _).2 hb) (h.fan v a z hb hf)
/-! ### One step -/
def Loc (p : P3) (X : E3 → Prop) (us us' : List T3) (v : P3) : Prop :=
 (∀ x y,Nx us' v x y ↔ Nx us v x y) ∨ (∃ x0 y0,Ins p x0 y0 (Nx us v) (Nx us' v)) ∨ ∃ q,X (v,q) ∧ Ren q p (Nx us v) (Nx us' v)
def Be (p a x : P3) : P3:=if x = p then a else x
theorem sO {p a : P3} : Be p a p = a:=if_pos rfl
theorem iR {p a x : P3} (h : x ≠ p) : Be p a x = x:=if_neg h
section
variable {p a : P3} {X : E3 → Prop} {old new R us us' : List T3}
theorem Fb.cors (c : Fb p X old new R us us') (x : P3) : x ∈ aY us' ↔ x ∈ aY new ∨ x ∈ aY R:=by
 have e : x ∈ aY us' ↔ x ∈ aY (new ++ R):=by
  unfold aY;exact (c.now.flatMap_right _).mem_iff
 rw [e,nF]
theorem Fb.cors0 (c : Fb p X old new R us us') (x : P3) : x ∈ aY us ↔ x ∈ aY old ∨ x ∈ aY R:=by
 have e : x ∈ aY us ↔ x ∈ aY (old ++ R):=by
  unfold aY;exact (c.was.flatMap_right _).mem_iff
 rw [e,nF]
theorem Fb.out (c : Fb p X old new R us us') : p ∉ aY us:=fun h=>by
 obtain ⟨t,ht,hx⟩:=eZ.1 h;have:=c.fresh t ht;rw [eA.2 hx] at this;cases this
theorem Nr (c : Fb p X old new R us us') (dg : lK us) (nd : (aP us).Nodup) (np : pK us) (pin : ∀ v,gZ (Nx us v)) (hdg : lK new) (hnp : pK new) (hpp : ∀ x y z,((x,y),z) ∈ dS new → x = p ∨ y = p ∨ z = p)
 (ho : ∀ x ∈ aY old,x ∈ aY new) (hnw : ∀ x ∈ aY new,x = p ∨ x ∈ aY old) (ha : a ∈ aY us) (hhit : (oD (Be p a) new).Perm (old.map eD))
 (hpair : ∀ t ∈ new,∀ x y,t.has x = true → t.has y = true → oC us (Be p a x) (Be p a y) = true) (hX : ∀ e,X e → ¬ (uB (aR us) e.1 = true ∧ uB (aR us) e.2 = true))
 (hl : ∀ v,v ≠ p → Loc p X us us' v) (hp : gZ (Nx us' p)) : Bc us us' (Be p a):=by
 have hR : ∀ t ∈ R,t ∈ us:=fun t ht=>c.was.mem_iff.2 (List.mem_append_right _ ht);have hpu:=c.out;have hne : ∀ x ∈ aY us,x ≠ p:=fun x hx e=>hpu (e ▸ hx);have hRc : ∀ x ∈ aY R,x ∈ aY us:=fun x hx=>(c.cors0 x).2 (.inr hx);refine ⟨fun t ht=>?_,c.nodup nd,Qv c.was c.now c.fresh np hnp hpp,fun v=>?_,fun e=>c.bord nd e,fun x hx=>?_,fun x hx=>iR (hne x hx),fun x hx=>?_,?_,fun t ht x y hx hy=>?_,fun e he h1 h2=>?_,fun v b z hb hf=>?_⟩
 · rcases List.mem_append.1 (c.now.mem_iff.1 ht) with h | h
   · exact hdg t h
   · exact dg t (hR t h)
 · by_cases e : v = p
   · subst e;exact hp
   · rcases hl v e with h | ⟨x0,y0,h⟩ | ⟨q,_,h⟩
     · exact wT h (pin v)
     · exact h.nopin (pin v)
     · exact h.nopin (pin v)
 · rcases (c.cors0 x).1 hx with h | h
   · exact (c.cors x).2 (.inl (ho x h))
   · exact (c.cors x).2 (.inr h)
 · rcases (c.cors x).1 hx with h | h
   · rcases hnw x h with rfl | h
     · rw [sO];exact ha
     · have:=(c.cors0 x).2 (.inl h)
       rw [iR (hne x this)];exact this
   · rw [iR (hne x (hRc x h))];exact hRc x h
 · refine (Ws c.now).trans ?_
   rw [aaZ,Tf (us:=R) (fun t ht=>dg t (hR t ht)) fun x hx=>iR (hne x (hRc x hx))];have:=c.was.map eD;rw [List.map_append] at this;exact (hhit.append_right _).trans this.symm
 · rcases List.mem_append.1 (c.now.mem_iff.1 ht) with h | h
   · exact hpair t h x y hx hy
   · have hu:=hR t h
     rw [iR (hne x (kQ hu hx)),iR (hne y (kQ hu hy))];exact gI.2 ⟨t,hu,hx,hy⟩
 · obtain ⟨n1,n2⟩:=c.np he
   exact (c.stay nd n1 n2).2 ⟨he,fun x=>hX e x ⟨h1,h2⟩⟩
 · obtain ⟨hb1,hb2⟩:=hb
   have hbc:=qT hb1;have hz : z ≠ p:=by
    have key : ∀ b z,rD (Nx us v) b z → b ∈ aY us → z ∈ aY us:=fun b z r hb=>by
     induction r with
     | refl=>exact hb
     | @tail x1 y1 _ s _ =>
      have e1 : (x1,y1) ∈ aP us:=by rw [← jD];exact List.mem_map.2 ⟨_,fM s,rfl⟩
      exact (qT e1).2
    exact hne z (key b z hf.1 hbc.2)
   rcases hl v (hne v hbc.1) with h | ⟨x0,y0,h⟩ | ⟨q,hq,h⟩
   · exact aaX h hf
   · exact h.fan hz hf
   · have hq1 : (v,q) ∈ aP us:=(c.w _).2 (.inl (c.xold _ hq))
     have hq2 : (q,v) ∈ aP us:=(c.w _).2 (.inl (c.xold _ (c.xrev _ hq)));refine h.fan (fun e=>hb2 (by rw [e];exact hq2)) (fun e=>?_) hz hf;obtain ⟨y,hy⟩:=pI hq1;exact hf.2 y (by rw [e];exact lA hy)
end
/-! ### The corners round a corner,in a step -/
theorem agd {a b d : P3} : gZ fun x y=>(x = a ∧ y = b) ∨ (x = b ∧ y = d) ∨ (x = d ∧ y = a):=by
 rintro s ⟨y,hy,_⟩ x z hx;have ab : rD (fun x y=>(x = a ∧ y = b) ∨ (x = b ∧ y = d) ∨ (x = d ∧ y = a)) a b:=.one (.inl ⟨rfl,rfl⟩);have bd : rD (fun x y=>(x = a ∧ y = b) ∨ (x = b ∧ y = d) ∨ (x = d ∧ y = a)) b d:=.one (.inr (.inl ⟨rfl,rfl⟩));have da : rD (fun x y=>(x = a ∧ y = b) ∨ (x = b ∧ y = d) ∨ (x = d ∧ y = a)) d a:=.one (.inr (.inr ⟨rfl,rfl⟩));rcases hy with ⟨rfl,_⟩ | ⟨rfl,_⟩ | ⟨rfl,_⟩ <;> rcases hx with ⟨rfl,_⟩ | ⟨rfl,_⟩ | ⟨rfl,_⟩ <;> first | exact .refl _ | exact ab | exact bd | exact da | exact ab.trans bd | exact bd.trans da | exact da.trans ab
theorem age {a b c d : P3} : gZ fun x y=>(x = a ∧ y = b) ∨ (x = b ∧ y = c) ∨ (x = c ∧ y = d) ∨ (x = d ∧ y = a):=by
 rintro s ⟨y,hy,_⟩ x z hx;have ab : rD (fun x y=>(x = a ∧ y = b) ∨ (x = b ∧ y = c) ∨ (x = c ∧ y = d) ∨ (x = d ∧ y = a)) a b:=.one (.inl ⟨rfl,rfl⟩);have bc : rD (fun x y=>(x = a ∧ y = b) ∨ (x = b ∧ y = c) ∨ (x = c ∧ y = d) ∨ (x = d ∧ y = a)) b c:=.one (.inr (.inl ⟨rfl,rfl⟩));have cd : rD (fun x y=>(x = a ∧ y = b) ∨ (x = b ∧ y = c) ∨ (x = c ∧ y = d) ∨ (x = d ∧ y = a)) c d:=.one (.inr (.inr (.inl ⟨rfl,rfl⟩)));have da : rD (fun x y=>(x = a ∧ y = b) ∨ (x = b ∧ y = c) ∨ (x = c ∧ y = d) ∨ (x = d ∧ y = a)) d a:=.one (.inr (.inr (.inr ⟨rfl,rfl⟩)));rcases hy with ⟨rfl,_⟩ | ⟨rfl,_⟩ | ⟨rfl,_⟩ | ⟨rfl,_⟩ <;> rcases hx with ⟨rfl,_⟩ | ⟨rfl,_⟩ | ⟨rfl,_⟩ | ⟨rfl,_⟩ <;>
  first | exact .refl _ | exact ab | exact bc | exact cd | exact da | exact ab.trans bc | exact bc.trans cd | exact cd.trans da | exact da.trans ab | exact (ab.trans bc).trans cd | exact (bc.trans cd).trans da | exact (cd.trans da).trans ab | exact (da.trans ab).trans bc
theorem yK {u : T3} {v x y : P3} : ((v,x),y) ∈ sF u ↔ (v = u.a ∧ x = u.b ∧ y = u.c) ∨ (v = u.b ∧ x = u.c ∧ y = u.a) ∨ (v = u.c ∧ x = u.a ∧ y = u.b):=by
 simp only[sF,List.mem_cons,List.not_mem_nil,or_false,Prod.mk.injEq,and_assoc]
theorem Fl {t u : T3} (h : pZ t u) {x : E3 × P3} : x ∈ sF u ↔ x ∈ sF t:=by
 obtain ⟨⟨v,w⟩,y⟩:=x;rw [yK,yK];rcases h with rfl | rfl | rfl
 · exact Iff.rfl
 · exact ⟨fun h=>h.elim (fun h=>.inr (.inl h)) fun h=>h.elim (fun h=>.inr (.inr h)) .inl,fun h=>h.elim (fun h=>.inr (.inr h)) fun h=>h.elim .inl fun h=>.inr (.inl h)⟩
 · exact ⟨fun h=>h.elim (fun h=>.inr (.inr h)) fun h=>h.elim .inl fun h=>.inr (.inl h),fun h=>h.elim (fun h=>.inr (.inl h)) fun h=>h.elim (fun h=>.inr (.inr h)) .inl⟩
theorem Cj {us vs : List T3} (h : us.Perm vs) {v x y : P3} : Nx us v x y ↔ Nx vs v x y:=sG h
theorem mW {t : T3} {us : List T3} {v x y : P3} : Nx (t :: us) v x y ↔ ((v,x),y) ∈ sF t ∨ Nx us v x y:=by
 show ((v,x),y) ∈ dS (t :: us) ↔ _
 rw [gS];constructor
 · rintro ⟨u,hu,h⟩
   rcases List.mem_cons.1 hu with rfl | hu
   · exact .inl h
   · exact .inr (gS.2 ⟨u,hu,h⟩)
 · rintro (h | h)
   · exact ⟨t,List.mem_cons_self ..,h⟩
   · obtain ⟨u,hu,h⟩:=gS.1 h
     exact ⟨u,List.mem_cons_of_mem _ hu,h⟩
theorem oE {us : List T3} {v x y : P3} (h : Nx us v x y) : (v,x) ∈ aP us:=by rw [← jD];exact List.mem_map.2 ⟨_,h,rfl⟩
end Go.Lith
namespace Go.Lith
open Go.RowKit
theorem Fm {t u : T3} (h : pZ t u) : jN u = jN t:=by
 have k:=Su h;have e : ∀ s : T3,jN s = !s.nd:=fun s=>by
  cases hd : s.nd with
  | true =>
   obtain ⟨h1,h2,h3⟩:=sJ.1 hd;simp [jN,h1,h2,h3]
  | false =>
   rcases Ii.1 hd with h | h | h <;> simp [jN,h]
 rw [e,e,k]
theorem Tg {f : P3 → P3} {t : T3} (h : (t.mapP f).nd = false) : hF f t = []:=if_neg (by rw [h];exact Bool.false_ne_true)
theorem Rc {f : P3 → P3} {t : T3} (h : (t.mapP f).nd = true) : hF f t = [eD (t.mapP f)]:=if_pos h
theorem acm {us us' R : List T3} {p a b d : P3} {t : T3} (dg : lK us) (nd : (aP us).Nodup) (np : pK us) (pin : ∀ v,gZ (Nx us v)) (ht : pZ ⟨a,b,d⟩ t) (hp : ∀ u ∈ us,u.has p = false) (hw : us.Perm (t :: R))
 (hn : us'.Perm (⟨a,b,p⟩ :: ⟨b,d,p⟩ :: ⟨d,a,p⟩ :: R)) : Bc us us' (Be p a):=by
 have htm : t ∈ us:=hw.mem_iff.2 (List.mem_cons_self ..);have hd : jN ⟨a,b,d⟩ = false:=by rw [← Fm ht];exact dg t htm
 obtain ⟨h1,h2,h3⟩:=Gh hd;simp only at h1 h2 h3;obtain ⟨p1,p2,p3⟩:=Aj ((jX ht p).symm.trans (hp t htm));simp only at p1 p2 p3;have c:=acd ht hd hp hw hn;have hR : ∀ u ∈ R,u.has p = false:=fun u hu=>hp u (hw.mem_iff.2 (List.mem_cons_of_mem _ hu));have inT : ∀ x,(x = a ∨ x = b ∨ x = d) → t.has x = true:=fun x hx=>by rw [jX ht,eA];exact hx
 have eN : ∀ v x y,Nx us v x y ↔ ((v = a ∧ x = b ∧ y = d) ∨ (v = b ∧ x = d ∧ y = a) ∨ (v = d ∧ x = a ∧ y = b)) ∨ Nx R v x y:=fun v x y=>by
  rw [Cj hw,mW,Fl ht,yK]
 have eN' : ∀ v x y,Nx us' v x y ↔ ((v = a ∧ x = b ∧ y = p) ∨ (v = b ∧ x = p ∧ y = a) ∨ (v = p ∧ x = a ∧ y = b)) ∨ ((v = b ∧ x = d ∧ y = p) ∨ (v = d ∧ x = p ∧ y = b) ∨ (v = p ∧ x = b ∧ y = d)) ∨ ((v = d ∧ x = a ∧ y = p) ∨ (v = a ∧ x = p ∧ y = d) ∨ (v = p ∧ x = d ∧ y = a)) ∨ Nx R v x y:=fun v x y=>by
  rw [Cj hn,mW,mW,mW,yK,yK,yK]
 have rp : ∀ v x y,Nx R v x y → v ≠ p ∧ x ≠ p ∧ y ≠ p:=fun v x y h=>qX hR h;have eo : ∀ e ∈ jS ⟨a,b,d⟩,e ∉ aP R:=fun e he=>c.dis nd e (List.mem_flatMap.2 ⟨t,List.mem_singleton_self _,(jW ht).2 he⟩);have r1 : ∀ y,¬ Nx R a b y:=fun y h=>eo (a,b) (by simp [jS]) (oE h);have r2 : ∀ y,¬ Nx R b d y:=fun y h=>eo (b,d) (by simp [jS]) (oE h);have r3 : ∀ y,¬ Nx R d a y:=fun y h=>eo (d,a) (by simp [jS]) (oE h);have up : ∀ v x y,Nx us v x y → x ≠ p ∧ y ≠ p:=fun v x y h=>(qX hp h).2;refine Nr c dg nd np pin (fun u hu=>?_) (fun x y z k1 k2=>?_) (fun x y z k=>?_) (fun x hx=>?_) (fun x hx=>?_) (kQ htm (inT a (.inl rfl))) ?_ (fun u hu x y hx hy=>?_) (fun e h=>h.elim) (fun v hv=>?_) ?_
 · simp only[List.mem_cons,List.not_mem_nil,or_false] at hu
   rcases hu with rfl | rfl | rfl <;> simp [jN,h1,h2,h3,p1,p2,p3,Ne.symm p1,Ne.symm p2,Ne.symm p3]
 · simp only[dS,List.flatMap_cons,List.flatMap_nil,List.append_nil,List.mem_append,List.mem_cons,List.not_mem_nil,or_false,Prod.mk.injEq] at k1 k2
   grind
 · simp only[dS,List.flatMap_cons,List.flatMap_nil,List.append_nil,List.mem_append,List.mem_cons,List.not_mem_nil,or_false,Prod.mk.injEq] at k
   grind
 · obtain ⟨u,hu,hx1⟩:=eZ.1 hx
   obtain rfl:=List.mem_singleton.1 hu;have hx2 : (⟨a,b,d⟩ : T3).has x = true:=by rw [← jX ht];exact eA.2 hx1
   simp only[aY,List.flatMap_cons,List.flatMap_nil,List.append_nil,List.mem_append,List.mem_cons,List.not_mem_nil,or_false];rcases eA.1 hx2 with h | h | h <;> simp only at h <;> simp [h]
 · simp only[aY,List.flatMap_cons,List.flatMap_nil,List.append_nil,List.mem_append,List.mem_cons,List.not_mem_nil,or_false] at hx
   have k : ∀ x,(x = a ∨ x = b ∨ x = d) → x ∈ aY [t]:=fun x hx=>kQ (List.mem_singleton_self _) (inT x hx);rcases hx with (rfl | rfl | rfl) | (rfl | rfl | rfl) | rfl | rfl | rfl <;> first | exact .inl rfl | (exact .inr (k _ (by simp)))
 · have q1 : hF (Be p a) ⟨a,b,p⟩ = []:=Tg (Ii.2 (.inr (.inr (by simp only[T3.mapP,sO,iR (Ne.symm p1)]))))
   have q3 : hF (Be p a) ⟨d,a,p⟩ = []:=Tg (Ii.2 (.inr (.inl (by simp only[T3.mapP,sO,iR (Ne.symm p1)]))));have e2 : (⟨b,d,p⟩ : T3).mapP (Be p a) = ⟨b,d,a⟩:=by simp only[T3.mapP,sO,iR (Ne.symm p2),iR (Ne.symm p3)]
   have q2 : hF (Be p a) ⟨b,d,p⟩ = [eD t]:=by
    rw [Rc (by rw [e2];exact sJ.2 ⟨h2,h3,h1⟩),e2];have hnd : (⟨a,b,d⟩ : T3).nd = true:=sJ.2 ⟨h1,h2,h3⟩;rw [uI ht hnd,uI (t:=⟨a,b,d⟩) (.inr (.inl rfl)) hnd]
   unfold oD;rw [List.flatMap_cons,List.flatMap_cons,List.flatMap_cons,List.flatMap_nil,q1,q2,q3];exact List.Perm.refl _
 · have hi : ∀ x,(x = a ∨ x = b ∨ x = d ∨ x = p) → t.has (Be p a x) = true:=fun x hx=>by
    rcases hx with rfl | rfl | rfl | rfl
    · rw [iR (Ne.symm p1)];exact inT _ (.inl rfl)
    · rw [iR (Ne.symm p2)];exact inT _ (.inr (.inl rfl))
    · rw [iR (Ne.symm p3)];exact inT _ (.inr (.inr rfl))
    · rw [sO];exact inT _ (.inl rfl)
   have hs : ∀ z,u.has z = true → z = a ∨ z = b ∨ z = d ∨ z = p:=fun z hz=>by
    have:=eA.1 hz;simp only[List.mem_cons,List.not_mem_nil,or_false] at hu;rcases hu with rfl | rfl | rfl <;> simp only at this <;> grind
   exact gI.2 ⟨t,htm,hi x (hs x hx),hi y (hs y hy)⟩
 · by_cases ea : v = a
   · subst ea
     refine .inr (.inl ⟨b,d,fun x y=>up v x y,(eN _ _ _).2 (.inl (.inl ⟨rfl,rfl,rfl⟩)),fun x y=>?_⟩);rw [eN',eN]
     grind
   · by_cases eb : v = b
     · subst eb
       refine .inr (.inl ⟨d,a,fun x y=>up v x y,(eN _ _ _).2 (.inl (.inr (.inl ⟨rfl,rfl,rfl⟩))),fun x y=>?_⟩);rw [eN',eN]
       grind
     · by_cases ed : v = d
       · subst ed
         refine .inr (.inl ⟨a,b,fun x y=>up v x y,(eN _ _ _).2 (.inl (.inr (.inr ⟨rfl,rfl,rfl⟩))),fun x y=>?_⟩);rw [eN',eN]
         grind
       · refine .inl fun x y=>?_
         rw [eN',eN];simp [ea,eb,ed,hv]
 · refine wT (N:=fun x y=>(x = a ∧ y = b) ∨ (x = b ∧ y = d) ∨ (x = d ∧ y = a)) (fun x y=>?_) agd
   rw [eN'];have:=rp p x y;simp only[p1,p2,p3,false_and,true_and,false_or,or_false,ne_eq,not_true_eq_false] at this ⊢
   grind
theorem aa0 {us us' R : List T3} {p a b d e : P3} {t o : T3} (dg : lK us) (nd : (aP us).Nodup) (np : pK us) (pin : ∀ v,gZ (Nx us v)) (ht : pZ ⟨a,b,d⟩ t) (ho : pZ ⟨b,a,e⟩ o) (hp : ∀ u ∈ us,u.has p = false) (hw : us.Perm (t :: o :: R))
 (hn : us'.Perm (⟨a,p,d⟩ :: ⟨b,p,e⟩ :: ⟨p,b,d⟩ :: ⟨p,a,e⟩ :: R)) (hX : ¬ (uB (aR us) a = true ∧ uB (aR us) b = true)) : Bc us us' (Be p a):=by
 have htm : t ∈ us:=hw.mem_iff.2 (List.mem_cons_self ..);have hom : o ∈ us:=hw.mem_iff.2 (by simp);have hd : jN ⟨a,b,d⟩ = false:=by rw [← Fm ht];exact dg t htm
 have he : jN ⟨b,a,e⟩ = false:=by rw [← Fm ho];exact dg o hom
 obtain ⟨h1,h2,h3⟩:=Gh hd;obtain ⟨_,h5,h6⟩:=Gh he;simp only at h1 h2 h3 h5 h6;have hde : d ≠ e:=fun q=>by
  have k1 : ((a,b),d) ∈ dS us:=gS.2 ⟨t,htm,by rcases ht with rfl | rfl | rfl <;> simp [sF]⟩;have k2 : ((b,a),e) ∈ dS us:=gS.2 ⟨o,hom,by rcases ho with rfl | rfl | rfl <;> simp [sF]⟩;exact np a b d k1 (q ▸ k2)
 obtain ⟨p1,p2,p3⟩:=Aj ((jX ht p).symm.trans (hp t htm));obtain ⟨_,_,p4⟩:=Aj ((jX ho p).symm.trans (hp o hom));simp only at p1 p2 p3 p4;have c:=aaI ht ho hd he hde hp hw hn;have hR : ∀ u ∈ R,u.has p = false:=fun u hu=>hp u (hw.mem_iff.2 (List.mem_cons_of_mem _ (List.mem_cons_of_mem _ hu)));have inT : ∀ x,(x = a ∨ x = b ∨ x = d) → t.has x = true:=fun x hx=>by rw [jX ht,eA];exact hx
 have inO : ∀ x,(x = b ∨ x = a ∨ x = e) → o.has x = true:=fun x hx=>by rw [jX ho,eA];exact hx
 have eN : ∀ v x y,Nx us v x y ↔ ((v = a ∧ x = b ∧ y = d) ∨ (v = b ∧ x = d ∧ y = a) ∨ (v = d ∧ x = a ∧ y = b)) ∨ ((v = b ∧ x = a ∧ y = e) ∨ (v = a ∧ x = e ∧ y = b) ∨ (v = e ∧ x = b ∧ y = a)) ∨ Nx R v x y:=fun v x y=>by
  rw [Cj hw,mW,mW,Fl ht,Fl ho,yK,yK]
 have eN' : ∀ v x y,Nx us' v x y ↔ ((v = a ∧ x = p ∧ y = d) ∨ (v = p ∧ x = d ∧ y = a) ∨ (v = d ∧ x = a ∧ y = p)) ∨ ((v = b ∧ x = p ∧ y = e) ∨ (v = p ∧ x = e ∧ y = b) ∨ (v = e ∧ x = b ∧ y = p)) ∨ ((v = p ∧ x = b ∧ y = d) ∨ (v = b ∧ x = d ∧ y = p) ∨ (v = d ∧ x = p ∧ y = b)) ∨
  ((v = p ∧ x = a ∧ y = e) ∨ (v = a ∧ x = e ∧ y = p) ∨ (v = e ∧ x = p ∧ y = a)) ∨ Nx R v x y:=fun v x y=>by
  rw [Cj hn,mW,mW,mW,mW,yK,yK,yK,yK]
 have rp : ∀ v x y,Nx R v x y → v ≠ p ∧ x ≠ p ∧ y ≠ p:=fun v x y h=>qX hR h;have eo : ∀ q,q ∈ jS ⟨a,b,d⟩ ∨ q ∈ jS ⟨b,a,e⟩ → q ∉ aP R:=fun q hq=>c.dis nd q (by
  rcases hq with hq | hq
  · exact List.mem_flatMap.2 ⟨t,by simp,(jW ht).2 hq⟩
  · exact List.mem_flatMap.2 ⟨o,by simp,(jW ho).2 hq⟩)
 have r1 : ∀ y,¬ Nx R a b y:=fun y h=>eo (a,b) (by simp [jS]) (oE h);have r2 : ∀ y,¬ Nx R b d y:=fun y h=>eo (b,d) (by simp [jS]) (oE h);have r3 : ∀ y,¬ Nx R d a y:=fun y h=>eo (d,a) (by simp [jS]) (oE h);have r4 : ∀ y,¬ Nx R b a y:=fun y h=>eo (b,a) (by simp [jS]) (oE h);have r5 : ∀ y,¬ Nx R a e y:=fun y h=>eo (a,e) (by simp [jS]) (oE h);have r6 : ∀ y,¬ Nx R e b y:=fun y h=>eo (e,b) (by simp [jS]) (oE h);have r7 : ∀ x,¬ Nx R a x b:=fun x h=>r4 x (fM (fM h));have r8 : ∀ x,¬ Nx R b x a:=fun x h=>r1 x (fM (fM h));have up : ∀ v x y,Nx us v x y → x ≠ p ∧ y ≠ p:=fun v x y h=>(qX hp h).2;refine Nr c dg nd np pin (fun u hu=>?_) (fun x y z k1 k2=>?_) (fun x y z k=>?_) (fun x hx=>?_) (fun x hx=>?_) (kQ htm (inT a (.inl rfl))) ?_ (fun u hu x y hx hy=>?_) (fun q h=>?_) (fun v hv=>?_) ?_
 · simp only[List.mem_cons,List.not_mem_nil,or_false] at hu
   rcases hu with rfl | rfl | rfl | rfl <;> simp [jN,h1,h2,h3,h5,h6,p1,p2,p3,p4,Ne.symm h1,Ne.symm h2,Ne.symm h3,Ne.symm h5,Ne.symm h6,Ne.symm p1,Ne.symm p2,Ne.symm p3,Ne.symm p4]
 · simp only[dS,List.flatMap_cons,List.flatMap_nil,List.append_nil,List.mem_append,List.mem_cons,List.not_mem_nil,or_false,Prod.mk.injEq,or_assoc] at k1
   rcases k1 with ⟨⟨rfl,rfl⟩,rfl⟩ | ⟨⟨rfl,rfl⟩,rfl⟩ | ⟨⟨rfl,rfl⟩,rfl⟩ | ⟨⟨rfl,rfl⟩,rfl⟩ | ⟨⟨rfl,rfl⟩,rfl⟩ | ⟨⟨rfl,rfl⟩,rfl⟩ | ⟨⟨rfl,rfl⟩,rfl⟩ | ⟨⟨rfl,rfl⟩,rfl⟩ | ⟨⟨rfl,rfl⟩,rfl⟩ | ⟨⟨rfl,rfl⟩,rfl⟩ | ⟨⟨rfl,rfl⟩,rfl⟩ | ⟨⟨rfl,rfl⟩,rfl⟩ <;>
    simp [dS,h1,h2,h3,h5,h6,hde,p1,p2,p3,p4,Ne.symm h1,Ne.symm h2,Ne.symm h3,Ne.symm h5,Ne.symm h6,Ne.symm hde,Ne.symm p1,Ne.symm p2,Ne.symm p3,Ne.symm p4] at k2
 · simp only[dS,List.flatMap_cons,List.flatMap_nil,List.append_nil,List.mem_append,List.mem_cons,List.not_mem_nil,or_false,Prod.mk.injEq] at k
   grind
 · obtain ⟨u,hu,hx1⟩:=eZ.1 hx
   have hx3 : x = a ∨ x = b ∨ x = d ∨ x = e:=by
    simp only[List.mem_cons,List.not_mem_nil,or_false] at hu;rcases hu with rfl | rfl
    · have hx2 : (⟨a,b,d⟩ : T3).has x = true:=by rw [← jX ht];exact eA.2 hx1
      rcases eA.1 hx2 with h | h | h <;> simp only at h <;> simp [h]
    · have hx2 : (⟨b,a,e⟩ : T3).has x = true:=by rw [← jX ho];exact eA.2 hx1
      rcases eA.1 hx2 with h | h | h <;> simp only at h <;> simp [h]
   simp only[aY,List.flatMap_cons,List.flatMap_nil,List.append_nil,List.mem_append,List.mem_cons,List.not_mem_nil,or_false];rcases hx3 with h | h | h | h <;> simp [h]
 · simp only[aY,List.flatMap_cons,List.flatMap_nil,List.append_nil,List.mem_append,List.mem_cons,List.not_mem_nil,or_false] at hx
   have k : ∀ x,(x = a ∨ x = b ∨ x = d) → x ∈ aY [t,o]:=fun x hx=>kQ (t:=t) (by simp) (inT x hx);have k2 : e ∈ aY [t,o]:=kQ (t:=o) (by simp) (inO e (.inr (.inr rfl)));rcases hx with (rfl | rfl | rfl) | (rfl | rfl | rfl) | (rfl | rfl | rfl) | rfl | rfl | rfl <;> first | exact .inl rfl | exact .inr k2 | (exact .inr (k _ (by simp)))
 · have q1 : hF (Be p a) ⟨a,p,d⟩ = []:=Tg (Ii.2 (.inl (by simp only[T3.mapP,sO,iR (Ne.symm p1)])))
   have q4 : hF (Be p a) ⟨p,a,e⟩ = []:=Tg (Ii.2 (.inl (by simp only[T3.mapP,sO,iR (Ne.symm p1)])));have e2 : (⟨b,p,e⟩ : T3).mapP (Be p a) = ⟨b,a,e⟩:=by simp only[T3.mapP,sO,iR (Ne.symm p2),iR (Ne.symm p4)]
   have e3 : (⟨p,b,d⟩ : T3).mapP (Be p a) = ⟨a,b,d⟩:=by simp only[T3.mapP,sO,iR (Ne.symm p2),iR (Ne.symm p3)]
   have n2 : (⟨b,a,e⟩ : T3).nd = true:=sJ.2 ⟨Ne.symm h1,h5,h6⟩;have n3 : (⟨a,b,d⟩ : T3).nd = true:=sJ.2 ⟨h1,h2,h3⟩;have q2 : hF (Be p a) ⟨b,p,e⟩ = [eD o]:=by rw [Rc (by rw [e2];exact n2),e2,uI ho n2]
   have q3 : hF (Be p a) ⟨p,b,d⟩ = [eD t]:=by rw [Rc (by rw [e3];exact n3),e3,uI ht n3]
   unfold oD;rw [List.flatMap_cons,List.flatMap_cons,List.flatMap_cons,List.flatMap_cons,List.flatMap_nil,q1,q2,q3,q4];exact List.Perm.swap ..
 · have hi : ∀ x,(x = a ∨ x = b ∨ x = d ∨ x = p) → t.has (Be p a x) = true:=fun x hx=>by
    rcases hx with rfl | rfl | rfl | rfl
    · rw [iR (Ne.symm p1)];exact inT _ (.inl rfl)
    · rw [iR (Ne.symm p2)];exact inT _ (.inr (.inl rfl))
    · rw [iR (Ne.symm p3)];exact inT _ (.inr (.inr rfl))
    · rw [sO];exact inT _ (.inl rfl)
   have hj : ∀ x,(x = b ∨ x = a ∨ x = e ∨ x = p) → o.has (Be p a x) = true:=fun x hx=>by
    rcases hx with rfl | rfl | rfl | rfl
    · rw [iR (Ne.symm p2)];exact inO _ (.inl rfl)
    · rw [iR (Ne.symm p1)];exact inO _ (.inr (.inl rfl))
    · rw [iR (Ne.symm p4)];exact inO _ (.inr (.inr rfl))
    · rw [sO];exact inO _ (.inr (.inl rfl))
   have hs : (∀ z,u.has z = true → z = a ∨ z = b ∨ z = d ∨ z = p) ∨ (∀ z,u.has z = true → z = b ∨ z = a ∨ z = e ∨ z = p):=by
    simp only[List.mem_cons,List.not_mem_nil,or_false] at hu;rcases hu with rfl | rfl | rfl | rfl
    · exact .inl fun z hz=>by have:=eA.1 hz;simp only at this;grind
    · exact .inr fun z hz=>by have:=eA.1 hz;simp only at this;grind
    · exact .inl fun z hz=>by have:=eA.1 hz;simp only at this;grind
    · exact .inr fun z hz=>by have:=eA.1 hz;simp only at this;grind
   rcases hs with hs | hs
   · exact gI.2 ⟨t,htm,hi x (hs x hx),hi y (hs y hy)⟩
   · exact gI.2 ⟨o,hom,hj x (hs x hx),hj y (hs y hy)⟩
 · rcases h with rfl | rfl
   · exact hX
   · exact fun k=>hX ⟨k.2,k.1⟩
 · by_cases ea : v = a
   · subst ea
     refine .inr (.inr ⟨b,.inl rfl,fun x y=>up v x y,fun x y=>?_⟩);rw [eN'];constructor
     · intro h
       have k : (x = p ∧ y = d) ∨ (x = e ∧ y = p) ∨ Nx R v x y:=by grind
       rcases k with ⟨rfl,rfl⟩ | ⟨rfl,rfl⟩ | k
       · exact ⟨b,y,(eN _ _ _).2 (.inl (.inl ⟨rfl,rfl,rfl⟩)),yJ.symm,(mE (Ne.symm h2)).symm⟩
       · exact ⟨x,b,(eN _ _ _).2 (.inr (.inl (.inr (.inl ⟨rfl,rfl,rfl⟩)))),(mE h6).symm,yJ.symm⟩
       · exact ⟨x,y,(eN _ _ _).2 (.inr (.inr k)),(mE (show x ≠ b from fun e=>r1 y (by rw [← e];exact k))).symm,(mE (show y ≠ b from fun e=>r7 x (by rw [← e];exact k))).symm⟩
     · rintro ⟨x1,y1,h,rfl,rfl⟩
       have k : (x1 = b ∧ y1 = d) ∨ (x1 = e ∧ y1 = b) ∨ Nx R v x1 y1:=by
        have:=(eN _ _ _).1 h
        grind
       rcases k with ⟨rfl,rfl⟩ | ⟨rfl,rfl⟩ | k
       · rw [yJ,mE (Ne.symm h2)];simp
       · rw [yJ,mE h6];simp
       · rw [mE (show x1 ≠ b from fun e=>r1 y1 (by rw [← e];exact k)),mE (show y1 ≠ b from fun e=>r7 x1 (by rw [← e];exact k))];simp [k]
   · by_cases eb : v = b
     · subst eb
       refine .inr (.inr ⟨a,.inr rfl,fun x y=>up v x y,fun x y=>?_⟩);rw [eN'];constructor
       · intro h
         have k : (x = p ∧ y = e) ∨ (x = d ∧ y = p) ∨ Nx R v x y:=by grind
         rcases k with ⟨rfl,rfl⟩ | ⟨rfl,rfl⟩ | k
         · exact ⟨a,y,(eN _ _ _).2 (.inr (.inl (.inl ⟨rfl,rfl,rfl⟩))),yJ.symm,(mE (Ne.symm h5)).symm⟩
         · exact ⟨x,a,(eN _ _ _).2 (.inl (.inr (.inl ⟨rfl,rfl,rfl⟩))),(mE h3).symm,yJ.symm⟩
         · exact ⟨x,y,(eN _ _ _).2 (.inr (.inr k)),(mE (show x ≠ a from fun e=>r4 y (by rw [← e];exact k))).symm,(mE (show y ≠ a from fun e=>r8 x (by rw [← e];exact k))).symm⟩
       · rintro ⟨x1,y1,h,rfl,rfl⟩
         have k : (x1 = a ∧ y1 = e) ∨ (x1 = d ∧ y1 = a) ∨ Nx R v x1 y1:=by
          have:=(eN _ _ _).1 h
          grind
         rcases k with ⟨rfl,rfl⟩ | ⟨rfl,rfl⟩ | k
         · rw [yJ,mE (Ne.symm h5)];simp
         · rw [yJ,mE h3];simp
         · rw [mE (show x1 ≠ a from fun e=>r4 y1 (by rw [← e];exact k)),mE (show y1 ≠ a from fun e=>r8 x1 (by rw [← e];exact k))];simp [k]
     · by_cases ed : v = d
       · subst ed
         refine .inr (.inl ⟨a,b,fun x y=>up v x y,(eN _ _ _).2 (.inl (.inr (.inr ⟨rfl,rfl,rfl⟩))),fun x y=>?_⟩);rw [eN',eN]
         grind
       · by_cases ee : v = e
         · subst ee
           refine .inr (.inl ⟨b,a,fun x y=>up v x y,(eN _ _ _).2 (.inr (.inl (.inr (.inr ⟨rfl,rfl,rfl⟩)))),fun x y=>?_⟩);rw [eN',eN]
           grind
         · refine .inl fun x y=>?_
           rw [eN',eN];simp [ea,eb,ed,ee,hv]
 · refine wT (N:=fun x y=>(x = b ∧ y = d) ∨ (x = d ∧ y = a) ∨ (x = a ∧ y = e) ∨ (x = e ∧ y = b)) (fun x y=>?_) age
   rw [eN'];have:=rp p x y;simp only[p1,p2,p3,p4,false_and,true_and,false_or,or_false,ne_eq,not_true_eq_false] at this ⊢
   grind
end Go.Lith
namespace Go.Lith
open Go.RowKit
structure Frm (l us : List T3) (ms : List Mv) (i : Nat) : Prop where
 pl : (ms.map (·.1)).Pairwise P3.Lt
 pt : ∀ m ∈ ms,∃ j,j < i ∧ qY j m.1
 to : ∀ m ∈ ms,m.2 ∈ aY l
 cs : ∀ x ∈ aY us,x ∈ aY l ∨ x ∈ ms.map (·.1)
 ic : ∀ m ∈ ms,m.1 ∈ aY us
theorem qZ.acc {l us : List T3} {i : Nat} {ms : List Mv} (h : qZ (aR l) l i us ms) (dg : lK l) (nd : (aP l).Nodup) (np : pK l) (pin : ∀ v,gZ (Nx l v)) (hfr : ∀ x ∈ aY l,∀ j p,j < i → qY j p → x ≠ p) :
 Bc l us (dP ms) ∧ Frm l us ms i:=by
 induction h with
 | nil=>exact ⟨Bc.refl dg nd np pin,⟨List.Pairwise.nil,fun m h=>(by cases h),fun m h=>(by cases h),fun x h=>.inl h,fun m h=>(by cases h)⟩⟩
 | @step i us us' ms ms' _ s ih =>
  obtain ⟨A,F⟩:=ih fun x hx j p hj=>hfr x hx j p (by omega);have far : ∀ p,qY i p → p ∉ ms.map (·.1) ∧ (∀ m ∈ ms,m.1.Lt p):=fun p hp=>by
   have k : ∀ m ∈ ms,m.1.x < p.x:=fun m hm=>by
    obtain ⟨j,hj,h1,h2,_⟩:=F.pt m hm;have:=hp.1;omega
   refine ⟨fun hm=>?_,fun m hm=>Or.inl (k m hm)⟩;obtain ⟨m,hm,e⟩:=List.mem_map.1 hm;have:=k m hm;rw [e] at this;omega
  have fresh : ∀ p,qY i p → ∀ u ∈ us,u.has p = false:=fun p hp u hu=>by
   cases hh : u.has p with
   | false=>rfl
   | true =>
    rcases F.cs p (kQ hu hh) with h | h
    · exact absurd rfl (hfr p h i p (by omega) hp)
    · exact absurd h (far p hp).1
  have fin : ∀ p a,qY i p → a ∈ aY us → Bc us us' (Be p a) → p ∈ aY us' → (∀ x ∈ aY us',x ∈ aY us ∨ x = p) → Bc l us' (dP (ms ++ [(p,dP ms a)])) ∧ Frm l us' (ms ++ [(p,dP ms a)]) (i + 1):=fun p a hp ha B hpc hcs=>by
   obtain ⟨f1,f2⟩:=far p hp;refine ⟨(A.trans B).congr fun x hx=>?_,?_,fun m hm=>?_,fun m hm=>?_,fun x hx=>?_,fun m hm=>?_⟩
   · by_cases e : x = p
     · rw [e];show dP ms (Be p a p) = _;rw [sO,acf f1]
     · show dP ms (Be p a x) = _;rw [iR e,ace e]
   · rw [List.map_append]
     refine List.pairwise_append.2 ⟨F.pl,List.pairwise_singleton _ _,fun x hx y hy=>?_⟩;obtain ⟨m,hm,rfl⟩:=List.mem_map.1 hx;obtain rfl:=List.mem_singleton.1 hy;exact f2 m hm
   · rcases List.mem_append.1 hm with hm | hm
     · obtain ⟨j,hj,h⟩:=F.pt m hm;exact ⟨j,by omega,h⟩
     · obtain rfl:=List.mem_singleton.1 hm;exact ⟨i,by omega,hp⟩
   · rcases List.mem_append.1 hm with hm | hm
     · exact F.to m hm
     · obtain rfl:=List.mem_singleton.1 hm;exact A.img a ha
   · rw [List.map_append,List.mem_append]
     rcases hcs x hx with h | rfl
     · exact (F.cs x h).imp_right .inl
     · exact .inr (.inr (List.mem_singleton_self _))
   · rcases List.mem_append.1 hm with hm | hm
     · exact B.sub _ (F.ic m hm)
     · obtain rfl:=List.mem_singleton.1 hm;exact hpc
  cases s with
  | tri k t c p ht hc hpt =>
   have hb:=iH ht (show (c + 1) % 3 < 3 by omega);have hd:=iH ht (show (c + 2) % 3 < 3 by omega);have ha:=iH ht hc;have B : Bc us (us.set k ⟨t.cor c,t.cor ((c + 1) % 3),p⟩ ++ [⟨t.cor ((c + 1) % 3),t.cor ((c + 2) % 3),p⟩,⟨t.cor ((c + 2) % 3),t.cor c,p⟩]) (Be p (t.cor c)):=by
    refine acm A.dg A.nd A.np A.pin (Ff t hc) (fresh p hpt) (Cg ht) ?_;exact ((yF ht).append_right _).trans ((List.perm_append_comm).trans (by
     show ([_,_] ++ _ :: _ : List T3).Perm _
     exact List.perm_middle (l₁:=[_,_])))
   refine fin p _ hpt ha B (nF.2 (.inr (by simp [aY]))) fun x hx=>?_;rcases nF.1 hx with hx | hx
   · rcases rA hx with hx | rfl | rfl | rfl
     · exact .inl hx
     · exact .inl ha
     · exact .inl hb
     · exact .inr rfl
   · simp only[aY,List.flatMap_cons,List.flatMap_nil,List.append_nil,List.mem_append,List.mem_cons,List.not_mem_nil,or_false] at hx
     rcases hx with (rfl | rfl | rfl) | rfl | rfl | rfl
     · exact .inl hb
     · exact .inl hd
     · exact .inr rfl
     · exact .inl hd
     · exact .inl ha
     · exact .inr rfl
  | edge k j t o x0 c p ht hc ho hxx hb0 hpt =>
   have ha:=iH ht hc;have hb:=iH ht (show (c + 1) % 3 < 3 by omega);have hd:=iH ht (show (c + 2) % 3 < 3 by omega);obtain ⟨c2,hc2,e2⟩:=Sv o (t.cor c) (t.cor ((c + 1) % 3));have he:=iH ho hc2;have hod:=A.dg o (List.mem_of_getElem? ho);have hto:=aaQ hxx;have hkj:=Wm A.dg ht ho (Ff t hc) hto;obtain ⟨R,g1,g2⟩:=Ic us k j t o hkj ht ho;have B : Bc us (((us.set k ⟨t.cor c,p,t.cor ((c + 2) % 3)⟩).set j ⟨t.cor ((c + 1) % 3),p,qA o (t.cor c) (t.cor ((c + 1) % 3))⟩) ++ [⟨p,t.cor ((c + 1) % 3),t.cor ((c + 2) % 3)⟩,⟨p,t.cor c,qA o (t.cor c) (t.cor ((c + 1) % 3))⟩]) (Be p (t.cor c)):=by
    rw [aev hto hod];refine aa0 A.dg A.nd A.np A.pin (Ff t hc) hto (fresh p hpt) g1 ?_ (by rw [A.rim];exact hb0);refine ((g2 _ _).append_right _).trans ?_;show (_ :: _ :: (R ++ [_,_]) : List T3).Perm _
    exact ((List.perm_append_comm).cons _).cons _
   refine fin p _ hpt ha B (nF.2 (.inr (by simp [aY]))) fun x hx=>?_;rw [e2] at hx;rcases nF.1 hx with hx | hx
   · rcases rA hx with hx | rfl | rfl | rfl
     · rcases rA hx with hx | rfl | rfl | rfl
       · exact .inl hx
       · exact .inl ha
       · exact .inr rfl
       · exact .inl hd
     · exact .inl hb
     · exact .inr rfl
     · exact .inl he
   · simp only[aY,List.flatMap_cons,List.flatMap_nil,List.append_nil,List.mem_append,List.mem_cons,List.not_mem_nil,or_false] at hx
     rcases hx with (rfl | rfl | rfl) | rfl | rfl | rfl
     · exact .inr rfl
     · exact .inl hb
     · exact .inl hd
     · exact .inr rfl
     · exact .inl ha
     · exact .inl he
/-! ### The ends of fans -/
theorem aey {ts : List T3} {v a : P3} (dg : lK ts) (nd : (aP ts).Nodup) (hb : nE ts (v,a)) : ∃ z,yI (Nx ts v) a z:=by
 have key : ∀ n,(∃ x,kM ts v n a = some x) ∨ ∃ z,yI (Nx ts v) a z:=by
  intro n
  induction n with
  | zero=>exact .inl ⟨a,rfl⟩
  | succ n ih =>
   rcases ih with ⟨x,hx⟩ | h
   · cases hn : bD ts v x with
     | none=>exact .inr ⟨x,(Fi nd).2 ⟨n,hx⟩,fun y hy=>by rw [(sI nd).1 hy] at hn;cases hn⟩
     | some y=>exact .inl ⟨y,by rw [kN,hx,Option.bind_some,hn]⟩
   · exact .inr h
 rcases key (ts.length + 1) with ⟨x,hx⟩ | h
 · have:=Jw dg nd hb.2 hx
   omega
 · exact h
theorem Th {ts : List T3} {v a z : P3} (dg : lK ts) (nd : (aP ts).Nodup) (hb : nE ts (v,a)) (h : yI (Nx ts v) a z) : Jv ts v ts.length a = z:=by
 obtain ⟨i,hi⟩:=(Fi nd).1 h.1;refine Qd i ts.length a z (Jw dg nd hb.2 hi) hi ?_;cases hn : bD ts v z with
 | none=>rfl
 | some y=>exact absurd ((sI nd).2 hn) (h.2 y)
/-! ### Accepted -/
theorem Wt {K : Type} [DecidableEq K] {ks js : List K} (h : ks.Perm js) (a : K) : lN ks a = lN js a:=(h.filter _).length_eq
structure Mvs (l us : List T3) (ms : List Mv) : Prop where
 pl : (ms.map (·.1)).Pairwise P3.Lt
 ic : ∀ m ∈ ms,m.1 ∈ aY us
 nl : ∀ m ∈ ms,m.1 ∉ aY l
 to : ∀ m ∈ ms,m.2 ∈ aY l
theorem Re {l us : List T3} {ms : List Mv} (A : Bc l us (dP ms)) (M : Mvs l us ms) (dg : lK l) (nd : (aP l).Nodup) (pin : ∀ v,gZ (Nx l v)) {n : Int} (hm : kP ms 0 = some n) : iK us l ms = (n,0):=by
 have c1 : cV true us = 0:=pL.2 ⟨A.dg,A.nd,A.pin⟩;have c2 : cV true l = 0:=pL.2 ⟨dg,nd,pin⟩;have hj : nP us l (aR us) = false:=by
  unfold nP;rw [List.any_eq_false];intro e he k;simp only[Bool.and_eq_true,Bool.not_eq_true'] at k;obtain ⟨⟨k1,k2⟩,k3⟩:=k;rw [A.rim] at k1 k2;rw [Ek (A.keep e he k1 k2)] at k3;cases k3
 have hf : uC us l (aR us) = true:=by
  unfold uC;rw [List.all_eq_true];intro e he;obtain ⟨v,a⟩:=e;have b1 : nE us (v,a):=yG.1 he;have b2 : nE l (v,a):=(A.bd _).1 b1;obtain ⟨z,hz⟩:=aey dg nd b2;exact decide_eq_true ((Th A.dg A.nd b1 (A.fan v a z b2 hz)).trans (Th dg nd b2 hz).symm)
 have hmv : nQ us l ms (aR us) = true:=sC.2 fun i m him=>by
  have hmem:=List.mem_of_getElem? him;have r1 : (decide (i = 0) || (ms[i - 1]?).any fun k=>decide (k.1.Lt m.1)) = true:=by
   cases i with
   | zero=>rfl
   | succ i =>
    have hl:=(List.getElem?_eq_some_iff.1 him).1;have h1 : ms[i]? = some ms[i]:=List.getElem?_eq_getElem (by omega);have h2:=List.pairwise_iff_getElem.1 M.pl i (i + 1) (by rw [List.length_map];omega) (by rw [List.length_map];omega) (by omega);rw [List.getElem_map,List.getElem_map] at h2;rw [Nat.add_sub_cancel,h1,← (List.getElem?_eq_some_iff.1 him).2];simp [h2]
  have r2 : pA us m.1 = true:=uD.2 (M.ic m hmem);have r3 : pA l m.2 = true:=uD.2 (M.to m hmem);have r4 : pA us m.2 = true:=uD.2 (A.sub _ (M.to m hmem));have r5 : (ms.all fun k=>decide (k.1 ≠ m.2)) = true:=List.all_eq_true.2 fun k hk=>decide_eq_true fun e=>M.nl k hk (e ▸ M.to m hmem);have r6 : uB (aR us) m.1 = false:=by
   cases hh : uB (aR us) m.1 with
   | false=>rfl
   | true=>rw [A.rim] at hh;exact absurd (Mw hh) (M.nl m hmem)
  rw [pJ,r1,r2,r3,r4,r5,r6];rfl
 have hcv : nR us l ms = true:=by
  have hit:=A.hit;rw [← Td] at hit;unfold nR;rw [Bool.and_eq_true,List.all_eq_true,List.all_eq_true];refine ⟨fun t ht=>?_,fun u hu=>decide_eq_true ?_⟩
  · cases hn : (t.img ms).nd with
    | true =>
     refine (En hn).2 (hit.mem_iff.1 ?_);exact List.mem_map.2 ⟨t,List.mem_filter.2 ⟨ht,hn⟩,rfl⟩
    | false =>
     have h1 : t.has t.a = true:=eA.2 (.inl rfl);have h2 : t.has t.b = true:=eA.2 (.inr (.inl rfl));have h3 : t.has t.c = true:=eA.2 (.inr (.inr rfl));exact (wM hn).2 ⟨A.pair t ht _ _ h1 h2,A.pair t ht _ _ h2 h3⟩
  · rw [yA,Wt hit]
    have h1:=wN (Hy nd) (eD u);have h2:=uE.2 (List.mem_map.2 ⟨u,hu,rfl⟩ : eD u ∈ l.map eD);omega
 rw [iK,if_neg (fun k=>k c1),if_neg (fun k=>k c2),if_neg (fun k=>k A.rim),if_neg (by rw [hj,hf];simp),if_neg (by rw [hmv];simp),if_neg (by rw [hcv];simp),hm]
end Go.Lith
namespace Go.Lith
open Go.RowKit
def P3.sh (p v : P3) : P3:=⟨p.x + v.x,p.y + v.y,p.z + v.z⟩
def T3.sh (v : P3) (t : T3) : T3:=⟨t.a.sh v,t.b.sh v,t.c.sh v⟩
end Go.Lith
namespace Go.Lith
open Go.RowKit
structure Bf (g gi : P3 → P3) : Prop where
 l : ∀ x,gi (g x) = x
 r : ∀ x,g (gi x) = x
 lt : ∀ x y,(g x).Lt (g y) ↔ x.Lt y
theorem Bf.inj {g gi : P3 → P3} (h : Bf g gi) {x y : P3} (e : g x = g y) : x = y:=by rw [← h.l x,← h.l y,e]
theorem Bf.Inj {g gi : P3 → P3} (h : Bf g gi) : Inj g fun _=>True:=fun _ _ _ _ e=>h.inj e
theorem agy {ts : List T3} : InS (fun _=>True) ts:=fun _ _=>⟨trivial,trivial,trivial⟩
section
variable {g gi : P3 → P3} {ts us l : List T3} {f : P3 → P3}
theorem Am (h : Bf g gi) {e : E3} : e ∈ aP (ts.map (T3.mapP g)) ↔ (gi e.1,gi e.2) ∈ aP ts:=by
 have : e = Nm g (gi e.1,gi e.2):=Prod.ext (h.r _).symm (h.r _).symm;rw [this,aaU h.Inj agy ⟨trivial,trivial⟩];simp only[Nm,h.r,h.l]
theorem uJ (h : Bf g gi) {v x y : P3} : Nx (ts.map (T3.mapP g)) v x y ↔ Nx ts (gi v) (gi x) (gi y):=by
 show ((v,x),y) ∈ dS _ ↔ ((gi v,gi x),gi y) ∈ dS _
 rw [gS,gS];have k : ∀ a b : P3,a = g b ↔ gi a = b:=fun a b=>⟨fun e=>by rw [e,h.l],fun e=>by rw [← e,h.r]⟩
 constructor
 · rintro ⟨t,ht,hx⟩
   obtain ⟨u,hu,rfl⟩:=List.mem_map.1 ht;refine ⟨u,hu,?_⟩;rw [yK] at hx ⊢;simp only[T3.mapP,k] at hx;exact hx
 · rintro ⟨u,hu,hx⟩
   refine ⟨u.mapP g,List.mem_map.2 ⟨u,hu,rfl⟩,?_⟩;rw [yK] at hx ⊢;simp only[T3.mapP,k];exact hx
theorem nG (h : Bf g gi) {x : P3} : x ∈ aY (ts.map (T3.mapP g)) ↔ gi x ∈ aY ts:=by
 rw [Wo,List.mem_map];exact ⟨fun ⟨y,hy,e⟩=>by rw [← e,h.l];exact hy,fun hx=>⟨_,hx,h.r x⟩⟩
theorem rB (h : Bf g gi) {e : E3} : nE (ts.map (T3.mapP g)) e ↔ nE ts (gi e.1,gi e.2):=by
 unfold nE;rw [Am h,Am h]
theorem Ns {ts : List T3} {p : P3} : uB (aR ts) p = true ↔ ∃ e,nE ts e ∧ (e.1 = p ∨ e.2 = p):=by
 unfold uB;rw [List.any_eq_true];refine exists_congr fun e=>and_congr yG ?_;simp
theorem Nt (h : Bf g gi) {p : P3} : uB (aR (ts.map (T3.mapP g))) p = true ↔ uB (aR ts) (gi p) = true:=by
 rw [Ns,Ns];constructor
 · rintro ⟨e,he,hp⟩
   exact ⟨_,(rB h).1 he,hp.imp (fun k=>by rw [k]) fun k=>by rw [k]⟩
 · rintro ⟨e,he,hp⟩
   refine ⟨Nm g e,(rB h).2 (by simpa only [Nm,h.l] using he),?_⟩;rcases hp with k | k
   · exact .inl (by show g e.1 = p;rw [k,h.r])
   · exact .inr (by show g e.2 = p;rw [k,h.r])
theorem Fo {N N' : P3 → P3 → Prop} (h : Bf g gi) (e : ∀ x y,N' x y ↔ N (gi x) (gi y)) {a b : P3} : rD N' a b ↔ rD N (gi a) (gi b):=by
 constructor
 · intro r
   induction r with
   | refl=>exact .refl _
   | tail _ s ih=>exact .tail ih ((e _ _).1 s)
 · have key : ∀ c d,rD N c d → rD N' (g c) (g d):=fun c d r=>by
    induction r with
    | refl=>exact .refl _
    | tail _ s ih=>exact .tail ih ((e _ _).2 (by rw [h.l,h.l];exact s))
   intro r;have:=key _ _ r;rwa [h.r,h.r] at this
theorem Rf {N N' : P3 → P3 → Prop} (h : Bf g gi) (e : ∀ x y,N' x y ↔ N (gi x) (gi y)) (hN : gZ N) : gZ N':=by
 rintro s ⟨y,hy,hr⟩ x z hx;exact (Fo h e).2 (hN _ ⟨_,(e _ _).1 hy,(Fo h e).1 hr⟩ _ _ ((e _ _).1 hx))
theorem Nu {N N' : P3 → P3 → Prop} (h : Bf g gi) (e : ∀ x y,N' x y ↔ N (gi x) (gi y)) {a z : P3} : yI N' a z ↔ yI N (gi a) (gi z):=by
 unfold yI;rw [Fo h e];refine and_congr Iff.rfl ⟨fun k y hy=>k (g y) ((e _ _).2 (by rw [h.l];exact hy)),fun k y hy=>k _ ((e _ _).1 hy)⟩
theorem Nv (h : Bf g gi) (t : T3) : eD (t.mapP g) = (eD t).mapP g:=by
 unfold eD;simp only[T3.mapP,h.lt];split
 · rfl
 · split <;> rfl
theorem acn (h : Bf g gi) (t : T3) : (t.mapP g).nd = t.nd:=by
 cases e : t.nd with
 | false=>exact Tc e
 | true =>
  obtain ⟨h1,h2,h3⟩:=sJ.1 e;exact sJ.2 ⟨fun k=>h1 (h.inj k),fun k=>h2 (h.inj k),fun k=>h3 (h.inj k)⟩
theorem Il (h : Bf g gi) (f : P3 → P3) : ∀ us : List T3,oD (fun x=>g (f (gi x))) (us.map (T3.mapP g)) = (oD f us).map (T3.mapP g)
 | []=>rfl
 | t :: us=>by
  have ih:=Il h f us;unfold oD at ih ⊢;rw [List.map_cons,List.flatMap_cons,List.flatMap_cons,List.map_append,ih]
  congr 1
  have e : (t.mapP g).mapP (fun x=>g (f (gi x))) = (t.mapP f).mapP g:=by simp only[T3.mapP,h.l]
  unfold hF;rw [e,acn h];cases (t.mapP f).nd with
  | true=>simp only[if_true,List.map_cons,List.map_nil,Nv h]
  | false=>rfl
theorem rC (h : Bf g gi) {t : T3} {x : P3} : (t.mapP g).has x = true ↔ t.has (gi x) = true:=by
 have k : ∀ a b : P3,a = g b ↔ gi a = b:=fun a b=>⟨fun e=>by rw [e,h.l],fun e=>by rw [← e,h.r]⟩
 rw [eA,eA];simp only[T3.mapP,k]
theorem Wu (h : Bf g gi) {x y : P3} : oC (ts.map (T3.mapP g)) x y = true ↔ oC ts (gi x) (gi y) = true:=by
 rw [gI,gI];constructor
 · rintro ⟨t,ht,h1,h2⟩
   obtain ⟨u,hu,rfl⟩:=List.mem_map.1 ht;exact ⟨u,hu,(rC h).1 h1,(rC h).1 h2⟩
 · rintro ⟨u,hu,h1,h2⟩
   exact ⟨_,List.mem_map.2 ⟨u,hu,rfl⟩,(rC h).2 h1,(rC h).2 h2⟩
theorem Ti (h : Bf g gi) (hd : lK ts) : lK (ts.map (T3.mapP g)):=fun t ht=>by
 obtain ⟨u,hu,rfl⟩:=List.mem_map.1 ht;rw [aaV h.Inj ⟨trivial,trivial,trivial⟩];exact hd u hu
theorem Tj (h : Bf g gi) (hn : (aP ts).Nodup) : (aP (ts.map (T3.mapP g))).Nodup:=by
 rw [Fh,List.Nodup,List.pairwise_map];exact hn.imp fun hne e=>hne (Nn h.Inj ⟨trivial,trivial⟩ ⟨trivial,trivial⟩ e)
theorem Tk (h : Bf g gi) (hp : pK ts) : pK (ts.map (T3.mapP g)):=fun a b x h1 h2=>hp _ _ _ ((uJ h (v:=a) (x:=b) (y:=x)).1 h1) ((uJ h (v:=b) (x:=a) (y:=x)).1 h2)
theorem Nw (h : Bf g gi) (hp : ∀ v,gZ (Nx ts v)) : ∀ v,gZ (Nx (ts.map (T3.mapP g)) v):=fun v=>Rf h (fun _ _=>uJ h) (hp (gi v))
theorem Bc.mapP (h : Bf g gi) (A : Bc l us f) : Bc (l.map (T3.mapP g)) (us.map (T3.mapP g)) (fun x=>g (f (gi x))):=by
 refine ⟨Ti h A.dg,Tj h A.nd,Tk h A.np,Nw h A.pin,fun e=>?_,fun x hx=>?_,fun x hx=>?_,fun x hx=>?_,?_,fun t ht x y hx hy=>?_,fun e he h1 h2=>?_,fun v a z hb hf=>?_⟩
 · rw [rB h,rB h];exact A.bd _
 · rw [nG h] at hx ⊢;exact A.sub _ hx
 · rw [nG h] at hx;show g (f (gi x)) = x;rw [A.fix _ hx,h.r]
 · rw [nG h] at hx ⊢;rw [h.l];exact A.img _ hx
 · rw [Il h]
   have:=A.hit.map (T3.mapP g);rw [List.map_map] at this;rw [List.map_map];have e : (eD ∘ T3.mapP g) = (T3.mapP g ∘ eD):=funext fun t=>Nv h t;rw [e];exact this
 · obtain ⟨u,hu,rfl⟩:=List.mem_map.1 ht
   rw [Wu h,h.l,h.l];exact A.pair u hu _ _ ((rC h).1 hx) ((rC h).1 hy)
 · rw [Am h] at he ⊢
   exact A.keep _ he ((Nt h).1 h1) ((Nt h).1 h2)
 · have e1 : ∀ x y,Nx (us.map (T3.mapP g)) v x y ↔ Nx us (gi v) (gi x) (gi y):=fun _ _=>uJ h
   have e2 : ∀ x y,Nx (l.map (T3.mapP g)) v x y ↔ Nx l (gi v) (gi x) (gi y):=fun _ _=>uJ h;exact (Nu h e1).2 (A.fan _ _ _ ((rB h).1 hb) ((Nu h e2).1 hf))
end
/-! ### Moves,one after the other -/
theorem aa1 (xs ys : List Mv) (x : P3) : dP (xs ++ ys) x = if x ∈ xs.map (·.1) then dP xs x else dP ys x:=by
 induction xs with
 | nil=>simp
 | cons m xs ih =>
  rw [List.cons_append,dP,dP,ih];by_cases e : m.1 = x
  · rw [if_pos e,if_pos e,if_pos (by rw [← e];simp)]
  · rw [if_neg e,if_neg e]
    by_cases k : x ∈ xs.map (·.1)
    · rw [if_pos k,List.map_cons,if_pos (List.mem_cons_of_mem _ k)]
    · rw [if_neg k,List.map_cons,if_neg (fun q=>(List.mem_cons.1 q).elim (fun q=>e q.symm) k)]
theorem Ny (h : P3 → P3) (x : P3) : ∀ xs : List Mv,dP (xs.map fun m=>(m.1,h m.2)) x = if x ∈ xs.map (·.1) then h (dP xs x) else x
 | []=>by simp [dP]
 | m :: xs=>by
  rw [List.map_cons,dP,dP,Ny h x xs];by_cases e : m.1 = x
  · rw [if_pos e,if_pos e,if_pos (by rw [← e];simp)]
  · rw [if_neg e,if_neg e]
    by_cases k : x ∈ xs.map (·.1)
    · rw [if_pos k,List.map_cons,if_pos (List.mem_cons_of_mem _ k)]
    · rw [if_neg k,List.map_cons,if_neg (fun q=>(List.mem_cons.1 q).elim (fun q=>e q.symm) k)]
theorem Nz {g gi : P3 → P3} (hg : Bf g gi) (x : P3) : ∀ xs : List Mv,dP (xs.map fun m=>(g m.1,g m.2)) x = g (dP xs (gi x))
 | []=>(hg.r x).symm
 | m :: xs=>by
  rw [List.map_cons,dP,dP,Nz hg x xs];by_cases e : g m.1 = x
  · rw [if_pos e,if_pos (by rw [← e,hg.l])]
  · rw [if_neg e,if_neg (fun k=>e (by rw [k,hg.r]))]
def uK (back first : List Mv) : List Mv:=back.map (fun m=>(m.1,dP first m.2)) ++ first
theorem Wv (back first : List Mv) (x : P3) : dP (uK back first) x = dP first (dP back x):=by
 unfold uK;rw [aa1,List.map_map];show (if x ∈ back.map (·.1) then _ else _) = _
 by_cases h : x ∈ back.map (·.1)
 · rw [if_pos h,Ny,if_pos h]
 · rw [if_neg h,Qw h]
/-! ### How far -/
theorem aa2 {n m : Nat} (h : n ≤ m * m) : (dG n + if dG n * dG n = n then 0 else 1) ≤ m:=by
 obtain ⟨h1,h2⟩:=oP n;by_cases e : dG n * dG n = n
 · rw [if_pos e]
   refine Nat.le_of_not_lt fun k=>?_;have : (m + 1) * (m + 1) ≤ dG n * dG n:=Nat.mul_le_mul k k;have e2 : (m + 1) * (m + 1) = m * m + 2 * m + 1:=by grind
   omega
 · rw [if_neg e]
   refine Nat.le_of_not_lt fun k=>?_;have : m * m ≤ dG n * dG n:=Nat.mul_le_mul (by omega) (by omega);omega
theorem Tl (n : Nat) : n ≤ (dG n + if dG n * dG n = n then 0 else 1) * (dG n + if dG n * dG n = n then 0 else 1):=by
 obtain ⟨h1,h2⟩:=oP n;by_cases e : dG n * dG n = n
 · rw [if_pos e];simp [e]
 · rw [if_neg e];omega
def nH (p q : P3) : Nat:=dG (kO p q) + if dG (kO p q) * dG (kO p q) = kO p q then 0 else 1
theorem Tm (p q : P3) : pX p q = (nH p q : Int):=by
 unfold pX nH;split <;> simp
theorem yL (p q : P3) : ((kO p q : Nat) : Int) = (q.x - p.x) * (q.x - p.x) + ((q.y - p.y) * (q.y - p.y) + (q.z - p.z) * (q.z - p.z)):=by
 have h:=Yi (q.sub p);unfold kO;have e : (q.sub p).dot (q.sub p) = (q.x - p.x) * (q.x - p.x) + ((q.y - p.y) * (q.y - p.y) + (q.z - p.z) * (q.z - p.z)):=by simp only[P3.sub,P3.dot,Int.add_assoc]
 rw [← e];omega
theorem aco {a b : Int} (hb : 0 ≤ b) (h : a * a ≤ b * b) : a ≤ b:=by
 refine Int.le_of_not_gt fun k=>?_;have : b * b < a * a:=Int.mul_self_lt_mul_self hb k;omega
theorem acp {a b c d e f m k : Int} (hm : 0 ≤ m) (hk : 0 ≤ k) (h1 : a * a + (b * b + c * c) ≤ m * m) (h2 : d * d + (e * e + f * f) ≤ k * k) : (a + d) * (a + d) + ((b + e) * (b + e) + (c + f) * (c + f)) ≤ (m + k) * (m + k):=by
 have sq : ∀ x : Int,0 ≤ x * x:=fun x=>by
  rcases Int.le_total 0 x with h | h
  · exact Int.mul_nonneg h h
  · exact Int.mul_nonneg_of_nonpos_of_nonpos h h
 have hU : 0 ≤ a * a + (b * b + c * c):=Int.add_nonneg (sq a) (Int.add_nonneg (sq b) (sq c));have hV : 0 ≤ d * d + (e * e + f * f):=Int.add_nonneg (sq d) (Int.add_nonneg (sq e) (sq f));have hmk : 0 ≤ m * k:=Int.mul_nonneg hm hk;have cs : (a * d + (b * e + c * f)) * (a * d + (b * e + c * f)) ≤ (m * k) * (m * k):=by
  have id1 : (a * a + (b * b + c * c)) * (d * d + (e * e + f * f)) = (a * d + (b * e + c * f)) * (a * d + (b * e + c * f)) + ((a * e - b * d) * (a * e - b * d) + ((a * f - c * d) * (a * f - c * d) + (b * f - c * e) * (b * f - c * e))):=by grind
  have s1:=sq (a * e - b * d);have s2:=sq (a * f - c * d);have s3:=sq (b * f - c * e);have h3 : (a * a + (b * b + c * c)) * (d * d + (e * e + f * f)) ≤ (m * m) * (k * k):=Int.mul_le_mul h1 h2 hV (sq m);have h4 : (m * m) * (k * k) = (m * k) * (m * k):=by grind
  omega
 have h5 : a * d + (b * e + c * f) ≤ m * k:=aco hmk cs;have h6 : (a + d) * (a + d) + ((b + e) * (b + e) + (c + f) * (c + f)) = (a * a + (b * b + c * c)) + (d * d + (e * e + f * f)) + 2 * (a * d + (b * e + c * f)):=by grind
 have h7 : (m + k) * (m + k) = m * m + k * k + 2 * (m * k):=by grind
 omega
theorem acq (p q r : P3) : nH p r ≤ nH p q + nH q r:=by
 refine aa2 ?_;have h1:=Tl (kO p q);have h2:=Tl (kO q r);have e1 : ((kO p q : Nat) : Int) ≤ (nH p q : Int) * (nH p q : Int):=by exact_mod_cast h1
 have e2 : ((kO q r : Nat) : Int) ≤ (nH q r : Int) * (nH q r : Int):=by exact_mod_cast h2
 have n1 : (0 : Int) ≤ (nH p q : Int):=Int.natCast_nonneg _;have n2 : (0 : Int) ≤ (nH q r : Int):=Int.natCast_nonneg _;rw [yL] at e1 e2;have e3 : ((kO p r : Nat) : Int) ≤ ((nH p q : Int) + (nH q r : Int)) * ((nH p q : Int) + (nH q r : Int)):=by
  rw [yL];have:=acp n1 n2 e1 e2;have x1 : q.x - p.x + (r.x - q.x) = r.x - p.x:=by omega
  have x2 : q.y - p.y + (r.y - q.y) = r.y - p.y:=by omega
  have x3 : q.z - p.z + (r.z - q.z) = r.z - p.z:=by omega
  rw [x1,x2,x3] at this;exact this
 exact_mod_cast e3
/-! ### The greatest distance -/
def mxM : List Mv → Nat → Nat
 | [],n=>n
 | m :: ms,n=>mxM ms (max n (nH m.1 m.2))
theorem Rg : ∀ (ms : List Mv) (n : Nat),n ≤ mxM ms n ∧ ∀ m ∈ ms,nH m.1 m.2 ≤ mxM ms n
 | [],n=>⟨Nat.le_refl _,fun m h=>by cases h⟩
 | m :: ms,n=>by
  obtain ⟨h1,h2⟩:=Rg ms (max n (nH m.1 m.2));refine ⟨Nat.le_trans (Nat.le_max_left _ _) h1,fun k hk=>?_⟩;rcases List.mem_cons.1 hk with rfl | hk
  · exact Nat.le_trans (Nat.le_max_right _ _) h1
  · exact h2 k hk
theorem Kl : ∀ (ms : List Mv) (n c : Nat),n ≤ c → (∀ m ∈ ms,nH m.1 m.2 ≤ c) → mxM ms n ≤ c
 | [],n,c,h,_=>h
 | m :: ms,n,c,h,k=>Kl ms _ c (Nat.max_le.2 ⟨h,k m (List.mem_cons_self ..)⟩) fun q hq=>k q (List.mem_cons_of_mem _ hq)
theorem yM : ∀ (ms : List Mv) (n : Nat),(∀ m ∈ ms,nJ (pX m.1 m.2)) → kP ms (n : Int) = some ((mxM ms n : Nat) : Int)
 | [],n,_=>rfl
 | m :: ms,n,h=>by
  rw [kP,if_pos (h m (List.mem_cons_self ..)),Tm];have : max (n : Int) (nH m.1 m.2 : Int) = ((max n (nH m.1 m.2) : Nat) : Int):=by omega
  rw [this,yM ms _ fun q hq=>h q (List.mem_cons_of_mem _ hq)];rfl
theorem An {p q : P3} (hp : Fs p) (hq : Fs q) : nH p q ≤ 12000000:=by
 have h0:=yL p q;obtain ⟨a1,a2,a3,a4,a5,a6⟩:=hp;obtain ⟨b1,b2,b3,b4,b5,b6⟩:=hq;have k : ∀ x y : Int,-2000000 ≤ x → x ≤ 2000000 → -2000000 ≤ y → y ≤ 2000000 → (y - x) * (y - x) ≤ 4000000 * 4000000:=fun x y h1 h2 h3 h4=>by
  rcases Int.le_total 0 (y - x) with h | h
  · exact Int.mul_le_mul (by omega) (by omega) h (by omega)
  · have : (y - x) * (y - x) = (x - y) * (x - y):=by grind
    rw [this];exact Int.mul_le_mul (by omega) (by omega) (by omega) (by omega)
 have k1:=k p.x q.x (by omega) (by omega) (by omega) (by omega);have k2:=k p.y q.y (by omega) (by omega) (by omega) (by omega);have k3:=k p.z q.z (by omega) (by omega) (by omega) (by omega);exact aa2 (by omega)
theorem Km {p q : P3} (hp : Fs p) (hq : Fs q) : nJ (pX p q):=by
 have h1:=An hp hq;rw [Tm];exact ⟨by omega,by omega⟩
end Go.Lith
namespace Go.Lith
open Go.RowKit
def v3 : P3:=⟨3000,0,0⟩
def vE : P3:=⟨-3000,0,0⟩
theorem aa3 {v u : P3} (hx : v.x + u.x = 0) (hy : v.y + u.y = 0) (hz : v.z + u.z = 0) : Bf (fun p=>p.sh v) (fun p=>p.sh u) where
 l p:=P3.eq (by simp only[P3.sh];omega) (by simp only[P3.sh];omega) (by simp only[P3.sh];omega)
 r p:=P3.eq (by simp only[P3.sh];omega) (by simp only[P3.sh];omega) (by simp only[P3.sh];omega)
 lt p q:=by unfold P3.Lt P3.sh;simp only;omega
theorem sP : Bf (fun p=>p.sh v3) (fun p=>p.sh vE):=aa3 rfl rfl rfl
theorem Oa : Bf (fun p=>p.sh vE) (fun p=>p.sh v3):=aa3 rfl rfl rfl
theorem Rh (x : P3) : ∀ ms : List Mv,dP ms x = x ∨ (x,dP ms x) ∈ ms
 | []=>.inl rfl
 | m :: ms=>by
  rw [dP];by_cases e : m.1 = x
  · rw [if_pos e];exact .inr (by rw [← e];exact List.mem_cons_self ..)
  · rw [if_neg e];exact (Rh x ms).imp_right (List.mem_cons_of_mem _)
theorem Ww (x : P3) : nH x x = 0:=by
 have h:=yL x x;have : kO x x = 0:=by
  have e : ∀ a : Int,(a - a) * (a - a) = 0:=fun a=>by rw [Int.sub_self];rfl
  rw [e,e,e] at h;omega
 unfold nH;rw [this];rfl
attribute [local irreducible] nH mxM iK
theorem Wx {l mid fine' : List T3} {ms1 ms2 : List Mv} {i1 i2 : Nat} (h1 : qZ (aR l) l i1 mid ms1) (hi1 : i1 ≤ 12) (h2 : qZ (aR (mid.map (T3.sh v3))) (mid.map (T3.sh v3)) i2 fine' ms2) (hi2 : i2 ≤ 12)
 (hc : cV true l = 0) (np : pK l) (h0 : ∀ x ∈ aY l,0 ≤ x.x ∧ x.x < 100) (hM : ∀ x ∈ aY l,Fs x) :
 ∃ a b c : Nat,iK mid l ms1 = ((a : Int),0) ∧ iK (fine'.map (T3.sh vE)) mid (ms2.map fun m=>(m.1.sh vE,m.2.sh vE)) = ((b : Int),0) ∧
  iK (fine'.map (T3.sh vE)) l (uK (ms2.map fun m=>(m.1.sh vE,m.2.sh vE)) ms1) = ((c : Int),0) ∧ c ≤ a + b ∧ a ≤ 12000000 ∧ b ≤ 12000000:=by
 obtain ⟨dg,nd,pin⟩:=pL.1 hc;have fr1 : ∀ x ∈ aY l,∀ j p,j < i1 → qY j p → x ≠ p:=fun x hx j p _ hp e=>by
  have:=(h0 x hx).2;have:=hp.1;rw [← e] at this;omega
 obtain ⟨A1,F1⟩:=h1.acc dg nd np pin fr1;have m1 : ∀ x ∈ aY mid,0 ≤ x.x ∧ Fs x:=fun x hx=>by
  rcases F1.cs x hx with h | h
  · exact ⟨(h0 x h).1,hM x h⟩
  · obtain ⟨m,hm,rfl⟩:=List.mem_map.1 h
    obtain ⟨j,hj,k1,k2,k3,k4,k5,k6⟩:=F1.pt m hm;exact ⟨by omega,⟨by omega,by omega,by omega,by omega,by omega,by omega⟩⟩
 have em : mid.map (T3.sh v3) = mid.map (T3.mapP fun p=>p.sh v3):=rfl;have ef : fine'.map (T3.sh vE) = fine'.map (T3.mapP fun p=>p.sh vE):=rfl;rw [em] at h2;rw [ef];have fr2 : ∀ x ∈ aY (mid.map (T3.mapP fun p=>p.sh v3)),∀ j p,j < i2 → qY j p → x ≠ p:=fun x hx j p hj hp e=>by
  have k:=(m1 _ ((nG sP).1 hx)).1;have k2:=hp.2.1;rw [← e] at k2;simp only[P3.sh,vE] at k;omega
 obtain ⟨A2',F2⟩:=h2.acc (Ti sP A1.dg) (Tj sP A1.nd) (Tk sP A1.np) (Nw sP A1.pin) fr2;have A2'':=A2'.mapP Oa;have eb : (mid.map (T3.mapP fun p=>p.sh v3)).map (T3.mapP fun p=>p.sh vE) = mid:=by
  rw [List.map_map];have : (T3.mapP fun p=>p.sh vE) ∘ (T3.mapP fun p=>p.sh v3) = id:=funext fun t=>Jy (sP.l t.a) (sP.l t.b) (sP.l t.c);rw [this,List.map_id]
 rw [eb] at A2'';obtain ⟨back,hback⟩ : ∃ back,back = ms2.map fun m=>(m.1.sh vE,m.2.sh vE):=⟨_,rfl⟩
 obtain ⟨fine,hfine⟩ : ∃ fine,fine = fine'.map (T3.mapP fun p=>p.sh vE):=⟨_,rfl⟩
 rw [← hback,← hfine];rw [← hfine] at A2'';have A2 : Bc mid fine (dP back):=A2''.congr fun x _=>by rw [hback];exact (Nz Oa x ms2).symm
 have bk : ∀ m ∈ back,∃ q ∈ ms2,m.1 = q.1.sh vE ∧ m.2 = q.2.sh vE:=fun m hm=>by
  rw [hback] at hm;obtain ⟨q,hq,rfl⟩:=List.mem_map.1 hm;exact ⟨q,hq,rfl,rfl⟩
 have bx : ∀ m ∈ back,m.1.x < 0:=fun m hm=>by
  obtain ⟨q,hq,e,_⟩:=bk m hm;obtain ⟨j,hj,k1,k2,_⟩:=F2.pt q hq;rw [e];simp only[P3.sh,vE];omega
 have fm : ∀ x ∈ aY fine,Fs x:=fun x hx=>by
  rw [hfine,nG Oa] at hx;rcases F2.cs _ hx with h | h
  · have:=(m1 _ ((nG sP).1 h)).2
    rwa [sP.l] at this
  · obtain ⟨m,hm,e⟩:=List.mem_map.1 h
    obtain ⟨j,hj,k1,k2,k3,k4,k5,k6⟩:=F2.pt m hm;have e1:=congrArg P3.x e;have e2:=congrArg P3.y e;have e3:=congrArg P3.z e;simp only[P3.sh,v3] at e1 e2 e3;exact ⟨by omega,by omega,by omega,by omega,by omega,by omega⟩
 have M1 : Mvs l mid ms1:=⟨F1.pl,F1.ic,fun m hm k=>by
  obtain ⟨j,hj,hp⟩:=F1.pt m hm;exact fr1 _ k j _ hj hp rfl,F1.to⟩
 have bnl : ∀ m ∈ back,m.1 ∉ aY mid:=fun m hm k=>by
  have:=bx m hm;have:=(m1 _ k).1;omega
 have bic : ∀ m ∈ back,m.1 ∈ aY fine:=fun m hm=>by
  obtain ⟨q,hq,e,_⟩:=bk m hm;rw [e,hfine,nG Oa,sP.r];exact F2.ic q hq
 have bto : ∀ m ∈ back,m.2 ∈ aY mid:=fun m hm=>by
  obtain ⟨q,hq,_,e⟩:=bk m hm;rw [e];exact (nG sP).1 (F2.to q hq)
 have bpl : (back.map (·.1)).Pairwise P3.Lt:=by
  rw [hback,List.map_map,List.pairwise_map];have:=F2.pl;rw [List.pairwise_map] at this;exact this.imp fun {a b} k=>(Oa.lt _ _).2 k
 have M2 : Mvs mid fine back:=⟨bpl,bic,bnl,bto⟩
 have A3 : Bc l fine (dP (uK back ms1)):=(A1.trans A2).congr fun x _=>(Wv back ms1 x).symm;have cm : ∀ m ∈ uK back ms1,(∃ q ∈ back,m = (q.1,dP ms1 q.2)) ∨ m ∈ ms1:=fun m hm=>by
  rcases List.mem_append.1 hm with hm | hm
  · obtain ⟨q,hq,rfl⟩:=List.mem_map.1 hm;exact .inl ⟨q,hq,rfl⟩
  · exact .inr hm
 have M3 : Mvs l fine (uK back ms1):=by
  refine ⟨?_,fun m hm=>?_,fun m hm=>?_,fun m hm=>?_⟩
  · unfold uK
    rw [List.map_append,List.map_map];refine List.pairwise_append.2 ⟨bpl,F1.pl,fun x hx y hy=>?_⟩;obtain ⟨m,hm,rfl⟩:=List.mem_map.1 hx;obtain ⟨k,hk,rfl⟩:=List.mem_map.1 hy;obtain ⟨j,hj,hp⟩:=F1.pt k hk;have e1:=bx m hm;have e2:=hp.1;exact .inl (by show m.1.x < k.1.x;omega)
  · rcases cm m hm with ⟨q,hq,rfl⟩ | hm
    · exact bic q hq
    · exact A2.sub _ (F1.ic m hm)
  · rcases cm m hm with ⟨q,hq,rfl⟩ | hm
    · exact fun k=>bnl q hq (A1.sub _ k)
    · exact M1.nl m hm
  · rcases cm m hm with ⟨q,hq,rfl⟩ | hm
    · exact A1.img _ (bto q hq)
    · exact F1.to m hm
 have lm : ∀ x ∈ aY l,x ∈ aY fine:=fun x hx=>A2.sub _ (A1.sub x hx);have d1:=yM ms1 0 fun m hm=>Km (m1 _ (F1.ic m hm)).2 (hM _ (F1.to m hm));have d2:=yM back 0 fun m hm=>Km (fm _ (bic m hm)) (m1 _ (bto m hm)).2;have d3:=yM (uK back ms1) 0 fun m hm=>Km (fm _ (M3.ic m hm)) (fm _ (lm _ (M3.to m hm)));refine ⟨_,_,_,Re A1 M1 dg nd pin d1,Re A2 M2 A1.dg A1.nd A1.pin d2,Re A3 M3 dg nd pin d3,?_,Kl _ _ _ (Nat.zero_le _) fun m hm=>An (m1 _ (F1.ic m hm)).2 (hM _ (F1.to m hm)),Kl _ _ _ (Nat.zero_le _) fun m hm=>An (fm _ (bic m hm)) (m1 _ (bto m hm)).2⟩;have g1:=(Rg ms1 0).2;have g2:=(Rg back 0).2;refine Kl _ _ _ (Nat.zero_le _) fun m hm=>?_;rcases cm m hm with ⟨q,hq,rfl⟩ | hm
 · refine Nat.le_trans (acq q.1 q.2 (dP ms1 q.2)) ?_
   have k1:=g2 q hq;have k2 : nH q.2 (dP ms1 q.2) ≤ mxM ms1 0:=by
    rcases Rh q.2 ms1 with h | h
    · rw [h,Ww];exact Nat.zero_le _
    · exact g1 _ h
   omega
 · have:=g1 m hm
   omega
end Go.Lith
namespace Go.Lith
open Go.RowKit Go.ChangeShapes
variable {H : Type} {enc : TypeId × Value → H} {P : Program} {w : World} {base : Nat} {spare : Nat → Bool} {held : Bool}
theorem agz {zs : List Int} (h : zs.length = 4) : ∃ a b c d,zs = [a,b,c,d]:=by
 match zs,h with
 | [a,b,c,d],_=>exact ⟨a,b,c,d,rfl⟩
theorem Fp {n : Nat} {t e : TypeId} {fuel : Nat} {cs : List Value} {x : DataW H × List MemPlace} (hu : P.underlying t = some (.slice e)) (hi : kG P n e = true) (hc : P.cellsOf e = 4) (h : DataW.trod enc P w base spare held fuel t cs = some x) :
 ∃ (A : Option Addr) (len cap : Nat) (qs : List Q4),cs = [.slice A len cap] ∧ len ≤ cap ∧ cap ≤ maxLen ∧ sR q4C 4 w A len qs ∧ ∀ q ∈ qs,IQ q:=by
 obtain ⟨A,len,cap,rfl,h1,h2,h3,h4⟩:=Gx hu hi hc h;obtain ⟨qs,h5,h6⟩:=tJ (p:=fun i (q : Q4)=>IQ q ∧ ∃ a,A = some a ∧ jP w (a.add (i * 4)) (q4C q)) len (fun i hi=>by
  obtain ⟨a,zs,rfl,_,hr,hl,hz⟩:=h4 i hi;obtain ⟨x,y,z,u,rfl⟩:=agz hl;exact ⟨⟨x,y,z,u⟩,⟨hz _ (by simp),hz _ (by simp),hz _ (by simp),hz _ (by simp)⟩,a,rfl,hr⟩)
 refine ⟨A,len,cap,qs,rfl,h1,h2,⟨h5,fun i p hp=>(h6 i p hp).2⟩,fun q hq=>?_⟩;obtain ⟨i,hi,rfl⟩:=List.getElem_of_mem hq;exact (h6 i _ (List.getElem?_eq_getElem hi)).1
theorem Ob {v : Value} {A : Option Addr} {len cap : Nat} (h : v.cells.toList = [.slice A len cap]) (hv : ∀ cs,v ≠ .agg cs) : v = .slice A len cap:=by
 cases v <;> first | (exact absurd rfl (hv _)) | (simp [Value.cells] at h;done) | (simpa [Value.cells] using h)
theorem Oc {r : Reach} {b0 n : Nat} {t tI tH tM tT : TypeId} {fs : Array Field} {v : Value} {d : DataW H} {p : List MemPlace} (hs : P.underlying t = some (.struct fs)) (hf : fs.map (fun f=>(f.type,f.offset)) = #[(tI,0),(tI,1),(tH,2),(tM,3)]) (ct : P.cellsOf t = 4)
 (hI : kG P n tI = true) (cI : P.cellsOf tI = 1) (hH : P.underlying tH = some (.slice tI)) (cH : P.cellsOf tH = 1) (hM : P.underlying tM = some (.slice tT)) (cM : P.cellsOf tM = 1) (hT : kG P n tT = true) (cT : P.cellsOf tT = 4)
 (hv : Value.okWide P w r b0 t v) (h : DataW.Trod enc P w base spare held t v d p) :
 ∃ (kind bits : Int) (HA DA : Option Addr) (HN Hc DN Dc : Nat) (zs : List Int) (qs : List Q4),v = .agg #[.int .i64 kind,.int .i64 bits,.slice HA HN Hc,.slice DA DN Dc] ∧
  Iw kind ∧ Iw bits ∧ nK w HA HN zs ∧ sR q4C 4 w DA DN qs ∧ ∀ q ∈ qs,IQ q:=by
 obtain ⟨fuel,hfu⟩:=h;unfold Value.okWide at hv;rw [hs] at hv;obtain ⟨cs,rfl,hz,_⟩:=hv;obtain ⟨xs,m,_,_,hl,hxl,hx⟩:=DataW.trod_struct hs hfu;have field : ∀ (i : Nat) (ty : TypeId) (off : Nat),(#[(tI,0),(tI,1),(tH,2),(tM,3)] : Array (TypeId × Nat))[i]? = some (ty,off) → ∃ y,DataW.trod enc P w base spare held m ty ((cs.toList.drop off).take (P.cellsOf ty)) = some y:=fun i ty off hi=>by
  rw [← hf,Array.getElem?_map] at hi;cases hq : fs[i]? with
  | none=>rw [hq] at hi;cases hi
  | some f =>
   rw [hq] at hi;simp only[Option.map_some,Option.some.injEq,Prod.mk.injEq] at hi;obtain ⟨rfl,rfl⟩:=hi;have hi' : i < fs.size:=(Array.getElem?_eq_some_iff.1 hq).1;exact ⟨xs[i]'(by omega),(hx i f hq).trans (List.getElem?_eq_getElem (by omega))⟩
 rw [ct] at hz;obtain ⟨l⟩:=cs
 match l,hz with
 | [c0,c1,c2,c3],_ =>
  obtain ⟨y0,h0⟩:=field 0 tI 0 rfl;obtain ⟨y1,h1⟩:=field 1 tI 1 rfl;obtain ⟨y2,h2⟩:=field 2 tH 2 rfl;obtain ⟨y3,h3⟩:=field 3 tM 3 rfl;simp only[cI,cH,cM] at h0 h1 h2 h3;have e0:=(lW n tI m [c0] _ hI h0).2;have e1:=(lW n tI m [c1] _ hI h1).2;obtain ⟨kind,rfl,k0⟩:=e0 c0 (by simp);obtain ⟨bits,rfl,k1⟩:=e1 c1 (by simp);obtain ⟨HA,HN,Hc,zs,hc2,_,_,_,hZ⟩:=Pf (n:=n) (cs:=[c2]) hH hI cI h2;obtain ⟨DA,DN,Dc,qs,hc3,_,_,hQ,hIQ⟩:=Fp (n:=n) (cs:=[c3]) hM hT cT h3;simp only[List.cons.injEq,and_true] at hc2 hc3;subst hc2;subst hc3;exact ⟨kind,bits,HA,DA,HN,Hc,DN,Dc,zs,qs,rfl,⟨k0⟩,⟨k1⟩,hZ,hQ,hIQ⟩
theorem Od {r : Reach} {b0 n : Nat} {t e : TypeId} {v : Value} {d : DataW H} {p : List MemPlace} (hu : P.underlying t = some (.slice e)) (hi : kG P n e = true) (hc : P.cellsOf e = 4) (hv : Value.okWide P w r b0 t v) (h : DataW.Trod enc P w base spare held t v d p) :
 ∃ (A : Option Addr) (len cap : Nat) (qs : List Q4),v = .slice A len cap ∧ sR q4C 4 w A len qs ∧ ∀ q ∈ qs,IQ q:=by
 obtain ⟨fuel,hf⟩:=h;obtain ⟨A,len,cap,qs,e,_,_,h1,h2⟩:=Fp hu hi hc hf;refine ⟨A,len,cap,qs,Ob e fun cs hcs=>?_,h1,h2⟩;unfold Value.okWide at hv;rw [hu] at hv;subst hcs;simp [Cell.okWide,Cell.ok,hu] at hv
end Go.Lith
