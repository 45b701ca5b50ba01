/-
 Texts of one claim, laid together: W11, Ref8, Exact2, Meas1, RefG1, V3, Wf, Wg, Wh, Wi, Surf1, Surf3, Surf1b, V4, Wj.
-/
import Derived.Test.YtfohfflkhpfjeaaGreatDoorC7
set_option maxHeartbeats 8000000
set_option linter.unusedSimpArgs false
set_option linter.unusedVariables false
set_option linter.unusedSectionVars false
namespace Go.Proofs.YtfohfflkhpfjeaaGreatDoor
open Go.Proofs.Tryz
open Go.RowKit Go.Lith
abbrev fU:=@underlying166
abbrev Jp:=@underlying80
set_option maxRecDepth 100000
attribute [local irreducible] wpList wpQuiet dY dQ dO Code.wp
section
variable {fs gs : List T3} {ms : List Mv}
theorem agV (h : (if dH true fs ≠ 0 then dH true fs else dH true gs) ≠ 0) : gB fs gs ms = (0,if dH true fs ≠ 0 then dH true fs else dH true gs):=by
 unfold gB;by_cases h1 : dH true fs ≠ 0
 · rw [if_pos h1,if_pos h1]
 ·
  rw [if_neg h1] at h;rw [if_neg h1,if_neg h1,if_pos h]
theorem agW (h : ¬ (if dH true fs ≠ 0 then dH true fs else dH true gs) ≠ 0) : dH true fs = 0 ∧ dH true gs = 0:=by
 by_cases h1 : dH true fs ≠ 0
 · rw [if_pos h1] at h;exact absurd h1 h
 · rw [if_neg h1] at h;exact ⟨Classical.not_not.1 h1,Classical.not_not.1 h⟩
theorem agX (hf : dH true fs = 0) (hg : dH true gs = 0) (h : Cq fs gs ≠ 0) : gB fs gs ms = (0,Cq fs gs):=by
 rw [gB,if_neg (fun k=>k hf),if_neg (fun k=>k hg)];unfold Cq at h ⊢;split
 · rfl
 ·
  rename_i h1;rw [if_neg h1] at h;split
  · rfl
  · rename_i h2;rw [if_neg h2] at h;exact absurd rfl h
theorem agY (h : ¬ Cq fs gs ≠ 0) : aQ fs = aQ gs ∧ ¬ (jE fs gs (aQ fs) = true ∨ nU fs gs (aQ fs) = false):=by
 unfold Cq at h;split at h
 · exact absurd (by decide) h
 ·
  rename_i h1;split at h
  · exact absurd (by decide) h
  · rename_i h2;exact ⟨Classical.not_not.1 h1,h2⟩
theorem Lw (hf : dH true fs = 0) (hg : dH true gs = 0) (hb : ¬ Cq fs gs ≠ 0) : gB fs gs ms = if lV fs gs ms (aQ fs) = false then ((0 : Int),(31 : Int)) else if kC fs gs ms = false then ((0 : Int),(32 : Int)) else match lR ms 0 with
 | some n=>(n,(0 : Int))
 | none=>((0 : Int),(3 : Int)):=by
 obtain ⟨h1,h2⟩:=agY hb;rw [gB,if_neg (fun k=>k hf),if_neg (fun k=>k hg),if_neg (fun k=>k h1),if_neg h2];cases lR ms 0 <;> rfl
theorem abk {b : Bool} {n : Int} (h : (if b = true then 0 else n) ≠ 0) : b = false:=by cases b with | false=>rfl | true=>exact absurd rfl h
theorem abl {b : Bool} {n : Int} (hn : n ≠ 0) (h : ¬ (if b = true then 0 else n) ≠ 0) : b = true:=by cases b with | true=>rfl | false=>exact absurd hn h
end
theorem qP {fs gs : List T3} {ms : List Mv} {N cap N2 cap2 N3 cap3 : Nat} {A A2 A3 : Option Addr} (w : World) (hT : eO w A N fs) (hT2 : eO w A2 N2 gs) (hL3 : nS bU 6 w A3 N3 ms) (hN : N ≤ 300000) (hN2 : N2 ≤ 300000) (hN3 : N3 ≤ 10000000) (hI : ∀ mv ∈ ms,I3 mv.1 ∧ I3 mv.2) : eK prog 17 [.slice A N cap,.slice A2 N2 cap2,.slice A3 N3 cap3] w (fun v _=>v = .tuple #[.int .i64 (gB fs gs ms).1,.int .i64 (gB fs gs ms).2]):=by
 refine ⟨afj,?_⟩;have m:=cA.refl w
 go_enter func17,ntmps17
 refine aD fun K1 k1=>wp_region_lit (aA (aC) (aA (aC) (aG (k1 _ _ ?_))));refine aD fun K2 k2=>wp_region_lit (aA (aB) (aA (aB) ?_));simp only[zz];refine aA (aB) ?_;simp only[zz];refine kT m ?_;clear m;intro q7 u m;have hD7:=cO.nil (K:=P3) (V:=P3) pt pt;refine aA (xN rfl rfl rfl rfl) ?_;simp only[zz];refine eP m rfl ?_;clear m;intro g2 u m;refine aA (aC) (aG (k2 _ _ ?_));refine aD fun K3 k3=>aD fun K4 k4=>wp_region_lit (aA (aB) ?_);simp only[zz];refine aA (qA) ?_;simp only[zz,List.map_toArray,List.map_cons,List.map_nil];refine aA (nP rfl) (aA (aB) ?_);simp only[zz];refine aA (qA) ?_;simp only[zz,List.map_toArray,List.map_cons,List.map_nil];refine aA (nP rfl) (aA (aB) ?_);simp only[zz];refine aA (qA) ?_;simp only[zz,List.map_toArray,List.map_cons,List.map_nil];refine aA (nP rfl) (aA (aB) ?_);simp only[zz];refine aA (qA) ?_;simp only[zz,List.map_toArray,List.map_cons,List.map_nil];refine aA (nP rfl) (aA (aB) ?_);simp only[zz];refine aA (qA) ?_;simp only[zz,List.map_toArray,List.map_cons,List.map_nil];refine aA (nP rfl) ?_;simp only[zz];refine We rfl rfl rfl rfl rfl ?_;intro u g3 e hg hB;replace m:=m.newB e hg hB;clear e hg hB;refine aA (aW rfl Eu rfl) (aA (aB) (aG (k4 _ _ ?_)));refine wp_block (wp_loop_rounds 6 (dU (aD fun K5 k5=>wp_region_lit (aA (bX (m:=0) (n:=5) rfl rfl (by decide)) ?_))));simp only[zz];refine aG (k5 _ _ ?_);refine aD fun K6 k6=>cG rfl (wp_skip (k6 _ _ ?_));refine aD fun K7 k7=>wp_block (aD fun K8 k8=>wp_region_lit (aA (aI Eu jD rfl rfl (by decide) (by omega) rfl) ?_));simp only[zz];refine aK rfl ((m.b 0 rfl).lies Ex jD rfl rfl) ?_;simp only[zz,zy,Nat.zero_add,Nat.reduceAdd,Nat.reduceMul,Int.reduceToNat];refine bF m wD rfl ?_;clear m;intro g4 u m;simp only[zz];refine aS m 0 rfl rfl rfl jD (dZ rfl) rfl ?_;clear m;intro u m;simp only[zy,zx,bG,zF,zG,Nat.reduceAdd] at m;refine aG (k8 _ _ ?_);refine aD fun K9 k9=>wp_region_lit (aA (aN (c:=0) Et rfl sD rfl rfl) ?_);simp only[zz];refine aK rfl ((m.b 0 rfl).lies1 Ew rfl) ?_;simp only[zz];refine eH m rfl rfl (Sj _ (m.b 2 rfl) (hT.ext m.ext) (hT2.ext m.ext) (by omega) (by omega)) ?_;clear m;rintro v u m rfl;refine aA (aC) (aG (k9 _ _ ?_));refine aD fun K10 k10=>wp_region_lit (aA (aB) (aA (lG rfl rfl) ?_));simp only[zz];refine aG (k10 _ _ ?_);refine bZ rfl (fun hc2=>?_) (fun hc2=>?_)
 ·
  refine aD fun K11 k11=>wp_region_lit (aA (aB) (aA (aC) (aA (aC) (aG (k11 _ _ ?_)))));refine wp_ret ?_;simp only[zz];try simp only[Exit.inBlock,Exit.then,if_true]
  refine kE rfl rfl rfl ?_;try simp only[zD,zE]
  exact ⟨_,rfl,m.ext,by rw [agV hc2]⟩
 ·
  obtain ⟨hf,hg⟩:=agW hc2;refine wp_skip (k7 _ _ ?_);refine wp_region_lit (aA (aP (m:=0) (n:=1) (r:=1) rfl rfl (by decide)) (aA (aB) (aG (aU (aD fun K12 k12=>wp_region_lit (aA (bX (m:=1) (n:=5) rfl rfl (by decide)) (aG (k12 _ _ ?_))))))));refine aD fun K13 k13=>cG rfl (wp_skip (k13 _ _ ?_));refine aD fun K14 k14=>wp_block (aD fun K15 k15=>wp_region_lit ?_);simp only[zz];refine aA (aI Eu jD rfl rfl (by decide) (by omega) rfl) ?_;simp only[zz];refine aK rfl ((m.b 1 rfl).lies Ex jD rfl rfl) ?_;simp only[zz,zy,Nat.zero_add,Nat.reduceAdd,Nat.reduceMul,Int.reduceToNat];refine bF m wD rfl ?_;clear m;intro g5 u m;simp only[zz];refine aS m 0 rfl rfl rfl jD (dZ rfl) rfl ?_;clear m;intro u m;simp only[zy,zx,bG,zF,zG,Nat.reduceAdd] at m;refine aG (k15 _ _ ?_);refine aD fun K16 k16=>wp_region_lit (aA (aN (c:=0) Et rfl sD rfl rfl) ?_);simp only[zz];refine aK rfl ((m.b 0 rfl).lies1 Ew rfl) ?_;simp only[zz];replace m:=m.pull 3 rfl;simp only[xL,xM,zF,zG] at m;replace m:=m.pack1;refine Lp rfl rfl (Xm m (hT) (hT2) (by omega) (by omega) hf hg) ?_;clear m;rintro v u ⟨A4,c4,rfl,m⟩;simp only[zz];replace m:=m.unpack2;refine aA (aC) (aG (k16 _ _ ?_));refine aD fun K17 k17=>wp_region_lit (aA (aB) (aA (lG rfl rfl) (aG (k17 _ _ ?_))));simp only[zz];refine bZ rfl (fun hc2=>?_) (fun hc2=>?_)
  ·
   refine aD fun K18 k18=>wp_region_lit (aA (aB) (aA (aC) (aA (aC) (aG (k18 _ _ ?_)))));refine wp_ret ?_;simp only[zz];try simp only[Exit.inBlock,Exit.then,if_true]
   refine kE rfl rfl rfl ?_;try simp only[zD,zE]
   exact ⟨_,rfl,m.ext,by rw [agX hf hg hc2]⟩
  ·
   have hb:=hc2;refine wp_skip (k14 _ _ ?_);refine wp_region_lit (aA (aP (m:=1) (n:=1) (r:=2) rfl rfl (by decide)) (aA (aB) (aG (aU (aD fun K19 k19=>wp_region_lit (aA (bX (m:=2) (n:=5) rfl rfl (by decide)) (aG (k19 _ _ ?_))))))));refine aD fun K20 k20=>cG rfl (wp_skip (k20 _ _ ?_));refine aD fun K21 k21=>wp_block (aD fun K22 k22=>wp_region_lit ?_);simp only[zz];refine aA (aI Eu jD rfl rfl (by decide) (by omega) rfl) ?_;simp only[zz];refine aK rfl ((m.b 4 rfl).lies Ex jD rfl rfl) ?_;simp only[zz,zy,Nat.zero_add,Nat.reduceAdd,Nat.reduceMul,Int.reduceToNat];refine bF m wD rfl ?_;clear m;intro g6 u m;simp only[zz];refine aS m 0 rfl rfl rfl jD (dZ rfl) rfl ?_;clear m;intro u m;simp only[zy,zx,bG,zF,zG,Nat.reduceAdd] at m;refine aG (k22 _ _ ?_);refine aD fun K23 k23=>wp_region_lit (aA (aN (c:=0) Et rfl sD rfl rfl) ?_);simp only[zz];refine aK rfl ((m.b 0 rfl).lies1 Ew rfl) ?_;simp only[zz];replace m:=m.pull 6 rfl;simp only[xL,xM,zF,zG] at m;replace m:=m.pull 3 rfl;simp only[xL,xM,zF,zG] at m;replace m:=m.pull 3 rfl;simp only[xL,xM,zF,zG] at m;replace m:=m.pack3;refine Lp rfl rfl (aeA m hT hT2 hL3 hN hN2 hN3 hD7) ?_;clear m;rintro v u ⟨es7,c7,rfl,m,hD7i⟩;simp only[zz];replace m:=m.unpack3;refine aA (aC) (aG (k23 _ _ ?_));refine aD fun K24 k24=>wp_region_lit (aA (aB) (aA (lG rfl rfl) (aG (k24 _ _ ?_))));simp only[zz];refine bZ rfl (fun hc2=>?_) (fun hc2=>?_)
   ·
    have hmv:=abk hc2;refine aD fun K25 k25=>wp_region_lit (aA (aB) (aA (aC) (aA (aC) (aG (k25 _ _ ?_)))));refine wp_ret ?_;simp only[zz];try simp only[Exit.inBlock,Exit.then,if_true]
    refine kE rfl rfl rfl ?_;try simp only[zD,zE]
    exact ⟨_,rfl,m.ext,by rw [Lw hf hg hb,hmv];rfl⟩
   ·
    have hmv:=abl (by decide) hc2;have hD7:=hD7i hmv;have himg:=acf (Oj hmv);refine wp_skip (k21 _ _ ?_);refine wp_region_lit (aA (aP (m:=2) (n:=1) (r:=3) rfl rfl (by decide)) (aA (aB) (aG (aU (aD fun K26 k26=>wp_region_lit (aA (bX (m:=3) (n:=5) rfl rfl (by decide)) (aG (k26 _ _ ?_))))))));refine aD fun K27 k27=>cG rfl (wp_skip (k27 _ _ ?_));refine aD fun K28 k28=>wp_block (aD fun K29 k29=>wp_region_lit ?_);simp only[zz];refine aA (aI Eu jD rfl rfl (by decide) (by omega) rfl) ?_;simp only[zz];refine aK rfl ((m.b 6 rfl).lies Ex jD rfl rfl) ?_;simp only[zz,zy,Nat.zero_add,Nat.reduceAdd,Nat.reduceMul,Int.reduceToNat];refine bF m wD rfl ?_;clear m;intro g7 u m;simp only[zz];refine aS m 0 rfl rfl rfl jD (dZ rfl) rfl ?_;clear m;intro u m;simp only[zy,zx,bG,zF,zG,Nat.reduceAdd] at m;refine aG (k29 _ _ ?_);refine aD fun K30 k30=>wp_region_lit (aA (aN (c:=0) Et rfl sD rfl rfl) ?_);simp only[zz];refine aK rfl ((m.b 0 rfl).lies1 Ew rfl) ?_;simp only[zz];refine eH m rfl rfl (acK (ms:=ms) _ (m.b 2 rfl) (hT.ext m.ext) (hT2.ext m.ext) hN hN2 (m.p 3 rfl) hD7 himg) ?_;clear m;rintro v u m rfl;refine aA (aC) (aG (k30 _ _ ?_));refine aD fun K31 k31=>wp_region_lit (aA (aB) (aA (lG rfl rfl) ?_));simp only[zz];refine aG (k31 _ _ ?_);refine bZ rfl (fun hc2=>?_) (fun hc2=>?_)
    ·
     have hcv:=abk hc2;refine aD fun K32 k32=>wp_region_lit (aA (aB) (aA (aC) (aA (aC) (aG (k32 _ _ ?_)))));refine wp_ret ?_;simp only[zz];try simp only[Exit.inBlock,Exit.then,if_true]
     refine kE rfl rfl rfl ?_;try simp only[zD,zE]
     exact ⟨_,rfl,m.ext,by rw [Lw hf hg hb,hmv,hcv];rfl⟩
    ·
     have hcv:=abl (by decide) hc2;refine wp_skip (k28 _ _ ?_);refine wp_region_lit (aA (aP (m:=3) (n:=1) (r:=4) rfl rfl (by decide)) (aA (aB) (aG (aU (aD fun K33 k33=>wp_region_lit (aA (bX (m:=4) (n:=5) rfl rfl (by decide)) (aG (k33 _ _ ?_))))))));refine aD fun K34 k34=>cG rfl (wp_skip (k34 _ _ ?_));refine aD fun K35 k35=>wp_block (aD fun K36 k36=>wp_region_lit ?_);simp only[zz];refine aA (aI Eu jD rfl rfl (by decide) (by omega) rfl) ?_;simp only[zz];refine aK rfl ((m.b 7 rfl).lies Ex jD rfl rfl) ?_;simp only[zz,zy,Nat.zero_add,Nat.reduceAdd,Nat.reduceMul,Int.reduceToNat];refine bF m wD rfl ?_;clear m;intro g8 u m;simp only[zz];refine aS m 0 rfl rfl rfl jD (dZ rfl) rfl ?_;clear m;intro u m;simp only[zy,zx,bG,zF,zG,Nat.reduceAdd] at m;refine aG (k36 _ _ ?_);refine aD fun K37 k37=>wp_region_lit (aA (aN (c:=0) Et rfl sD rfl rfl) ?_);simp only[zz];refine aK rfl ((m.b 0 rfl).lies1 Ew rfl) ?_;simp only[zz];replace m:=m.pull 3 rfl;simp only[xL,xM,zF,zG] at m;replace m:=m.pack1;refine Lp rfl rfl (Xp m hL3 hN3 hI) ?_;clear m;rintro v u ⟨y,rfl,m,hme⟩;refine aA (aC) (aG (k37 _ _ ?_));refine aD fun K38 k38=>wp_region_lit (aA (aB) (aA (lG rfl rfl) ?_));simp only[zz];refine aG (k38 _ _ ?_);refine bZ rfl (fun hc2=>?_) (fun hc2=>?_)
     ·
      have hm0 : lR ms 0 = none:=Option.not_isSome_iff_eq_none.1 (by rw [abk hc2];exact Bool.false_ne_true);refine aD fun K39 k39=>wp_region_lit (aA (aB) (aA (aC) (aA (aC) (aG (k39 _ _ ?_)))));refine wp_ret ?_;simp only[zz];try simp only[Exit.inBlock,Exit.then,if_true]
      refine kE rfl rfl rfl ?_;try simp only[zD,zE]
      exact ⟨_,rfl,m.ext,by rw [Lw hf hg hb,hmv,hcv,hm0];rfl⟩
     ·
      have hm0:=abl (by decide) hc2;obtain ⟨q,hq⟩:=Option.isSome_iff_exists.1 hm0;obtain rfl:=hme q hq;refine wp_skip (k35 _ _ ?_);refine wp_region_lit (aA (aP (m:=4) (n:=1) (r:=5) rfl rfl (by decide)) (aA (aB) (aG (aU (aD fun K40 k40=>wp_region_lit (aA (eU (m:=5) (n:=5) rfl rfl (by decide)) (aG (k40 _ _ ?_))))))));refine aD fun K41 k41=>iO rfl (wp_exit (k3 _ _ ?_));refine aD fun K42 k42=>wp_region_lit (aA (aB) ?_);simp only[zz];refine aA (dA rfl) (aA (aN (c:=0) jJ rfl bD rfl rfl) ?_);simp only[zz];refine aK rfl ((m.b 0 rfl).lies1 bT rfl) ?_;simp only[zz];refine aA (aC) (aA (aC) (aG (k42 _ _ ?_)));refine wp_ret ?_;simp only[zz];try simp only[Exit.inBlock,Exit.then,if_true]
      refine kE rfl rfl rfl ?_;try simp only[zD,zE]
      exact ⟨_,rfl,m.ext,by rw [Lw hf hg hb,hmv,hcv,hq];rfl⟩
end Go.Proofs.YtfohfflkhpfjeaaGreatDoor
namespace Go.Proofs.YtfohfflkhpfjeaaGreatDoor
open Go.Proofs.Tryz
open Go.RowKit Go.Lith
set_option maxRecDepth 100000
attribute [local irreducible] wpList wpQuiet dY Code.wp
theorem aeK {a : Int} (ha : Bd 1000000 a) : jG prog 53 [W a] (.tuple #[.int .i64 (Lm a),.bool (decide (nR a))]):=by
 intro w;refine ⟨afQ,?_⟩;have hX:=dJ.refl w;have hla : (digs 65536 a.natAbs).length ≤ 1000000:=pE ha;obtain ⟨X,hXa⟩ : ∃ X,X = a.natAbs:=⟨_,rfl⟩
 rw [← hXa] at hla;have hXd : X < 65536 ^ (digs 65536 X).length:=by have:=iD (kG X);rwa [eM] at this
 have hdd:=kG X
 go_enter func53,ntmps53
 refine aD (fun K1 hK1=>?_);refine wp_region_lit ?_;refine lB (by simp only[cB,bJ,bR,List.getD_cons_succ,List.getD_cons_zero];rfl) ?_;intro w1 g1 hE hg1 hB1;have hG1:=Nat.le_trans hX.size hg1;replace hX:=hX.trans hE;clear hE hg1;simp only[cB,bJ,bR,List.getD_cons_succ,List.getD_cons_zero,List.set_cons_succ,List.set_cons_zero];refine aA (aC) ?_;simp only[cB,bJ,bR,List.getD_cons_succ,List.getD_cons_zero,List.set_cons_succ,List.set_cons_zero];refine aA (aC) ?_;simp only[cB,bJ,bR,List.getD_cons_succ,List.getD_cons_zero,List.set_cons_succ,List.set_cons_zero];refine aG (hK1 _ _ ?_);refine aD (fun K2 hK2=>?_);refine wp_region_lit (aK rfl (hB1.lies bY aR rfl rfl) ?_);simp only[cB,bJ,bR,List.getD_cons_succ,List.getD_cons_zero,List.set_cons_succ,List.set_cons_zero];refine bA rfl rfl (pF _ (gU ha)) ?_;rintro v w2 hE ⟨A4,c4,rfl,hD4⟩;replace hB1:=hB1.ext hE;(try replace hD4:=hD4.ext hE);replace hX:=hX.trans hE;clear hE;rw [gK,← hXa] at hD4 ⊢;simp only[cB,bJ,bR,List.getD_cons_succ,List.getD_cons_zero,List.set_cons_succ,List.set_cons_zero];refine aA (aC) ?_;simp only[cB,bJ,bR,List.getD_cons_succ,List.getD_cons_zero,List.set_cons_succ,List.set_cons_zero];refine aG (hK2 _ _ ?_);refine aD (fun K3 hK3=>?_);refine aD (fun K4 hK4=>?_);refine wp_region_lit (aA (aB) ?_);simp only[cB,bJ,bR,List.getD_cons_succ,List.getD_cons_zero,List.set_cons_succ,List.set_cons_zero];refine aA (aW rfl bW rfl) ?_;simp only[cB,bJ,bR,List.getD_cons_succ,List.getD_cons_zero,List.set_cons_succ,List.set_cons_zero];refine aA (oU rfl rfl) ?_;simp only[cB,bJ,bR,List.getD_cons_succ,List.getD_cons_zero,List.set_cons_succ,List.set_cons_zero];refine aG (hK4 _ _ ?_);refine bZ rfl (fun hc1=>?_) (fun hc1=>?_)
 ·
  have hbig : ¬ nR a:=acD hXa (by omega);refine aD (fun K5 hK5=>?_);refine wp_region_lit (aA (aC) ?_);simp only[cB,bJ,bR,List.getD_cons_succ,List.getD_cons_zero,List.set_cons_succ,List.set_cons_zero];refine aA (aC) ?_;simp only[cB,bJ,bR,List.getD_cons_succ,List.getD_cons_zero,List.set_cons_succ,List.set_cons_zero];refine aG (hK5 _ _ ?_);refine wp_ret ?_;try simp only[Exit.inBlock,Exit.then]
  refine kE rfl rfl rfl ?_;try simp only[List.getD_cons_succ,List.getD_cons_zero]
  exact ⟨_,rfl,hX,Bo hbig⟩
 ·
  have hl4 : (digs 65536 X).length ≤ 4:=by omega
  refine wp_skip ?_;refine hK3 _ _ (aD (fun K6 hK6=>?_));refine wp_region_lit (aA (aC) ?_);simp only[cB,bJ,bR,List.getD_cons_succ,List.getD_cons_zero,List.set_cons_succ,List.set_cons_zero];refine aG (hK6 _ _ ?_);refine aD (fun K7 hK7=>?_);refine aD (fun K8 hK8=>?_);refine wp_region_lit (aA (aB) ?_);simp only[cB,bJ,bR,List.getD_cons_succ,List.getD_cons_zero,List.set_cons_succ,List.set_cons_zero];refine aA (aW rfl bW rfl) ?_;simp only[cB,bJ,bR,List.getD_cons_succ,List.getD_cons_zero,List.set_cons_succ,List.set_cons_zero];refine aA (eR rfl rfl (aM (by omega) (by omega))) ?_;simp only[cB,bJ,bR,List.getD_cons_succ,List.getD_cons_zero,List.set_cons_succ,List.set_cons_zero];refine aA (aC) ?_;simp only[cB,bJ,bR,List.getD_cons_succ,List.getD_cons_zero,List.set_cons_succ,List.set_cons_zero];refine aG (hK8 _ _ ?_);refine wp_block (bH [5,6] [15,16,17,18,19,20,21,22,23,24,25,26] (fun n vs wl=>∃ (k : Nat),vs = [.int .u64 ((val 65536 ((digs 65536 X).drop k) : Nat) : Int),.int .i64 ((k:Int) - 1)] ∧ (dJ w wl) ∧ (gJ wl g1 [.bool (iJ a),.string (nC a)] 65) ∧ (cX wl wl.heap.size A4 (digs 65536 X).length c4 (digs 65536 X)) ∧ (k ≤ (digs 65536 X).length) ∧ (n = k)) ?_ ?_)
  ·
   rw [show (0 : Int) = ((val 65536 ((digs 65536 X).drop (digs 65536 X).length) : Nat) : Int) by rw [List.drop_length];rfl];apply Exists.intro;simp only[List.map_cons,List.map_nil,List.getD_cons_succ,List.getD_cons_zero];exact ⟨(digs 65536 X).length,rfl,hX,hB1,hD4.here,Nat.le_refl _,rfl⟩
  ·
   intro n vs wr hI u;obtain ⟨k,rfl,hX,hB1,hD4,hk,hn⟩:=hI;simp only[zu,List.set_cons_succ,List.set_cons_zero];refine aD (fun K9 hK9=>?_);refine aD (fun K10 hK10=>?_);refine wp_region_lit (aA (aB) ?_);simp only[cB,bJ,bR,List.getD_cons_succ,List.getD_cons_zero,List.set_cons_succ,List.set_cons_zero];refine aA (pM rfl rfl) ?_;simp only[cB,bJ,bR,List.getD_cons_succ,List.getD_cons_zero,List.set_cons_succ,List.set_cons_zero];refine aG (hK10 _ _ ?_);refine bZ rfl (fun hc2=>?_) (fun hc2=>?_)
   ·
    obtain ⟨j,rfl⟩ : ∃ j,k = j + 1:=⟨k - 1,by omega⟩
    rw [show (((j + 1 : Nat) : Int) - 1) = (j : Int) by omega];obtain ⟨p,rfl,hca,hlt⟩:=hD4.get (show j < (digs 65536 X).length by omega);have hvp:=lY (B:=65536) (xs:=digs 65536 X) (k:=j + 1) (by omega) (by simp only[Nat.add_sub_cancel];omega);simp only[Nat.add_sub_cancel] at hvp;have hvl:=aa2 (j:=j) hl4 hdd (by omega);obtain ⟨V,hV⟩ : ∃ V,V = val 65536 ((digs 65536 X).drop (j + 1)):=⟨_,rfl⟩
    obtain ⟨x,hx⟩ : ∃ x,x = (digs 65536 X)[j]:=⟨_,rfl⟩
    rw [← hV,← hx] at hvp;rw [← hV] at hvl;rw [← hV];rw [← hx] at hca hlt;refine wp_skip (hK9 _ _ ?_);refine aD (fun K11 hK11=>?_);refine wp_block (wp_region_lit ?_);refine aA (aB) ?_;simp only[cB,bJ,bR,List.getD_cons_succ,List.getD_cons_zero,List.set_cons_succ,List.set_cons_zero];refine aA (fJ rfl rfl (eZ (by omega) (by omega))) ?_;simp only[cB,bJ,bR,List.getD_cons_succ,List.getD_cons_zero,List.set_cons_succ,List.set_cons_zero];refine aA (aB) ?_;simp only[cB,bJ,bR,List.getD_cons_succ,List.getD_cons_zero,List.set_cons_succ,List.set_cons_zero];refine aA (aB) ?_;simp only[cB,bJ,bR,List.getD_cons_succ,List.getD_cons_zero,List.set_cons_succ,List.set_cons_zero];refine aA (aI bW bD rfl rfl (by omega) (by omega) (gM (Int.toNat_natCast _))) ?_;simp only[cB,bJ,bR,List.getD_cons_succ,List.getD_cons_zero,List.set_cons_succ,List.set_cons_zero];refine aK rfl (lies1 hca bT) ?_;simp only[cB,bJ,bR,List.getD_cons_succ,List.getD_cons_zero,List.set_cons_succ,List.set_cons_zero];refine aA (jU oD jC rfl (eZ (by omega) (by omega))) ?_;simp only[cB,bJ,bR,List.getD_cons_succ,List.getD_cons_zero,List.set_cons_succ,List.set_cons_zero];refine aA (aP rfl rfl (eZ (by omega) (by omega))) ?_;simp only[cB,bJ,bR,List.getD_cons_succ,List.getD_cons_zero,List.set_cons_succ,List.set_cons_zero];refine aA (aC) ?_;simp only[cB,bJ,bR,List.getD_cons_succ,List.getD_cons_zero,List.set_cons_succ,List.set_cons_zero];refine aG (hK11 _ _ ?_);refine wp_region_lit (aA (aB) ?_);simp only[cB,bJ,bR,List.getD_cons_succ,List.getD_cons_zero,List.set_cons_succ,List.set_cons_zero];refine aA (eR rfl rfl (aM (by omega) (by omega))) ?_;simp only[cB,bJ,bR,List.getD_cons_succ,List.getD_cons_zero,List.set_cons_succ,List.set_cons_zero];refine aA (aC) ?_;simp only[cB,bJ,bR,List.getD_cons_succ,List.getD_cons_zero,List.set_cons_succ,List.set_cons_zero];refine aG ?_;rw [show ((V : Int) * 65536 + (x : Int)) = ((val 65536 ((digs 65536 X).drop j) : Nat) : Int) by exact aa3 hvp];simp only[Exit.inBlock,Exit.then];refine ⟨j,_,?_,rfl,?_,?_⟩
    · omega
    · simp only[zu,List.map_cons,List.map_nil,List.getD_cons_succ,List.getD_cons_zero,List.set_cons_succ,List.set_cons_zero]
    ·
     simp only[List.map_cons,List.map_nil,List.getD_cons_succ,List.getD_cons_zero];exact ⟨j,rfl,hX,hB1,hD4.here,by omega,rfl⟩
   ·
    obtain rfl : k = 0:=by omega
    have hX64:=aew hl4 hXd;refine wp_exit (hK7 _ _ ?_);refine aD (fun K12 hK12=>?_);refine aD (fun K13 hK13=>?_);simp only[List.drop_zero,eM];rcases Jm hXa with ⟨h1,h2,h3,h4⟩ | ⟨h1,h2,h3⟩ | ⟨h1,h2,h3⟩ | ⟨h1,h2,h3,h4⟩
    ·
     rw [h1] at hB1;refine wp_region_lit (aA (aN (c:=0) gN rfl fF rfl rfl) ?_);simp only[cB,bJ,bR,List.getD_cons_succ,List.getD_cons_zero,List.set_cons_succ,List.set_cons_zero];refine aK rfl (hB1.lies1 jR rfl) ?_;simp only[cB,bJ,bR,List.getD_cons_succ,List.getD_cons_zero,List.set_cons_succ,List.set_cons_zero];refine aA (aB) ?_;simp only[cB,bJ,bR,List.getD_cons_succ,List.getD_cons_zero,List.set_cons_succ,List.set_cons_zero];refine bN rfl (aA (aB) ?_);simp only[cB,bJ,bR,List.getD_cons_succ,List.getD_cons_zero,List.set_cons_succ,List.set_cons_zero];refine bN rfl (aA (Pz rfl rfl (by omega)) ?_);simp only[cB,bJ,bR,List.getD_cons_succ,List.getD_cons_zero,List.set_cons_succ,List.set_cons_zero];refine aA (fA rfl) ?_;simp only[cB,bJ,bR,List.getD_cons_succ,List.getD_cons_zero,List.set_cons_succ,List.set_cons_zero];refine aG (hK13 _ _ ?_);refine cG rfl (aD (fun K14 hK14=>?_));refine wp_region_lit (aA (aB) ?_);simp only[cB,bJ,bR,List.getD_cons_succ,List.getD_cons_zero,List.set_cons_succ,List.set_cons_zero];refine aA (Ss rfl rfl) ?_;simp only[cB,bJ,bR,List.getD_cons_succ,List.getD_cons_zero,List.set_cons_succ,List.set_cons_zero];refine aA (jU jC oD rfl (Pc h2)) ?_;simp only[cB,bJ,bR,List.getD_cons_succ,List.getD_cons_zero,List.set_cons_succ,List.set_cons_zero];refine aA (aC) ?_;simp only[cB,bJ,bR,List.getD_cons_succ,List.getD_cons_zero,List.set_cons_succ,List.set_cons_zero];refine aA (aC) ?_;simp only[cB,bJ,bR,List.getD_cons_succ,List.getD_cons_zero,List.set_cons_succ,List.set_cons_zero];refine aG (hK14 _ _ ?_);refine wp_ret ?_;try simp only[Exit.inBlock,Exit.then]
     refine kE rfl rfl rfl ?_;try simp only[List.getD_cons_succ,List.getD_cons_zero]
     exact ⟨_,rfl,hX,Dm h3 h4.symm⟩
    ·
     rw [h1] at hB1;refine wp_region_lit (aA (aN (c:=0) gN rfl fF rfl rfl) ?_);simp only[cB,bJ,bR,List.getD_cons_succ,List.getD_cons_zero,List.set_cons_succ,List.set_cons_zero];refine aK rfl (hB1.lies1 jR rfl) ?_;simp only[cB,bJ,bR,List.getD_cons_succ,List.getD_cons_zero,List.set_cons_succ,List.set_cons_zero];refine aA (aB) ?_;simp only[cB,bJ,bR,List.getD_cons_succ,List.getD_cons_zero,List.set_cons_succ,List.set_cons_zero];refine bN rfl (aA (aB) ?_);simp only[cB,bJ,bR,List.getD_cons_succ,List.getD_cons_zero,List.set_cons_succ,List.set_cons_zero];refine bN rfl (aA (Qc rfl rfl (by omega)) ?_);simp only[cB,bJ,bR,List.getD_cons_succ,List.getD_cons_zero,List.set_cons_succ,List.set_cons_zero];refine aA (fA rfl) ?_;simp only[cB,bJ,bR,List.getD_cons_succ,List.getD_cons_zero,List.set_cons_succ,List.set_cons_zero];refine aG (hK13 _ _ ?_);refine iO rfl (wp_skip ?_);refine hK12 _ _ (aD (fun K15 hK15=>?_));refine aD (fun K16 hK16=>?_);refine wp_region_lit (aA (aB) ?_);simp only[cB,bJ,bR,List.getD_cons_succ,List.getD_cons_zero,List.set_cons_succ,List.set_cons_zero];refine aA (Jz rfl rfl (by omega)) ?_;simp only[cB,bJ,bR,List.getD_cons_succ,List.getD_cons_zero,List.set_cons_succ,List.set_cons_zero];refine aG (hK16 _ _ ?_);refine cG rfl (aD (fun K17 hK17=>?_));refine wp_region_lit (aA (aC) ?_);simp only[cB,bJ,bR,List.getD_cons_succ,List.getD_cons_zero,List.set_cons_succ,List.set_cons_zero];refine aA (aC) ?_;simp only[cB,bJ,bR,List.getD_cons_succ,List.getD_cons_zero,List.set_cons_succ,List.set_cons_zero];refine aG (hK17 _ _ ?_);refine wp_ret ?_;try simp only[Exit.inBlock,Exit.then]
     refine kE rfl rfl rfl ?_;try simp only[List.getD_cons_succ,List.getD_cons_zero]
     exact ⟨_,rfl,hX,Bo h3⟩
    ·
     rw [h1] at hB1;refine wp_region_lit (aA (aN (c:=0) gN rfl fF rfl rfl) ?_);simp only[cB,bJ,bR,List.getD_cons_succ,List.getD_cons_zero,List.set_cons_succ,List.set_cons_zero];refine aK rfl (hB1.lies1 jR rfl) ?_;simp only[cB,bJ,bR,List.getD_cons_succ,List.getD_cons_zero,List.set_cons_succ,List.set_cons_zero];refine aA (aB) ?_;simp only[cB,bJ,bR,List.getD_cons_succ,List.getD_cons_zero,List.set_cons_succ,List.set_cons_zero];refine cD rfl ?_;simp only[cB,bJ,bR,List.getD_cons_succ,List.getD_cons_zero,List.set_cons_succ,List.set_cons_zero];refine cD rfl ?_;simp only[cB,bJ,bR,List.getD_cons_succ,List.getD_cons_zero,List.set_cons_succ,List.set_cons_zero];refine aA (fL rfl) ?_;simp only[cB,bJ,bR,List.getD_cons_succ,List.getD_cons_zero,List.set_cons_succ,List.set_cons_zero];refine aG (hK13 _ _ ?_);refine iO rfl (wp_skip ?_);refine hK12 _ _ (aD (fun K18 hK18=>?_));refine aD (fun K19 hK19=>?_);refine wp_region_lit (aA (aB) ?_);simp only[cB,bJ,bR,List.getD_cons_succ,List.getD_cons_zero,List.set_cons_succ,List.set_cons_zero];refine aA (Jz rfl rfl (by omega)) ?_;simp only[cB,bJ,bR,List.getD_cons_succ,List.getD_cons_zero,List.set_cons_succ,List.set_cons_zero];refine aG (hK19 _ _ ?_);refine cG rfl (aD (fun K20 hK20=>?_));refine wp_region_lit (aA (aC) ?_);simp only[cB,bJ,bR,List.getD_cons_succ,List.getD_cons_zero,List.set_cons_succ,List.set_cons_zero];refine aA (aC) ?_;simp only[cB,bJ,bR,List.getD_cons_succ,List.getD_cons_zero,List.set_cons_succ,List.set_cons_zero];refine aG (hK20 _ _ ?_);refine wp_ret ?_;try simp only[Exit.inBlock,Exit.then]
     refine kE rfl rfl rfl ?_;try simp only[List.getD_cons_succ,List.getD_cons_zero]
     exact ⟨_,rfl,hX,Bo h3⟩
    ·
     rw [h1] at hB1;refine wp_region_lit (aA (aN (c:=0) gN rfl fF rfl rfl) ?_);simp only[cB,bJ,bR,List.getD_cons_succ,List.getD_cons_zero,List.set_cons_succ,List.set_cons_zero];refine aK rfl (hB1.lies1 jR rfl) ?_;simp only[cB,bJ,bR,List.getD_cons_succ,List.getD_cons_zero,List.set_cons_succ,List.set_cons_zero];refine aA (aB) ?_;simp only[cB,bJ,bR,List.getD_cons_succ,List.getD_cons_zero,List.set_cons_succ,List.set_cons_zero];refine cD rfl ?_;simp only[cB,bJ,bR,List.getD_cons_succ,List.getD_cons_zero,List.set_cons_succ,List.set_cons_zero];refine cD rfl ?_;simp only[cB,bJ,bR,List.getD_cons_succ,List.getD_cons_zero,List.set_cons_succ,List.set_cons_zero];refine aA (fL rfl) ?_;simp only[cB,bJ,bR,List.getD_cons_succ,List.getD_cons_zero,List.set_cons_succ,List.set_cons_zero];refine aG (hK13 _ _ ?_);refine iO rfl (wp_skip ?_);refine hK12 _ _ (aD (fun K21 hK21=>?_));refine aD (fun K22 hK22=>?_);refine wp_region_lit (aA (aB) ?_);simp only[cB,bJ,bR,List.getD_cons_succ,List.getD_cons_zero,List.set_cons_succ,List.set_cons_zero];refine aA (Ya rfl rfl (by omega)) ?_;simp only[cB,bJ,bR,List.getD_cons_succ,List.getD_cons_zero,List.set_cons_succ,List.set_cons_zero];refine aG (hK22 _ _ ?_);refine iO rfl (wp_skip ?_);refine hK21 _ _ (aD (fun K23 hK23=>?_));refine wp_region_lit (aA (aB) ?_);simp only[cB,bJ,bR,List.getD_cons_succ,List.getD_cons_zero,List.set_cons_succ,List.set_cons_zero];refine aA (jU jC oD rfl (aM (by omega) (by omega))) ?_;simp only[cB,bJ,bR,List.getD_cons_succ,List.getD_cons_zero,List.set_cons_succ,List.set_cons_zero];refine aA (aC) ?_;simp only[cB,bJ,bR,List.getD_cons_succ,List.getD_cons_zero,List.set_cons_succ,List.set_cons_zero];refine aA (aC) ?_;simp only[cB,bJ,bR,List.getD_cons_succ,List.getD_cons_zero,List.set_cons_succ,List.set_cons_zero];refine aG (hK23 _ _ ?_);refine wp_ret ?_;try simp only[Exit.inBlock,Exit.then]
     refine kE rfl rfl rfl ?_;try simp only[List.getD_cons_succ,List.getD_cons_zero]
     exact ⟨_,rfl,hX,Dm h3 h4.symm⟩
end Go.Proofs.YtfohfflkhpfjeaaGreatDoor
namespace Go.Proofs.YtfohfflkhpfjeaaGreatDoor
open Go.Proofs.Tryz
open Go.RowKit Go.Lith
set_option maxRecDepth 100000
attribute [local irreducible] wpList wpQuiet dY dQ dO Code.wp
end Go.Proofs.YtfohfflkhpfjeaaGreatDoor
namespace Go.Proofs.YtfohfflkhpfjeaaGreatDoor
open Go.Proofs.Tryz
open Go.RowKit Go.Lith
set_option maxRecDepth 100000
attribute [local irreducible] wpList wpQuiet dY dQ dO Code.wp
instance : Iw 1:=⟨by unfold nR;decide⟩
end Go.Proofs.YtfohfflkhpfjeaaGreatDoor
namespace Go.Proofs.YtfohfflkhpfjeaaGreatDoor
open Go.Proofs.Tryz
open Go.RowKit Go.Lith
set_option maxRecDepth 100000
attribute [local irreducible] wpList wpQuiet dY dQ dO Code.wp
theorem abm {p q : P3} [I3 p] [I3 q] : jG prog 90 [pt p,pt q] (wv (q.sub p)):=by
 intro w;refine ⟨agq,?_⟩;have m:=cA.refl w
 go_enter func90,ntmps90
 refine aD fun K1 k1=>wp_region_lit (eP m rfl ?_);clear m;intro g1 u m;simp only[zz];refine eP m rfl ?_;clear m;intro g2 u m;simp only[zz];refine bF m Ey rfl ?_;clear m;intro g3 u m;refine aG (k1 _ _ ?_);refine aD fun K2 k2=>?_;simp only[zz];refine jM 8 [0,1,2,3,4,5,6] [⟨7,5,65,[.bool false,.string ⟨#[]⟩]⟩] aO (by kernel_rfl) (al1 ⟨_,_,_,rfl,by kernel_rfl,_,fC,rfl⟩) (ol:=?_) ?hol ?_
 case hol=>simp only[zw,zQ,zR];try rfl
 intro u e;replace m:=m.ext' e;clear e;refine gX (aN (c:=0) eD rfl bD rfl rfl) ?_;simp only[zz];refine lU rfl (fun u e=>(((m.ext' e).b 1 rfl).lies1 bT rfl)) ?_;simp only[zz];refine kI rfl rfl (uB Iw.h) (gX (aN (c:=0) eD rfl bD rfl rfl) ?_);simp only[zz];refine lU rfl (fun u e=>(((m.ext' e).b 2 rfl).lies1 bT rfl)) ?_;simp only[zz];refine kI rfl rfl (uB Iw.h) ?_;simp only[zz];refine kI rfl rfl (Ls Bw.up Bw.up) (Ib ?_);simp only[zz];refine mf1 m ?_;clear m;intro g4 u m;simp only[zJ,zK,zF,zG];refine aS m 0 rfl rfl rfl aR (dZ rfl) rfl ?_;clear m;intro u m;simp only[zy,zx,bG,zF,zG,Nat.reduceAdd] at m;refine aG (k2 _ _ ?_);refine aD fun K3 k3=>?_;refine jM 8 [0,1,2,3,4,5,6] [⟨7,6,65,[.bool false,.string ⟨#[]⟩]⟩] aO (by kernel_rfl) (al1 ⟨_,_,_,rfl,by kernel_rfl,_,fC,rfl⟩) (ol:=?_) ?hol ?_
 case hol=>simp only[zw,zQ,zR];try rfl
 intro u e;replace m:=m.ext' e;clear e;refine gX (aN (c:=0) eD rfl bD rfl rfl) ?_;simp only[zz];refine lU rfl (fun u e=>(((m.ext' e).b 2 rfl).lies1 bT rfl)) ?_;simp only[zz];refine kI rfl rfl (uB Iw.h) (gX (aN (c:=0) eD rfl bD rfl rfl) ?_);simp only[zz];refine lU rfl (fun u e=>(((m.ext' e).b 3 rfl).lies1 bT rfl)) ?_;simp only[zz];refine kI rfl rfl (uB Iw.h) ?_;simp only[zz];refine kI rfl rfl (Ls Bw.up Bw.up) (Ib ?_);simp only[zz];refine mf1 m ?_;clear m;intro g5 u m;simp only[zJ,zK,zF,zG];refine aS m 0 rfl rfl rfl aR (dZ rfl) rfl ?_;clear m;intro u m;simp only[zy,zx,bG,zF,zG,Nat.reduceAdd] at m;refine aG (k3 _ _ ?_);refine aD fun K4 k4=>?_;refine jM 8 [0,1,2,3,4,5,6] [⟨7,7,65,[.bool false,.string ⟨#[]⟩]⟩] aO (by kernel_rfl) (al1 ⟨_,_,_,rfl,by kernel_rfl,_,fC,rfl⟩) (ol:=?_) ?hol ?_
 case hol=>simp only[zw,zQ,zR];try rfl
 intro u e;replace m:=m.ext' e;clear e;refine gX (aN (c:=0) eD rfl bD rfl rfl) ?_;simp only[zz];refine lU rfl (fun u e=>(((m.ext' e).b 3 rfl).lies1 bT rfl)) ?_;simp only[zz];refine kI rfl rfl (uB Iw.h) (gX (aN (c:=0) eD rfl bD rfl rfl) ?_);simp only[zz];refine lU rfl (fun u e=>(((m.ext' e).b 4 rfl).lies1 bT rfl)) ?_;simp only[zz];refine kI rfl rfl (uB Iw.h) ?_;simp only[zz];refine kI rfl rfl (Ls Bw.up Bw.up) (Ib ?_);simp only[zz];refine mf1 m ?_;clear m;intro g6 u m;simp only[zJ,zK,zF,zG];refine aS m 0 rfl rfl rfl aR (dZ rfl) rfl ?_;clear m;intro u m;simp only[zy,zx,bG,zF,zG,Nat.reduceAdd] at m;refine aG (k4 _ _ ?_);refine aD fun K5 k5=>wp_region_lit (aK rfl ((m.b 2 rfl).full bY aR) ?_);simp only[zz];refine aK rfl ((m.b 1 rfl).full bY aR) ?_;simp only[zz];refine aK rfl ((m.b 0 rfl).full bY aR) ?_;simp only[zz];refine aA (yU rfl rfl rfl) ?_;simp only[zz];refine aS m 3 rfl rfl rfl sF (dZ rfl) rfl ?_;clear m;intro u m;simp only[zy,zx,bG,zF,zG,Nat.reduceAdd] at m;refine aG (k5 _ _ ?_);refine wp_ret ?_;try simp only[Exit.inBlock,Exit.then,if_true]
 refine bO rfl ⟨_,rfl,((m.b 3 rfl).full Kw sF)⟩ ?_;try simp only[zD,zE]
 exact ⟨_,rfl,m.ext,rfl⟩
theorem Sl {u v : P3} (hu : Bv 400000 u) (hv : Bv 400000 v) : jG prog 91 [wv u,wv v] (W (u.dot v)):=by
 intro w;refine ⟨agr,?_⟩;have m:=cA.refl w
 go_enter func91,ntmps91
 refine aD fun K1 k1=>wp_region_lit (eP m rfl ?_);clear m;intro g1 u m;simp only[zz];refine eP m rfl ?_;clear m;intro g2 u m;simp only[zz];refine bF m fC rfl ?_;clear m;intro g3 u m;refine aG (k1 _ _ ?_);refine aD fun K2 k2=>?_;simp only[zz];refine jM 12 [0,1,2,3,4,5,6,7,8,9,10] [⟨11,5,65,[.bool false,.string ⟨#[]⟩]⟩] aO (by kernel_rfl) (al1 ⟨_,_,_,rfl,by kernel_rfl,_,fC,rfl⟩) (ol:=?_) ?hol ?_
 case hol=>simp only[zw,zQ,zR];try rfl
 intro u e;replace m:=m.ext' e;clear e;refine gX (aH vD aR rfl rfl (by decide) (by decide) rfl) ?_;simp only[zz];refine lU rfl (fun u e=>(((m.ext' e).b 2 rfl).lies bY aR rfl rfl)) ?_;simp only[zz,zy,Nat.zero_add,Nat.reduceAdd,Nat.reduceMul,Int.reduceToNat];refine gX (aH vD aR rfl rfl (by decide) (by decide) rfl) ?_;simp only[zz];refine lU rfl (fun u e=>(((m.ext' e).b 1 rfl).lies bY aR rfl rfl)) ?_;simp only[zz,zy,Nat.zero_add,Nat.reduceAdd,Nat.reduceMul,Int.reduceToNat];refine kI rfl rfl (Lu Bw.up Bw.up) (gX (aH vD aR rfl rfl (by decide) (by decide) rfl) ?_);simp only[zz];refine lU rfl (fun u e=>(((m.ext' e).b 2 rfl).lies bY aR rfl rfl)) ?_;simp only[zz,zy,Nat.zero_add,Nat.reduceAdd,Nat.reduceMul,Int.reduceToNat];refine gX (aH vD aR rfl rfl (by decide) (by decide) rfl) ?_;simp only[zz];refine lU rfl (fun u e=>(((m.ext' e).b 1 rfl).lies bY aR rfl rfl)) ?_;simp only[zz,zy,Nat.zero_add,Nat.reduceAdd,Nat.reduceMul,Int.reduceToNat];refine kI rfl rfl (Lu Bw.up Bw.up) ?_;simp only[zz];refine kI rfl rfl (Lr Bw.up Bw.up) (Ib ?_);simp only[zz];refine mf1 m ?_;clear m;intro g4 u m;simp only[zJ,zK,zF,zG];refine aS m 0 rfl rfl rfl aR (dZ rfl) rfl ?_;clear m;intro u m;simp only[zy,zx,bG,zF,zG,Nat.reduceAdd] at m;refine aG (k2 _ _ ?_);refine aD fun K3 k3=>?_;refine iU m 7 aO (by kernel_rfl) ?_;simp only[zy];refine ql rfl (fun u m=>((m.b 0 rfl).full bY aR)) ?_;simp only[zz];refine aL (aH vD aR rfl rfl (by decide) (by decide) rfl) ?_;simp only[zz];refine ql rfl (fun u m=>((m.b 3 rfl).lies bY aR rfl rfl)) ?_;simp only[zz,zy,Nat.zero_add,Nat.reduceAdd,Nat.reduceMul,Int.reduceToNat];refine aL (aH vD aR rfl rfl (by decide) (by decide) rfl) ?_;simp only[zz];refine ql rfl (fun u m=>((m.b 2 rfl).lies bY aR rfl rfl)) ?_;simp only[zz,zy,Nat.zero_add,Nat.reduceAdd,Nat.reduceMul,Int.reduceToNat];refine tJ rfl rfl (Lu Bw.up Bw.up) ?_;simp only[zz];refine tJ rfl rfl (Lr Bw.up Bw.up) (dK ?_);clear m;intro u m;simp only[zz];refine aS m 1 rfl rfl rfl aR (dZ rfl) rfl ?_;clear m;intro u m;simp only[zy,zx,bG,zF,zG,Nat.reduceAdd] at m;refine aG (k3 _ _ ?_);refine wp_ret ?_;try simp only[Exit.inBlock,Exit.then,if_true]
 refine bO rfl ⟨_,rfl,((m.b 1 rfl).full bY aR)⟩ ?_;try simp only[zD,zE]
 exact ⟨_,rfl,m.ext,rfl⟩
theorem abn {p q : P3} [I3 p] [I3 q] : jG prog 48 [pt p,pt q] (W ((q.sub p).dot (q.sub p))):=by
 intro w;refine ⟨afL,?_⟩;have m:=cA.refl w
 go_enter func48,ntmps48
 refine aD fun K1 k1=>wp_region_lit (eP m rfl ?_);clear m;intro g1 u m;simp only[zz];refine eP m rfl ?_;clear m;intro g2 u m;simp only[zz];refine bF m fC rfl ?_;clear m;intro g3 u m;refine aG (k1 _ _ ?_);refine aD fun K2 k2=>wp_region_lit ?_;simp only[zz];refine aK rfl ((m.b 2 rfl).full aJ aF) ?_;simp only[zz];refine aK rfl ((m.b 1 rfl).full aJ aF) ?_;simp only[zz];refine gG m rfl rfl (abm) ?_;clear m;intro u m;simp only[zz];refine bF m Ey rfl ?_;clear m;intro g4 u m;simp only[zz];refine aS m 0 rfl rfl rfl sF (dZ rfl) rfl ?_;clear m;intro u m;simp only[zy,zx,bG,zF,zG,Nat.reduceAdd] at m;refine aG (k2 _ _ ?_);refine aD fun K3 k3=>wp_region_lit (aK rfl ((m.b 0 rfl).full Kw sF) ?_);simp only[zz];refine aK rfl ((m.b 0 rfl).full Kw sF) ?_;simp only[zz];refine gG m rfl rfl (Sl Bv.of Bv.of) ?_;clear m;intro u m;simp only[zz];refine aS m 1 rfl rfl rfl aR (dZ rfl) rfl ?_;clear m;intro u m;simp only[zy,zx,bG,zF,zG,Nat.reduceAdd] at m;refine aG (k3 _ _ ?_);refine wp_ret ?_;try simp only[Exit.inBlock,Exit.then,if_true]
 refine bO rfl ⟨_,rfl,((m.b 1 rfl).full bY aR)⟩ ?_;try simp only[zD,zE]
 exact ⟨_,rfl,m.ext,rfl⟩
end Go.Proofs.YtfohfflkhpfjeaaGreatDoor
namespace Go.Proofs.YtfohfflkhpfjeaaGreatDoor
open Go.Proofs.Tryz
open Go.RowKit Go.Lith
set_option maxRecDepth 100000
attribute [local irreducible] wpList wpQuiet dY dQ dO Code.wp
theorem adi {n : Nat} : Bz (((eG n : Nat) : Int) * ((eG n : Nat) : Int) - (n : Int)) < 0 ↔ ¬ eG n * eG n = n:=by
 have h:=(tD n).1;have h2 : ((eG n : Nat) : Int) * ((eG n : Nat) : Int) = ((eG n * eG n : Nat) : Int):=by simp
 rw [h2];generalize eG n * eG n = r at h;unfold Bz;split
 · exact ⟨fun _=>by omega,fun _=>by omega⟩
 ·
  split
  · exact ⟨fun k=>by omega,fun k=>by omega⟩
  · exact ⟨fun k=>by omega,fun k=>by omega⟩
section
variable {fs gs : List T3} {ms : List Mv}
theorem ahn (hf : dH true fs = 0) (h : dH true gs ≠ 0) : gB fs gs ms = (0,dH true gs):=by
 rw [gB,if_neg (fun k=>k hf),if_pos h]
theorem agZ (hf : dH true fs = 0) (hg : dH true gs = 0) (h : ¬ aQ fs = aQ gs) : gB fs gs ms = (0,30):=by
 rw [gB,if_neg (fun k=>k hf),if_neg (fun k=>k hg),if_pos h]
theorem aho (hf : dH true fs = 0) (hg : dH true gs = 0) (hb : aQ fs = aQ gs) (h : jE fs gs (aQ fs) = true ∨ nU fs gs (aQ fs) = false) : gB fs gs ms = (0,30):=by
 rw [gB,if_neg (fun k=>k hf),if_neg (fun k=>k hg),if_neg (fun k=>k hb),if_pos h]
theorem Ud (hf : dH true fs = 0) (hg : dH true gs = 0) (hb : aQ fs = aQ gs) (h : ¬ (jE fs gs (aQ fs) = true ∨ nU fs gs (aQ fs) = false)) : gB fs gs ms = if lV fs gs ms (aQ fs) = false then ((0 : Int),(31 : Int)) else if kC fs gs ms = false then ((0 : Int),(32 : Int)) else match lR ms 0 with
 | some n=>(n,(0 : Int))
 | none=>((0 : Int),(3 : Int)):=by
 rw [gB,if_neg (fun k=>k hf),if_neg (fun k=>k hg),if_neg (fun k=>k hb),if_neg h];cases lR ms 0 <;> rfl
theorem ag0 {x y : Bool} (h : (x || !y) = true) : x = true ∨ y = false:=by revert h;cases x <;> cases y <;> decide
theorem ag1 {x y : Bool} (h : (x || !y) = false) : ¬ (x = true ∨ y = false):=by revert h;cases x <;> cases y <;> decide
end
theorem nob {b : Bool} (h : (!b) = true) : b = false:=by cases b <;> revert h <;> decide
theorem ag2 {b : Bool} (h : (!b) = false) : b = true:=by cases b <;> revert h <;> decide
theorem abo {x y : E3} : (x.1.x = y.1.x ∧ x.1.y = y.1.y ∧ x.1.z = y.1.z ∧ x.2.x = y.2.x ∧ x.2.y = y.2.y ∧ x.2.z = y.2.z) ↔ x = y :=
 ⟨fun ⟨h1,h2,h3,h4,h5,h6⟩=>Prod.ext (P3.eq h1 h2 h3) (P3.eq h4 h5 h6),fun h=>by rw [h];exact ⟨rfl,rfl,rfl,rfl,rfl,rfl⟩⟩
theorem Pj {p q : P3} [I3 p] [I3 q] : jG prog 25 [pt p,pt q] (.tuple #[.int .i64 (Lm (pT p q)),.bool (decide (nR (pT p q)))]):=by
 intro w;refine ⟨afq,?_⟩;have m:=cA.refl w
 go_enter func25,ntmps25
 refine aD fun K1 k1=>wp_region_lit (eP m rfl ?_);clear m;intro g1 u m;simp only[zz];refine eP m rfl ?_;clear m;intro g2 u m;refine aA (aC) (aA (aC) (aG (k1 _ _ ?_)));refine aD fun K2 k2=>wp_region_lit ?_;simp only[zz];refine aK rfl ((m.b 1 rfl).full aJ aF) ?_;simp only[zz];refine aK rfl ((m.b 0 rfl).full aJ aF) ?_;simp only[zz];refine gG m rfl rfl (abn (p:=p) (q:=q)) ?_;clear m;intro u m;simp only[zz];refine bF m fC rfl ?_;clear m;intro g3 u m;simp only[zz];refine aS m 0 rfl rfl rfl aR (dZ rfl) rfl ?_;clear m;intro u m;simp only[zy,zx,bG,zF,zG,Nat.reduceAdd] at m;refine aG ?_;rw [Lv] at m;refine k2 _ _ ?_;refine aD fun K3 k3=>wp_region_lit (aK rfl ((m.b 0 rfl).full bY aR) ?_);simp only[zz];refine gG m rfl rfl (acM (a:=((oO p q : Nat) : Int)) (pL.mono (by decide)) (by omega)) ?_;clear m;intro u m;refine aA (aB) (aA (bE rfl rfl) (aA (bE rfl rfl) ?_));simp only[zz];refine bF m fC rfl ?_;clear m;intro g4 u m;simp only[zz];refine aS m 0 rfl rfl rfl aR (dZ rfl) rfl ?_;clear m;intro u m;simp only[zy,zx,bG,zF,zG,Nat.reduceAdd] at m;refine aA (aC) (aG ?_);simp only[zz];rw [Int.natAbs_natCast] at m;refine k3 _ _ ?_;refine aD fun K4 k4=>aD fun K5 k5=>mq m aO (by kernel_rfl) (ql rfl (fun u m=>((m.b 0 rfl).full bY aR)) ?_);simp only[zz];refine ql rfl (fun u m=>((m.b 0 rfl).full bY aR)) ?_;simp only[zz];refine tJ rfl rfl (Lu (a:=((eG (oO p q) : Nat) : Int)) (b:=((eG (oO p q) : Nat) : Int)) ((uC pL).mono (by decide)) ((uC pL).mono (by decide))) ?_;simp only[zz];refine ql rfl (fun u m=>((m.b 1 rfl).full bY aR)) ?_;simp only[zz];refine tJ rfl rfl (aeF (a:=((eG (oO p q) : Nat) : Int) * ((eG (oO p q) : Nat) : Int)) (b:=((oO p q : Nat) : Int)) (((uC pL).mul (uC pL)).mono (by decide)) (pL.mono (by decide))) (aL (cE rfl rfl) (dK ?_));clear m;intro u m;refine k5 _ _ ?_;simp only[zz];refine pR m 0 [] [23,24,25] (fun vs i=>vs = [] ∧ i = bI g4 [.bool (iJ (pT p q)),.string (nC (pT p q))] 65) ?_ ?_
 ·
  refine bZ rfl (fun hc1=>?_) (fun hc1=>?_)
  ·
   have hsq:=adi.1 hc1;refine iU m 3 aO (by kernel_rfl) ?_;simp only[zy];refine ql rfl (fun u m=>((m.b 0 rfl).full bY aR)) ?_;simp only[zz];refine tJ rfl rfl (uB (n:=1) (show nR 1 by unfold nR;decide)) ?_;simp only[zz];refine tJ rfl rfl (Lr (a:=((eG (oO p q) : Nat) : Int)) (b:=1) ((uC pL).mono (by decide)) Bw.up) (dK ?_);clear m;intro u m;simp only[zz];refine aS m 0 rfl rfl rfl aR (dZ rfl) rfl ?_;clear m;intro u m;simp only[zy,zx,bG,zF,zG,Nat.reduceAdd] at m;refine aG ?_;rw [Ua hsq] at m;simp only[Exit.inBlock,Exit.then];refine ⟨_,_,rfl,?_,m,?_⟩
   · simp only[zz,zv]
   ·
    simp only[zQ,zR,zD,zE];exact ⟨trivial,trivial⟩
  ·
   have hsq:=Classical.not_not.1 (mt adi.2 hc1);refine wp_skip ?_;rw [Ph hsq] at m;simp only[Exit.inBlock,Exit.then];refine ⟨_,_,rfl,?_,m,?_⟩
   · simp only[zz,zv]
   ·
    simp only[zQ,zR,zD,zE];exact ⟨trivial,trivial⟩
 ·
  intro vs i wr m hI u;obtain ⟨rfl,rfl⟩:=hI;simp only[zF,zG] at m;simp only[zu,zF,zG];refine k4 _ _ ?_;refine aD fun K6 k6=>wp_region_lit (aK rfl ((m.b 0 rfl).full bY aR) ?_);simp only[zz];refine gG m rfl rfl (aeK (a:=pT p q) (Ub.mono (by decide))) ?_;clear m;intro u m;refine aA (bE rfl rfl) (aA (bE rfl rfl) (aA (aC) ?_));simp only[zz];refine aA (aC) (aG (k6 _ _ ?_));refine wp_ret ?_;simp only[zz];try simp only[Exit.inBlock,Exit.then,if_true]
  refine kE rfl rfl rfl ?_;try simp only[zD,zE]
  exact ⟨_,rfl,m.ext,rfl⟩
theorem Xq {fs gs : List T3} {ms : List Mv} {N cap N2 cap2 N3 cap3 : Nat} {A A2 A3 : Option Addr} (w : World) (hT : eO w A N fs) (hT2 : eO w A2 N2 gs) (hL3 : nS bU 6 w A3 N3 ms) (hN : N ≤ 300000) (hN2 : N2 ≤ 300000) (hN3 : N3 ≤ 10000000) (hI : ∀ mv ∈ ms,I3 mv.1 ∧ I3 mv.2) (hcap : N ≤ cap) (hcap2 : N2 ≤ cap2) : eK prog 24 [.slice A N cap,.slice A2 N2 cap2,.slice A3 N3 cap3] w (fun v _=>v = .tuple #[.int .i64 (gB fs gs ms).1,.int .i64 (gB fs gs ms).2]):=by
 refine ⟨afp,?_⟩;have m:=cA.refl w;have hblf : (aQ fs).length ≤ 1000000:=by have h1:=qF (all:=aV fs) (aV fs) [];have h2:=kW fs;have h3:=hT.len;simp only[List.length_nil] at h1;unfold aQ;omega
 have hblg : (aQ gs).length ≤ 1000000:=by have h1:=qF (all:=aV gs) (aV gs) [];have h2:=kW gs;have h3:=hT2.len;simp only[List.length_nil] at h1;unfold aQ;omega
 go_enter func24,ntmps24
 refine aD fun K1 k1=>wp_region_lit (aA (aC) (aA (aC) (aG (k1 _ _ ?_))));refine aD fun K2 k2=>wp_region_lit (aA (aB) ?_);simp only[zz];refine eH m rfl rfl (tS _ (hT.ext m.ext) (by omega)) ?_;clear m;rintro v u m rfl;refine aA (aC) (aG (k2 _ _ ?_));refine aD fun K3 k3=>aD fun K4 k4=>wp_region_lit (aA (aB) (aA (lG rfl rfl) ?_));simp only[zz];refine aG (k4 _ _ ?_);refine bZ rfl (fun hc1=>?_) (fun hc1=>?_)
 ·
  refine aD fun K5 k5=>wp_region_lit (aA (aB) (aA (aC) (aA (aC) (aG (k5 _ _ ?_)))));refine wp_ret ?_;simp only[zz];try simp only[Exit.inBlock,Exit.then,if_true]
  refine kE rfl rfl rfl ?_;try simp only[zD,zE]
  exact ⟨_,rfl,m.ext,by rw [aa5 hc1]⟩
 ·
  have hf : dH true fs = 0:=Classical.not_not.1 hc1;refine wp_skip (k3 _ _ ?_);refine aD fun K6 k6=>wp_region_lit (aA (aB) ?_);simp only[zz];refine eH m rfl rfl (tS _ (hT2.ext m.ext) (by omega)) ?_;clear m;rintro v u m rfl;refine aA (aC) (aG (k6 _ _ ?_));refine aD fun K7 k7=>aD fun K8 k8=>wp_region_lit (aA (aB) (aA (lG rfl rfl) ?_));simp only[zz];refine aG (k8 _ _ ?_);refine bZ rfl (fun hc2=>?_) (fun hc2=>?_)
  ·
   refine aD fun K9 k9=>wp_region_lit (aA (aB) (aA (aC) (aA (aC) (aG (k9 _ _ ?_)))));refine wp_ret ?_;simp only[zz];try simp only[Exit.inBlock,Exit.then,if_true]
   refine kE rfl rfl rfl ?_;try simp only[zD,zE]
   exact ⟨_,rfl,m.ext,by rw [ahn hf hc2]⟩
  ·
   have hg : dH true gs = 0:=Classical.not_not.1 hc2;refine wp_skip (k7 _ _ ?_);refine aD fun K10 k10=>wp_region_lit (aA (aB) ?_);simp only[zz];refine bA rfl rfl (Ff _ (hT.ext m.ext) (by omega)) ?_;rintro v u e ⟨A4,c4,n4,hn4,rfl,hN⟩;replace m:=m.newO e hN;clear e hN;subst hn4;refine aA (aC) (aG (k10 _ _ ?_));refine aD fun K11 k11=>wp_region_lit (aA (aB) ?_);simp only[zz];refine bA rfl rfl (Ff _ (hT2.ext m.ext) (by omega)) ?_;rintro v u e ⟨A5,c5,n5,hn5,rfl,hN⟩;replace m:=m.newO e hN;clear e hN;subst hn5;refine aA (aC) (aG (k11 _ _ ?_));refine aD fun K12 k12=>aD fun K13 k13=>wp_region_lit (aA (aB) (aA (aW rfl fI rfl) ?_));simp only[zz];refine aA (aB) (aA (aW rfl fI rfl) (aA (lG rfl rfl) (aG (k13 _ _ ?_))));simp only[zz];refine bZ rfl (fun hc3=>?_) (fun hc3=>?_)
   ·
    have hne : ¬ aQ fs = aQ gs:=fun h=>hc3 (by rw [h]);refine aD fun K14 k14=>wp_region_lit (aA (aC) (aA (aC) (aG (k14 _ _ ?_))));refine wp_ret ?_;simp only[zz];try simp only[Exit.inBlock,Exit.then,if_true]
    refine kE rfl rfl rfl ?_;try simp only[zD,zE]
    exact ⟨_,rfl,m.ext,by rw [agZ hf hg hne]⟩
   ·
    have hlen : (aQ fs).length = (aQ gs).length:=by omega
    refine wp_skip (k12 _ _ ?_);refine aD fun K15 k15=>aD fun K16 k16=>wp_region_lit (aA (aC) (aG (k16 _ _ ?_)));refine wp_block ?_;simp only[zz];try simp only[Nat.zero_add,Nat.reduceAdd,Nat.reduceMul,Int.reduceToNat]
    refine bH [11] [6,7,39,40,41,42,43,44,45,46,47,48,49,50,51,52,53] (fun n vs wl=>∃ (k : Nat),vs = [.int .i64 (k:Int)] ∧ cA w wl [oI 57 6 A5 (aQ gs).length c5 ((aQ gs).flatMap bU),oI 57 6 A4 (aQ fs).length c4 ((aQ fs).flatMap bU)] ∧ ((aQ fs).take k = (aQ gs).take k) ∧ (k ≤ (aQ fs).length) ∧ (n = (aQ fs).length - k)) ?_ ?_
    ·
     apply Exists.intro;simp only[zQ,zR,zD,zE];exact ⟨0,rfl,m,rfl,Nat.zero_le _,rfl⟩
    ·
     intro n vs wr hI u;clear m;obtain ⟨k,rfl,m,hpre,hk,hn⟩:=hI;simp only[zu,zF,zG];refine aD fun K17 k17=>aD fun K18 k18=>wp_region_lit (aA (aB) (aA (aB) (aA (aW rfl fI rfl) (aA (cE rfl rfl) ?_))));simp only[zz];refine aG (k18 _ _ ?_);refine bZ rfl (fun hc4=>?_) (fun hc4=>?_)
     ·
      obtain ⟨e,he⟩ : ∃ e,(aQ fs)[k]? = some e:=⟨_,List.getElem?_eq_getElem (by omega)⟩
      obtain ⟨e2,he2⟩ : ∃ e,(aQ gs)[k]? = some e:=⟨_,List.getElem?_eq_getElem (by omega)⟩
      obtain ⟨gO,rfl⟩:=(m.o 1 rfl).some (by omega);obtain ⟨gP,rfl⟩:=(m.o 0 rfl).some (by omega);refine wp_skip (k17 _ _ ?_);refine aD fun K19 k19=>wp_block (aD fun K20 k20=>mq m aO (by kernel_rfl) (aL (aB) (aL (aB) ?_)));simp only[zz];refine aL (aI fI cF rfl rfl (by omega) (by omega) (bV (Int.toNat_natCast _))) ?_;simp only[zz];refine ql rfl (fun u m=>(((m.o 1 rfl).at qT he).lies kK cF)) ?_;simp only[zz];refine aL (aB) (aL (aB) ?_);simp only[zz];refine aL (aI fI cF rfl rfl (by omega) (by omega) (bV (Int.toNat_natCast _))) ?_;simp only[zz];refine ql rfl (fun u m=>(((m.o 0 rfl).at qT he2).lies kK cF)) ?_;simp only[zz];refine aL (Is rfl rfl) (dK ?_);clear m;intro u m;refine k20 _ _ ?_;simp only[zz];refine bZ rfl (fun hc5=>?_) (fun hc5=>?_)
      ·
       have hne : ¬ aQ fs = aQ gs:=fun h=>by rw [h] at he;exact hc5 (abo.2 (Option.some.inj (he.symm.trans he2)))
       refine aD fun K21 k21=>wp_region_lit (aA (aC) (aA (aC) (aG (k21 _ _ ?_))));refine wp_ret ?_;simp only[zz];try simp only[Exit.inBlock,Exit.then,if_true]
       refine kE rfl rfl rfl ?_;try simp only[zD,zE]
       exact ⟨_,rfl,m.ext,by rw [agZ hf hg hne]⟩
      ·
       have hpre2 : (aQ fs).take (k + 1) = (aQ gs).take (k + 1):=by rw [dF he,dF he2,hpre,abo.1 (Classical.not_not.1 hc5)]
       refine wp_skip (k19 _ _ ?_);refine wp_region_lit (aA (aB) ?_);simp only[zz];refine aA (aP rfl rfl (aM (by omega) (by omega))) (aA (aC) (aG ?_));simp only[zz];simp only[Exit.inBlock,Exit.then];refine ⟨(aQ fs).length - (k + 1),_,?_,rfl,?_,?_⟩
       · omega
       · simp only[zz,zv]
       ·
        simp only[zQ,zR,zD,zE];exact ⟨k + 1,rfl,m,hpre2,by omega,rfl⟩
     ·
      have hbe : aQ fs = aQ gs:=by rw [List.take_of_length_le (by omega),List.take_of_length_le (by omega)] at hpre;exact hpre
      refine wp_exit (k15 _ _ ?_);refine aD fun K22 k22=>wp_region_lit (aA (aB) (aA (aB) (aA (aB) ?_)));simp only[zz];refine eH m rfl rfl (aaK _ (hT.lat.ext m.ext) (hT2.lat.ext m.ext) ((m.o 1 rfl).lat qT (by decide)) (by omega) (by omega) (by omega) hcap) ?_;clear m;rintro v u m rfl;refine aA (aC) (aG (k22 _ _ ?_));refine aD fun K23 k23=>wp_region_lit (aA (aB) (aA (aB) ?_));simp only[zz];refine aA (aB) ?_;simp only[zz];refine eH m rfl rfl (ack _ (hT.lat.ext m.ext) (hT2.lat.ext m.ext) ((m.o 1 rfl).lat qT (by decide)) (by omega) (by omega) (by omega) (qO hf).1 (qO hg).1) ?_;clear m;rintro v u m rfl;refine aA (aC) (aG (k23 _ _ ?_));refine aD fun K24 k24=>aD fun K25 k25=>wp_region_lit (aA (aB) (aA (aB) ?_));simp only[zz];refine fH rfl (fun hb=>aB) (fH rfl (fun hb=>fQ (bK hb rfl)) (aA (fT rfl rfl rfl) (aG (k25 _ _ ?_))));simp only[zz];refine eE rfl (fun hc6=>?_) (fun hc6=>?_)
      ·
       have hj:=ag0 hc6;refine aD fun K26 k26=>wp_region_lit (aA (aC) (aA (aC) (aG (k26 _ _ ?_))));refine wp_ret ?_;simp only[zz];try simp only[Exit.inBlock,Exit.then,if_true]
       refine kE rfl rfl rfl ?_;try simp only[zD,zE]
       exact ⟨_,rfl,m.ext,by rw [aho hf hg hbe hj]⟩
      ·
       have hj:=ag1 hc6;refine wp_skip (k24 _ _ ?_);refine aD fun K27 k27=>wp_region_lit (aA (aB) (aA (aB) (aA (aB) (aA (aB) ?_))));simp only[zz];refine eH m rfl rfl (aaQ _ (hT.lat.ext m.ext) (hT2.lat.ext m.ext) (hL3.ext m.ext) ((m.o 1 rfl).lat qT (by decide)) (by omega) (by omega) (by omega) (by omega)) ?_;clear m;rintro v u m rfl;refine aA (aC) (aG (k27 _ _ ?_));refine aD fun K28 k28=>aD fun K29 k29=>wp_region_lit (aA (aB) (aA (fQ rfl) ?_));simp only[zz];refine aG (k29 _ _ ?_);refine eE rfl (fun hc7=>?_) (fun hc7=>?_)
       ·
        have hmv:=nob hc7;refine aD fun K30 k30=>wp_region_lit (aA (aC) (aA (aC) (aG (k30 _ _ ?_))));refine wp_ret ?_;simp only[zz];try simp only[Exit.inBlock,Exit.then,if_true]
        refine kE rfl rfl rfl ?_;try simp only[zD,zE]
        exact ⟨_,rfl,m.ext,by rw [Ud hf hg hbe hj,hmv];rfl⟩
       ·
        have hmv:=ag2 hc7;refine wp_skip (k28 _ _ ?_);refine aD fun K31 k31=>wp_region_lit (aA (aB) (aA (aB) (aA (aB) ?_)));simp only[zz];refine eH m rfl rfl (Rz _ (hT.lat.ext m.ext) (hT2.lat.ext m.ext) (hL3.ext m.ext) (by omega) (by omega) (by omega) hcap2 (by omega)) ?_;clear m;rintro v u m rfl;refine aA (aC) (aG (k31 _ _ ?_));refine aD fun K32 k32=>aD fun K33 k33=>wp_region_lit (aA (aB) (aA (fQ rfl) ?_));simp only[zz];refine aG (k33 _ _ ?_);refine eE rfl (fun hc8=>?_) (fun hc8=>?_)
        ·
         have hcv:=nob hc8;refine aD fun K34 k34=>wp_region_lit (aA (aC) (aA (aC) (aG (k34 _ _ ?_))));refine wp_ret ?_;simp only[zz];try simp only[Exit.inBlock,Exit.then,if_true]
         refine kE rfl rfl rfl ?_;try simp only[zD,zE]
         exact ⟨_,rfl,m.ext,by rw [Ud hf hg hbe hj,hmv,hcv];rfl⟩
        ·
         have hcv:=ag2 hc8;refine wp_skip (k32 _ _ ?_);refine aD fun K35 k35=>wp_region_lit (aA (aC) (aG (k35 _ _ ?_)));refine aD fun K36 k36=>aD fun K37 k37=>wp_region_lit (aA (aC) (aG (k37 _ _ ?_)));refine wp_block ?_;simp only[zz];try simp only[Nat.zero_add,Nat.reduceAdd,Nat.reduceMul,Int.reduceToNat]
         refine bH [16,17] [6,7,18,19,80,81,82,83,84,85,86,87,88,89,90,91,92,93,94,95,96,97,98,99,100,101,102,103,104] (fun n vs wl=>∃ (k : Nat) (y : Int),vs = [.int .i64 y,.int .i64 (k:Int)] ∧ cA w wl [] ∧ (lR ms 0 = lR (ms.drop k) y) ∧ (k ≤ N3) ∧ (n = N3 - k)) ?_ ?_
         ·
          apply Exists.intro;simp only[zQ,zR,zD,zE];exact ⟨0,_,rfl,(m.sel [false,false]),rfl,Nat.zero_le _,rfl⟩
         ·
          intro n vs wr hI u;clear m;obtain ⟨k,y,rfl,m,hme,hk,hn⟩:=hI;simp only[zu,zF,zG];refine aD fun K38 k38=>aD fun K39 k39=>wp_region_lit (aA (aB) (aA (aB) (aA (aW rfl kB rfl) (aA (cE rfl rfl) ?_))));simp only[zz];refine aG (k39 _ _ ?_);refine bZ rfl (fun hc9=>?_) (fun hc9=>?_)
          ·
           obtain ⟨mv,hmv2,a3,rfl,hrow3⟩:=hL3.get (i:=k) (by omega);haveI:=(hI mv (List.mem_of_getElem? hmv2)).1;haveI:=(hI mv (List.mem_of_getElem? hmv2)).2;refine wp_skip (k38 _ _ ?_);refine aD fun K40 k40=>wp_block (aD fun K41 k41=>mq m aO (by kernel_rfl) (aL (aB) (aL (aB) ?_)));simp only[zz];refine aL (aI kB fO rfl rfl (by omega) (by omega) (bV (Int.toNat_natCast _))) (aL (aN (c:=2) jI rfl aF rfl rfl) ?_);simp only[zz];refine ql rfl (fun u m=>((rP (hrow3.ext m.ext)).lies aJ aF)) ?_;simp only[zz];refine aL (aB) (aL (aB) ?_);simp only[zz];refine aL (aI kB fO rfl rfl (by omega) (by omega) (bV (Int.toNat_natCast _))) (aL (aN (c:=2) jI rfl aF rfl rfl) ?_);simp only[zz];refine ql rfl (fun u m=>((vN (hrow3.ext m.ext)).lies aJ aF)) ?_;simp only[zz];refine tJ rfl rfl (Pj (p:=mv.1) (q:=mv.2)) (aL (aB) (aL (bE rfl rfl) (aL (bE rfl rfl) ?_)));simp only[zz];refine aL (aC) (aL (aC) (dK ?_));clear m;intro u m;refine k41 _ _ ?_;refine aD fun K42 k42=>aD fun K43 k43=>wp_region_lit (aA (aB) (aA (fQ rfl) ?_));simp only[zz];refine aG (k43 _ _ ?_);refine eE rfl (fun hc10=>?_) (fun hc10=>?_)
           ·
            have hc3 : ¬ nR (pT mv.1 mv.2):=by simpa using hc10
            have hno:=Uc hmv2 hme hc3;refine aD fun K44 k44=>wp_region_lit (aA (aC) (aA (aC) (aG (k44 _ _ ?_))));refine wp_ret ?_;simp only[zz];try simp only[Exit.inBlock,Exit.then,if_true]
            refine kE rfl rfl rfl ?_;try simp only[zD,zE]
            exact ⟨_,rfl,m.ext,by rw [Ud hf hg hbe hj,hmv,hcv,hno];rfl⟩
           ·
            have hc3 : nR (pT mv.1 mv.2):=by simpa using hc10
            have hme2:=Pi hmv2 hme hc3;refine wp_skip (k42 _ _ ?_);rw [Lm,if_pos hc3];refine wp_region_lit (aA (aB) (aA (aB) (aA (acW rfl rfl (Tz _ _)) (aA (aC) ?_))));simp only[zz];refine aG (k40 _ _ ?_);refine wp_region_lit (aA (aB) ?_);simp only[zz];refine aA (aP rfl rfl (aM (by omega) (by omega))) (aA (aC) (aG ?_));simp only[zz];simp only[Exit.inBlock,Exit.then];refine ⟨N3 - (k + 1),_,?_,rfl,?_,?_⟩
            · omega
            · simp only[zz,zv]
            ·
             simp only[zQ,zR,zD,zE];exact ⟨k + 1,_,rfl,m,hme2,by omega,rfl⟩
          ·
           rw [List.drop_of_length_le (by rw [hL3.len];omega)] at hme;refine wp_exit (k36 _ _ ?_);refine aD fun K45 k45=>wp_region_lit (aA (aB) (aA (aC) (aA (aC) (aG (k45 _ _ ?_)))));refine wp_ret ?_;simp only[zz];try simp only[Exit.inBlock,Exit.then,if_true]
           refine kE rfl rfl rfl ?_;try simp only[zD,zE]
           exact ⟨_,rfl,m.ext,by rw [Ud hf hg hbe hj,hmv,hcv,hme];rfl⟩
theorem Pk {fs gs : List T3} {ms : List Mv} {N cap N2 cap2 N3 cap3 : Nat} {A A2 A3 : Option Addr} (w : World) (hT : eO w A N fs) (hT2 : eO w A2 N2 gs) (hL3 : nS bU 6 w A3 N3 ms) (hN : N ≤ 300000) (hN2 : N2 ≤ 300000) (hN3 : N3 ≤ 10000000) (hI : ∀ mv ∈ ms,I3 mv.1 ∧ I3 mv.2) (hcap : N ≤ cap) (hcap2 : N2 ≤ cap2) : eK prog 13 [.slice A N cap,.slice A2 N2 cap2,.slice A3 N3 cap3] w (fun v _=>v = .bool true):=by
 refine ⟨afh,?_⟩;have m:=cA.refl w
 go_enter func13,ntmps13
 refine aD fun K1 k1=>wp_region_lit (aA (aC) (aG (k1 _ _ ?_)));refine aD fun K2 k2=>wp_region_lit (aA (aB) (aA (aB) (aA (aB) ?_)));simp only[zz];refine eH m rfl rfl (qP _ (hT.ext m.ext) (hT2.ext m.ext) (hL3.ext m.ext) hN hN2 hN3 hI) ?_;clear m;rintro v u m rfl;refine aA (aB) (aA (bE rfl rfl) (aA (bE rfl rfl) ?_));simp only[zz];refine aA (aC) (aA (aC) (aG (k2 _ _ ?_)));refine aD fun K3 k3=>wp_region_lit (aA (aB) (aA (aB) ?_));simp only[zz];refine aA (aB) ?_;simp only[zz];refine eH m rfl rfl (Xq _ (hT.ext m.ext) (hT2.ext m.ext) (hL3.ext m.ext) hN hN2 hN3 hI hcap hcap2) ?_;clear m;rintro v u m rfl;refine aA (aB) (aA (bE rfl rfl) (aA (bE rfl rfl) ?_));simp only[zz];refine aA (aC) (aA (aC) (aG (k3 _ _ ?_)));refine aD fun K4 k4=>wp_region_lit (aA (aB) (aA (aB) ?_));simp only[zz];refine aA (pZ rfl rfl) (aA (aB) (cW rfl (fun hb=>aB) (cW rfl (fun hb=>aB) ?_)));simp only[zz];refine cW rfl (fun hb=>pZ (bK hb rfl) (bK hb rfl)) (aA (cK rfl rfl rfl) (aA (aC) (aG (k4 _ _ ?_))));refine wp_ret ?_;simp only[zz];try simp only[Exit.inBlock,Exit.then,if_true]
 refine bO rfl rfl ?_;try simp only[zD,zE]
 exact ⟨_,rfl,m.ext,by simp⟩
end Go.Proofs.YtfohfflkhpfjeaaGreatDoor
namespace Go.Lith
open Go.RowKit
theorem P3.lt_asymm {p q : P3} (h : p.Lt q) : ¬ q.Lt p:=fun k=>P3.lt_irrefl _ (P3.lt_trans h k)
theorem Gq {t : T3} (h : t.nd = true) : eC ⟨t.b,t.c,t.a⟩ = eC t:=by
 unfold T3.nd at h;simp only[Bool.and_eq_true,decide_eq_true_eq] at h;obtain ⟨⟨h1,h2⟩,h3⟩:=h;unfold eC;simp only;rcases P3.lt_tri t.a t.b with ab | ab | ab
 · rcases P3.lt_tri t.b t.c with bc | bc | bc
   · have ac:=P3.lt_trans ab bc
     simp [ab,bc,ac,P3.lt_asymm ab,P3.lt_asymm bc,P3.lt_asymm ac]
   · exact absurd bc h2
   · rcases P3.lt_tri t.a t.c with ac | ac | ac
     · simp [ab,bc,ac,P3.lt_asymm ab,P3.lt_asymm bc,P3.lt_asymm ac]
     · exact absurd ac.symm h3
     · simp [ab,bc,ac,P3.lt_asymm ab,P3.lt_asymm bc,P3.lt_asymm ac]
 · exact absurd ab h1
 · rcases P3.lt_tri t.b t.c with bc | bc | bc
   · rcases P3.lt_tri t.a t.c with ac | ac | ac
     · simp [ab,bc,ac,P3.lt_asymm ab,P3.lt_asymm bc,P3.lt_asymm ac]
     · exact absurd ac.symm h3
     · simp [ab,bc,ac,P3.lt_asymm ab,P3.lt_asymm bc,P3.lt_asymm ac]
   · exact absurd bc h2
   · have ca:=P3.lt_trans bc ab
     simp [ab,bc,ca,P3.lt_asymm ab,P3.lt_asymm bc,P3.lt_asymm ca]
theorem Dn {t : T3} : (⟨t.b,t.c,t.a⟩ : T3).nd = t.nd:=by
 unfold T3.nd;simp only;cases decide (t.a ≠ t.b) <;> cases decide (t.b ≠ t.c) <;> cases decide (t.c ≠ t.a) <;> rfl
def uJ (t u : T3) : Prop:=u = t ∨ u = ⟨t.b,t.c,t.a⟩ ∨ u = ⟨t.c,t.a,t.b⟩
theorem Gr {t u : T3} (h : uJ t u) (hn : t.nd = true) : eC u = eC t:=by
 rcases h with rfl | rfl | rfl
 · rfl
 · exact Gq hn
 · have h2:=Gq (t:=⟨t.b,t.c,t.a⟩) (by rw [Dn];exact hn)
   exact h2.trans (Gq hn)
theorem wN {t u : T3} (h : uJ t u) : u.nd = t.nd:=by
 rcases h with rfl | rfl | rfl
 · rfl
 · exact Dn
 · exact (Dn (t:=⟨t.b,t.c,t.a⟩)).trans Dn
theorem qQ {t u : T3} (h : uJ t u) {e : E3} : e ∈ rR u ↔ e ∈ rR t:=by
 rcases h with rfl | rfl | rfl
 · exact Iff.rfl
 · simp only[rR,List.mem_cons,List.not_mem_nil,or_false]
   exact ⟨fun h=>h.elim (fun h=>.inr (.inl h)) fun h=>h.elim (fun h=>.inr (.inr h)) .inl,fun h=>h.elim (fun h=>.inr (.inr h)) fun h=>h.elim .inl fun h=>.inr (.inl h)⟩
 · simp only[rR,List.mem_cons,List.not_mem_nil,or_false]
   exact ⟨fun h=>h.elim (fun h=>.inr (.inr h)) fun h=>h.elim .inl fun h=>.inr (.inl h),fun h=>h.elim (fun h=>.inr (.inl h)) fun h=>h.elim (fun h=>.inr (.inr h)) .inl⟩
/-! ### Edges of a list in which triangles are changed -/
theorem sT (ts us : List T3) : aV (ts ++ us) = aV ts ++ aV us:=by unfold aV;rw [List.flatMap_append]
theorem Ai {α : Type} : ∀ {ts : List α} {k : Nat} {t : α},ts[k]? = some t → ts.Perm (t :: ts.eraseIdx k)
 | [],k,t,h=>by cases h
 | x :: ts,0,t,h=>by cases h;exact .refl _
 | x :: ts,k + 1,t,h=>(List.Perm.cons x (Ai (ts:=ts) (k:=k) h)).trans (List.Perm.swap ..)
theorem Aj {α : Type} : ∀ {ts : List α} {k : Nat} {t u : α},ts[k]? = some t → (ts.set k u).Perm (u :: ts.eraseIdx k)
 | [],k,t,u,h=>by cases h
 | x :: ts,0,t,u,h=>.refl _
 | x :: ts,k + 1,t,u,h=>(List.Perm.cons x (Aj (ts:=ts) (k:=k) (u:=u) h)).trans (List.Perm.swap ..)
theorem mT {ts us : List T3} (h : ts.Perm us) : (aV ts).Perm (aV us):=h.flatMap_right _
theorem qR (t : T3) (ts : List T3) : aV (t :: ts) = rR t ++ aV ts:=rfl
structure Pm (p : P3) (X : E3 → Prop) (old new R fine fine' : List T3) : Prop where
 was : fine.Perm (old ++ R)
 now : fine'.Perm (new ++ R)
 edge : ∀ e : E3,e.1 ≠ p → e.2 ≠ p → (e ∈ aV new ↔ e ∈ aV old ∧ ¬ X e)
 xold : ∀ e,X e → e ∈ aV old
 xrev : ∀ e : E3,X e → X (e.2,e.1)
 back : ∀ e,e ∈ aV new → e.1 = p ∨ e.2 = p → (e.2,e.1) ∈ aV new
 fresh : ∀ t ∈ fine,t.has p = false
 nd : (aV new).Nodup
def Cl (ts : List T3) (e : E3) : Prop:=e ∈ aV ts ∧ (e.2,e.1) ∉ aV ts
theorem Pn {ts : List T3} {e : E3} : e ∈ aQ ts ↔ Cl ts e:=kP
theorem Po {ts us : List T3} (h : ∀ e,Cl ts e ↔ Cl us e) : aQ ts = aQ us :=
 Ch (oS ts) (oS us) fun e=>Pn.trans ((h e).trans Pn.symm)
theorem abp {ts : List T3} {p : P3} (h : ∀ t ∈ ts,t.has p = false) {e : E3} (he : e ∈ aV ts) : e.1 ≠ p ∧ e.2 ≠ p:=by
 have k:=Bg he;have no : p ∉ cL ts:=fun hp=>by
  obtain ⟨t,ht,hp⟩:=List.mem_flatMap.1 hp;have:=h t ht;rw [iN.2 (by simpa using hp)] at this;cases this
 exact ⟨fun e'=>no (e' ▸ k.1),fun e'=>no (e' ▸ k.2)⟩
section
variable {p : P3} {X : E3 → Prop} {old new R fine fine' : List T3}
theorem Pm.w (c : Pm p X old new R fine fine') (e : E3) : e ∈ aV fine ↔ e ∈ aV old ∨ e ∈ aV R:=by rw [(mT c.was).mem_iff,sT,List.mem_append]
theorem Pm.n (c : Pm p X old new R fine fine') (e : E3) : e ∈ aV fine' ↔ e ∈ aV new ∨ e ∈ aV R:=by rw [(mT c.now).mem_iff,sT,List.mem_append]
theorem Pm.dis (c : Pm p X old new R fine fine') (hn : (aV fine).Nodup) (e : E3) (h1 : e ∈ aV old) : e ∉ aV R:=fun h2=>by
 have:=(mT c.was).nodup_iff.1 hn;rw [sT] at this;exact (List.nodup_append.1 this).2.2 e h1 e h2 rfl
theorem Pm.np (c : Pm p X old new R fine fine') {e : E3} (he : e ∈ aV fine) : e.1 ≠ p ∧ e.2 ≠ p:=abp c.fresh he
theorem Pm.stay (c : Pm p X old new R fine fine') (hn : (aV fine).Nodup) {e : E3} (h1 : e.1 ≠ p) (h2 : e.2 ≠ p) : e ∈ aV fine' ↔ e ∈ aV fine ∧ ¬ X e:=by
 rw [c.n,c.w,c.edge e h1 h2];constructor
 · rintro (k | k)
   · exact ⟨.inl k.1,k.2⟩
   · exact ⟨.inr k,fun x=>c.dis hn e (c.xold e x) k⟩
 · rintro ⟨k | k,x⟩
   · exact .inl ⟨k,x⟩
   · exact .inr k
theorem Pm.bord (c : Pm p X old new R fine fine') (hn : (aV fine).Nodup) (e : E3) : Cl fine' e ↔ Cl fine e:=by
 unfold Cl;constructor
 · rintro ⟨h1,h2⟩
   have hp : e.1 ≠ p ∧ e.2 ≠ p:=by
    rcases (c.n e).1 h1 with k | k
    · exact ⟨fun q=>h2 ((c.n _).2 (.inl (c.back e k (.inl q)))),fun q=>h2 ((c.n _).2 (.inl (c.back e k (.inr q))))⟩
    · exact c.np ((c.w e).2 (.inr k))
   obtain ⟨k1,k2⟩:=(c.stay hn hp.1 hp.2).1 h1;exact ⟨k1,fun q=>h2 ((c.stay hn (e:=(e.2,e.1)) hp.2 hp.1).2 ⟨q,fun x=>k2 (c.xrev _ x)⟩)⟩
 · rintro ⟨h1,h2⟩
   have hp:=c.np h1;have hx : ¬ X e:=fun x=>h2 ((c.w _).2 (.inl (c.xold _ (c.xrev e x))));exact ⟨(c.stay hn hp.1 hp.2).2 ⟨h1,hx⟩,fun q=>h2 ((c.stay hn (e:=(e.2,e.1)) hp.2 hp.1).1 q).1⟩
theorem Pm.nodup (c : Pm p X old new R fine fine') (hn : (aV fine).Nodup) : (aV fine').Nodup:=by
 rw [(mT c.now).nodup_iff,sT,List.nodup_append];have hw:=(mT c.was).nodup_iff.1 hn;rw [sT,List.nodup_append] at hw;refine ⟨c.nd,hw.2.1,fun e h1 f h2 hef=>?_⟩;subst hef;have hp:=c.np ((c.w e).2 (.inr h2));exact c.dis hn e ((c.edge e hp.1 hp.2).1 h1).1 h2
end
/-! ### The two kinds of division -/
theorem acP {fine fine' R : List T3} {p a b d : P3} {t : T3} (ht : uJ ⟨a,b,d⟩ t) (hd : mM ⟨a,b,d⟩ = false) (hp : ∀ u ∈ fine,u.has p = false) (hw : fine.Perm (t :: R)) (hn : fine'.Perm (⟨a,b,p⟩ :: ⟨b,d,p⟩ :: ⟨d,a,p⟩ :: R)) :
 Pm p (fun _=>False) [t] [⟨a,b,p⟩,⟨b,d,p⟩,⟨d,a,p⟩] R fine fine':=by
 obtain ⟨h1,h2,h3⟩:=Lf hd;simp only at h1 h2 h3;have ho : ∀ e,e ∈ aV [t] ↔ e ∈ rR ⟨a,b,d⟩:=fun e=>by
  rw [qR];simp only[aV,List.flatMap_nil,List.append_nil];exact qQ ht
 have hm:=hp t (hw.mem_iff.2 (List.mem_cons_self ..));have hpp : p ≠ a ∧ p ≠ b ∧ p ≠ d:=by
  have : ∀ x,(x = a ∨ x = b ∨ x = d) → p ≠ x:=fun x hx e=>by
   have : t.has p = true:=by
    rw [iN,e];rcases ht with rfl | rfl | rfl <;> rcases hx with rfl | rfl | rfl <;> simp
   rw [hm] at this;cases this
  exact ⟨this a (.inl rfl),this b (.inr (.inl rfl)),this d (.inr (.inr rfl))⟩
 obtain ⟨p1,p2,p3⟩:=hpp;have hE : aV [⟨a,b,p⟩,⟨b,d,p⟩,⟨d,a,p⟩] = [(a,b),(b,p),(p,a),(b,d),(d,p),(p,b),(d,a),(a,p),(p,d)]:=rfl;refine ⟨hw,hn,fun e e1 e2=>?_,fun e x=>x.elim,fun e x=>x,fun e he hx=>?_,hp,?_⟩
 · rw [ho,hE]
   obtain ⟨x,y⟩:=e;simp only at e1 e2;simp only[rR,List.mem_cons,List.not_mem_nil,or_false,Prod.mk.injEq,not_false_eq_true,and_true];constructor
   · rintro (h | h | h | h | h | h | h | h | h)
     · exact .inl h
     · exact absurd h.2 e2
     · exact absurd h.1 e1
     · exact .inr (.inl h)
     · exact absurd h.2 e2
     · exact absurd h.1 e1
     · exact .inr (.inr h)
     · exact absurd h.2 e2
     · exact absurd h.1 e1
   · rintro (h | h | h)
     · exact .inl h
     · exact .inr (.inr (.inr (.inl h)))
     · exact .inr (.inr (.inr (.inr (.inr (.inr (.inl h))))))
 · rw [hE] at he ⊢
   obtain ⟨x,y⟩:=e;simp only[List.mem_cons,List.not_mem_nil,or_false,Prod.mk.injEq] at he hx ⊢;rcases he with h | h | h | h | h | h | h | h | h
   · rcases hx with hx | hx
     · exact absurd (hx.symm.trans h.1) p1
     · exact absurd (hx.symm.trans h.2) p2
   · exact .inr (.inr (.inr (.inr (.inr (.inl ⟨h.2,h.1⟩)))))
   · exact .inr (.inr (.inr (.inr (.inr (.inr (.inr (.inl ⟨h.2,h.1⟩)))))))
   · rcases hx with hx | hx
     · exact absurd (hx.symm.trans h.1) p2
     · exact absurd (hx.symm.trans h.2) p3
   · exact .inr (.inr (.inr (.inr (.inr (.inr (.inr (.inr ⟨h.2,h.1⟩)))))))
   · exact .inr (.inl ⟨h.2,h.1⟩)
   · rcases hx with hx | hx
     · exact absurd (hx.symm.trans h.1) p3
     · exact absurd (hx.symm.trans h.2) p1
   · exact .inr (.inr (.inl ⟨h.2,h.1⟩))
   · exact .inr (.inr (.inr (.inr (.inl ⟨h.2,h.1⟩))))
 · rw [hE]
   simp [h1,h2,h3,p1,p2,p3,Ne.symm h1,Ne.symm h2,Ne.symm h3,Ne.symm p1,Ne.symm p2,Ne.symm p3]
theorem mH {t u : T3} (h : uJ t u) (x : P3) : u.has x = t.has x:=by
 unfold T3.has;rcases h with rfl | rfl | rfl
 · rfl
 · simp only;cases decide (t.a = x) <;> cases decide (t.b = x) <;> cases decide (t.c = x) <;> rfl
 · simp only;cases decide (t.a = x) <;> cases decide (t.b = x) <;> cases decide (t.c = x) <;> rfl
theorem xU {t : T3} {p : P3} (h : t.has p = false) : p ≠ t.a ∧ p ≠ t.b ∧ p ≠ t.c:=by
 refine ⟨fun e=>?_,fun e=>?_,fun e=>?_⟩ <;> (rw [iN.2 (by rw [e];simp)] at h;cases h)
theorem abq {fine fine' R : List T3} {p a b d e : P3} {t o : T3} (ht : uJ ⟨a,b,d⟩ t) (ho : uJ ⟨b,a,e⟩ o) (hd : mM ⟨a,b,d⟩ = false) (he : mM ⟨b,a,e⟩ = false) (hde : d ≠ e) (hp : ∀ u ∈ fine,u.has p = false) (hw : fine.Perm (t :: o :: R))
 (hn : fine'.Perm (⟨a,p,d⟩ :: ⟨b,p,e⟩ :: ⟨p,b,d⟩ :: ⟨p,a,e⟩ :: R)) : Pm p (fun x=>x = (a,b) ∨ x = (b,a)) [t,o] [⟨a,p,d⟩,⟨b,p,e⟩,⟨p,b,d⟩,⟨p,a,e⟩] R fine fine':=by
 obtain ⟨h1,h2,h3⟩:=Lf hd;obtain ⟨_,h5,h6⟩:=Lf he;simp only at h1 h2 h3 h5 h6;have ho' : ∀ x,x ∈ aV [t,o] ↔ x ∈ rR ⟨a,b,d⟩ ∨ x ∈ rR ⟨b,a,e⟩:=fun x=>by
  rw [qR,qR,List.mem_append,List.mem_append];simp only[aV,List.flatMap_nil,List.not_mem_nil,or_false];exact or_congr (qQ ht) (qQ ho)
 obtain ⟨p1,p2,p3⟩:=xU ((mH ht p).symm.trans (hp t (hw.mem_iff.2 (by simp))));obtain ⟨_,_,p4⟩:=xU ((mH ho p).symm.trans (hp o (hw.mem_iff.2 (by simp))));simp only at p1 p2 p3 p4;have hE : aV [⟨a,p,d⟩,⟨b,p,e⟩,⟨p,b,d⟩,⟨p,a,e⟩] = [(a,p),(p,d),(d,a),(b,p),(p,e),(e,b),(p,b),(b,d),(d,p),(p,a),(a,e),(e,p)]:=rfl;refine ⟨hw,hn,fun x e1 e2=>?_,fun x hx=>?_,fun x hx=>?_,fun x he hx=>?_,hp,?_⟩
 · rw [ho',hE]
   obtain ⟨x,y⟩:=x;simp only at e1 e2;simp only[rR,List.mem_cons,List.not_mem_nil,or_false,Prod.mk.injEq]
   grind
 · rw [ho']
   rcases hx with rfl | rfl <;> simp [rR]
 · obtain ⟨x,y⟩:=x
   simp only[Prod.mk.injEq] at hx ⊢;exact hx.elim (fun h=>.inr ⟨h.2,h.1⟩) fun h=>.inl ⟨h.2,h.1⟩
 · rw [hE] at he ⊢
   obtain ⟨x,y⟩:=x;simp only[List.mem_cons,List.not_mem_nil,or_false,Prod.mk.injEq] at he hx ⊢
   grind
 · rw [hE]
   simp [h1,h2,h3,h5,h6,p1,p2,p3,p4,hde,Ne.symm h1,Ne.symm h2,Ne.symm h3,Ne.symm h5,Ne.symm h6,Ne.symm p1,Ne.symm p2,Ne.symm p3,Ne.symm p4,Ne.symm hde]
end Go.Lith
namespace Go.Lith
open Go.RowKit
def vT (t : T3) : List (E3 × P3):=[((t.a,t.b),t.c),((t.b,t.c),t.a),((t.c,t.a),t.b)]
theorem kX {ts : List T3} {x : E3 × P3} : x ∈ eY ts ↔ ∃ t ∈ ts,x ∈ vT t:=List.mem_flatMap
theorem xV {ts us : List T3} (h : ts.Perm us) {x : E3 × P3} : x ∈ eY ts ↔ x ∈ eY us:=by
 rw [kX,kX];exact exists_congr fun t=>and_congr h.mem_iff Iff.rfl
theorem Br {ts us : List T3} {x : E3 × P3} : x ∈ eY (ts ++ us) ↔ x ∈ eY ts ∨ x ∈ eY us:=by
 unfold eY;rw [List.flatMap_append,List.mem_append]
def Ak (ts : List T3) : Prop:=∀ a b x,((a,b),x) ∈ eY ts → ((b,a),x) ∉ eY ts
theorem Pp {ts : List T3} {p x y z : P3} (h : ∀ t ∈ ts,t.has p = false) (hm : ((x,y),z) ∈ eY ts) : x ≠ p ∧ y ≠ p ∧ z ≠ p:=by
 obtain ⟨t,ht,hx⟩:=kX.1 hm;obtain ⟨h1,h2,h3⟩:=xU (h t ht);simp only[vT,List.mem_cons,List.not_mem_nil,or_false,Prod.mk.injEq] at hx;rcases hx with ⟨⟨rfl,rfl⟩,rfl⟩ | ⟨⟨rfl,rfl⟩,rfl⟩ | ⟨⟨rfl,rfl⟩,rfl⟩
 · exact ⟨Ne.symm h1,Ne.symm h2,Ne.symm h3⟩
 · exact ⟨Ne.symm h2,Ne.symm h3,Ne.symm h1⟩
 · exact ⟨Ne.symm h3,Ne.symm h1,Ne.symm h2⟩
theorem Sn {p : P3} {old new R fine fine' : List T3} (hw : fine.Perm (old ++ R)) (hn : fine'.Perm (new ++ R)) (hf : ∀ t ∈ fine,t.has p = false) (h : Ak fine) (hnew : Ak new) (hp : ∀ x y z,((x,y),z) ∈ eY new → x = p ∨ y = p ∨ z = p) : Ak fine':=fun a b x h1 h2=>by
 have hR : ∀ t ∈ R,t.has p = false:=fun t ht=>hf t (hw.mem_iff.2 (List.mem_append_right _ ht));rw [xV hn,Br] at h1 h2;rcases h1 with h1 | h1
 · rcases h2 with h2 | h2
   · exact hnew a b x h1 h2
   · obtain ⟨k1,k2,k3⟩:=Pp hR h2
     rcases hp _ _ _ h1 with k | k | k
     · exact k2 k
     · exact k1 k
     · exact k3 k
 · rcases h2 with h2 | h2
   · obtain ⟨k1,k2,k3⟩:=Pp hR h1
     rcases hp _ _ _ h2 with k | k | k
     · exact k2 k
     · exact k1 k
     · exact k3 k
   · exact h a b x ((xV hw).2 (Br.2 (.inr h1))) ((xV hw).2 (Br.2 (.inr h2)))
/-! ### Images -/
theorem Lx {p v x : P3} : ∀ ms : List Mv,dX (ms ++ [(p,v)]) x = if x ∈ ms.map (·.1) then dX ms x else if p = x then v else x
 | []=>rfl
 | m :: ms=>by
  rw [List.cons_append,dX,dX,Lx ms];by_cases h : m.1 = x
  · rw [if_pos h,if_pos h,if_pos (by simp [h])]
  · rw [if_neg h,if_neg h]
    by_cases hm : x ∈ ms.map (·.1)
    · rw [if_pos hm,if_pos (by rw [List.map_cons];exact List.mem_cons_of_mem _ hm)]
    · have hm' : x ∉ (m :: ms).map (·.1):=by rw [List.map_cons,List.mem_cons];exact fun k=>k.elim (fun e=>h e.symm) hm
      rw [if_neg hm,if_neg hm']
theorem abr {x : P3} : ∀ {ms : List Mv},x ∉ ms.map (·.1) → dX ms x = x
 | [],_=>rfl
 | m :: ms,h=>by
  rw [List.map_cons,List.mem_cons,not_or] at h;rw [dX,if_neg (fun e=>h.1 e.symm)];exact abr h.2
theorem oT {p v x : P3} {ms : List Mv} (h : x ≠ p) : dX (ms ++ [(p,v)]) x = dX ms x:=by
 rw [Lx];split
 · rfl
 · rename_i k
   rw [if_neg (fun e=>h e.symm),abr k]
theorem Ue {p v : P3} {ms : List Mv} (h : p ∉ ms.map (·.1)) : dX (ms ++ [(p,v)]) p = v:=by rw [Lx,if_neg h,if_pos rfl]
structure vU (l fine : List T3) (ms : List Mv) (B : Int) : Prop where
 dg : sO fine
 nd : (aV fine).Nodup
 np : Ak fine
 bd : ∀ e,Cl fine e ↔ Cl l e
 xl : ∀ x ∈ cL fine,x.x < B
 ml : ∀ m ∈ ms,m.1.x < B
 im : ∀ t ∈ fine,(t.img ms).nd = true → eC (t.img ms) ∈ l.map eC
theorem vU.zero {l : List T3} {B : Int} (hd : sO l) (hn : (aV l).Nodup) (hp : Ak l) (hx : ∀ x ∈ cL l,x.x < B) : vU l l [] B :=
 ⟨hd,hn,hp,fun _=>Iff.rfl,hx,fun m h=>(by cases h),fun t ht _=>List.mem_map.2 ⟨t,ht,rfl⟩⟩
section
variable {l fine fine' R : List T3} {ms : List Mv} {B B' : Int} {p : P3}
theorem vU.fresh (h : vU l fine ms B) (hp : B ≤ p.x) : (∀ t ∈ fine,t.has p = false) ∧ p ∉ ms.map (·.1):=by
 refine ⟨fun t ht=>?_,fun k=>?_⟩
 · cases hh : t.has p with
   | false=>rfl
   | true =>
    have:=h.xl p (List.mem_flatMap.2 ⟨t,ht,by simpa using iN.1 hh⟩);omega
 · obtain ⟨m,hm,e⟩:=List.mem_map.1 k
   have:=h.ml m hm;rw [e] at this;omega
theorem Pq {t : T3} {v : P3} (h : t.has p = false) : t.img (ms ++ [(p,v)]) = t.img ms:=by
 obtain ⟨h1,h2,h3⟩:=xU h;unfold T3.img;rw [oT (Ne.symm h1),oT (Ne.symm h2),oT (Ne.symm h3)]
theorem Am {a b c : P3} (h : a = b ∨ b = c ∨ c = a) : (⟨a,b,c⟩ : T3).nd = false:=by
 unfold T3.nd;rcases h with h | h | h <;> simp [h]
theorem vU.next {X : E3 → Prop} {old new : List T3} {v : P3} (h : vU l fine ms B) (hp : B ≤ p.x) (hp' : p.x < B') (c : Pm p X old new R fine fine') (hdg : sO new) (hnp : Ak new) (hpp : ∀ x y z,((x,y),z) ∈ eY new → x = p ∨ y = p ∨ z = p)
 (hc : ∀ x ∈ cL new,x = p ∨ x ∈ cL fine) (him : ∀ t ∈ new,(t.img (ms ++ [(p,v)])).nd = true → eC (t.img (ms ++ [(p,v)])) ∈ l.map eC) : vU l fine' (ms ++ [(p,v)]) B':=by
 have hR : ∀ t ∈ R,t ∈ fine:=fun t ht=>c.was.mem_iff.2 (List.mem_append_right _ ht);have cs : ∀ x,x ∈ cL fine' ↔ x ∈ cL new ∨ x ∈ cL R:=fun x=>by
  unfold cL;rw [List.mem_flatMap,List.mem_flatMap,List.mem_flatMap];constructor
  · rintro ⟨t,ht,hx⟩
    rcases List.mem_append.1 (c.now.mem_iff.1 ht) with k | k
    · exact .inl ⟨t,k,hx⟩
    · exact .inr ⟨t,k,hx⟩
  · rintro (⟨t,ht,hx⟩ | ⟨t,ht,hx⟩)
    · exact ⟨t,c.now.mem_iff.2 (List.mem_append_left _ ht),hx⟩
    · exact ⟨t,c.now.mem_iff.2 (List.mem_append_right _ ht),hx⟩
 have cR : ∀ x,x ∈ cL R → x ∈ cL fine:=fun x hx=>by
  obtain ⟨t,ht,hx⟩:=List.mem_flatMap.1 hx;exact List.mem_flatMap.2 ⟨t,hR t ht,hx⟩
 refine ⟨fun t ht=>?_,c.nodup h.nd,Sn c.was c.now c.fresh h.np hnp hpp,fun e=>(c.bord h.nd e).trans (h.bd e),fun x hx=>?_,fun m hm=>?_,fun t ht=>?_⟩
 · rcases List.mem_append.1 (c.now.mem_iff.1 ht) with k | k
   · exact hdg t k
   · exact h.dg t (hR t k)
 · rcases (cs x).1 hx with k | k
   · rcases hc x k with rfl | k
     · exact hp'
     · have:=h.xl x k;omega
   · have:=h.xl x (cR x k);omega
 · rcases List.mem_append.1 hm with k | k
   · have:=h.ml m k;omega
   · rw [List.mem_singleton.1 k];exact hp'
 · rcases List.mem_append.1 (c.now.mem_iff.1 ht) with k | k
   · exact him t k
   · rw [Pq (c.fresh t (hR t k))]
     exact h.im t (hR t k)
theorem vU.tri {a b d : P3} {t : T3} (h : vU l fine ms B) (hp : B ≤ p.x) (hp' : p.x < B') (ht : uJ ⟨a,b,d⟩ t) (hw : fine.Perm (t :: R)) (hn : fine'.Perm (⟨a,b,p⟩ :: ⟨b,d,p⟩ :: ⟨d,a,p⟩ :: R)) : vU l fine' (ms ++ [(p,dX ms a)]) B':=by
 obtain ⟨f1,f2⟩:=h.fresh hp;have htm : t ∈ fine:=hw.mem_iff.2 (List.mem_cons_self ..);have hnd : (⟨a,b,d⟩ : T3).nd = true:=by rw [← wN ht];exact aa4 (h.dg t htm)
 have hnd':=hnd;unfold T3.nd at hnd';simp only[Bool.and_eq_true,decide_eq_true_eq] at hnd';obtain ⟨⟨h1,h2⟩,h3⟩:=hnd';have hd : mM ⟨a,b,d⟩ = false:=by simp [mM,h1,h2,h3]
 obtain ⟨p1,p2,p3⟩:=xU ((mH ht p).symm.trans (f1 t htm));simp only at p1 p2 p3;have c:=acP ht hd f1 hw hn;refine h.next hp hp' c (fun u hu=>?_) (fun x y z k1 k2=>?_) (fun x y z k=>?_) (fun x hx=>?_) (fun u hu hu2=>?_)
 · simp only[List.mem_cons,List.not_mem_nil,or_false] at hu
   rcases hu with rfl | rfl | rfl <;> simp [mM,h1,h2,h3,p1,p2,p3,Ne.symm p1,Ne.symm p2,Ne.symm p3]
 · simp only[eY,List.flatMap_cons,List.flatMap_nil,List.append_nil,List.mem_append,List.mem_cons,List.not_mem_nil,or_false,Prod.mk.injEq] at k1 k2
   grind
 · simp only[eY,List.flatMap_cons,List.flatMap_nil,List.append_nil,List.mem_append,List.mem_cons,List.not_mem_nil,or_false,Prod.mk.injEq] at k
   grind
 · have hcf : ∀ x,(x = a ∨ x = b ∨ x = d) → x ∈ cL fine:=fun x hx=>List.mem_flatMap.2 ⟨t,htm,by
    have : t.has x = true:=by rw [mH ht,iN];exact hx
    simpa using iN.1 this⟩
   simp only[cL,List.flatMap_cons,List.flatMap_nil,List.append_nil,List.mem_append,List.mem_cons,List.not_mem_nil,or_false] at hx;rcases hx with (rfl | rfl | rfl) | (rfl | rfl | rfl) | rfl | rfl | rfl <;> first | exact .inl rfl | (exact .inr (hcf _ (by simp)))
 · have ia : dX (ms ++ [(p,dX ms a)]) a = dX ms a:=oT (Ne.symm p1)
   have ib : dX (ms ++ [(p,dX ms a)]) b = dX ms b:=oT (Ne.symm p2);have id' : dX (ms ++ [(p,dX ms a)]) d = dX ms d:=oT (Ne.symm p3);have ip : dX (ms ++ [(p,dX ms a)]) p = dX ms a:=Ue f2;simp only[List.mem_cons,List.not_mem_nil,or_false] at hu;rcases hu with rfl | rfl | rfl
   · rw [T3.img,ia,ib,ip,Am (.inr (.inr rfl))] at hu2;cases hu2
   · have e : T3.img (ms ++ [(p,dX ms a)]) ⟨b,d,p⟩ = ⟨dX ms b,dX ms d,dX ms a⟩:=by rw [T3.img,ib,id',ip]
     rw [e] at hu2 ⊢;have tu : uJ (t.img ms) ⟨dX ms b,dX ms d,dX ms a⟩:=by
      rcases ht with rfl | rfl | rfl
      · exact .inr (.inl rfl)
      · exact .inl rfl
      · exact .inr (.inr rfl)
     have k : (t.img ms).nd = true:=by rw [← wN tu];exact hu2
     rw [Gr tu k];exact h.im t htm k
   · rw [T3.img,ia,id',ip,Am (.inr (.inl rfl))] at hu2;cases hu2
theorem vU.edge {a b d e : P3} {t o : T3} (h : vU l fine ms B) (hp : B ≤ p.x) (hp' : p.x < B') (ht : uJ ⟨a,b,d⟩ t) (ho : uJ ⟨b,a,e⟩ o) (hw : fine.Perm (t :: o :: R))
 (hn : fine'.Perm (⟨a,p,d⟩ :: ⟨b,p,e⟩ :: ⟨p,b,d⟩ :: ⟨p,a,e⟩ :: R)) : vU l fine' (ms ++ [(p,dX ms a)]) B':=by
 obtain ⟨f1,f2⟩:=h.fresh hp;have htm : t ∈ fine:=hw.mem_iff.2 (List.mem_cons_self ..);have hom : o ∈ fine:=hw.mem_iff.2 (by simp);have hnd : (⟨a,b,d⟩ : T3).nd = true:=by rw [← wN ht];exact aa4 (h.dg t htm)
 have hne : (⟨b,a,e⟩ : T3).nd = true:=by rw [← wN ho];exact aa4 (h.dg o hom)
 have hnd':=hnd;have hne':=hne;unfold T3.nd at hnd' hne';simp only[Bool.and_eq_true,decide_eq_true_eq] at hnd' hne';obtain ⟨⟨h1,h2⟩,h3⟩:=hnd';obtain ⟨⟨_,h5⟩,h6⟩:=hne';have hd : mM ⟨a,b,d⟩ = false:=by simp [mM,h1,h2,h3]
 have he : mM ⟨b,a,e⟩ = false:=by simp [mM,Ne.symm h1,h5,h6]
 have hde : d ≠ e:=fun q=>by
  have k1 : ((a,b),d) ∈ eY fine:=kX.2 ⟨t,htm,by rcases ht with rfl | rfl | rfl <;> simp [vT]⟩;have k2 : ((b,a),e) ∈ eY fine:=kX.2 ⟨o,hom,by rcases ho with rfl | rfl | rfl <;> simp [vT]⟩;exact h.np a b d k1 (q ▸ k2)
 obtain ⟨p1,p2,p3⟩:=xU ((mH ht p).symm.trans (f1 t htm));obtain ⟨_,_,p4⟩:=xU ((mH ho p).symm.trans (f1 o hom));simp only at p1 p2 p3 p4;have c:=abq ht ho hd he hde f1 hw hn;refine h.next hp hp' c (fun u hu=>?_) (fun x y z k1 k2=>?_) (fun x y z k=>?_) (fun x hx=>?_) (fun u hu hu2=>?_)
 · simp only[List.mem_cons,List.not_mem_nil,or_false] at hu
   rcases hu with rfl | rfl | rfl | rfl <;> simp [mM,h1,h2,h3,h5,h6,p1,p2,p3,p4,Ne.symm h1,Ne.symm h2,Ne.symm h3,Ne.symm h5,Ne.symm h6,Ne.symm p1,Ne.symm p2,Ne.symm p3,Ne.symm p4]
 · simp only[eY,List.flatMap_cons,List.flatMap_nil,List.append_nil,List.mem_append,List.mem_cons,List.not_mem_nil,or_false,Prod.mk.injEq,or_assoc] at k1
   rcases k1 with ⟨⟨rfl,rfl⟩,rfl⟩ | ⟨⟨rfl,rfl⟩,rfl⟩ | ⟨⟨rfl,rfl⟩,rfl⟩ | ⟨⟨rfl,rfl⟩,rfl⟩ | ⟨⟨rfl,rfl⟩,rfl⟩ | ⟨⟨rfl,rfl⟩,rfl⟩ | ⟨⟨rfl,rfl⟩,rfl⟩ | ⟨⟨rfl,rfl⟩,rfl⟩ | ⟨⟨rfl,rfl⟩,rfl⟩ | ⟨⟨rfl,rfl⟩,rfl⟩ | ⟨⟨rfl,rfl⟩,rfl⟩ | ⟨⟨rfl,rfl⟩,rfl⟩ <;>
    simp [eY,h1,h2,h3,h5,h6,hde,p1,p2,p3,p4,Ne.symm h1,Ne.symm h2,Ne.symm h3,Ne.symm h5,Ne.symm h6,Ne.symm hde,Ne.symm p1,Ne.symm p2,Ne.symm p3,Ne.symm p4] at k2
 · simp only[eY,List.flatMap_cons,List.flatMap_nil,List.append_nil,List.mem_append,List.mem_cons,List.not_mem_nil,or_false,Prod.mk.injEq] at k
   grind
 · have hcf : ∀ x,(x = a ∨ x = b ∨ x = d ∨ x = e) → x ∈ cL fine:=fun x hx=>by
    rcases hx with hx | hx | hx | hx
    · exact List.mem_flatMap.2 ⟨t,htm,by simpa using iN.1 (show t.has x = true by rw [mH ht,iN];exact .inl hx)⟩
    · exact List.mem_flatMap.2 ⟨t,htm,by simpa using iN.1 (show t.has x = true by rw [mH ht,iN];exact .inr (.inl hx))⟩
    · exact List.mem_flatMap.2 ⟨t,htm,by simpa using iN.1 (show t.has x = true by rw [mH ht,iN];exact .inr (.inr hx))⟩
    · exact List.mem_flatMap.2 ⟨o,hom,by simpa using iN.1 (show o.has x = true by rw [mH ho,iN];exact .inr (.inr hx))⟩
   simp only[cL,List.flatMap_cons,List.flatMap_nil,List.append_nil,List.mem_append,List.mem_cons,List.not_mem_nil,or_false] at hx;rcases hx with (rfl | rfl | rfl) | (rfl | rfl | rfl) | (rfl | rfl | rfl) | rfl | rfl | rfl <;> first | exact .inl rfl | (exact .inr (hcf _ (by simp)))
 · have ia : dX (ms ++ [(p,dX ms a)]) a = dX ms a:=oT (Ne.symm p1)
   have ib : dX (ms ++ [(p,dX ms a)]) b = dX ms b:=oT (Ne.symm p2);have id' : dX (ms ++ [(p,dX ms a)]) d = dX ms d:=oT (Ne.symm p3);have ie : dX (ms ++ [(p,dX ms a)]) e = dX ms e:=oT (Ne.symm p4);have ip : dX (ms ++ [(p,dX ms a)]) p = dX ms a:=Ue f2;simp only[List.mem_cons,List.not_mem_nil,or_false] at hu;rcases hu with rfl | rfl | rfl | rfl
   · rw [T3.img,ia,ip,Am (.inl rfl)] at hu2;cases hu2
   · have q : T3.img (ms ++ [(p,dX ms a)]) ⟨b,p,e⟩ = ⟨dX ms b,dX ms a,dX ms e⟩:=by rw [T3.img,ib,ip,ie]
     rw [q] at hu2 ⊢;have tu : uJ (o.img ms) ⟨dX ms b,dX ms a,dX ms e⟩:=by
      rcases ho with rfl | rfl | rfl
      · exact .inl rfl
      · exact .inr (.inr rfl)
      · exact .inr (.inl rfl)
     have k : (o.img ms).nd = true:=by rw [← wN tu];exact hu2
     rw [Gr tu k];exact h.im o hom k
   · have q : T3.img (ms ++ [(p,dX ms a)]) ⟨p,b,d⟩ = ⟨dX ms a,dX ms b,dX ms d⟩:=by rw [T3.img,ip,ib,id']
     rw [q] at hu2 ⊢;have tu : uJ (t.img ms) ⟨dX ms a,dX ms b,dX ms d⟩:=by
      rcases ht with rfl | rfl | rfl
      · exact .inl rfl
      · exact .inr (.inr rfl)
      · exact .inr (.inl rfl)
     have k : (t.img ms).nd = true:=by rw [← wN tu];exact hu2
     rw [Gr tu k];exact h.im t htm k
   · rw [T3.img,ip,ia,Am (.inl rfl)] at hu2;cases hu2
end
end Go.Lith
namespace Go.Lith
open Go.RowKit
theorem Jq {fine coarse : List T3} {ms : List Mv} (h : (gB fine coarse ms).2 = 0) : dH true fine = 0 ∧ dH true coarse = 0 ∧ aQ fine = aQ coarse ∧ kC fine coarse ms = true:=by
 unfold gB at h;split at h
 · rename_i k;exact absurd h k
 · rename_i k0
   split at h
   · rename_i k;exact absurd h k
   · rename_i k1
     split at h
     · cases h
     · rename_i k2
       split at h
       · cases h
       · split at h
         · cases h
         · split at h
           · cases h
           · rename_i k3
             refine ⟨Decidable.not_not.1 k0,Decidable.not_not.1 k1,Decidable.not_not.1 k2,?_⟩;cases hc : kC fine coarse ms with
             | true=>rfl
             | false=>exact absurd hc k3
def uH (t : T3) : T3:=⟨t.a,t.c,t.b⟩
theorem Pr {t : T3} {x : E3 × P3} : x ∈ vT (eC t) ↔ x ∈ vT t:=by
 unfold eC;split
 · simp only[vT,List.mem_cons,List.not_mem_nil,or_false]
   exact ⟨fun h=>h.elim (fun h=>.inr (.inr h)) fun h=>h.elim .inl fun h=>.inr (.inl h),fun h=>h.elim (fun h=>.inr (.inl h)) fun h=>h.elim (fun h=>.inr (.inr h)) .inl⟩
 · split
   · simp only[vT,List.mem_cons,List.not_mem_nil,or_false]
     exact ⟨fun h=>h.elim (fun h=>.inr (.inl h)) fun h=>h.elim (fun h=>.inr (.inr h)) .inl,fun h=>h.elim (fun h=>.inr (.inr h)) fun h=>h.elim .inl fun h=>.inr (.inl h)⟩
   · exact Iff.rfl
theorem Xr {l fine : List T3} {ms : List Mv} {B : Int} (h : vU l fine ms B) (hp : Ak l) (hl : l ≠ []) : (gB fine (l.map uH) ms).2 ≠ 0:=fun k=>by
 obtain ⟨_,_,_,hc⟩:=Jq k;obtain ⟨t,ht⟩:=List.exists_mem_of_ne_nil l hl;have h1:=(wL.1 hc).2 (uH t) (List.mem_map.2 ⟨t,ht,rfl⟩);obtain ⟨f,hf,hr⟩:=List.mem_map.1 h1;obtain ⟨hf1,hf2⟩:=List.mem_filter.1 hf;obtain ⟨u,hu,hur⟩:=List.mem_map.1 (h.im f hf1 hf2);have e : eC u = eC (uH t):=hur.trans hr;have k1 : ((t.a,t.c),t.b) ∈ vT u:=Pr.1 (e ▸ Pr.2 (by simp [vT,uH]));exact hp t.c t.a t.b (kX.2 ⟨t,ht,by simp [vT]⟩) (kX.2 ⟨u,hu,k1⟩)
theorem acQ {l fine : List T3} {ms : List Mv} {B : Int} {k : Nat} {t : T3} (h : vU l fine ms B) (hd : sO l) (hn : (aV l).Nodup) (ht : l[k]? = some t) : (gB fine (l.eraseIdx k) ms).2 ≠ 0:=fun q=>by
 obtain ⟨_,_,hb,_⟩:=Jq q;have hbl : aQ l = aQ (l.eraseIdx k):=(Po fun e=>(h.bd e).symm).trans hb;have hp:=Ai ht;have hm : ∀ e,e ∈ aV l ↔ e ∈ rR t ∨ e ∈ aV (l.eraseIdx k):=fun e=>by rw [(mT hp).mem_iff,qR,List.mem_append]
 have hdis : ∀ e,e ∈ rR t → e ∉ aV (l.eraseIdx k):=fun e h1 h2=>by
  have:=(mT hp).nodup_iff.1 hn;rw [qR] at this;exact (List.nodup_append.1 this).2.2 e h1 e h2 rfl
 have h0 : (t.a,t.b) ∈ rR t:=by simp [rR]
 obtain ⟨d1,d2,d3⟩:=Lf (hd t (List.mem_of_getElem? ht));by_cases hr : (t.b,t.a) ∈ aV l
 · have h1 : (t.b,t.a) ∈ aV (l.eraseIdx k):=((hm _).1 hr).resolve_left fun k1=>by
    simp only[rR,List.mem_cons,List.not_mem_nil,or_false,Prod.mk.injEq] at k1;rcases k1 with k1 | k1 | k1
    · exact d1 k1.2
    · exact d3 k1.2.symm
    · exact d2 k1.1
   have h2 : (t.b,t.a) ∈ aQ (l.eraseIdx k):=kP.2 ⟨h1,hdis _ h0⟩;rw [← hbl] at h2;exact (kP.1 h2).2 ((hm _).2 (.inl h0))
 · have h2 : (t.a,t.b) ∈ aQ l:=kP.2 ⟨(hm _).2 (.inl h0),hr⟩
   rw [hbl] at h2;exact hdis _ h0 (kP.1 h2).1
def Ho (ts : List T3) : Prop:=∀ t ∈ ts,∃ a b c d,b ≠ d ∧ (t = ⟨a,b,c⟩ ∧ ⟨a,c,d⟩ ∈ ts ∨ t = ⟨a,c,d⟩ ∧ ⟨a,b,c⟩ ∈ ts)
theorem So {ts : List T3} (hm : Ho ts) (hn : (aV ts).Nodup) : Ak ts:=fun x y z h1 h2=>by
 obtain ⟨t,ht,hx⟩:=kX.1 h1
 -- what is turned of t is there as well
 have rev : ∀ p q r,((p,q),r) ∈ vT t → ((q,p),r) ∈ eY ts:=fun p q r hq=>by
  have h3:=lH h2;have h4:=lH h3;simp only[vT,List.mem_cons,List.not_mem_nil,or_false,Prod.mk.injEq] at hx hq;rcases hx with ⟨⟨rfl,rfl⟩,rfl⟩ | ⟨⟨rfl,rfl⟩,rfl⟩ | ⟨⟨rfl,rfl⟩,rfl⟩ <;> rcases hq with ⟨⟨rfl,rfl⟩,rfl⟩ | ⟨⟨rfl,rfl⟩,rfl⟩ | ⟨⟨rfl,rfl⟩,rfl⟩ <;> first | exact h2 | exact h3 | exact h4
 obtain ⟨a,b,c,d,hbd,⟨rfl,hmt⟩ | ⟨rfl,hmt⟩⟩:=hm t ht
 · have k1:=rev c a b (by simp [vT])
   have k2 : ((a,c),d) ∈ eY ts:=kX.2 ⟨_,hmt,by simp [vT]⟩;exact hbd (xR hn k1 k2)
 · have k1:=rev a c d (by simp [vT])
   have k2 : ((c,a),b) ∈ eY ts:=kX.2 ⟨_,hmt,by simp [vT]⟩;exact hbd (xR hn k2 k1)
end Go.Lith
namespace Go.Lith
open Go.RowKit
structure Q4 where
 a : Int
 b : Int
 c : Int
 d : Int
def q4C (q : Q4) : List Value:=[.int .i64 q.a,.int .i64 q.b,.int .i64 q.c,.int .i64 q.d]
class IQ (q : Q4) : Prop where
 a : nR q.a
 b : nR q.b
 c : nR q.c
 d : nR q.d
def aeL (i : Nat) (q : Q4) : P3:=⟨100 + 50 * (i : Int) + q.b % 40,q.b.tdiv 40 % 200,q.c % 300 - 50⟩
def Jr (i : Nat) (p : P3) : Prop:=100 + 50 * (i : Int) ≤ p.x ∧ p.x < 150 + 50 * (i : Int) ∧ 0 ≤ p.y ∧ p.y < 200 ∧ -50 ≤ p.z ∧ p.z < 250
theorem acR (i : Nat) (q : Q4) : Jr i (aeL i q):=by
 have h1:=nK (n:=q.b) (m:=40) (by decide);have h2:=nK (n:=q.b.tdiv 40) (m:=200) (by decide);have h3:=nK (n:=q.c) (m:=300) (by decide);refine ⟨?_,?_,?_,?_,?_,?_⟩ <;> (simp only[aeL];omega)
theorem abt {z : Int} (h : nR z) : IntKind.i64.wrap (z.tdiv 40) = z.tdiv 40 ∧ nR (z.tdiv 40):=by
 obtain ⟨h1,h2⟩:=h;have hb : -9223372036854775808 ≤ z.tdiv 40 ∧ z.tdiv 40 < 9223372036854775808:=by
  rcases Int.le_total 0 z with hz | hz
  · rw [Int.tdiv_eq_ediv_of_nonneg hz];omega
  · have e : z.tdiv 40 = -((-z) / 40):=by
     rw [← Int.tdiv_eq_ediv_of_nonneg (show 0 ≤ -z by omega),Int.neg_tdiv,Int.neg_neg]
    rw [e];omega
 exact ⟨aM (by omega) (by omega),⟨by omega,by omega⟩⟩
def gC (e x a b : P3) : P3:=if x ≠ a ∧ x ≠ b then x else e
def uD (o : T3) (a b : P3) : P3:=gC (gC (gC (o.cor 0) (o.cor 0) a b) (o.cor 1) a b) (o.cor 2) a b
theorem abu {e x a b : P3} (h : (decide (¬ (x.x = a.x ∧ x.y = a.y ∧ x.z = a.z)) && decide (¬ (x.x = b.x ∧ x.y = b.y ∧ x.z = b.z))) = true) : gC e x a b = x:=by
 simp only[gH,Bool.and_eq_true,decide_eq_true_eq] at h;exact if_pos h
theorem abv {e x a b : P3} (h : (decide (¬ (x.x = a.x ∧ x.y = a.y ∧ x.z = a.z)) && decide (¬ (x.x = b.x ∧ x.y = b.y ∧ x.z = b.z))) = false) : gC e x a b = e:=by
 refine if_neg fun k=>?_;simp only[gH] at h;rw [decide_eq_true k.1,decide_eq_true k.2] at h;cases h
inductive aeM (rim : List E3) (i : Nat) (us : List T3) (ms : List Mv) : List T3 → List Mv → Prop
 | tri (k : Nat) (t : T3) (c : Nat) (p : P3) (ht : us[k]? = some t) (hc : c < 3) (hp : Jr i p) :
  aeM rim i us ms (us.set k ⟨t.cor c,t.cor ((c + 1) % 3),p⟩ ++ [⟨t.cor ((c + 1) % 3),t.cor ((c + 2) % 3),p⟩,⟨t.cor ((c + 2) % 3),t.cor c,p⟩]) (ms ++ [(p,dX ms (t.cor c))])
 | edge (k j : Nat) (t o : T3) (x : P3) (c : Nat) (p : P3) (ht : us[k]? = some t) (hc : c < 3) (ho : us[j]? = some o) (hx : o.fnd (t.cor ((c + 1) % 3)) (t.cor c) = some x)
  (hb : ¬ (zW rim (t.cor c) = true ∧ zW rim (t.cor ((c + 1) % 3)) = true)) (hp : Jr i p) :
  aeM rim i us ms (((us.set k ⟨t.cor c,p,t.cor ((c + 2) % 3)⟩).set j ⟨t.cor ((c + 1) % 3),p,uD o (t.cor c) (t.cor ((c + 1) % 3))⟩) ++ [⟨p,t.cor ((c + 1) % 3),t.cor ((c + 2) % 3)⟩,⟨p,t.cor c,uD o (t.cor c) (t.cor ((c + 1) % 3))⟩]) (ms ++ [(p,dX ms (t.cor c))])
inductive wR (rim : List E3) (l : List T3) : Nat → List T3 → List Mv → Prop
 | nil : wR rim l 0 l []
 | step {i : Nat} {us us' : List T3} {ms ms' : List Mv} (h : wR rim l i us ms) (s : aeM rim i us ms us' ms') : wR rim l (i + 1) us' ms'
theorem wR.len {rim : List E3} {l us : List T3} {i : Nat} {ms : List Mv} (h : wR rim l i us ms) : us.length = l.length + 2 * i ∧ ms.length = i:=by
 induction h with
 | nil=>exact ⟨rfl,rfl⟩
 | step h s ih=>cases s <;> (simp only[List.length_append,List.length_set,List.length_cons,List.length_nil];omega)
def xW (l : List T3) (i : Nat) (x : P3) : Prop:=x ∈ cL l ∨ ∃ j,j < i ∧ Jr j x
theorem kU {ts : List T3} {x : P3} : x ∈ cL ts ↔ ∃ t ∈ ts,x = t.cor 0 ∨ x = t.cor 1 ∨ x = t.cor 2:=by
 unfold cL;rw [List.mem_flatMap];exact exists_congr fun t=>and_congr Iff.rfl (by simp [T3.cor])
theorem qS {ts : List T3} {k c : Nat} {t : T3} (h : ts[k]? = some t) (hc : c < 3) : t.cor c ∈ cL ts:=by
 refine kU.2 ⟨t,List.mem_of_getElem? h,?_⟩;obtain rfl | rfl | rfl : c = 0 ∨ c = 1 ∨ c = 2:=by omega
 · exact .inl rfl
 · exact .inr (.inl rfl)
 · exact .inr (.inr rfl)
theorem acS (o : T3) (a b : P3) : ∃ c,c < 3 ∧ uD o a b = o.cor c:=by
 have h0 : ∃ c,c < 3 ∧ gC (o.cor 0) (o.cor 0) a b = o.cor c:=⟨0,by decide,by unfold gC;split <;> rfl⟩
 obtain ⟨c,hc,e⟩:=h0;have h1 : ∃ c,c < 3 ∧ gC (gC (o.cor 0) (o.cor 0) a b) (o.cor 1) a b = o.cor c:=by
  rw [e];unfold gC;split
  · exact ⟨1,by decide,rfl⟩
  · exact ⟨c,hc,rfl⟩
 obtain ⟨c,hc,e⟩:=h1;unfold uD;rw [e];unfold gC;split
 · exact ⟨2,by decide,rfl⟩
 · exact ⟨c,hc,rfl⟩
theorem Gs {ts : List T3} {k : Nat} {u : T3} {x : P3} (h : x ∈ cL (ts.set k u)) : x ∈ cL ts ∨ x = u.a ∨ x = u.b ∨ x = u.c:=by
 obtain ⟨t,ht,hx⟩:=kU.1 h;rcases List.mem_or_eq_of_mem_set ht with h | rfl
 · exact .inl (kU.2 ⟨t,h,hx⟩)
 · exact .inr hx
theorem Ps {ts us : List T3} {x : P3} : x ∈ cL (ts ++ us) ↔ x ∈ cL ts ∨ x ∈ cL us:=by unfold cL;rw [List.flatMap_append,List.mem_append]
theorem wR.pts {rim : List E3} {l us : List T3} {i : Nat} {ms : List Mv} (h : wR rim l i us ms) : (∀ x ∈ cL us,xW l i x) ∧ ∀ m ∈ ms,xW l i m.1 ∧ xW l i m.2:=by
 induction h with
 | nil=>exact ⟨fun x h=>.inl h,fun m h=>by cases h⟩
 | @step i us us' ms ms' h s ih =>
  obtain ⟨h1,h2⟩:=ih;have up : ∀ x,xW l i x → xW l (i + 1) x:=fun x h=>h.elim .inl fun ⟨j,hj,hx⟩=>.inr ⟨j,by omega,hx⟩;have img : ∀ (ms : List Mv) (x : P3),(∀ m ∈ ms,xW l i m.2) → xW l i x → xW l i (dX ms x):=by
   intro ms
   induction ms with
   | nil=>intro x _ h;exact h
   | cons m ms ih =>
    intro x hm hx;unfold dX;split
    · exact hm m (List.mem_cons_self ..)
    · exact ih x (fun m h=>hm m (List.mem_cons_of_mem _ h)) hx
  have mv : ∀ p a,Jr i p → xW l i a → ∀ m ∈ ms ++ [(p,dX ms a)],xW l (i + 1) m.1 ∧ xW l (i + 1) m.2:=fun p a hp ha m hm=>by
   rcases List.mem_append.1 hm with hm | hm
   · exact ⟨up _ (h2 m hm).1,up _ (h2 m hm).2⟩
   · obtain rfl:=List.mem_singleton.1 hm
     exact ⟨.inr ⟨i,by omega,hp⟩,up _ (img ms a (fun m hm=>(h2 m hm).2) ha)⟩
  cases s with
  | tri k t c p ht hc hp =>
   have ha:=h1 _ (qS ht hc);have hb:=h1 _ (qS ht (show (c + 1) % 3 < 3 by omega));have hd:=h1 _ (qS ht (show (c + 2) % 3 < 3 by omega));refine ⟨fun x hx=>?_,mv p _ hp ha⟩;have hpp : xW l (i + 1) p:=.inr ⟨i,by omega,hp⟩;rcases Ps.1 hx with hx | hx
   · rcases Gs hx with hx | rfl | rfl | rfl
     · exact up _ (h1 x hx)
     · exact up _ ha
     · exact up _ hb
     · exact hpp
   · simp only[cL,List.flatMap_cons,List.flatMap_nil,List.append_nil,List.mem_append,List.mem_cons,List.not_mem_nil,or_false] at hx
     rcases hx with (rfl | rfl | rfl) | rfl | rfl | rfl
     · exact up _ hb
     · exact up _ hd
     · exact hpp
     · exact up _ hd
     · exact up _ ha
     · exact hpp
  | edge k j t o x0 c p ht hc ho hx0 hb0 hp =>
   have ha:=h1 _ (qS ht hc);have hb:=h1 _ (qS ht (show (c + 1) % 3 < 3 by omega));have hd:=h1 _ (qS ht (show (c + 2) % 3 < 3 by omega));obtain ⟨c2,hc2,e2⟩:=acS o (t.cor c) (t.cor ((c + 1) % 3));have he:=h1 _ (qS ho hc2);rw [e2];refine ⟨fun x hx=>?_,mv p _ hp ha⟩;have hpp : xW l (i + 1) p:=.inr ⟨i,by omega,hp⟩;rcases Ps.1 hx with hx | hx
   · rcases Gs hx with hx | rfl | rfl | rfl
     · rcases Gs hx with hx | rfl | rfl | rfl
       · exact up _ (h1 x hx)
       · exact up _ ha
       · exact hpp
       · exact up _ hd
     · exact up _ hb
     · exact hpp
     · exact up _ he
   · simp only[cL,List.flatMap_cons,List.flatMap_nil,List.append_nil,List.mem_append,List.mem_cons,List.not_mem_nil,or_false] at hx
     rcases hx with (rfl | rfl | rfl) | rfl | rfl | rfl
     · exact hpp
     · exact up _ hb
     · exact up _ hd
     · exact hpp
     · exact up _ ha
     · exact up _ he
def Xs (x : P3) : Prop:=-2000000 ≤ x.x ∧ x.x ≤ 2000000 ∧ -1000000 ≤ x.y ∧ x.y ≤ 1000000 ∧ -1000000 ≤ x.z ∧ x.z ≤ 1000000
theorem Xs.i3 {x : P3} (h : Xs x) : I3 x:=by
 obtain ⟨h1,h2,h3,h4,h5,h6⟩:=h;exact ⟨⟨by omega,by omega⟩,⟨by omega,by omega⟩,⟨by omega,by omega⟩⟩
theorem xW.mid {l : List T3} {i : Nat} {x : P3} (hl : ∀ x ∈ cL l,Xs x) (hi : i ≤ 100) (h : xW l i x) : Xs x:=by
 rcases h with h | ⟨j,hj,h1,h2,h3,h4,h5,h6⟩
 · exact hl x h
 · exact ⟨by omega,by omega,by omega,by omega,by omega,by omega⟩
theorem ag3 {ts : List T3} (h : ∀ x ∈ cL ts,I3 x) : ∀ t ∈ ts,IT t:=fun t ht =>
 ⟨h _ (kU.2 ⟨t,ht,.inl rfl⟩),h _ (kU.2 ⟨t,ht,.inr (.inl rfl)⟩),h _ (kU.2 ⟨t,ht,.inr (.inr rfl)⟩)⟩
theorem abw {ts : List T3} (h : ∀ t ∈ ts,SmT 200 t) : ∀ x ∈ cL ts,Xs x:=fun x hx=>by
 obtain ⟨t,ht,hx⟩:=kU.1 hx;have key : ∀ y,Sm 200 y → Xs y:=fun y ⟨⟨h1,h2⟩,⟨h3,h4⟩,h5,h6⟩=>⟨by omega,by omega,by omega,by omega,by omega,by omega⟩
 rcases hx with rfl | rfl | rfl
 · exact key _ (h t ht).1
 · exact key _ (h t ht).2.1
 · exact key _ (h t ht).2.2
end Go.Lith
namespace Go.Proofs.YtfohfflkhpfjeaaGreatDoor
open Go.Proofs.Tryz
open Go.RowKit Go.Lith
set_option maxRecDepth 100000
attribute [local irreducible] wpList wpQuiet dY dQ dO Code.wp
theorem Uf {n k : Int} [Iw n] (h0 : 0 < k) (h1 : k < 4611686018427387904) : jG prog 29 [.int .i64 n,.int .i64 k] (.int .i64 (n % k)):=by
 intro w;refine ⟨afs,?_⟩;have m:=cA.refl w;have hb:=Zn (n:=n) h0
 go_enter func29,ntmps29
 refine aD fun K1 k1=>wp_region_lit (aA (aC) (aG (k1 _ _ ?_)));refine aD fun K2 k2=>wp_region_lit (aA (aB) (aA (aB) ?_));simp only[zz];refine aA (dG rfl rfl (by omega) rfl) (aA (aB) ?_);simp only[zz];refine aA (aP rfl rfl (aM (by omega) (by omega))) (aA (aB) ?_);simp only[zz];refine aA (dG rfl rfl (by omega) (Sz h0)) (aA (aC) (aG (k2 _ _ ?_)));refine wp_ret ?_;simp only[zz];try simp only[Exit.inBlock,Exit.then,if_true]
 refine bO rfl rfl ?_;try simp only[zD,zE]
 exact ⟨_,rfl,m.ext,rfl⟩
theorem rG {n k : Int} [Iw n] (h0 : 0 < k) (h1 : k < 4611686018427387904) : jG prog 21 [.int .i64 n,.int .i64 k] (.int .i64 (n % k)):=by
 intro w;refine ⟨afm,?_⟩;have m:=cA.refl w;have hb:=Zn (n:=n) h0
 go_enter func21,ntmps21
 refine aD fun K1 k1=>wp_region_lit (aA (aC) (aG (k1 _ _ ?_)));refine aD fun K2 k2=>wp_region_lit (aA (aB) (aA (aB) ?_));simp only[zz];refine aA (dG rfl rfl (by omega) rfl) (aA (aB) ?_);simp only[zz];refine aA (aP rfl rfl (aM (by omega) (by omega))) (aA (aB) ?_);simp only[zz];refine aA (dG rfl rfl (by omega) (Sz h0)) (aA (aC) (aG (k2 _ _ ?_)));refine wp_ret ?_;simp only[zz];try simp only[Exit.inBlock,Exit.then,if_true]
 refine bO rfl rfl ?_;try simp only[zD,zE]
 exact ⟨_,rfl,m.ext,rfl⟩
theorem Ly {x y N cap : Nat} {A : Option Addr} {zs : List Int} (w : World) (hZ : pH w A N zs) (hx : x ≤ 6) (hy : y ≤ 6) : eK prog 84 [.int .i64 (x : Int),.int .i64 (y : Int),.int .i64 10,.slice A N cap] w (fun v _=>v = pt (lQ 10 zs x y)):=by
 refine ⟨agk,?_⟩;have m:=cA.refl w
 go_enter func84,ntmps84
 refine aD fun K1 k1=>wp_region_lit (bF m bQ rfl ?_);clear m;intro g1 u m;refine aG (k1 _ _ ?_);refine aD fun K2 k2=>wp_region_lit (aA (aC) (aG (k2 _ _ ?_)));refine aD fun K3 k3=>aD fun K4 k4=>wp_region_lit (aA (aB) (aA (aW rfl bW rfl) ?_));simp only[zz];refine aA (oU rfl rfl) (aG (k4 _ _ ?_));simp only[zz];refine bZ rfl (fun hc1=>?_) (fun hc1=>?_)
 ·
  have hi : (y * 7 + x) % N < N:=Nat.mod_lt _ (by omega);obtain ⟨z,hz,hzI,a,rfl,hcell⟩:=hZ.get hi;have hz6:=nK (n:=z) (m:=64) (by decide);refine wp_region_lit (aA (aB) (aA (aB) ?_));simp only[zz];refine aA (fJ rfl rfl (aM (by omega) (by omega))) (aA (aB) ?_);simp only[zz];refine aA (aP rfl rfl (aM (by omega) (by omega))) (aA (aB) (aA (aW rfl bW rfl) ?_));simp only[zz];refine aA (dG rfl rfl (by omega) (Ih (k:=y * 7 + x))) (aA (aI bW bD rfl rfl (Int.natCast_nonneg _) (Int.ofNat_lt.2 hi) (gM (Int.toNat_natCast _))) ?_);simp only[zz];refine aK rfl (lies1 (m.ext.cell hcell) bT) ?_;simp only[zz];refine gG m rfl rfl (Uf (n:=z) (k:=64) (by decide) (by decide)) ?_;clear m;intro u m;refine aA (aC) (aG (k3 _ _ ?_));refine aD fun K5 k5=>wp_region_lit (aA (aB) (aA (aB) ?_));simp only[zz];refine aA (fJ rfl rfl (aM (by omega) (by omega))) (aA (aB) (aA (aB) ?_));simp only[zz];refine aA (fJ rfl rfl (aM (by omega) (by omega))) (aA (aB) ?_);simp only[zz];refine aA (aP rfl rfl (aM (by omega) (by omega))) (aA (dP rfl rfl rfl) ?_);simp only[zz];refine aS m 0 rfl rfl rfl aF (dZ rfl) rfl ?_;clear m;intro u m;simp only[zy,zx,bG,zF,zG,Nat.reduceAdd] at m;refine aG (k5 _ _ ?_);refine wp_ret ?_;try simp only[Exit.inBlock,Exit.then,if_true]
  refine bO rfl ⟨_,rfl,((m.b 0 rfl).full aJ aF)⟩ ?_;try simp only[zD,zE]
  exact ⟨_,rfl,m.ext,by simp only[pt,lQ,Zp hZ.len hz]⟩
 ·
  refine wp_skip (k3 _ _ ?_);refine aD fun K6 k6=>wp_region_lit (aA (aB) (aA (aB) ?_));simp only[zz];refine aA (fJ rfl rfl (aM (by omega) (by omega))) (aA (aB) (aA (aB) ?_));simp only[zz];refine aA (fJ rfl rfl (aM (by omega) (by omega))) (aA (aB) (aA (aP (m:=100) (n:=0) (r:=100) rfl rfl (by decide)) (aA (dP rfl rfl rfl) ?_)));simp only[zz];refine aS m 0 rfl rfl rfl aF (dZ rfl) rfl ?_;clear m;intro u m;simp only[zy,zx,bG,zF,zG,Nat.reduceAdd] at m;refine aG (k6 _ _ ?_);refine wp_ret ?_;try simp only[Exit.inBlock,Exit.then,if_true]
  refine bO rfl ⟨_,rfl,((m.b 0 rfl).full aJ aF)⟩ ?_;try simp only[zD,zE]
  exact ⟨_,rfl,m.ext,by simp [pt,lQ,abZ hZ.len hc1]⟩
theorem xX {a b c d : P3} (w : World) : eK prog 85 [pt a,pt b,pt c,pt d] w (TS 53 (nL a b c d) w):=by
 refine ⟨agl,?_⟩;have m:=cA.refl w
 go_enter func85,ntmps85
 refine aD fun K1 k1=>wp_region_lit (eP m rfl ?_);clear m;intro g1 u m;simp only[zz];refine eP m rfl ?_;clear m;intro g2 u m;simp only[zz];refine eP m rfl ?_;clear m;intro g3 u m;simp only[zz];refine eP m rfl ?_;clear m;intro g4 u m;refine aA (aC) (aG (k1 _ _ ?_));refine aD fun K2 k2=>wp_region_lit ?_;simp only[zz];refine aK rfl ((m.b 3 rfl).full aJ aF) ?_;simp only[zz];refine aK rfl ((m.b 2 rfl).full aJ aF) ?_;simp only[zz];refine aK rfl ((m.b 1 rfl).full aJ aF) ?_;simp only[zz];refine aA (bM rfl rfl rfl) ?_;simp only[zz];refine aK rfl ((m.b 3 rfl).full aJ aF) ?_;simp only[zz];refine aK rfl ((m.b 1 rfl).full aJ aF) ?_;simp only[zz];refine aK rfl ((m.b 0 rfl).full aJ aF) ?_;simp only[zz];refine aA (bM rfl rfl rfl) ?_;simp only[zz];refine wG rfl rfl ?_;intro u g5 e hg hB;replace m:=m.newB e hg hB;clear e hg hB;refine aA (aC) (aG (k2 _ _ ?_));refine wp_ret ?_;simp only[zz];try simp only[Exit.inBlock,Exit.then,if_true]
 refine bO rfl rfl ?_;try simp only[zD,zE]
 exact ⟨_,rfl,m.ext,⟨_,_,_,rfl,rfl,m.bo 0 rfl rfl (dZ rfl)⟩⟩
theorem acT {n0 : Int} [Iw n0] {N cap : Nat} {A : Option Addr} {zs : List Int} (w : World) (hZ : pH w A N zs) : eK prog 43 [.int .i64 n0,.int .i64 10,.slice A N cap] w (TS 53 (xI 10 zs (1 + n0 % 6).toNat) w):=by
 refine ⟨afG,?_⟩;have m:=cA.refl w;have hb:=nK (n:=n0) (m:=6) (by decide);obtain ⟨q,hq⟩ : ∃ q : Nat,q = (1 + n0 % 6).toNat:=⟨_,rfl⟩
 rw [← hq];have hq2 : 1 + n0 % 6 = (q : Int):=by omega
 go_enter func43,ntmps43
 refine aD fun K1 k1=>wp_region_lit (aA (aC) (aG (k1 _ _ ?_)));refine aD fun K2 k2=>wp_region_lit (aA (aB) ?_);simp only[zz];refine gG m rfl rfl (Uf (n:=n0) (k:=6) (by decide) (by decide)) ?_;clear m;intro u m;simp only[zz];refine aA (aP rfl rfl (aM (by omega) (by omega))) (aA (aC) (aG ?_));simp only[zz];rw [hq2];refine k2 _ _ ?_;refine aD fun K3 k3=>wp_region_lit (aA (aC) ?_);replace m:=m.nilO 53 9;refine aG (k3 _ _ ?_);refine aD fun K4 k4=>aD fun K5 k5=>wp_region_lit (aA (aC) (aG (k5 _ _ ?_)));refine wp_block ?_;simp only[zz];try simp only[Nat.zero_add,Nat.reduceAdd,Nat.reduceMul,Int.reduceToNat]
 refine bH [7,8] [9,10,11,12,13,17,18,19,20,21,22,23,24,25,26,27,28,29,30,31,32,33,34,35,36,37,38,39,40,41,42,43,44,45,46,47,48,49,50,51,52,53,54,55,56,57] (fun n vs wl=>∃ (A1 : Option Addr) (cap1 y : Nat),vs = [.slice A1 (fM 10 zs q (y) (0)).length cap1,.int .i64 (y:Int)] ∧ cA w wl [oI 53 9 A1 (fM 10 zs q (y) (0)).length cap1 ((fM 10 zs q (y) (0)).flatMap aX)] ∧ (y ≤ q) ∧ (n = q - y)) ?_ ?_
 ·
  apply Exists.intro;simp only[zQ,zR,zD,zE];exact ⟨none,0,0,rfl,m,Nat.zero_le _,rfl⟩
 ·
  intro n vs wr hI u;clear m;obtain ⟨A1,cap1,y,rfl,m,hy,hn⟩:=hI;simp only[zu,zF,zG];refine aD fun K6 k6=>aD fun K7 k7=>wp_region_lit (aA (aB) (aA (aB) (aA (cE rfl rfl) (aG (k7 _ _ ?_)))));simp only[zz];refine bZ rfl (fun hc1=>?_) (fun hc1=>?_)
  ·
   refine wp_skip (k6 _ _ ?_);refine aD fun K8 k8=>wp_block (aD fun K9 k9=>wp_region_lit (aA (aC) (aG (k9 _ _ ?_))));refine wp_block ?_;simp only[zz];try simp only[Nat.zero_add,Nat.reduceAdd,Nat.reduceMul,Int.reduceToNat]
   refine bH [7,9] [10,11,12,13,22,23,24,25,26,27,28,29,30,31,32,33,34,35,36,37,38,39,40,41,42,43,44,45,46,47,48,49,50,51,52,53,54,55,56,57] (fun n vs wl=>∃ (A1 : Option Addr) (cap1 x : Nat),vs = [.slice A1 (fM 10 zs q (y) (x)).length cap1,.int .i64 (x:Int)] ∧ cA w wl [oI 53 9 A1 (fM 10 zs q (y) (x)).length cap1 ((fM 10 zs q (y) (x)).flatMap aX)] ∧ (x ≤ q) ∧ (n = q - x)) ?_ ?_
   ·
    apply Exists.intro;simp only[zQ,zR,zD,zE];exact ⟨_,_,0,rfl,m,Nat.zero_le _,rfl⟩
   ·
    intro n vs wr hI u;clear m;obtain ⟨A1,cap1,x,rfl,m,hx,hn2⟩:=hI;simp only[zu,zF,zG];refine aD fun K10 k10=>aD fun K11 k11=>wp_region_lit (aA (aB) (aA (aB) (aA (cE rfl rfl) (aG (k11 _ _ ?_)))));simp only[zz];refine bZ rfl (fun hc2=>?_) (fun hc2=>?_)
    ·
     refine wp_skip (k10 _ _ ?_);refine aD fun K12 k12=>wp_block (aD fun K13 k13=>wp_region_lit (aA (aB) (aA (aB) (aA (aB) (aA (aB) ?_)))));simp only[zz];refine eH m rfl rfl (Ly (x:=x) (y:=y) _ (hZ.ext m.ext) (by omega) (by omega)) ?_;clear m;rintro v u m rfl;simp only[zz];refine bF m bQ rfl ?_;clear m;intro g1 u m;simp only[zz];refine aS m 0 rfl rfl rfl aF (dZ rfl) rfl ?_;clear m;intro u m;simp only[zy,zx,bG,zF,zG,Nat.reduceAdd] at m;refine aG (k13 _ _ ?_);refine aD fun K14 k14=>wp_region_lit (aA (aB) ?_);simp only[zz];refine aA (aP rfl rfl (aM (by omega) (by omega))) (aA (aB) (aA (aB) (aA (aB) ?_)));simp only[zz];refine eH m rfl rfl (Ly (x:=x + 1) (y:=y) _ (hZ.ext m.ext) (by omega) (by omega)) ?_;clear m;rintro v u m rfl;simp only[zz];refine bF m bQ rfl ?_;clear m;intro g2 u m;simp only[zz];refine aS m 0 rfl rfl rfl aF (dZ rfl) rfl ?_;clear m;intro u m;simp only[zy,zx,bG,zF,zG,Nat.reduceAdd] at m;refine aG (k14 _ _ ?_);refine aD fun K15 k15=>wp_region_lit (aA (aB) ?_);simp only[zz];refine aA (aP rfl rfl (aM (by omega) (by omega))) (aA (aB) ?_);simp only[zz];refine aA (aP rfl rfl (aM (by omega) (by omega))) (aA (aB) (aA (aB) ?_));simp only[zz];refine eH m rfl rfl (Ly (x:=x + 1) (y:=y + 1) _ (hZ.ext m.ext) (by omega) (by omega)) ?_;clear m;rintro v u m rfl;simp only[zz];refine bF m bQ rfl ?_;clear m;intro g3 u m;simp only[zz];refine aS m 0 rfl rfl rfl aF (dZ rfl) rfl ?_;clear m;intro u m;simp only[zy,zx,bG,zF,zG,Nat.reduceAdd] at m;refine aG (k15 _ _ ?_);refine aD fun K16 k16=>wp_region_lit (aA (aB) (aA (aB) ?_));simp only[zz];refine aA (aP rfl rfl (aM (by omega) (by omega))) (aA (aB) (aA (aB) ?_));simp only[zz];refine eH m rfl rfl (Ly (x:=x) (y:=y + 1) _ (hZ.ext m.ext) (by omega) (by omega)) ?_;clear m;rintro v u m rfl;simp only[zz];refine bF m bQ rfl ?_;clear m;intro g4 u m;simp only[zz];refine aS m 0 rfl rfl rfl aF (dZ rfl) rfl ?_;clear m;intro u m;simp only[zy,zx,bG,zF,zG,Nat.reduceAdd] at m;refine aG (k16 _ _ ?_);refine wp_region_lit (aA (aB) ?_);simp only[zz];refine aK rfl ((m.b 3 rfl).full aJ aF) ?_;simp only[zz];refine aK rfl ((m.b 2 rfl).full aJ aF) ?_;simp only[zz];refine aK rfl ((m.b 1 rfl).full aJ aF) ?_;simp only[zz];refine aK rfl ((m.b 0 rfl).full aJ aF) ?_;simp only[zz];refine bA rfl rfl (xX (a:=lQ 10 zs x y) (b:=lQ 10 zs (x + 1) y) (c:=lQ 10 zs (x + 1) (y + 1)) (d:=lQ 10 zs x (y + 1)) _) ?_;rintro v u e ⟨A2,cap2,_,rfl,rfl,hN⟩;replace m:=m.newO e hN;clear e hN;simp only[zz];refine eI m 5 rfl rfl bS nN rfl (by decide) rfl rfl (m.o 0 rfl).own.1 (m.o 0 rfl).row (nG _) (by have:=uZ (s:=10) (zs:=zs) (n:=q) (y:=y) (x:=x) (by omega) (by omega) (by omega);show _ + 2 ≤ _;omega) (by have:=uZ (s:=10) (zs:=zs) (n:=q) (y:=y) (x:=x) (by omega) (by omega) (by omega);show (_ + 2) * 72 ≤ _;omega) ?_;clear m;intro A1 cap1 u m;simp only[zF,zG] at m;rw [Zq,Zr] at m;rw [Zr];refine aA (aC) (aG (k12 _ _ ?_));refine wp_region_lit (aA (aB) ?_);simp only[zz];refine aA (aP rfl rfl (aM (by omega) (by omega))) (aA (aC) (aG ?_));simp only[zz];simp only[Exit.inBlock,Exit.then];refine ⟨q - (x + 1),_,?_,rfl,?_,?_⟩
     · omega
     · simp only[zz,zv]
     ·
      simp only[zQ,zR,zD,zE];exact ⟨_,_,x + 1,rfl,(m.sel [false,false,false,false,false,true]),by omega,rfl⟩
    ·
     have hxq : x = q:=by omega
     rw [hxq,Ko] at m ⊢;refine wp_exit (k8 _ _ ?_);refine wp_region_lit (aA (aB) ?_);simp only[zz];refine aA (aP rfl rfl (aM (by omega) (by omega))) (aA (aC) (aG ?_));simp only[zz];simp only[Exit.inBlock,Exit.then];refine ⟨q - (y + 1),_,?_,rfl,?_,?_⟩
     · omega
     · simp only[zz,zv]
     ·
      simp only[zQ,zR,zD,zE];exact ⟨_,_,y + 1,rfl,m,by omega,rfl⟩
  ·
   have hyq : y = q:=by omega
   rw [hyq,tL] at m ⊢;refine wp_exit (k4 _ _ ?_);refine aD fun K17 k17=>wp_region_lit (aA (aB) (aA (aC) (aG (k17 _ _ ?_))));refine wp_ret ?_;simp only[zz];try simp only[Exit.inBlock,Exit.then,if_true]
   refine bO rfl rfl ?_;try simp only[zD,zE]
   exact ⟨_,rfl,m.ext,⟨_,_,_,rfl,rfl,(m.o 0 rfl)⟩⟩
end Go.Proofs.YtfohfflkhpfjeaaGreatDoor
namespace Go.Proofs.YtfohfflkhpfjeaaGreatDoor
open Go.Proofs.Tryz
open Go.RowKit Go.Lith
set_option maxRecDepth 100000
attribute [local irreducible] wpList wpQuiet dY dQ dO Code.wp
end Go.Proofs.YtfohfflkhpfjeaaGreatDoor
namespace Go.Proofs.YtfohfflkhpfjeaaGreatDoor
open Go.Proofs.Tryz
open Go.RowKit Go.Lith
set_option maxRecDepth 100000
attribute [local irreducible] wpList wpQuiet dY dQ dO Code.wp
theorem aeN {p : P3} (w : World) (hp : Sm 100 p) : eK prog 83 [pt p,.int .i64 8] w (TS 53 (uY p 8) w):=by
 refine ⟨agj,?_⟩;have m:=cA.refl w;have hp1:=hp.1;have hp2:=hp.2.1;have hp3:=hp.2.2
 go_enter func83,ntmps83
 refine aD fun K1 k1=>wp_region_lit (eP m rfl ?_);clear m;intro g1 u m;refine aA (aC) (aG (k1 _ _ ?_));refine aD fun K2 k2=>wp_region_lit ?_;simp only[zz];refine bF m aak rfl ?_;clear m;intro g2 u m;refine aG (k2 _ _ ?_);refine aD fun K3 k3=>aD fun K4 k4=>wp_region_lit (aA (aC) (aG (k4 _ _ ?_)));refine wp_block (wp_loop_rounds 9 (dU (aD fun K5 k5=>aD fun K6 k6=>wp_region_lit (aA (aB) (aA (bX (m:=0) (n:=8) rfl rfl (by decide)) ?_)))));simp only[zz];refine aG (k6 _ _ ?_);refine cG rfl (wp_skip (k5 _ _ ?_));refine aD fun K7 k7=>wp_block (wp_region_lit (aA (aB) (aA (aN (c:=0) eD rfl bD rfl rfl) ?_)));simp only[zz];refine aK rfl ((m.b 1 rfl).lies1 bT rfl) ?_;simp only[zz];refine aA (aB) (aA (dG (m:=0) (n:=2) (r:=0) rfl rfl (by decide) (by decide)) (aA (aB) (aA (fJ (m:=0) (n:=8) (r:=0) rfl rfl (by decide)) ?_)));simp only[zz];refine aA (aP rfl rfl (aM (by omega) (by omega))) (aA (aN (c:=0) eD rfl bD rfl rfl) ?_);simp only[zz];refine aK rfl ((m.b 1 rfl).lies1 bT rfl) ?_;simp only[zz];refine aA (aB) (aA (gW (m:=0) (n:=2) (r:=0) rfl rfl (by decide) (by decide)) (aA (dG (m:=0) (n:=2) (r:=0) rfl rfl (by decide) (by decide)) (aA (aB) ?_)));simp only[zz];refine aA (fJ (m:=0) (n:=8) (r:=0) rfl rfl (by decide)) ?_;simp only[zz];refine aA (aP rfl rfl (aM (by omega) (by omega))) (aA (aN (c:=0) eD rfl bD rfl rfl) ?_);simp only[zz];refine aK rfl ((m.b 1 rfl).lies1 bT rfl) ?_;simp only[zz];refine aA (aB) (aA (gW (m:=0) (n:=4) (r:=0) rfl rfl (by decide) (by decide)) (aA (aB) (aA (fJ (m:=0) (n:=8) (r:=0) rfl rfl (by decide)) ?_)));simp only[zz];refine aA (aP rfl rfl (aM (by omega) (by omega))) (aA (dP rfl rfl rfl) (aA (aH fU aF rfl rfl (by decide) (by decide) rfl) ?_));simp only[zz];refine aS m 0 rfl rfl rfl aF (dZ rfl) rfl ?_;clear m;intro u m;simp only[zy,zx,bG,zF,zG,Nat.reduceAdd] at m;refine aG (k7 _ _ ?_);refine wp_region_lit (aA (aB) (aA (aP (m:=0) (n:=1) (r:=1) rfl rfl (by decide)) (aA (aC) (aG (aU (aD fun K8 k8=>aD fun K9 k9=>wp_region_lit (aA (aB) ?_)))))));simp only[zz];refine aA (bX (m:=1) (n:=8) rfl rfl (by decide)) (aG (k9 _ _ ?_));refine cG rfl (wp_skip (k8 _ _ ?_));refine aD fun K10 k10=>wp_block (wp_region_lit (aA (aB) (aA (aN (c:=0) eD rfl bD rfl rfl) ?_)));simp only[zz];refine aK rfl ((m.b 1 rfl).lies1 bT rfl) ?_;simp only[zz];refine aA (aB) (aA (dG (m:=1) (n:=2) (r:=1) rfl rfl (by decide) (by decide)) (aA (aB) (aA (fJ (m:=1) (n:=8) (r:=8) rfl rfl (by decide)) ?_)));simp only[zz];refine aA (aP rfl rfl (aM (by omega) (by omega))) (aA (aN (c:=0) eD rfl bD rfl rfl) ?_);simp only[zz];refine aK rfl ((m.b 1 rfl).lies1 bT rfl) ?_;simp only[zz];refine aA (aB) (aA (gW (m:=1) (n:=2) (r:=0) rfl rfl (by decide) (by decide)) (aA (dG (m:=0) (n:=2) (r:=0) rfl rfl (by decide) (by decide)) (aA (aB) ?_)));simp only[zz];refine aA (fJ (m:=0) (n:=8) (r:=0) rfl rfl (by decide)) ?_;simp only[zz];refine aA (aP rfl rfl (aM (by omega) (by omega))) (aA (aN (c:=0) eD rfl bD rfl rfl) ?_);simp only[zz];refine aK rfl ((m.b 1 rfl).lies1 bT rfl) ?_;simp only[zz];refine aA (aB) (aA (gW (m:=1) (n:=4) (r:=0) rfl rfl (by decide) (by decide)) (aA (aB) (aA (fJ (m:=0) (n:=8) (r:=0) rfl rfl (by decide)) ?_)));simp only[zz];refine aA (aP rfl rfl (aM (by omega) (by omega))) (aA (dP rfl rfl rfl) (aA (aH fU aF rfl rfl (by decide) (by decide) rfl) ?_));simp only[zz];refine aS m 0 rfl rfl rfl aF (dZ rfl) rfl ?_;clear m;intro u m;simp only[zy,zx,bG,zF,zG,Nat.reduceAdd] at m;refine aG (k10 _ _ ?_);refine wp_region_lit (aA (aB) (aA (aP (m:=1) (n:=1) (r:=2) rfl rfl (by decide)) (aA (aC) (aG (aU (aD fun K11 k11=>aD fun K12 k12=>wp_region_lit (aA (aB) ?_)))))));simp only[zz];refine aA (bX (m:=2) (n:=8) rfl rfl (by decide)) (aG (k12 _ _ ?_));refine cG rfl (wp_skip (k11 _ _ ?_));refine aD fun K13 k13=>wp_block (wp_region_lit (aA (aB) (aA (aN (c:=0) eD rfl bD rfl rfl) ?_)));simp only[zz];refine aK rfl ((m.b 1 rfl).lies1 bT rfl) ?_;simp only[zz];refine aA (aB) (aA (dG (m:=2) (n:=2) (r:=0) rfl rfl (by decide) (by decide)) (aA (aB) (aA (fJ (m:=0) (n:=8) (r:=0) rfl rfl (by decide)) ?_)));simp only[zz];refine aA (aP rfl rfl (aM (by omega) (by omega))) (aA (aN (c:=0) eD rfl bD rfl rfl) ?_);simp only[zz];refine aK rfl ((m.b 1 rfl).lies1 bT rfl) ?_;simp only[zz];refine aA (aB) (aA (gW (m:=2) (n:=2) (r:=1) rfl rfl (by decide) (by decide)) (aA (dG (m:=1) (n:=2) (r:=1) rfl rfl (by decide) (by decide)) (aA (aB) ?_)));simp only[zz];refine aA (fJ (m:=1) (n:=8) (r:=8) rfl rfl (by decide)) ?_;simp only[zz];refine aA (aP rfl rfl (aM (by omega) (by omega))) (aA (aN (c:=0) eD rfl bD rfl rfl) ?_);simp only[zz];refine aK rfl ((m.b 1 rfl).lies1 bT rfl) ?_;simp only[zz];refine aA (aB) (aA (gW (m:=2) (n:=4) (r:=0) rfl rfl (by decide) (by decide)) (aA (aB) (aA (fJ (m:=0) (n:=8) (r:=0) rfl rfl (by decide)) ?_)));simp only[zz];refine aA (aP rfl rfl (aM (by omega) (by omega))) (aA (dP rfl rfl rfl) (aA (aH fU aF rfl rfl (by decide) (by decide) rfl) ?_));simp only[zz];refine aS m 0 rfl rfl rfl aF (dZ rfl) rfl ?_;clear m;intro u m;simp only[zy,zx,bG,zF,zG,Nat.reduceAdd] at m;refine aG (k13 _ _ ?_);refine wp_region_lit (aA (aB) (aA (aP (m:=2) (n:=1) (r:=3) rfl rfl (by decide)) (aA (aC) (aG (aU (aD fun K14 k14=>aD fun K15 k15=>wp_region_lit (aA (aB) ?_)))))));simp only[zz];refine aA (bX (m:=3) (n:=8) rfl rfl (by decide)) (aG (k15 _ _ ?_));refine cG rfl (wp_skip (k14 _ _ ?_));refine aD fun K16 k16=>wp_block (wp_region_lit (aA (aB) (aA (aN (c:=0) eD rfl bD rfl rfl) ?_)));simp only[zz];refine aK rfl ((m.b 1 rfl).lies1 bT rfl) ?_;simp only[zz];refine aA (aB) (aA (dG (m:=3) (n:=2) (r:=1) rfl rfl (by decide) (by decide)) (aA (aB) (aA (fJ (m:=1) (n:=8) (r:=8) rfl rfl (by decide)) ?_)));simp only[zz];refine aA (aP rfl rfl (aM (by omega) (by omega))) (aA (aN (c:=0) eD rfl bD rfl rfl) ?_);simp only[zz];refine aK rfl ((m.b 1 rfl).lies1 bT rfl) ?_;simp only[zz];refine aA (aB) (aA (gW (m:=3) (n:=2) (r:=1) rfl rfl (by decide) (by decide)) (aA (dG (m:=1) (n:=2) (r:=1) rfl rfl (by decide) (by decide)) (aA (aB) ?_)));simp only[zz];refine aA (fJ (m:=1) (n:=8) (r:=8) rfl rfl (by decide)) ?_;simp only[zz];refine aA (aP rfl rfl (aM (by omega) (by omega))) (aA (aN (c:=0) eD rfl bD rfl rfl) ?_);simp only[zz];refine aK rfl ((m.b 1 rfl).lies1 bT rfl) ?_;simp only[zz];refine aA (aB) (aA (gW (m:=3) (n:=4) (r:=0) rfl rfl (by decide) (by decide)) (aA (aB) (aA (fJ (m:=0) (n:=8) (r:=0) rfl rfl (by decide)) ?_)));simp only[zz];refine aA (aP rfl rfl (aM (by omega) (by omega))) (aA (dP rfl rfl rfl) (aA (aH fU aF rfl rfl (by decide) (by decide) rfl) ?_));simp only[zz];refine aS m 0 rfl rfl rfl aF (dZ rfl) rfl ?_;clear m;intro u m;simp only[zy,zx,bG,zF,zG,Nat.reduceAdd] at m;refine aG (k16 _ _ ?_);refine wp_region_lit (aA (aB) (aA (aP (m:=3) (n:=1) (r:=4) rfl rfl (by decide)) (aA (aC) (aG (aU (aD fun K17 k17=>aD fun K18 k18=>wp_region_lit (aA (aB) ?_)))))));simp only[zz];refine aA (bX (m:=4) (n:=8) rfl rfl (by decide)) (aG (k18 _ _ ?_));refine cG rfl (wp_skip (k17 _ _ ?_));refine aD fun K19 k19=>wp_block (wp_region_lit (aA (aB) (aA (aN (c:=0) eD rfl bD rfl rfl) ?_)));simp only[zz];refine aK rfl ((m.b 1 rfl).lies1 bT rfl) ?_;simp only[zz];refine aA (aB) (aA (dG (m:=4) (n:=2) (r:=0) rfl rfl (by decide) (by decide)) (aA (aB) (aA (fJ (m:=0) (n:=8) (r:=0) rfl rfl (by decide)) ?_)));simp only[zz];refine aA (aP rfl rfl (aM (by omega) (by omega))) (aA (aN (c:=0) eD rfl bD rfl rfl) ?_);simp only[zz];refine aK rfl ((m.b 1 rfl).lies1 bT rfl) ?_;simp only[zz];refine aA (aB) (aA (gW (m:=4) (n:=2) (r:=2) rfl rfl (by decide) (by decide)) (aA (dG (m:=2) (n:=2) (r:=0) rfl rfl (by decide) (by decide)) (aA (aB) ?_)));simp only[zz];refine aA (fJ (m:=0) (n:=8) (r:=0) rfl rfl (by decide)) ?_;simp only[zz];refine aA (aP rfl rfl (aM (by omega) (by omega))) (aA (aN (c:=0) eD rfl bD rfl rfl) ?_);simp only[zz];refine aK rfl ((m.b 1 rfl).lies1 bT rfl) ?_;simp only[zz];refine aA (aB) (aA (gW (m:=4) (n:=4) (r:=1) rfl rfl (by decide) (by decide)) (aA (aB) (aA (fJ (m:=1) (n:=8) (r:=8) rfl rfl (by decide)) ?_)));simp only[zz];refine aA (aP rfl rfl (aM (by omega) (by omega))) (aA (dP rfl rfl rfl) (aA (aH fU aF rfl rfl (by decide) (by decide) rfl) ?_));simp only[zz];refine aS m 0 rfl rfl rfl aF (dZ rfl) rfl ?_;clear m;intro u m;simp only[zy,zx,bG,zF,zG,Nat.reduceAdd] at m;refine aG (k19 _ _ ?_);refine wp_region_lit (aA (aB) (aA (aP (m:=4) (n:=1) (r:=5) rfl rfl (by decide)) (aA (aC) (aG (aU (aD fun K20 k20=>aD fun K21 k21=>wp_region_lit (aA (aB) ?_)))))));simp only[zz];refine aA (bX (m:=5) (n:=8) rfl rfl (by decide)) (aG (k21 _ _ ?_));refine cG rfl (wp_skip (k20 _ _ ?_));refine aD fun K22 k22=>wp_block (wp_region_lit (aA (aB) (aA (aN (c:=0) eD rfl bD rfl rfl) ?_)));simp only[zz];refine aK rfl ((m.b 1 rfl).lies1 bT rfl) ?_;simp only[zz];refine aA (aB) (aA (dG (m:=5) (n:=2) (r:=1) rfl rfl (by decide) (by decide)) (aA (aB) (aA (fJ (m:=1) (n:=8) (r:=8) rfl rfl (by decide)) ?_)));simp only[zz];refine aA (aP rfl rfl (aM (by omega) (by omega))) (aA (aN (c:=0) eD rfl bD rfl rfl) ?_);simp only[zz];refine aK rfl ((m.b 1 rfl).lies1 bT rfl) ?_;simp only[zz];refine aA (aB) (aA (gW (m:=5) (n:=2) (r:=2) rfl rfl (by decide) (by decide)) (aA (dG (m:=2) (n:=2) (r:=0) rfl rfl (by decide) (by decide)) (aA (aB) ?_)));simp only[zz];refine aA (fJ (m:=0) (n:=8) (r:=0) rfl rfl (by decide)) ?_;simp only[zz];refine aA (aP rfl rfl (aM (by omega) (by omega))) (aA (aN (c:=0) eD rfl bD rfl rfl) ?_);simp only[zz];refine aK rfl ((m.b 1 rfl).lies1 bT rfl) ?_;simp only[zz];refine aA (aB) (aA (gW (m:=5) (n:=4) (r:=1) rfl rfl (by decide) (by decide)) (aA (aB) (aA (fJ (m:=1) (n:=8) (r:=8) rfl rfl (by decide)) ?_)));simp only[zz];refine aA (aP rfl rfl (aM (by omega) (by omega))) (aA (dP rfl rfl rfl) (aA (aH fU aF rfl rfl (by decide) (by decide) rfl) ?_));simp only[zz];refine aS m 0 rfl rfl rfl aF (dZ rfl) rfl ?_;clear m;intro u m;simp only[zy,zx,bG,zF,zG,Nat.reduceAdd] at m;refine aG (k22 _ _ ?_);refine wp_region_lit (aA (aB) (aA (aP (m:=5) (n:=1) (r:=6) rfl rfl (by decide)) (aA (aC) (aG (aU (aD fun K23 k23=>aD fun K24 k24=>wp_region_lit (aA (aB) ?_)))))));simp only[zz];refine aA (bX (m:=6) (n:=8) rfl rfl (by decide)) (aG (k24 _ _ ?_));refine cG rfl (wp_skip (k23 _ _ ?_));refine aD fun K25 k25=>wp_block (wp_region_lit (aA (aB) (aA (aN (c:=0) eD rfl bD rfl rfl) ?_)));simp only[zz];refine aK rfl ((m.b 1 rfl).lies1 bT rfl) ?_;simp only[zz];refine aA (aB) (aA (dG (m:=6) (n:=2) (r:=0) rfl rfl (by decide) (by decide)) (aA (aB) (aA (fJ (m:=0) (n:=8) (r:=0) rfl rfl (by decide)) ?_)));simp only[zz];refine aA (aP rfl rfl (aM (by omega) (by omega))) (aA (aN (c:=0) eD rfl bD rfl rfl) ?_);simp only[zz];refine aK rfl ((m.b 1 rfl).lies1 bT rfl) ?_;simp only[zz];refine aA (aB) (aA (gW (m:=6) (n:=2) (r:=3) rfl rfl (by decide) (by decide)) (aA (dG (m:=3) (n:=2) (r:=1) rfl rfl (by decide) (by decide)) (aA (aB) ?_)));simp only[zz];refine aA (fJ (m:=1) (n:=8) (r:=8) rfl rfl (by decide)) ?_;simp only[zz];refine aA (aP rfl rfl (aM (by omega) (by omega))) (aA (aN (c:=0) eD rfl bD rfl rfl) ?_);simp only[zz];refine aK rfl ((m.b 1 rfl).lies1 bT rfl) ?_;simp only[zz];refine aA (aB) (aA (gW (m:=6) (n:=4) (r:=1) rfl rfl (by decide) (by decide)) (aA (aB) (aA (fJ (m:=1) (n:=8) (r:=8) rfl rfl (by decide)) ?_)));simp only[zz];refine aA (aP rfl rfl (aM (by omega) (by omega))) (aA (dP rfl rfl rfl) (aA (aH fU aF rfl rfl (by decide) (by decide) rfl) ?_));simp only[zz];refine aS m 0 rfl rfl rfl aF (dZ rfl) rfl ?_;clear m;intro u m;simp only[zy,zx,bG,zF,zG,Nat.reduceAdd] at m;refine aG (k25 _ _ ?_);refine wp_region_lit (aA (aB) (aA (aP (m:=6) (n:=1) (r:=7) rfl rfl (by decide)) (aA (aC) (aG (aU (aD fun K26 k26=>aD fun K27 k27=>wp_region_lit (aA (aB) ?_)))))));simp only[zz];refine aA (bX (m:=7) (n:=8) rfl rfl (by decide)) (aG (k27 _ _ ?_));refine cG rfl (wp_skip (k26 _ _ ?_));refine aD fun K28 k28=>wp_block (wp_region_lit (aA (aB) (aA (aN (c:=0) eD rfl bD rfl rfl) ?_)));simp only[zz];refine aK rfl ((m.b 1 rfl).lies1 bT rfl) ?_;simp only[zz];refine aA (aB) (aA (dG (m:=7) (n:=2) (r:=1) rfl rfl (by decide) (by decide)) (aA (aB) (aA (fJ (m:=1) (n:=8) (r:=8) rfl rfl (by decide)) ?_)));simp only[zz];refine aA (aP rfl rfl (aM (by omega) (by omega))) (aA (aN (c:=0) eD rfl bD rfl rfl) ?_);simp only[zz];refine aK rfl ((m.b 1 rfl).lies1 bT rfl) ?_;simp only[zz];refine aA (aB) (aA (gW (m:=7) (n:=2) (r:=3) rfl rfl (by decide) (by decide)) (aA (dG (m:=3) (n:=2) (r:=1) rfl rfl (by decide) (by decide)) (aA (aB) ?_)));simp only[zz];refine aA (fJ (m:=1) (n:=8) (r:=8) rfl rfl (by decide)) ?_;simp only[zz];refine aA (aP rfl rfl (aM (by omega) (by omega))) (aA (aN (c:=0) eD rfl bD rfl rfl) ?_);simp only[zz];refine aK rfl ((m.b 1 rfl).lies1 bT rfl) ?_;simp only[zz];refine aA (aB) (aA (gW (m:=7) (n:=4) (r:=1) rfl rfl (by decide) (by decide)) (aA (aB) (aA (fJ (m:=1) (n:=8) (r:=8) rfl rfl (by decide)) ?_)));simp only[zz];refine aA (aP rfl rfl (aM (by omega) (by omega))) (aA (dP rfl rfl rfl) (aA (aH fU aF rfl rfl (by decide) (by decide) rfl) ?_));simp only[zz];refine aS m 0 rfl rfl rfl aF (dZ rfl) rfl ?_;clear m;intro u m;simp only[zy,zx,bG,zF,zG,Nat.reduceAdd] at m;refine aG (k28 _ _ ?_);refine wp_region_lit (aA (aB) (aA (aP (m:=7) (n:=1) (r:=8) rfl rfl (by decide)) (aA (aC) (aG (aU (aD fun K29 k29=>aD fun K30 k30=>wp_region_lit (aA (aB) ?_)))))));simp only[zz];refine aA (eU (m:=8) (n:=8) rfl rfl (by decide)) (aG (k30 _ _ ?_));refine iO rfl (wp_exit (k3 _ _ ?_));refine aD fun K31 k31=>?_;simp only[zz];change cA w _ [bI g2 [.int .i64 (cU p 8 0).x,.int .i64 (cU p 8 0).y,.int .i64 (cU p 8 0).z,.int .i64 (cU p 8 1).x,.int .i64 (cU p 8 1).y,.int .i64 (cU p 8 1).z,.int .i64 (cU p 8 2).x,.int .i64 (cU p 8 2).y,.int .i64 (cU p 8 2).z,.int .i64 (cU p 8 3).x,.int .i64 (cU p 8 3).y,.int .i64 (cU p 8 3).z,.int .i64 (cU p 8 4).x,.int .i64 (cU p 8 4).y,.int .i64 (cU p 8 4).z,.int .i64 (cU p 8 5).x,.int .i64 (cU p 8 5).y,.int .i64 (cU p 8 5).z,.int .i64 (cU p 8 6).x,.int .i64 (cU p 8 6).y,.int .i64 (cU p 8 6).z,.int .i64 (cU p 8 7).x,.int .i64 (cU p 8 7).y,.int .i64 (cU p 8 7).z] _,_] at m;refine wp_region_lit (aA (aH fU aF rfl rfl (by decide) (by decide) rfl) ?_);simp only[zz];refine aK rfl ((m.b 0 rfl).lies aJ aF rfl rfl) ?_;simp only[zz,zy,Nat.zero_add,Nat.reduceAdd,Nat.reduceMul,Int.reduceToNat];refine aA (aH fU aF rfl rfl (by decide) (by decide) rfl) ?_;simp only[zz];refine aK rfl ((m.b 0 rfl).lies aJ aF rfl rfl) ?_;simp only[zz,zy,Nat.zero_add,Nat.reduceAdd,Nat.reduceMul,Int.reduceToNat];refine aA (aH fU aF rfl rfl (by decide) (by decide) rfl) ?_;simp only[zz];refine aK rfl ((m.b 0 rfl).lies aJ aF rfl rfl) ?_;simp only[zz,zy,Nat.zero_add,Nat.reduceAdd,Nat.reduceMul,Int.reduceToNat];refine aA (aH fU aF rfl rfl (by decide) (by decide) rfl) ?_;simp only[zz];refine aK rfl ((m.b 0 rfl).lies aJ aF rfl rfl) ?_;simp only[zz,zy,Nat.zero_add,Nat.reduceAdd,Nat.reduceMul,Int.reduceToNat];refine bA rfl rfl (xX (a:=cU p 8 0) (b:=cU p 8 2) (c:=cU p 8 3) (d:=cU p 8 1) _) ?_;rintro v u e ⟨A1,cap1,_,rfl,rfl,hN⟩;replace m:=m.newO e hN;clear e hN;refine aA (aC) (aG (k31 _ _ ?_));refine aD fun K32 k32=>wp_region_lit (aA (aB) (aA (aH fU aF rfl rfl (by decide) (by decide) rfl) ?_));simp only[zz];refine aK rfl ((m.b 1 rfl).lies aJ aF rfl rfl) ?_;simp only[zz,zy,Nat.zero_add,Nat.reduceAdd,Nat.reduceMul,Int.reduceToNat];refine aA (aH fU aF rfl rfl (by decide) (by decide) rfl) ?_;simp only[zz];refine aK rfl ((m.b 1 rfl).lies aJ aF rfl rfl) ?_;simp only[zz,zy,Nat.zero_add,Nat.reduceAdd,Nat.reduceMul,Int.reduceToNat];refine aA (aH fU aF rfl rfl (by decide) (by decide) rfl) ?_;simp only[zz];refine aK rfl ((m.b 1 rfl).lies aJ aF rfl rfl) ?_;simp only[zz,zy,Nat.zero_add,Nat.reduceAdd,Nat.reduceMul,Int.reduceToNat];refine aA (aH fU aF rfl rfl (by decide) (by decide) rfl) ?_;simp only[zz];refine aK rfl ((m.b 1 rfl).lies aJ aF rfl rfl) ?_;simp only[zz,zy,Nat.zero_add,Nat.reduceAdd,Nat.reduceMul,Int.reduceToNat];refine bA rfl rfl (xX (a:=cU p 8 4) (b:=cU p 8 5) (c:=cU p 8 7) (d:=cU p 8 6) _) ?_;rintro v u e ⟨A2,cap2,_,rfl,rfl,hN⟩;replace m:=m.newO e hN;clear e hN;simp only[zz];refine eI m 1 rfl rfl bS nN rfl (by decide) rfl rfl (m.o 0 rfl).own.1 (m.o 0 rfl).row (nG _) (dZ rfl) (dZ rfl) ?_;clear m;intro A1 cap1 u m;simp only[zF,zG] at m;refine aA (aC) (aG (k32 _ _ ?_));refine aD fun K33 k33=>wp_region_lit (aA (aB) (aA (aH fU aF rfl rfl (by decide) (by decide) rfl) ?_));simp only[zz];refine aK rfl ((m.b 2 rfl).lies aJ aF rfl rfl) ?_;simp only[zz,zy,Nat.zero_add,Nat.reduceAdd,Nat.reduceMul,Int.reduceToNat];refine aA (aH fU aF rfl rfl (by decide) (by decide) rfl) ?_;simp only[zz];refine aK rfl ((m.b 2 rfl).lies aJ aF rfl rfl) ?_;simp only[zz,zy,Nat.zero_add,Nat.reduceAdd,Nat.reduceMul,Int.reduceToNat];refine aA (aH fU aF rfl rfl (by decide) (by decide) rfl) ?_;simp only[zz];refine aK rfl ((m.b 2 rfl).lies aJ aF rfl rfl) ?_;simp only[zz,zy,Nat.zero_add,Nat.reduceAdd,Nat.reduceMul,Int.reduceToNat];refine aA (aH fU aF rfl rfl (by decide) (by decide) rfl) ?_;simp only[zz];refine aK rfl ((m.b 2 rfl).lies aJ aF rfl rfl) ?_;simp only[zz,zy,Nat.zero_add,Nat.reduceAdd,Nat.reduceMul,Int.reduceToNat];refine bA rfl rfl (xX (a:=cU p 8 0) (b:=cU p 8 1) (c:=cU p 8 5) (d:=cU p 8 4) _) ?_;rintro v u e ⟨A3,cap3,_,rfl,rfl,hN⟩;replace m:=m.newO e hN;clear e hN;simp only[zz];refine eI m 2 rfl rfl bS nN rfl (by decide) rfl rfl (m.o 0 rfl).own.1 (m.o 0 rfl).row (nG _) (dZ rfl) (dZ rfl) ?_;clear m;intro A1 cap1 u m;simp only[zF,zG] at m;refine aA (aC) (aG (k33 _ _ ?_));refine aD fun K34 k34=>wp_region_lit (aA (aB) (aA (aH fU aF rfl rfl (by decide) (by decide) rfl) ?_));simp only[zz];refine aK rfl ((m.b 3 rfl).lies aJ aF rfl rfl) ?_;simp only[zz,zy,Nat.zero_add,Nat.reduceAdd,Nat.reduceMul,Int.reduceToNat];refine aA (aH fU aF rfl rfl (by decide) (by decide) rfl) ?_;simp only[zz];refine aK rfl ((m.b 3 rfl).lies aJ aF rfl rfl) ?_;simp only[zz,zy,Nat.zero_add,Nat.reduceAdd,Nat.reduceMul,Int.reduceToNat];refine aA (aH fU aF rfl rfl (by decide) (by decide) rfl) ?_;simp only[zz];refine aK rfl ((m.b 3 rfl).lies aJ aF rfl rfl) ?_;simp only[zz,zy,Nat.zero_add,Nat.reduceAdd,Nat.reduceMul,Int.reduceToNat];refine aA (aH fU aF rfl rfl (by decide) (by decide) rfl) ?_;simp only[zz];refine aK rfl ((m.b 3 rfl).lies aJ aF rfl rfl) ?_;simp only[zz,zy,Nat.zero_add,Nat.reduceAdd,Nat.reduceMul,Int.reduceToNat];refine bA rfl rfl (xX (a:=cU p 8 2) (b:=cU p 8 6) (c:=cU p 8 7) (d:=cU p 8 3) _) ?_;rintro v u e ⟨A4,cap4,_,rfl,rfl,hN⟩;replace m:=m.newO e hN;clear e hN;simp only[zz];refine eI m 3 rfl rfl bS nN rfl (by decide) rfl rfl (m.o 0 rfl).own.1 (m.o 0 rfl).row (nG _) (dZ rfl) (dZ rfl) ?_;clear m;intro A1 cap1 u m;simp only[zF,zG] at m;refine aA (aC) (aG (k34 _ _ ?_));refine aD fun K35 k35=>wp_region_lit (aA (aB) (aA (aH fU aF rfl rfl (by decide) (by decide) rfl) ?_));simp only[zz];refine aK rfl ((m.b 4 rfl).lies aJ aF rfl rfl) ?_;simp only[zz,zy,Nat.zero_add,Nat.reduceAdd,Nat.reduceMul,Int.reduceToNat];refine aA (aH fU aF rfl rfl (by decide) (by decide) rfl) ?_;simp only[zz];refine aK rfl ((m.b 4 rfl).lies aJ aF rfl rfl) ?_;simp only[zz,zy,Nat.zero_add,Nat.reduceAdd,Nat.reduceMul,Int.reduceToNat];refine aA (aH fU aF rfl rfl (by decide) (by decide) rfl) ?_;simp only[zz];refine aK rfl ((m.b 4 rfl).lies aJ aF rfl rfl) ?_;simp only[zz,zy,Nat.zero_add,Nat.reduceAdd,Nat.reduceMul,Int.reduceToNat];refine aA (aH fU aF rfl rfl (by decide) (by decide) rfl) ?_;simp only[zz];refine aK rfl ((m.b 4 rfl).lies aJ aF rfl rfl) ?_;simp only[zz,zy,Nat.zero_add,Nat.reduceAdd,Nat.reduceMul,Int.reduceToNat];refine bA rfl rfl (xX (a:=cU p 8 0) (b:=cU p 8 4) (c:=cU p 8 6) (d:=cU p 8 2) _) ?_;rintro v u e ⟨A5,cap5,_,rfl,rfl,hN⟩;replace m:=m.newO e hN;clear e hN;simp only[zz];refine eI m 4 rfl rfl bS nN rfl (by decide) rfl rfl (m.o 0 rfl).own.1 (m.o 0 rfl).row (nG _) (dZ rfl) (dZ rfl) ?_;clear m;intro A1 cap1 u m;simp only[zF,zG] at m;refine aA (aC) (aG (k35 _ _ ?_));refine aD fun K36 k36=>wp_region_lit (aA (aB) (aA (aH fU aF rfl rfl (by decide) (by decide) rfl) ?_));simp only[zz];refine aK rfl ((m.b 5 rfl).lies aJ aF rfl rfl) ?_;simp only[zz,zy,Nat.zero_add,Nat.reduceAdd,Nat.reduceMul,Int.reduceToNat];refine aA (aH fU aF rfl rfl (by decide) (by decide) rfl) ?_;simp only[zz];refine aK rfl ((m.b 5 rfl).lies aJ aF rfl rfl) ?_;simp only[zz,zy,Nat.zero_add,Nat.reduceAdd,Nat.reduceMul,Int.reduceToNat];refine aA (aH fU aF rfl rfl (by decide) (by decide) rfl) ?_;simp only[zz];refine aK rfl ((m.b 5 rfl).lies aJ aF rfl rfl) ?_;simp only[zz,zy,Nat.zero_add,Nat.reduceAdd,Nat.reduceMul,Int.reduceToNat];refine aA (aH fU aF rfl rfl (by decide) (by decide) rfl) ?_;simp only[zz];refine aK rfl ((m.b 5 rfl).lies aJ aF rfl rfl) ?_;simp only[zz,zy,Nat.zero_add,Nat.reduceAdd,Nat.reduceMul,Int.reduceToNat];refine bA rfl rfl (xX (a:=cU p 8 1) (b:=cU p 8 3) (c:=cU p 8 7) (d:=cU p 8 5) _) ?_;rintro v u e ⟨A6,cap6,_,rfl,rfl,hN⟩;replace m:=m.newO e hN;clear e hN;simp only[zz];refine eI m 5 rfl rfl bS nN rfl (by decide) rfl rfl (m.o 0 rfl).own.1 (m.o 0 rfl).row (nG _) (dZ rfl) (dZ rfl) ?_;clear m;intro A1 cap1 u m;simp only[zF,zG] at m;refine aA (aC) (aG (k36 _ _ ?_));refine wp_ret ?_;simp only[zz];try simp only[Exit.inBlock,Exit.then,if_true]
 refine bO rfl rfl ?_;try simp only[zD,zE]
 exact ⟨_,rfl,m.ext,⟨_,_,_,rfl,rfl,((m.o 5 rfl)).as (by simp only[uY,List.flatMap_append])⟩⟩
theorem abx {b : Nat} (w : World) (hb : b < 134217728) : eK prog 42 [.int .i64 (b : Int),.int .i64 8,.agg #[.int .i64 4,.int .i64 5,.int .i64 6]] w (TS 53 (Qs b) w):=by
 refine ⟨afF,?_⟩;have m:=cA.refl w;have hb0:=hb
 go_enter func42,ntmps42
 refine aD fun K1 k1=>wp_region_lit (eP m rfl ?_);clear m;intro g1 u m;refine aA (aC) (aG (k1 _ _ ?_));refine aD fun K2 k2=>wp_region_lit (aA (aC) ?_);replace m:=m.nilO 53 9;refine aG (k2 _ _ ?_);refine aD fun K3 k3=>aD fun K4 k4=>wp_region_lit (aA (aC) ?_);simp only[zz];refine aG (k4 _ _ ?_);refine wp_block ?_;try simp only[Nat.zero_add,Nat.reduceAdd,Nat.reduceMul,Int.reduceToNat]
 refine bH [7,8] [9,10,11,12,13,14,15,16,17,18,19,20,21,22,23,24,25,26,27,28,29,30,31,32,33,34,35,36,37,38,39,40,41,42,43,44,45,46,47,48,49,50,51,52,53,54,55,56,57,58,59,60,61,62,63,64,65,66,67,68,69,70,71,72,73,74,75,76,77,78,79,80,81,82,83,84,85,86,87,88,89,90,91,92,93,94,95,96,97,98,99,100,101,102,103,104,105,106,107,108,109,110,111,112,113,114,115,116,117,118,119,120,121,122,123,124,125,126,127,128,129,130,131,132,133,134,135,136,137,138,139] (fun n vs wl=>∃ (A1 : Option Addr) (cap1 k : Nat),vs = [.slice A1 (iF b (k) (0)).length cap1,.int .i64 (k:Int)] ∧ cA w wl [oI 53 9 A1 (iF b (k) (0)).length cap1 ((iF b (k) (0)).flatMap aX),bI g1 [.int .i64 4,.int .i64 5,.int .i64 6] 48] ∧ (k ≤ 27) ∧ (n = 27 - k)) ?_ ?_
 ·
  apply Exists.intro;simp only[zQ,zR,zD,zE];exact ⟨none,0,0,rfl,m,Nat.zero_le _,rfl⟩
 ·
  intro n vs wr hI u;clear m;obtain ⟨A1,cap1,k,rfl,m,hk,hn⟩:=hI;simp only[zu,zF,zG];refine aD fun K5 k5=>aD fun K6 k6=>wp_region_lit (aA (aB) (aA (cE rfl rfl) (aG (k6 _ _ ?_))));simp only[zz];refine bZ rfl (fun hc1=>?_) (fun hc1=>?_)
  ·
   refine wp_skip (k5 _ _ ?_);refine aD fun K7 k7=>wp_block (aD fun K8 k8=>wp_region_lit (aA (aB) ?_));simp only[zz];refine aA (dG rfl rfl (by omega) (Ih (k:=k) (c:=3))) (aA (aC) (aG (k8 _ _ ?_)));refine aD fun K9 k9=>wp_region_lit (aA (aB) ?_);simp only[zz];refine aA (gW rfl rfl (by omega) (Ov (n:=3) (by omega))) ?_;simp only[zz];refine aA (dG rfl rfl (by omega) (Ih (k:=k / 3) (c:=3))) (aA (aC) (aG (k9 _ _ ?_)));refine aD fun K10 k10=>wp_region_lit (aA (aB) ?_);simp only[zz];refine aA (gW rfl rfl (by omega) (Ov (n:=9) (by omega))) (aA (aC) (aG (k10 _ _ ?_)));refine aD fun K11 k11=>aD fun K12 k12=>wp_region_lit (aA (aB) (aA (aB) ?_));simp only[zz];refine aA (jU underlying113 jC rfl (eZ (by omega) (by omega))) ?_;simp only[zz];refine aA (qW rfl rfl (by omega) (ae3 (by omega) (by omega))) (aA (rV rfl rfl (ae4 (Zo hb))) (aA (pZ rfl rfl) (aG (k12 _ _ ?_))));simp only[zz];refine bZ rfl (fun hc2=>?_) (fun hc2=>?_)
   ·
    have hv : Aw b k = false:=by unfold Aw;exact decide_eq_false (by have:=hc2;simp only[Int.toNat_natCast] at this;omega)
    rw [Vg hv] at m ⊢;refine wp_exit (k7 _ _ ?_);refine wp_region_lit (aA (aB) ?_);simp only[zz];refine aA (aP rfl rfl (aM (by omega) (by omega))) (aA (aC) (aG ?_));simp only[zz];simp only[Exit.inBlock,Exit.then];refine ⟨27 - (k + 1),_,?_,rfl,?_,?_⟩
    · omega
    · simp only[zz,zv]
    ·
     simp only[zQ,zR,zD,zE];exact ⟨_,_,k + 1,rfl,m,by omega,rfl⟩
   ·
    have hv : Aw b k = true:=by unfold Aw;exact decide_eq_true (by have:=hc2;simp only[Int.toNat_natCast] at this;omega)
    refine wp_skip (k11 _ _ ?_);refine aD fun K13 k13=>wp_region_lit (aA (aN (c:=0) eD rfl bD rfl rfl) ?_);simp only[zz];refine aK rfl ((m.b 1 rfl).lies1 bT rfl) ?_;simp only[zz];refine aA (aB) (aA (aB) ?_);simp only[zz];refine aA (fJ rfl rfl (aM (by omega) (by omega))) ?_;simp only[zz];refine aA (aP rfl rfl (aM (by omega) (by omega))) (aA (aN (c:=0) eD rfl bD rfl rfl) ?_);simp only[zz];refine aK rfl ((m.b 1 rfl).lies1 bT rfl) ?_;simp only[zz];refine aA (aB) (aA (aB) ?_);simp only[zz];refine aA (fJ rfl rfl (aM (by omega) (by omega))) ?_;simp only[zz];refine aA (aP rfl rfl (aM (by omega) (by omega))) (aA (aN (c:=0) eD rfl bD rfl rfl) ?_);simp only[zz];refine aK rfl ((m.b 1 rfl).lies1 bT rfl) ?_;simp only[zz];refine aA (aB) (aA (aB) ?_);simp only[zz];refine aA (fJ rfl rfl (aM (by omega) (by omega))) ?_;simp only[zz];refine aA (aP rfl rfl (aM (by omega) (by omega))) (aA (dP rfl rfl rfl) ?_);simp only[zz];refine bF m bQ rfl ?_;clear m;intro g2 u m;simp only[zz];refine aS m 0 rfl rfl rfl aF (dZ rfl) rfl ?_;clear m;intro u m;simp only[zy,zx,bG,zF,zG,Nat.reduceAdd] at m;refine aG (k13 _ _ ?_);refine aD fun K14 k14=>wp_region_lit (aK rfl ((m.b 0 rfl).full aJ aF) ?_);simp only[zz];refine aA (aB) ?_;simp only[zz];refine bA rfl rfl (aeN (p:=vP k) _ (ac3 (by omega))) ?_;rintro v u e ⟨A2,cap2,_,rfl,rfl,hN⟩;replace m:=m.newO e hN;clear e hN;obtain ⟨gc,rfl⟩:=(m.o 0 rfl).some (by rw [pO];decide);rw [pO] at m ⊢;refine aA (aC) (aG (k14 _ _ ?_));refine aD fun K15 k15=>wp_region_lit (aA (iX rfl rfl rfl) (aA (iX rfl rfl rfl) ?_));simp only[zz];refine aA (iX rfl rfl rfl) (aA (iX rfl rfl rfl) (aA (iX rfl rfl rfl) (aA (iX rfl rfl rfl) ?_)));simp only[zz];refine aA (sH rfl rfl rfl rfl rfl rfl) ?_;simp only[zz];refine bF m Nh rfl ?_;clear m;intro g3 u m;simp only[zz];refine aS m 0 rfl rfl rfl Vt (dZ rfl) rfl ?_;clear m;intro u m;simp only[zy,zx,bG,zF,zG,Nat.reduceAdd] at m;refine aG (k15 _ _ ?_);refine aD fun K16 k16=>wp_region_lit (aA (aC) (aG (k16 _ _ ?_)));refine wp_block ?_;simp only[zz];try simp only[Nat.zero_add,Nat.reduceAdd,Nat.reduceMul,Int.reduceToNat]
    refine bH [7,15] [16,17,18,19,66,67,68,69,70,71,72,73,74,75,76,77,78,79,80,81,82,83,84,85,86,87,88,89,90,91,92,93,94,95,96,97,98,99,100,101,102,103,104,105,106,107,108,109,110,111,112,113,114,115,116,117,118,119,120,121,122,123,124,125,126,127,128,129,130,131,132,133,134,135,136,137,138,139] (fun n vs wl=>∃ (A1 : Option Addr) (cap1 f : Nat),vs = [.slice A1 (iF b (k) (f)).length cap1,.int .i64 (f:Int)] ∧ cA w wl [bI g3 wC 115,oI 53 9 (some ⟨gc,0,none⟩) 12 cap2 ((uY (vP k) 8).flatMap aX),oI 53 9 A1 (iF b (k) (f)).length cap1 ((iF b (k) (f)).flatMap aX),bI g1 [.int .i64 4,.int .i64 5,.int .i64 6] 48] ∧ (f ≤ 6) ∧ (n = 6 - f)) ?_ ?_
    ·
     apply Exists.intro;simp only[zQ,zR,zD,zE];exact ⟨_,_,0,rfl,(m.sel [true,true,false,true,true]),Nat.zero_le _,rfl⟩
    ·
     intro n vs wr hI u;clear m;obtain ⟨A1,cap1,f,rfl,m,hf6,hn2⟩:=hI;simp only[zu,zF,zG];refine aD fun K17 k17=>aD fun K18 k18=>wp_region_lit (aA (aB) (aA (cE rfl rfl) (aG (k18 _ _ ?_))));simp only[zz];refine bZ rfl (fun hc3=>?_) (fun hc3=>?_)
     ·
      have hf : f < 6:=by omega
      have hs:=ae8 f;obtain ⟨t,u0,ht,hu,hpr⟩:=Zw (n:=k) hf;refine wp_skip (k17 _ _ ?_);refine aD fun K19 k19=>wp_block (aD fun K20 k20=>wp_region_lit (aA (aB) (aA (aB) ?_)));simp only[zz];refine aA (aH underlying115 yO rfl rfl (by omega) (by omega) (As (Int.toNat_natCast _))) (aA (aH underlying26 bD rfl rfl (by decide) (by decide) rfl) ?_);simp only[zz];refine aK rfl ((m.b 0 rfl).lies1 (i:=f * 3) bT (ae5 hf)) ?_;simp only[zz];refine aA (aP rfl rfl (aM (by omega) (by omega))) (aA (aC) (aG (k20 _ _ ?_)));refine aD fun K21 k21=>wp_region_lit (aA (aB) (aA (aB) ?_));simp only[zz];refine aA (aH underlying115 yO rfl rfl (by omega) (by omega) (As (Int.toNat_natCast _))) (aA (aH underlying26 bD rfl rfl (by decide) (by decide) rfl) ?_);simp only[zz];refine aK rfl ((m.b 0 rfl).lies1 (i:=f * 3 + 1) bT (ae6 hf)) ?_;simp only[zz];refine aA (aP rfl rfl (aM (by omega) (by omega))) (aA (aC) (aG (k21 _ _ ?_)));refine aD fun K22 k22=>wp_region_lit (aA (aB) (aA (aB) ?_));simp only[zz];refine aA (aH underlying115 yO rfl rfl (by omega) (by omega) (As (Int.toNat_natCast _))) (aA (aH underlying26 bD rfl rfl (by decide) (by decide) rfl) ?_);simp only[zz];refine aK rfl ((m.b 0 rfl).lies1 (i:=f * 3 + 2) bT (ae7 hf)) ?_;simp only[zz];refine aA (aP rfl rfl (aM (by omega) (by omega))) (aA (aC) (aG (k22 _ _ ?_)));refine aD fun K23 k23=>wp_region_lit (aA (aB) (aA (pM rfl rfl) ?_));simp only[zz];refine aA (aB) (cW rfl (fun hb=>aB) (cW rfl (fun hb=>cE (bK hb rfl) rfl) (aA (cK rfl rfl rfl) ?_)));simp only[zz];refine aA (aB) (cW rfl (fun hb=>aB) (cW rfl (fun hb=>pM (bK hb rfl) rfl) (aA (cK rfl rfl rfl) ?_)));simp only[zz];refine aA (aB) (cW rfl (fun hb=>aB) (cW rfl (fun hb=>cE (bK hb rfl) rfl) (aA (cK rfl rfl rfl) ?_)));simp only[zz];refine aA (aB) (cW rfl (fun hb=>aB) (cW rfl (fun hb=>pM (bK hb rfl) rfl) (aA (cK rfl rfl rfl) ?_)));simp only[zz];refine aA (aB) (cW rfl (fun hb=>aB) (cW rfl (fun hb=>cE (bK hb rfl) rfl) (aA (cK rfl rfl rfl) ?_)));simp only[zz];refine aA (aC) (aG (k23 _ _ ?_));refine aD fun K24 k24=>wp_region_lit (aA (aB) (aA (fQ rfl) (aA (aB) ?_)));simp only[zz];refine fH rfl (fun hb=>aB) (fH rfl (fun hb=>aB) ?_);simp only[zz];refine fH rfl (fun hb=>fJ (bK hb rfl) rfl (aM (by omega) (by omega))) (fH rfl (fun hb=>aB) ?_);simp only[zz];refine fH rfl (fun hb=>aP (bK hb rfl) (bK hb rfl) (aM (by omega) (by omega))) ?_;simp only[zz];refine fH rfl (fun hb=>fJ (bK hb rfl) rfl (aM (by omega) (by omega))) (fH rfl (fun hb=>aB) ?_);simp only[zz];refine fH rfl (fun hb=>aP (bK hb rfl) (bK hb rfl) (aM (by omega) (by omega))) (fH rfl (fun hb=>jU underlying113 jC (bK hb rfl) (eZ (by have h:=vin hb;omega) (by have h:=vin hb;omega))) ?_);simp only[zz];refine fH rfl (fun hb=>qW (bK hb rfl) (bK hb rfl) (by have h:=vin hb;omega) (ae3 (by have h:=vin hb;omega) (by have h:=vin hb;omega))) (fH rfl (fun hb=>rV (bK hb rfl) rfl (ae4 (Zo hb0))) (fH rfl (fun hb=>pZ (bK hb rfl) rfl) (aA (fT rfl rfl rfl) ?_)));simp only[zz];refine aG (k24 _ _ ?_);refine lS rfl (fun hc4=>?_) (fun hc4=>?_)
      ·
       have hvf:=(My (b:=b) (n:=k) (f:=f)).symm.trans hc4;refine mh m [true,true,false,true] [(0,true),(1,true),(2,true),(3,true),(4,true),(6,true),(7,true),(8,true),(9,true),(10,true),(5,true),(11,true),(12,false),(13,false),(14,true)] aO (by kernel_rfl) (dL (fun _ _ _ _ _ h=>h)) (ol:=?_) ?hol ?_
       case hol=>simp only[zw,zQ,zR];try rfl
       clear m;intro u m;refine aZ (aB) (aZ (aB) (aZ (aB) ?_));simp only[zz];refine aZ (fJ rfl rfl (aM (by omega) (by omega))) ?_;simp only[zz];refine aZ (aI bS aT rfl rfl (by omega) (by omega) (bV (show _ = 2 * f by omega))) (aZ (aB) (aZ (aB) ?_));simp only[zz];refine aZ (fJ rfl rfl (aM (by omega) (by omega))) ?_;simp only[zz];refine aZ (aP rfl rfl (aM (by omega) (by omega))) ?_;simp only[zz];refine aZ (aI bS aT rfl rfl (by omega) (by omega) (bV (show _ = 2 * f + 1 by omega))) ?_;simp only[zz];refine dI rfl (fun u m=>(((m.o 1 rfl).tri ht).lies eQ aT)) ?_;simp only[zz];refine dI rfl (fun u m=>(((m.o 1 rfl).tri hu).lies eQ aT)) ?_;simp only[zz];refine cS (wG rfl rfl ?_);intro u g4 e hg hB;replace m:=m.newB e hg hB;clear e hg hB;refine aG (⟨m.sel [false,true,true,false,true],?_⟩);refine cS ?_;simp only[zz];refine eI m 3 rfl rfl bS nN rfl (by decide) rfl rfl rfl (m.b 0 rfl).rowsO (tG rfl) (by have:=Ax (b:=b) (n:=k) (f:=f) (by omega) (by omega);omega) (by have:=Ax (b:=b) (n:=k) (f:=f) (by omega) (by omega);omega) ?_;clear m;intro A1 cap1 u m;simp only[zF,zG] at m;rw [Vk hpr hvf,Tb hf hvf] at m;rw [Tb hf hvf];refine aG (⟨m.sel [false,true,true,false,true],?_⟩);refine aZ (aC) (dN (k19 _ _ ?_));refine wp_region_lit (aA (aB) ?_);simp only[zz];refine aA (aP rfl rfl (aM (by omega) (by omega))) (aA (aC) (aG ?_));simp only[zz];simp only[Exit.inBlock,Exit.then];refine ⟨6 - (f + 1),_,?_,rfl,?_,?_⟩
       · omega
       · simp only[zz,zv]
       ·
        simp only[zQ,zR,zD,zE];exact ⟨_,_,f + 1,rfl,(m.sel [false,true,true,true,true]),by omega,rfl⟩
      ·
       have hvf:=(My (b:=b) (n:=k) (f:=f)).symm.trans hc4;rw [← Qu hvf] at m ⊢;refine wp_skip (k19 _ _ ?_);refine wp_region_lit (aA (aB) ?_);simp only[zz];refine aA (aP rfl rfl (aM (by omega) (by omega))) (aA (aC) (aG ?_));simp only[zz];simp only[Exit.inBlock,Exit.then];refine ⟨6 - (f + 1),_,?_,rfl,?_,?_⟩
       · omega
       · simp only[zz,zv]
       ·
        simp only[zQ,zR,zD,zE];exact ⟨_,_,f + 1,rfl,m,by omega,rfl⟩
     ·
      have hfq : f = 6:=by omega
      rw [hfq,Qt hv] at m ⊢;refine wp_exit (k7 _ _ ?_);refine wp_region_lit (aA (aB) ?_);simp only[zz];refine aA (aP rfl rfl (aM (by omega) (by omega))) (aA (aC) (aG ?_));simp only[zz];simp only[Exit.inBlock,Exit.then];refine ⟨27 - (k + 1),_,?_,rfl,?_,?_⟩
      · omega
      · simp only[zz,zv]
      ·
       simp only[zQ,zR,zD,zE];exact ⟨_,_,k + 1,rfl,(m.sel [false,false,true,true]),by omega,rfl⟩
  ·
   have hkq : k = 27:=by omega
   rw [hkq,Em] at m ⊢;refine wp_exit (k3 _ _ ?_);refine aD fun K25 k25=>wp_region_lit (aA (aB) (aA (aC) (aG (k25 _ _ ?_))));refine wp_ret ?_;simp only[zz];try simp only[Exit.inBlock,Exit.then,if_true]
   refine bO rfl rfl ?_;try simp only[zD,zE]
   exact ⟨_,rfl,m.ext,⟨_,_,_,rfl,rfl,(m.o 0 rfl)⟩⟩
theorem aeO {kind bits : Int} [Iw kind] [Iw bits] {N cap : Nat} {A : Option Addr} {zs : List Int} (w : World) (hZ : pH w A N zs) : eK prog 22 [.int .i64 kind,.int .i64 bits,.slice A N cap] w (TS 53 (fN kind bits zs) w):=by
 refine ⟨afn,?_⟩;have m:=cA.refl w;have hbb:=nK (n:=bits) (m:=134217728) (by decide);haveI : Iw (kind.tdiv 3):=⟨(Mz (Iw.h (n:=kind))).2⟩
 go_enter func22,ntmps22
 refine aD fun K1 k1=>wp_region_lit (aA (aC) (aG (k1 _ _ ?_)));refine aD fun K2 k2=>aD fun K3 k3=>wp_region_lit (aA (aB) ?_);simp only[zz];refine gG m rfl rfl (rG (n:=kind) (k:=3) (by decide) (by decide)) ?_;clear m;intro u m;refine aA (pZ rfl rfl) (aG (k3 _ _ ?_));simp only[zz];refine bZ rfl (fun hc1=>?_) (fun hc1=>?_)
 ·
  refine aD fun K4 k4=>wp_region_lit (aA (aB) ?_);simp only[zz];refine gG m rfl rfl (rG (n:=bits) (k:=134217728) (by decide) (by decide)) ?_;clear m;intro u m;refine aA (dP rfl rfl rfl) ?_;simp only[zz];rw [show bits % 134217728 = (((bits % 134217728).toNat : Nat) : Int) by omega];refine bA rfl rfl (abx (b:=(bits % 134217728).toNat) _ (by omega)) ?_;rintro v u e ⟨A1,cap1,_,rfl,rfl,hN⟩;replace m:=m.newO e hN;clear e hN;refine aA (aC) (aG (k4 _ _ ?_));refine wp_ret ?_;simp only[zz];try simp only[Exit.inBlock,Exit.then,if_true]
  refine bO rfl rfl ?_;try simp only[zD,zE]
  exact ⟨_,rfl,m.ext,by rw [fN,if_pos hc1];exact ⟨_,_,_,rfl,rfl,(m.o 0 rfl)⟩⟩
 ·
  refine wp_skip (k2 _ _ ?_);refine aD fun K5 k5=>wp_region_lit (aA (aB) ?_);simp only[zz];refine aA (gW rfl rfl (by omega) (Mz (Iw.h (n:=kind))).1) (aA (aB) ?_);simp only[zz];refine bA rfl rfl (acT (n0:=kind.tdiv 3) _ (hZ.ext m.ext)) ?_;rintro v u e ⟨A1,cap1,_,rfl,rfl,hN⟩;replace m:=m.newO e hN;clear e hN;refine aA (aC) (aG (k5 _ _ ?_));refine wp_ret ?_;simp only[zz];try simp only[Exit.inBlock,Exit.then,if_true]
  refine bO rfl rfl ?_;try simp only[zD,zE]
  exact ⟨_,rfl,m.ext,by rw [fN,if_neg hc1];exact ⟨_,_,_,rfl,rfl,(m.o 0 rfl)⟩⟩
end Go.Proofs.YtfohfflkhpfjeaaGreatDoor
namespace Go.Proofs.YtfohfflkhpfjeaaGreatDoor
open Go.Proofs.Tryz
open Go.RowKit Go.Lith
set_option maxRecDepth 100000
attribute [local irreducible] wpList wpQuiet dY dQ dO Code.wp
theorem aeP {i N : Nat} {L : Int} (h : ((decide ((i : Int) < (N : Int)) && decide ((i : Int) < 12)) && decide (0 < L)) = true) : i < N ∧ i < 12 ∧ 0 < L:=by
 simp only[Bool.and_eq_true,decide_eq_true_eq] at h;omega
theorem ahp {x y z : Bool} (h : ((x && y) && !z) = true) : x = true ∧ y = true ∧ z = false:=by revert h;cases x <;> cases y <;> cases z <;> decide
theorem Xt {ts : List T3} {qs : List Q4} {N cap NQ capQ : Nat} {A AQ : Option Addr} (w : World) (hT : eO w A N ts) (hN : N ≤ 100000) (hQ : nS q4C 4 w AQ NQ qs) (hI : ∀ q ∈ qs,IQ q) : eK prog 19 [.slice A N cap,.slice AQ NQ capQ] w (fun v w'=>∃ us ms A7 c7 A8 c8 i,v = .tuple #[.slice A7 us.length c7,.slice A8 ms.length c8] ∧ cA w w' [oI 50 6 A8 ms.length c8 (ms.flatMap bU),oI 53 9 A7 us.length c7 (us.flatMap aX)] ∧ i ≤ 12 ∧ wR (aQ ts) ts i us ms):=by
 refine ⟨afl,?_⟩;have m:=cA.refl w;obtain rfl : ts.length = N:=hT.len;have hbl : (aQ ts).length ≤ 1000000:=by have h1:=qF (all:=aV ts) (aV ts) [];have h2:=kW ts;simp only[List.length_nil] at h1;unfold aQ;omega
 go_enter func19,ntmps19
 refine aD fun K1 k1=>wp_region_lit (aA (aC) (aA (aC) (aG (k1 _ _ ?_))));refine aD fun K2 k2=>wp_region_lit (aA (aB) ?_);simp only[zz];refine bA rfl rfl (Ff _ (hT.ext m.ext) (by omega)) ?_;rintro v u e ⟨A6,c6,n6,hn6,rfl,hN⟩;replace m:=m.newO e hN;clear e hN;subst hn6;refine aA (aC) (aG (k2 _ _ ?_));refine aD fun K3 k3=>wp_region_lit ?_;simp only[zz];refine Dw bS (c:=9) (by kernel_rfl)  ?_;intro u g1 e hg hB;replace m:=m.newB e hg hB;clear e hg hB;simp only[zz];replace m:=m.own 0 rfl (n:=0) (c:=9) rfl (dZ rfl);simp only[zG] at m;refine aA (aB) ?_;simp only[zz];refine eI m 0 rfl rfl bS nN rfl (by decide) rfl rfl (by rw [Dd,hT.len]) (eO.cells (hT.ext m.ext)) (nG _) (by omega) (by omega) ?_;clear m;intro A7 cap7 u m;simp only[zF,zG] at m;rw [List.nil_append,Nat.zero_add] at m;rw [Nat.zero_add];refine aA (aC) (aG (k3 _ _ ?_));refine aD fun K4 k4=>wp_region_lit (aA (aC) ?_);replace m:=m.nilO 50 6;refine aG (k4 _ _ ?_);refine aD fun K5 k5=>aD fun K6 k6=>wp_region_lit (aA (aC) ?_);simp only[zz];refine aG (k6 _ _ ?_);refine wp_block ?_;try simp only[Nat.zero_add,Nat.reduceAdd,Nat.reduceMul,Int.reduceToNat]
 refine bH [7,8,9] [10,11,12,13,14,15,16,17,18,19,20,21,27,28,29,30,31,32,33,34,35,36,37,38,39,40,41,42,43,44,45,46,47,48,49,50,51,52,53,54,55,56,57,58,59,60,61,62,63,64,65,66,67,68,69,70,71,72,73,74,75,76,77,78,79,80,81,82,83,84,85,86,87,88,89,90,91,92,93,94,95,96,97,98,99,100,101,102,103,104,105,106,107,108,109,110,111,112,113,114,115,116,117,118,119,120,121,122,123,124,125,126,127,128,129,130,131,132,133,134,135,136,137,138,139,140,141,142,143,144,145,146,147,148,149,150,151,152,153,154,155,156,157,158,159,160,161,162,163,164,165,166,167,168,169,170,171,172,173,174,175,176,177,178,179,180,181,182,183,184,185,186,187,188,189,190,191,192,193,194,195,196,197,198,199,200] (fun n vs wl=>∃ (us : List T3) (ms : List Mv) (A7 : Option Addr) (c7 : Nat) (A8 : Option Addr) (c8 i : Nat),vs = [.slice A7 us.length c7,.slice A8 ms.length c8,.int .i64 (i:Int)] ∧ cA w wl [oI 50 6 A8 ms.length c8 (ms.flatMap bU),oI 53 9 A7 us.length c7 (us.flatMap aX),oI 57 6 A6 (aQ ts).length c6 ((aQ ts).flatMap bU)] ∧ (wR (aQ ts) ts i us ms) ∧ (i ≤ 12) ∧ (n = 12 - i)) ?_ ?_
 ·
  apply Exists.intro;simp only[zQ,zR,zD,zE];exact ⟨_,[],_,_,_,_,0,rfl,m,wR.nil,Nat.zero_le _,rfl⟩
 ·
  intro n vs wr hI u;clear m;obtain ⟨us,ms,A7,c7,A8,c8,i,rfl,m,hdv,hi,hn⟩:=hI;simp only[zu,zF,zG];refine aD fun K7 k7=>aD fun K8 k8=>wp_region_lit (aA (aB) (aA (aB) (aA (aW rfl yM rfl) (aA (cE rfl rfl) ?_))));simp only[zz];refine aA (aB) (cW rfl (fun hb=>aB) (cW rfl (fun hb=>cE (bK hb rfl) rfl) (aA (cK rfl rfl rfl) ?_)));simp only[zz];refine aA (aB) (cW rfl (fun hb=>aB) (cW rfl (fun hb=>aW rfl bS (bK hb rfl)) (cW rfl (fun hb=>oU (bK hb rfl) rfl) ?_)));simp only[zz];refine aA (cK rfl rfl rfl) (aG (k8 _ _ ?_));simp only[zz];refine eE rfl (fun hc1=>?_) (fun hc1=>?_)
  ·
   obtain ⟨hi1,hi2,hi3⟩:=aeP hc1;obtain ⟨q,hq,aq,rfl,hrow⟩:=hQ.get (i:=i) (by omega);obtain ⟨hqa,hqb,hqc,hqd⟩:=hI q (List.mem_of_getElem? hq);haveI : Iw q.a:=⟨hqa⟩
   haveI : Iw q.b:=⟨hqb⟩
   haveI : Iw q.c:=⟨hqc⟩
   haveI : Iw q.d:=⟨hqd⟩
   haveI : Iw (q.b.tdiv 40):=⟨(abt hqb).2⟩
   have hlen:=hdv.len;have hpos : 0 < us.length:=by omega
   obtain ⟨gO,rfl⟩:=(m.o 1 rfl).some hpos;obtain ⟨k,hk,hkl⟩:=Kp (q:=q.a) hpos;obtain ⟨c,hc,hc3⟩ : ∃ c : Nat,q.d % 3 = (c : Int) ∧ c < 3:=Kp (N:=3) (by decide);obtain ⟨t,htk⟩:=Qv hkl;have hb1:=nK (n:=q.b) (m:=40) (by decide);have hb3:=nK (n:=q.c) (m:=300) (by decide);refine wp_skip (k7 _ _ ?_);refine aD fun K9 k9=>wp_block (aD fun K10 k10=>wp_region_lit (aA (aB) (aA (aB) ?_)));simp only[zz];refine aA (aI yM sE rfl rfl (by omega) (by omega) (bV (Int.toNat_natCast _))) (aA (aH Jp bD rfl rfl (by decide) (by decide) rfl) ?_);simp only[zz];refine aK rfl (lies1 ((hrow.ext m.ext) 0 _ rfl) bT) ?_;simp only[zz];refine aA (aB) (aA (aW rfl bS rfl) ?_);simp only[zz];refine gG m rfl rfl (rG (n:=q.a) (k:=(us.length : Int)) (by omega) (by omega)) ?_;clear m;intro u m;refine aA (aC) (aG ?_);simp only[zz];rw [hk];refine k10 _ _ ?_;refine aD fun K11 k11=>wp_region_lit (aA (aB) (aA (aB) ?_));simp only[zz];refine aA (aI bS aT rfl rfl (by omega) (by omega) (bV (Int.toNat_natCast _))) ?_;simp only[zz];refine aK rfl (((m.o 1 rfl).tri htk).lies eQ aT) ?_;simp only[zz];refine bF m jX rfl ?_;clear m;intro g2 u m;simp only[zz];refine aS m 0 rfl rfl rfl aT (dZ rfl) rfl ?_;clear m;intro u m;simp only[zy,zx,bG,zF,zG,Nat.reduceAdd] at m;refine aG (k11 _ _ ?_);refine aD fun K12 k12=>?_;refine jM 26 [0,1,2,3,4,5,6,7,8,9,10,11,12,13,14,15,16,17,18,19,20,21,22,23,24] [⟨25,12,48,[.int .i64 0,.int .i64 0,.int .i64 0]⟩] aO (by kernel_rfl) (al1 ⟨_,_,_,rfl,by kernel_rfl,_,bQ,rfl⟩) (ol:=?_) ?hol ?_
   case hol=>simp only[zw,zQ,zR];try rfl
   intro u e;replace m:=m.ext' e;clear e;refine gX (aB) ?_;simp only[zz];refine gX (fJ rfl rfl (aM (by omega) (by omega))) ?_;simp only[zz];refine gX (aP rfl rfl (aM (by omega) (by omega))) (gX (aB) (gX (aB) ?_));simp only[zz];refine gX (aI yM sE rfl rfl (by omega) (by omega) (bV (Int.toNat_natCast _))) (gX (aH Jp bD rfl rfl (by decide) (by decide) rfl) ?_);simp only[zz];refine lU rfl (fun u e=>(lies1 ((hrow.ext (m.ext' e).ext) 1 _ rfl) bT)) ?_;simp only[zz];refine kI rfl rfl (rG (n:=q.b) (k:=40) (by decide) (by decide)) ?_;simp only[zz];refine gX (aP rfl rfl (aM (by omega) (by omega))) (gX (aB) (gX (aB) ?_));simp only[zz];refine gX (aI yM sE rfl rfl (by omega) (by omega) (bV (Int.toNat_natCast _))) (gX (aH Jp bD rfl rfl (by decide) (by decide) rfl) ?_);simp only[zz];refine lU rfl (fun u e=>(lies1 ((hrow.ext (m.ext' e).ext) 1 _ rfl) bT)) ?_;simp only[zz];refine gX (gW rfl rfl (by omega) (abt (Iw.h (n:=q.b))).1) ?_;simp only[zz];refine kI rfl rfl (rG (n:=q.b.tdiv 40) (k:=200) (by decide) (by decide)) (gX (aB) (gX (aB) ?_));simp only[zz];refine gX (aI yM sE rfl rfl (by omega) (by omega) (bV (Int.toNat_natCast _))) (gX (aH Jp bD rfl rfl (by decide) (by decide) rfl) ?_);simp only[zz];refine lU rfl (fun u e=>(lies1 ((hrow.ext (m.ext' e).ext) 2 _ rfl) bT)) ?_;simp only[zz];refine kI rfl rfl (rG (n:=q.c) (k:=300) (by decide) (by decide)) ?_;simp only[zz];refine gX (eR rfl rfl (aM (by omega) (by omega))) (gX (dP rfl rfl rfl) (Ib ?_));simp only[zz];refine mf1 m ?_;clear m;intro g3 u m;simp only[zJ,zK,zF,zG];refine aS m 0 rfl rfl rfl aF (dZ rfl) rfl ?_;clear m;intro u m;simp only[zy,zx,bG,zF,zG,Nat.reduceAdd] at m;refine aG ?_;obtain ⟨p,hpe⟩ : ∃ p,p = aeL i q:=⟨_,rfl⟩
   rw [show 100 + 50 * (i : Int) + q.b % 40 = p.x by rw [hpe];rfl,show q.b.tdiv 40 % 200 = p.y by rw [hpe];rfl,show q.c % 300 - 50 = p.z by rw [hpe];rfl] at m;have hpp : Jr i p:=by rw [hpe];exact acR i q
   clear hpe;refine k12 _ _ ?_;refine aD fun K13 k13=>wp_region_lit (aA (aB) (aA (aB) ?_));simp only[zz];refine aA (aI yM sE rfl rfl (by omega) (by omega) (bV (Int.toNat_natCast _))) (aA (aH Jp bD rfl rfl (by decide) (by decide) rfl) ?_);simp only[zz];refine aK rfl (lies1 ((hrow.ext m.ext) 3 _ rfl) bT) ?_;simp only[zz];refine gG m rfl rfl (rG (n:=q.d) (k:=3) (by decide) (by decide)) ?_;clear m;intro u m;refine aA (aC) (aG ?_);simp only[zz];rw [hc];refine k13 _ _ ?_;refine aD fun K14 k14=>wp_region_lit (aA (aB) ?_);simp only[zz];refine aA (aH bL aF rfl rfl (by omega) (by omega) (bV (Int.toNat_natCast _))) ?_;simp only[zz];refine aK rfl ((jK.cor (c:=c) (show jK _ _ (aX t) from ((m.b 1 rfl)).row 0) (by omega)).lies aJ aF) ?_;simp only[zz];refine bF m bQ rfl ?_;clear m;intro g4 u m;simp only[zz];refine aS m 0 rfl rfl rfl aF (dZ rfl) rfl ?_;clear m;intro u m;simp only[zy,zx,bG,zF,zG,Nat.reduceAdd] at m;refine aG (k14 _ _ ?_);refine aD fun K15 k15=>wp_region_lit (aA (aB) ?_);simp only[zz];refine aA (aP rfl rfl (aM (by omega) (by omega))) ?_;simp only[zz];refine aA (dG rfl rfl (by omega) (Ih (k:=c + 1))) ?_;simp only[zz];refine aA (aH bL aF rfl rfl (by omega) (by omega) (bV (Int.toNat_natCast _))) ?_;simp only[zz];refine aK rfl ((jK.cor (c:=(c + 1) % 3) (show jK _ _ (aX t) from ((m.b 2 rfl)).row 0) (by omega)).lies aJ aF) ?_;simp only[zz];refine bF m bQ rfl ?_;clear m;intro g5 u m;simp only[zz];refine aS m 0 rfl rfl rfl aF (dZ rfl) rfl ?_;clear m;intro u m;simp only[zy,zx,bG,zF,zG,Nat.reduceAdd] at m;refine aG (k15 _ _ ?_);refine aD fun K16 k16=>wp_region_lit (aA (aB) ?_);simp only[zz];refine aA (aP rfl rfl (aM (by omega) (by omega))) ?_;simp only[zz];refine aA (dG rfl rfl (by omega) (Ih (k:=c + 2))) ?_;simp only[zz];refine aA (aH bL aF rfl rfl (by omega) (by omega) (bV (Int.toNat_natCast _))) ?_;simp only[zz];refine aK rfl ((jK.cor (c:=(c + 2) % 3) (show jK _ _ (aX t) from ((m.b 3 rfl)).row 0) (by omega)).lies aJ aF) ?_;simp only[zz];refine bF m bQ rfl ?_;clear m;intro g6 u m;simp only[zz];refine aS m 0 rfl rfl rfl aF (dZ rfl) rfl ?_;clear m;intro u m;simp only[zy,zx,bG,zF,zG,Nat.reduceAdd] at m;refine aG (k16 _ _ ?_);refine aD fun K17 k17=>wp_region_lit (aA (aB) ?_);simp only[zz];refine aK rfl ((m.b 1 rfl).full aJ aF) ?_;simp only[zz];refine aK rfl ((m.b 2 rfl).full aJ aF) ?_;simp only[zz];refine eH m rfl rfl (aaI (p:=(t.cor ((c + 1) % 3))) (q:=(t.cor c)) _ ((m.o 6 rfl).lat adv (by decide)) (by omega)) ?_;clear m;rintro v u m rfl;refine aA (aC) (aG (k17 _ _ ?_));refine aD fun K18 k18=>wp_region_lit (aA (aB) ?_);simp only[zz];refine aK rfl ((m.b 2 rfl).full aJ aF) ?_;simp only[zz];refine eH m rfl rfl (tY (p:=(t.cor c)) _ ((m.o 7 rfl).lat qT (by decide)) (by omega)) ?_;clear m;rintro v u m rfl;refine aA (aB) (cW rfl (fun hb=>aB) ?_);simp only[zz];refine eW rfl (fun hb=>cC rfl ((m.b 1 rfl).full aJ aF)) (rC m rfl rfl (fun hb=>by simp only[List.toList_toArray,List.map_cons,List.map_nil,zA,zB,zC,zD,zE,hb,nH];rfl) (fun hb=>tY (p:=(t.cor ((c + 1) % 3))) _ ((m.o 7 rfl).lat qT (by decide)) (by omega)) ?_);clear m;intro u m;refine aA (cK rfl rfl rfl) (aA (aC) (aG (k18 _ _ ?_)));refine aD fun K19 k19=>aD fun K20 k20=>wp_region_lit (aA (aB) ?_);simp only[zz];refine aA (aB) ?_;simp only[zz];refine aA (aI yM sE rfl rfl (by omega) (by omega) (bV (Int.toNat_natCast _))) (aA (aH Jp bD rfl rfl (by decide) (by decide) rfl) ?_);simp only[zz];refine aK rfl (lies1 ((hrow.ext m.ext) 3 _ rfl) bT) ?_;simp only[zz];refine aA (dG rfl rfl (by omega) rfl) (aA (pZ rfl rfl) (aA (aB) (cW rfl (fun hb=>aB) ?_)));simp only[zz];refine cW rfl (fun hb=>pM (bK hb rfl) rfl) (aA (cK rfl rfl rfl) (aA (aB) (cW rfl (fun hb=>aB) ?_)));simp only[zz];refine cW rfl (fun hb=>fQ (bK hb rfl)) (aA (cK rfl rfl rfl) (aG (k20 _ _ ?_)));simp only[zz];refine eE rfl (fun hc2=>?_) (fun hc2=>?_)
   ·
    obtain ⟨h2a,h2b,h2c⟩:=ahp hc2;obtain ⟨hop,hbn⟩ | ⟨j,o,x,hop,hto,hfx,hbx⟩:=Je us (t.cor ((c + 1) % 3)) (t.cor c)
    · rw [hop] at h2b;simp at h2b
    rw [hop];have hjl:=(List.getElem?_eq_some_iff.1 hto).1;have hnb : ¬ (zW (aQ ts) (t.cor c) = true ∧ zW (aQ ts) (t.cor ((c + 1) % 3)) = true):=fun h=>by have h3:=hc2;rw [h.1,h.2] at h3;simp at h3
    refine aD fun K21 k21=>wp_region_lit (aA (aB) (aA (aB) ?_));simp only[zz];refine aA (aI bS aT rfl rfl (by omega) (by omega) (bV (Int.toNat_natCast _))) ?_;simp only[zz];refine aK rfl (((m.o 6 rfl).tri hto).lies eQ aT) ?_;simp only[zz];refine bF m jX rfl ?_;clear m;intro g7 u m;simp only[zz];refine aS m 0 rfl rfl rfl aT (dZ rfl) rfl ?_;clear m;intro u m;simp only[zy,zx,bG,zF,zG,Nat.reduceAdd] at m;refine aG (k21 _ _ ?_);refine aD fun K22 k22=>wp_region_lit (aA (aH bL aF rfl rfl (by decide) (by decide) rfl) ?_);simp only[zz];refine aK rfl ((m.b 0 rfl).lies aJ aF rfl rfl) ?_;simp only[zz,zy,Nat.zero_add,Nat.reduceAdd,Nat.reduceMul,Int.reduceToNat];refine bF m bQ rfl ?_;clear m;intro g8 u m;simp only[zz];refine aS m 0 rfl rfl rfl aF (dZ rfl) rfl ?_;clear m;intro u m;simp only[zy,zx,bG,zF,zG,Nat.reduceAdd] at m;refine aG (k22 _ _ ?_);refine aD fun K23 k23=>aD fun K24 k24=>wp_region_lit (aA (aC) (aG (k24 _ _ ?_)));refine wp_block (wp_loop_rounds 4 (dU (aD fun K25 k25=>aD fun K26 k26=>wp_region_lit (aA (aB) (aA (bX (m:=0) (n:=3) rfl rfl (by decide)) (aG (k26 _ _ ?_)))))));refine cG rfl (wp_skip (k25 _ _ ?_));refine aD fun K27 k27=>wp_block (aD fun K28 k28=>?_);simp only[zz];refine mq m aO (by kernel_rfl) (aL (aB) (aL (aH bL aF rfl rfl (by decide) (by decide) rfl) ?_));simp only[zz];refine ql rfl (fun u m=>((m.b 1 rfl).lies aJ aF rfl rfl)) ?_;simp only[zz,zy,Nat.zero_add,Nat.reduceAdd,Nat.reduceMul,Int.reduceToNat];refine ql rfl (fun u m=>((m.b 4 rfl).full aJ aF)) ?_;simp only[zz];refine aL (gA rfl rfl) (aL (aB) (cN rfl (fun hb=>aB) (cN rfl (fun hb=>aH bL aF rfl (bK hb rfl) (by decide) (by decide) rfl) ?_)));simp only[zz];refine iB rfl (fun hb u m=>cC (bK hb rfl) ((m.b 1 rfl).lies aJ aF rfl rfl)) ?_;simp only[zz,zy,Nat.zero_add,Nat.reduceAdd,Nat.reduceMul,Int.reduceToNat];refine iB rfl (fun hb u m=>cC rfl ((m.b 3 rfl).full aJ aF)) (cN rfl (fun hb=>gA (bK hb rfl) (bK hb rfl)) (aL (cK rfl rfl rfl) (dK ?_)));clear m;intro u m;refine k28 _ _ ?_;simp only[zz];refine pR m 0 [] [147,148,149] (fun vs i=>vs = [] ∧ i = bI g8 [.int .i64 (gC (o.cor 0) (o.cor 0) (t.cor c) (t.cor ((c + 1) % 3))).x,.int .i64 (gC (o.cor 0) (o.cor 0) (t.cor c) (t.cor ((c + 1) % 3))).y,.int .i64 (gC (o.cor 0) (o.cor 0) (t.cor c) (t.cor ((c + 1) % 3))).z] 48) ?_ ?_
    ·
     refine eE rfl (fun hc4=>?_) (fun hc4=>?_)
     ·
      refine wp_region_lit (aA (aB) (aA (aH bL aF rfl rfl (by decide) (by decide) rfl) ?_));simp only[zz];refine aK rfl ((m.b 1 rfl).lies aJ aF rfl rfl) ?_;simp only[zz,zy,Nat.zero_add,Nat.reduceAdd,Nat.reduceMul,Int.reduceToNat];refine aS m 0 rfl rfl rfl aF (dZ rfl) rfl ?_;clear m;intro u m;simp only[zy,zx,bG,zF,zG,Nat.reduceAdd] at m;refine aG ?_;simp only[Exit.inBlock,Exit.then];refine ⟨_,_,rfl,?_,m,?_⟩
      · simp only[zz,zv]
      ·
       simp only[zQ,zR,zD,zE];exact ⟨trivial,by rw [abu (e:=(o.cor 0)) (x:=o.cor 0) hc4] <;> rfl⟩
     ·
      refine wp_skip ?_;simp only[Exit.inBlock,Exit.then];refine ⟨_,_,rfl,?_,m,?_⟩
      · simp only[zz,zv]
      ·
       simp only[zQ,zR,zD,zE];exact ⟨trivial,by rw [abv (e:=(o.cor 0)) (x:=o.cor 0) hc4] <;> rfl⟩
    ·
     intro vs i wr m hI u;obtain ⟨rfl,rfl⟩:=hI;simp only[zF,zG] at m;simp only[zu,zF,zG];refine k27 _ _ (wp_region_lit (aA (aB) (aA (aP (m:=0) (n:=1) (r:=1) rfl rfl (by decide)) (aA (aC) (aG (aU (aD fun K29 k29=>aD fun K30 k30=>wp_region_lit (aA (aB) ?_))))))));simp only[zz];refine aA (bX (m:=1) (n:=3) rfl rfl (by decide)) (aG (k30 _ _ ?_));refine cG rfl (wp_skip (k29 _ _ ?_));refine aD fun K31 k31=>wp_block (aD fun K32 k32=>?_);simp only[zz];refine mq m aO (by kernel_rfl) (aL (aB) (aL (aH bL aF rfl rfl (by decide) (by decide) rfl) ?_));simp only[zz];refine ql rfl (fun u m=>((m.b 1 rfl).lies aJ aF rfl rfl)) ?_;simp only[zz,zy,Nat.zero_add,Nat.reduceAdd,Nat.reduceMul,Int.reduceToNat];refine ql rfl (fun u m=>((m.b 4 rfl).full aJ aF)) ?_;simp only[zz];refine aL (gA rfl rfl) (aL (aB) (cN rfl (fun hb=>aB) (cN rfl (fun hb=>aH bL aF rfl (bK hb rfl) (by decide) (by decide) rfl) ?_)));simp only[zz];refine iB rfl (fun hb u m=>cC (bK hb rfl) ((m.b 1 rfl).lies aJ aF rfl rfl)) ?_;simp only[zz,zy,Nat.zero_add,Nat.reduceAdd,Nat.reduceMul,Int.reduceToNat];refine iB rfl (fun hb u m=>cC rfl ((m.b 3 rfl).full aJ aF)) (cN rfl (fun hb=>gA (bK hb rfl) (bK hb rfl)) (aL (cK rfl rfl rfl) (dK ?_)));clear m;intro u m;refine k32 _ _ ?_;simp only[zz];refine pR m 0 [] [147,148,149] (fun vs i=>vs = [] ∧ i = bI g8 [.int .i64 (gC (gC (o.cor 0) (o.cor 0) (t.cor c) (t.cor ((c + 1) % 3))) (o.cor 1) (t.cor c) (t.cor ((c + 1) % 3))).x,.int .i64 (gC (gC (o.cor 0) (o.cor 0) (t.cor c) (t.cor ((c + 1) % 3))) (o.cor 1) (t.cor c) (t.cor ((c + 1) % 3))).y,.int .i64 (gC (gC (o.cor 0) (o.cor 0) (t.cor c) (t.cor ((c + 1) % 3))) (o.cor 1) (t.cor c) (t.cor ((c + 1) % 3))).z] 48) ?_ ?_
     ·
      refine eE rfl (fun hc4=>?_) (fun hc4=>?_)
      ·
       refine wp_region_lit (aA (aB) (aA (aH bL aF rfl rfl (by decide) (by decide) rfl) ?_));simp only[zz];refine aK rfl ((m.b 1 rfl).lies aJ aF rfl rfl) ?_;simp only[zz,zy,Nat.zero_add,Nat.reduceAdd,Nat.reduceMul,Int.reduceToNat];refine aS m 0 rfl rfl rfl aF (dZ rfl) rfl ?_;clear m;intro u m;simp only[zy,zx,bG,zF,zG,Nat.reduceAdd] at m;refine aG ?_;simp only[Exit.inBlock,Exit.then];refine ⟨_,_,rfl,?_,m,?_⟩
       · simp only[zz,zv]
       ·
        simp only[zQ,zR,zD,zE];exact ⟨trivial,by rw [abu (e:=(gC (o.cor 0) (o.cor 0) (t.cor c) (t.cor ((c + 1) % 3)))) (x:=o.cor 1) hc4] <;> rfl⟩
      ·
       refine wp_skip ?_;simp only[Exit.inBlock,Exit.then];refine ⟨_,_,rfl,?_,m,?_⟩
       · simp only[zz,zv]
       ·
        simp only[zQ,zR,zD,zE];exact ⟨trivial,by rw [abv (e:=(gC (o.cor 0) (o.cor 0) (t.cor c) (t.cor ((c + 1) % 3)))) (x:=o.cor 1) hc4] <;> rfl⟩
     ·
      intro vs i wr m hI u;obtain ⟨rfl,rfl⟩:=hI;simp only[zF,zG] at m;simp only[zu,zF,zG];refine k31 _ _ (wp_region_lit (aA (aB) (aA (aP (m:=1) (n:=1) (r:=2) rfl rfl (by decide)) (aA (aC) (aG (aU (aD fun K33 k33=>aD fun K34 k34=>wp_region_lit (aA (aB) ?_))))))));simp only[zz];refine aA (bX (m:=2) (n:=3) rfl rfl (by decide)) (aG (k34 _ _ ?_));refine cG rfl (wp_skip (k33 _ _ ?_));refine aD fun K35 k35=>wp_block (aD fun K36 k36=>?_);simp only[zz];refine mq m aO (by kernel_rfl) (aL (aB) (aL (aH bL aF rfl rfl (by decide) (by decide) rfl) ?_));simp only[zz];refine ql rfl (fun u m=>((m.b 1 rfl).lies aJ aF rfl rfl)) ?_;simp only[zz,zy,Nat.zero_add,Nat.reduceAdd,Nat.reduceMul,Int.reduceToNat];refine ql rfl (fun u m=>((m.b 4 rfl).full aJ aF)) ?_;simp only[zz];refine aL (gA rfl rfl) (aL (aB) (cN rfl (fun hb=>aB) (cN rfl (fun hb=>aH bL aF rfl (bK hb rfl) (by decide) (by decide) rfl) ?_)));simp only[zz];refine iB rfl (fun hb u m=>cC (bK hb rfl) ((m.b 1 rfl).lies aJ aF rfl rfl)) ?_;simp only[zz,zy,Nat.zero_add,Nat.reduceAdd,Nat.reduceMul,Int.reduceToNat];refine iB rfl (fun hb u m=>cC rfl ((m.b 3 rfl).full aJ aF)) (cN rfl (fun hb=>gA (bK hb rfl) (bK hb rfl)) (aL (cK rfl rfl rfl) (dK ?_)));clear m;intro u m;refine k36 _ _ ?_;simp only[zz];refine pR m 0 [] [147,148,149] (fun vs i=>vs = [] ∧ i = bI g8 [.int .i64 (gC (gC (gC (o.cor 0) (o.cor 0) (t.cor c) (t.cor ((c + 1) % 3))) (o.cor 1) (t.cor c) (t.cor ((c + 1) % 3))) (o.cor 2) (t.cor c) (t.cor ((c + 1) % 3))).x,.int .i64 (gC (gC (gC (o.cor 0) (o.cor 0) (t.cor c) (t.cor ((c + 1) % 3))) (o.cor 1) (t.cor c) (t.cor ((c + 1) % 3))) (o.cor 2) (t.cor c) (t.cor ((c + 1) % 3))).y,.int .i64 (gC (gC (gC (o.cor 0) (o.cor 0) (t.cor c) (t.cor ((c + 1) % 3))) (o.cor 1) (t.cor c) (t.cor ((c + 1) % 3))) (o.cor 2) (t.cor c) (t.cor ((c + 1) % 3))).z] 48) ?_ ?_
      ·
       refine eE rfl (fun hc4=>?_) (fun hc4=>?_)
       ·
        refine wp_region_lit (aA (aB) (aA (aH bL aF rfl rfl (by decide) (by decide) rfl) ?_));simp only[zz];refine aK rfl ((m.b 1 rfl).lies aJ aF rfl rfl) ?_;simp only[zz,zy,Nat.zero_add,Nat.reduceAdd,Nat.reduceMul,Int.reduceToNat];refine aS m 0 rfl rfl rfl aF (dZ rfl) rfl ?_;clear m;intro u m;simp only[zy,zx,bG,zF,zG,Nat.reduceAdd] at m;refine aG ?_;simp only[Exit.inBlock,Exit.then];refine ⟨_,_,rfl,?_,m,?_⟩
        · simp only[zz,zv]
        ·
         simp only[zQ,zR,zD,zE];exact ⟨trivial,by rw [abu (e:=(gC (gC (o.cor 0) (o.cor 0) (t.cor c) (t.cor ((c + 1) % 3))) (o.cor 1) (t.cor c) (t.cor ((c + 1) % 3)))) (x:=o.cor 2) hc4] <;> rfl⟩
       ·
        refine wp_skip ?_;simp only[Exit.inBlock,Exit.then];refine ⟨_,_,rfl,?_,m,?_⟩
        · simp only[zz,zv]
        ·
         simp only[zQ,zR,zD,zE];exact ⟨trivial,by rw [abv (e:=(gC (gC (o.cor 0) (o.cor 0) (t.cor c) (t.cor ((c + 1) % 3))) (o.cor 1) (t.cor c) (t.cor ((c + 1) % 3)))) (x:=o.cor 2) hc4] <;> rfl⟩
      ·
       intro vs i wr m hI u;obtain ⟨rfl,rfl⟩:=hI;simp only[zF,zG] at m;simp only[zu,zF,zG];refine k35 _ _ (wp_region_lit (aA (aB) (aA (aP (m:=2) (n:=1) (r:=3) rfl rfl (by decide)) (aA (aC) (aG (aU (aD fun K37 k37=>aD fun K38 k38=>wp_region_lit (aA (aB) ?_))))))));simp only[zz];refine aA (eU (m:=3) (n:=3) rfl rfl (by decide)) (aG (k38 _ _ ?_));refine iO rfl (wp_exit (k23 _ _ ?_));refine aD fun K39 k39=>wp_region_lit (aA (aB) (aA (aB) ?_));simp only[zz];refine aK rfl ((m.b 4 rfl).full aJ aF) ?_;simp only[zz];refine aK rfl ((m.b 5 rfl).full aJ aF) ?_;simp only[zz];refine aK rfl ((m.b 2 rfl).full aJ aF) ?_;simp only[zz];refine aA (bM rfl rfl rfl) ?_;simp only[zz];refine aA (aI bS aT rfl rfl (by omega) (by omega) (As (Int.toNat_natCast _))) ?_;simp only[zz];refine Kl m 8 rfl rfl rfl aT (by simp only[List.length_cons,List.length_nil,Nat.zero_add,Nat.reduceAdd,Int.reduceToNat,Nat.reduceMul];omega) rfl ?_;clear m;intro u m;simp only[zF,zG] at m;try simp only[Nat.zero_add] at m
       rw [show bG (us.flatMap aX) (k * 9) [.int .i64 (t.cor c).x,.int .i64 (t.cor c).y,.int .i64 (t.cor c).z,.int .i64 p.x,.int .i64 p.y,.int .i64 p.z,.int .i64 (t.cor ((c + 2) % 3)).x,.int .i64 (t.cor ((c + 2) % 3)).y,.int .i64 (t.cor ((c + 2) % 3)).z] = (us.set k (⟨(t.cor c),p,(t.cor ((c + 2) % 3))⟩ : T3)).flatMap aX from En (u:=(⟨(t.cor c),p,(t.cor ((c + 2) % 3))⟩ : T3)) htk] at m;refine aG (k39 _ _ ?_);refine aD fun K40 k40=>wp_region_lit (aA (aB) (aA (aB) ?_));simp only[zz];refine aK rfl ((m.b 3 rfl).full aJ aF) ?_;simp only[zz];refine aK rfl ((m.b 5 rfl).full aJ aF) ?_;simp only[zz];refine aK rfl ((m.b 0 rfl).full aJ aF) ?_;simp only[zz];refine aA (bM rfl rfl rfl) ?_;simp only[zz];refine aA (aI bS aT rfl rfl (by omega) (by omega) (As (Int.toNat_natCast _))) ?_;simp only[zz];refine Kl m 8 rfl rfl rfl aT (by simp only[List.length_cons,List.length_nil,Nat.zero_add,Nat.reduceAdd,Int.reduceToNat,Nat.reduceMul];omega) rfl ?_;clear m;intro u m;simp only[zF,zG] at m;try simp only[Nat.zero_add] at m
       rw [show bG ((us.set k (⟨(t.cor c),p,(t.cor ((c + 2) % 3))⟩ : T3)).flatMap aX) (j * 9) [.int .i64 (t.cor ((c + 1) % 3)).x,.int .i64 (t.cor ((c + 1) % 3)).y,.int .i64 (t.cor ((c + 1) % 3)).z,.int .i64 p.x,.int .i64 p.y,.int .i64 p.z,.int .i64 (gC (gC (gC (o.cor 0) (o.cor 0) (t.cor c) (t.cor ((c + 1) % 3))) (o.cor 1) (t.cor c) (t.cor ((c + 1) % 3))) (o.cor 2) (t.cor c) (t.cor ((c + 1) % 3))).x,.int .i64 (gC (gC (gC (o.cor 0) (o.cor 0) (t.cor c) (t.cor ((c + 1) % 3))) (o.cor 1) (t.cor c) (t.cor ((c + 1) % 3))) (o.cor 2) (t.cor c) (t.cor ((c + 1) % 3))).y,.int .i64 (gC (gC (gC (o.cor 0) (o.cor 0) (t.cor c) (t.cor ((c + 1) % 3))) (o.cor 1) (t.cor c) (t.cor ((c + 1) % 3))) (o.cor 2) (t.cor c) (t.cor ((c + 1) % 3))).z] = ((us.set k (⟨(t.cor c),p,(t.cor ((c + 2) % 3))⟩ : T3)).set j (⟨(t.cor ((c + 1) % 3)),p,(uD o (t.cor c) (t.cor ((c + 1) % 3)))⟩ : T3)).flatMap aX from En (u:=(⟨(t.cor ((c + 1) % 3)),p,(uD o (t.cor c) (t.cor ((c + 1) % 3)))⟩ : T3)) (List.getElem?_eq_getElem (by simp only[List.length_set];omega))] at m;refine aG (k40 _ _ ?_);refine wp_region_lit (aA (aB) ?_);simp only[zz];refine aK rfl ((m.b 5 rfl).full aJ aF) ?_;simp only[zz];refine aK rfl ((m.b 3 rfl).full aJ aF) ?_;simp only[zz];refine aK rfl ((m.b 2 rfl).full aJ aF) ?_;simp only[zz];refine aA (bM rfl rfl rfl) ?_;simp only[zz];refine aK rfl ((m.b 5 rfl).full aJ aF) ?_;simp only[zz];refine aK rfl ((m.b 4 rfl).full aJ aF) ?_;simp only[zz];refine aK rfl ((m.b 0 rfl).full aJ aF) ?_;simp only[zz];refine aA (bM rfl rfl rfl) ?_;simp only[zz];refine wG rfl rfl ?_;intro u g9 e hg hB;replace m:=m.newB e hg hB;clear e hg hB;simp only[zz];refine eI m 9 rfl rfl bS nN rfl (by decide) rfl rfl rfl (m.b 0 rfl).rowsO (tG rfl) (by omega) (by omega) ?_;clear m;intro A7 cap7 u m;simp only[zF,zG] at m;rw [show (((us.set k (⟨(t.cor c),p,(t.cor ((c + 2) % 3))⟩ : T3)).set j (⟨(t.cor ((c + 1) % 3)),p,(uD o (t.cor c) (t.cor ((c + 1) % 3)))⟩ : T3)).flatMap aX) ++ _ = (((us.set k (⟨(t.cor c),p,(t.cor ((c + 2) % 3))⟩ : T3)).set j (⟨(t.cor ((c + 1) % 3)),p,(uD o (t.cor c) (t.cor ((c + 1) % 3)))⟩ : T3)) ++ [(⟨p,(t.cor ((c + 1) % 3)),(t.cor ((c + 2) % 3))⟩ : T3),(⟨p,(t.cor c),(uD o (t.cor c) (t.cor ((c + 1) % 3)))⟩ : T3)]).flatMap aX by rw [List.flatMap_append];rfl] at m;rw [show us.length + 2 = (((us.set k (⟨(t.cor c),p,(t.cor ((c + 2) % 3))⟩ : T3)).set j (⟨(t.cor ((c + 1) % 3)),p,(uD o (t.cor c) (t.cor ((c + 1) % 3)))⟩ : T3)) ++ [(⟨p,(t.cor ((c + 1) % 3)),(t.cor ((c + 2) % 3))⟩ : T3),(⟨p,(t.cor c),(uD o (t.cor c) (t.cor ((c + 1) % 3)))⟩ : T3)]).length by simp only[List.length_append,List.length_set,List.length_cons,List.length_nil]] at m;rw [show us.length + 2 = (((us.set k (⟨(t.cor c),p,(t.cor ((c + 2) % 3))⟩ : T3)).set j (⟨(t.cor ((c + 1) % 3)),p,(uD o (t.cor c) (t.cor ((c + 1) % 3)))⟩ : T3)) ++ [(⟨p,(t.cor ((c + 1) % 3)),(t.cor ((c + 2) % 3))⟩ : T3),(⟨p,(t.cor c),(uD o (t.cor c) (t.cor ((c + 1) % 3)))⟩ : T3)]).length by simp only[List.length_append,List.length_set,List.length_cons,List.length_nil]];refine aA (aC) (aG (k19 _ _ ?_));simp only[zz];refine mh m [true,true,true,true,true,true,true,true,false,true,true] [(0,true),(2,true),(1,true),(3,true),(4,false),(5,true),(6,false),(7,false),(8,true)] aO (by kernel_rfl) (dL (fun _ _ _ _ _ h=>h)) (ol:=?_) ?hol ?_
       case hol=>simp only[zw,zQ,zR];try rfl
       clear m;intro u m;refine aZ (aB) (aZ (aB) ?_);simp only[zz];refine dI rfl (fun u m=>((m.b 6 rfl).full aJ aF)) ?_;simp only[zz];refine dI rfl (fun u m=>((m.b 5 rfl).full aJ aF)) ?_;simp only[zz];refine cS (eH m rfl rfl (vO (p:=(t.cor c)) _ ((m.o 8 rfl).lat qT (by decide)) (by omega)) ?_);clear m;rintro v u m rfl;refine aG (⟨m.sel [true,true,true,true,true,true,true,true,false,true,true],?_⟩);refine aZ (qH rfl rfl) (cS ?_);simp only[zz];refine sI rfl ?_;intro u g10 e hg hB;replace m:=m.newB e hg hB;clear e hg hB;refine aG (⟨m.sel [false,true,true,true,true,true,true,true,true,false,true,true],?_⟩);refine cS ?_;simp only[zz];refine eI m 9 rfl rfl kB aai rfl (by decide) rfl rfl rfl (m.b 0 rfl).rowsO (tG rfl) (by omega) (by omega) ?_;clear m;intro A8 cap8 u m;simp only[zF,zG] at m;rw [show ms.flatMap bU ++ _ = (ms ++ [(p,dX ms (t.cor c))]).flatMap bU by rw [List.flatMap_append];rfl] at m;rw [show ms.length + 1 = (ms ++ [(p,dX ms (t.cor c))]).length by simp] at m;rw [show ms.length + 1 = (ms ++ [(p,dX ms (t.cor c))]).length by simp];refine aG (⟨m.sel [false,true,true,true,true,true,true,true,true,false,true,true],?_⟩);refine aZ (aC) (dN (k9 _ _ ?_));refine wp_region_lit (aA (aB) ?_);simp only[zz];refine aA (aP rfl rfl (aM (by omega) (by omega))) (aA (aC) (aG ?_));simp only[zz];simp only[Exit.inBlock,Exit.then];refine ⟨12 - (i + 1),_,?_,rfl,?_,?_⟩
       · omega
       · simp only[zz,zv]
       ·
        simp only[zQ,zR,zD,zE];exact ⟨(((us.set k (⟨(t.cor c),p,(t.cor ((c + 2) % 3))⟩ : T3)).set j (⟨(t.cor ((c + 1) % 3)),p,(uD o (t.cor c) (t.cor ((c + 1) % 3)))⟩ : T3)) ++ [(⟨p,(t.cor ((c + 1) % 3)),(t.cor ((c + 2) % 3))⟩ : T3),(⟨p,(t.cor c),(uD o (t.cor c) (t.cor ((c + 1) % 3)))⟩ : T3)]),(ms ++ [(p,dX ms (t.cor c))]),_,_,_,_,i + 1,rfl,(m.sel [false,false,false,false,false,false,false,false,false,true,true,true]),.step hdv (.edge k j t o x c _ htk hc3 hto hfx hnb hpp),by omega,rfl⟩
   ·
    refine aD fun K41 k41=>wp_region_lit (aA (aB) (aA (aB) ?_));simp only[zz];refine aK rfl ((m.b 2 rfl).full aJ aF) ?_;simp only[zz];refine aK rfl ((m.b 1 rfl).full aJ aF) ?_;simp only[zz];refine aK rfl ((m.b 3 rfl).full aJ aF) ?_;simp only[zz];refine aA (bM rfl rfl rfl) ?_;simp only[zz];refine aA (aI bS aT rfl rfl (by omega) (by omega) (As (Int.toNat_natCast _))) ?_;simp only[zz];refine Kl m 6 rfl rfl rfl aT (by simp only[List.length_cons,List.length_nil,Nat.zero_add,Nat.reduceAdd,Int.reduceToNat,Nat.reduceMul];omega) rfl ?_;clear m;intro u m;simp only[zF,zG] at m;try simp only[Nat.zero_add] at m
    rw [show bG (us.flatMap aX) (k * 9) [.int .i64 (t.cor c).x,.int .i64 (t.cor c).y,.int .i64 (t.cor c).z,.int .i64 (t.cor ((c + 1) % 3)).x,.int .i64 (t.cor ((c + 1) % 3)).y,.int .i64 (t.cor ((c + 1) % 3)).z,.int .i64 p.x,.int .i64 p.y,.int .i64 p.z] = (us.set k (⟨(t.cor c),(t.cor ((c + 1) % 3)),p⟩ : T3)).flatMap aX from En (u:=(⟨(t.cor c),(t.cor ((c + 1) % 3)),p⟩ : T3)) htk] at m;refine aG (k41 _ _ ?_);refine wp_region_lit (aA (aB) ?_);simp only[zz];refine aK rfl ((m.b 1 rfl).full aJ aF) ?_;simp only[zz];refine aK rfl ((m.b 0 rfl).full aJ aF) ?_;simp only[zz];refine aK rfl ((m.b 3 rfl).full aJ aF) ?_;simp only[zz];refine aA (bM rfl rfl rfl) ?_;simp only[zz];refine aK rfl ((m.b 0 rfl).full aJ aF) ?_;simp only[zz];refine aK rfl ((m.b 2 rfl).full aJ aF) ?_;simp only[zz];refine aK rfl ((m.b 3 rfl).full aJ aF) ?_;simp only[zz];refine aA (bM rfl rfl rfl) ?_;simp only[zz];refine wG rfl rfl ?_;intro u g7 e hg hB;replace m:=m.newB e hg hB;clear e hg hB;simp only[zz];refine eI m 7 rfl rfl bS nN rfl (by decide) rfl rfl rfl (m.b 0 rfl).rowsO (tG rfl) (by omega) (by omega) ?_;clear m;intro A7 cap7 u m;simp only[zF,zG] at m;rw [show ((us.set k (⟨(t.cor c),(t.cor ((c + 1) % 3)),p⟩ : T3)).flatMap aX) ++ _ = ((us.set k (⟨(t.cor c),(t.cor ((c + 1) % 3)),p⟩ : T3)) ++ [(⟨(t.cor ((c + 1) % 3)),(t.cor ((c + 2) % 3)),p⟩ : T3),(⟨(t.cor ((c + 2) % 3)),(t.cor c),p⟩ : T3)]).flatMap aX by rw [List.flatMap_append];rfl] at m;rw [show us.length + 2 = ((us.set k (⟨(t.cor c),(t.cor ((c + 1) % 3)),p⟩ : T3)) ++ [(⟨(t.cor ((c + 1) % 3)),(t.cor ((c + 2) % 3)),p⟩ : T3),(⟨(t.cor ((c + 2) % 3)),(t.cor c),p⟩ : T3)]).length by simp only[List.length_append,List.length_set,List.length_cons,List.length_nil]] at m;rw [show us.length + 2 = ((us.set k (⟨(t.cor c),(t.cor ((c + 1) % 3)),p⟩ : T3)) ++ [(⟨(t.cor ((c + 1) % 3)),(t.cor ((c + 2) % 3)),p⟩ : T3),(⟨(t.cor ((c + 2) % 3)),(t.cor c),p⟩ : T3)]).length by simp only[List.length_append,List.length_set,List.length_cons,List.length_nil]];refine aA (aC) (aG (k19 _ _ ?_));simp only[zz];refine mh m [true,true,true,true,true,true,false,true,true] [(0,true),(2,true),(1,true),(3,true),(4,false),(5,true),(6,false),(7,false),(8,true)] aO (by kernel_rfl) (dL (fun _ _ _ _ _ h=>h)) (ol:=?_) ?hol ?_
    case hol=>simp only[zw,zQ,zR];try rfl
    clear m;intro u m;refine aZ (aB) (aZ (aB) ?_);simp only[zz];refine dI rfl (fun u m=>((m.b 4 rfl).full aJ aF)) ?_;simp only[zz];refine dI rfl (fun u m=>((m.b 3 rfl).full aJ aF)) ?_;simp only[zz];refine cS (eH m rfl rfl (vO (p:=(t.cor c)) _ ((m.o 6 rfl).lat qT (by decide)) (by omega)) ?_);clear m;rintro v u m rfl;refine aG (⟨m.sel [true,true,true,true,true,true,false,true,true],?_⟩);refine aZ (qH rfl rfl) (cS ?_);simp only[zz];refine sI rfl ?_;intro u g8 e hg hB;replace m:=m.newB e hg hB;clear e hg hB;refine aG (⟨m.sel [false,true,true,true,true,true,true,false,true,true],?_⟩);refine cS ?_;simp only[zz];refine eI m 7 rfl rfl kB aai rfl (by decide) rfl rfl rfl (m.b 0 rfl).rowsO (tG rfl) (by omega) (by omega) ?_;clear m;intro A8 cap8 u m;simp only[zF,zG] at m;rw [show ms.flatMap bU ++ _ = (ms ++ [(p,dX ms (t.cor c))]).flatMap bU by rw [List.flatMap_append];rfl] at m;rw [show ms.length + 1 = (ms ++ [(p,dX ms (t.cor c))]).length by simp] at m;rw [show ms.length + 1 = (ms ++ [(p,dX ms (t.cor c))]).length by simp];refine aG (⟨m.sel [false,true,true,true,true,true,true,false,true,true],?_⟩);refine aZ (aC) (dN (k9 _ _ ?_));refine wp_region_lit (aA (aB) ?_);simp only[zz];refine aA (aP rfl rfl (aM (by omega) (by omega))) (aA (aC) (aG ?_));simp only[zz];simp only[Exit.inBlock,Exit.then];refine ⟨12 - (i + 1),_,?_,rfl,?_,?_⟩
    · omega
    · simp only[zz,zv]
    ·
     simp only[zQ,zR,zD,zE];exact ⟨((us.set k (⟨(t.cor c),(t.cor ((c + 1) % 3)),p⟩ : T3)) ++ [(⟨(t.cor ((c + 1) % 3)),(t.cor ((c + 2) % 3)),p⟩ : T3),(⟨(t.cor ((c + 2) % 3)),(t.cor c),p⟩ : T3)]),(ms ++ [(p,dX ms (t.cor c))]),_,_,_,_,i + 1,rfl,(m.sel [false,false,false,false,false,false,false,true,true,true]),.step hdv (.tri k t c _ htk hc3 hpp),by omega,rfl⟩
  ·
   refine wp_exit (k5 _ _ ?_);refine aD fun K42 k42=>wp_region_lit (aA (aB) (aA (aB) (aA (aC) (aA (aC) ?_))));simp only[zz];refine aG (k42 _ _ ?_);refine wp_ret ?_;try simp only[Exit.inBlock,Exit.then,if_true]
   refine kE rfl rfl rfl ?_;try simp only[zD,zE]
   exact ⟨_,rfl,m.ext,us,ms,_,_,_,_,i,rfl,m.sel [true,true,false],hi,hdv⟩
end Go.Proofs.YtfohfflkhpfjeaaGreatDoor
namespace Go.Lith
open Go.RowKit
def Gt (e : P3) : List T3:=[⟨⟨0,0,0⟩,⟨0,30,0⟩,e⟩,⟨⟨0,30,0⟩,⟨30,0,0⟩,e⟩,⟨⟨30,0,0⟩,⟨0,0,0⟩,e⟩,⟨⟨0,0,0⟩,⟨30,0,0⟩,⟨0,0,30⟩⟩,⟨⟨30,0,0⟩,⟨0,30,0⟩,⟨0,0,30⟩⟩,⟨⟨0,30,0⟩,⟨0,0,0⟩,⟨0,0,30⟩⟩]
def Gu : List T3:=[⟨⟨0,0,0⟩,⟨0,30,0⟩,⟨30,0,0⟩⟩,⟨⟨0,0,0⟩,⟨30,0,0⟩,⟨0,0,30⟩⟩,⟨⟨30,0,0⟩,⟨0,30,0⟩,⟨0,0,30⟩⟩,⟨⟨0,30,0⟩,⟨0,0,0⟩,⟨0,0,30⟩⟩]
theorem ag4 : gB (Gt ⟨3,4,1⟩) Gu [(⟨3,4,1⟩,⟨0,0,0⟩)] = (6,0):=by decide +kernel
theorem ag5 : gB (Gt ⟨3,4,1⟩) Gu [(⟨3,4,1⟩,⟨0,0,30⟩)] = (0,32):=by decide +kernel
theorem ag6 : gB (Gt ⟨3,4,1⟩) Gu [] = (0,32):=by decide +kernel
theorem ag7 : gB (Gt ⟨3,4,1⟩) Gu [(⟨0,0,30⟩,⟨0,0,0⟩)] = (0,32):=by decide +kernel
theorem Ug : I3 ⟨0,0,0⟩:=⟨by decide,by decide,by decide⟩
theorem Uh : I3 ⟨0,0,30⟩:=⟨by decide,by decide,by decide⟩
theorem Xu : I3 ⟨3,4,1⟩:=⟨by decide,by decide,by decide⟩
theorem Do (e : P3) [h : I3 e] : ∀ t ∈ Gt e,IT t:=fun t ht=>by
 have a : I3 ⟨0,0,0⟩:=Ug;have b : I3 ⟨30,0,0⟩:=⟨by decide,by decide,by decide⟩
 have c : I3 ⟨0,30,0⟩:=⟨by decide,by decide,by decide⟩
 have d : I3 ⟨0,0,30⟩:=Uh;simp only[Gt,List.mem_cons,List.not_mem_nil,or_false] at ht;rcases ht with rfl | rfl | rfl | rfl | rfl | rfl
 · exact ⟨a,c,h⟩
 · exact ⟨c,b,h⟩
 · exact ⟨b,a,h⟩
 · exact ⟨a,b,d⟩
 · exact ⟨b,c,d⟩
 · exact ⟨c,a,d⟩
theorem Dp : ∀ t ∈ Gu,IT t:=fun t ht=>by
 have a : I3 ⟨0,0,0⟩:=Ug;have b : I3 ⟨30,0,0⟩:=⟨by decide,by decide,by decide⟩
 have c : I3 ⟨0,30,0⟩:=⟨by decide,by decide,by decide⟩
 have d : I3 ⟨0,0,30⟩:=Uh;simp only[Gu,List.mem_cons,List.not_mem_nil,or_false] at ht;rcases ht with rfl | rfl | rfl | rfl
 · exact ⟨a,c,b⟩
 · exact ⟨a,b,d⟩
 · exact ⟨b,c,d⟩
 · exact ⟨c,a,d⟩
structure Srf (l us : List T3) (ms : List Mv) : Prop where
 ll : l.length ≤ 400
 ul : us.length ≤ 424
 ml : ms.length ≤ 12
 lm : ∀ x ∈ cL l,Xs x
 um : ∀ x ∈ cL us,Xs x
 mm : ∀ m ∈ ms,Xs m.1 ∧ Xs m.2
theorem wR.srf {rim : List E3} {kind bits : Int} {zs : List Int} {us : List T3} {i : Nat} {ms : List Mv} (h : wR rim (fN kind bits zs) i us ms) (hi : i ≤ 12) : Srf (fN kind bits zs) us ms:=by
 obtain ⟨h1,h2⟩:=h.len;obtain ⟨h3,h4⟩:=h.pts;have hl:=Nb (kind:=kind) (bits:=bits) (zs:=zs);have hm:=abw (Na (kind:=kind) (bits:=bits) (zs:=zs));exact ⟨hl,by omega,by omega,hm,fun x hx=>(h3 x hx).mid hm (by omega),fun m hm2=>⟨(h4 m hm2).1.mid hm (by omega),(h4 m hm2).2.mid hm (by omega)⟩⟩
theorem rT {ts : List T3} (h : ∀ x ∈ cL ts,Xs x) : ∀ t ∈ ts,IT t:=ag3 fun x hx=>(h x hx).i3
theorem Lz {ms : List Mv} (h : ∀ m ∈ ms,Xs m.1 ∧ Xs m.2) : ∀ m ∈ ms,I3 m.1 ∧ I3 m.2:=fun m hm=>⟨(h m hm).1.i3,(h m hm).2.i3⟩
end Go.Lith
