/-
 Texts of one claim, laid together: W11, Ref8, Exact2, Meas1, RefG1, V3, Wf, Wg, Wh, Wi, Surf1, Surf3, Surf1b, V4, Wj.
-/
import Derived.Test.YtfohfflkhpfjeaaGreatDoorB7
set_option maxHeartbeats 8000000
set_option linter.unusedSimpArgs false
set_option linter.unusedVariables false
set_option linter.unusedSectionVars false
namespace Go.Proofs.YtfohfflkhpfjeaaGreatDoor
open Go.Proofs.Tryz
open Go.RowKit Go.Lith
abbrev fW:=@underlying166
abbrev Jy:=@underlying80
set_option maxRecDepth 100000
attribute [local irreducible] wpList wpQuiet dW dM dK Code.wp
section
variable {fs gs : List T3} {ms : List Mv}
theorem agM (h : (if cP true fs ≠ 0 then cP true fs else cP true gs) ≠ 0) : eW fs gs ms = (0,if cP true fs ≠ 0 then cP true fs else cP true gs):=by
 unfold eW;by_cases h1 : cP true fs ≠ 0
 · rw [if_pos h1,if_pos h1]
 ·
  rw [if_neg h1] at h;rw [if_neg h1,if_neg h1,if_pos h]
theorem agN (h : ¬ (if cP true fs ≠ 0 then cP true fs else cP true gs) ≠ 0) : cP true fs = 0 ∧ cP true gs = 0:=by
 by_cases h1 : cP true fs ≠ 0
 · rw [if_pos h1] at h;exact absurd h1 h
 · rw [if_neg h1] at h;exact ⟨Classical.not_not.1 h1,Classical.not_not.1 h⟩
theorem agO (hf : cP true fs = 0) (hg : cP true gs = 0) (h : Cz fs gs ≠ 0) : eW fs gs ms = (0,Cz fs gs):=by
 rw [eW,if_neg (fun k=>k hf),if_neg (fun k=>k hg)];unfold Cz at h ⊢;split
 · rfl
 ·
  rename_i h1;rw [if_neg h1] at h;split
  · rfl
  · rename_i h2;rw [if_neg h2] at h;exact absurd rfl h
theorem agP (h : ¬ Cz fs gs ≠ 0) : aS fs = aS gs ∧ ¬ (iV fs gs (aS fs) = true ∨ nE fs gs (aS fs) = false):=by
 unfold Cz at h;split at h
 · exact absurd (by decide) h
 ·
  rename_i h1;split at h
  · exact absurd (by decide) h
  · rename_i h2;exact ⟨Classical.not_not.1 h1,h2⟩
theorem Lz (hf : cP true fs = 0) (hg : cP true gs = 0) (hb : ¬ Cz fs gs ≠ 0) : eW fs gs ms = if lM fs gs ms (aS fs) = false then ((0 : Int),(31 : Int)) else if kU fs gs ms = false then ((0 : Int),(32 : Int)) else match lH ms 0 with
 | some n=>(n,(0 : Int))
 | none=>((0 : Int),(3 : Int)):=by
 obtain ⟨h1,h2⟩:=agP hb;rw [eW,if_neg (fun k=>k hf),if_neg (fun k=>k hg),if_neg (fun k=>k h1),if_neg h2];cases lH ms 0 <;> rfl
theorem abb {b : Bool} {n : Int} (h : (if b = true then 0 else n) ≠ 0) : b = false:=by cases b with | false=>rfl | true=>exact absurd rfl h
theorem abc {b : Bool} {n : Int} (hn : n ≠ 0) (h : ¬ (if b = true then 0 else n) ≠ 0) : b = true:=by cases b with | true=>rfl | false=>exact absurd hn h
end
theorem nW {fs gs : List T3} {ms : List Mv} {N cap N2 cap2 N3 cap3 : Nat} {A A2 A3 : Option Addr} (w : World) (hT : dZ w A N fs) (hT2 : dZ w A2 N2 gs) (hL3 : mU bP 6 w A3 N3 ms) (hN : N ≤ 300000) (hN2 : N2 ≤ 300000) (hN3 : N3 ≤ 10000000) (hI : ∀ mv ∈ ms,I3 mv.1 ∧ I3 mv.2) : eK prog 17 [.slice A N cap,.slice A2 N2 cap2,.slice A3 N3 cap3] w (fun v _=>v = .tuple #[.int .i64 (eW fs gs ms).1,.int .i64 (eW fs gs ms).2]):=by
 refine ⟨afa,?_⟩;have m:=cA.refl w
 go_enter func17,ntmps17
 refine aD fun K1 k1=>wp_region_lit (aA (aC) (aA (aC) (aG (k1 _ _ ?_))));refine aD fun K2 k2=>wp_region_lit (aA (aB) (aA (aB) ?_));simp only[zz];refine aA (aB) ?_;simp only[zz];refine kY m ?_;clear m;intro q7 u m;have hD7:=cQ.nil (K:=P3) (V:=P3) pt pt;refine aA (xS rfl rfl rfl rfl) ?_;simp only[zz];refine eD m rfl ?_;clear m;intro g2 u m;refine aA (aC) (aG (k2 _ _ ?_));refine aD fun K3 k3=>aD fun K4 k4=>wp_region_lit (aA (aB) ?_);simp only[zz];refine aA (qG) ?_;simp only[zz,List.map_toArray,List.map_cons,List.map_nil];refine aA (nT rfl) (aA (aB) ?_);simp only[zz];refine aA (qG) ?_;simp only[zz,List.map_toArray,List.map_cons,List.map_nil];refine aA (nT rfl) (aA (aB) ?_);simp only[zz];refine aA (qG) ?_;simp only[zz,List.map_toArray,List.map_cons,List.map_nil];refine aA (nT rfl) (aA (aB) ?_);simp only[zz];refine aA (qG) ?_;simp only[zz,List.map_toArray,List.map_cons,List.map_nil];refine aA (nT rfl) (aA (aB) ?_);simp only[zz];refine aA (qG) ?_;simp only[zz,List.map_toArray,List.map_cons,List.map_nil];refine aA (nT rfl) ?_;simp only[zz];refine Wc rfl rfl rfl rfl rfl ?_;intro u g3 e hg hB;replace m:=m.newB e hg hB;clear e hg hB;refine aA (aX rfl Fc rfl) (aA (aB) (aG (k4 _ _ ?_)));refine wp_block (wp_loop_rounds 6 (dS (aD fun K5 k5=>wp_region_lit (aA (bY (m:=0) (n:=5) rfl rfl (by decide)) ?_))));simp only[zz];refine aG (k5 _ _ ?_);refine aD fun K6 k6=>cG rfl (wp_skip (k6 _ _ ?_));refine aD fun K7 k7=>wp_block (aD fun K8 k8=>wp_region_lit (aA (aI Fc jK rfl rfl (by decide) (by omega) rfl) ?_));simp only[zz];refine aK rfl ((m.b 0 rfl).lies Fh jK rfl rfl) ?_;simp only[zz,zy,Nat.zero_add,Nat.reduceAdd,Nat.reduceMul,Int.reduceToNat];refine bF m wF rfl ?_;clear m;intro g4 u m;simp only[zz];refine aU m 0 rfl rfl rfl jK (eB rfl) rfl ?_;clear m;intro u m;simp only[zy,zx,bE,zF,zG,Nat.reduceAdd] at m;refine aG (k8 _ _ ?_);refine aD fun K9 k9=>wp_region_lit (aA (aN (c:=0) Fb rfl sF rfl rfl) ?_);simp only[zz];refine aK rfl ((m.b 0 rfl).lies1 Fg rfl) ?_;simp only[zz];refine dY m rfl rfl (Sd _ (m.b 2 rfl) (hT.ext m.ext) (hT2.ext m.ext) (by omega) (by omega)) ?_;clear m;rintro v u m rfl;refine aA (aC) (aG (k9 _ _ ?_));refine aD fun K10 k10=>wp_region_lit (aA (aB) (aA (lK rfl rfl) ?_));simp only[zz];refine aG (k10 _ _ ?_);refine bW rfl (fun hc2=>?_) (fun hc2=>?_)
 ·
  refine aD fun K11 k11=>wp_region_lit (aA (aB) (aA (aC) (aA (aC) (aG (k11 _ _ ?_)))));refine wp_ret ?_;simp only[zz];try simp only[Exit.inBlock,Exit.then,if_true]
  refine kK rfl rfl rfl ?_;try simp only[zD,zE]
  exact ⟨_,rfl,m.ext,by rw [agM hc2]⟩
 ·
  obtain ⟨hf,hg⟩:=agN hc2;refine wp_skip (k7 _ _ ?_);refine wp_region_lit (aA (aP (m:=0) (n:=1) (r:=1) rfl rfl (by decide)) (aA (aB) (aG (aV (aD fun K12 k12=>wp_region_lit (aA (bY (m:=1) (n:=5) rfl rfl (by decide)) (aG (k12 _ _ ?_))))))));refine aD fun K13 k13=>cG rfl (wp_skip (k13 _ _ ?_));refine aD fun K14 k14=>wp_block (aD fun K15 k15=>wp_region_lit ?_);simp only[zz];refine aA (aI Fc jK rfl rfl (by decide) (by omega) rfl) ?_;simp only[zz];refine aK rfl ((m.b 1 rfl).lies Fh jK rfl rfl) ?_;simp only[zz,zy,Nat.zero_add,Nat.reduceAdd,Nat.reduceMul,Int.reduceToNat];refine bF m wF rfl ?_;clear m;intro g5 u m;simp only[zz];refine aU m 0 rfl rfl rfl jK (eB rfl) rfl ?_;clear m;intro u m;simp only[zy,zx,bE,zF,zG,Nat.reduceAdd] at m;refine aG (k15 _ _ ?_);refine aD fun K16 k16=>wp_region_lit (aA (aN (c:=0) Fb rfl sF rfl rfl) ?_);simp only[zz];refine aK rfl ((m.b 0 rfl).lies1 Fg rfl) ?_;simp only[zz];replace m:=m.pull 3 rfl;simp only[xO,xP,zF,zG] at m;replace m:=m.pack1;refine Lu rfl rfl (Xn m (hT) (hT2) (by omega) (by omega) hf hg) ?_;clear m;rintro v u ⟨A4,c4,rfl,m⟩;simp only[zz];replace m:=m.unpack2;refine aA (aC) (aG (k16 _ _ ?_));refine aD fun K17 k17=>wp_region_lit (aA (aB) (aA (lK rfl rfl) (aG (k17 _ _ ?_))));simp only[zz];refine bW rfl (fun hc2=>?_) (fun hc2=>?_)
  ·
   refine aD fun K18 k18=>wp_region_lit (aA (aB) (aA (aC) (aA (aC) (aG (k18 _ _ ?_)))));refine wp_ret ?_;simp only[zz];try simp only[Exit.inBlock,Exit.then,if_true]
   refine kK rfl rfl rfl ?_;try simp only[zD,zE]
   exact ⟨_,rfl,m.ext,by rw [agO hf hg hc2]⟩
  ·
   have hb:=hc2;refine wp_skip (k14 _ _ ?_);refine wp_region_lit (aA (aP (m:=1) (n:=1) (r:=2) rfl rfl (by decide)) (aA (aB) (aG (aV (aD fun K19 k19=>wp_region_lit (aA (bY (m:=2) (n:=5) rfl rfl (by decide)) (aG (k19 _ _ ?_))))))));refine aD fun K20 k20=>cG rfl (wp_skip (k20 _ _ ?_));refine aD fun K21 k21=>wp_block (aD fun K22 k22=>wp_region_lit ?_);simp only[zz];refine aA (aI Fc jK rfl rfl (by decide) (by omega) rfl) ?_;simp only[zz];refine aK rfl ((m.b 4 rfl).lies Fh jK rfl rfl) ?_;simp only[zz,zy,Nat.zero_add,Nat.reduceAdd,Nat.reduceMul,Int.reduceToNat];refine bF m wF rfl ?_;clear m;intro g6 u m;simp only[zz];refine aU m 0 rfl rfl rfl jK (eB rfl) rfl ?_;clear m;intro u m;simp only[zy,zx,bE,zF,zG,Nat.reduceAdd] at m;refine aG (k22 _ _ ?_);refine aD fun K23 k23=>wp_region_lit (aA (aN (c:=0) Fb rfl sF rfl rfl) ?_);simp only[zz];refine aK rfl ((m.b 0 rfl).lies1 Fg rfl) ?_;simp only[zz];replace m:=m.pull 6 rfl;simp only[xO,xP,zF,zG] at m;replace m:=m.pull 3 rfl;simp only[xO,xP,zF,zG] at m;replace m:=m.pull 3 rfl;simp only[xO,xP,zF,zG] at m;replace m:=m.pack3;refine Lu rfl rfl (aev m hT hT2 hL3 hN hN2 hN3 hD7) ?_;clear m;rintro v u ⟨es7,c7,rfl,m,hD7i⟩;simp only[zz];replace m:=m.unpack3;refine aA (aC) (aG (k23 _ _ ?_));refine aD fun K24 k24=>wp_region_lit (aA (aB) (aA (lK rfl rfl) (aG (k24 _ _ ?_))));simp only[zz];refine bW rfl (fun hc2=>?_) (fun hc2=>?_)
   ·
    have hmv:=abb hc2;refine aD fun K25 k25=>wp_region_lit (aA (aB) (aA (aC) (aA (aC) (aG (k25 _ _ ?_)))));refine wp_ret ?_;simp only[zz];try simp only[Exit.inBlock,Exit.then,if_true]
    refine kK rfl rfl rfl ?_;try simp only[zD,zE]
    exact ⟨_,rfl,m.ext,by rw [Lz hf hg hb,hmv];rfl⟩
   ·
    have hmv:=abc (by decide) hc2;have hD7:=hD7i hmv;have himg:=ab3 (Oo hmv);refine wp_skip (k21 _ _ ?_);refine wp_region_lit (aA (aP (m:=2) (n:=1) (r:=3) rfl rfl (by decide)) (aA (aB) (aG (aV (aD fun K26 k26=>wp_region_lit (aA (bY (m:=3) (n:=5) rfl rfl (by decide)) (aG (k26 _ _ ?_))))))));refine aD fun K27 k27=>cG rfl (wp_skip (k27 _ _ ?_));refine aD fun K28 k28=>wp_block (aD fun K29 k29=>wp_region_lit ?_);simp only[zz];refine aA (aI Fc jK rfl rfl (by decide) (by omega) rfl) ?_;simp only[zz];refine aK rfl ((m.b 6 rfl).lies Fh jK rfl rfl) ?_;simp only[zz,zy,Nat.zero_add,Nat.reduceAdd,Nat.reduceMul,Int.reduceToNat];refine bF m wF rfl ?_;clear m;intro g7 u m;simp only[zz];refine aU m 0 rfl rfl rfl jK (eB rfl) rfl ?_;clear m;intro u m;simp only[zy,zx,bE,zF,zG,Nat.reduceAdd] at m;refine aG (k29 _ _ ?_);refine aD fun K30 k30=>wp_region_lit (aA (aN (c:=0) Fb rfl sF rfl rfl) ?_);simp only[zz];refine aK rfl ((m.b 0 rfl).lies1 Fg rfl) ?_;simp only[zz];refine dY m rfl rfl (acA (ms:=ms) _ (m.b 2 rfl) (hT.ext m.ext) (hT2.ext m.ext) hN hN2 (m.p 3 rfl) hD7 himg) ?_;clear m;rintro v u m rfl;refine aA (aC) (aG (k30 _ _ ?_));refine aD fun K31 k31=>wp_region_lit (aA (aB) (aA (lK rfl rfl) ?_));simp only[zz];refine aG (k31 _ _ ?_);refine bW rfl (fun hc2=>?_) (fun hc2=>?_)
    ·
     have hcv:=abb hc2;refine aD fun K32 k32=>wp_region_lit (aA (aB) (aA (aC) (aA (aC) (aG (k32 _ _ ?_)))));refine wp_ret ?_;simp only[zz];try simp only[Exit.inBlock,Exit.then,if_true]
     refine kK rfl rfl rfl ?_;try simp only[zD,zE]
     exact ⟨_,rfl,m.ext,by rw [Lz hf hg hb,hmv,hcv];rfl⟩
    ·
     have hcv:=abc (by decide) hc2;refine wp_skip (k28 _ _ ?_);refine wp_region_lit (aA (aP (m:=3) (n:=1) (r:=4) rfl rfl (by decide)) (aA (aB) (aG (aV (aD fun K33 k33=>wp_region_lit (aA (bY (m:=4) (n:=5) rfl rfl (by decide)) (aG (k33 _ _ ?_))))))));refine aD fun K34 k34=>cG rfl (wp_skip (k34 _ _ ?_));refine aD fun K35 k35=>wp_block (aD fun K36 k36=>wp_region_lit ?_);simp only[zz];refine aA (aI Fc jK rfl rfl (by decide) (by omega) rfl) ?_;simp only[zz];refine aK rfl ((m.b 7 rfl).lies Fh jK rfl rfl) ?_;simp only[zz,zy,Nat.zero_add,Nat.reduceAdd,Nat.reduceMul,Int.reduceToNat];refine bF m wF rfl ?_;clear m;intro g8 u m;simp only[zz];refine aU m 0 rfl rfl rfl jK (eB rfl) rfl ?_;clear m;intro u m;simp only[zy,zx,bE,zF,zG,Nat.reduceAdd] at m;refine aG (k36 _ _ ?_);refine aD fun K37 k37=>wp_region_lit (aA (aN (c:=0) Fb rfl sF rfl rfl) ?_);simp only[zz];refine aK rfl ((m.b 0 rfl).lies1 Fg rfl) ?_;simp only[zz];replace m:=m.pull 3 rfl;simp only[xO,xP,zF,zG] at m;replace m:=m.pack1;refine Lu rfl rfl (Xq m hL3 hN3 hI) ?_;clear m;rintro v u ⟨y,rfl,m,hme⟩;refine aA (aC) (aG (k37 _ _ ?_));refine aD fun K38 k38=>wp_region_lit (aA (aB) (aA (lK rfl rfl) ?_));simp only[zz];refine aG (k38 _ _ ?_);refine bW rfl (fun hc2=>?_) (fun hc2=>?_)
     ·
      have hm0 : lH ms 0 = none:=Option.not_isSome_iff_eq_none.1 (by rw [abb hc2];exact Bool.false_ne_true);refine aD fun K39 k39=>wp_region_lit (aA (aB) (aA (aC) (aA (aC) (aG (k39 _ _ ?_)))));refine wp_ret ?_;simp only[zz];try simp only[Exit.inBlock,Exit.then,if_true]
      refine kK rfl rfl rfl ?_;try simp only[zD,zE]
      exact ⟨_,rfl,m.ext,by rw [Lz hf hg hb,hmv,hcv,hm0];rfl⟩
     ·
      have hm0:=abc (by decide) hc2;obtain ⟨q,hq⟩:=Option.isSome_iff_exists.1 hm0;obtain rfl:=hme q hq;refine wp_skip (k35 _ _ ?_);refine wp_region_lit (aA (aP (m:=4) (n:=1) (r:=5) rfl rfl (by decide)) (aA (aB) (aG (aV (aD fun K40 k40=>wp_region_lit (aA (eU (m:=5) (n:=5) rfl rfl (by decide)) (aG (k40 _ _ ?_))))))));refine aD fun K41 k41=>gX rfl (wp_exit (k3 _ _ ?_));refine aD fun K42 k42=>wp_region_lit (aA (aB) ?_);simp only[zz];refine aA (dC rfl) (aA (aN (c:=0) jN rfl bB rfl rfl) ?_);simp only[zz];refine aK rfl ((m.b 0 rfl).lies1 bT rfl) ?_;simp only[zz];refine aA (aC) (aA (aC) (aG (k42 _ _ ?_)));refine wp_ret ?_;simp only[zz];try simp only[Exit.inBlock,Exit.then,if_true]
      refine kK rfl rfl rfl ?_;try simp only[zD,zE]
      exact ⟨_,rfl,m.ext,by rw [Lz hf hg hb,hmv,hcv,hq];rfl⟩
end Go.Proofs.YtfohfflkhpfjeaaGreatDoor
namespace Go.Proofs.YtfohfflkhpfjeaaGreatDoor
open Go.Proofs.Tryz
open Go.RowKit Go.Lith
set_option maxRecDepth 100000
attribute [local irreducible] wpList wpQuiet dW Code.wp
theorem aeF {a : Int} (ha : Bd 1000000 a) : iT prog 53 [W a] (.tuple #[.int .i64 (Gr a),.bool (decide (nH a))]):=by
 intro w;refine ⟨afH,?_⟩;have hX:=dI.refl w;have hla : (digs 65536 a.natAbs).length ≤ 1000000:=pK ha;obtain ⟨X,hXa⟩ : ∃ X,X = a.natAbs:=⟨_,rfl⟩
 rw [← hXa] at hla;have hXd : X < 65536 ^ (digs 65536 X).length:=by have:=iH (kM X);rwa [eR] at this
 have hdd:=kM X
 go_enter func53,ntmps53
 refine aD (fun K1 hK1=>?_);refine wp_region_lit ?_;refine lD (by simp only[cC,bL,bU,List.getD_cons_succ,List.getD_cons_zero];rfl) ?_;intro w1 g1 hE hg1 hB1;have hG1:=Nat.le_trans hX.size hg1;replace hX:=hX.trans hE;clear hE hg1;simp only[cC,bL,bU,List.getD_cons_succ,List.getD_cons_zero,List.set_cons_succ,List.set_cons_zero];refine aA (aC) ?_;simp only[cC,bL,bU,List.getD_cons_succ,List.getD_cons_zero,List.set_cons_succ,List.set_cons_zero];refine aA (aC) ?_;simp only[cC,bL,bU,List.getD_cons_succ,List.getD_cons_zero,List.set_cons_succ,List.set_cons_zero];refine aG (hK1 _ _ ?_);refine aD (fun K2 hK2=>?_);refine wp_region_lit (aK rfl (hB1.lies bZ aT rfl rfl) ?_);simp only[cC,bL,bU,List.getD_cons_succ,List.getD_cons_zero,List.set_cons_succ,List.set_cons_zero];refine aZ rfl rfl (pL _ (gY ha)) ?_;rintro v w2 hE ⟨A4,c4,rfl,hD4⟩;replace hB1:=hB1.ext hE;(try replace hD4:=hD4.ext hE);replace hX:=hX.trans hE;clear hE;rw [gN,← hXa] at hD4 ⊢;simp only[cC,bL,bU,List.getD_cons_succ,List.getD_cons_zero,List.set_cons_succ,List.set_cons_zero];refine aA (aC) ?_;simp only[cC,bL,bU,List.getD_cons_succ,List.getD_cons_zero,List.set_cons_succ,List.set_cons_zero];refine aG (hK2 _ _ ?_);refine aD (fun K3 hK3=>?_);refine aD (fun K4 hK4=>?_);refine wp_region_lit (aA (aB) ?_);simp only[cC,bL,bU,List.getD_cons_succ,List.getD_cons_zero,List.set_cons_succ,List.set_cons_zero];refine aA (aX rfl bX rfl) ?_;simp only[cC,bL,bU,List.getD_cons_succ,List.getD_cons_zero,List.set_cons_succ,List.set_cons_zero];refine aA (nZ rfl rfl) ?_;simp only[cC,bL,bU,List.getD_cons_succ,List.getD_cons_zero,List.set_cons_succ,List.set_cons_zero];refine aG (hK4 _ _ ?_);refine bW rfl (fun hc1=>?_) (fun hc1=>?_)
 ·
  have hbig : ¬ nH a:=acp hXa (by omega);refine aD (fun K5 hK5=>?_);refine wp_region_lit (aA (aC) ?_);simp only[cC,bL,bU,List.getD_cons_succ,List.getD_cons_zero,List.set_cons_succ,List.set_cons_zero];refine aA (aC) ?_;simp only[cC,bL,bU,List.getD_cons_succ,List.getD_cons_zero,List.set_cons_succ,List.set_cons_zero];refine aG (hK5 _ _ ?_);refine wp_ret ?_;try simp only[Exit.inBlock,Exit.then]
  refine kK rfl rfl rfl ?_;try simp only[List.getD_cons_succ,List.getD_cons_zero]
  exact ⟨_,rfl,hX,Bt hbig⟩
 ·
  have hl4 : (digs 65536 X).length ≤ 4:=by omega
  refine wp_skip ?_;refine hK3 _ _ (aD (fun K6 hK6=>?_));refine wp_region_lit (aA (aC) ?_);simp only[cC,bL,bU,List.getD_cons_succ,List.getD_cons_zero,List.set_cons_succ,List.set_cons_zero];refine aG (hK6 _ _ ?_);refine aD (fun K7 hK7=>?_);refine aD (fun K8 hK8=>?_);refine wp_region_lit (aA (aB) ?_);simp only[cC,bL,bU,List.getD_cons_succ,List.getD_cons_zero,List.set_cons_succ,List.set_cons_zero];refine aA (aX rfl bX rfl) ?_;simp only[cC,bL,bU,List.getD_cons_succ,List.getD_cons_zero,List.set_cons_succ,List.set_cons_zero];refine aA (eX rfl rfl (aM (by omega) (by omega))) ?_;simp only[cC,bL,bU,List.getD_cons_succ,List.getD_cons_zero,List.set_cons_succ,List.set_cons_zero];refine aA (aC) ?_;simp only[cC,bL,bU,List.getD_cons_succ,List.getD_cons_zero,List.set_cons_succ,List.set_cons_zero];refine aG (hK8 _ _ ?_);refine wp_block (bK [5,6] [15,16,17,18,19,20,21,22,23,24,25,26] (fun n vs wl=>∃ (k : Nat),vs = [.int .u64 ((val 65536 ((digs 65536 X).drop k) : Nat) : Int),.int .i64 ((k:Int) - 1)] ∧ (dI w wl) ∧ (gM wl g1 [.bool (iO a),.string (nM a)] 65) ∧ (cX wl wl.heap.size A4 (digs 65536 X).length c4 (digs 65536 X)) ∧ (k ≤ (digs 65536 X).length) ∧ (n = k)) ?_ ?_)
  ·
   rw [show (0 : Int) = ((val 65536 ((digs 65536 X).drop (digs 65536 X).length) : Nat) : Int) by rw [List.drop_length];rfl];apply Exists.intro;simp only[List.map_cons,List.map_nil,List.getD_cons_succ,List.getD_cons_zero];exact ⟨(digs 65536 X).length,rfl,hX,hB1,hD4.here,Nat.le_refl _,rfl⟩
  ·
   intro n vs wr hI u;obtain ⟨k,rfl,hX,hB1,hD4,hk,hn⟩:=hI;simp only[zu,List.set_cons_succ,List.set_cons_zero];refine aD (fun K9 hK9=>?_);refine aD (fun K10 hK10=>?_);refine wp_region_lit (aA (aB) ?_);simp only[cC,bL,bU,List.getD_cons_succ,List.getD_cons_zero,List.set_cons_succ,List.set_cons_zero];refine aA (pT rfl rfl) ?_;simp only[cC,bL,bU,List.getD_cons_succ,List.getD_cons_zero,List.set_cons_succ,List.set_cons_zero];refine aG (hK10 _ _ ?_);refine bW rfl (fun hc2=>?_) (fun hc2=>?_)
   ·
    obtain ⟨j,rfl⟩ : ∃ j,k = j + 1:=⟨k - 1,by omega⟩
    rw [show (((j + 1 : Nat) : Int) - 1) = (j : Int) by omega];obtain ⟨p,rfl,hca,hlt⟩:=hD4.get (show j < (digs 65536 X).length by omega);have hvp:=mF (B:=65536) (xs:=digs 65536 X) (k:=j + 1) (by omega) (by simp only[Nat.add_sub_cancel];omega);simp only[Nat.add_sub_cancel] at hvp;have hvl:=aaU (j:=j) hl4 hdd (by omega);obtain ⟨V,hV⟩ : ∃ V,V = val 65536 ((digs 65536 X).drop (j + 1)):=⟨_,rfl⟩
    obtain ⟨x,hx⟩ : ∃ x,x = (digs 65536 X)[j]:=⟨_,rfl⟩
    rw [← hV,← hx] at hvp;rw [← hV] at hvl;rw [← hV];rw [← hx] at hca hlt;refine wp_skip (hK9 _ _ ?_);refine aD (fun K11 hK11=>?_);refine wp_block (wp_region_lit ?_);refine aA (aB) ?_;simp only[cC,bL,bU,List.getD_cons_succ,List.getD_cons_zero,List.set_cons_succ,List.set_cons_zero];refine aA (fO rfl rfl (fF (by omega) (by omega))) ?_;simp only[cC,bL,bU,List.getD_cons_succ,List.getD_cons_zero,List.set_cons_succ,List.set_cons_zero];refine aA (aB) ?_;simp only[cC,bL,bU,List.getD_cons_succ,List.getD_cons_zero,List.set_cons_succ,List.set_cons_zero];refine aA (aB) ?_;simp only[cC,bL,bU,List.getD_cons_succ,List.getD_cons_zero,List.set_cons_succ,List.set_cons_zero];refine aA (aI bX bB rfl rfl (by omega) (by omega) (gQ (Int.toNat_natCast _))) ?_;simp only[cC,bL,bU,List.getD_cons_succ,List.getD_cons_zero,List.set_cons_succ,List.set_cons_zero];refine aK rfl (lies1 hca bT) ?_;simp only[cC,bL,bU,List.getD_cons_succ,List.getD_cons_zero,List.set_cons_succ,List.set_cons_zero];refine aA (kA oJ jM rfl (fF (by omega) (by omega))) ?_;simp only[cC,bL,bU,List.getD_cons_succ,List.getD_cons_zero,List.set_cons_succ,List.set_cons_zero];refine aA (aP rfl rfl (fF (by omega) (by omega))) ?_;simp only[cC,bL,bU,List.getD_cons_succ,List.getD_cons_zero,List.set_cons_succ,List.set_cons_zero];refine aA (aC) ?_;simp only[cC,bL,bU,List.getD_cons_succ,List.getD_cons_zero,List.set_cons_succ,List.set_cons_zero];refine aG (hK11 _ _ ?_);refine wp_region_lit (aA (aB) ?_);simp only[cC,bL,bU,List.getD_cons_succ,List.getD_cons_zero,List.set_cons_succ,List.set_cons_zero];refine aA (eX rfl rfl (aM (by omega) (by omega))) ?_;simp only[cC,bL,bU,List.getD_cons_succ,List.getD_cons_zero,List.set_cons_succ,List.set_cons_zero];refine aA (aC) ?_;simp only[cC,bL,bU,List.getD_cons_succ,List.getD_cons_zero,List.set_cons_succ,List.set_cons_zero];refine aG ?_;rw [show ((V : Int) * 65536 + (x : Int)) = ((val 65536 ((digs 65536 X).drop j) : Nat) : Int) by exact aaV hvp];simp only[Exit.inBlock,Exit.then];refine ⟨j,_,?_,rfl,?_,?_⟩
    · omega
    · simp only[zu,List.map_cons,List.map_nil,List.getD_cons_succ,List.getD_cons_zero,List.set_cons_succ,List.set_cons_zero]
    ·
     simp only[List.map_cons,List.map_nil,List.getD_cons_succ,List.getD_cons_zero];exact ⟨j,rfl,hX,hB1,hD4.here,by omega,rfl⟩
   ·
    obtain rfl : k = 0:=by omega
    have hX64:=aer hl4 hXd;refine wp_exit (hK7 _ _ ?_);refine aD (fun K12 hK12=>?_);refine aD (fun K13 hK13=>?_);simp only[List.drop_zero,eR];rcases Js hXa with ⟨h1,h2,h3,h4⟩ | ⟨h1,h2,h3⟩ | ⟨h1,h2,h3⟩ | ⟨h1,h2,h3,h4⟩
    ·
     rw [h1] at hB1;refine wp_region_lit (aA (aN (c:=0) gS rfl fM rfl rfl) ?_);simp only[cC,bL,bU,List.getD_cons_succ,List.getD_cons_zero,List.set_cons_succ,List.set_cons_zero];refine aK rfl (hB1.lies1 jV rfl) ?_;simp only[cC,bL,bU,List.getD_cons_succ,List.getD_cons_zero,List.set_cons_succ,List.set_cons_zero];refine aA (aB) ?_;simp only[cC,bL,bU,List.getD_cons_succ,List.getD_cons_zero,List.set_cons_succ,List.set_cons_zero];refine aR rfl (aA (aB) ?_);simp only[cC,bL,bU,List.getD_cons_succ,List.getD_cons_zero,List.set_cons_succ,List.set_cons_zero];refine aR rfl (aA (Pu rfl rfl (by omega)) ?_);simp only[cC,bL,bU,List.getD_cons_succ,List.getD_cons_zero,List.set_cons_succ,List.set_cons_zero];refine aA (cB rfl) ?_;simp only[cC,bL,bU,List.getD_cons_succ,List.getD_cons_zero,List.set_cons_succ,List.set_cons_zero];refine aG (hK13 _ _ ?_);refine cG rfl (aD (fun K14 hK14=>?_));refine wp_region_lit (aA (aB) ?_);simp only[cC,bL,bU,List.getD_cons_succ,List.getD_cons_zero,List.set_cons_succ,List.set_cons_zero];refine aA (Si rfl rfl) ?_;simp only[cC,bL,bU,List.getD_cons_succ,List.getD_cons_zero,List.set_cons_succ,List.set_cons_zero];refine aA (kA jM oJ rfl (Pg h2)) ?_;simp only[cC,bL,bU,List.getD_cons_succ,List.getD_cons_zero,List.set_cons_succ,List.set_cons_zero];refine aA (aC) ?_;simp only[cC,bL,bU,List.getD_cons_succ,List.getD_cons_zero,List.set_cons_succ,List.set_cons_zero];refine aA (aC) ?_;simp only[cC,bL,bU,List.getD_cons_succ,List.getD_cons_zero,List.set_cons_succ,List.set_cons_zero];refine aG (hK14 _ _ ?_);refine wp_ret ?_;try simp only[Exit.inBlock,Exit.then]
     refine kK rfl rfl rfl ?_;try simp only[List.getD_cons_succ,List.getD_cons_zero]
     exact ⟨_,rfl,hX,Du h3 h4.symm⟩
    ·
     rw [h1] at hB1;refine wp_region_lit (aA (aN (c:=0) gS rfl fM rfl rfl) ?_);simp only[cC,bL,bU,List.getD_cons_succ,List.getD_cons_zero,List.set_cons_succ,List.set_cons_zero];refine aK rfl (hB1.lies1 jV rfl) ?_;simp only[cC,bL,bU,List.getD_cons_succ,List.getD_cons_zero,List.set_cons_succ,List.set_cons_zero];refine aA (aB) ?_;simp only[cC,bL,bU,List.getD_cons_succ,List.getD_cons_zero,List.set_cons_succ,List.set_cons_zero];refine aR rfl (aA (aB) ?_);simp only[cC,bL,bU,List.getD_cons_succ,List.getD_cons_zero,List.set_cons_succ,List.set_cons_zero];refine aR rfl (aA (Pv rfl rfl (by omega)) ?_);simp only[cC,bL,bU,List.getD_cons_succ,List.getD_cons_zero,List.set_cons_succ,List.set_cons_zero];refine aA (cB rfl) ?_;simp only[cC,bL,bU,List.getD_cons_succ,List.getD_cons_zero,List.set_cons_succ,List.set_cons_zero];refine aG (hK13 _ _ ?_);refine gX rfl (wp_skip ?_);refine hK12 _ _ (aD (fun K15 hK15=>?_));refine aD (fun K16 hK16=>?_);refine wp_region_lit (aA (aB) ?_);simp only[cC,bL,bU,List.getD_cons_succ,List.getD_cons_zero,List.set_cons_succ,List.set_cons_zero];refine aA (Ke rfl rfl (by omega)) ?_;simp only[cC,bL,bU,List.getD_cons_succ,List.getD_cons_zero,List.set_cons_succ,List.set_cons_zero];refine aG (hK16 _ _ ?_);refine cG rfl (aD (fun K17 hK17=>?_));refine wp_region_lit (aA (aC) ?_);simp only[cC,bL,bU,List.getD_cons_succ,List.getD_cons_zero,List.set_cons_succ,List.set_cons_zero];refine aA (aC) ?_;simp only[cC,bL,bU,List.getD_cons_succ,List.getD_cons_zero,List.set_cons_succ,List.set_cons_zero];refine aG (hK17 _ _ ?_);refine wp_ret ?_;try simp only[Exit.inBlock,Exit.then]
     refine kK rfl rfl rfl ?_;try simp only[List.getD_cons_succ,List.getD_cons_zero]
     exact ⟨_,rfl,hX,Bt h3⟩
    ·
     rw [h1] at hB1;refine wp_region_lit (aA (aN (c:=0) gS rfl fM rfl rfl) ?_);simp only[cC,bL,bU,List.getD_cons_succ,List.getD_cons_zero,List.set_cons_succ,List.set_cons_zero];refine aK rfl (hB1.lies1 jV rfl) ?_;simp only[cC,bL,bU,List.getD_cons_succ,List.getD_cons_zero,List.set_cons_succ,List.set_cons_zero];refine aA (aB) ?_;simp only[cC,bL,bU,List.getD_cons_succ,List.getD_cons_zero,List.set_cons_succ,List.set_cons_zero];refine cD rfl ?_;simp only[cC,bL,bU,List.getD_cons_succ,List.getD_cons_zero,List.set_cons_succ,List.set_cons_zero];refine cD rfl ?_;simp only[cC,bL,bU,List.getD_cons_succ,List.getD_cons_zero,List.set_cons_succ,List.set_cons_zero];refine aA (eG rfl) ?_;simp only[cC,bL,bU,List.getD_cons_succ,List.getD_cons_zero,List.set_cons_succ,List.set_cons_zero];refine aG (hK13 _ _ ?_);refine gX rfl (wp_skip ?_);refine hK12 _ _ (aD (fun K18 hK18=>?_));refine aD (fun K19 hK19=>?_);refine wp_region_lit (aA (aB) ?_);simp only[cC,bL,bU,List.getD_cons_succ,List.getD_cons_zero,List.set_cons_succ,List.set_cons_zero];refine aA (Ke rfl rfl (by omega)) ?_;simp only[cC,bL,bU,List.getD_cons_succ,List.getD_cons_zero,List.set_cons_succ,List.set_cons_zero];refine aG (hK19 _ _ ?_);refine cG rfl (aD (fun K20 hK20=>?_));refine wp_region_lit (aA (aC) ?_);simp only[cC,bL,bU,List.getD_cons_succ,List.getD_cons_zero,List.set_cons_succ,List.set_cons_zero];refine aA (aC) ?_;simp only[cC,bL,bU,List.getD_cons_succ,List.getD_cons_zero,List.set_cons_succ,List.set_cons_zero];refine aG (hK20 _ _ ?_);refine wp_ret ?_;try simp only[Exit.inBlock,Exit.then]
     refine kK rfl rfl rfl ?_;try simp only[List.getD_cons_succ,List.getD_cons_zero]
     exact ⟨_,rfl,hX,Bt h3⟩
    ·
     rw [h1] at hB1;refine wp_region_lit (aA (aN (c:=0) gS rfl fM rfl rfl) ?_);simp only[cC,bL,bU,List.getD_cons_succ,List.getD_cons_zero,List.set_cons_succ,List.set_cons_zero];refine aK rfl (hB1.lies1 jV rfl) ?_;simp only[cC,bL,bU,List.getD_cons_succ,List.getD_cons_zero,List.set_cons_succ,List.set_cons_zero];refine aA (aB) ?_;simp only[cC,bL,bU,List.getD_cons_succ,List.getD_cons_zero,List.set_cons_succ,List.set_cons_zero];refine cD rfl ?_;simp only[cC,bL,bU,List.getD_cons_succ,List.getD_cons_zero,List.set_cons_succ,List.set_cons_zero];refine cD rfl ?_;simp only[cC,bL,bU,List.getD_cons_succ,List.getD_cons_zero,List.set_cons_succ,List.set_cons_zero];refine aA (eG rfl) ?_;simp only[cC,bL,bU,List.getD_cons_succ,List.getD_cons_zero,List.set_cons_succ,List.set_cons_zero];refine aG (hK13 _ _ ?_);refine gX rfl (wp_skip ?_);refine hK12 _ _ (aD (fun K21 hK21=>?_));refine aD (fun K22 hK22=>?_);refine wp_region_lit (aA (aB) ?_);simp only[cC,bL,bU,List.getD_cons_succ,List.getD_cons_zero,List.set_cons_succ,List.set_cons_zero];refine aA (Xx rfl rfl (by omega)) ?_;simp only[cC,bL,bU,List.getD_cons_succ,List.getD_cons_zero,List.set_cons_succ,List.set_cons_zero];refine aG (hK22 _ _ ?_);refine gX rfl (wp_skip ?_);refine hK21 _ _ (aD (fun K23 hK23=>?_));refine wp_region_lit (aA (aB) ?_);simp only[cC,bL,bU,List.getD_cons_succ,List.getD_cons_zero,List.set_cons_succ,List.set_cons_zero];refine aA (kA jM oJ rfl (aM (by omega) (by omega))) ?_;simp only[cC,bL,bU,List.getD_cons_succ,List.getD_cons_zero,List.set_cons_succ,List.set_cons_zero];refine aA (aC) ?_;simp only[cC,bL,bU,List.getD_cons_succ,List.getD_cons_zero,List.set_cons_succ,List.set_cons_zero];refine aA (aC) ?_;simp only[cC,bL,bU,List.getD_cons_succ,List.getD_cons_zero,List.set_cons_succ,List.set_cons_zero];refine aG (hK23 _ _ ?_);refine wp_ret ?_;try simp only[Exit.inBlock,Exit.then]
     refine kK rfl rfl rfl ?_;try simp only[List.getD_cons_succ,List.getD_cons_zero]
     exact ⟨_,rfl,hX,Du h3 h4.symm⟩
end Go.Proofs.YtfohfflkhpfjeaaGreatDoor
namespace Go.Proofs.YtfohfflkhpfjeaaGreatDoor
open Go.Proofs.Tryz
open Go.RowKit Go.Lith
set_option maxRecDepth 100000
attribute [local irreducible] wpList wpQuiet dW dM dK Code.wp
end Go.Proofs.YtfohfflkhpfjeaaGreatDoor
namespace Go.Proofs.YtfohfflkhpfjeaaGreatDoor
open Go.Proofs.Tryz
open Go.RowKit Go.Lith
set_option maxRecDepth 100000
attribute [local irreducible] wpList wpQuiet dW dM dK Code.wp
instance : Iw 1:=⟨by unfold nH;decide⟩
end Go.Proofs.YtfohfflkhpfjeaaGreatDoor
namespace Go.Proofs.YtfohfflkhpfjeaaGreatDoor
open Go.Proofs.Tryz
open Go.RowKit Go.Lith
set_option maxRecDepth 100000
attribute [local irreducible] wpList wpQuiet dW dM dK Code.wp
theorem abd {p q : P3} [I3 p] [I3 q] : iT prog 90 [pt p,pt q] (wv (q.sub p)):=by
 intro w;refine ⟨agh,?_⟩;have m:=cA.refl w
 go_enter func90,ntmps90
 refine aD fun K1 k1=>wp_region_lit (eD m rfl ?_);clear m;intro g1 u m;simp only[zz];refine eD m rfl ?_;clear m;intro g2 u m;simp only[zz];refine bF m Fi rfl ?_;clear m;intro g3 u m;refine aG (k1 _ _ ?_);refine aD fun K2 k2=>?_;simp only[zz];refine gR 8 [0,1,2,3,4,5,6] [⟨7,5,65,[.bool false,.string ⟨#[]⟩]⟩] aO (by kernel_rfl) (al1 ⟨_,_,_,rfl,by kernel_rfl,_,fH,rfl⟩) (ol:=?_) ?hol ?_
 case hol=>simp only[zw,zQ,zR];try rfl
 intro u e;replace m:=m.ext' e;clear e;refine fE (aN (c:=0) eH rfl bB rfl rfl) ?_;simp only[zz];refine jO rfl (fun u e=>(((m.ext' e).b 1 rfl).lies1 bT rfl)) ?_;simp only[zz];refine jB rfl rfl (uB Iw.h) (fE (aN (c:=0) eH rfl bB rfl rfl) ?_);simp only[zz];refine jO rfl (fun u e=>(((m.ext' e).b 2 rfl).lies1 bT rfl)) ?_;simp only[zz];refine jB rfl rfl (uB Iw.h) ?_;simp only[zz];refine jB rfl rfl (Lw Bw.up Bw.up) (Ch ?_);simp only[zz];refine mf1 m ?_;clear m;intro g4 u m;simp only[zJ,zK,zF,zG];refine aU m 0 rfl rfl rfl aT (eB rfl) rfl ?_;clear m;intro u m;simp only[zy,zx,bE,zF,zG,Nat.reduceAdd] at m;refine aG (k2 _ _ ?_);refine aD fun K3 k3=>?_;refine gR 8 [0,1,2,3,4,5,6] [⟨7,6,65,[.bool false,.string ⟨#[]⟩]⟩] aO (by kernel_rfl) (al1 ⟨_,_,_,rfl,by kernel_rfl,_,fH,rfl⟩) (ol:=?_) ?hol ?_
 case hol=>simp only[zw,zQ,zR];try rfl
 intro u e;replace m:=m.ext' e;clear e;refine fE (aN (c:=0) eH rfl bB rfl rfl) ?_;simp only[zz];refine jO rfl (fun u e=>(((m.ext' e).b 2 rfl).lies1 bT rfl)) ?_;simp only[zz];refine jB rfl rfl (uB Iw.h) (fE (aN (c:=0) eH rfl bB rfl rfl) ?_);simp only[zz];refine jO rfl (fun u e=>(((m.ext' e).b 3 rfl).lies1 bT rfl)) ?_;simp only[zz];refine jB rfl rfl (uB Iw.h) ?_;simp only[zz];refine jB rfl rfl (Lw Bw.up Bw.up) (Ch ?_);simp only[zz];refine mf1 m ?_;clear m;intro g5 u m;simp only[zJ,zK,zF,zG];refine aU m 0 rfl rfl rfl aT (eB rfl) rfl ?_;clear m;intro u m;simp only[zy,zx,bE,zF,zG,Nat.reduceAdd] at m;refine aG (k3 _ _ ?_);refine aD fun K4 k4=>?_;refine gR 8 [0,1,2,3,4,5,6] [⟨7,7,65,[.bool false,.string ⟨#[]⟩]⟩] aO (by kernel_rfl) (al1 ⟨_,_,_,rfl,by kernel_rfl,_,fH,rfl⟩) (ol:=?_) ?hol ?_
 case hol=>simp only[zw,zQ,zR];try rfl
 intro u e;replace m:=m.ext' e;clear e;refine fE (aN (c:=0) eH rfl bB rfl rfl) ?_;simp only[zz];refine jO rfl (fun u e=>(((m.ext' e).b 3 rfl).lies1 bT rfl)) ?_;simp only[zz];refine jB rfl rfl (uB Iw.h) (fE (aN (c:=0) eH rfl bB rfl rfl) ?_);simp only[zz];refine jO rfl (fun u e=>(((m.ext' e).b 4 rfl).lies1 bT rfl)) ?_;simp only[zz];refine jB rfl rfl (uB Iw.h) ?_;simp only[zz];refine jB rfl rfl (Lw Bw.up Bw.up) (Ch ?_);simp only[zz];refine mf1 m ?_;clear m;intro g6 u m;simp only[zJ,zK,zF,zG];refine aU m 0 rfl rfl rfl aT (eB rfl) rfl ?_;clear m;intro u m;simp only[zy,zx,bE,zF,zG,Nat.reduceAdd] at m;refine aG (k4 _ _ ?_);refine aD fun K5 k5=>wp_region_lit (aK rfl ((m.b 2 rfl).full bZ aT) ?_);simp only[zz];refine aK rfl ((m.b 1 rfl).full bZ aT) ?_;simp only[zz];refine aK rfl ((m.b 0 rfl).full bZ aT) ?_;simp only[zz];refine aA (yW rfl rfl rfl) ?_;simp only[zz];refine aU m 3 rfl rfl rfl sH (eB rfl) rfl ?_;clear m;intro u m;simp only[zy,zx,bE,zF,zG,Nat.reduceAdd] at m;refine aG (k5 _ _ ?_);refine wp_ret ?_;try simp only[Exit.inBlock,Exit.then,if_true]
 refine bM rfl ⟨_,rfl,((m.b 3 rfl).full Lc sH)⟩ ?_;try simp only[zD,zE]
 exact ⟨_,rfl,m.ext,rfl⟩
theorem Sf {u v : P3} (hu : Bv 400000 u) (hv : Bv 400000 v) : iT prog 91 [wv u,wv v] (W (u.dot v)):=by
 intro w;refine ⟨agi,?_⟩;have m:=cA.refl w
 go_enter func91,ntmps91
 refine aD fun K1 k1=>wp_region_lit (eD m rfl ?_);clear m;intro g1 u m;simp only[zz];refine eD m rfl ?_;clear m;intro g2 u m;simp only[zz];refine bF m fH rfl ?_;clear m;intro g3 u m;refine aG (k1 _ _ ?_);refine aD fun K2 k2=>?_;simp only[zz];refine gR 12 [0,1,2,3,4,5,6,7,8,9,10] [⟨11,5,65,[.bool false,.string ⟨#[]⟩]⟩] aO (by kernel_rfl) (al1 ⟨_,_,_,rfl,by kernel_rfl,_,fH,rfl⟩) (ol:=?_) ?hol ?_
 case hol=>simp only[zw,zQ,zR];try rfl
 intro u e;replace m:=m.ext' e;clear e;refine fE (aH vC aT rfl rfl (by decide) (by decide) rfl) ?_;simp only[zz];refine jO rfl (fun u e=>(((m.ext' e).b 2 rfl).lies bZ aT rfl rfl)) ?_;simp only[zz,zy,Nat.zero_add,Nat.reduceAdd,Nat.reduceMul,Int.reduceToNat];refine fE (aH vC aT rfl rfl (by decide) (by decide) rfl) ?_;simp only[zz];refine jO rfl (fun u e=>(((m.ext' e).b 1 rfl).lies bZ aT rfl rfl)) ?_;simp only[zz,zy,Nat.zero_add,Nat.reduceAdd,Nat.reduceMul,Int.reduceToNat];refine jB rfl rfl (Lx Bw.up Bw.up) (fE (aH vC aT rfl rfl (by decide) (by decide) rfl) ?_);simp only[zz];refine jO rfl (fun u e=>(((m.ext' e).b 2 rfl).lies bZ aT rfl rfl)) ?_;simp only[zz,zy,Nat.zero_add,Nat.reduceAdd,Nat.reduceMul,Int.reduceToNat];refine fE (aH vC aT rfl rfl (by decide) (by decide) rfl) ?_;simp only[zz];refine jO rfl (fun u e=>(((m.ext' e).b 1 rfl).lies bZ aT rfl rfl)) ?_;simp only[zz,zy,Nat.zero_add,Nat.reduceAdd,Nat.reduceMul,Int.reduceToNat];refine jB rfl rfl (Lx Bw.up Bw.up) ?_;simp only[zz];refine jB rfl rfl (Lv Bw.up Bw.up) (Ch ?_);simp only[zz];refine mf1 m ?_;clear m;intro g4 u m;simp only[zJ,zK,zF,zG];refine aU m 0 rfl rfl rfl aT (eB rfl) rfl ?_;clear m;intro u m;simp only[zy,zx,bE,zF,zG,Nat.reduceAdd] at m;refine aG (k2 _ _ ?_);refine aD fun K3 k3=>?_;refine gJ m 7 aO (by kernel_rfl) ?_;simp only[zy];refine ql rfl (fun u m=>((m.b 0 rfl).full bZ aT)) ?_;simp only[zz];refine aL (aH vC aT rfl rfl (by decide) (by decide) rfl) ?_;simp only[zz];refine ql rfl (fun u m=>((m.b 3 rfl).lies bZ aT rfl rfl)) ?_;simp only[zz,zy,Nat.zero_add,Nat.reduceAdd,Nat.reduceMul,Int.reduceToNat];refine aL (aH vC aT rfl rfl (by decide) (by decide) rfl) ?_;simp only[zz];refine ql rfl (fun u m=>((m.b 2 rfl).lies bZ aT rfl rfl)) ?_;simp only[zz,zy,Nat.zero_add,Nat.reduceAdd,Nat.reduceMul,Int.reduceToNat];refine tE rfl rfl (Lx Bw.up Bw.up) ?_;simp only[zz];refine tE rfl rfl (Lv Bw.up Bw.up) (dF ?_);clear m;intro u m;simp only[zz];refine aU m 1 rfl rfl rfl aT (eB rfl) rfl ?_;clear m;intro u m;simp only[zy,zx,bE,zF,zG,Nat.reduceAdd] at m;refine aG (k3 _ _ ?_);refine wp_ret ?_;try simp only[Exit.inBlock,Exit.then,if_true]
 refine bM rfl ⟨_,rfl,((m.b 1 rfl).full bZ aT)⟩ ?_;try simp only[zD,zE]
 exact ⟨_,rfl,m.ext,rfl⟩
theorem abe {p q : P3} [I3 p] [I3 q] : iT prog 48 [pt p,pt q] (W ((q.sub p).dot (q.sub p))):=by
 intro w;refine ⟨afC,?_⟩;have m:=cA.refl w
 go_enter func48,ntmps48
 refine aD fun K1 k1=>wp_region_lit (eD m rfl ?_);clear m;intro g1 u m;simp only[zz];refine eD m rfl ?_;clear m;intro g2 u m;simp only[zz];refine bF m fH rfl ?_;clear m;intro g3 u m;refine aG (k1 _ _ ?_);refine aD fun K2 k2=>wp_region_lit ?_;simp only[zz];refine aK rfl ((m.b 2 rfl).full aJ aF) ?_;simp only[zz];refine aK rfl ((m.b 1 rfl).full aJ aF) ?_;simp only[zz];refine fA m rfl rfl (abd) ?_;clear m;intro u m;simp only[zz];refine bF m Fi rfl ?_;clear m;intro g4 u m;simp only[zz];refine aU m 0 rfl rfl rfl sH (eB rfl) rfl ?_;clear m;intro u m;simp only[zy,zx,bE,zF,zG,Nat.reduceAdd] at m;refine aG (k2 _ _ ?_);refine aD fun K3 k3=>wp_region_lit (aK rfl ((m.b 0 rfl).full Lc sH) ?_);simp only[zz];refine aK rfl ((m.b 0 rfl).full Lc sH) ?_;simp only[zz];refine fA m rfl rfl (Sf Bv.of Bv.of) ?_;clear m;intro u m;simp only[zz];refine aU m 1 rfl rfl rfl aT (eB rfl) rfl ?_;clear m;intro u m;simp only[zy,zx,bE,zF,zG,Nat.reduceAdd] at m;refine aG (k3 _ _ ?_);refine wp_ret ?_;try simp only[Exit.inBlock,Exit.then,if_true]
 refine bM rfl ⟨_,rfl,((m.b 1 rfl).full bZ aT)⟩ ?_;try simp only[zD,zE]
 exact ⟨_,rfl,m.ext,rfl⟩
end Go.Proofs.YtfohfflkhpfjeaaGreatDoor
namespace Go.Proofs.YtfohfflkhpfjeaaGreatDoor
open Go.Proofs.Tryz
open Go.RowKit Go.Lith
set_option maxRecDepth 100000
attribute [local irreducible] wpList wpQuiet dW dM dK Code.wp
theorem ac9 {n : Nat} : Cg (((eL n : Nat) : Int) * ((eL n : Nat) : Int) - (n : Int)) < 0 ↔ ¬ eL n * eL n = n:=by
 have h:=(tB n).1;have h2 : ((eL n : Nat) : Int) * ((eL n : Nat) : Int) = ((eL n * eL n : Nat) : Int):=by simp
 rw [h2];generalize eL n * eL n = r at h;unfold Cg;split
 · exact ⟨fun _=>by omega,fun _=>by omega⟩
 ·
  split
  · exact ⟨fun k=>by omega,fun k=>by omega⟩
  · exact ⟨fun k=>by omega,fun k=>by omega⟩
section
variable {fs gs : List T3} {ms : List Mv}
theorem ahg (hf : cP true fs = 0) (h : cP true gs ≠ 0) : eW fs gs ms = (0,cP true gs):=by
 rw [eW,if_neg (fun k=>k hf),if_pos h]
theorem agQ (hf : cP true fs = 0) (hg : cP true gs = 0) (h : ¬ aS fs = aS gs) : eW fs gs ms = (0,30):=by
 rw [eW,if_neg (fun k=>k hf),if_neg (fun k=>k hg),if_pos h]
theorem ahh (hf : cP true fs = 0) (hg : cP true gs = 0) (hb : aS fs = aS gs) (h : iV fs gs (aS fs) = true ∨ nE fs gs (aS fs) = false) : eW fs gs ms = (0,30):=by
 rw [eW,if_neg (fun k=>k hf),if_neg (fun k=>k hg),if_neg (fun k=>k hb),if_pos h]
theorem Ty (hf : cP true fs = 0) (hg : cP true gs = 0) (hb : aS fs = aS gs) (h : ¬ (iV fs gs (aS fs) = true ∨ nE fs gs (aS fs) = false)) : eW fs gs ms = if lM fs gs ms (aS fs) = false then ((0 : Int),(31 : Int)) else if kU fs gs ms = false then ((0 : Int),(32 : Int)) else match lH ms 0 with
 | some n=>(n,(0 : Int))
 | none=>((0 : Int),(3 : Int)):=by
 rw [eW,if_neg (fun k=>k hf),if_neg (fun k=>k hg),if_neg (fun k=>k hb),if_neg h];cases lH ms 0 <;> rfl
theorem agR {x y : Bool} (h : (x || !y) = true) : x = true ∨ y = false:=by revert h;cases x <;> cases y <;> decide
theorem agS {x y : Bool} (h : (x || !y) = false) : ¬ (x = true ∨ y = false):=by revert h;cases x <;> cases y <;> decide
end
theorem nob {b : Bool} (h : (!b) = true) : b = false:=by cases b <;> revert h <;> decide
theorem agT {b : Bool} (h : (!b) = false) : b = true:=by cases b <;> revert h <;> decide
theorem abf {x y : E3} : (x.1.x = y.1.x ∧ x.1.y = y.1.y ∧ x.1.z = y.1.z ∧ x.2.x = y.2.x ∧ x.2.y = y.2.y ∧ x.2.z = y.2.z) ↔ x = y :=
 ⟨fun ⟨h1,h2,h3,h4,h5,h6⟩=>Prod.ext (P3.eq h1 h2 h3) (P3.eq h4 h5 h6),fun h=>by rw [h];exact ⟨rfl,rfl,rfl,rfl,rfl,rfl⟩⟩
theorem Ct {p q : P3} [I3 p] [I3 q] : iT prog 25 [pt p,pt q] (.tuple #[.int .i64 (Gr (nK p q)),.bool (decide (nH (nK p q)))]):=by
 intro w;refine ⟨afh,?_⟩;have m:=cA.refl w
 go_enter func25,ntmps25
 refine aD fun K1 k1=>wp_region_lit (eD m rfl ?_);clear m;intro g1 u m;simp only[zz];refine eD m rfl ?_;clear m;intro g2 u m;refine aA (aC) (aA (aC) (aG (k1 _ _ ?_)));refine aD fun K2 k2=>wp_region_lit ?_;simp only[zz];refine aK rfl ((m.b 1 rfl).full aJ aF) ?_;simp only[zz];refine aK rfl ((m.b 0 rfl).full aJ aF) ?_;simp only[zz];refine fA m rfl rfl (abe (p:=p) (q:=q)) ?_;clear m;intro u m;simp only[zz];refine bF m fH rfl ?_;clear m;intro g3 u m;simp only[zz];refine aU m 0 rfl rfl rfl aT (eB rfl) rfl ?_;clear m;intro u m;simp only[zy,zx,bE,zF,zG,Nat.reduceAdd] at m;refine aG ?_;rw [Ly] at m;refine k2 _ _ ?_;refine aD fun K3 k3=>wp_region_lit (aK rfl ((m.b 0 rfl).full bZ aT) ?_);simp only[zz];refine fA m rfl rfl (acC (a:=((oT p q : Nat) : Int)) (pS.mono (by decide)) (by omega)) ?_;clear m;intro u m;refine aA (aB) (aA (aY rfl rfl) (aA (aY rfl rfl) ?_));simp only[zz];refine bF m fH rfl ?_;clear m;intro g4 u m;simp only[zz];refine aU m 0 rfl rfl rfl aT (eB rfl) rfl ?_;clear m;intro u m;simp only[zy,zx,bE,zF,zG,Nat.reduceAdd] at m;refine aA (aC) (aG ?_);simp only[zz];rw [Int.natAbs_natCast] at m;refine k3 _ _ ?_;refine aD fun K4 k4=>aD fun K5 k5=>mq m aO (by kernel_rfl) (ql rfl (fun u m=>((m.b 0 rfl).full bZ aT)) ?_);simp only[zz];refine ql rfl (fun u m=>((m.b 0 rfl).full bZ aT)) ?_;simp only[zz];refine tE rfl rfl (Lx (a:=((eL (oT p q) : Nat) : Int)) (b:=((eL (oT p q) : Nat) : Int)) ((uC pS).mono (by decide)) ((uC pS).mono (by decide))) ?_;simp only[zz];refine ql rfl (fun u m=>((m.b 1 rfl).full bZ aT)) ?_;simp only[zz];refine tE rfl rfl (aeA (a:=((eL (oT p q) : Nat) : Int) * ((eL (oT p q) : Nat) : Int)) (b:=((oT p q : Nat) : Int)) (((uC pS).mul (uC pS)).mono (by decide)) (pS.mono (by decide))) (aL (cF rfl rfl) (dF ?_));clear m;intro u m;refine k5 _ _ ?_;simp only[zz];refine pY m 0 [] [23,24,25] (fun vs i=>vs = [] ∧ i = bI g4 [.bool (iO (nK p q)),.string (nM (nK p q))] 65) ?_ ?_
 ·
  refine bW rfl (fun hc1=>?_) (fun hc1=>?_)
  ·
   have hsq:=ac9.1 hc1;refine gJ m 3 aO (by kernel_rfl) ?_;simp only[zy];refine ql rfl (fun u m=>((m.b 0 rfl).full bZ aT)) ?_;simp only[zz];refine tE rfl rfl (uB (n:=1) (show nH 1 by unfold nH;decide)) ?_;simp only[zz];refine tE rfl rfl (Lv (a:=((eL (oT p q) : Nat) : Int)) (b:=1) ((uC pS).mono (by decide)) Bw.up) (dF ?_);clear m;intro u m;simp only[zz];refine aU m 0 rfl rfl rfl aT (eB rfl) rfl ?_;clear m;intro u m;simp only[zy,zx,bE,zF,zG,Nat.reduceAdd] at m;refine aG ?_;rw [Tv hsq] at m;simp only[Exit.inBlock,Exit.then];refine ⟨_,_,rfl,?_,m,?_⟩
   · simp only[zz,zv]
   ·
    simp only[zQ,zR,zD,zE];exact ⟨trivial,trivial⟩
  ·
   have hsq:=Classical.not_not.1 (mt ac9.2 hc1);refine wp_skip ?_;rw [Po hsq] at m;simp only[Exit.inBlock,Exit.then];refine ⟨_,_,rfl,?_,m,?_⟩
   · simp only[zz,zv]
   ·
    simp only[zQ,zR,zD,zE];exact ⟨trivial,trivial⟩
 ·
  intro vs i wr m hI u;obtain ⟨rfl,rfl⟩:=hI;simp only[zF,zG] at m;simp only[zu,zF,zG];refine k4 _ _ ?_;refine aD fun K6 k6=>wp_region_lit (aK rfl ((m.b 0 rfl).full bZ aT) ?_);simp only[zz];refine fA m rfl rfl (aeF (a:=nK p q) (Tw.mono (by decide))) ?_;clear m;intro u m;refine aA (aY rfl rfl) (aA (aY rfl rfl) (aA (aC) ?_));simp only[zz];refine aA (aC) (aG (k6 _ _ ?_));refine wp_ret ?_;simp only[zz];try simp only[Exit.inBlock,Exit.then,if_true]
  refine kK rfl rfl rfl ?_;try simp only[zD,zE]
  exact ⟨_,rfl,m.ext,rfl⟩
theorem Jz {fs gs : List T3} {ms : List Mv} {N cap N2 cap2 N3 cap3 : Nat} {A A2 A3 : Option Addr} (w : World) (hT : dZ w A N fs) (hT2 : dZ w A2 N2 gs) (hL3 : mU bP 6 w A3 N3 ms) (hN : N ≤ 300000) (hN2 : N2 ≤ 300000) (hN3 : N3 ≤ 10000000) (hI : ∀ mv ∈ ms,I3 mv.1 ∧ I3 mv.2) (hcap : N ≤ cap) (hcap2 : N2 ≤ cap2) : eK prog 24 [.slice A N cap,.slice A2 N2 cap2,.slice A3 N3 cap3] w (fun v _=>v = .tuple #[.int .i64 (eW fs gs ms).1,.int .i64 (eW fs gs ms).2]):=by
 refine ⟨afg,?_⟩;have m:=cA.refl w;have hblf : (aS fs).length ≤ 1000000:=by have h1:=qK (all:=bJ fs) (bJ fs) [];have h2:=kZ fs;have h3:=hT.len;simp only[List.length_nil] at h1;unfold aS;omega
 have hblg : (aS gs).length ≤ 1000000:=by have h1:=qK (all:=bJ gs) (bJ gs) [];have h2:=kZ gs;have h3:=hT2.len;simp only[List.length_nil] at h1;unfold aS;omega
 go_enter func24,ntmps24
 refine aD fun K1 k1=>wp_region_lit (aA (aC) (aA (aC) (aG (k1 _ _ ?_))));refine aD fun K2 k2=>wp_region_lit (aA (aB) ?_);simp only[zz];refine dY m rfl rfl (tR _ (hT.ext m.ext) (by omega)) ?_;clear m;rintro v u m rfl;refine aA (aC) (aG (k2 _ _ ?_));refine aD fun K3 k3=>aD fun K4 k4=>wp_region_lit (aA (aB) (aA (lK rfl rfl) ?_));simp only[zz];refine aG (k4 _ _ ?_);refine bW rfl (fun hc1=>?_) (fun hc1=>?_)
 ·
  refine aD fun K5 k5=>wp_region_lit (aA (aB) (aA (aC) (aA (aC) (aG (k5 _ _ ?_)))));refine wp_ret ?_;simp only[zz];try simp only[Exit.inBlock,Exit.then,if_true]
  refine kK rfl rfl rfl ?_;try simp only[zD,zE]
  exact ⟨_,rfl,m.ext,by rw [Pi hc1]⟩
 ·
  have hf : cP true fs = 0:=Classical.not_not.1 hc1;refine wp_skip (k3 _ _ ?_);refine aD fun K6 k6=>wp_region_lit (aA (aB) ?_);simp only[zz];refine dY m rfl rfl (tR _ (hT2.ext m.ext) (by omega)) ?_;clear m;rintro v u m rfl;refine aA (aC) (aG (k6 _ _ ?_));refine aD fun K7 k7=>aD fun K8 k8=>wp_region_lit (aA (aB) (aA (lK rfl rfl) ?_));simp only[zz];refine aG (k8 _ _ ?_);refine bW rfl (fun hc2=>?_) (fun hc2=>?_)
  ·
   refine aD fun K9 k9=>wp_region_lit (aA (aB) (aA (aC) (aA (aC) (aG (k9 _ _ ?_)))));refine wp_ret ?_;simp only[zz];try simp only[Exit.inBlock,Exit.then,if_true]
   refine kK rfl rfl rfl ?_;try simp only[zD,zE]
   exact ⟨_,rfl,m.ext,by rw [ahg hf hc2]⟩
  ·
   have hg : cP true gs = 0:=Classical.not_not.1 hc2;refine wp_skip (k7 _ _ ?_);refine aD fun K10 k10=>wp_region_lit (aA (aB) ?_);simp only[zz];refine aZ rfl rfl (yZ _ (hT.ext m.ext) (by omega)) ?_;rintro v u e ⟨A4,c4,n4,hn4,rfl,hN⟩;replace m:=m.newO e hN;clear e hN;subst hn4;refine aA (aC) (aG (k10 _ _ ?_));refine aD fun K11 k11=>wp_region_lit (aA (aB) ?_);simp only[zz];refine aZ rfl rfl (yZ _ (hT2.ext m.ext) (by omega)) ?_;rintro v u e ⟨A5,c5,n5,hn5,rfl,hN⟩;replace m:=m.newO e hN;clear e hN;subst hn5;refine aA (aC) (aG (k11 _ _ ?_));refine aD fun K12 k12=>aD fun K13 k13=>wp_region_lit (aA (aB) (aA (aX rfl fL rfl) ?_));simp only[zz];refine aA (aB) (aA (aX rfl fL rfl) (aA (lK rfl rfl) (aG (k13 _ _ ?_))));simp only[zz];refine bW rfl (fun hc3=>?_) (fun hc3=>?_)
   ·
    have hne : ¬ aS fs = aS gs:=fun h=>hc3 (by rw [h]);refine aD fun K14 k14=>wp_region_lit (aA (aC) (aA (aC) (aG (k14 _ _ ?_))));refine wp_ret ?_;simp only[zz];try simp only[Exit.inBlock,Exit.then,if_true]
    refine kK rfl rfl rfl ?_;try simp only[zD,zE]
    exact ⟨_,rfl,m.ext,by rw [agQ hf hg hne]⟩
   ·
    have hlen : (aS fs).length = (aS gs).length:=by omega
    refine wp_skip (k12 _ _ ?_);refine aD fun K15 k15=>aD fun K16 k16=>wp_region_lit (aA (aC) (aG (k16 _ _ ?_)));refine wp_block ?_;simp only[zz];try simp only[Nat.zero_add,Nat.reduceAdd,Nat.reduceMul,Int.reduceToNat]
    refine bK [11] [6,7,39,40,41,42,43,44,45,46,47,48,49,50,51,52,53] (fun n vs wl=>∃ (k : Nat),vs = [.int .i64 (k:Int)] ∧ cA w wl [oI 57 6 A5 (aS gs).length c5 ((aS gs).flatMap bP),oI 57 6 A4 (aS fs).length c4 ((aS fs).flatMap bP)] ∧ ((aS fs).take k = (aS gs).take k) ∧ (k ≤ (aS fs).length) ∧ (n = (aS fs).length - k)) ?_ ?_
    ·
     apply Exists.intro;simp only[zQ,zR,zD,zE];exact ⟨0,rfl,m,rfl,Nat.zero_le _,rfl⟩
    ·
     intro n vs wr hI u;clear m;obtain ⟨k,rfl,m,hpre,hk,hn⟩:=hI;simp only[zu,zF,zG];refine aD fun K17 k17=>aD fun K18 k18=>wp_region_lit (aA (aB) (aA (aB) (aA (aX rfl fL rfl) (aA (cF rfl rfl) ?_))));simp only[zz];refine aG (k18 _ _ ?_);refine bW rfl (fun hc4=>?_) (fun hc4=>?_)
     ·
      obtain ⟨e,he⟩ : ∃ e,(aS fs)[k]? = some e:=⟨_,List.getElem?_eq_getElem (by omega)⟩
      obtain ⟨e2,he2⟩ : ∃ e,(aS gs)[k]? = some e:=⟨_,List.getElem?_eq_getElem (by omega)⟩
      obtain ⟨gO,rfl⟩:=(m.o 1 rfl).some (by omega);obtain ⟨gP,rfl⟩:=(m.o 0 rfl).some (by omega);refine wp_skip (k17 _ _ ?_);refine aD fun K19 k19=>wp_block (aD fun K20 k20=>mq m aO (by kernel_rfl) (aL (aB) (aL (aB) ?_)));simp only[zz];refine aL (aI fL cJ rfl rfl (by omega) (by omega) (bV (Int.toNat_natCast _))) ?_;simp only[zz];refine ql rfl (fun u m=>(((m.o 1 rfl).at mD he).lies kP cJ)) ?_;simp only[zz];refine aL (aB) (aL (aB) ?_);simp only[zz];refine aL (aI fL cJ rfl rfl (by omega) (by omega) (bV (Int.toNat_natCast _))) ?_;simp only[zz];refine ql rfl (fun u m=>(((m.o 0 rfl).at mD he2).lies kP cJ)) ?_;simp only[zz];refine aL (Ja rfl rfl) (dF ?_);clear m;intro u m;refine k20 _ _ ?_;simp only[zz];refine bW rfl (fun hc5=>?_) (fun hc5=>?_)
      ·
       have hne : ¬ aS fs = aS gs:=fun h=>by rw [h] at he;exact hc5 (abf.2 (Option.some.inj (he.symm.trans he2)))
       refine aD fun K21 k21=>wp_region_lit (aA (aC) (aA (aC) (aG (k21 _ _ ?_))));refine wp_ret ?_;simp only[zz];try simp only[Exit.inBlock,Exit.then,if_true]
       refine kK rfl rfl rfl ?_;try simp only[zD,zE]
       exact ⟨_,rfl,m.ext,by rw [agQ hf hg hne]⟩
      ·
       have hpre2 : (aS fs).take (k + 1) = (aS gs).take (k + 1):=by rw [dO he,dO he2,hpre,abf.1 (Classical.not_not.1 hc5)]
       refine wp_skip (k19 _ _ ?_);refine wp_region_lit (aA (aB) ?_);simp only[zz];refine aA (aP rfl rfl (aM (by omega) (by omega))) (aA (aC) (aG ?_));simp only[zz];simp only[Exit.inBlock,Exit.then];refine ⟨(aS fs).length - (k + 1),_,?_,rfl,?_,?_⟩
       · omega
       · simp only[zz,zv]
       ·
        simp only[zQ,zR,zD,zE];exact ⟨k + 1,rfl,m,hpre2,by omega,rfl⟩
     ·
      have hbe : aS fs = aS gs:=by rw [List.take_of_length_le (by omega),List.take_of_length_le (by omega)] at hpre;exact hpre
      refine wp_exit (k15 _ _ ?_);refine aD fun K22 k22=>wp_region_lit (aA (aB) (aA (aB) (aA (aB) ?_)));simp only[zz];refine dY m rfl rfl (aaC _ (hT.lat.ext m.ext) (hT2.lat.ext m.ext) ((m.o 1 rfl).lat mD (by decide)) (by omega) (by omega) (by omega) hcap) ?_;clear m;rintro v u m rfl;refine aA (aC) (aG (k22 _ _ ?_));refine aD fun K23 k23=>wp_region_lit (aA (aB) (aA (aB) ?_));simp only[zz];refine aA (aB) ?_;simp only[zz];refine dY m rfl rfl (ab7 _ (hT.lat.ext m.ext) (hT2.lat.ext m.ext) ((m.o 1 rfl).lat mD (by decide)) (by omega) (by omega) (by omega) (qT hf).1 (qT hg).1) ?_;clear m;rintro v u m rfl;refine aA (aC) (aG (k23 _ _ ?_));refine aD fun K24 k24=>aD fun K25 k25=>wp_region_lit (aA (aB) (aA (aB) ?_));simp only[zz];refine fK rfl (fun hb=>aB) (fK rfl (fun hb=>eZ (bO hb rfl)) (aA (fV rfl rfl rfl) (aG (k25 _ _ ?_))));simp only[zz];refine eI rfl (fun hc6=>?_) (fun hc6=>?_)
      ·
       have hj:=agR hc6;refine aD fun K26 k26=>wp_region_lit (aA (aC) (aA (aC) (aG (k26 _ _ ?_))));refine wp_ret ?_;simp only[zz];try simp only[Exit.inBlock,Exit.then,if_true]
       refine kK rfl rfl rfl ?_;try simp only[zD,zE]
       exact ⟨_,rfl,m.ext,by rw [ahh hf hg hbe hj]⟩
      ·
       have hj:=agS hc6;refine wp_skip (k24 _ _ ?_);refine aD fun K27 k27=>wp_region_lit (aA (aB) (aA (aB) (aA (aB) (aA (aB) ?_))));simp only[zz];refine dY m rfl rfl (aaI _ (hT.lat.ext m.ext) (hT2.lat.ext m.ext) (hL3.ext m.ext) ((m.o 1 rfl).lat mD (by decide)) (by omega) (by omega) (by omega) (by omega)) ?_;clear m;rintro v u m rfl;refine aA (aC) (aG (k27 _ _ ?_));refine aD fun K28 k28=>aD fun K29 k29=>wp_region_lit (aA (aB) (aA (eZ rfl) ?_));simp only[zz];refine aG (k29 _ _ ?_);refine eI rfl (fun hc7=>?_) (fun hc7=>?_)
       ·
        have hmv:=nob hc7;refine aD fun K30 k30=>wp_region_lit (aA (aC) (aA (aC) (aG (k30 _ _ ?_))));refine wp_ret ?_;simp only[zz];try simp only[Exit.inBlock,Exit.then,if_true]
        refine kK rfl rfl rfl ?_;try simp only[zD,zE]
        exact ⟨_,rfl,m.ext,by rw [Ty hf hg hbe hj,hmv];rfl⟩
       ·
        have hmv:=agT hc7;refine wp_skip (k28 _ _ ?_);refine aD fun K31 k31=>wp_region_lit (aA (aB) (aA (aB) (aA (aB) ?_)));simp only[zz];refine dY m rfl rfl (Rq _ (hT.lat.ext m.ext) (hT2.lat.ext m.ext) (hL3.ext m.ext) (by omega) (by omega) (by omega) hcap2 (by omega)) ?_;clear m;rintro v u m rfl;refine aA (aC) (aG (k31 _ _ ?_));refine aD fun K32 k32=>aD fun K33 k33=>wp_region_lit (aA (aB) (aA (eZ rfl) ?_));simp only[zz];refine aG (k33 _ _ ?_);refine eI rfl (fun hc8=>?_) (fun hc8=>?_)
        ·
         have hcv:=nob hc8;refine aD fun K34 k34=>wp_region_lit (aA (aC) (aA (aC) (aG (k34 _ _ ?_))));refine wp_ret ?_;simp only[zz];try simp only[Exit.inBlock,Exit.then,if_true]
         refine kK rfl rfl rfl ?_;try simp only[zD,zE]
         exact ⟨_,rfl,m.ext,by rw [Ty hf hg hbe hj,hmv,hcv];rfl⟩
        ·
         have hcv:=agT hc8;refine wp_skip (k32 _ _ ?_);refine aD fun K35 k35=>wp_region_lit (aA (aC) (aG (k35 _ _ ?_)));refine aD fun K36 k36=>aD fun K37 k37=>wp_region_lit (aA (aC) (aG (k37 _ _ ?_)));refine wp_block ?_;simp only[zz];try simp only[Nat.zero_add,Nat.reduceAdd,Nat.reduceMul,Int.reduceToNat]
         refine bK [16,17] [6,7,18,19,80,81,82,83,84,85,86,87,88,89,90,91,92,93,94,95,96,97,98,99,100,101,102,103,104] (fun n vs wl=>∃ (k : Nat) (y : Int),vs = [.int .i64 y,.int .i64 (k:Int)] ∧ cA w wl [] ∧ (lH ms 0 = lH (ms.drop k) y) ∧ (k ≤ N3) ∧ (n = N3 - k)) ?_ ?_
         ·
          apply Exists.intro;simp only[zQ,zR,zD,zE];exact ⟨0,_,rfl,(m.sel [false,false]),rfl,Nat.zero_le _,rfl⟩
         ·
          intro n vs wr hI u;clear m;obtain ⟨k,y,rfl,m,hme,hk,hn⟩:=hI;simp only[zu,zF,zG];refine aD fun K38 k38=>aD fun K39 k39=>wp_region_lit (aA (aB) (aA (aB) (aA (aX rfl fP rfl) (aA (cF rfl rfl) ?_))));simp only[zz];refine aG (k39 _ _ ?_);refine bW rfl (fun hc9=>?_) (fun hc9=>?_)
          ·
           obtain ⟨mv,hmv2,a3,rfl,hrow3⟩:=hL3.get (i:=k) (by omega);haveI:=(hI mv (List.mem_of_getElem? hmv2)).1;haveI:=(hI mv (List.mem_of_getElem? hmv2)).2;refine wp_skip (k38 _ _ ?_);refine aD fun K40 k40=>wp_block (aD fun K41 k41=>mq m aO (by kernel_rfl) (aL (aB) (aL (aB) ?_)));simp only[zz];refine aL (aI fP dB rfl rfl (by omega) (by omega) (bV (Int.toNat_natCast _))) (aL (aN (c:=2) iY rfl aF rfl rfl) ?_);simp only[zz];refine ql rfl (fun u m=>((rS (hrow3.ext m.ext)).lies aJ aF)) ?_;simp only[zz];refine aL (aB) (aL (aB) ?_);simp only[zz];refine aL (aI fP dB rfl rfl (by omega) (by omega) (bV (Int.toNat_natCast _))) (aL (aN (c:=2) iY rfl aF rfl rfl) ?_);simp only[zz];refine ql rfl (fun u m=>((vQ (hrow3.ext m.ext)).lies aJ aF)) ?_;simp only[zz];refine tE rfl rfl (Ct (p:=mv.1) (q:=mv.2)) (aL (aB) (aL (aY rfl rfl) (aL (aY rfl rfl) ?_)));simp only[zz];refine aL (aC) (aL (aC) (dF ?_));clear m;intro u m;refine k41 _ _ ?_;refine aD fun K42 k42=>aD fun K43 k43=>wp_region_lit (aA (aB) (aA (eZ rfl) ?_));simp only[zz];refine aG (k43 _ _ ?_);refine eI rfl (fun hc10=>?_) (fun hc10=>?_)
           ·
            have hc3 : ¬ nH (nK mv.1 mv.2):=by simpa using hc10
            have hno:=Tx hmv2 hme hc3;refine aD fun K44 k44=>wp_region_lit (aA (aC) (aA (aC) (aG (k44 _ _ ?_))));refine wp_ret ?_;simp only[zz];try simp only[Exit.inBlock,Exit.then,if_true]
            refine kK rfl rfl rfl ?_;try simp only[zD,zE]
            exact ⟨_,rfl,m.ext,by rw [Ty hf hg hbe hj,hmv,hcv,hno];rfl⟩
           ·
            have hc3 : nH (nK mv.1 mv.2):=by simpa using hc10
            have hme2:=Pp hmv2 hme hc3;refine wp_skip (k42 _ _ ?_);rw [Gr,if_pos hc3];refine wp_region_lit (aA (aB) (aA (aB) (aA (acL rfl rfl (Tu _ _)) (aA (aC) ?_))));simp only[zz];refine aG (k40 _ _ ?_);refine wp_region_lit (aA (aB) ?_);simp only[zz];refine aA (aP rfl rfl (aM (by omega) (by omega))) (aA (aC) (aG ?_));simp only[zz];simp only[Exit.inBlock,Exit.then];refine ⟨N3 - (k + 1),_,?_,rfl,?_,?_⟩
            · omega
            · simp only[zz,zv]
            ·
             simp only[zQ,zR,zD,zE];exact ⟨k + 1,_,rfl,m,hme2,by omega,rfl⟩
          ·
           rw [List.drop_of_length_le (by rw [hL3.len];omega)] at hme;refine wp_exit (k36 _ _ ?_);refine aD fun K45 k45=>wp_region_lit (aA (aB) (aA (aC) (aA (aC) (aG (k45 _ _ ?_)))));refine wp_ret ?_;simp only[zz];try simp only[Exit.inBlock,Exit.then,if_true]
           refine kK rfl rfl rfl ?_;try simp only[zD,zE]
           exact ⟨_,rfl,m.ext,by rw [Ty hf hg hbe hj,hmv,hcv,hme];rfl⟩
theorem qU {fs gs : List T3} {ms : List Mv} {N cap N2 cap2 N3 cap3 : Nat} {A A2 A3 : Option Addr} (w : World) (hT : dZ w A N fs) (hT2 : dZ w A2 N2 gs) (hL3 : mU bP 6 w A3 N3 ms) (hN : N ≤ 300000) (hN2 : N2 ≤ 300000) (hN3 : N3 ≤ 10000000) (hI : ∀ mv ∈ ms,I3 mv.1 ∧ I3 mv.2) (hcap : N ≤ cap) (hcap2 : N2 ≤ cap2) : eK prog 13 [.slice A N cap,.slice A2 N2 cap2,.slice A3 N3 cap3] w (fun v _=>v = .bool true):=by
 refine ⟨ae6,?_⟩;have m:=cA.refl w
 go_enter func13,ntmps13
 refine aD fun K1 k1=>wp_region_lit (aA (aC) (aG (k1 _ _ ?_)));refine aD fun K2 k2=>wp_region_lit (aA (aB) (aA (aB) (aA (aB) ?_)));simp only[zz];refine dY m rfl rfl (nW _ (hT.ext m.ext) (hT2.ext m.ext) (hL3.ext m.ext) hN hN2 hN3 hI) ?_;clear m;rintro v u m rfl;refine aA (aB) (aA (aY rfl rfl) (aA (aY rfl rfl) ?_));simp only[zz];refine aA (aC) (aA (aC) (aG (k2 _ _ ?_)));refine aD fun K3 k3=>wp_region_lit (aA (aB) (aA (aB) ?_));simp only[zz];refine aA (aB) ?_;simp only[zz];refine dY m rfl rfl (Jz _ (hT.ext m.ext) (hT2.ext m.ext) (hL3.ext m.ext) hN hN2 hN3 hI hcap hcap2) ?_;clear m;rintro v u m rfl;refine aA (aB) (aA (aY rfl rfl) (aA (aY rfl rfl) ?_));simp only[zz];refine aA (aC) (aA (aC) (aG (k3 _ _ ?_)));refine aD fun K4 k4=>wp_region_lit (aA (aB) (aA (aB) ?_));simp only[zz];refine aA (iG rfl rfl) (aA (aB) (cU rfl (fun hb=>aB) (cU rfl (fun hb=>aB) ?_)));simp only[zz];refine cU rfl (fun hb=>iG (bO hb rfl) (bO hb rfl)) (aA (cL rfl rfl rfl) (aA (aC) (aG (k4 _ _ ?_))));refine wp_ret ?_;simp only[zz];try simp only[Exit.inBlock,Exit.then,if_true]
 refine bM rfl rfl ?_;try simp only[zD,zE]
 exact ⟨_,rfl,m.ext,by simp⟩
end Go.Proofs.YtfohfflkhpfjeaaGreatDoor
namespace Go.Lith
open Go.RowKit
/-! ### Edges of a list in which triangles are changed -/
section
variable {p : P3} {X : E3 → Prop} {old new R fine fine' : List T3}
end
/-! ### The two kinds of division -/
end Go.Lith
namespace Go.Lith
open Go.RowKit
/-! ### Images -/
section
variable {l fine fine' R : List T3} {ms : List Mv} {B B' : Int} {p : P3}
end
end Go.Lith
namespace Go.Lith
open Go.RowKit
end Go.Lith
namespace Go.Lith
open Go.RowKit
structure Q4 where
 a : Int
 b : Int
 c : Int
 d : Int
def q4C (q : Q4) : List Value:=[.int .i64 q.a,.int .i64 q.b,.int .i64 q.c,.int .i64 q.d]
class IQ (q : Q4) : Prop where
 a : nH q.a
 b : nH q.b
 c : nH q.c
 d : nH q.d
def aeG (i : Nat) (q : Q4) : P3:=⟨100 + 50 * (i : Int) + q.b % 40,q.b.tdiv 40 % 200,q.c % 300 - 50⟩
def Ka (i : Nat) (p : P3) : Prop:=100 + 50 * (i : Int) ≤ p.x ∧ p.x < 150 + 50 * (i : Int) ∧ 0 ≤ p.y ∧ p.y < 200 ∧ -50 ≤ p.z ∧ p.z < 250
theorem acF (i : Nat) (q : Q4) : Ka i (aeG i q):=by
 have h1:=oX (n:=q.b) (m:=40) (by decide);have h2:=oX (n:=q.b.tdiv 40) (m:=200) (by decide);have h3:=oX (n:=q.c) (m:=300) (by decide);refine ⟨?_,?_,?_,?_,?_,?_⟩ <;> (simp only[aeG];omega)
theorem abg {z : Int} (h : nH z) : IntKind.i64.wrap (z.tdiv 40) = z.tdiv 40 ∧ nH (z.tdiv 40):=by
 obtain ⟨h1,h2⟩:=h;have hb : -9223372036854775808 ≤ z.tdiv 40 ∧ z.tdiv 40 < 9223372036854775808:=by
  rcases Int.le_total 0 z with hz | hz
  · rw [Int.tdiv_eq_ediv_of_nonneg hz];omega
  · have e : z.tdiv 40 = -((-z) / 40):=by
     rw [← Int.tdiv_eq_ediv_of_nonneg (show 0 ≤ -z by omega),Int.neg_tdiv,Int.neg_neg]
    rw [e];omega
 exact ⟨aM (by omega) (by omega),⟨by omega,by omega⟩⟩
def jY (e x a b : P3) : P3:=if x ≠ a ∧ x ≠ b then x else e
def xY (o : T3) (a b : P3) : P3:=jY (jY (jY (o.cor 0) (o.cor 0) a b) (o.cor 1) a b) (o.cor 2) a b
theorem abh {e x a b : P3} (h : (decide (¬ (x.x = a.x ∧ x.y = a.y ∧ x.z = a.z)) && decide (¬ (x.x = b.x ∧ x.y = b.y ∧ x.z = b.z))) = true) : jY e x a b = x:=by
 simp only[gK,Bool.and_eq_true,decide_eq_true_eq] at h;exact if_pos h
theorem abi {e x a b : P3} (h : (decide (¬ (x.x = a.x ∧ x.y = a.y ∧ x.z = a.z)) && decide (¬ (x.x = b.x ∧ x.y = b.y ∧ x.z = b.z))) = false) : jY e x a b = e:=by
 refine if_neg fun k=>?_;simp only[gK] at h;rw [decide_eq_true k.1,decide_eq_true k.2] at h;cases h
inductive aeH (rim : List E3) (i : Nat) (us : List T3) (ms : List Mv) : List T3 → List Mv → Prop
 | tri (k : Nat) (t : T3) (c : Nat) (p : P3) (ht : us[k]? = some t) (hc : c < 3) (hp : Ka i p) :
  aeH rim i us ms (us.set k ⟨t.cor c,t.cor ((c + 1) % 3),p⟩ ++ [⟨t.cor ((c + 1) % 3),t.cor ((c + 2) % 3),p⟩,⟨t.cor ((c + 2) % 3),t.cor c,p⟩]) (ms ++ [(p,lL ms (t.cor c))])
 | edge (k j : Nat) (t o : T3) (x : P3) (c : Nat) (p : P3) (ht : us[k]? = some t) (hc : c < 3) (ho : us[j]? = some o) (hx : o.fnd (t.cor ((c + 1) % 3)) (t.cor c) = some x)
  (hb : ¬ (Aa rim (t.cor c) = true ∧ Aa rim (t.cor ((c + 1) % 3)) = true)) (hp : Ka i p) :
  aeH rim i us ms (((us.set k ⟨t.cor c,p,t.cor ((c + 2) % 3)⟩).set j ⟨t.cor ((c + 1) % 3),p,xY o (t.cor c) (t.cor ((c + 1) % 3))⟩) ++ [⟨p,t.cor ((c + 1) % 3),t.cor ((c + 2) % 3)⟩,⟨p,t.cor c,xY o (t.cor c) (t.cor ((c + 1) % 3))⟩]) (ms ++ [(p,lL ms (t.cor c))])
inductive Bz (rim : List E3) (l : List T3) : Nat → List T3 → List Mv → Prop
 | nil : Bz rim l 0 l []
 | step {i : Nat} {us us' : List T3} {ms ms' : List Mv} (h : Bz rim l i us ms) (s : aeH rim i us ms us' ms') : Bz rim l (i + 1) us' ms'
theorem Bz.len {rim : List E3} {l us : List T3} {i : Nat} {ms : List Mv} (h : Bz rim l i us ms) : us.length = l.length + 2 * i ∧ ms.length = i:=by
 induction h with
 | nil=>exact ⟨rfl,rfl⟩
 | step h s ih=>cases s <;> (simp only[List.length_append,List.length_set,List.length_cons,List.length_nil];omega)
def xZ (l : List T3) (i : Nat) (x : P3) : Prop:=x ∈ dN l ∨ ∃ j,j < i ∧ Ka j x
theorem nX {ts : List T3} {x : P3} : x ∈ dN ts ↔ ∃ t ∈ ts,x = t.cor 0 ∨ x = t.cor 1 ∨ x = t.cor 2:=by
 unfold dN;rw [List.mem_flatMap];exact exists_congr fun t=>and_congr Iff.rfl (by simp [T3.cor])
theorem nY {ts : List T3} {k c : Nat} {t : T3} (h : ts[k]? = some t) (hc : c < 3) : t.cor c ∈ dN ts:=by
 refine nX.2 ⟨t,List.mem_of_getElem? h,?_⟩;obtain rfl | rfl | rfl : c = 0 ∨ c = 1 ∨ c = 2:=by omega
 · exact .inl rfl
 · exact .inr (.inl rfl)
 · exact .inr (.inr rfl)
theorem acG (o : T3) (a b : P3) : ∃ c,c < 3 ∧ xY o a b = o.cor c:=by
 have h0 : ∃ c,c < 3 ∧ jY (o.cor 0) (o.cor 0) a b = o.cor c:=⟨0,by decide,by unfold jY;split <;> rfl⟩
 obtain ⟨c,hc,e⟩:=h0;have h1 : ∃ c,c < 3 ∧ jY (jY (o.cor 0) (o.cor 0) a b) (o.cor 1) a b = o.cor c:=by
  rw [e];unfold jY;split
  · exact ⟨1,by decide,rfl⟩
  · exact ⟨c,hc,rfl⟩
 obtain ⟨c,hc,e⟩:=h1;unfold xY;rw [e];unfold jY;split
 · exact ⟨2,by decide,rfl⟩
 · exact ⟨c,hc,rfl⟩
theorem Hb {ts : List T3} {k : Nat} {u : T3} {x : P3} (h : x ∈ dN (ts.set k u)) : x ∈ dN ts ∨ x = u.a ∨ x = u.b ∨ x = u.c:=by
 obtain ⟨t,ht,hx⟩:=nX.1 h;rcases List.mem_or_eq_of_mem_set ht with h | rfl
 · exact .inl (nX.2 ⟨t,h,hx⟩)
 · exact .inr hx
theorem Pq {ts us : List T3} {x : P3} : x ∈ dN (ts ++ us) ↔ x ∈ dN ts ∨ x ∈ dN us:=by unfold dN;rw [List.flatMap_append,List.mem_append]
theorem Bz.pts {rim : List E3} {l us : List T3} {i : Nat} {ms : List Mv} (h : Bz rim l i us ms) : (∀ x ∈ dN us,xZ l i x) ∧ ∀ m ∈ ms,xZ l i m.1 ∧ xZ l i m.2:=by
 induction h with
 | nil=>exact ⟨fun x h=>.inl h,fun m h=>by cases h⟩
 | @step i us us' ms ms' h s ih =>
  obtain ⟨h1,h2⟩:=ih;have up : ∀ x,xZ l i x → xZ l (i + 1) x:=fun x h=>h.elim .inl fun ⟨j,hj,hx⟩=>.inr ⟨j,by omega,hx⟩;have img : ∀ (ms : List Mv) (x : P3),(∀ m ∈ ms,xZ l i m.2) → xZ l i x → xZ l i (lL ms x):=by
   intro ms
   induction ms with
   | nil=>intro x _ h;exact h
   | cons m ms ih =>
    intro x hm hx;unfold lL;split
    · exact hm m (List.mem_cons_self ..)
    · exact ih x (fun m h=>hm m (List.mem_cons_of_mem _ h)) hx
  have mv : ∀ p a,Ka i p → xZ l i a → ∀ m ∈ ms ++ [(p,lL ms a)],xZ l (i + 1) m.1 ∧ xZ l (i + 1) m.2:=fun p a hp ha m hm=>by
   rcases List.mem_append.1 hm with hm | hm
   · exact ⟨up _ (h2 m hm).1,up _ (h2 m hm).2⟩
   · obtain rfl:=List.mem_singleton.1 hm
     exact ⟨.inr ⟨i,by omega,hp⟩,up _ (img ms a (fun m hm=>(h2 m hm).2) ha)⟩
  cases s with
  | tri k t c p ht hc hp =>
   have ha:=h1 _ (nY ht hc);have hb:=h1 _ (nY ht (show (c + 1) % 3 < 3 by omega));have hd:=h1 _ (nY ht (show (c + 2) % 3 < 3 by omega));refine ⟨fun x hx=>?_,mv p _ hp ha⟩;have hpp : xZ l (i + 1) p:=.inr ⟨i,by omega,hp⟩;rcases Pq.1 hx with hx | hx
   · rcases Hb hx with hx | rfl | rfl | rfl
     · exact up _ (h1 x hx)
     · exact up _ ha
     · exact up _ hb
     · exact hpp
   · simp only[dN,List.flatMap_cons,List.flatMap_nil,List.append_nil,List.mem_append,List.mem_cons,List.not_mem_nil,or_false] at hx
     rcases hx with (rfl | rfl | rfl) | rfl | rfl | rfl
     · exact up _ hb
     · exact up _ hd
     · exact hpp
     · exact up _ hd
     · exact up _ ha
     · exact hpp
  | edge k j t o x0 c p ht hc ho hx0 hb0 hp =>
   have ha:=h1 _ (nY ht hc);have hb:=h1 _ (nY ht (show (c + 1) % 3 < 3 by omega));have hd:=h1 _ (nY ht (show (c + 2) % 3 < 3 by omega));obtain ⟨c2,hc2,e2⟩:=acG o (t.cor c) (t.cor ((c + 1) % 3));have he:=h1 _ (nY ho hc2);rw [e2];refine ⟨fun x hx=>?_,mv p _ hp ha⟩;have hpp : xZ l (i + 1) p:=.inr ⟨i,by omega,hp⟩;rcases Pq.1 hx with hx | hx
   · rcases Hb hx with hx | rfl | rfl | rfl
     · rcases Hb hx with hx | rfl | rfl | rfl
       · exact up _ (h1 x hx)
       · exact up _ ha
       · exact hpp
       · exact up _ hd
     · exact up _ hb
     · exact hpp
     · exact up _ he
   · simp only[dN,List.flatMap_cons,List.flatMap_nil,List.append_nil,List.mem_append,List.mem_cons,List.not_mem_nil,or_false] at hx
     rcases hx with (rfl | rfl | rfl) | rfl | rfl | rfl
     · exact hpp
     · exact up _ hb
     · exact up _ hd
     · exact hpp
     · exact up _ ha
     · exact up _ he
def Hw (x : P3) : Prop:=-2000000 ≤ x.x ∧ x.x ≤ 2000000 ∧ -1000000 ≤ x.y ∧ x.y ≤ 1000000 ∧ -1000000 ≤ x.z ∧ x.z ≤ 1000000
theorem Hw.i3 {x : P3} (h : Hw x) : I3 x:=by
 obtain ⟨h1,h2,h3,h4,h5,h6⟩:=h;exact ⟨⟨by omega,by omega⟩,⟨by omega,by omega⟩,⟨by omega,by omega⟩⟩
theorem xZ.mid {l : List T3} {i : Nat} {x : P3} (hl : ∀ x ∈ dN l,Hw x) (hi : i ≤ 100) (h : xZ l i x) : Hw x:=by
 rcases h with h | ⟨j,hj,h1,h2,h3,h4,h5,h6⟩
 · exact hl x h
 · exact ⟨by omega,by omega,by omega,by omega,by omega,by omega⟩
theorem agU {ts : List T3} (h : ∀ x ∈ dN ts,I3 x) : ∀ t ∈ ts,IT t:=fun t ht =>
 ⟨h _ (nX.2 ⟨t,ht,.inl rfl⟩),h _ (nX.2 ⟨t,ht,.inr (.inl rfl)⟩),h _ (nX.2 ⟨t,ht,.inr (.inr rfl)⟩)⟩
theorem abj {ts : List T3} (h : ∀ t ∈ ts,SmT 200 t) : ∀ x ∈ dN ts,Hw x:=fun x hx=>by
 obtain ⟨t,ht,hx⟩:=nX.1 hx;have key : ∀ y,Sm 200 y → Hw y:=fun y ⟨⟨h1,h2⟩,⟨h3,h4⟩,h5,h6⟩=>⟨by omega,by omega,by omega,by omega,by omega,by omega⟩
 rcases hx with rfl | rfl | rfl
 · exact key _ (h t ht).1
 · exact key _ (h t ht).2.1
 · exact key _ (h t ht).2.2
end Go.Lith
namespace Go.Proofs.YtfohfflkhpfjeaaGreatDoor
open Go.Proofs.Tryz
open Go.RowKit Go.Lith
set_option maxRecDepth 100000
attribute [local irreducible] wpList wpQuiet dW dM dK Code.wp
theorem An {n k : Int} [Iw n] (h0 : 0 < k) (h1 : k < 4611686018427387904) : iT prog 29 [.int .i64 n,.int .i64 k] (.int .i64 (n % k)):=by
 intro w;refine ⟨afj,?_⟩;have m:=cA.refl w;have hb:=Zg (n:=n) h0
 go_enter func29,ntmps29
 refine aD fun K1 k1=>wp_region_lit (aA (aC) (aG (k1 _ _ ?_)));refine aD fun K2 k2=>wp_region_lit (aA (aB) (aA (aB) ?_));simp only[zz];refine aA (dJ rfl rfl (by omega) rfl) (aA (aB) ?_);simp only[zz];refine aA (aP rfl rfl (aM (by omega) (by omega))) (aA (aB) ?_);simp only[zz];refine aA (dJ rfl rfl (by omega) (Ss h0)) (aA (aC) (aG (k2 _ _ ?_)));refine wp_ret ?_;simp only[zz];try simp only[Exit.inBlock,Exit.then,if_true]
 refine bM rfl rfl ?_;try simp only[zD,zE]
 exact ⟨_,rfl,m.ext,rfl⟩
theorem lI {n k : Int} [Iw n] (h0 : 0 < k) (h1 : k < 4611686018427387904) : iT prog 21 [.int .i64 n,.int .i64 k] (.int .i64 (n % k)):=by
 intro w;refine ⟨afd,?_⟩;have m:=cA.refl w;have hb:=Zg (n:=n) h0
 go_enter func21,ntmps21
 refine aD fun K1 k1=>wp_region_lit (aA (aC) (aG (k1 _ _ ?_)));refine aD fun K2 k2=>wp_region_lit (aA (aB) (aA (aB) ?_));simp only[zz];refine aA (dJ rfl rfl (by omega) rfl) (aA (aB) ?_);simp only[zz];refine aA (aP rfl rfl (aM (by omega) (by omega))) (aA (aB) ?_);simp only[zz];refine aA (dJ rfl rfl (by omega) (Ss h0)) (aA (aC) (aG (k2 _ _ ?_)));refine wp_ret ?_;simp only[zz];try simp only[Exit.inBlock,Exit.then,if_true]
 refine bM rfl rfl ?_;try simp only[zD,zE]
 exact ⟨_,rfl,m.ext,rfl⟩
theorem Ma {x y N cap : Nat} {A : Option Addr} {zs : List Int} (w : World) (hZ : nQ w A N zs) (hx : x ≤ 6) (hy : y ≤ 6) : eK prog 84 [.int .i64 (x : Int),.int .i64 (y : Int),.int .i64 10,.slice A N cap] w (fun v _=>v = pt (pD 10 zs x y)):=by
 refine ⟨aga,?_⟩;have m:=cA.refl w
 go_enter func84,ntmps84
 refine aD fun K1 k1=>wp_region_lit (bF m bR rfl ?_);clear m;intro g1 u m;refine aG (k1 _ _ ?_);refine aD fun K2 k2=>wp_region_lit (aA (aC) (aG (k2 _ _ ?_)));refine aD fun K3 k3=>aD fun K4 k4=>wp_region_lit (aA (aB) (aA (aX rfl bX rfl) ?_));simp only[zz];refine aA (nZ rfl rfl) (aG (k4 _ _ ?_));simp only[zz];refine bW rfl (fun hc1=>?_) (fun hc1=>?_)
 ·
  have hi : (y * 7 + x) % N < N:=Nat.mod_lt _ (by omega);obtain ⟨z,hz,hzI,a,rfl,hcell⟩:=hZ.get hi;have hz6:=oX (n:=z) (m:=64) (by decide);refine wp_region_lit (aA (aB) (aA (aB) ?_));simp only[zz];refine aA (fO rfl rfl (aM (by omega) (by omega))) (aA (aB) ?_);simp only[zz];refine aA (aP rfl rfl (aM (by omega) (by omega))) (aA (aB) (aA (aX rfl bX rfl) ?_));simp only[zz];refine aA (dJ rfl rfl (by omega) (Io (k:=y * 7 + x))) (aA (aI bX bB rfl rfl (Int.natCast_nonneg _) (Int.ofNat_lt.2 hi) (gQ (Int.toNat_natCast _))) ?_);simp only[zz];refine aK rfl (lies1 (m.ext.cell hcell) bT) ?_;simp only[zz];refine fA m rfl rfl (An (n:=z) (k:=64) (by decide) (by decide)) ?_;clear m;intro u m;refine aA (aC) (aG (k3 _ _ ?_));refine aD fun K5 k5=>wp_region_lit (aA (aB) (aA (aB) ?_));simp only[zz];refine aA (fO rfl rfl (aM (by omega) (by omega))) (aA (aB) (aA (aB) ?_));simp only[zz];refine aA (fO rfl rfl (aM (by omega) (by omega))) (aA (aB) ?_);simp only[zz];refine aA (aP rfl rfl (aM (by omega) (by omega))) (aA (dR rfl rfl rfl) ?_);simp only[zz];refine aU m 0 rfl rfl rfl aF (eB rfl) rfl ?_;clear m;intro u m;simp only[zy,zx,bE,zF,zG,Nat.reduceAdd] at m;refine aG (k5 _ _ ?_);refine wp_ret ?_;try simp only[Exit.inBlock,Exit.then,if_true]
  refine bM rfl ⟨_,rfl,((m.b 0 rfl).full aJ aF)⟩ ?_;try simp only[zD,zE]
  exact ⟨_,rfl,m.ext,by simp only[pt,pD,Zi hZ.len hz]⟩
 ·
  refine wp_skip (k3 _ _ ?_);refine aD fun K6 k6=>wp_region_lit (aA (aB) (aA (aB) ?_));simp only[zz];refine aA (fO rfl rfl (aM (by omega) (by omega))) (aA (aB) (aA (aB) ?_));simp only[zz];refine aA (fO rfl rfl (aM (by omega) (by omega))) (aA (aB) (aA (aP (m:=100) (n:=0) (r:=100) rfl rfl (by decide)) (aA (dR rfl rfl rfl) ?_)));simp only[zz];refine aU m 0 rfl rfl rfl aF (eB rfl) rfl ?_;clear m;intro u m;simp only[zy,zx,bE,zF,zG,Nat.reduceAdd] at m;refine aG (k6 _ _ ?_);refine wp_ret ?_;try simp only[Exit.inBlock,Exit.then,if_true]
  refine bM rfl ⟨_,rfl,((m.b 0 rfl).full aJ aF)⟩ ?_;try simp only[zD,zE]
  exact ⟨_,rfl,m.ext,by simp [pt,pD,abM hZ.len hc1]⟩
theorem yA {a b c d : P3} (w : World) : eK prog 85 [pt a,pt b,pt c,pt d] w (TS 53 (uH a b c d) w):=by
 refine ⟨agb,?_⟩;have m:=cA.refl w
 go_enter func85,ntmps85
 refine aD fun K1 k1=>wp_region_lit (eD m rfl ?_);clear m;intro g1 u m;simp only[zz];refine eD m rfl ?_;clear m;intro g2 u m;simp only[zz];refine eD m rfl ?_;clear m;intro g3 u m;simp only[zz];refine eD m rfl ?_;clear m;intro g4 u m;refine aA (aC) (aG (k1 _ _ ?_));refine aD fun K2 k2=>wp_region_lit ?_;simp only[zz];refine aK rfl ((m.b 3 rfl).full aJ aF) ?_;simp only[zz];refine aK rfl ((m.b 2 rfl).full aJ aF) ?_;simp only[zz];refine aK rfl ((m.b 1 rfl).full aJ aF) ?_;simp only[zz];refine aA (bN rfl rfl rfl) ?_;simp only[zz];refine aK rfl ((m.b 3 rfl).full aJ aF) ?_;simp only[zz];refine aK rfl ((m.b 1 rfl).full aJ aF) ?_;simp only[zz];refine aK rfl ((m.b 0 rfl).full aJ aF) ?_;simp only[zz];refine aA (bN rfl rfl rfl) ?_;simp only[zz];refine wI rfl rfl ?_;intro u g5 e hg hB;replace m:=m.newB e hg hB;clear e hg hB;refine aA (aC) (aG (k2 _ _ ?_));refine wp_ret ?_;simp only[zz];try simp only[Exit.inBlock,Exit.then,if_true]
 refine bM rfl rfl ?_;try simp only[zD,zE]
 exact ⟨_,rfl,m.ext,⟨_,_,_,rfl,rfl,m.bo 0 rfl rfl (eB rfl)⟩⟩
theorem acH {n0 : Int} [Iw n0] {N cap : Nat} {A : Option Addr} {zs : List Int} (w : World) (hZ : nQ w A N zs) : eK prog 43 [.int .i64 n0,.int .i64 10,.slice A N cap] w (TS 53 (Ba 10 zs (1 + n0 % 6).toNat) w):=by
 refine ⟨afx,?_⟩;have m:=cA.refl w;have hb:=oX (n:=n0) (m:=6) (by decide);obtain ⟨q,hq⟩ : ∃ q : Nat,q = (1 + n0 % 6).toNat:=⟨_,rfl⟩
 rw [← hq];have hq2 : 1 + n0 % 6 = (q : Int):=by omega
 go_enter func43,ntmps43
 refine aD fun K1 k1=>wp_region_lit (aA (aC) (aG (k1 _ _ ?_)));refine aD fun K2 k2=>wp_region_lit (aA (aB) ?_);simp only[zz];refine fA m rfl rfl (An (n:=n0) (k:=6) (by decide) (by decide)) ?_;clear m;intro u m;simp only[zz];refine aA (aP rfl rfl (aM (by omega) (by omega))) (aA (aC) (aG ?_));simp only[zz];rw [hq2];refine k2 _ _ ?_;refine aD fun K3 k3=>wp_region_lit (aA (aC) ?_);replace m:=m.nilO 53 9;refine aG (k3 _ _ ?_);refine aD fun K4 k4=>aD fun K5 k5=>wp_region_lit (aA (aC) (aG (k5 _ _ ?_)));refine wp_block ?_;simp only[zz];try simp only[Nat.zero_add,Nat.reduceAdd,Nat.reduceMul,Int.reduceToNat]
 refine bK [7,8] [9,10,11,12,13,17,18,19,20,21,22,23,24,25,26,27,28,29,30,31,32,33,34,35,36,37,38,39,40,41,42,43,44,45,46,47,48,49,50,51,52,53,54,55,56,57] (fun n vs wl=>∃ (A1 : Option Addr) (cap1 y : Nat),vs = [.slice A1 (fR 10 zs q (y) (0)).length cap1,.int .i64 (y:Int)] ∧ cA w wl [oI 53 9 A1 (fR 10 zs q (y) (0)).length cap1 ((fR 10 zs q (y) (0)).flatMap aW)] ∧ (y ≤ q) ∧ (n = q - y)) ?_ ?_
 ·
  apply Exists.intro;simp only[zQ,zR,zD,zE];exact ⟨none,0,0,rfl,m,Nat.zero_le _,rfl⟩
 ·
  intro n vs wr hI u;clear m;obtain ⟨A1,cap1,y,rfl,m,hy,hn⟩:=hI;simp only[zu,zF,zG];refine aD fun K6 k6=>aD fun K7 k7=>wp_region_lit (aA (aB) (aA (aB) (aA (cF rfl rfl) (aG (k7 _ _ ?_)))));simp only[zz];refine bW rfl (fun hc1=>?_) (fun hc1=>?_)
  ·
   refine wp_skip (k6 _ _ ?_);refine aD fun K8 k8=>wp_block (aD fun K9 k9=>wp_region_lit (aA (aC) (aG (k9 _ _ ?_))));refine wp_block ?_;simp only[zz];try simp only[Nat.zero_add,Nat.reduceAdd,Nat.reduceMul,Int.reduceToNat]
   refine bK [7,9] [10,11,12,13,22,23,24,25,26,27,28,29,30,31,32,33,34,35,36,37,38,39,40,41,42,43,44,45,46,47,48,49,50,51,52,53,54,55,56,57] (fun n vs wl=>∃ (A1 : Option Addr) (cap1 x : Nat),vs = [.slice A1 (fR 10 zs q (y) (x)).length cap1,.int .i64 (x:Int)] ∧ cA w wl [oI 53 9 A1 (fR 10 zs q (y) (x)).length cap1 ((fR 10 zs q (y) (x)).flatMap aW)] ∧ (x ≤ q) ∧ (n = q - x)) ?_ ?_
   ·
    apply Exists.intro;simp only[zQ,zR,zD,zE];exact ⟨_,_,0,rfl,m,Nat.zero_le _,rfl⟩
   ·
    intro n vs wr hI u;clear m;obtain ⟨A1,cap1,x,rfl,m,hx,hn2⟩:=hI;simp only[zu,zF,zG];refine aD fun K10 k10=>aD fun K11 k11=>wp_region_lit (aA (aB) (aA (aB) (aA (cF rfl rfl) (aG (k11 _ _ ?_)))));simp only[zz];refine bW rfl (fun hc2=>?_) (fun hc2=>?_)
    ·
     refine wp_skip (k10 _ _ ?_);refine aD fun K12 k12=>wp_block (aD fun K13 k13=>wp_region_lit (aA (aB) (aA (aB) (aA (aB) (aA (aB) ?_)))));simp only[zz];refine dY m rfl rfl (Ma (x:=x) (y:=y) _ (hZ.ext m.ext) (by omega) (by omega)) ?_;clear m;rintro v u m rfl;simp only[zz];refine bF m bR rfl ?_;clear m;intro g1 u m;simp only[zz];refine aU m 0 rfl rfl rfl aF (eB rfl) rfl ?_;clear m;intro u m;simp only[zy,zx,bE,zF,zG,Nat.reduceAdd] at m;refine aG (k13 _ _ ?_);refine aD fun K14 k14=>wp_region_lit (aA (aB) ?_);simp only[zz];refine aA (aP rfl rfl (aM (by omega) (by omega))) (aA (aB) (aA (aB) (aA (aB) ?_)));simp only[zz];refine dY m rfl rfl (Ma (x:=x + 1) (y:=y) _ (hZ.ext m.ext) (by omega) (by omega)) ?_;clear m;rintro v u m rfl;simp only[zz];refine bF m bR rfl ?_;clear m;intro g2 u m;simp only[zz];refine aU m 0 rfl rfl rfl aF (eB rfl) rfl ?_;clear m;intro u m;simp only[zy,zx,bE,zF,zG,Nat.reduceAdd] at m;refine aG (k14 _ _ ?_);refine aD fun K15 k15=>wp_region_lit (aA (aB) ?_);simp only[zz];refine aA (aP rfl rfl (aM (by omega) (by omega))) (aA (aB) ?_);simp only[zz];refine aA (aP rfl rfl (aM (by omega) (by omega))) (aA (aB) (aA (aB) ?_));simp only[zz];refine dY m rfl rfl (Ma (x:=x + 1) (y:=y + 1) _ (hZ.ext m.ext) (by omega) (by omega)) ?_;clear m;rintro v u m rfl;simp only[zz];refine bF m bR rfl ?_;clear m;intro g3 u m;simp only[zz];refine aU m 0 rfl rfl rfl aF (eB rfl) rfl ?_;clear m;intro u m;simp only[zy,zx,bE,zF,zG,Nat.reduceAdd] at m;refine aG (k15 _ _ ?_);refine aD fun K16 k16=>wp_region_lit (aA (aB) (aA (aB) ?_));simp only[zz];refine aA (aP rfl rfl (aM (by omega) (by omega))) (aA (aB) (aA (aB) ?_));simp only[zz];refine dY m rfl rfl (Ma (x:=x) (y:=y + 1) _ (hZ.ext m.ext) (by omega) (by omega)) ?_;clear m;rintro v u m rfl;simp only[zz];refine bF m bR rfl ?_;clear m;intro g4 u m;simp only[zz];refine aU m 0 rfl rfl rfl aF (eB rfl) rfl ?_;clear m;intro u m;simp only[zy,zx,bE,zF,zG,Nat.reduceAdd] at m;refine aG (k16 _ _ ?_);refine wp_region_lit (aA (aB) ?_);simp only[zz];refine aK rfl ((m.b 3 rfl).full aJ aF) ?_;simp only[zz];refine aK rfl ((m.b 2 rfl).full aJ aF) ?_;simp only[zz];refine aK rfl ((m.b 1 rfl).full aJ aF) ?_;simp only[zz];refine aK rfl ((m.b 0 rfl).full aJ aF) ?_;simp only[zz];refine aZ rfl rfl (yA (a:=pD 10 zs x y) (b:=pD 10 zs (x + 1) y) (c:=pD 10 zs (x + 1) (y + 1)) (d:=pD 10 zs x (y + 1)) _) ?_;rintro v u e ⟨A2,cap2,_,rfl,rfl,hN⟩;replace m:=m.newO e hN;clear e hN;simp only[zz];refine dT m 5 rfl rfl bQ mB rfl (by decide) rfl rfl (m.o 0 rfl).own.1 (m.o 0 rfl).row (mJ _) (by have:=uX (s:=10) (zs:=zs) (n:=q) (y:=y) (x:=x) (by omega) (by omega) (by omega);show _ + 2 ≤ _;omega) (by have:=uX (s:=10) (zs:=zs) (n:=q) (y:=y) (x:=x) (by omega) (by omega) (by omega);show (_ + 2) * 72 ≤ _;omega) ?_;clear m;intro A1 cap1 u m;simp only[zF,zG] at m;rw [Zj,Zk] at m;rw [Zk];refine aA (aC) (aG (k12 _ _ ?_));refine wp_region_lit (aA (aB) ?_);simp only[zz];refine aA (aP rfl rfl (aM (by omega) (by omega))) (aA (aC) (aG ?_));simp only[zz];simp only[Exit.inBlock,Exit.then];refine ⟨q - (x + 1),_,?_,rfl,?_,?_⟩
     · omega
     · simp only[zz,zv]
     ·
      simp only[zQ,zR,zD,zE];exact ⟨_,_,x + 1,rfl,(m.sel [false,false,false,false,false,true]),by omega,rfl⟩
    ·
     have hxq : x = q:=by omega
     rw [hxq,Kv] at m ⊢;refine wp_exit (k8 _ _ ?_);refine wp_region_lit (aA (aB) ?_);simp only[zz];refine aA (aP rfl rfl (aM (by omega) (by omega))) (aA (aC) (aG ?_));simp only[zz];simp only[Exit.inBlock,Exit.then];refine ⟨q - (y + 1),_,?_,rfl,?_,?_⟩
     · omega
     · simp only[zz,zv]
     ·
      simp only[zQ,zR,zD,zE];exact ⟨_,_,y + 1,rfl,m,by omega,rfl⟩
  ·
   have hyq : y = q:=by omega
   rw [hyq,tG] at m ⊢;refine wp_exit (k4 _ _ ?_);refine aD fun K17 k17=>wp_region_lit (aA (aB) (aA (aC) (aG (k17 _ _ ?_))));refine wp_ret ?_;simp only[zz];try simp only[Exit.inBlock,Exit.then,if_true]
   refine bM rfl rfl ?_;try simp only[zD,zE]
   exact ⟨_,rfl,m.ext,⟨_,_,_,rfl,rfl,(m.o 0 rfl)⟩⟩
end Go.Proofs.YtfohfflkhpfjeaaGreatDoor
namespace Go.Proofs.YtfohfflkhpfjeaaGreatDoor
open Go.Proofs.Tryz
open Go.RowKit Go.Lith
set_option maxRecDepth 100000
attribute [local irreducible] wpList wpQuiet dW dM dK Code.wp
theorem Ca {ts : List T3} {q0 q1 q2 : Int} [Iw q0] [Iw q1] [Iw q2] {N cap : Nat} {A : Option Addr} (w : World) (hT : dZ w A N ts) (hN : N ≤ 100000) : eK prog 15 [.slice A N cap,.agg #[.int .i64 q0,.int .i64 q1,.int .i64 q2]] w (fun v w'=>∃ us,TS 53 us w v w' ∧ mK us ts ∧ us.length ≤ ts.length + 1):=by
 refine ⟨ae8,?_⟩;have m:=cA.refl w;obtain rfl : ts.length = N:=hT.len
 go_enter func15,ntmps15
 refine aD fun K1 k1=>wp_region_lit (eD m rfl ?_);clear m;intro g1 u m;refine aA (aC) (aG (k1 _ _ ?_));refine aD fun K2 k2=>wp_region_lit ?_;simp only[zz];refine yI bQ (c:=9) (by kernel_rfl)  ?_;intro u g2 e hg hB;replace m:=m.newB e hg hB;clear e hg hB;simp only[zz];replace m:=m.own 0 rfl (n:=0) (c:=9) rfl (eB rfl);simp only[zG] at m;refine aA (aB) ?_;simp only[zz];refine dT m 0 rfl rfl bQ mB rfl (by decide) rfl rfl (by rw [wC,hT.len]) (dZ.cells (hT.ext m.ext)) (mJ _) (by omega) (by omega) ?_;clear m;intro A1 cap1 u m;simp only[zF,zG] at m;rw [List.nil_append,Nat.zero_add] at m;rw [Nat.zero_add];refine aA (aC) (aG (k2 _ _ ?_));refine aD fun K3 k3=>aD fun K4 k4=>wp_region_lit (aA (aB) (aA (aX rfl bQ rfl) ?_));simp only[zz];refine aA (iG rfl rfl) (aG (k4 _ _ ?_));simp only[zz];refine bW rfl (fun hc1=>?_) (fun hc1=>?_)
 ·
  refine aD fun K5 k5=>wp_region_lit (aA (aB) (aA (aC) (aG (k5 _ _ ?_))));refine wp_ret ?_;simp only[zz];try simp only[Exit.inBlock,Exit.then,if_true]
  refine bM rfl rfl ?_;try simp only[zD,zE]
  exact ⟨_,rfl,m.ext,ts,⟨_,_,_,by simp,rfl,(m.o 0 rfl)⟩,mK.refl ts,by simp⟩
 ·
  have hpos : 0 < ts.length:=by omega
  obtain ⟨gO,rfl⟩:=(m.o 0 rfl).some hpos;obtain ⟨k,hk,hkl⟩:=oY (q:=q1) hpos;obtain ⟨j,hj,hjl⟩:=oY (q:=q2) hpos;obtain ⟨t,htk⟩:=Kw hkl;obtain ⟨t2,htj⟩:=Kw hjl;have hle:=(m.o 0 rfl).le;refine wp_skip (k3 _ _ ?_);refine aD fun K6 k6=>wp_region_lit (aA (aH qM bB rfl rfl (by decide) (by decide) rfl) ?_);simp only[zz];refine aK rfl ((m.b 1 rfl).lies1 bT rfl) ?_;simp only[zz];refine aA (aB) (aA (aX rfl bQ rfl) ?_);simp only[zz];refine fA m rfl rfl (An (n:=q1) (k:=(ts.length : Int)) (by omega) (by omega)) ?_;clear m;intro u m;refine aA (aC) (aG ?_);simp only[zz];rw [hk];refine k6 _ _ ?_;refine aD fun K7 k7=>wp_region_lit (aA (aH qM bB rfl rfl (by decide) (by decide) rfl) ?_);simp only[zz];refine aK rfl ((m.b 1 rfl).lies1 bT rfl) ?_;simp only[zz];refine aA (aB) (aA (aX rfl bQ rfl) ?_);simp only[zz];refine fA m rfl rfl (An (n:=q2) (k:=(ts.length : Int)) (by omega) (by omega)) ?_;clear m;intro u m;refine aA (aC) (aG ?_);simp only[zz];rw [hj];refine k7 _ _ ?_;refine aD fun K8 k8=>wp_region_lit (aA (aB) (aA (aB) ?_));simp only[zz];refine aA (aI bQ aQ rfl rfl (by omega) (by omega) (bV (Int.toNat_natCast _))) ?_;simp only[zz];refine aK rfl (((m.o 0 rfl).tri htk).lies eP aQ) ?_;simp only[zz];refine bF m jX rfl ?_;clear m;intro g3 u m;simp only[zz];refine aU m 0 rfl rfl rfl aQ (eB rfl) rfl ?_;clear m;intro u m;simp only[zy,zx,bE,zF,zG,Nat.reduceAdd] at m;refine aG (k8 _ _ ?_);refine aD fun K9 k9=>aD fun K10 k10=>wp_region_lit (aA (aH qM bB rfl rfl (by decide) (by decide) rfl) ?_);simp only[zz];refine aK rfl ((m.b 2 rfl).lies1 bT rfl) ?_;simp only[zz];refine fA m rfl rfl (An (n:=q0) (k:=12) (by decide) (by decide)) ?_;clear m;intro u m;refine aG (k10 _ _ ?_);refine wp_block (aD fun K11 k11=>wp_region_lit (aA (iG rfl rfl) (aA (aC) (aG (k11 _ _ ?_)))));simp only[zz];refine bW rfl (fun hc2=>?_) (fun hc2=>?_)
  ·
   refine aD fun K12 k12=>wp_region_lit (aA (aC) ?_);replace m:=m.nilO 53 9;refine aG (k12 _ _ ?_);refine aD fun K13 k13=>wp_region_lit (aA (aB) (aA (aB) (aA (aB) ?_)));simp only[zz];refine aA (jP bQ aQ rfl rfl (Int.toNat_natCast _) (by omega) (by omega)) ?_;simp only[zz];refine dT m 0 rfl rfl bQ mB rfl (by decide) rfl rfl ((m.o 2 rfl).takeT (Nat.le_of_lt hkl)).own.1 ((m.o 2 rfl).takeT (Nat.le_of_lt hkl)).row (mJ _) (by omega) (by omega) ?_;clear m;intro A2 cap2 u m;simp only[zF,zG] at m;rw [List.nil_append,Nat.zero_add] at m;rw [Nat.zero_add];refine aA (aC) (aG (k13 _ _ ?_));refine wp_region_lit (aA (aB) (aA (aB) ?_));simp only[zz];refine aA (aB) ?_;simp only[zz];refine aA (aP rfl rfl (aM (by omega) (by omega))) ?_;simp only[zz];refine aA (jQ bQ aQ rfl rfl (show _ = k + 1 by omega) (by omega) (by omega) rfl) ?_;simp only[zz];refine dT m 0 rfl rfl bQ mB rfl (by decide) rfl rfl (by rw [wC,List.length_drop]) (m.o 2 rfl).dropRow (mJ _) (by omega) (by omega) ?_;clear m;intro A2 cap2 u m;simp only[zF,zG] at m;rw [← List.flatMap_append] at m;refine aA (aC) (aG (k9 _ _ ?_));refine aD fun K14 k14=>wp_region_lit (aA (aB) (aA (aC) ?_));simp only[zz];refine aG (k14 _ _ ?_);refine wp_ret ?_;try simp only[Exit.inBlock,Exit.then,if_true]
   refine bM rfl rfl ?_;try simp only[zD,zE]
   exact ⟨_,rfl,m.ext,ts.take k ++ ts.drop (k + 1),⟨_,_,_,by simp;omega,rfl,(m.o 0 rfl)⟩,mK.of_sub (fun u hu=>(List.mem_append.1 hu).elim List.mem_of_mem_take List.mem_of_mem_drop),by simp;omega⟩
  ·
   refine aD fun K15 k15=>wp_region_lit (aA (iG rfl rfl) (aA (aC) (aG (k15 _ _ ?_))));simp only[zz];refine bW rfl (fun hc3=>?_) (fun hc3=>?_)
   ·
    refine wp_region_lit (aA (aB) (aA (aB) (aA (aH bG aF rfl rfl (by decide) (by decide) rfl) ?_)));simp only[zz];refine aK rfl ((m.b 0 rfl).lies aJ aF rfl rfl) ?_;simp only[zz,zy,Nat.zero_add,Nat.reduceAdd,Nat.reduceMul,Int.reduceToNat];refine aA (aH bG aF rfl rfl (by decide) (by decide) rfl) ?_;simp only[zz];refine aK rfl ((m.b 0 rfl).lies aJ aF rfl rfl) ?_;simp only[zz,zy,Nat.zero_add,Nat.reduceAdd,Nat.reduceMul,Int.reduceToNat];refine aA (aH bG aF rfl rfl (by decide) (by decide) rfl) ?_;simp only[zz];refine aK rfl ((m.b 0 rfl).lies aJ aF rfl rfl) ?_;simp only[zz,zy,Nat.zero_add,Nat.reduceAdd,Nat.reduceMul,Int.reduceToNat];refine aA (bN rfl rfl rfl) ?_;simp only[zz];refine aA (aI bQ aQ rfl rfl (by omega) (by omega) (lZ (Int.toNat_natCast _))) ?_;simp only[zz];refine lV m 1 rfl rfl rfl aQ (by simp only[List.length_cons,List.length_nil,Nat.zero_add,Nat.reduceAdd,Int.reduceToNat,Nat.reduceMul];omega) rfl ?_;clear m;intro u m;simp only[zF,zG] at m;try simp only[Nat.zero_add] at m
    rw [show bE (ts.flatMap aW) (k * 9) [.int .i64 t.a.x,.int .i64 t.a.y,.int .i64 t.a.z,.int .i64 t.c.x,.int .i64 t.c.y,.int .i64 t.c.z,.int .i64 t.b.x,.int .i64 t.b.y,.int .i64 t.b.z] = (ts.set k (⟨t.a,t.c,t.b⟩ : T3)).flatMap aW from sC (u:=(⟨t.a,t.c,t.b⟩ : T3)) htk] at m;refine aG (k9 _ _ ?_);refine aD fun K16 k16=>wp_region_lit (aA (aB) (aA (aC) (aG (k16 _ _ ?_))));refine wp_ret ?_;simp only[zz];try simp only[Exit.inBlock,Exit.then,if_true]
    refine bM rfl rfl ?_;try simp only[zD,zE]
    exact ⟨_,rfl,m.ext,ts.set k (⟨t.a,t.c,t.b⟩ : T3),⟨_,_,_,by simp,rfl,(m.o 1 rfl)⟩,(mK.refl ts).set (Iq htk) (Sv htk) (Ng htk),by simp⟩
   ·
    refine aD fun K17 k17=>wp_region_lit (aA (iG rfl rfl) (aA (aC) (aG (k17 _ _ ?_))));simp only[zz];refine bW rfl (fun hc4=>?_) (fun hc4=>?_)
    ·
     refine wp_region_lit (aA (aB) (aA (aB) (aA (aB) ?_)));simp only[zz];refine aA (aI bQ aQ rfl rfl (by omega) (by omega) (bV (Int.toNat_natCast _))) ?_;simp only[zz];refine aK rfl (((m.o 1 rfl).tri htj).lies eP aQ) ?_;simp only[zz];refine Be rfl ?_;intro u g4 e hg hB;replace m:=m.newB e hg hB;clear e hg hB;simp only[zz];refine dT m 2 rfl rfl bQ mB rfl (by decide) rfl rfl rfl (m.b 0 rfl).rowsO (qV rfl) (by omega) (by omega) ?_;clear m;intro A1 cap1 u m;simp only[zF,zG] at m;rw [show ts.flatMap aW ++ [.int .i64 t2.a.x,.int .i64 t2.a.y,.int .i64 t2.a.z,.int .i64 t2.b.x,.int .i64 t2.b.y,.int .i64 t2.b.z,.int .i64 t2.c.x,.int .i64 t2.c.y,.int .i64 t2.c.z] = (ts ++ [t2]).flatMap aW by rw [List.flatMap_append];rfl] at m;refine aA (aC) (aG (k9 _ _ ?_));refine aD fun K18 k18=>wp_region_lit (aA (aB) (aA (aC) ?_));simp only[zz];refine aG (k18 _ _ ?_);refine wp_ret ?_;try simp only[Exit.inBlock,Exit.then,if_true]
     refine bM rfl rfl ?_;try simp only[zD,zE]
     exact ⟨_,rfl,m.ext,ts ++ [t2],⟨_,_,_,by simp,rfl,(m.o 2 rfl)⟩,(mK.refl ts).app (mK.of_sub (fun u hu=>by rw [List.mem_singleton.1 hu];exact List.mem_of_getElem? htj)),by simp⟩
    ·
     refine aD fun K19 k19=>wp_region_lit (aA (iG rfl rfl) (aA (aC) (aG (k19 _ _ ?_))));simp only[zz];refine bW rfl (fun hc5=>?_) (fun hc5=>?_)
     ·
      refine gJ m 9 aO (by kernel_rfl) ?_;simp only[zy];refine aL (aB) (aL (aB) (aL (aB) (aL (aB) ?_)));simp only[zz];refine aL (aI bQ aQ rfl rfl (by omega) (by omega) (bV (Int.toNat_natCast _))) (aL (aH bG aF rfl rfl (by decide) (by decide) rfl) ?_);simp only[zz];refine ql rfl (fun u m=>((((m.o 1 rfl).tri htj).cor (c:=1) (by decide)).lies aJ aF)) ?_;simp only[zz];refine aL (aI bQ aQ rfl rfl (by omega) (by omega) (lZ (Int.toNat_natCast _))) (aL (aH bG aF rfl rfl (by decide) (by decide) rfl) (dF ?_));clear m;intro u m;simp only[zz];refine lV m 1 rfl rfl rfl aF (by simp only[List.length_cons,List.length_nil,Nat.zero_add,Nat.reduceAdd,Int.reduceToNat,Nat.reduceMul];omega) rfl ?_;clear m;intro u m;simp only[zF,zG] at m;try simp only[Nat.zero_add] at m
      rw [Vj (p:=t2.cor 1) htk] at m;refine aG (k9 _ _ ?_);refine aD fun K20 k20=>wp_region_lit (aA (aB) (aA (aC) (aG (k20 _ _ ?_))));refine wp_ret ?_;simp only[zz];try simp only[Exit.inBlock,Exit.then,if_true]
      refine bM rfl rfl ?_;try simp only[zD,zE]
      exact ⟨_,rfl,m.ext,ts.set k (t.setC 0 (t2.cor 1)),⟨_,_,_,by simp,rfl,(m.o 1 rfl)⟩,uY (mK.refl ts) htk (Ng htj),by simp⟩
     ·
      refine aD fun K21 k21=>wp_region_lit (aA (iG rfl rfl) (aA (aC) (aG (k21 _ _ ?_))));simp only[zz];refine bW rfl (fun hc6=>?_) (fun hc6=>?_)
      ·
       refine gJ m 6 aO (by kernel_rfl) ?_;simp only[zy];refine aL (aB) (aL (aB) (aL (aH bG aF rfl rfl (by decide) (by decide) rfl) ?_));simp only[zz];refine ql rfl (fun u m=>((m.b 0 rfl).lies aJ aF rfl rfl)) ?_;simp only[zz,zy,Nat.zero_add,Nat.reduceAdd,Nat.reduceMul,Int.reduceToNat];refine aL (aI bQ aQ rfl rfl (by omega) (by omega) (lZ (Int.toNat_natCast _))) (aL (aH bG aF rfl rfl (by decide) (by decide) rfl) (dF ?_));clear m;intro u m;simp only[zz];refine lV m 1 rfl rfl rfl aF (by simp only[List.length_cons,List.length_nil,Nat.zero_add,Nat.reduceAdd,Int.reduceToNat,Nat.reduceMul];omega) rfl ?_;clear m;intro u m;simp only[zF,zG] at m;try simp only[Nat.zero_add,Int.reduceToNat,Nat.reduceMul] at m
       rw [Vk (p:=t.a) htk] at m;refine aG (k9 _ _ ?_);refine aD fun K22 k22=>wp_region_lit (aA (aB) (aA (aC) (aG (k22 _ _ ?_))));refine wp_ret ?_;simp only[zz];try simp only[Exit.inBlock,Exit.then,if_true]
       refine bM rfl rfl ?_;try simp only[zD,zE]
       exact ⟨_,rfl,m.ext,ts.set k (t.setC 1 t.a),⟨_,_,_,by simp,rfl,(m.o 1 rfl)⟩,uY (mK.refl ts) htk (Iq htk),by simp⟩
      ·
       refine aD fun K23 k23=>wp_region_lit (aA (iG rfl rfl) (aA (aC) (aG (k23 _ _ ?_))));simp only[zz];refine bW rfl (fun hc7=>?_) (fun hc7=>?_)
       ·
        refine wp_region_lit (aA (aB) (aA (aH bG aF rfl rfl (by decide) (by decide) rfl) ?_));simp only[zz];refine aK rfl ((m.b 0 rfl).lies aJ aF rfl rfl) ?_;simp only[zz,zy,Nat.zero_add,Nat.reduceAdd,Nat.reduceMul,Int.reduceToNat];refine aA (aH bG aF rfl rfl (by decide) (by decide) rfl) ?_;simp only[zz];refine aK rfl ((m.b 0 rfl).lies aJ aF rfl rfl) ?_;simp only[zz,zy,Nat.zero_add,Nat.reduceAdd,Nat.reduceMul,Int.reduceToNat];refine aA (aH bG aF rfl rfl (by decide) (by decide) rfl) ?_;simp only[zz];refine aK rfl ((m.b 0 rfl).lies aJ aF rfl rfl) ?_;simp only[zz,zy,Nat.zero_add,Nat.reduceAdd,Nat.reduceMul,Int.reduceToNat];refine aA (bN rfl rfl rfl) ?_;simp only[zz];refine Be rfl ?_;intro u g4 e hg hB;replace m:=m.newB e hg hB;clear e hg hB;simp only[zz];refine dT m 2 rfl rfl bQ mB rfl (by decide) rfl rfl rfl (m.b 0 rfl).rowsO (qV rfl) (by omega) (by omega) ?_;clear m;intro A1 cap1 u m;simp only[zF,zG] at m;rw [show ts.flatMap aW ++ [.int .i64 t.a.x,.int .i64 t.a.y,.int .i64 t.a.z,.int .i64 t.c.x,.int .i64 t.c.y,.int .i64 t.c.z,.int .i64 t.b.x,.int .i64 t.b.y,.int .i64 t.b.z] = (ts ++ [(⟨t.a,t.c,t.b⟩ : T3)]).flatMap aW by rw [List.flatMap_append];rfl] at m;refine aA (aC) (aG (k9 _ _ ?_));refine aD fun K24 k24=>wp_region_lit (aA (aB) (aA (aC) ?_));simp only[zz];refine aG (k24 _ _ ?_);refine wp_ret ?_;try simp only[Exit.inBlock,Exit.then,if_true]
        refine bM rfl rfl ?_;try simp only[zD,zE]
        exact ⟨_,rfl,m.ext,ts ++ [(⟨t.a,t.c,t.b⟩ : T3)],⟨_,_,_,by simp,rfl,(m.o 2 rfl)⟩,(mK.refl ts).app (mK.one (Iq htk) (Sv htk) (Ng htk)),by simp⟩
       ·
        refine aD fun K25 k25=>wp_region_lit (aA (iG rfl rfl) (aA (aC) (aG (k25 _ _ ?_))));simp only[zz];refine bW rfl (fun hc8=>?_) (fun hc8=>?_)
        ·
         refine aD fun K26 k26=>wp_region_lit (aA (aB) (aA (aB) ?_));simp only[zz];refine aA (aI bQ aQ rfl rfl (by omega) (by omega) (bV (Int.toNat_natCast _))) (aA (aH bG aF rfl rfl (by decide) (by decide) rfl) ?_);simp only[zz];refine aK rfl ((((m.o 1 rfl).tri htj).cor (c:=2) (by decide)).lies aJ aF) ?_;simp only[zz];refine bF m bR rfl ?_;clear m;intro g4 u m;simp only[zz];refine aU m 0 rfl rfl rfl aF (eB rfl) rfl ?_;clear m;intro u m;simp only[zy,zx,bE,zF,zG,Nat.reduceAdd] at m;refine aG (k26 _ _ ?_);refine aD fun K27 k27=>wp_region_lit (aA (aC) (aG (k27 _ _ ?_)));refine wp_block ?_;simp only[zz];try simp only[Nat.zero_add,Nat.reduceAdd,Nat.reduceMul,Int.reduceToNat]
         refine bK [11] [12,109,110,111,112,113,114,115,116,117,118,119,120,121,122,123,124,125,126,127,128,129,130,131,132,133] (fun n vs wl=>∃ (us : List T3) (i : Nat),vs = [.int .i64 (i:Int)] ∧ cA w wl [bI g4 [.int .i64 (t2.cor 2).x,.int .i64 (t2.cor 2).y,.int .i64 (t2.cor 2).z] 48,bI g3 [.int .i64 t.a.x,.int .i64 t.a.y,.int .i64 t.a.z,.int .i64 t.b.x,.int .i64 t.b.y,.int .i64 t.b.z,.int .i64 t.c.x,.int .i64 t.c.y,.int .i64 t.c.z] 53,oI 53 9 (some ⟨gO,0,none⟩) ts.length cap1 ((us).flatMap aW),bI g1 [.int .i64 q0,.int .i64 q1,.int .i64 q2] 26] ∧ (us.length = ts.length) ∧ (mK us ts) ∧ (i ≤ ts.length) ∧ (n = ts.length - i)) ?_ ?_
         ·
          apply Exists.intro;simp only[zQ,zR,zD,zE];exact ⟨_,0,rfl,m,rfl,mK.refl ts,Nat.zero_le _,rfl⟩
         ·
          intro n vs wr hI u;clear m;obtain ⟨us,i,rfl,m,hul,hsub,hi,hn⟩:=hI;simp only[zu,zF,zG];refine aD fun K28 k28=>aD fun K29 k29=>wp_region_lit (aA (aB) (aA (aB) (aA (aX rfl bQ rfl) (aA (cF rfl rfl) ?_))));simp only[zz];refine aG (k29 _ _ ?_);refine bW rfl (fun hc9=>?_) (fun hc9=>?_)
          ·
           have hil : i < ts.length:=by omega
           refine wp_skip (k28 _ _ ?_);refine aD fun K30 k30=>wp_block (aD fun K31 k31=>wp_region_lit (aA (aC) (aG (k31 _ _ ?_))));refine wp_block ?_;simp only[zz];try simp only[Nat.zero_add,Nat.reduceAdd,Nat.reduceMul,Int.reduceToNat]
           refine bK [12] [115,116,117,118,119,120,121,122,123,124,125,126,127,128,129,130,131,132,133] (fun n vs wl=>∃ (vs1 : List T3) (c : Nat),vs = [.int .i64 (c:Int)] ∧ cA w wl [bI g4 [.int .i64 (t2.cor 2).x,.int .i64 (t2.cor 2).y,.int .i64 (t2.cor 2).z] 48,bI g3 [.int .i64 t.a.x,.int .i64 t.a.y,.int .i64 t.a.z,.int .i64 t.b.x,.int .i64 t.b.y,.int .i64 t.b.z,.int .i64 t.c.x,.int .i64 t.c.y,.int .i64 t.c.z] 53,oI 53 9 (some ⟨gO,0,none⟩) ts.length cap1 ((vs1).flatMap aW),bI g1 [.int .i64 q0,.int .i64 q1,.int .i64 q2] 26] ∧ (vs1.length = ts.length) ∧ (mK vs1 ts) ∧ (c ≤ 3) ∧ (n = 3 - c)) ?_ ?_
           ·
            apply Exists.intro;simp only[zQ,zR,zD,zE];exact ⟨_,0,rfl,m,hul,hsub,Nat.zero_le _,rfl⟩
           ·
            intro n vs wr hI u;clear m;obtain ⟨vs1,c,rfl,m,hvl,hsv,hc,hn2⟩:=hI;simp only[zu,zF,zG];refine aD fun K32 k32=>aD fun K33 k33=>wp_region_lit (aA (aB) (aA (cF rfl rfl) (aG (k33 _ _ ?_))));simp only[zz];refine bW rfl (fun hc10=>?_) (fun hc10=>?_)
            ·
             have hc3 : c < 3:=by omega
             obtain ⟨ti,hti⟩:=Kw (ts:=vs1) (k:=i) (by omega);refine wp_skip (k32 _ _ ?_);refine aD fun K34 k34=>wp_block (aD fun K35 k35=>mq m aO (by kernel_rfl) (aL (aB) (aL (aB) (aL (aB) ?_))));simp only[zz];refine aL (aI bQ aQ rfl rfl (by omega) (by omega) (bV (Int.toNat_natCast _))) ?_;simp only[zz];refine aL (aH bG aF rfl rfl (by omega) (by omega) (bV (Int.toNat_natCast _))) ?_;simp only[zz];refine ql rfl (fun u m=>((((m.o 2 rfl).tri hti).cor hc3).lies aJ aF)) ?_;simp only[zz];refine ql rfl (fun u m=>((m.b 0 rfl).full aJ aF)) ?_;simp only[zz];refine aL (cW rfl rfl) (dF ?_);clear m;intro u m;refine k35 _ _ ?_;simp only[zz];refine bW rfl (fun hc11=>?_) (fun hc11=>?_)
             ·
              refine gJ m 7 aO (by kernel_rfl) ?_;simp only[zy];refine aL (aB) (aL (aB) (aL (aB) (aL (aH bG aF rfl rfl (by decide) (by decide) rfl) ?_)));simp only[zz];refine ql rfl (fun u m=>((m.b 1 rfl).lies aJ aF rfl rfl)) ?_;simp only[zz,zy,Nat.zero_add,Nat.reduceAdd,Nat.reduceMul,Int.reduceToNat];refine aL (aI bQ aQ rfl rfl (by omega) (by omega) (lZ (Int.toNat_natCast _))) ?_;simp only[zz];refine aL (aH bG aF rfl rfl (by omega) (by omega) (adp (Int.toNat_natCast _))) (dF ?_);clear m;intro u m;simp only[zz];refine lV m 2 rfl rfl rfl aF (by simp only[List.length_cons,List.length_nil,Nat.zero_add,Nat.reduceAdd,Int.reduceToNat,Nat.reduceMul];omega) rfl ?_;clear m;intro u m;simp only[zF,zG] at m;try simp only[Nat.zero_add] at m
              rw [Eu (p:=t.a) hti hc3] at m;refine aG (k34 _ _ ?_);refine wp_region_lit (aA (aB) ?_);simp only[zz];refine aA (aP rfl rfl (aM (by omega) (by omega))) (aA (aC) (aG ?_));simp only[zz];simp only[Exit.inBlock,Exit.then];refine ⟨3 - (c + 1),_,?_,rfl,?_,?_⟩
              · omega
              · simp only[zz,zv]
              ·
               simp only[zQ,zR,zD,zE];exact ⟨_,c + 1,rfl,m,by rw [List.length_set];exact hvl,uY hsv hti (Iq htk),by omega,rfl⟩
             ·
              refine wp_skip (k34 _ _ ?_);refine wp_region_lit (aA (aB) ?_);simp only[zz];refine aA (aP rfl rfl (aM (by omega) (by omega))) (aA (aC) (aG ?_));simp only[zz];simp only[Exit.inBlock,Exit.then];refine ⟨3 - (c + 1),_,?_,rfl,?_,?_⟩
              · omega
              · simp only[zz,zv]
              ·
               simp only[zQ,zR,zD,zE];exact ⟨_,c + 1,rfl,m,hvl,hsv,by omega,rfl⟩
            ·
             refine wp_exit (k30 _ _ ?_);refine wp_region_lit (aA (aB) ?_);simp only[zz];refine aA (aP rfl rfl (aM (by omega) (by omega))) (aA (aC) (aG ?_));simp only[zz];simp only[Exit.inBlock,Exit.then];refine ⟨ts.length - (i + 1),_,?_,rfl,?_,?_⟩
             · omega
             · simp only[zz,zv]
             ·
              simp only[zQ,zR,zD,zE];exact ⟨_,i + 1,rfl,m,hvl,hsv,by omega,rfl⟩
          ·
           refine wp_exit (k9 _ _ ?_);refine aD fun K36 k36=>wp_region_lit (aA (aB) (aA (aC) (aG (k36 _ _ ?_))));refine wp_ret ?_;simp only[zz];try simp only[Exit.inBlock,Exit.then,if_true]
           refine bM rfl rfl ?_;try simp only[zD,zE]
           exact ⟨_,rfl,m.ext,us,⟨_,_,_,hul.symm,rfl,(m.o 2 rfl)⟩,hsub,by omega⟩
        ·
         refine aD fun K37 k37=>wp_region_lit (aA (iG rfl rfl) (aA (aC) (aG (k37 _ _ ?_))));simp only[zz];refine bW rfl (fun hc12=>?_) (fun hc12=>?_)
         ·
          refine wp_region_lit (aA (aB) (aA (aB) ?_));simp only[zz];refine aA (aP rfl rfl (aM (by omega) (by omega))) ?_;simp only[zz];refine aA (jP bQ aQ rfl rfl (show _ = 1 + k by omega) (by omega) (by omega)) (aA (aC) (aG (k9 _ _ ?_)));refine aD fun K38 k38=>wp_region_lit (aA (aB) (aA (aC) ?_));simp only[zz];refine aG (k38 _ _ ?_);refine wp_ret ?_;try simp only[Exit.inBlock,Exit.then,if_true]
          refine bM rfl rfl ?_;try simp only[zD,zE]
          exact ⟨_,rfl,m.ext,ts.take (1 + k),⟨_,_,_,by simp;omega,rfl,(m.o 1 rfl).takeT (by omega)⟩,mK.of_sub (fun u hu=>List.mem_of_mem_take hu),by simp;omega⟩
         ·
          refine aD fun K39 k39=>wp_region_lit (aA (iG rfl rfl) (aA (aC) (aG (k39 _ _ ?_))));simp only[zz];refine bW rfl (fun hc13=>?_) (fun hc13=>?_)
          ·
           refine wp_region_lit (aA (aB) (aA (aB) (aA (aH bG aF rfl rfl (by decide) (by decide) rfl) ?_)));simp only[zz];refine aK rfl ((m.b 0 rfl).lies aJ aF rfl rfl) ?_;simp only[zz,zy,Nat.zero_add,Nat.reduceAdd,Nat.reduceMul,Int.reduceToNat];refine aA (aH bG aF rfl rfl (by decide) (by decide) rfl) ?_;simp only[zz];refine aK rfl ((m.b 0 rfl).lies aJ aF rfl rfl) ?_;simp only[zz,zy,Nat.zero_add,Nat.reduceAdd,Nat.reduceMul,Int.reduceToNat];refine aA (aH bG aF rfl rfl (by decide) (by decide) rfl) ?_;simp only[zz];refine aK rfl ((m.b 0 rfl).lies aJ aF rfl rfl) ?_;simp only[zz,zy,Nat.zero_add,Nat.reduceAdd,Nat.reduceMul,Int.reduceToNat];refine aA (bN rfl rfl rfl) ?_;simp only[zz];refine aA (aI bQ aQ rfl rfl (by omega) (by omega) (lZ (Int.toNat_natCast _))) ?_;simp only[zz];refine lV m 1 rfl rfl rfl aQ (by simp only[List.length_cons,List.length_nil,Nat.zero_add,Nat.reduceAdd,Int.reduceToNat,Nat.reduceMul];omega) rfl ?_;clear m;intro u m;simp only[zF,zG] at m;try simp only[Nat.zero_add] at m
           rw [show bE (ts.flatMap aW) (k * 9) [.int .i64 t.c.x,.int .i64 t.c.y,.int .i64 t.c.z,.int .i64 t.a.x,.int .i64 t.a.y,.int .i64 t.a.z,.int .i64 t.b.x,.int .i64 t.b.y,.int .i64 t.b.z] = (ts.set k (⟨t.c,t.a,t.b⟩ : T3)).flatMap aW from sC (u:=(⟨t.c,t.a,t.b⟩ : T3)) htk] at m;refine aG (k9 _ _ ?_);refine aD fun K40 k40=>wp_region_lit (aA (aB) (aA (aC) (aG (k40 _ _ ?_))));refine wp_ret ?_;simp only[zz];try simp only[Exit.inBlock,Exit.then,if_true]
           refine bM rfl rfl ?_;try simp only[zD,zE]
           exact ⟨_,rfl,m.ext,ts.set k (⟨t.c,t.a,t.b⟩ : T3),⟨_,_,_,by simp,rfl,(m.o 1 rfl)⟩,(mK.refl ts).set (Sv htk) (Iq htk) (Ng htk),by simp⟩
          ·
           refine wp_skip (k9 _ _ ?_);refine aD fun K41 k41=>wp_region_lit (aA (aB) (aA (aC) (aG (k41 _ _ ?_))));refine wp_ret ?_;simp only[zz];try simp only[Exit.inBlock,Exit.then,if_true]
           refine bM rfl rfl ?_;try simp only[zD,zE]
           exact ⟨_,rfl,m.ext,ts,⟨_,_,_,by simp,rfl,(m.o 1 rfl)⟩,mK.refl ts,by simp⟩
end Go.Proofs.YtfohfflkhpfjeaaGreatDoor
namespace Go.Proofs.YtfohfflkhpfjeaaGreatDoor
open Go.Proofs.Tryz
open Go.RowKit Go.Lith
set_option maxRecDepth 100000
attribute [local irreducible] wpList wpQuiet dW dM dK Code.wp
theorem aeI {p : P3} (w : World) (hp : Sm 100 p) : eK prog 83 [pt p,.int .i64 8] w (TS 53 (uW p 8) w):=by
 refine ⟨af9,?_⟩;have m:=cA.refl w;have hp1:=hp.1;have hp2:=hp.2.1;have hp3:=hp.2.2
 go_enter func83,ntmps83
 refine aD fun K1 k1=>wp_region_lit (eD m rfl ?_);clear m;intro g1 u m;refine aA (aC) (aG (k1 _ _ ?_));refine aD fun K2 k2=>wp_region_lit ?_;simp only[zz];refine bF m aac rfl ?_;clear m;intro g2 u m;refine aG (k2 _ _ ?_);refine aD fun K3 k3=>aD fun K4 k4=>wp_region_lit (aA (aC) (aG (k4 _ _ ?_)));refine wp_block (wp_loop_rounds 9 (dS (aD fun K5 k5=>aD fun K6 k6=>wp_region_lit (aA (aB) (aA (bY (m:=0) (n:=8) rfl rfl (by decide)) ?_)))));simp only[zz];refine aG (k6 _ _ ?_);refine cG rfl (wp_skip (k5 _ _ ?_));refine aD fun K7 k7=>wp_block (wp_region_lit (aA (aB) (aA (aN (c:=0) eH rfl bB rfl rfl) ?_)));simp only[zz];refine aK rfl ((m.b 1 rfl).lies1 bT rfl) ?_;simp only[zz];refine aA (aB) (aA (dJ (m:=0) (n:=2) (r:=0) rfl rfl (by decide) (by decide)) (aA (aB) (aA (fO (m:=0) (n:=8) (r:=0) rfl rfl (by decide)) ?_)));simp only[zz];refine aA (aP rfl rfl (aM (by omega) (by omega))) (aA (aN (c:=0) eH rfl bB rfl rfl) ?_);simp only[zz];refine aK rfl ((m.b 1 rfl).lies1 bT rfl) ?_;simp only[zz];refine aA (aB) (aA (gZ (m:=0) (n:=2) (r:=0) rfl rfl (by decide) (by decide)) (aA (dJ (m:=0) (n:=2) (r:=0) rfl rfl (by decide) (by decide)) (aA (aB) ?_)));simp only[zz];refine aA (fO (m:=0) (n:=8) (r:=0) rfl rfl (by decide)) ?_;simp only[zz];refine aA (aP rfl rfl (aM (by omega) (by omega))) (aA (aN (c:=0) eH rfl bB rfl rfl) ?_);simp only[zz];refine aK rfl ((m.b 1 rfl).lies1 bT rfl) ?_;simp only[zz];refine aA (aB) (aA (gZ (m:=0) (n:=4) (r:=0) rfl rfl (by decide) (by decide)) (aA (aB) (aA (fO (m:=0) (n:=8) (r:=0) rfl rfl (by decide)) ?_)));simp only[zz];refine aA (aP rfl rfl (aM (by omega) (by omega))) (aA (dR rfl rfl rfl) (aA (aH fW aF rfl rfl (by decide) (by decide) rfl) ?_));simp only[zz];refine aU m 0 rfl rfl rfl aF (eB rfl) rfl ?_;clear m;intro u m;simp only[zy,zx,bE,zF,zG,Nat.reduceAdd] at m;refine aG (k7 _ _ ?_);refine wp_region_lit (aA (aB) (aA (aP (m:=0) (n:=1) (r:=1) rfl rfl (by decide)) (aA (aC) (aG (aV (aD fun K8 k8=>aD fun K9 k9=>wp_region_lit (aA (aB) ?_)))))));simp only[zz];refine aA (bY (m:=1) (n:=8) rfl rfl (by decide)) (aG (k9 _ _ ?_));refine cG rfl (wp_skip (k8 _ _ ?_));refine aD fun K10 k10=>wp_block (wp_region_lit (aA (aB) (aA (aN (c:=0) eH rfl bB rfl rfl) ?_)));simp only[zz];refine aK rfl ((m.b 1 rfl).lies1 bT rfl) ?_;simp only[zz];refine aA (aB) (aA (dJ (m:=1) (n:=2) (r:=1) rfl rfl (by decide) (by decide)) (aA (aB) (aA (fO (m:=1) (n:=8) (r:=8) rfl rfl (by decide)) ?_)));simp only[zz];refine aA (aP rfl rfl (aM (by omega) (by omega))) (aA (aN (c:=0) eH rfl bB rfl rfl) ?_);simp only[zz];refine aK rfl ((m.b 1 rfl).lies1 bT rfl) ?_;simp only[zz];refine aA (aB) (aA (gZ (m:=1) (n:=2) (r:=0) rfl rfl (by decide) (by decide)) (aA (dJ (m:=0) (n:=2) (r:=0) rfl rfl (by decide) (by decide)) (aA (aB) ?_)));simp only[zz];refine aA (fO (m:=0) (n:=8) (r:=0) rfl rfl (by decide)) ?_;simp only[zz];refine aA (aP rfl rfl (aM (by omega) (by omega))) (aA (aN (c:=0) eH rfl bB rfl rfl) ?_);simp only[zz];refine aK rfl ((m.b 1 rfl).lies1 bT rfl) ?_;simp only[zz];refine aA (aB) (aA (gZ (m:=1) (n:=4) (r:=0) rfl rfl (by decide) (by decide)) (aA (aB) (aA (fO (m:=0) (n:=8) (r:=0) rfl rfl (by decide)) ?_)));simp only[zz];refine aA (aP rfl rfl (aM (by omega) (by omega))) (aA (dR rfl rfl rfl) (aA (aH fW aF rfl rfl (by decide) (by decide) rfl) ?_));simp only[zz];refine aU m 0 rfl rfl rfl aF (eB rfl) rfl ?_;clear m;intro u m;simp only[zy,zx,bE,zF,zG,Nat.reduceAdd] at m;refine aG (k10 _ _ ?_);refine wp_region_lit (aA (aB) (aA (aP (m:=1) (n:=1) (r:=2) rfl rfl (by decide)) (aA (aC) (aG (aV (aD fun K11 k11=>aD fun K12 k12=>wp_region_lit (aA (aB) ?_)))))));simp only[zz];refine aA (bY (m:=2) (n:=8) rfl rfl (by decide)) (aG (k12 _ _ ?_));refine cG rfl (wp_skip (k11 _ _ ?_));refine aD fun K13 k13=>wp_block (wp_region_lit (aA (aB) (aA (aN (c:=0) eH rfl bB rfl rfl) ?_)));simp only[zz];refine aK rfl ((m.b 1 rfl).lies1 bT rfl) ?_;simp only[zz];refine aA (aB) (aA (dJ (m:=2) (n:=2) (r:=0) rfl rfl (by decide) (by decide)) (aA (aB) (aA (fO (m:=0) (n:=8) (r:=0) rfl rfl (by decide)) ?_)));simp only[zz];refine aA (aP rfl rfl (aM (by omega) (by omega))) (aA (aN (c:=0) eH rfl bB rfl rfl) ?_);simp only[zz];refine aK rfl ((m.b 1 rfl).lies1 bT rfl) ?_;simp only[zz];refine aA (aB) (aA (gZ (m:=2) (n:=2) (r:=1) rfl rfl (by decide) (by decide)) (aA (dJ (m:=1) (n:=2) (r:=1) rfl rfl (by decide) (by decide)) (aA (aB) ?_)));simp only[zz];refine aA (fO (m:=1) (n:=8) (r:=8) rfl rfl (by decide)) ?_;simp only[zz];refine aA (aP rfl rfl (aM (by omega) (by omega))) (aA (aN (c:=0) eH rfl bB rfl rfl) ?_);simp only[zz];refine aK rfl ((m.b 1 rfl).lies1 bT rfl) ?_;simp only[zz];refine aA (aB) (aA (gZ (m:=2) (n:=4) (r:=0) rfl rfl (by decide) (by decide)) (aA (aB) (aA (fO (m:=0) (n:=8) (r:=0) rfl rfl (by decide)) ?_)));simp only[zz];refine aA (aP rfl rfl (aM (by omega) (by omega))) (aA (dR rfl rfl rfl) (aA (aH fW aF rfl rfl (by decide) (by decide) rfl) ?_));simp only[zz];refine aU m 0 rfl rfl rfl aF (eB rfl) rfl ?_;clear m;intro u m;simp only[zy,zx,bE,zF,zG,Nat.reduceAdd] at m;refine aG (k13 _ _ ?_);refine wp_region_lit (aA (aB) (aA (aP (m:=2) (n:=1) (r:=3) rfl rfl (by decide)) (aA (aC) (aG (aV (aD fun K14 k14=>aD fun K15 k15=>wp_region_lit (aA (aB) ?_)))))));simp only[zz];refine aA (bY (m:=3) (n:=8) rfl rfl (by decide)) (aG (k15 _ _ ?_));refine cG rfl (wp_skip (k14 _ _ ?_));refine aD fun K16 k16=>wp_block (wp_region_lit (aA (aB) (aA (aN (c:=0) eH rfl bB rfl rfl) ?_)));simp only[zz];refine aK rfl ((m.b 1 rfl).lies1 bT rfl) ?_;simp only[zz];refine aA (aB) (aA (dJ (m:=3) (n:=2) (r:=1) rfl rfl (by decide) (by decide)) (aA (aB) (aA (fO (m:=1) (n:=8) (r:=8) rfl rfl (by decide)) ?_)));simp only[zz];refine aA (aP rfl rfl (aM (by omega) (by omega))) (aA (aN (c:=0) eH rfl bB rfl rfl) ?_);simp only[zz];refine aK rfl ((m.b 1 rfl).lies1 bT rfl) ?_;simp only[zz];refine aA (aB) (aA (gZ (m:=3) (n:=2) (r:=1) rfl rfl (by decide) (by decide)) (aA (dJ (m:=1) (n:=2) (r:=1) rfl rfl (by decide) (by decide)) (aA (aB) ?_)));simp only[zz];refine aA (fO (m:=1) (n:=8) (r:=8) rfl rfl (by decide)) ?_;simp only[zz];refine aA (aP rfl rfl (aM (by omega) (by omega))) (aA (aN (c:=0) eH rfl bB rfl rfl) ?_);simp only[zz];refine aK rfl ((m.b 1 rfl).lies1 bT rfl) ?_;simp only[zz];refine aA (aB) (aA (gZ (m:=3) (n:=4) (r:=0) rfl rfl (by decide) (by decide)) (aA (aB) (aA (fO (m:=0) (n:=8) (r:=0) rfl rfl (by decide)) ?_)));simp only[zz];refine aA (aP rfl rfl (aM (by omega) (by omega))) (aA (dR rfl rfl rfl) (aA (aH fW aF rfl rfl (by decide) (by decide) rfl) ?_));simp only[zz];refine aU m 0 rfl rfl rfl aF (eB rfl) rfl ?_;clear m;intro u m;simp only[zy,zx,bE,zF,zG,Nat.reduceAdd] at m;refine aG (k16 _ _ ?_);refine wp_region_lit (aA (aB) (aA (aP (m:=3) (n:=1) (r:=4) rfl rfl (by decide)) (aA (aC) (aG (aV (aD fun K17 k17=>aD fun K18 k18=>wp_region_lit (aA (aB) ?_)))))));simp only[zz];refine aA (bY (m:=4) (n:=8) rfl rfl (by decide)) (aG (k18 _ _ ?_));refine cG rfl (wp_skip (k17 _ _ ?_));refine aD fun K19 k19=>wp_block (wp_region_lit (aA (aB) (aA (aN (c:=0) eH rfl bB rfl rfl) ?_)));simp only[zz];refine aK rfl ((m.b 1 rfl).lies1 bT rfl) ?_;simp only[zz];refine aA (aB) (aA (dJ (m:=4) (n:=2) (r:=0) rfl rfl (by decide) (by decide)) (aA (aB) (aA (fO (m:=0) (n:=8) (r:=0) rfl rfl (by decide)) ?_)));simp only[zz];refine aA (aP rfl rfl (aM (by omega) (by omega))) (aA (aN (c:=0) eH rfl bB rfl rfl) ?_);simp only[zz];refine aK rfl ((m.b 1 rfl).lies1 bT rfl) ?_;simp only[zz];refine aA (aB) (aA (gZ (m:=4) (n:=2) (r:=2) rfl rfl (by decide) (by decide)) (aA (dJ (m:=2) (n:=2) (r:=0) rfl rfl (by decide) (by decide)) (aA (aB) ?_)));simp only[zz];refine aA (fO (m:=0) (n:=8) (r:=0) rfl rfl (by decide)) ?_;simp only[zz];refine aA (aP rfl rfl (aM (by omega) (by omega))) (aA (aN (c:=0) eH rfl bB rfl rfl) ?_);simp only[zz];refine aK rfl ((m.b 1 rfl).lies1 bT rfl) ?_;simp only[zz];refine aA (aB) (aA (gZ (m:=4) (n:=4) (r:=1) rfl rfl (by decide) (by decide)) (aA (aB) (aA (fO (m:=1) (n:=8) (r:=8) rfl rfl (by decide)) ?_)));simp only[zz];refine aA (aP rfl rfl (aM (by omega) (by omega))) (aA (dR rfl rfl rfl) (aA (aH fW aF rfl rfl (by decide) (by decide) rfl) ?_));simp only[zz];refine aU m 0 rfl rfl rfl aF (eB rfl) rfl ?_;clear m;intro u m;simp only[zy,zx,bE,zF,zG,Nat.reduceAdd] at m;refine aG (k19 _ _ ?_);refine wp_region_lit (aA (aB) (aA (aP (m:=4) (n:=1) (r:=5) rfl rfl (by decide)) (aA (aC) (aG (aV (aD fun K20 k20=>aD fun K21 k21=>wp_region_lit (aA (aB) ?_)))))));simp only[zz];refine aA (bY (m:=5) (n:=8) rfl rfl (by decide)) (aG (k21 _ _ ?_));refine cG rfl (wp_skip (k20 _ _ ?_));refine aD fun K22 k22=>wp_block (wp_region_lit (aA (aB) (aA (aN (c:=0) eH rfl bB rfl rfl) ?_)));simp only[zz];refine aK rfl ((m.b 1 rfl).lies1 bT rfl) ?_;simp only[zz];refine aA (aB) (aA (dJ (m:=5) (n:=2) (r:=1) rfl rfl (by decide) (by decide)) (aA (aB) (aA (fO (m:=1) (n:=8) (r:=8) rfl rfl (by decide)) ?_)));simp only[zz];refine aA (aP rfl rfl (aM (by omega) (by omega))) (aA (aN (c:=0) eH rfl bB rfl rfl) ?_);simp only[zz];refine aK rfl ((m.b 1 rfl).lies1 bT rfl) ?_;simp only[zz];refine aA (aB) (aA (gZ (m:=5) (n:=2) (r:=2) rfl rfl (by decide) (by decide)) (aA (dJ (m:=2) (n:=2) (r:=0) rfl rfl (by decide) (by decide)) (aA (aB) ?_)));simp only[zz];refine aA (fO (m:=0) (n:=8) (r:=0) rfl rfl (by decide)) ?_;simp only[zz];refine aA (aP rfl rfl (aM (by omega) (by omega))) (aA (aN (c:=0) eH rfl bB rfl rfl) ?_);simp only[zz];refine aK rfl ((m.b 1 rfl).lies1 bT rfl) ?_;simp only[zz];refine aA (aB) (aA (gZ (m:=5) (n:=4) (r:=1) rfl rfl (by decide) (by decide)) (aA (aB) (aA (fO (m:=1) (n:=8) (r:=8) rfl rfl (by decide)) ?_)));simp only[zz];refine aA (aP rfl rfl (aM (by omega) (by omega))) (aA (dR rfl rfl rfl) (aA (aH fW aF rfl rfl (by decide) (by decide) rfl) ?_));simp only[zz];refine aU m 0 rfl rfl rfl aF (eB rfl) rfl ?_;clear m;intro u m;simp only[zy,zx,bE,zF,zG,Nat.reduceAdd] at m;refine aG (k22 _ _ ?_);refine wp_region_lit (aA (aB) (aA (aP (m:=5) (n:=1) (r:=6) rfl rfl (by decide)) (aA (aC) (aG (aV (aD fun K23 k23=>aD fun K24 k24=>wp_region_lit (aA (aB) ?_)))))));simp only[zz];refine aA (bY (m:=6) (n:=8) rfl rfl (by decide)) (aG (k24 _ _ ?_));refine cG rfl (wp_skip (k23 _ _ ?_));refine aD fun K25 k25=>wp_block (wp_region_lit (aA (aB) (aA (aN (c:=0) eH rfl bB rfl rfl) ?_)));simp only[zz];refine aK rfl ((m.b 1 rfl).lies1 bT rfl) ?_;simp only[zz];refine aA (aB) (aA (dJ (m:=6) (n:=2) (r:=0) rfl rfl (by decide) (by decide)) (aA (aB) (aA (fO (m:=0) (n:=8) (r:=0) rfl rfl (by decide)) ?_)));simp only[zz];refine aA (aP rfl rfl (aM (by omega) (by omega))) (aA (aN (c:=0) eH rfl bB rfl rfl) ?_);simp only[zz];refine aK rfl ((m.b 1 rfl).lies1 bT rfl) ?_;simp only[zz];refine aA (aB) (aA (gZ (m:=6) (n:=2) (r:=3) rfl rfl (by decide) (by decide)) (aA (dJ (m:=3) (n:=2) (r:=1) rfl rfl (by decide) (by decide)) (aA (aB) ?_)));simp only[zz];refine aA (fO (m:=1) (n:=8) (r:=8) rfl rfl (by decide)) ?_;simp only[zz];refine aA (aP rfl rfl (aM (by omega) (by omega))) (aA (aN (c:=0) eH rfl bB rfl rfl) ?_);simp only[zz];refine aK rfl ((m.b 1 rfl).lies1 bT rfl) ?_;simp only[zz];refine aA (aB) (aA (gZ (m:=6) (n:=4) (r:=1) rfl rfl (by decide) (by decide)) (aA (aB) (aA (fO (m:=1) (n:=8) (r:=8) rfl rfl (by decide)) ?_)));simp only[zz];refine aA (aP rfl rfl (aM (by omega) (by omega))) (aA (dR rfl rfl rfl) (aA (aH fW aF rfl rfl (by decide) (by decide) rfl) ?_));simp only[zz];refine aU m 0 rfl rfl rfl aF (eB rfl) rfl ?_;clear m;intro u m;simp only[zy,zx,bE,zF,zG,Nat.reduceAdd] at m;refine aG (k25 _ _ ?_);refine wp_region_lit (aA (aB) (aA (aP (m:=6) (n:=1) (r:=7) rfl rfl (by decide)) (aA (aC) (aG (aV (aD fun K26 k26=>aD fun K27 k27=>wp_region_lit (aA (aB) ?_)))))));simp only[zz];refine aA (bY (m:=7) (n:=8) rfl rfl (by decide)) (aG (k27 _ _ ?_));refine cG rfl (wp_skip (k26 _ _ ?_));refine aD fun K28 k28=>wp_block (wp_region_lit (aA (aB) (aA (aN (c:=0) eH rfl bB rfl rfl) ?_)));simp only[zz];refine aK rfl ((m.b 1 rfl).lies1 bT rfl) ?_;simp only[zz];refine aA (aB) (aA (dJ (m:=7) (n:=2) (r:=1) rfl rfl (by decide) (by decide)) (aA (aB) (aA (fO (m:=1) (n:=8) (r:=8) rfl rfl (by decide)) ?_)));simp only[zz];refine aA (aP rfl rfl (aM (by omega) (by omega))) (aA (aN (c:=0) eH rfl bB rfl rfl) ?_);simp only[zz];refine aK rfl ((m.b 1 rfl).lies1 bT rfl) ?_;simp only[zz];refine aA (aB) (aA (gZ (m:=7) (n:=2) (r:=3) rfl rfl (by decide) (by decide)) (aA (dJ (m:=3) (n:=2) (r:=1) rfl rfl (by decide) (by decide)) (aA (aB) ?_)));simp only[zz];refine aA (fO (m:=1) (n:=8) (r:=8) rfl rfl (by decide)) ?_;simp only[zz];refine aA (aP rfl rfl (aM (by omega) (by omega))) (aA (aN (c:=0) eH rfl bB rfl rfl) ?_);simp only[zz];refine aK rfl ((m.b 1 rfl).lies1 bT rfl) ?_;simp only[zz];refine aA (aB) (aA (gZ (m:=7) (n:=4) (r:=1) rfl rfl (by decide) (by decide)) (aA (aB) (aA (fO (m:=1) (n:=8) (r:=8) rfl rfl (by decide)) ?_)));simp only[zz];refine aA (aP rfl rfl (aM (by omega) (by omega))) (aA (dR rfl rfl rfl) (aA (aH fW aF rfl rfl (by decide) (by decide) rfl) ?_));simp only[zz];refine aU m 0 rfl rfl rfl aF (eB rfl) rfl ?_;clear m;intro u m;simp only[zy,zx,bE,zF,zG,Nat.reduceAdd] at m;refine aG (k28 _ _ ?_);refine wp_region_lit (aA (aB) (aA (aP (m:=7) (n:=1) (r:=8) rfl rfl (by decide)) (aA (aC) (aG (aV (aD fun K29 k29=>aD fun K30 k30=>wp_region_lit (aA (aB) ?_)))))));simp only[zz];refine aA (eU (m:=8) (n:=8) rfl rfl (by decide)) (aG (k30 _ _ ?_));refine gX rfl (wp_exit (k3 _ _ ?_));refine aD fun K31 k31=>?_;simp only[zz];change cA w _ [bI g2 [.int .i64 (dL p 8 0).x,.int .i64 (dL p 8 0).y,.int .i64 (dL p 8 0).z,.int .i64 (dL p 8 1).x,.int .i64 (dL p 8 1).y,.int .i64 (dL p 8 1).z,.int .i64 (dL p 8 2).x,.int .i64 (dL p 8 2).y,.int .i64 (dL p 8 2).z,.int .i64 (dL p 8 3).x,.int .i64 (dL p 8 3).y,.int .i64 (dL p 8 3).z,.int .i64 (dL p 8 4).x,.int .i64 (dL p 8 4).y,.int .i64 (dL p 8 4).z,.int .i64 (dL p 8 5).x,.int .i64 (dL p 8 5).y,.int .i64 (dL p 8 5).z,.int .i64 (dL p 8 6).x,.int .i64 (dL p 8 6).y,.int .i64 (dL p 8 6).z,.int .i64 (dL p 8 7).x,.int .i64 (dL p 8 7).y,.int .i64 (dL p 8 7).z] _,_] at m;refine wp_region_lit (aA (aH fW aF rfl rfl (by decide) (by decide) rfl) ?_);simp only[zz];refine aK rfl ((m.b 0 rfl).lies aJ aF rfl rfl) ?_;simp only[zz,zy,Nat.zero_add,Nat.reduceAdd,Nat.reduceMul,Int.reduceToNat];refine aA (aH fW aF rfl rfl (by decide) (by decide) rfl) ?_;simp only[zz];refine aK rfl ((m.b 0 rfl).lies aJ aF rfl rfl) ?_;simp only[zz,zy,Nat.zero_add,Nat.reduceAdd,Nat.reduceMul,Int.reduceToNat];refine aA (aH fW aF rfl rfl (by decide) (by decide) rfl) ?_;simp only[zz];refine aK rfl ((m.b 0 rfl).lies aJ aF rfl rfl) ?_;simp only[zz,zy,Nat.zero_add,Nat.reduceAdd,Nat.reduceMul,Int.reduceToNat];refine aA (aH fW aF rfl rfl (by decide) (by decide) rfl) ?_;simp only[zz];refine aK rfl ((m.b 0 rfl).lies aJ aF rfl rfl) ?_;simp only[zz,zy,Nat.zero_add,Nat.reduceAdd,Nat.reduceMul,Int.reduceToNat];refine aZ rfl rfl (yA (a:=dL p 8 0) (b:=dL p 8 2) (c:=dL p 8 3) (d:=dL p 8 1) _) ?_;rintro v u e ⟨A1,cap1,_,rfl,rfl,hN⟩;replace m:=m.newO e hN;clear e hN;refine aA (aC) (aG (k31 _ _ ?_));refine aD fun K32 k32=>wp_region_lit (aA (aB) (aA (aH fW aF rfl rfl (by decide) (by decide) rfl) ?_));simp only[zz];refine aK rfl ((m.b 1 rfl).lies aJ aF rfl rfl) ?_;simp only[zz,zy,Nat.zero_add,Nat.reduceAdd,Nat.reduceMul,Int.reduceToNat];refine aA (aH fW aF rfl rfl (by decide) (by decide) rfl) ?_;simp only[zz];refine aK rfl ((m.b 1 rfl).lies aJ aF rfl rfl) ?_;simp only[zz,zy,Nat.zero_add,Nat.reduceAdd,Nat.reduceMul,Int.reduceToNat];refine aA (aH fW aF rfl rfl (by decide) (by decide) rfl) ?_;simp only[zz];refine aK rfl ((m.b 1 rfl).lies aJ aF rfl rfl) ?_;simp only[zz,zy,Nat.zero_add,Nat.reduceAdd,Nat.reduceMul,Int.reduceToNat];refine aA (aH fW aF rfl rfl (by decide) (by decide) rfl) ?_;simp only[zz];refine aK rfl ((m.b 1 rfl).lies aJ aF rfl rfl) ?_;simp only[zz,zy,Nat.zero_add,Nat.reduceAdd,Nat.reduceMul,Int.reduceToNat];refine aZ rfl rfl (yA (a:=dL p 8 4) (b:=dL p 8 5) (c:=dL p 8 7) (d:=dL p 8 6) _) ?_;rintro v u e ⟨A2,cap2,_,rfl,rfl,hN⟩;replace m:=m.newO e hN;clear e hN;simp only[zz];refine dT m 1 rfl rfl bQ mB rfl (by decide) rfl rfl (m.o 0 rfl).own.1 (m.o 0 rfl).row (mJ _) (eB rfl) (eB rfl) ?_;clear m;intro A1 cap1 u m;simp only[zF,zG] at m;refine aA (aC) (aG (k32 _ _ ?_));refine aD fun K33 k33=>wp_region_lit (aA (aB) (aA (aH fW aF rfl rfl (by decide) (by decide) rfl) ?_));simp only[zz];refine aK rfl ((m.b 2 rfl).lies aJ aF rfl rfl) ?_;simp only[zz,zy,Nat.zero_add,Nat.reduceAdd,Nat.reduceMul,Int.reduceToNat];refine aA (aH fW aF rfl rfl (by decide) (by decide) rfl) ?_;simp only[zz];refine aK rfl ((m.b 2 rfl).lies aJ aF rfl rfl) ?_;simp only[zz,zy,Nat.zero_add,Nat.reduceAdd,Nat.reduceMul,Int.reduceToNat];refine aA (aH fW aF rfl rfl (by decide) (by decide) rfl) ?_;simp only[zz];refine aK rfl ((m.b 2 rfl).lies aJ aF rfl rfl) ?_;simp only[zz,zy,Nat.zero_add,Nat.reduceAdd,Nat.reduceMul,Int.reduceToNat];refine aA (aH fW aF rfl rfl (by decide) (by decide) rfl) ?_;simp only[zz];refine aK rfl ((m.b 2 rfl).lies aJ aF rfl rfl) ?_;simp only[zz,zy,Nat.zero_add,Nat.reduceAdd,Nat.reduceMul,Int.reduceToNat];refine aZ rfl rfl (yA (a:=dL p 8 0) (b:=dL p 8 1) (c:=dL p 8 5) (d:=dL p 8 4) _) ?_;rintro v u e ⟨A3,cap3,_,rfl,rfl,hN⟩;replace m:=m.newO e hN;clear e hN;simp only[zz];refine dT m 2 rfl rfl bQ mB rfl (by decide) rfl rfl (m.o 0 rfl).own.1 (m.o 0 rfl).row (mJ _) (eB rfl) (eB rfl) ?_;clear m;intro A1 cap1 u m;simp only[zF,zG] at m;refine aA (aC) (aG (k33 _ _ ?_));refine aD fun K34 k34=>wp_region_lit (aA (aB) (aA (aH fW aF rfl rfl (by decide) (by decide) rfl) ?_));simp only[zz];refine aK rfl ((m.b 3 rfl).lies aJ aF rfl rfl) ?_;simp only[zz,zy,Nat.zero_add,Nat.reduceAdd,Nat.reduceMul,Int.reduceToNat];refine aA (aH fW aF rfl rfl (by decide) (by decide) rfl) ?_;simp only[zz];refine aK rfl ((m.b 3 rfl).lies aJ aF rfl rfl) ?_;simp only[zz,zy,Nat.zero_add,Nat.reduceAdd,Nat.reduceMul,Int.reduceToNat];refine aA (aH fW aF rfl rfl (by decide) (by decide) rfl) ?_;simp only[zz];refine aK rfl ((m.b 3 rfl).lies aJ aF rfl rfl) ?_;simp only[zz,zy,Nat.zero_add,Nat.reduceAdd,Nat.reduceMul,Int.reduceToNat];refine aA (aH fW aF rfl rfl (by decide) (by decide) rfl) ?_;simp only[zz];refine aK rfl ((m.b 3 rfl).lies aJ aF rfl rfl) ?_;simp only[zz,zy,Nat.zero_add,Nat.reduceAdd,Nat.reduceMul,Int.reduceToNat];refine aZ rfl rfl (yA (a:=dL p 8 2) (b:=dL p 8 6) (c:=dL p 8 7) (d:=dL p 8 3) _) ?_;rintro v u e ⟨A4,cap4,_,rfl,rfl,hN⟩;replace m:=m.newO e hN;clear e hN;simp only[zz];refine dT m 3 rfl rfl bQ mB rfl (by decide) rfl rfl (m.o 0 rfl).own.1 (m.o 0 rfl).row (mJ _) (eB rfl) (eB rfl) ?_;clear m;intro A1 cap1 u m;simp only[zF,zG] at m;refine aA (aC) (aG (k34 _ _ ?_));refine aD fun K35 k35=>wp_region_lit (aA (aB) (aA (aH fW aF rfl rfl (by decide) (by decide) rfl) ?_));simp only[zz];refine aK rfl ((m.b 4 rfl).lies aJ aF rfl rfl) ?_;simp only[zz,zy,Nat.zero_add,Nat.reduceAdd,Nat.reduceMul,Int.reduceToNat];refine aA (aH fW aF rfl rfl (by decide) (by decide) rfl) ?_;simp only[zz];refine aK rfl ((m.b 4 rfl).lies aJ aF rfl rfl) ?_;simp only[zz,zy,Nat.zero_add,Nat.reduceAdd,Nat.reduceMul,Int.reduceToNat];refine aA (aH fW aF rfl rfl (by decide) (by decide) rfl) ?_;simp only[zz];refine aK rfl ((m.b 4 rfl).lies aJ aF rfl rfl) ?_;simp only[zz,zy,Nat.zero_add,Nat.reduceAdd,Nat.reduceMul,Int.reduceToNat];refine aA (aH fW aF rfl rfl (by decide) (by decide) rfl) ?_;simp only[zz];refine aK rfl ((m.b 4 rfl).lies aJ aF rfl rfl) ?_;simp only[zz,zy,Nat.zero_add,Nat.reduceAdd,Nat.reduceMul,Int.reduceToNat];refine aZ rfl rfl (yA (a:=dL p 8 0) (b:=dL p 8 4) (c:=dL p 8 6) (d:=dL p 8 2) _) ?_;rintro v u e ⟨A5,cap5,_,rfl,rfl,hN⟩;replace m:=m.newO e hN;clear e hN;simp only[zz];refine dT m 4 rfl rfl bQ mB rfl (by decide) rfl rfl (m.o 0 rfl).own.1 (m.o 0 rfl).row (mJ _) (eB rfl) (eB rfl) ?_;clear m;intro A1 cap1 u m;simp only[zF,zG] at m;refine aA (aC) (aG (k35 _ _ ?_));refine aD fun K36 k36=>wp_region_lit (aA (aB) (aA (aH fW aF rfl rfl (by decide) (by decide) rfl) ?_));simp only[zz];refine aK rfl ((m.b 5 rfl).lies aJ aF rfl rfl) ?_;simp only[zz,zy,Nat.zero_add,Nat.reduceAdd,Nat.reduceMul,Int.reduceToNat];refine aA (aH fW aF rfl rfl (by decide) (by decide) rfl) ?_;simp only[zz];refine aK rfl ((m.b 5 rfl).lies aJ aF rfl rfl) ?_;simp only[zz,zy,Nat.zero_add,Nat.reduceAdd,Nat.reduceMul,Int.reduceToNat];refine aA (aH fW aF rfl rfl (by decide) (by decide) rfl) ?_;simp only[zz];refine aK rfl ((m.b 5 rfl).lies aJ aF rfl rfl) ?_;simp only[zz,zy,Nat.zero_add,Nat.reduceAdd,Nat.reduceMul,Int.reduceToNat];refine aA (aH fW aF rfl rfl (by decide) (by decide) rfl) ?_;simp only[zz];refine aK rfl ((m.b 5 rfl).lies aJ aF rfl rfl) ?_;simp only[zz,zy,Nat.zero_add,Nat.reduceAdd,Nat.reduceMul,Int.reduceToNat];refine aZ rfl rfl (yA (a:=dL p 8 1) (b:=dL p 8 3) (c:=dL p 8 7) (d:=dL p 8 5) _) ?_;rintro v u e ⟨A6,cap6,_,rfl,rfl,hN⟩;replace m:=m.newO e hN;clear e hN;simp only[zz];refine dT m 5 rfl rfl bQ mB rfl (by decide) rfl rfl (m.o 0 rfl).own.1 (m.o 0 rfl).row (mJ _) (eB rfl) (eB rfl) ?_;clear m;intro A1 cap1 u m;simp only[zF,zG] at m;refine aA (aC) (aG (k36 _ _ ?_));refine wp_ret ?_;simp only[zz];try simp only[Exit.inBlock,Exit.then,if_true]
 refine bM rfl rfl ?_;try simp only[zD,zE]
 exact ⟨_,rfl,m.ext,⟨_,_,_,rfl,rfl,((m.o 5 rfl)).as (by simp only[uW,List.flatMap_append])⟩⟩
theorem abk {b : Nat} (w : World) (hb : b < 134217728) : eK prog 42 [.int .i64 (b : Int),.int .i64 8,.agg #[.int .i64 4,.int .i64 5,.int .i64 6]] w (TS 53 (Va b) w):=by
 refine ⟨afw,?_⟩;have m:=cA.refl w;have hb0:=hb
 go_enter func42,ntmps42
 refine aD fun K1 k1=>wp_region_lit (eD m rfl ?_);clear m;intro g1 u m;refine aA (aC) (aG (k1 _ _ ?_));refine aD fun K2 k2=>wp_region_lit (aA (aC) ?_);replace m:=m.nilO 53 9;refine aG (k2 _ _ ?_);refine aD fun K3 k3=>aD fun K4 k4=>wp_region_lit (aA (aC) ?_);simp only[zz];refine aG (k4 _ _ ?_);refine wp_block ?_;try simp only[Nat.zero_add,Nat.reduceAdd,Nat.reduceMul,Int.reduceToNat]
 refine bK [7,8] [9,10,11,12,13,14,15,16,17,18,19,20,21,22,23,24,25,26,27,28,29,30,31,32,33,34,35,36,37,38,39,40,41,42,43,44,45,46,47,48,49,50,51,52,53,54,55,56,57,58,59,60,61,62,63,64,65,66,67,68,69,70,71,72,73,74,75,76,77,78,79,80,81,82,83,84,85,86,87,88,89,90,91,92,93,94,95,96,97,98,99,100,101,102,103,104,105,106,107,108,109,110,111,112,113,114,115,116,117,118,119,120,121,122,123,124,125,126,127,128,129,130,131,132,133,134,135,136,137,138,139] (fun n vs wl=>∃ (A1 : Option Addr) (cap1 k : Nat),vs = [.slice A1 (iK b (k) (0)).length cap1,.int .i64 (k:Int)] ∧ cA w wl [oI 53 9 A1 (iK b (k) (0)).length cap1 ((iK b (k) (0)).flatMap aW),bI g1 [.int .i64 4,.int .i64 5,.int .i64 6] 48] ∧ (k ≤ 27) ∧ (n = 27 - k)) ?_ ?_
 ·
  apply Exists.intro;simp only[zQ,zR,zD,zE];exact ⟨none,0,0,rfl,m,Nat.zero_le _,rfl⟩
 ·
  intro n vs wr hI u;clear m;obtain ⟨A1,cap1,k,rfl,m,hk,hn⟩:=hI;simp only[zu,zF,zG];refine aD fun K5 k5=>aD fun K6 k6=>wp_region_lit (aA (aB) (aA (cF rfl rfl) (aG (k6 _ _ ?_))));simp only[zz];refine bW rfl (fun hc1=>?_) (fun hc1=>?_)
  ·
   refine wp_skip (k5 _ _ ?_);refine aD fun K7 k7=>wp_block (aD fun K8 k8=>wp_region_lit (aA (aB) ?_));simp only[zz];refine aA (dJ rfl rfl (by omega) (Io (k:=k) (c:=3))) (aA (aC) (aG (k8 _ _ ?_)));refine aD fun K9 k9=>wp_region_lit (aA (aB) ?_);simp only[zz];refine aA (gZ rfl rfl (by omega) (Pa (n:=3) (by omega))) ?_;simp only[zz];refine aA (dJ rfl rfl (by omega) (Io (k:=k / 3) (c:=3))) (aA (aC) (aG (k9 _ _ ?_)));refine aD fun K10 k10=>wp_region_lit (aA (aB) ?_);simp only[zz];refine aA (gZ rfl rfl (by omega) (Pa (n:=9) (by omega))) (aA (aC) (aG (k10 _ _ ?_)));refine aD fun K11 k11=>aD fun K12 k12=>wp_region_lit (aA (aB) (aA (aB) ?_));simp only[zz];refine aA (kA underlying113 jM rfl (fF (by omega) (by omega))) ?_;simp only[zz];refine aA (qY rfl rfl (by omega) (aeS (by omega) (by omega))) (aA (rW rfl rfl (aeT (Zh hb))) (aA (iG rfl rfl) (aG (k12 _ _ ?_))));simp only[zz];refine bW rfl (fun hc2=>?_) (fun hc2=>?_)
   ·
    have hv : Cw b k = false:=by unfold Cw;exact decide_eq_false (by have:=hc2;simp only[Int.toNat_natCast] at this;omega)
    rw [Vb hv] at m ⊢;refine wp_exit (k7 _ _ ?_);refine wp_region_lit (aA (aB) ?_);simp only[zz];refine aA (aP rfl rfl (aM (by omega) (by omega))) (aA (aC) (aG ?_));simp only[zz];simp only[Exit.inBlock,Exit.then];refine ⟨27 - (k + 1),_,?_,rfl,?_,?_⟩
    · omega
    · simp only[zz,zv]
    ·
     simp only[zQ,zR,zD,zE];exact ⟨_,_,k + 1,rfl,m,by omega,rfl⟩
   ·
    have hv : Cw b k = true:=by unfold Cw;exact decide_eq_true (by have:=hc2;simp only[Int.toNat_natCast] at this;omega)
    refine wp_skip (k11 _ _ ?_);refine aD fun K13 k13=>wp_region_lit (aA (aN (c:=0) eH rfl bB rfl rfl) ?_);simp only[zz];refine aK rfl ((m.b 1 rfl).lies1 bT rfl) ?_;simp only[zz];refine aA (aB) (aA (aB) ?_);simp only[zz];refine aA (fO rfl rfl (aM (by omega) (by omega))) ?_;simp only[zz];refine aA (aP rfl rfl (aM (by omega) (by omega))) (aA (aN (c:=0) eH rfl bB rfl rfl) ?_);simp only[zz];refine aK rfl ((m.b 1 rfl).lies1 bT rfl) ?_;simp only[zz];refine aA (aB) (aA (aB) ?_);simp only[zz];refine aA (fO rfl rfl (aM (by omega) (by omega))) ?_;simp only[zz];refine aA (aP rfl rfl (aM (by omega) (by omega))) (aA (aN (c:=0) eH rfl bB rfl rfl) ?_);simp only[zz];refine aK rfl ((m.b 1 rfl).lies1 bT rfl) ?_;simp only[zz];refine aA (aB) (aA (aB) ?_);simp only[zz];refine aA (fO rfl rfl (aM (by omega) (by omega))) ?_;simp only[zz];refine aA (aP rfl rfl (aM (by omega) (by omega))) (aA (dR rfl rfl rfl) ?_);simp only[zz];refine bF m bR rfl ?_;clear m;intro g2 u m;simp only[zz];refine aU m 0 rfl rfl rfl aF (eB rfl) rfl ?_;clear m;intro u m;simp only[zy,zx,bE,zF,zG,Nat.reduceAdd] at m;refine aG (k13 _ _ ?_);refine aD fun K14 k14=>wp_region_lit (aK rfl ((m.b 0 rfl).full aJ aF) ?_);simp only[zz];refine aA (aB) ?_;simp only[zz];refine aZ rfl rfl (aeI (p:=vP k) _ (acU (by omega))) ?_;rintro v u e ⟨A2,cap2,_,rfl,rfl,hN⟩;replace m:=m.newO e hN;clear e hN;obtain ⟨gc,rfl⟩:=(m.o 0 rfl).some (by rw [pV];decide);rw [pV] at m ⊢;refine aA (aC) (aG (k14 _ _ ?_));refine aD fun K15 k15=>wp_region_lit (aA (jE rfl rfl rfl) (aA (jE rfl rfl rfl) ?_));simp only[zz];refine aA (jE rfl rfl rfl) (aA (jE rfl rfl rfl) (aA (jE rfl rfl rfl) (aA (jE rfl rfl rfl) ?_)));simp only[zz];refine aA (sJ rfl rfl rfl rfl rfl rfl) ?_;simp only[zz];refine bF m Nl rfl ?_;clear m;intro g3 u m;simp only[zz];refine aU m 0 rfl rfl rfl Vr (eB rfl) rfl ?_;clear m;intro u m;simp only[zy,zx,bE,zF,zG,Nat.reduceAdd] at m;refine aG (k15 _ _ ?_);refine aD fun K16 k16=>wp_region_lit (aA (aC) (aG (k16 _ _ ?_)));refine wp_block ?_;simp only[zz];try simp only[Nat.zero_add,Nat.reduceAdd,Nat.reduceMul,Int.reduceToNat]
    refine bK [7,15] [16,17,18,19,66,67,68,69,70,71,72,73,74,75,76,77,78,79,80,81,82,83,84,85,86,87,88,89,90,91,92,93,94,95,96,97,98,99,100,101,102,103,104,105,106,107,108,109,110,111,112,113,114,115,116,117,118,119,120,121,122,123,124,125,126,127,128,129,130,131,132,133,134,135,136,137,138,139] (fun n vs wl=>∃ (A1 : Option Addr) (cap1 f : Nat),vs = [.slice A1 (iK b (k) (f)).length cap1,.int .i64 (f:Int)] ∧ cA w wl [bI g3 wD 115,oI 53 9 (some ⟨gc,0,none⟩) 12 cap2 ((uW (vP k) 8).flatMap aW),oI 53 9 A1 (iK b (k) (f)).length cap1 ((iK b (k) (f)).flatMap aW),bI g1 [.int .i64 4,.int .i64 5,.int .i64 6] 48] ∧ (f ≤ 6) ∧ (n = 6 - f)) ?_ ?_
    ·
     apply Exists.intro;simp only[zQ,zR,zD,zE];exact ⟨_,_,0,rfl,(m.sel [true,true,false,true,true]),Nat.zero_le _,rfl⟩
    ·
     intro n vs wr hI u;clear m;obtain ⟨A1,cap1,f,rfl,m,hf6,hn2⟩:=hI;simp only[zu,zF,zG];refine aD fun K17 k17=>aD fun K18 k18=>wp_region_lit (aA (aB) (aA (cF rfl rfl) (aG (k18 _ _ ?_))));simp only[zz];refine bW rfl (fun hc3=>?_) (fun hc3=>?_)
     ·
      have hf : f < 6:=by omega
      have hs:=aeX f;obtain ⟨t,u0,ht,hu,hpr⟩:=Zp (n:=k) hf;refine wp_skip (k17 _ _ ?_);refine aD fun K19 k19=>wp_block (aD fun K20 k20=>wp_region_lit (aA (aB) (aA (aB) ?_)));simp only[zz];refine aA (aH underlying115 iL rfl rfl (by omega) (by omega) (lZ (Int.toNat_natCast _))) (aA (aH qM bB rfl rfl (by decide) (by decide) rfl) ?_);simp only[zz];refine aK rfl ((m.b 0 rfl).lies1 (i:=f * 3) bT (aeU hf)) ?_;simp only[zz];refine aA (aP rfl rfl (aM (by omega) (by omega))) (aA (aC) (aG (k20 _ _ ?_)));refine aD fun K21 k21=>wp_region_lit (aA (aB) (aA (aB) ?_));simp only[zz];refine aA (aH underlying115 iL rfl rfl (by omega) (by omega) (lZ (Int.toNat_natCast _))) (aA (aH qM bB rfl rfl (by decide) (by decide) rfl) ?_);simp only[zz];refine aK rfl ((m.b 0 rfl).lies1 (i:=f * 3 + 1) bT (aeV hf)) ?_;simp only[zz];refine aA (aP rfl rfl (aM (by omega) (by omega))) (aA (aC) (aG (k21 _ _ ?_)));refine aD fun K22 k22=>wp_region_lit (aA (aB) (aA (aB) ?_));simp only[zz];refine aA (aH underlying115 iL rfl rfl (by omega) (by omega) (lZ (Int.toNat_natCast _))) (aA (aH qM bB rfl rfl (by decide) (by decide) rfl) ?_);simp only[zz];refine aK rfl ((m.b 0 rfl).lies1 (i:=f * 3 + 2) bT (aeW hf)) ?_;simp only[zz];refine aA (aP rfl rfl (aM (by omega) (by omega))) (aA (aC) (aG (k22 _ _ ?_)));refine aD fun K23 k23=>wp_region_lit (aA (aB) (aA (pT rfl rfl) ?_));simp only[zz];refine aA (aB) (cU rfl (fun hb=>aB) (cU rfl (fun hb=>cF (bO hb rfl) rfl) (aA (cL rfl rfl rfl) ?_)));simp only[zz];refine aA (aB) (cU rfl (fun hb=>aB) (cU rfl (fun hb=>pT (bO hb rfl) rfl) (aA (cL rfl rfl rfl) ?_)));simp only[zz];refine aA (aB) (cU rfl (fun hb=>aB) (cU rfl (fun hb=>cF (bO hb rfl) rfl) (aA (cL rfl rfl rfl) ?_)));simp only[zz];refine aA (aB) (cU rfl (fun hb=>aB) (cU rfl (fun hb=>pT (bO hb rfl) rfl) (aA (cL rfl rfl rfl) ?_)));simp only[zz];refine aA (aB) (cU rfl (fun hb=>aB) (cU rfl (fun hb=>cF (bO hb rfl) rfl) (aA (cL rfl rfl rfl) ?_)));simp only[zz];refine aA (aC) (aG (k23 _ _ ?_));refine aD fun K24 k24=>wp_region_lit (aA (aB) (aA (eZ rfl) (aA (aB) ?_)));simp only[zz];refine fK rfl (fun hb=>aB) (fK rfl (fun hb=>aB) ?_);simp only[zz];refine fK rfl (fun hb=>fO (bO hb rfl) rfl (aM (by omega) (by omega))) (fK rfl (fun hb=>aB) ?_);simp only[zz];refine fK rfl (fun hb=>aP (bO hb rfl) (bO hb rfl) (aM (by omega) (by omega))) ?_;simp only[zz];refine fK rfl (fun hb=>fO (bO hb rfl) rfl (aM (by omega) (by omega))) (fK rfl (fun hb=>aB) ?_);simp only[zz];refine fK rfl (fun hb=>aP (bO hb rfl) (bO hb rfl) (aM (by omega) (by omega))) (fK rfl (fun hb=>kA underlying113 jM (bO hb rfl) (fF (by have h:=vin hb;omega) (by have h:=vin hb;omega))) ?_);simp only[zz];refine fK rfl (fun hb=>qY (bO hb rfl) (bO hb rfl) (by have h:=vin hb;omega) (aeS (by have h:=vin hb;omega) (by have h:=vin hb;omega))) (fK rfl (fun hb=>rW (bO hb rfl) rfl (aeT (Zh hb0))) (fK rfl (fun hb=>iG (bO hb rfl) rfl) (aA (fV rfl rfl rfl) ?_)));simp only[zz];refine aG (k24 _ _ ?_);refine lY rfl (fun hc4=>?_) (fun hc4=>?_)
      ·
       have hvf:=(Nb (b:=b) (n:=k) (f:=f)).symm.trans hc4;refine mh m [true,true,false,true] [(0,true),(1,true),(2,true),(3,true),(4,true),(6,true),(7,true),(8,true),(9,true),(10,true),(5,true),(11,true),(12,false),(13,false),(14,true)] aO (by kernel_rfl) (dV (fun _ _ _ _ _ h=>h)) (ol:=?_) ?hol ?_
       case hol=>simp only[zw,zQ,zR];try rfl
       clear m;intro u m;refine bH (aB) (bH (aB) (bH (aB) ?_));simp only[zz];refine bH (fO rfl rfl (aM (by omega) (by omega))) ?_;simp only[zz];refine bH (aI bQ aQ rfl rfl (by omega) (by omega) (bV (show _ = 2 * f by omega))) (bH (aB) (bH (aB) ?_));simp only[zz];refine bH (fO rfl rfl (aM (by omega) (by omega))) ?_;simp only[zz];refine bH (aP rfl rfl (aM (by omega) (by omega))) ?_;simp only[zz];refine bH (aI bQ aQ rfl rfl (by omega) (by omega) (bV (show _ = 2 * f + 1 by omega))) ?_;simp only[zz];refine dQ rfl (fun u m=>(((m.o 1 rfl).tri ht).lies eP aQ)) ?_;simp only[zz];refine dQ rfl (fun u m=>(((m.o 1 rfl).tri hu).lies eP aQ)) ?_;simp only[zz];refine cZ (wI rfl rfl ?_);intro u g4 e hg hB;replace m:=m.newB e hg hB;clear e hg hB;refine aG (⟨m.sel [false,true,true,false,true],?_⟩);refine cZ ?_;simp only[zz];refine dT m 3 rfl rfl bQ mB rfl (by decide) rfl rfl rfl (m.b 0 rfl).rowsO (qV rfl) (by have:=Bb (b:=b) (n:=k) (f:=f) (by omega) (by omega);omega) (by have:=Bb (b:=b) (n:=k) (f:=f) (by omega) (by omega);omega) ?_;clear m;intro A1 cap1 u m;simp only[zF,zG] at m;rw [Vf hpr hvf,Su hf hvf] at m;rw [Su hf hvf];refine aG (⟨m.sel [false,true,true,false,true],?_⟩);refine bH (aC) (eC (k19 _ _ ?_));refine wp_region_lit (aA (aB) ?_);simp only[zz];refine aA (aP rfl rfl (aM (by omega) (by omega))) (aA (aC) (aG ?_));simp only[zz];simp only[Exit.inBlock,Exit.then];refine ⟨6 - (f + 1),_,?_,rfl,?_,?_⟩
       · omega
       · simp only[zz,zv]
       ·
        simp only[zQ,zR,zD,zE];exact ⟨_,_,f + 1,rfl,(m.sel [false,true,true,true,true]),by omega,rfl⟩
      ·
       have hvf:=(Nb (b:=b) (n:=k) (f:=f)).symm.trans hc4;rw [← Qo hvf] at m ⊢;refine wp_skip (k19 _ _ ?_);refine wp_region_lit (aA (aB) ?_);simp only[zz];refine aA (aP rfl rfl (aM (by omega) (by omega))) (aA (aC) (aG ?_));simp only[zz];simp only[Exit.inBlock,Exit.then];refine ⟨6 - (f + 1),_,?_,rfl,?_,?_⟩
       · omega
       · simp only[zz,zv]
       ·
        simp only[zQ,zR,zD,zE];exact ⟨_,_,f + 1,rfl,m,by omega,rfl⟩
     ·
      have hfq : f = 6:=by omega
      rw [hfq,Qn hv] at m ⊢;refine wp_exit (k7 _ _ ?_);refine wp_region_lit (aA (aB) ?_);simp only[zz];refine aA (aP rfl rfl (aM (by omega) (by omega))) (aA (aC) (aG ?_));simp only[zz];simp only[Exit.inBlock,Exit.then];refine ⟨27 - (k + 1),_,?_,rfl,?_,?_⟩
      · omega
      · simp only[zz,zv]
      ·
       simp only[zQ,zR,zD,zE];exact ⟨_,_,k + 1,rfl,(m.sel [false,false,true,true]),by omega,rfl⟩
  ·
   have hkq : k = 27:=by omega
   rw [hkq,Es] at m ⊢;refine wp_exit (k3 _ _ ?_);refine aD fun K25 k25=>wp_region_lit (aA (aB) (aA (aC) (aG (k25 _ _ ?_))));refine wp_ret ?_;simp only[zz];try simp only[Exit.inBlock,Exit.then,if_true]
   refine bM rfl rfl ?_;try simp only[zD,zE]
   exact ⟨_,rfl,m.ext,⟨_,_,_,rfl,rfl,(m.o 0 rfl)⟩⟩
theorem aeJ {kind bits : Int} [Iw kind] [Iw bits] {N cap : Nat} {A : Option Addr} {zs : List Int} (w : World) (hZ : nQ w A N zs) : eK prog 22 [.int .i64 kind,.int .i64 bits,.slice A N cap] w (TS 53 (rC kind bits zs) w):=by
 refine ⟨afe,?_⟩;have m:=cA.refl w;have hbb:=oX (n:=bits) (m:=134217728) (by decide);haveI : Iw (kind.tdiv 3):=⟨(Nc (Iw.h (n:=kind))).2⟩
 go_enter func22,ntmps22
 refine aD fun K1 k1=>wp_region_lit (aA (aC) (aG (k1 _ _ ?_)));refine aD fun K2 k2=>aD fun K3 k3=>wp_region_lit (aA (aB) ?_);simp only[zz];refine fA m rfl rfl (lI (n:=kind) (k:=3) (by decide) (by decide)) ?_;clear m;intro u m;refine aA (iG rfl rfl) (aG (k3 _ _ ?_));simp only[zz];refine bW rfl (fun hc1=>?_) (fun hc1=>?_)
 ·
  refine aD fun K4 k4=>wp_region_lit (aA (aB) ?_);simp only[zz];refine fA m rfl rfl (lI (n:=bits) (k:=134217728) (by decide) (by decide)) ?_;clear m;intro u m;refine aA (dR rfl rfl rfl) ?_;simp only[zz];rw [show bits % 134217728 = (((bits % 134217728).toNat : Nat) : Int) by omega];refine aZ rfl rfl (abk (b:=(bits % 134217728).toNat) _ (by omega)) ?_;rintro v u e ⟨A1,cap1,_,rfl,rfl,hN⟩;replace m:=m.newO e hN;clear e hN;refine aA (aC) (aG (k4 _ _ ?_));refine wp_ret ?_;simp only[zz];try simp only[Exit.inBlock,Exit.then,if_true]
  refine bM rfl rfl ?_;try simp only[zD,zE]
  exact ⟨_,rfl,m.ext,by rw [rC,if_pos hc1];exact ⟨_,_,_,rfl,rfl,(m.o 0 rfl)⟩⟩
 ·
  refine wp_skip (k2 _ _ ?_);refine aD fun K5 k5=>wp_region_lit (aA (aB) ?_);simp only[zz];refine aA (gZ rfl rfl (by omega) (Nc (Iw.h (n:=kind))).1) (aA (aB) ?_);simp only[zz];refine aZ rfl rfl (acH (n0:=kind.tdiv 3) _ (hZ.ext m.ext)) ?_;rintro v u e ⟨A1,cap1,_,rfl,rfl,hN⟩;replace m:=m.newO e hN;clear e hN;refine aA (aC) (aG (k5 _ _ ?_));refine wp_ret ?_;simp only[zz];try simp only[Exit.inBlock,Exit.then,if_true]
  refine bM rfl rfl ?_;try simp only[zD,zE]
  exact ⟨_,rfl,m.ext,by rw [rC,if_neg hc1];exact ⟨_,_,_,rfl,rfl,(m.o 0 rfl)⟩⟩
end Go.Proofs.YtfohfflkhpfjeaaGreatDoor
namespace Go.Proofs.YtfohfflkhpfjeaaGreatDoor
open Go.Proofs.Tryz
open Go.RowKit Go.Lith
set_option maxRecDepth 100000
attribute [local irreducible] wpList wpQuiet dW dM dK Code.wp
theorem aeK {i N : Nat} {L : Int} (h : ((decide ((i : Int) < (N : Int)) && decide ((i : Int) < 12)) && decide (0 < L)) = true) : i < N ∧ i < 12 ∧ 0 < L:=by
 simp only[Bool.and_eq_true,decide_eq_true_eq] at h;omega
theorem ahi {x y z : Bool} (h : ((x && y) && !z) = true) : x = true ∧ y = true ∧ z = false:=by revert h;cases x <;> cases y <;> cases z <;> decide
theorem Xr {ts : List T3} {qs : List Q4} {N cap NQ capQ : Nat} {A AQ : Option Addr} (w : World) (hT : dZ w A N ts) (hN : N ≤ 100000) (hQ : mU q4C 4 w AQ NQ qs) (hI : ∀ q ∈ qs,IQ q) : eK prog 19 [.slice A N cap,.slice AQ NQ capQ] w (fun v w'=>∃ us ms A7 c7 A8 c8 i,v = .tuple #[.slice A7 us.length c7,.slice A8 ms.length c8] ∧ cA w w' [oI 50 6 A8 ms.length c8 (ms.flatMap bP),oI 53 9 A7 us.length c7 (us.flatMap aW)] ∧ i ≤ 12 ∧ Bz (aS ts) ts i us ms):=by
 refine ⟨afc,?_⟩;have m:=cA.refl w;obtain rfl : ts.length = N:=hT.len;have hbl : (aS ts).length ≤ 1000000:=by have h1:=qK (all:=bJ ts) (bJ ts) [];have h2:=kZ ts;simp only[List.length_nil] at h1;unfold aS;omega
 go_enter func19,ntmps19
 refine aD fun K1 k1=>wp_region_lit (aA (aC) (aA (aC) (aG (k1 _ _ ?_))));refine aD fun K2 k2=>wp_region_lit (aA (aB) ?_);simp only[zz];refine aZ rfl rfl (yZ _ (hT.ext m.ext) (by omega)) ?_;rintro v u e ⟨A6,c6,n6,hn6,rfl,hN⟩;replace m:=m.newO e hN;clear e hN;subst hn6;refine aA (aC) (aG (k2 _ _ ?_));refine aD fun K3 k3=>wp_region_lit ?_;simp only[zz];refine yI bQ (c:=9) (by kernel_rfl)  ?_;intro u g1 e hg hB;replace m:=m.newB e hg hB;clear e hg hB;simp only[zz];replace m:=m.own 0 rfl (n:=0) (c:=9) rfl (eB rfl);simp only[zG] at m;refine aA (aB) ?_;simp only[zz];refine dT m 0 rfl rfl bQ mB rfl (by decide) rfl rfl (by rw [wC,hT.len]) (dZ.cells (hT.ext m.ext)) (mJ _) (by omega) (by omega) ?_;clear m;intro A7 cap7 u m;simp only[zF,zG] at m;rw [List.nil_append,Nat.zero_add] at m;rw [Nat.zero_add];refine aA (aC) (aG (k3 _ _ ?_));refine aD fun K4 k4=>wp_region_lit (aA (aC) ?_);replace m:=m.nilO 50 6;refine aG (k4 _ _ ?_);refine aD fun K5 k5=>aD fun K6 k6=>wp_region_lit (aA (aC) ?_);simp only[zz];refine aG (k6 _ _ ?_);refine wp_block ?_;try simp only[Nat.zero_add,Nat.reduceAdd,Nat.reduceMul,Int.reduceToNat]
 refine bK [7,8,9] [10,11,12,13,14,15,16,17,18,19,20,21,27,28,29,30,31,32,33,34,35,36,37,38,39,40,41,42,43,44,45,46,47,48,49,50,51,52,53,54,55,56,57,58,59,60,61,62,63,64,65,66,67,68,69,70,71,72,73,74,75,76,77,78,79,80,81,82,83,84,85,86,87,88,89,90,91,92,93,94,95,96,97,98,99,100,101,102,103,104,105,106,107,108,109,110,111,112,113,114,115,116,117,118,119,120,121,122,123,124,125,126,127,128,129,130,131,132,133,134,135,136,137,138,139,140,141,142,143,144,145,146,147,148,149,150,151,152,153,154,155,156,157,158,159,160,161,162,163,164,165,166,167,168,169,170,171,172,173,174,175,176,177,178,179,180,181,182,183,184,185,186,187,188,189,190,191,192,193,194,195,196,197,198,199,200] (fun n vs wl=>∃ (us : List T3) (ms : List Mv) (A7 : Option Addr) (c7 : Nat) (A8 : Option Addr) (c8 i : Nat),vs = [.slice A7 us.length c7,.slice A8 ms.length c8,.int .i64 (i:Int)] ∧ cA w wl [oI 50 6 A8 ms.length c8 (ms.flatMap bP),oI 53 9 A7 us.length c7 (us.flatMap aW),oI 57 6 A6 (aS ts).length c6 ((aS ts).flatMap bP)] ∧ (Bz (aS ts) ts i us ms) ∧ (i ≤ 12) ∧ (n = 12 - i)) ?_ ?_
 ·
  apply Exists.intro;simp only[zQ,zR,zD,zE];exact ⟨_,[],_,_,_,_,0,rfl,m,Bz.nil,Nat.zero_le _,rfl⟩
 ·
  intro n vs wr hI u;clear m;obtain ⟨us,ms,A7,c7,A8,c8,i,rfl,m,hdv,hi,hn⟩:=hI;simp only[zu,zF,zG];refine aD fun K7 k7=>aD fun K8 k8=>wp_region_lit (aA (aB) (aA (aB) (aA (aX rfl vD rfl) (aA (cF rfl rfl) ?_))));simp only[zz];refine aA (aB) (cU rfl (fun hb=>aB) (cU rfl (fun hb=>cF (bO hb rfl) rfl) (aA (cL rfl rfl rfl) ?_)));simp only[zz];refine aA (aB) (cU rfl (fun hb=>aB) (cU rfl (fun hb=>aX rfl bQ (bO hb rfl)) (cU rfl (fun hb=>nZ (bO hb rfl) rfl) ?_)));simp only[zz];refine aA (cL rfl rfl rfl) (aG (k8 _ _ ?_));simp only[zz];refine eI rfl (fun hc1=>?_) (fun hc1=>?_)
  ·
   obtain ⟨hi1,hi2,hi3⟩:=aeK hc1;obtain ⟨q,hq,aq,rfl,hrow⟩:=hQ.get (i:=i) (by omega);obtain ⟨hqa,hqb,hqc,hqd⟩:=hI q (List.mem_of_getElem? hq);haveI : Iw q.a:=⟨hqa⟩
   haveI : Iw q.b:=⟨hqb⟩
   haveI : Iw q.c:=⟨hqc⟩
   haveI : Iw q.d:=⟨hqd⟩
   haveI : Iw (q.b.tdiv 40):=⟨(abg hqb).2⟩
   have hlen:=hdv.len;have hpos : 0 < us.length:=by omega
   obtain ⟨gO,rfl⟩:=(m.o 1 rfl).some hpos;obtain ⟨k,hk,hkl⟩:=oY (q:=q.a) hpos;obtain ⟨c,hc,hc3⟩ : ∃ c : Nat,q.d % 3 = (c : Int) ∧ c < 3:=oY (N:=3) (by decide);obtain ⟨t,htk⟩:=Kw hkl;have hb1:=oX (n:=q.b) (m:=40) (by decide);have hb3:=oX (n:=q.c) (m:=300) (by decide);refine wp_skip (k7 _ _ ?_);refine aD fun K9 k9=>wp_block (aD fun K10 k10=>wp_region_lit (aA (aB) (aA (aB) ?_)));simp only[zz];refine aA (aI vD sG rfl rfl (by omega) (by omega) (bV (Int.toNat_natCast _))) (aA (aH Jy bB rfl rfl (by decide) (by decide) rfl) ?_);simp only[zz];refine aK rfl (lies1 ((hrow.ext m.ext) 0 _ rfl) bT) ?_;simp only[zz];refine aA (aB) (aA (aX rfl bQ rfl) ?_);simp only[zz];refine fA m rfl rfl (lI (n:=q.a) (k:=(us.length : Int)) (by omega) (by omega)) ?_;clear m;intro u m;refine aA (aC) (aG ?_);simp only[zz];rw [hk];refine k10 _ _ ?_;refine aD fun K11 k11=>wp_region_lit (aA (aB) (aA (aB) ?_));simp only[zz];refine aA (aI bQ aQ rfl rfl (by omega) (by omega) (bV (Int.toNat_natCast _))) ?_;simp only[zz];refine aK rfl (((m.o 1 rfl).tri htk).lies eP aQ) ?_;simp only[zz];refine bF m jX rfl ?_;clear m;intro g2 u m;simp only[zz];refine aU m 0 rfl rfl rfl aQ (eB rfl) rfl ?_;clear m;intro u m;simp only[zy,zx,bE,zF,zG,Nat.reduceAdd] at m;refine aG (k11 _ _ ?_);refine aD fun K12 k12=>?_;refine gR 26 [0,1,2,3,4,5,6,7,8,9,10,11,12,13,14,15,16,17,18,19,20,21,22,23,24] [⟨25,12,48,[.int .i64 0,.int .i64 0,.int .i64 0]⟩] aO (by kernel_rfl) (al1 ⟨_,_,_,rfl,by kernel_rfl,_,bR,rfl⟩) (ol:=?_) ?hol ?_
   case hol=>simp only[zw,zQ,zR];try rfl
   intro u e;replace m:=m.ext' e;clear e;refine fE (aB) ?_;simp only[zz];refine fE (fO rfl rfl (aM (by omega) (by omega))) ?_;simp only[zz];refine fE (aP rfl rfl (aM (by omega) (by omega))) (fE (aB) (fE (aB) ?_));simp only[zz];refine fE (aI vD sG rfl rfl (by omega) (by omega) (bV (Int.toNat_natCast _))) (fE (aH Jy bB rfl rfl (by decide) (by decide) rfl) ?_);simp only[zz];refine jO rfl (fun u e=>(lies1 ((hrow.ext (m.ext' e).ext) 1 _ rfl) bT)) ?_;simp only[zz];refine jB rfl rfl (lI (n:=q.b) (k:=40) (by decide) (by decide)) ?_;simp only[zz];refine fE (aP rfl rfl (aM (by omega) (by omega))) (fE (aB) (fE (aB) ?_));simp only[zz];refine fE (aI vD sG rfl rfl (by omega) (by omega) (bV (Int.toNat_natCast _))) (fE (aH Jy bB rfl rfl (by decide) (by decide) rfl) ?_);simp only[zz];refine jO rfl (fun u e=>(lies1 ((hrow.ext (m.ext' e).ext) 1 _ rfl) bT)) ?_;simp only[zz];refine fE (gZ rfl rfl (by omega) (abg (Iw.h (n:=q.b))).1) ?_;simp only[zz];refine jB rfl rfl (lI (n:=q.b.tdiv 40) (k:=200) (by decide) (by decide)) (fE (aB) (fE (aB) ?_));simp only[zz];refine fE (aI vD sG rfl rfl (by omega) (by omega) (bV (Int.toNat_natCast _))) (fE (aH Jy bB rfl rfl (by decide) (by decide) rfl) ?_);simp only[zz];refine jO rfl (fun u e=>(lies1 ((hrow.ext (m.ext' e).ext) 2 _ rfl) bT)) ?_;simp only[zz];refine jB rfl rfl (lI (n:=q.c) (k:=300) (by decide) (by decide)) ?_;simp only[zz];refine fE (eX rfl rfl (aM (by omega) (by omega))) (fE (dR rfl rfl rfl) (Ch ?_));simp only[zz];refine mf1 m ?_;clear m;intro g3 u m;simp only[zJ,zK,zF,zG];refine aU m 0 rfl rfl rfl aF (eB rfl) rfl ?_;clear m;intro u m;simp only[zy,zx,bE,zF,zG,Nat.reduceAdd] at m;refine aG ?_;obtain ⟨p,hpe⟩ : ∃ p,p = aeG i q:=⟨_,rfl⟩
   rw [show 100 + 50 * (i : Int) + q.b % 40 = p.x by rw [hpe];rfl,show q.b.tdiv 40 % 200 = p.y by rw [hpe];rfl,show q.c % 300 - 50 = p.z by rw [hpe];rfl] at m;have hpp : Ka i p:=by rw [hpe];exact acF i q
   clear hpe;refine k12 _ _ ?_;refine aD fun K13 k13=>wp_region_lit (aA (aB) (aA (aB) ?_));simp only[zz];refine aA (aI vD sG rfl rfl (by omega) (by omega) (bV (Int.toNat_natCast _))) (aA (aH Jy bB rfl rfl (by decide) (by decide) rfl) ?_);simp only[zz];refine aK rfl (lies1 ((hrow.ext m.ext) 3 _ rfl) bT) ?_;simp only[zz];refine fA m rfl rfl (lI (n:=q.d) (k:=3) (by decide) (by decide)) ?_;clear m;intro u m;refine aA (aC) (aG ?_);simp only[zz];rw [hc];refine k13 _ _ ?_;refine aD fun K14 k14=>wp_region_lit (aA (aB) ?_);simp only[zz];refine aA (aH bG aF rfl rfl (by omega) (by omega) (bV (Int.toNat_natCast _))) ?_;simp only[zz];refine aK rfl ((jG.cor (c:=c) (show jG _ _ (aW t) from ((m.b 1 rfl)).row 0) (by omega)).lies aJ aF) ?_;simp only[zz];refine bF m bR rfl ?_;clear m;intro g4 u m;simp only[zz];refine aU m 0 rfl rfl rfl aF (eB rfl) rfl ?_;clear m;intro u m;simp only[zy,zx,bE,zF,zG,Nat.reduceAdd] at m;refine aG (k14 _ _ ?_);refine aD fun K15 k15=>wp_region_lit (aA (aB) ?_);simp only[zz];refine aA (aP rfl rfl (aM (by omega) (by omega))) ?_;simp only[zz];refine aA (dJ rfl rfl (by omega) (Io (k:=c + 1))) ?_;simp only[zz];refine aA (aH bG aF rfl rfl (by omega) (by omega) (bV (Int.toNat_natCast _))) ?_;simp only[zz];refine aK rfl ((jG.cor (c:=(c + 1) % 3) (show jG _ _ (aW t) from ((m.b 2 rfl)).row 0) (by omega)).lies aJ aF) ?_;simp only[zz];refine bF m bR rfl ?_;clear m;intro g5 u m;simp only[zz];refine aU m 0 rfl rfl rfl aF (eB rfl) rfl ?_;clear m;intro u m;simp only[zy,zx,bE,zF,zG,Nat.reduceAdd] at m;refine aG (k15 _ _ ?_);refine aD fun K16 k16=>wp_region_lit (aA (aB) ?_);simp only[zz];refine aA (aP rfl rfl (aM (by omega) (by omega))) ?_;simp only[zz];refine aA (dJ rfl rfl (by omega) (Io (k:=c + 2))) ?_;simp only[zz];refine aA (aH bG aF rfl rfl (by omega) (by omega) (bV (Int.toNat_natCast _))) ?_;simp only[zz];refine aK rfl ((jG.cor (c:=(c + 2) % 3) (show jG _ _ (aW t) from ((m.b 3 rfl)).row 0) (by omega)).lies aJ aF) ?_;simp only[zz];refine bF m bR rfl ?_;clear m;intro g6 u m;simp only[zz];refine aU m 0 rfl rfl rfl aF (eB rfl) rfl ?_;clear m;intro u m;simp only[zy,zx,bE,zF,zG,Nat.reduceAdd] at m;refine aG (k16 _ _ ?_);refine aD fun K17 k17=>wp_region_lit (aA (aB) ?_);simp only[zz];refine aK rfl ((m.b 1 rfl).full aJ aF) ?_;simp only[zz];refine aK rfl ((m.b 2 rfl).full aJ aF) ?_;simp only[zz];refine dY m rfl rfl (aaA (p:=(t.cor ((c + 1) % 3))) (q:=(t.cor c)) _ ((m.o 6 rfl).lat adq (by decide)) (by omega)) ?_;clear m;rintro v u m rfl;refine aA (aC) (aG (k17 _ _ ?_));refine aD fun K18 k18=>wp_region_lit (aA (aB) ?_);simp only[zz];refine aK rfl ((m.b 2 rfl).full aJ aF) ?_;simp only[zz];refine dY m rfl rfl (tY (p:=(t.cor c)) _ ((m.o 7 rfl).lat mD (by decide)) (by omega)) ?_;clear m;rintro v u m rfl;refine aA (aB) (cU rfl (fun hb=>aB) ?_);simp only[zz];refine fC rfl (fun hb=>cE rfl ((m.b 1 rfl).full aJ aF)) (rH m rfl rfl (fun hb=>by simp only[List.toList_toArray,List.map_cons,List.map_nil,zA,zB,zC,zD,zE,hb,pC];rfl) (fun hb=>tY (p:=(t.cor ((c + 1) % 3))) _ ((m.o 7 rfl).lat mD (by decide)) (by omega)) ?_);clear m;intro u m;refine aA (cL rfl rfl rfl) (aA (aC) (aG (k18 _ _ ?_)));refine aD fun K19 k19=>aD fun K20 k20=>wp_region_lit (aA (aB) ?_);simp only[zz];refine aA (aB) ?_;simp only[zz];refine aA (aI vD sG rfl rfl (by omega) (by omega) (bV (Int.toNat_natCast _))) (aA (aH Jy bB rfl rfl (by decide) (by decide) rfl) ?_);simp only[zz];refine aK rfl (lies1 ((hrow.ext m.ext) 3 _ rfl) bT) ?_;simp only[zz];refine aA (dJ rfl rfl (by omega) rfl) (aA (iG rfl rfl) (aA (aB) (cU rfl (fun hb=>aB) ?_)));simp only[zz];refine cU rfl (fun hb=>pT (bO hb rfl) rfl) (aA (cL rfl rfl rfl) (aA (aB) (cU rfl (fun hb=>aB) ?_)));simp only[zz];refine cU rfl (fun hb=>eZ (bO hb rfl)) (aA (cL rfl rfl rfl) (aG (k20 _ _ ?_)));simp only[zz];refine eI rfl (fun hc2=>?_) (fun hc2=>?_)
   ·
    obtain ⟨h2a,h2b,h2c⟩:=ahi hc2;obtain ⟨hop,hbn⟩ | ⟨j,o,x,hop,hto,hfx,hbx⟩:=Jk us (t.cor ((c + 1) % 3)) (t.cor c)
    · rw [hop] at h2b;simp at h2b
    rw [hop];have hjl:=(List.getElem?_eq_some_iff.1 hto).1;have hnb : ¬ (Aa (aS ts) (t.cor c) = true ∧ Aa (aS ts) (t.cor ((c + 1) % 3)) = true):=fun h=>by have h3:=hc2;rw [h.1,h.2] at h3;simp at h3
    refine aD fun K21 k21=>wp_region_lit (aA (aB) (aA (aB) ?_));simp only[zz];refine aA (aI bQ aQ rfl rfl (by omega) (by omega) (bV (Int.toNat_natCast _))) ?_;simp only[zz];refine aK rfl (((m.o 6 rfl).tri hto).lies eP aQ) ?_;simp only[zz];refine bF m jX rfl ?_;clear m;intro g7 u m;simp only[zz];refine aU m 0 rfl rfl rfl aQ (eB rfl) rfl ?_;clear m;intro u m;simp only[zy,zx,bE,zF,zG,Nat.reduceAdd] at m;refine aG (k21 _ _ ?_);refine aD fun K22 k22=>wp_region_lit (aA (aH bG aF rfl rfl (by decide) (by decide) rfl) ?_);simp only[zz];refine aK rfl ((m.b 0 rfl).lies aJ aF rfl rfl) ?_;simp only[zz,zy,Nat.zero_add,Nat.reduceAdd,Nat.reduceMul,Int.reduceToNat];refine bF m bR rfl ?_;clear m;intro g8 u m;simp only[zz];refine aU m 0 rfl rfl rfl aF (eB rfl) rfl ?_;clear m;intro u m;simp only[zy,zx,bE,zF,zG,Nat.reduceAdd] at m;refine aG (k22 _ _ ?_);refine aD fun K23 k23=>aD fun K24 k24=>wp_region_lit (aA (aC) (aG (k24 _ _ ?_)));refine wp_block (wp_loop_rounds 4 (dS (aD fun K25 k25=>aD fun K26 k26=>wp_region_lit (aA (aB) (aA (bY (m:=0) (n:=3) rfl rfl (by decide)) (aG (k26 _ _ ?_)))))));refine cG rfl (wp_skip (k25 _ _ ?_));refine aD fun K27 k27=>wp_block (aD fun K28 k28=>?_);simp only[zz];refine mq m aO (by kernel_rfl) (aL (aB) (aL (aH bG aF rfl rfl (by decide) (by decide) rfl) ?_));simp only[zz];refine ql rfl (fun u m=>((m.b 1 rfl).lies aJ aF rfl rfl)) ?_;simp only[zz,zy,Nat.zero_add,Nat.reduceAdd,Nat.reduceMul,Int.reduceToNat];refine ql rfl (fun u m=>((m.b 4 rfl).full aJ aF)) ?_;simp only[zz];refine aL (gE rfl rfl) (aL (aB) (cO rfl (fun hb=>aB) (cO rfl (fun hb=>aH bG aF rfl (bO hb rfl) (by decide) (by decide) rfl) ?_)));simp only[zz];refine iD rfl (fun hb u m=>cE (bO hb rfl) ((m.b 1 rfl).lies aJ aF rfl rfl)) ?_;simp only[zz,zy,Nat.zero_add,Nat.reduceAdd,Nat.reduceMul,Int.reduceToNat];refine iD rfl (fun hb u m=>cE rfl ((m.b 3 rfl).full aJ aF)) (cO rfl (fun hb=>gE (bO hb rfl) (bO hb rfl)) (aL (cL rfl rfl rfl) (dF ?_)));clear m;intro u m;refine k28 _ _ ?_;simp only[zz];refine pY m 0 [] [147,148,149] (fun vs i=>vs = [] ∧ i = bI g8 [.int .i64 (jY (o.cor 0) (o.cor 0) (t.cor c) (t.cor ((c + 1) % 3))).x,.int .i64 (jY (o.cor 0) (o.cor 0) (t.cor c) (t.cor ((c + 1) % 3))).y,.int .i64 (jY (o.cor 0) (o.cor 0) (t.cor c) (t.cor ((c + 1) % 3))).z] 48) ?_ ?_
    ·
     refine eI rfl (fun hc4=>?_) (fun hc4=>?_)
     ·
      refine wp_region_lit (aA (aB) (aA (aH bG aF rfl rfl (by decide) (by decide) rfl) ?_));simp only[zz];refine aK rfl ((m.b 1 rfl).lies aJ aF rfl rfl) ?_;simp only[zz,zy,Nat.zero_add,Nat.reduceAdd,Nat.reduceMul,Int.reduceToNat];refine aU m 0 rfl rfl rfl aF (eB rfl) rfl ?_;clear m;intro u m;simp only[zy,zx,bE,zF,zG,Nat.reduceAdd] at m;refine aG ?_;simp only[Exit.inBlock,Exit.then];refine ⟨_,_,rfl,?_,m,?_⟩
      · simp only[zz,zv]
      ·
       simp only[zQ,zR,zD,zE];exact ⟨trivial,by rw [abh (e:=(o.cor 0)) (x:=o.cor 0) hc4] <;> rfl⟩
     ·
      refine wp_skip ?_;simp only[Exit.inBlock,Exit.then];refine ⟨_,_,rfl,?_,m,?_⟩
      · simp only[zz,zv]
      ·
       simp only[zQ,zR,zD,zE];exact ⟨trivial,by rw [abi (e:=(o.cor 0)) (x:=o.cor 0) hc4] <;> rfl⟩
    ·
     intro vs i wr m hI u;obtain ⟨rfl,rfl⟩:=hI;simp only[zF,zG] at m;simp only[zu,zF,zG];refine k27 _ _ (wp_region_lit (aA (aB) (aA (aP (m:=0) (n:=1) (r:=1) rfl rfl (by decide)) (aA (aC) (aG (aV (aD fun K29 k29=>aD fun K30 k30=>wp_region_lit (aA (aB) ?_))))))));simp only[zz];refine aA (bY (m:=1) (n:=3) rfl rfl (by decide)) (aG (k30 _ _ ?_));refine cG rfl (wp_skip (k29 _ _ ?_));refine aD fun K31 k31=>wp_block (aD fun K32 k32=>?_);simp only[zz];refine mq m aO (by kernel_rfl) (aL (aB) (aL (aH bG aF rfl rfl (by decide) (by decide) rfl) ?_));simp only[zz];refine ql rfl (fun u m=>((m.b 1 rfl).lies aJ aF rfl rfl)) ?_;simp only[zz,zy,Nat.zero_add,Nat.reduceAdd,Nat.reduceMul,Int.reduceToNat];refine ql rfl (fun u m=>((m.b 4 rfl).full aJ aF)) ?_;simp only[zz];refine aL (gE rfl rfl) (aL (aB) (cO rfl (fun hb=>aB) (cO rfl (fun hb=>aH bG aF rfl (bO hb rfl) (by decide) (by decide) rfl) ?_)));simp only[zz];refine iD rfl (fun hb u m=>cE (bO hb rfl) ((m.b 1 rfl).lies aJ aF rfl rfl)) ?_;simp only[zz,zy,Nat.zero_add,Nat.reduceAdd,Nat.reduceMul,Int.reduceToNat];refine iD rfl (fun hb u m=>cE rfl ((m.b 3 rfl).full aJ aF)) (cO rfl (fun hb=>gE (bO hb rfl) (bO hb rfl)) (aL (cL rfl rfl rfl) (dF ?_)));clear m;intro u m;refine k32 _ _ ?_;simp only[zz];refine pY m 0 [] [147,148,149] (fun vs i=>vs = [] ∧ i = bI g8 [.int .i64 (jY (jY (o.cor 0) (o.cor 0) (t.cor c) (t.cor ((c + 1) % 3))) (o.cor 1) (t.cor c) (t.cor ((c + 1) % 3))).x,.int .i64 (jY (jY (o.cor 0) (o.cor 0) (t.cor c) (t.cor ((c + 1) % 3))) (o.cor 1) (t.cor c) (t.cor ((c + 1) % 3))).y,.int .i64 (jY (jY (o.cor 0) (o.cor 0) (t.cor c) (t.cor ((c + 1) % 3))) (o.cor 1) (t.cor c) (t.cor ((c + 1) % 3))).z] 48) ?_ ?_
     ·
      refine eI rfl (fun hc4=>?_) (fun hc4=>?_)
      ·
       refine wp_region_lit (aA (aB) (aA (aH bG aF rfl rfl (by decide) (by decide) rfl) ?_));simp only[zz];refine aK rfl ((m.b 1 rfl).lies aJ aF rfl rfl) ?_;simp only[zz,zy,Nat.zero_add,Nat.reduceAdd,Nat.reduceMul,Int.reduceToNat];refine aU m 0 rfl rfl rfl aF (eB rfl) rfl ?_;clear m;intro u m;simp only[zy,zx,bE,zF,zG,Nat.reduceAdd] at m;refine aG ?_;simp only[Exit.inBlock,Exit.then];refine ⟨_,_,rfl,?_,m,?_⟩
       · simp only[zz,zv]
       ·
        simp only[zQ,zR,zD,zE];exact ⟨trivial,by rw [abh (e:=(jY (o.cor 0) (o.cor 0) (t.cor c) (t.cor ((c + 1) % 3)))) (x:=o.cor 1) hc4] <;> rfl⟩
      ·
       refine wp_skip ?_;simp only[Exit.inBlock,Exit.then];refine ⟨_,_,rfl,?_,m,?_⟩
       · simp only[zz,zv]
       ·
        simp only[zQ,zR,zD,zE];exact ⟨trivial,by rw [abi (e:=(jY (o.cor 0) (o.cor 0) (t.cor c) (t.cor ((c + 1) % 3)))) (x:=o.cor 1) hc4] <;> rfl⟩
     ·
      intro vs i wr m hI u;obtain ⟨rfl,rfl⟩:=hI;simp only[zF,zG] at m;simp only[zu,zF,zG];refine k31 _ _ (wp_region_lit (aA (aB) (aA (aP (m:=1) (n:=1) (r:=2) rfl rfl (by decide)) (aA (aC) (aG (aV (aD fun K33 k33=>aD fun K34 k34=>wp_region_lit (aA (aB) ?_))))))));simp only[zz];refine aA (bY (m:=2) (n:=3) rfl rfl (by decide)) (aG (k34 _ _ ?_));refine cG rfl (wp_skip (k33 _ _ ?_));refine aD fun K35 k35=>wp_block (aD fun K36 k36=>?_);simp only[zz];refine mq m aO (by kernel_rfl) (aL (aB) (aL (aH bG aF rfl rfl (by decide) (by decide) rfl) ?_));simp only[zz];refine ql rfl (fun u m=>((m.b 1 rfl).lies aJ aF rfl rfl)) ?_;simp only[zz,zy,Nat.zero_add,Nat.reduceAdd,Nat.reduceMul,Int.reduceToNat];refine ql rfl (fun u m=>((m.b 4 rfl).full aJ aF)) ?_;simp only[zz];refine aL (gE rfl rfl) (aL (aB) (cO rfl (fun hb=>aB) (cO rfl (fun hb=>aH bG aF rfl (bO hb rfl) (by decide) (by decide) rfl) ?_)));simp only[zz];refine iD rfl (fun hb u m=>cE (bO hb rfl) ((m.b 1 rfl).lies aJ aF rfl rfl)) ?_;simp only[zz,zy,Nat.zero_add,Nat.reduceAdd,Nat.reduceMul,Int.reduceToNat];refine iD rfl (fun hb u m=>cE rfl ((m.b 3 rfl).full aJ aF)) (cO rfl (fun hb=>gE (bO hb rfl) (bO hb rfl)) (aL (cL rfl rfl rfl) (dF ?_)));clear m;intro u m;refine k36 _ _ ?_;simp only[zz];refine pY m 0 [] [147,148,149] (fun vs i=>vs = [] ∧ i = bI g8 [.int .i64 (jY (jY (jY (o.cor 0) (o.cor 0) (t.cor c) (t.cor ((c + 1) % 3))) (o.cor 1) (t.cor c) (t.cor ((c + 1) % 3))) (o.cor 2) (t.cor c) (t.cor ((c + 1) % 3))).x,.int .i64 (jY (jY (jY (o.cor 0) (o.cor 0) (t.cor c) (t.cor ((c + 1) % 3))) (o.cor 1) (t.cor c) (t.cor ((c + 1) % 3))) (o.cor 2) (t.cor c) (t.cor ((c + 1) % 3))).y,.int .i64 (jY (jY (jY (o.cor 0) (o.cor 0) (t.cor c) (t.cor ((c + 1) % 3))) (o.cor 1) (t.cor c) (t.cor ((c + 1) % 3))) (o.cor 2) (t.cor c) (t.cor ((c + 1) % 3))).z] 48) ?_ ?_
      ·
       refine eI rfl (fun hc4=>?_) (fun hc4=>?_)
       ·
        refine wp_region_lit (aA (aB) (aA (aH bG aF rfl rfl (by decide) (by decide) rfl) ?_));simp only[zz];refine aK rfl ((m.b 1 rfl).lies aJ aF rfl rfl) ?_;simp only[zz,zy,Nat.zero_add,Nat.reduceAdd,Nat.reduceMul,Int.reduceToNat];refine aU m 0 rfl rfl rfl aF (eB rfl) rfl ?_;clear m;intro u m;simp only[zy,zx,bE,zF,zG,Nat.reduceAdd] at m;refine aG ?_;simp only[Exit.inBlock,Exit.then];refine ⟨_,_,rfl,?_,m,?_⟩
        · simp only[zz,zv]
        ·
         simp only[zQ,zR,zD,zE];exact ⟨trivial,by rw [abh (e:=(jY (jY (o.cor 0) (o.cor 0) (t.cor c) (t.cor ((c + 1) % 3))) (o.cor 1) (t.cor c) (t.cor ((c + 1) % 3)))) (x:=o.cor 2) hc4] <;> rfl⟩
       ·
        refine wp_skip ?_;simp only[Exit.inBlock,Exit.then];refine ⟨_,_,rfl,?_,m,?_⟩
        · simp only[zz,zv]
        ·
         simp only[zQ,zR,zD,zE];exact ⟨trivial,by rw [abi (e:=(jY (jY (o.cor 0) (o.cor 0) (t.cor c) (t.cor ((c + 1) % 3))) (o.cor 1) (t.cor c) (t.cor ((c + 1) % 3)))) (x:=o.cor 2) hc4] <;> rfl⟩
      ·
       intro vs i wr m hI u;obtain ⟨rfl,rfl⟩:=hI;simp only[zF,zG] at m;simp only[zu,zF,zG];refine k35 _ _ (wp_region_lit (aA (aB) (aA (aP (m:=2) (n:=1) (r:=3) rfl rfl (by decide)) (aA (aC) (aG (aV (aD fun K37 k37=>aD fun K38 k38=>wp_region_lit (aA (aB) ?_))))))));simp only[zz];refine aA (eU (m:=3) (n:=3) rfl rfl (by decide)) (aG (k38 _ _ ?_));refine gX rfl (wp_exit (k23 _ _ ?_));refine aD fun K39 k39=>wp_region_lit (aA (aB) (aA (aB) ?_));simp only[zz];refine aK rfl ((m.b 4 rfl).full aJ aF) ?_;simp only[zz];refine aK rfl ((m.b 5 rfl).full aJ aF) ?_;simp only[zz];refine aK rfl ((m.b 2 rfl).full aJ aF) ?_;simp only[zz];refine aA (bN rfl rfl rfl) ?_;simp only[zz];refine aA (aI bQ aQ rfl rfl (by omega) (by omega) (lZ (Int.toNat_natCast _))) ?_;simp only[zz];refine lV m 8 rfl rfl rfl aQ (by simp only[List.length_cons,List.length_nil,Nat.zero_add,Nat.reduceAdd,Int.reduceToNat,Nat.reduceMul];omega) rfl ?_;clear m;intro u m;simp only[zF,zG] at m;try simp only[Nat.zero_add] at m
       rw [show bE (us.flatMap aW) (k * 9) [.int .i64 (t.cor c).x,.int .i64 (t.cor c).y,.int .i64 (t.cor c).z,.int .i64 p.x,.int .i64 p.y,.int .i64 p.z,.int .i64 (t.cor ((c + 2) % 3)).x,.int .i64 (t.cor ((c + 2) % 3)).y,.int .i64 (t.cor ((c + 2) % 3)).z] = (us.set k (⟨(t.cor c),p,(t.cor ((c + 2) % 3))⟩ : T3)).flatMap aW from sC (u:=(⟨(t.cor c),p,(t.cor ((c + 2) % 3))⟩ : T3)) htk] at m;refine aG (k39 _ _ ?_);refine aD fun K40 k40=>wp_region_lit (aA (aB) (aA (aB) ?_));simp only[zz];refine aK rfl ((m.b 3 rfl).full aJ aF) ?_;simp only[zz];refine aK rfl ((m.b 5 rfl).full aJ aF) ?_;simp only[zz];refine aK rfl ((m.b 0 rfl).full aJ aF) ?_;simp only[zz];refine aA (bN rfl rfl rfl) ?_;simp only[zz];refine aA (aI bQ aQ rfl rfl (by omega) (by omega) (lZ (Int.toNat_natCast _))) ?_;simp only[zz];refine lV m 8 rfl rfl rfl aQ (by simp only[List.length_cons,List.length_nil,Nat.zero_add,Nat.reduceAdd,Int.reduceToNat,Nat.reduceMul];omega) rfl ?_;clear m;intro u m;simp only[zF,zG] at m;try simp only[Nat.zero_add] at m
       rw [show bE ((us.set k (⟨(t.cor c),p,(t.cor ((c + 2) % 3))⟩ : T3)).flatMap aW) (j * 9) [.int .i64 (t.cor ((c + 1) % 3)).x,.int .i64 (t.cor ((c + 1) % 3)).y,.int .i64 (t.cor ((c + 1) % 3)).z,.int .i64 p.x,.int .i64 p.y,.int .i64 p.z,.int .i64 (jY (jY (jY (o.cor 0) (o.cor 0) (t.cor c) (t.cor ((c + 1) % 3))) (o.cor 1) (t.cor c) (t.cor ((c + 1) % 3))) (o.cor 2) (t.cor c) (t.cor ((c + 1) % 3))).x,.int .i64 (jY (jY (jY (o.cor 0) (o.cor 0) (t.cor c) (t.cor ((c + 1) % 3))) (o.cor 1) (t.cor c) (t.cor ((c + 1) % 3))) (o.cor 2) (t.cor c) (t.cor ((c + 1) % 3))).y,.int .i64 (jY (jY (jY (o.cor 0) (o.cor 0) (t.cor c) (t.cor ((c + 1) % 3))) (o.cor 1) (t.cor c) (t.cor ((c + 1) % 3))) (o.cor 2) (t.cor c) (t.cor ((c + 1) % 3))).z] = ((us.set k (⟨(t.cor c),p,(t.cor ((c + 2) % 3))⟩ : T3)).set j (⟨(t.cor ((c + 1) % 3)),p,(xY o (t.cor c) (t.cor ((c + 1) % 3)))⟩ : T3)).flatMap aW from sC (u:=(⟨(t.cor ((c + 1) % 3)),p,(xY o (t.cor c) (t.cor ((c + 1) % 3)))⟩ : T3)) (List.getElem?_eq_getElem (by simp only[List.length_set];omega))] at m;refine aG (k40 _ _ ?_);refine wp_region_lit (aA (aB) ?_);simp only[zz];refine aK rfl ((m.b 5 rfl).full aJ aF) ?_;simp only[zz];refine aK rfl ((m.b 3 rfl).full aJ aF) ?_;simp only[zz];refine aK rfl ((m.b 2 rfl).full aJ aF) ?_;simp only[zz];refine aA (bN rfl rfl rfl) ?_;simp only[zz];refine aK rfl ((m.b 5 rfl).full aJ aF) ?_;simp only[zz];refine aK rfl ((m.b 4 rfl).full aJ aF) ?_;simp only[zz];refine aK rfl ((m.b 0 rfl).full aJ aF) ?_;simp only[zz];refine aA (bN rfl rfl rfl) ?_;simp only[zz];refine wI rfl rfl ?_;intro u g9 e hg hB;replace m:=m.newB e hg hB;clear e hg hB;simp only[zz];refine dT m 9 rfl rfl bQ mB rfl (by decide) rfl rfl rfl (m.b 0 rfl).rowsO (qV rfl) (by omega) (by omega) ?_;clear m;intro A7 cap7 u m;simp only[zF,zG] at m;rw [show (((us.set k (⟨(t.cor c),p,(t.cor ((c + 2) % 3))⟩ : T3)).set j (⟨(t.cor ((c + 1) % 3)),p,(xY o (t.cor c) (t.cor ((c + 1) % 3)))⟩ : T3)).flatMap aW) ++ _ = (((us.set k (⟨(t.cor c),p,(t.cor ((c + 2) % 3))⟩ : T3)).set j (⟨(t.cor ((c + 1) % 3)),p,(xY o (t.cor c) (t.cor ((c + 1) % 3)))⟩ : T3)) ++ [(⟨p,(t.cor ((c + 1) % 3)),(t.cor ((c + 2) % 3))⟩ : T3),(⟨p,(t.cor c),(xY o (t.cor c) (t.cor ((c + 1) % 3)))⟩ : T3)]).flatMap aW by rw [List.flatMap_append];rfl] at m;rw [show us.length + 2 = (((us.set k (⟨(t.cor c),p,(t.cor ((c + 2) % 3))⟩ : T3)).set j (⟨(t.cor ((c + 1) % 3)),p,(xY o (t.cor c) (t.cor ((c + 1) % 3)))⟩ : T3)) ++ [(⟨p,(t.cor ((c + 1) % 3)),(t.cor ((c + 2) % 3))⟩ : T3),(⟨p,(t.cor c),(xY o (t.cor c) (t.cor ((c + 1) % 3)))⟩ : T3)]).length by simp only[List.length_append,List.length_set,List.length_cons,List.length_nil]] at m;rw [show us.length + 2 = (((us.set k (⟨(t.cor c),p,(t.cor ((c + 2) % 3))⟩ : T3)).set j (⟨(t.cor ((c + 1) % 3)),p,(xY o (t.cor c) (t.cor ((c + 1) % 3)))⟩ : T3)) ++ [(⟨p,(t.cor ((c + 1) % 3)),(t.cor ((c + 2) % 3))⟩ : T3),(⟨p,(t.cor c),(xY o (t.cor c) (t.cor ((c + 1) % 3)))⟩ : T3)]).length by simp only[List.length_append,List.length_set,List.length_cons,List.length_nil]];refine aA (aC) (aG (k19 _ _ ?_));simp only[zz];refine mh m [true,true,true,true,true,true,true,true,false,true,true] [(0,true),(2,true),(1,true),(3,true),(4,false),(5,true),(6,false),(7,false),(8,true)] aO (by kernel_rfl) (dV (fun _ _ _ _ _ h=>h)) (ol:=?_) ?hol ?_
       case hol=>simp only[zw,zQ,zR];try rfl
       clear m;intro u m;refine bH (aB) (bH (aB) ?_);simp only[zz];refine dQ rfl (fun u m=>((m.b 6 rfl).full aJ aF)) ?_;simp only[zz];refine dQ rfl (fun u m=>((m.b 5 rfl).full aJ aF)) ?_;simp only[zz];refine cZ (dY m rfl rfl (vR (p:=(t.cor c)) _ ((m.o 8 rfl).lat mD (by decide)) (by omega)) ?_);clear m;rintro v u m rfl;refine aG (⟨m.sel [true,true,true,true,true,true,true,true,false,true,true],?_⟩);refine bH (kI rfl rfl) (cZ ?_);simp only[zz];refine lA rfl ?_;intro u g10 e hg hB;replace m:=m.newB e hg hB;clear e hg hB;refine aG (⟨m.sel [false,true,true,true,true,true,true,true,true,false,true,true],?_⟩);refine cZ ?_;simp only[zz];refine dT m 9 rfl rfl fP xR rfl (by decide) rfl rfl rfl (m.b 0 rfl).rowsO (qV rfl) (by omega) (by omega) ?_;clear m;intro A8 cap8 u m;simp only[zF,zG] at m;rw [show ms.flatMap bP ++ _ = (ms ++ [(p,lL ms (t.cor c))]).flatMap bP by rw [List.flatMap_append];rfl] at m;rw [show ms.length + 1 = (ms ++ [(p,lL ms (t.cor c))]).length by simp] at m;rw [show ms.length + 1 = (ms ++ [(p,lL ms (t.cor c))]).length by simp];refine aG (⟨m.sel [false,true,true,true,true,true,true,true,true,false,true,true],?_⟩);refine bH (aC) (eC (k9 _ _ ?_));refine wp_region_lit (aA (aB) ?_);simp only[zz];refine aA (aP rfl rfl (aM (by omega) (by omega))) (aA (aC) (aG ?_));simp only[zz];simp only[Exit.inBlock,Exit.then];refine ⟨12 - (i + 1),_,?_,rfl,?_,?_⟩
       · omega
       · simp only[zz,zv]
       ·
        simp only[zQ,zR,zD,zE];exact ⟨(((us.set k (⟨(t.cor c),p,(t.cor ((c + 2) % 3))⟩ : T3)).set j (⟨(t.cor ((c + 1) % 3)),p,(xY o (t.cor c) (t.cor ((c + 1) % 3)))⟩ : T3)) ++ [(⟨p,(t.cor ((c + 1) % 3)),(t.cor ((c + 2) % 3))⟩ : T3),(⟨p,(t.cor c),(xY o (t.cor c) (t.cor ((c + 1) % 3)))⟩ : T3)]),(ms ++ [(p,lL ms (t.cor c))]),_,_,_,_,i + 1,rfl,(m.sel [false,false,false,false,false,false,false,false,false,true,true,true]),.step hdv (.edge k j t o x c _ htk hc3 hto hfx hnb hpp),by omega,rfl⟩
   ·
    refine aD fun K41 k41=>wp_region_lit (aA (aB) (aA (aB) ?_));simp only[zz];refine aK rfl ((m.b 2 rfl).full aJ aF) ?_;simp only[zz];refine aK rfl ((m.b 1 rfl).full aJ aF) ?_;simp only[zz];refine aK rfl ((m.b 3 rfl).full aJ aF) ?_;simp only[zz];refine aA (bN rfl rfl rfl) ?_;simp only[zz];refine aA (aI bQ aQ rfl rfl (by omega) (by omega) (lZ (Int.toNat_natCast _))) ?_;simp only[zz];refine lV m 6 rfl rfl rfl aQ (by simp only[List.length_cons,List.length_nil,Nat.zero_add,Nat.reduceAdd,Int.reduceToNat,Nat.reduceMul];omega) rfl ?_;clear m;intro u m;simp only[zF,zG] at m;try simp only[Nat.zero_add] at m
    rw [show bE (us.flatMap aW) (k * 9) [.int .i64 (t.cor c).x,.int .i64 (t.cor c).y,.int .i64 (t.cor c).z,.int .i64 (t.cor ((c + 1) % 3)).x,.int .i64 (t.cor ((c + 1) % 3)).y,.int .i64 (t.cor ((c + 1) % 3)).z,.int .i64 p.x,.int .i64 p.y,.int .i64 p.z] = (us.set k (⟨(t.cor c),(t.cor ((c + 1) % 3)),p⟩ : T3)).flatMap aW from sC (u:=(⟨(t.cor c),(t.cor ((c + 1) % 3)),p⟩ : T3)) htk] at m;refine aG (k41 _ _ ?_);refine wp_region_lit (aA (aB) ?_);simp only[zz];refine aK rfl ((m.b 1 rfl).full aJ aF) ?_;simp only[zz];refine aK rfl ((m.b 0 rfl).full aJ aF) ?_;simp only[zz];refine aK rfl ((m.b 3 rfl).full aJ aF) ?_;simp only[zz];refine aA (bN rfl rfl rfl) ?_;simp only[zz];refine aK rfl ((m.b 0 rfl).full aJ aF) ?_;simp only[zz];refine aK rfl ((m.b 2 rfl).full aJ aF) ?_;simp only[zz];refine aK rfl ((m.b 3 rfl).full aJ aF) ?_;simp only[zz];refine aA (bN rfl rfl rfl) ?_;simp only[zz];refine wI rfl rfl ?_;intro u g7 e hg hB;replace m:=m.newB e hg hB;clear e hg hB;simp only[zz];refine dT m 7 rfl rfl bQ mB rfl (by decide) rfl rfl rfl (m.b 0 rfl).rowsO (qV rfl) (by omega) (by omega) ?_;clear m;intro A7 cap7 u m;simp only[zF,zG] at m;rw [show ((us.set k (⟨(t.cor c),(t.cor ((c + 1) % 3)),p⟩ : T3)).flatMap aW) ++ _ = ((us.set k (⟨(t.cor c),(t.cor ((c + 1) % 3)),p⟩ : T3)) ++ [(⟨(t.cor ((c + 1) % 3)),(t.cor ((c + 2) % 3)),p⟩ : T3),(⟨(t.cor ((c + 2) % 3)),(t.cor c),p⟩ : T3)]).flatMap aW by rw [List.flatMap_append];rfl] at m;rw [show us.length + 2 = ((us.set k (⟨(t.cor c),(t.cor ((c + 1) % 3)),p⟩ : T3)) ++ [(⟨(t.cor ((c + 1) % 3)),(t.cor ((c + 2) % 3)),p⟩ : T3),(⟨(t.cor ((c + 2) % 3)),(t.cor c),p⟩ : T3)]).length by simp only[List.length_append,List.length_set,List.length_cons,List.length_nil]] at m;rw [show us.length + 2 = ((us.set k (⟨(t.cor c),(t.cor ((c + 1) % 3)),p⟩ : T3)) ++ [(⟨(t.cor ((c + 1) % 3)),(t.cor ((c + 2) % 3)),p⟩ : T3),(⟨(t.cor ((c + 2) % 3)),(t.cor c),p⟩ : T3)]).length by simp only[List.length_append,List.length_set,List.length_cons,List.length_nil]];refine aA (aC) (aG (k19 _ _ ?_));simp only[zz];refine mh m [true,true,true,true,true,true,false,true,true] [(0,true),(2,true),(1,true),(3,true),(4,false),(5,true),(6,false),(7,false),(8,true)] aO (by kernel_rfl) (dV (fun _ _ _ _ _ h=>h)) (ol:=?_) ?hol ?_
    case hol=>simp only[zw,zQ,zR];try rfl
    clear m;intro u m;refine bH (aB) (bH (aB) ?_);simp only[zz];refine dQ rfl (fun u m=>((m.b 4 rfl).full aJ aF)) ?_;simp only[zz];refine dQ rfl (fun u m=>((m.b 3 rfl).full aJ aF)) ?_;simp only[zz];refine cZ (dY m rfl rfl (vR (p:=(t.cor c)) _ ((m.o 6 rfl).lat mD (by decide)) (by omega)) ?_);clear m;rintro v u m rfl;refine aG (⟨m.sel [true,true,true,true,true,true,false,true,true],?_⟩);refine bH (kI rfl rfl) (cZ ?_);simp only[zz];refine lA rfl ?_;intro u g8 e hg hB;replace m:=m.newB e hg hB;clear e hg hB;refine aG (⟨m.sel [false,true,true,true,true,true,true,false,true,true],?_⟩);refine cZ ?_;simp only[zz];refine dT m 7 rfl rfl fP xR rfl (by decide) rfl rfl rfl (m.b 0 rfl).rowsO (qV rfl) (by omega) (by omega) ?_;clear m;intro A8 cap8 u m;simp only[zF,zG] at m;rw [show ms.flatMap bP ++ _ = (ms ++ [(p,lL ms (t.cor c))]).flatMap bP by rw [List.flatMap_append];rfl] at m;rw [show ms.length + 1 = (ms ++ [(p,lL ms (t.cor c))]).length by simp] at m;rw [show ms.length + 1 = (ms ++ [(p,lL ms (t.cor c))]).length by simp];refine aG (⟨m.sel [false,true,true,true,true,true,true,false,true,true],?_⟩);refine bH (aC) (eC (k9 _ _ ?_));refine wp_region_lit (aA (aB) ?_);simp only[zz];refine aA (aP rfl rfl (aM (by omega) (by omega))) (aA (aC) (aG ?_));simp only[zz];simp only[Exit.inBlock,Exit.then];refine ⟨12 - (i + 1),_,?_,rfl,?_,?_⟩
    · omega
    · simp only[zz,zv]
    ·
     simp only[zQ,zR,zD,zE];exact ⟨((us.set k (⟨(t.cor c),(t.cor ((c + 1) % 3)),p⟩ : T3)) ++ [(⟨(t.cor ((c + 1) % 3)),(t.cor ((c + 2) % 3)),p⟩ : T3),(⟨(t.cor ((c + 2) % 3)),(t.cor c),p⟩ : T3)]),(ms ++ [(p,lL ms (t.cor c))]),_,_,_,_,i + 1,rfl,(m.sel [false,false,false,false,false,false,false,true,true,true]),.step hdv (.tri k t c _ htk hc3 hpp),by omega,rfl⟩
  ·
   refine wp_exit (k5 _ _ ?_);refine aD fun K42 k42=>wp_region_lit (aA (aB) (aA (aB) (aA (aC) (aA (aC) ?_))));simp only[zz];refine aG (k42 _ _ ?_);refine wp_ret ?_;try simp only[Exit.inBlock,Exit.then,if_true]
   refine kK rfl rfl rfl ?_;try simp only[zD,zE]
   exact ⟨_,rfl,m.ext,us,ms,_,_,_,_,i,rfl,m.sel [true,true,false],hi,hdv⟩
end Go.Proofs.YtfohfflkhpfjeaaGreatDoor
namespace Go.Lith
open Go.RowKit
def Ao (e : P3) : List T3:=[⟨⟨0,0,0⟩,⟨0,30,0⟩,e⟩,⟨⟨0,30,0⟩,⟨30,0,0⟩,e⟩,⟨⟨30,0,0⟩,⟨0,0,0⟩,e⟩,⟨⟨0,0,0⟩,⟨30,0,0⟩,⟨0,0,30⟩⟩,⟨⟨30,0,0⟩,⟨0,30,0⟩,⟨0,0,30⟩⟩,⟨⟨0,30,0⟩,⟨0,0,0⟩,⟨0,0,30⟩⟩]
def Aq : List T3:=[⟨⟨0,0,0⟩,⟨0,30,0⟩,⟨30,0,0⟩⟩,⟨⟨0,0,0⟩,⟨30,0,0⟩,⟨0,0,30⟩⟩,⟨⟨30,0,0⟩,⟨0,30,0⟩,⟨0,0,30⟩⟩,⟨⟨0,30,0⟩,⟨0,0,0⟩,⟨0,0,30⟩⟩]
theorem agV : eW (Ao ⟨3,4,1⟩) Aq [(⟨3,4,1⟩,⟨0,0,0⟩)] = (6,0):=by decide +kernel
theorem agW : eW (Ao ⟨3,4,1⟩) Aq [(⟨3,4,1⟩,⟨0,0,30⟩)] = (0,32):=by decide +kernel
theorem agX : eW (Ao ⟨3,4,1⟩) Aq [] = (0,32):=by decide +kernel
theorem agY : eW (Ao ⟨3,4,1⟩) Aq [(⟨0,0,30⟩,⟨0,0,0⟩)] = (0,32):=by decide +kernel
theorem Hd : I3 ⟨0,0,0⟩:=⟨by decide,by decide,by decide⟩
theorem Tz : I3 ⟨0,0,30⟩:=⟨by decide,by decide,by decide⟩
theorem Xs : I3 ⟨3,4,1⟩:=⟨by decide,by decide,by decide⟩
theorem wQ (e : P3) [h : I3 e] : ∀ t ∈ Ao e,IT t:=fun t ht=>by
 have a : I3 ⟨0,0,0⟩:=Hd;have b : I3 ⟨30,0,0⟩:=⟨by decide,by decide,by decide⟩
 have c : I3 ⟨0,30,0⟩:=⟨by decide,by decide,by decide⟩
 have d : I3 ⟨0,0,30⟩:=Tz;simp only[Ao,List.mem_cons,List.not_mem_nil,or_false] at ht;rcases ht with rfl | rfl | rfl | rfl | rfl | rfl
 · exact ⟨a,c,h⟩
 · exact ⟨c,b,h⟩
 · exact ⟨b,a,h⟩
 · exact ⟨a,b,d⟩
 · exact ⟨b,c,d⟩
 · exact ⟨c,a,d⟩
theorem wR : ∀ t ∈ Aq,IT t:=fun t ht=>by
 have a : I3 ⟨0,0,0⟩:=Hd;have b : I3 ⟨30,0,0⟩:=⟨by decide,by decide,by decide⟩
 have c : I3 ⟨0,30,0⟩:=⟨by decide,by decide,by decide⟩
 have d : I3 ⟨0,0,30⟩:=Tz;simp only[Aq,List.mem_cons,List.not_mem_nil,or_false] at ht;rcases ht with rfl | rfl | rfl | rfl
 · exact ⟨a,c,b⟩
 · exact ⟨a,b,d⟩
 · exact ⟨b,c,d⟩
 · exact ⟨c,a,d⟩
theorem pM {us ts : List T3} (h : mK us ts) : ∀ x ∈ dN us,x ∈ dN ts:=fun x hx=>by
 obtain ⟨t,ht,hx⟩:=nX.1 hx;obtain ⟨u,hu,hy⟩:=h x ⟨t,ht,hx⟩;exact nX.2 ⟨u,hu,hy⟩
structure Srf (l us : List T3) (ms : List Mv) : Prop where
 ll : l.length ≤ 400
 ul : us.length ≤ 424
 ml : ms.length ≤ 12
 lm : ∀ x ∈ dN l,Hw x
 um : ∀ x ∈ dN us,Hw x
 mm : ∀ m ∈ ms,Hw m.1 ∧ Hw m.2
theorem Bz.srf {rim : List E3} {kind bits : Int} {zs : List Int} {us : List T3} {i : Nat} {ms : List Mv} (h : Bz rim (rC kind bits zs) i us ms) (hi : i ≤ 12) : Srf (rC kind bits zs) us ms:=by
 obtain ⟨h1,h2⟩:=h.len;obtain ⟨h3,h4⟩:=h.pts;have hl:=Nf (kind:=kind) (bits:=bits) (zs:=zs);have hm:=abj (Nd (kind:=kind) (bits:=bits) (zs:=zs));exact ⟨hl,by omega,by omega,hm,fun x hx=>(h3 x hx).mid hm (by omega),fun m hm2=>⟨(h4 m hm2).1.mid hm (by omega),(h4 m hm2).2.mid hm (by omega)⟩⟩
theorem fX {ts : List T3} (h : ∀ x ∈ dN ts,Hw x) : ∀ t ∈ ts,IT t:=agU fun x hx=>(h x hx).i3
theorem yB {ms : List Mv} (h : ∀ m ∈ ms,Hw m.1 ∧ Hw m.2) : ∀ m ∈ ms,I3 m.1 ∧ I3 m.2:=fun m hm=>⟨(h m hm).1.i3,(h m hm).2.i3⟩
end Go.Lith
