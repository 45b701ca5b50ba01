/-
 Texts of one claim, laid together: W11, Ref8, Exact2, Meas1, RefG1, V3, Wf, Wg, Wh, Wi, Surf1, Surf3, Surf1b, V4, Wj, V6, Wl, Open5.
-/
import Derived.Test.YtfohfflkhpfjeaaGreatDoorE7
set_option maxHeartbeats 8000000
set_option linter.unusedSimpArgs false
set_option linter.unusedVariables false
set_option linter.unusedSectionVars false
namespace Go.Proofs.YtfohfflkhpfjeaaGreatDoor
open Go.Proofs.Tryz
open Go.RowKit Go.Lith
abbrev fR:=@underlying166
set_option maxRecDepth 100000
attribute [local irreducible] wpList wpQuiet dY dO dN Code.wp
section
variable {fs gs : List T3} {ms : List Mv}
theorem afY (h : (if cX true fs ≠ 0 then cX true fs else cX true gs) ≠ 0) : gR fs gs ms = (0,if cX true fs ≠ 0 then cX true fs else cX true gs):=by
 unfold gR;by_cases h1 : cX true fs ≠ 0
 · rw [if_pos h1,if_pos h1]
 ·
  rw [if_neg h1] at h;rw [if_neg h1,if_neg h1,if_pos h]
theorem afZ (h : ¬ (if cX true fs ≠ 0 then cX true fs else cX true gs) ≠ 0) : cX true fs = 0 ∧ cX true gs = 0:=by
 by_cases h1 : cX true fs ≠ 0
 · rw [if_pos h1] at h;exact absurd h1 h
 · rw [if_neg h1] at h;exact ⟨Classical.not_not.1 h1,Classical.not_not.1 h⟩
theorem af0 (hf : cX true fs = 0) (hg : cX true gs = 0) (h : Bl fs gs ≠ 0) : gR fs gs ms = (0,Bl fs gs):=by
 rw [gR,if_neg (fun k=>k hf),if_neg (fun k=>k hg)];unfold Bl at h ⊢;split
 · rfl
 ·
  rename_i h1;rw [if_neg h1] at h;split
  · rfl
  · rename_i h2;rw [if_neg h2] at h;exact absurd rfl h
theorem af1 (h : ¬ Bl fs gs ≠ 0) : aU fs = aU gs ∧ ¬ (iV fs gs (aU fs) = true ∨ nJ fs gs (aU fs) = false):=by
 unfold Bl at h;split at h
 · exact absurd (by decide) h
 ·
  rename_i h1;split at h
  · exact absurd (by decide) h
  · rename_i h2;exact ⟨Classical.not_not.1 h1,h2⟩
theorem Kb (hf : cX true fs = 0) (hg : cX true gs = 0) (hb : ¬ Bl fs gs ≠ 0) : gR fs gs ms = if lK fs gs ms (aU fs) = false then ((0 : Int),(31 : Int)) else if kP fs gs ms = false then ((0 : Int),(32 : Int)) else match lH ms 0 with
 | some n=>(n,(0 : Int))
 | none=>((0 : Int),(3 : Int)):=by
 obtain ⟨h1,h2⟩:=af1 hb;rw [gR,if_neg (fun k=>k hf),if_neg (fun k=>k hg),if_neg (fun k=>k h1),if_neg h2];cases lH ms 0 <;> rfl
theorem aau {b : Bool} {n : Int} (h : (if b = true then 0 else n) ≠ 0) : b = false:=by cases b with | false=>rfl | true=>exact absurd rfl h
theorem aav {b : Bool} {n : Int} (hn : n ≠ 0) (h : ¬ (if b = true then 0 else n) ≠ 0) : b = true:=by cases b with | true=>rfl | false=>exact absurd hn h
end
theorem sH {fs gs : List T3} {ms : List Mv} {N cap N2 cap2 N3 cap3 : Nat} {A A2 A3 : Option Addr} (w : World) (hT : fA w A N fs) (hT2 : fA w A2 N2 gs) (hL3 : oU cB 6 w A3 N3 ms) (hN : N ≤ 300000) (hN2 : N2 ≤ 300000) (hN3 : N3 ≤ 10000000) (hI : ∀ mv ∈ ms,I3 mv.1 ∧ I3 mv.2) : eL prog 17 [.slice A N cap,.slice A2 N2 cap2,.slice A3 N3 cap3] w (fun v _=>v = .tuple #[.int .i64 (gR fs gs ms).1,.int .i64 (gR fs gs ms).2]):=by
 refine ⟨aen,?_⟩;have m:=cF.refl w
 go_enter func17,ntmps17
 refine aF fun K1 k1=>wp_region_lit (aA (aD) (aA (aD) (aG (k1 _ _ ?_))));refine aF fun K2 k2=>wp_region_lit (aA (aB) (aA (aB) ?_));simp only[zz];refine aA (aB) ?_;simp only[zz];refine kL m ?_;clear m;intro q7 u m;have hD7:=cS.nil (K:=P3) (V:=P3) pt pt;refine aA (wK rfl rfl rfl rfl) ?_;simp only[zz];refine eP m rfl ?_;clear m;intro g2 u m;refine aA (aD) (aG (k2 _ _ ?_));refine aF fun K3 k3=>aF fun K4 k4=>wp_region_lit (aA (aB) ?_);simp only[zz];refine aA (pQ) ?_;simp only[zz,List.map_toArray,List.map_cons,List.map_nil];refine aA (nG rfl) (aA (aB) ?_);simp only[zz];refine aA (pQ) ?_;simp only[zz,List.map_toArray,List.map_cons,List.map_nil];refine aA (nG rfl) (aA (aB) ?_);simp only[zz];refine aA (pQ) ?_;simp only[zz,List.map_toArray,List.map_cons,List.map_nil];refine aA (nG rfl) (aA (aB) ?_);simp only[zz];refine aA (pQ) ?_;simp only[zz,List.map_toArray,List.map_cons,List.map_nil];refine aA (nG rfl) (aA (aB) ?_);simp only[zz];refine aA (pQ) ?_;simp only[zz,List.map_toArray,List.map_cons,List.map_nil];refine aA (nG rfl) ?_;simp only[zz];refine Uf rfl rfl rfl rfl rfl ?_;intro u g3 e hg hB;replace m:=m.newB e hg hB;clear e hg hB;refine aA (bA rfl Dn rfl) (aA (aB) (aG (k4 _ _ ?_)));refine wp_block (wp_loop_rounds 6 (dP (aF fun K5 k5=>wp_region_lit (aA (bW (m:=0) (n:=5) rfl rfl (by decide)) ?_))));simp only[zz];refine aG (k5 _ _ ?_);refine aF fun K6 k6=>cQ rfl (wp_skip (k6 _ _ ?_));refine aF fun K7 k7=>wp_block (aF fun K8 k8=>wp_region_lit (aA (aK Dn iU rfl rfl (by decide) (by omega) rfl) ?_));simp only[zz];refine aL rfl ((m.b 0 rfl).lies Dq iU rfl rfl) ?_;simp only[zz,zy,Nat.zero_add,Nat.reduceAdd,Nat.reduceMul,Int.reduceToNat];refine bH m vB rfl ?_;clear m;intro g4 u m;simp only[zz];refine aT m 0 rfl rfl rfl iU (dX rfl) rfl ?_;clear m;intro u m;simp only[zy,zx,bK,zF,zG,Nat.reduceAdd] at m;refine aG (k8 _ _ ?_);refine aF fun K9 k9=>wp_region_lit (aA (aO (c:=0) Dm rfl rU rfl rfl) ?_);simp only[zz];refine aL rfl ((m.b 0 rfl).lies1 Dp rfl) ?_;simp only[zz];refine eQ m rfl rfl (Ql _ (m.b 2 rfl) (hT.ext m.ext) (hT2.ext m.ext) (by omega) (by omega)) ?_;clear m;rintro v u m rfl;refine aA (aD) (aG (k9 _ _ ?_));refine aF fun K10 k10=>wp_region_lit (aA (aB) (aA (kW rfl rfl) ?_));simp only[zz];refine aG (k10 _ _ ?_);refine cC rfl (fun hc2=>?_) (fun hc2=>?_)
 ·
  refine aF fun K11 k11=>wp_region_lit (aA (aB) (aA (aD) (aA (aD) (aG (k11 _ _ ?_)))));refine wp_ret ?_;simp only[zz];try simp only[Exit.inBlock,Exit.then,if_true]
  refine jW rfl rfl rfl ?_;try simp only[zD,zE]
  exact ⟨_,rfl,m.ext,by rw [afY hc2]⟩
 ·
  obtain ⟨hf,hg⟩:=afZ hc2;refine wp_skip (k7 _ _ ?_);refine wp_region_lit (aA (aQ (m:=0) (n:=1) (r:=1) rfl rfl (by decide)) (aA (aB) (aG (aX (aF fun K12 k12=>wp_region_lit (aA (bW (m:=1) (n:=5) rfl rfl (by decide)) (aG (k12 _ _ ?_))))))));refine aF fun K13 k13=>cQ rfl (wp_skip (k13 _ _ ?_));refine aF fun K14 k14=>wp_block (aF fun K15 k15=>wp_region_lit ?_);simp only[zz];refine aA (aK Dn iU rfl rfl (by decide) (by omega) rfl) ?_;simp only[zz];refine aL rfl ((m.b 1 rfl).lies Dq iU rfl rfl) ?_;simp only[zz,zy,Nat.zero_add,Nat.reduceAdd,Nat.reduceMul,Int.reduceToNat];refine bH m vB rfl ?_;clear m;intro g5 u m;simp only[zz];refine aT m 0 rfl rfl rfl iU (dX rfl) rfl ?_;clear m;intro u m;simp only[zy,zx,bK,zF,zG,Nat.reduceAdd] at m;refine aG (k15 _ _ ?_);refine aF fun K16 k16=>wp_region_lit (aA (aO (c:=0) Dm rfl rU rfl rfl) ?_);simp only[zz];refine aL rfl ((m.b 0 rfl).lies1 Dp rfl) ?_;simp only[zz];replace m:=m.pull 3 rfl;simp only[wI,wJ,zF,zG] at m;replace m:=m.pack1;refine Jv rfl rfl (Vn m (hT) (hT2) (by omega) (by omega) hf hg) ?_;clear m;rintro v u ⟨A4,c4,rfl,m⟩;simp only[zz];replace m:=m.unpack2;refine aA (aD) (aG (k16 _ _ ?_));refine aF fun K17 k17=>wp_region_lit (aA (aB) (aA (kW rfl rfl) (aG (k17 _ _ ?_))));simp only[zz];refine cC rfl (fun hc2=>?_) (fun hc2=>?_)
  ·
   refine aF fun K18 k18=>wp_region_lit (aA (aB) (aA (aD) (aA (aD) (aG (k18 _ _ ?_)))));refine wp_ret ?_;simp only[zz];try simp only[Exit.inBlock,Exit.then,if_true]
   refine jW rfl rfl rfl ?_;try simp only[zD,zE]
   exact ⟨_,rfl,m.ext,by rw [af0 hf hg hc2]⟩
  ·
   have hb:=hc2;refine wp_skip (k14 _ _ ?_);refine wp_region_lit (aA (aQ (m:=1) (n:=1) (r:=2) rfl rfl (by decide)) (aA (aB) (aG (aX (aF fun K19 k19=>wp_region_lit (aA (bW (m:=2) (n:=5) rfl rfl (by decide)) (aG (k19 _ _ ?_))))))));refine aF fun K20 k20=>cQ rfl (wp_skip (k20 _ _ ?_));refine aF fun K21 k21=>wp_block (aF fun K22 k22=>wp_region_lit ?_);simp only[zz];refine aA (aK Dn iU rfl rfl (by decide) (by omega) rfl) ?_;simp only[zz];refine aL rfl ((m.b 4 rfl).lies Dq iU rfl rfl) ?_;simp only[zz,zy,Nat.zero_add,Nat.reduceAdd,Nat.reduceMul,Int.reduceToNat];refine bH m vB rfl ?_;clear m;intro g6 u m;simp only[zz];refine aT m 0 rfl rfl rfl iU (dX rfl) rfl ?_;clear m;intro u m;simp only[zy,zx,bK,zF,zG,Nat.reduceAdd] at m;refine aG (k22 _ _ ?_);refine aF fun K23 k23=>wp_region_lit (aA (aO (c:=0) Dm rfl rU rfl rfl) ?_);simp only[zz];refine aL rfl ((m.b 0 rfl).lies1 Dp rfl) ?_;simp only[zz];replace m:=m.pull 6 rfl;simp only[wI,wJ,zF,zG] at m;replace m:=m.pull 3 rfl;simp only[wI,wJ,zF,zG] at m;replace m:=m.pull 3 rfl;simp only[wI,wJ,zF,zG] at m;replace m:=m.pack3;refine Jv rfl rfl (adG m hT hT2 hL3 hN hN2 hN3 hD7) ?_;clear m;rintro v u ⟨es7,c7,rfl,m,hD7i⟩;simp only[zz];replace m:=m.unpack3;refine aA (aD) (aG (k23 _ _ ?_));refine aF fun K24 k24=>wp_region_lit (aA (aB) (aA (kW rfl rfl) (aG (k24 _ _ ?_))));simp only[zz];refine cC rfl (fun hc2=>?_) (fun hc2=>?_)
   ·
    have hmv:=aau hc2;refine aF fun K25 k25=>wp_region_lit (aA (aB) (aA (aD) (aA (aD) (aG (k25 _ _ ?_)))));refine wp_ret ?_;simp only[zz];try simp only[Exit.inBlock,Exit.then,if_true]
    refine jW rfl rfl rfl ?_;try simp only[zD,zE]
    exact ⟨_,rfl,m.ext,by rw [Kb hf hg hb,hmv];rfl⟩
   ·
    have hmv:=aav (by decide) hc2;have hD7:=hD7i hmv;have himg:=abl (Ml hmv);refine wp_skip (k21 _ _ ?_);refine wp_region_lit (aA (aQ (m:=2) (n:=1) (r:=3) rfl rfl (by decide)) (aA (aB) (aG (aX (aF fun K26 k26=>wp_region_lit (aA (bW (m:=3) (n:=5) rfl rfl (by decide)) (aG (k26 _ _ ?_))))))));refine aF fun K27 k27=>cQ rfl (wp_skip (k27 _ _ ?_));refine aF fun K28 k28=>wp_block (aF fun K29 k29=>wp_region_lit ?_);simp only[zz];refine aA (aK Dn iU rfl rfl (by decide) (by omega) rfl) ?_;simp only[zz];refine aL rfl ((m.b 6 rfl).lies Dq iU rfl rfl) ?_;simp only[zz,zy,Nat.zero_add,Nat.reduceAdd,Nat.reduceMul,Int.reduceToNat];refine bH m vB rfl ?_;clear m;intro g7 u m;simp only[zz];refine aT m 0 rfl rfl rfl iU (dX rfl) rfl ?_;clear m;intro u m;simp only[zy,zx,bK,zF,zG,Nat.reduceAdd] at m;refine aG (k29 _ _ ?_);refine aF fun K30 k30=>wp_region_lit (aA (aO (c:=0) Dm rfl rU rfl rfl) ?_);simp only[zz];refine aL rfl ((m.b 0 rfl).lies1 Dp rfl) ?_;simp only[zz];refine eQ m rfl rfl (abP (ms:=ms) _ (m.b 2 rfl) (hT.ext m.ext) (hT2.ext m.ext) hN hN2 (m.p 3 rfl) hD7 himg) ?_;clear m;rintro v u m rfl;refine aA (aD) (aG (k30 _ _ ?_));refine aF fun K31 k31=>wp_region_lit (aA (aB) (aA (kW rfl rfl) ?_));simp only[zz];refine aG (k31 _ _ ?_);refine cC rfl (fun hc2=>?_) (fun hc2=>?_)
    ·
     have hcv:=aau hc2;refine aF fun K32 k32=>wp_region_lit (aA (aB) (aA (aD) (aA (aD) (aG (k32 _ _ ?_)))));refine wp_ret ?_;simp only[zz];try simp only[Exit.inBlock,Exit.then,if_true]
     refine jW rfl rfl rfl ?_;try simp only[zD,zE]
     exact ⟨_,rfl,m.ext,by rw [Kb hf hg hb,hmv,hcv];rfl⟩
    ·
     have hcv:=aav (by decide) hc2;refine wp_skip (k28 _ _ ?_);refine wp_region_lit (aA (aQ (m:=3) (n:=1) (r:=4) rfl rfl (by decide)) (aA (aB) (aG (aX (aF fun K33 k33=>wp_region_lit (aA (bW (m:=4) (n:=5) rfl rfl (by decide)) (aG (k33 _ _ ?_))))))));refine aF fun K34 k34=>cQ rfl (wp_skip (k34 _ _ ?_));refine aF fun K35 k35=>wp_block (aF fun K36 k36=>wp_region_lit ?_);simp only[zz];refine aA (aK Dn iU rfl rfl (by decide) (by omega) rfl) ?_;simp only[zz];refine aL rfl ((m.b 7 rfl).lies Dq iU rfl rfl) ?_;simp only[zz,zy,Nat.zero_add,Nat.reduceAdd,Nat.reduceMul,Int.reduceToNat];refine bH m vB rfl ?_;clear m;intro g8 u m;simp only[zz];refine aT m 0 rfl rfl rfl iU (dX rfl) rfl ?_;clear m;intro u m;simp only[zy,zx,bK,zF,zG,Nat.reduceAdd] at m;refine aG (k36 _ _ ?_);refine aF fun K37 k37=>wp_region_lit (aA (aO (c:=0) Dm rfl rU rfl rfl) ?_);simp only[zz];refine aL rfl ((m.b 0 rfl).lies1 Dp rfl) ?_;simp only[zz];replace m:=m.pull 3 rfl;simp only[wI,wJ,zF,zG] at m;replace m:=m.pack1;refine Jv rfl rfl (Vq m hL3 hN3 hI) ?_;clear m;rintro v u ⟨y,rfl,m,hme⟩;refine aA (aD) (aG (k37 _ _ ?_));refine aF fun K38 k38=>wp_region_lit (aA (aB) (aA (kW rfl rfl) ?_));simp only[zz];refine aG (k38 _ _ ?_);refine cC rfl (fun hc2=>?_) (fun hc2=>?_)
     ·
      have hm0 : lH ms 0 = none:=Option.not_isSome_iff_eq_none.1 (by rw [aau hc2];exact Bool.false_ne_true);refine aF fun K39 k39=>wp_region_lit (aA (aB) (aA (aD) (aA (aD) (aG (k39 _ _ ?_)))));refine wp_ret ?_;simp only[zz];try simp only[Exit.inBlock,Exit.then,if_true]
      refine jW rfl rfl rfl ?_;try simp only[zD,zE]
      exact ⟨_,rfl,m.ext,by rw [Kb hf hg hb,hmv,hcv,hm0];rfl⟩
     ·
      have hm0:=aav (by decide) hc2;obtain ⟨q,hq⟩:=Option.isSome_iff_exists.1 hm0;obtain rfl:=hme q hq;refine wp_skip (k35 _ _ ?_);refine wp_region_lit (aA (aQ (m:=4) (n:=1) (r:=5) rfl rfl (by decide)) (aA (aB) (aG (aX (aF fun K40 k40=>wp_region_lit (aA (eM (m:=5) (n:=5) rfl rfl (by decide)) (aG (k40 _ _ ?_))))))));refine aF fun K41 k41=>iD rfl (wp_exit (k3 _ _ ?_));refine aF fun K42 k42=>wp_region_lit (aA (aB) ?_);simp only[zz];refine aA (dB rfl) (aA (aO (c:=0) iZ rfl bG rfl rfl) ?_);simp only[zz];refine aL rfl ((m.b 0 rfl).lies1 bZ rfl) ?_;simp only[zz];refine aA (aD) (aA (aD) (aG (k42 _ _ ?_)));refine wp_ret ?_;simp only[zz];try simp only[Exit.inBlock,Exit.then,if_true]
      refine jW rfl rfl rfl ?_;try simp only[zD,zE]
      exact ⟨_,rfl,m.ext,by rw [Kb hf hg hb,hmv,hcv,hq];rfl⟩
end Go.Proofs.YtfohfflkhpfjeaaGreatDoor
namespace Go.Proofs.YtfohfflkhpfjeaaGreatDoor
open Go.Proofs.Tryz
open Go.RowKit Go.Lith
set_option maxRecDepth 100000
attribute [local irreducible] wpList wpQuiet dY Code.wp
theorem adQ {a : Int} (ha : Bd 1000000 a) : iX prog 53 [W a] (.tuple #[.int .i64 (Js a),.bool (decide (oJ a))]):=by
 intro w;refine ⟨aeT,?_⟩;have hX:=dK.refl w;have hla : (digs 65536 a.natAbs).length ≤ 1000000:=oS ha;obtain ⟨X,hXa⟩ : ∃ X,X = a.natAbs:=⟨_,rfl⟩
 rw [← hXa] at hla;have hXd : X < 65536 ^ (digs 65536 X).length:=by have:=gZ (jU X);rwa [eK] at this
 have hdd:=jU X
 go_enter func53,ntmps53
 refine aF (fun K1 hK1=>?_);refine wp_region_lit ?_;refine kR (by simp only[cI,bL,bT,List.getD_cons_succ,List.getD_cons_zero];rfl) ?_;intro w1 g1 hE hg1 hB1;have hG1:=Nat.le_trans hX.size hg1;replace hX:=hX.trans hE;clear hE hg1;simp only[cI,bL,bT,List.getD_cons_succ,List.getD_cons_zero,List.set_cons_succ,List.set_cons_zero];refine aA (aD) ?_;simp only[cI,bL,bT,List.getD_cons_succ,List.getD_cons_zero,List.set_cons_succ,List.set_cons_zero];refine aA (aD) ?_;simp only[cI,bL,bT,List.getD_cons_succ,List.getD_cons_zero,List.set_cons_succ,List.set_cons_zero];refine aG (hK1 _ _ ?_);refine aF (fun K2 hK2=>?_);refine wp_region_lit (aL rfl (hB1.lies cA aR rfl rfl) ?_);simp only[cI,bL,bT,List.getD_cons_succ,List.getD_cons_zero,List.set_cons_succ,List.set_cons_zero];refine bE rfl rfl (oT _ (gQ ha)) ?_;rintro v w2 hE ⟨A4,c4,rfl,hD4⟩;replace hB1:=hB1.ext hE;(try replace hD4:=hD4.ext hE);replace hX:=hX.trans hE;clear hE;rw [gC,← hXa] at hD4 ⊢;simp only[cI,bL,bT,List.getD_cons_succ,List.getD_cons_zero,List.set_cons_succ,List.set_cons_zero];refine aA (aD) ?_;simp only[cI,bL,bT,List.getD_cons_succ,List.getD_cons_zero,List.set_cons_succ,List.set_cons_zero];refine aG (hK2 _ _ ?_);refine aF (fun K3 hK3=>?_);refine aF (fun K4 hK4=>?_);refine wp_region_lit (aA (aB) ?_);simp only[cI,bL,bT,List.getD_cons_succ,List.getD_cons_zero,List.set_cons_succ,List.set_cons_zero];refine aA (bA rfl bX rfl) ?_;simp only[cI,bL,bT,List.getD_cons_succ,List.getD_cons_zero,List.set_cons_succ,List.set_cons_zero];refine aA (oE rfl rfl) ?_;simp only[cI,bL,bT,List.getD_cons_succ,List.getD_cons_zero,List.set_cons_succ,List.set_cons_zero];refine aG (hK4 _ _ ?_);refine cC rfl (fun hc1=>?_) (fun hc1=>?_)
 ·
  have hbig : ¬ oJ a:=abI hXa (by omega);refine aF (fun K5 hK5=>?_);refine wp_region_lit (aA (aD) ?_);simp only[cI,bL,bT,List.getD_cons_succ,List.getD_cons_zero,List.set_cons_succ,List.set_cons_zero];refine aA (aD) ?_;simp only[cI,bL,bT,List.getD_cons_succ,List.getD_cons_zero,List.set_cons_succ,List.set_cons_zero];refine aG (hK5 _ _ ?_);refine wp_ret ?_;try simp only[Exit.inBlock,Exit.then]
  refine jW rfl rfl rfl ?_;try simp only[List.getD_cons_succ,List.getD_cons_zero]
  exact ⟨_,rfl,hX,Ae hbig⟩
 ·
  have hl4 : (digs 65536 X).length ≤ 4:=by omega
  refine wp_skip ?_;refine hK3 _ _ (aF (fun K6 hK6=>?_));refine wp_region_lit (aA (aD) ?_);simp only[cI,bL,bT,List.getD_cons_succ,List.getD_cons_zero,List.set_cons_succ,List.set_cons_zero];refine aG (hK6 _ _ ?_);refine aF (fun K7 hK7=>?_);refine aF (fun K8 hK8=>?_);refine wp_region_lit (aA (aB) ?_);simp only[cI,bL,bT,List.getD_cons_succ,List.getD_cons_zero,List.set_cons_succ,List.set_cons_zero];refine aA (bA rfl bX rfl) ?_;simp only[cI,bL,bT,List.getD_cons_succ,List.getD_cons_zero,List.set_cons_succ,List.set_cons_zero];refine aA (eO rfl rfl (aM (by omega) (by omega))) ?_;simp only[cI,bL,bT,List.getD_cons_succ,List.getD_cons_zero,List.set_cons_succ,List.set_cons_zero];refine aA (aD) ?_;simp only[cI,bL,bT,List.getD_cons_succ,List.getD_cons_zero,List.set_cons_succ,List.set_cons_zero];refine aG (hK8 _ _ ?_);refine wp_block (bJ [5,6] [15,16,17,18,19,20,21,22,23,24,25,26] (fun n vs wl=>∃ (k : Nat),vs = [.int .u64 ((val 65536 ((digs 65536 X).drop k) : Nat) : Int),.int .i64 ((k:Int) - 1)] ∧ (dK w wl) ∧ (gD wl g1 [.bool (iE a),.string (mX a)] 65) ∧ (cY wl wl.heap.size A4 (digs 65536 X).length c4 (digs 65536 X)) ∧ (k ≤ (digs 65536 X).length) ∧ (n = k)) ?_ ?_)
  ·
   rw [show (0 : Int) = ((val 65536 ((digs 65536 X).drop (digs 65536 X).length) : Nat) : Int) by rw [List.drop_length];rfl];apply Exists.intro;simp only[List.map_cons,List.map_nil,List.getD_cons_succ,List.getD_cons_zero];exact ⟨(digs 65536 X).length,rfl,hX,hB1,hD4.here,Nat.le_refl _,rfl⟩
  ·
   intro n vs wr hI u;obtain ⟨k,rfl,hX,hB1,hD4,hk,hn⟩:=hI;simp only[zu,List.set_cons_succ,List.set_cons_zero];refine aF (fun K9 hK9=>?_);refine aF (fun K10 hK10=>?_);refine wp_region_lit (aA (aB) ?_);simp only[cI,bL,bT,List.getD_cons_succ,List.getD_cons_zero,List.set_cons_succ,List.set_cons_zero];refine aA (pP rfl rfl) ?_;simp only[cI,bL,bT,List.getD_cons_succ,List.getD_cons_zero,List.set_cons_succ,List.set_cons_zero];refine aG (hK10 _ _ ?_);refine cC rfl (fun hc2=>?_) (fun hc2=>?_)
   ·
    obtain ⟨j,rfl⟩ : ∃ j,k = j + 1:=⟨k - 1,by omega⟩
    rw [show (((j + 1 : Nat) : Int) - 1) = (j : Int) by omega];obtain ⟨p,rfl,hca,hlt⟩:=hD4.get (show j < (digs 65536 X).length by omega);have hvp:=lN (B:=65536) (xs:=digs 65536 X) (k:=j + 1) (by omega) (by simp only[Nat.add_sub_cancel];omega);simp only[Nat.add_sub_cancel] at hvp;have hvl:=aad (j:=j) hl4 hdd (by omega);obtain ⟨V,hV⟩ : ∃ V,V = val 65536 ((digs 65536 X).drop (j + 1)):=⟨_,rfl⟩
    obtain ⟨x,hx⟩ : ∃ x,x = (digs 65536 X)[j]:=⟨_,rfl⟩
    rw [← hV,← hx] at hvp;rw [← hV] at hvl;rw [← hV];rw [← hx] at hca hlt;refine wp_skip (hK9 _ _ ?_);refine aF (fun K11 hK11=>?_);refine wp_block (wp_region_lit ?_);refine aA (aB) ?_;simp only[cI,bL,bT,List.getD_cons_succ,List.getD_cons_zero,List.set_cons_succ,List.set_cons_zero];refine aA (fF rfl rfl (eW (by omega) (by omega))) ?_;simp only[cI,bL,bT,List.getD_cons_succ,List.getD_cons_zero,List.set_cons_succ,List.set_cons_zero];refine aA (aB) ?_;simp only[cI,bL,bT,List.getD_cons_succ,List.getD_cons_zero,List.set_cons_succ,List.set_cons_zero];refine aA (aB) ?_;simp only[cI,bL,bT,List.getD_cons_succ,List.getD_cons_zero,List.set_cons_succ,List.set_cons_zero];refine aA (aK bX bG rfl rfl (by omega) (by omega) (gF (Int.toNat_natCast _))) ?_;simp only[cI,bL,bT,List.getD_cons_succ,List.getD_cons_zero,List.set_cons_succ,List.set_cons_zero];refine aL rfl (lies1 hca bZ) ?_;simp only[cI,bL,bT,List.getD_cons_succ,List.getD_cons_zero,List.set_cons_succ,List.set_cons_zero];refine aA (jI nR iT rfl (eW (by omega) (by omega))) ?_;simp only[cI,bL,bT,List.getD_cons_succ,List.getD_cons_zero,List.set_cons_succ,List.set_cons_zero];refine aA (aQ rfl rfl (eW (by omega) (by omega))) ?_;simp only[cI,bL,bT,List.getD_cons_succ,List.getD_cons_zero,List.set_cons_succ,List.set_cons_zero];refine aA (aD) ?_;simp only[cI,bL,bT,List.getD_cons_succ,List.getD_cons_zero,List.set_cons_succ,List.set_cons_zero];refine aG (hK11 _ _ ?_);refine wp_region_lit (aA (aB) ?_);simp only[cI,bL,bT,List.getD_cons_succ,List.getD_cons_zero,List.set_cons_succ,List.set_cons_zero];refine aA (eO rfl rfl (aM (by omega) (by omega))) ?_;simp only[cI,bL,bT,List.getD_cons_succ,List.getD_cons_zero,List.set_cons_succ,List.set_cons_zero];refine aA (aD) ?_;simp only[cI,bL,bT,List.getD_cons_succ,List.getD_cons_zero,List.set_cons_succ,List.set_cons_zero];refine aG ?_;rw [show ((V : Int) * 65536 + (x : Int)) = ((val 65536 ((digs 65536 X).drop j) : Nat) : Int) by exact aae hvp];simp only[Exit.inBlock,Exit.then];refine ⟨j,_,?_,rfl,?_,?_⟩
    · omega
    · simp only[zu,List.map_cons,List.map_nil,List.getD_cons_succ,List.getD_cons_zero,List.set_cons_succ,List.set_cons_zero]
    ·
     simp only[List.map_cons,List.map_nil,List.getD_cons_succ,List.getD_cons_zero];exact ⟨j,rfl,hX,hB1,hD4.here,by omega,rfl⟩
   ·
    obtain rfl : k = 0:=by omega
    have hX64:=adC hl4 hXd;refine wp_exit (hK7 _ _ ?_);refine aF (fun K12 hK12=>?_);refine aF (fun K13 hK13=>?_);simp only[List.drop_zero,eK];rcases Hw hXa with ⟨h1,h2,h3,h4⟩ | ⟨h1,h2,h3⟩ | ⟨h1,h2,h3⟩ | ⟨h1,h2,h3,h4⟩
    ·
     rw [h1] at hB1;refine wp_region_lit (aA (aO (c:=0) gG rfl fC rfl rfl) ?_);simp only[cI,bL,bT,List.getD_cons_succ,List.getD_cons_zero,List.set_cons_succ,List.set_cons_zero];refine aL rfl (hB1.lies1 jG rfl) ?_;simp only[cI,bL,bT,List.getD_cons_succ,List.getD_cons_zero,List.set_cons_succ,List.set_cons_zero];refine aA (aB) ?_;simp only[cI,bL,bT,List.getD_cons_succ,List.getD_cons_zero,List.set_cons_succ,List.set_cons_zero];refine bN rfl (aA (aB) ?_);simp only[cI,bL,bT,List.getD_cons_succ,List.getD_cons_zero,List.set_cons_succ,List.set_cons_zero];refine bN rfl (aA (Nv rfl rfl (by omega)) ?_);simp only[cI,bL,bT,List.getD_cons_succ,List.getD_cons_zero,List.set_cons_succ,List.set_cons_zero];refine aA (cJ rfl) ?_;simp only[cI,bL,bT,List.getD_cons_succ,List.getD_cons_zero,List.set_cons_succ,List.set_cons_zero];refine aG (hK13 _ _ ?_);refine cQ rfl (aF (fun K14 hK14=>?_));refine wp_region_lit (aA (aB) ?_);simp only[cI,bL,bT,List.getD_cons_succ,List.getD_cons_zero,List.set_cons_succ,List.set_cons_zero];refine aA (Qq rfl rfl) ?_;simp only[cI,bL,bT,List.getD_cons_succ,List.getD_cons_zero,List.set_cons_succ,List.set_cons_zero];refine aA (jI iT nR rfl (Na h2)) ?_;simp only[cI,bL,bT,List.getD_cons_succ,List.getD_cons_zero,List.set_cons_succ,List.set_cons_zero];refine aA (aD) ?_;simp only[cI,bL,bT,List.getD_cons_succ,List.getD_cons_zero,List.set_cons_succ,List.set_cons_zero];refine aA (aD) ?_;simp only[cI,bL,bT,List.getD_cons_succ,List.getD_cons_zero,List.set_cons_succ,List.set_cons_zero];refine aG (hK14 _ _ ?_);refine wp_ret ?_;try simp only[Exit.inBlock,Exit.then]
     refine jW rfl rfl rfl ?_;try simp only[List.getD_cons_succ,List.getD_cons_zero]
     exact ⟨_,rfl,hX,Ch h3 h4.symm⟩
    ·
     rw [h1] at hB1;refine wp_region_lit (aA (aO (c:=0) gG rfl fC rfl rfl) ?_);simp only[cI,bL,bT,List.getD_cons_succ,List.getD_cons_zero,List.set_cons_succ,List.set_cons_zero];refine aL rfl (hB1.lies1 jG rfl) ?_;simp only[cI,bL,bT,List.getD_cons_succ,List.getD_cons_zero,List.set_cons_succ,List.set_cons_zero];refine aA (aB) ?_;simp only[cI,bL,bT,List.getD_cons_succ,List.getD_cons_zero,List.set_cons_succ,List.set_cons_zero];refine bN rfl (aA (aB) ?_);simp only[cI,bL,bT,List.getD_cons_succ,List.getD_cons_zero,List.set_cons_succ,List.set_cons_zero];refine bN rfl (aA (Nw rfl rfl (by omega)) ?_);simp only[cI,bL,bT,List.getD_cons_succ,List.getD_cons_zero,List.set_cons_succ,List.set_cons_zero];refine aA (cJ rfl) ?_;simp only[cI,bL,bT,List.getD_cons_succ,List.getD_cons_zero,List.set_cons_succ,List.set_cons_zero];refine aG (hK13 _ _ ?_);refine iD rfl (wp_skip ?_);refine hK12 _ _ (aF (fun K15 hK15=>?_));refine aF (fun K16 hK16=>?_);refine wp_region_lit (aA (aB) ?_);simp only[cI,bL,bT,List.getD_cons_succ,List.getD_cons_zero,List.set_cons_succ,List.set_cons_zero];refine aA (Ih rfl rfl (by omega)) ?_;simp only[cI,bL,bT,List.getD_cons_succ,List.getD_cons_zero,List.set_cons_succ,List.set_cons_zero];refine aG (hK16 _ _ ?_);refine cQ rfl (aF (fun K17 hK17=>?_));refine wp_region_lit (aA (aD) ?_);simp only[cI,bL,bT,List.getD_cons_succ,List.getD_cons_zero,List.set_cons_succ,List.set_cons_zero];refine aA (aD) ?_;simp only[cI,bL,bT,List.getD_cons_succ,List.getD_cons_zero,List.set_cons_succ,List.set_cons_zero];refine aG (hK17 _ _ ?_);refine wp_ret ?_;try simp only[Exit.inBlock,Exit.then]
     refine jW rfl rfl rfl ?_;try simp only[List.getD_cons_succ,List.getD_cons_zero]
     exact ⟨_,rfl,hX,Ae h3⟩
    ·
     rw [h1] at hB1;refine wp_region_lit (aA (aO (c:=0) gG rfl fC rfl rfl) ?_);simp only[cI,bL,bT,List.getD_cons_succ,List.getD_cons_zero,List.set_cons_succ,List.set_cons_zero];refine aL rfl (hB1.lies1 jG rfl) ?_;simp only[cI,bL,bT,List.getD_cons_succ,List.getD_cons_zero,List.set_cons_succ,List.set_cons_zero];refine aA (aB) ?_;simp only[cI,bL,bT,List.getD_cons_succ,List.getD_cons_zero,List.set_cons_succ,List.set_cons_zero];refine cN rfl ?_;simp only[cI,bL,bT,List.getD_cons_succ,List.getD_cons_zero,List.set_cons_succ,List.set_cons_zero];refine cN rfl ?_;simp only[cI,bL,bT,List.getD_cons_succ,List.getD_cons_zero,List.set_cons_succ,List.set_cons_zero];refine aA (cG rfl) ?_;simp only[cI,bL,bT,List.getD_cons_succ,List.getD_cons_zero,List.set_cons_succ,List.set_cons_zero];refine aG (hK13 _ _ ?_);refine iD rfl (wp_skip ?_);refine hK12 _ _ (aF (fun K18 hK18=>?_));refine aF (fun K19 hK19=>?_);refine wp_region_lit (aA (aB) ?_);simp only[cI,bL,bT,List.getD_cons_succ,List.getD_cons_zero,List.set_cons_succ,List.set_cons_zero];refine aA (Ih rfl rfl (by omega)) ?_;simp only[cI,bL,bT,List.getD_cons_succ,List.getD_cons_zero,List.set_cons_succ,List.set_cons_zero];refine aG (hK19 _ _ ?_);refine cQ rfl (aF (fun K20 hK20=>?_));refine wp_region_lit (aA (aD) ?_);simp only[cI,bL,bT,List.getD_cons_succ,List.getD_cons_zero,List.set_cons_succ,List.set_cons_zero];refine aA (aD) ?_;simp only[cI,bL,bT,List.getD_cons_succ,List.getD_cons_zero,List.set_cons_succ,List.set_cons_zero];refine aG (hK20 _ _ ?_);refine wp_ret ?_;try simp only[Exit.inBlock,Exit.then]
     refine jW rfl rfl rfl ?_;try simp only[List.getD_cons_succ,List.getD_cons_zero]
     exact ⟨_,rfl,hX,Ae h3⟩
    ·
     rw [h1] at hB1;refine wp_region_lit (aA (aO (c:=0) gG rfl fC rfl rfl) ?_);simp only[cI,bL,bT,List.getD_cons_succ,List.getD_cons_zero,List.set_cons_succ,List.set_cons_zero];refine aL rfl (hB1.lies1 jG rfl) ?_;simp only[cI,bL,bT,List.getD_cons_succ,List.getD_cons_zero,List.set_cons_succ,List.set_cons_zero];refine aA (aB) ?_;simp only[cI,bL,bT,List.getD_cons_succ,List.getD_cons_zero,List.set_cons_succ,List.set_cons_zero];refine cN rfl ?_;simp only[cI,bL,bT,List.getD_cons_succ,List.getD_cons_zero,List.set_cons_succ,List.set_cons_zero];refine cN rfl ?_;simp only[cI,bL,bT,List.getD_cons_succ,List.getD_cons_zero,List.set_cons_succ,List.set_cons_zero];refine aA (cG rfl) ?_;simp only[cI,bL,bT,List.getD_cons_succ,List.getD_cons_zero,List.set_cons_succ,List.set_cons_zero];refine aG (hK13 _ _ ?_);refine iD rfl (wp_skip ?_);refine hK12 _ _ (aF (fun K21 hK21=>?_));refine aF (fun K22 hK22=>?_);refine wp_region_lit (aA (aB) ?_);simp only[cI,bL,bT,List.getD_cons_succ,List.getD_cons_zero,List.set_cons_succ,List.set_cons_zero];refine aA (Wf rfl rfl (by omega)) ?_;simp only[cI,bL,bT,List.getD_cons_succ,List.getD_cons_zero,List.set_cons_succ,List.set_cons_zero];refine aG (hK22 _ _ ?_);refine iD rfl (wp_skip ?_);refine hK21 _ _ (aF (fun K23 hK23=>?_));refine wp_region_lit (aA (aB) ?_);simp only[cI,bL,bT,List.getD_cons_succ,List.getD_cons_zero,List.set_cons_succ,List.set_cons_zero];refine aA (jI iT nR rfl (aM (by omega) (by omega))) ?_;simp only[cI,bL,bT,List.getD_cons_succ,List.getD_cons_zero,List.set_cons_succ,List.set_cons_zero];refine aA (aD) ?_;simp only[cI,bL,bT,List.getD_cons_succ,List.getD_cons_zero,List.set_cons_succ,List.set_cons_zero];refine aA (aD) ?_;simp only[cI,bL,bT,List.getD_cons_succ,List.getD_cons_zero,List.set_cons_succ,List.set_cons_zero];refine aG (hK23 _ _ ?_);refine wp_ret ?_;try simp only[Exit.inBlock,Exit.then]
     refine jW rfl rfl rfl ?_;try simp only[List.getD_cons_succ,List.getD_cons_zero]
     exact ⟨_,rfl,hX,Ch h3 h4.symm⟩
end Go.Proofs.YtfohfflkhpfjeaaGreatDoor
namespace Go.Proofs.YtfohfflkhpfjeaaGreatDoor
open Go.Proofs.Tryz
open Go.RowKit Go.Lith
set_option maxRecDepth 100000
attribute [local irreducible] wpList wpQuiet dY dO dN Code.wp
end Go.Proofs.YtfohfflkhpfjeaaGreatDoor
namespace Go.Proofs.YtfohfflkhpfjeaaGreatDoor
open Go.Proofs.Tryz
open Go.RowKit Go.Lith
set_option maxRecDepth 100000
attribute [local irreducible] wpList wpQuiet dY dO dN Code.wp
instance : Iw 1:=⟨by unfold oJ;decide⟩
end Go.Proofs.YtfohfflkhpfjeaaGreatDoor
namespace Go.Proofs.YtfohfflkhpfjeaaGreatDoor
open Go.Proofs.Tryz
open Go.RowKit Go.Lith
set_option maxRecDepth 100000
attribute [local irreducible] wpList wpQuiet dY dO dN Code.wp
theorem aaw {p q : P3} [I3 p] [I3 q] : iX prog 90 [pt p,pt q] (wv (q.sub p)):=by
 intro w;refine ⟨afs,?_⟩;have m:=cF.refl w
 go_enter func90,ntmps90
 refine aF fun K1 k1=>wp_region_lit (eP m rfl ?_);clear m;intro g1 u m;simp only[zz];refine eP m rfl ?_;clear m;intro g2 u m;simp only[zz];refine bH m Dr rfl ?_;clear m;intro g3 u m;refine aG (k1 _ _ ?_);refine aF fun K2 k2=>?_;simp only[zz];refine kI 8 [0,1,2,3,4,5,6] [⟨7,5,65,[.bool false,.string ⟨#[]⟩]⟩] aP (by kernel_rfl) (al1 ⟨_,_,_,rfl,by kernel_rfl,_,eX,rfl⟩) (ol:=?_) ?hol ?_
 case hol=>simp only[zw,zQ,zR];try rfl
 intro u e;replace m:=m.ext' e;clear e;refine oK (aO (c:=0) dW rfl bG rfl rfl) ?_;simp only[zz];refine nQ rfl (fun u e=>(((m.ext' e).b 1 rfl).lies1 bZ rfl)) ?_;simp only[zz];refine lW rfl rfl (tG Iw.h) (oK (aO (c:=0) dW rfl bG rfl rfl) ?_);simp only[zz];refine nQ rfl (fun u e=>(((m.ext' e).b 2 rfl).lies1 bZ rfl)) ?_;simp only[zz];refine lW rfl rfl (tG Iw.h) ?_;simp only[zz];refine lW rfl rfl (Jy Bw.up Bw.up) (Kv ?_);simp only[zz];refine mf1 m ?_;clear m;intro g4 u m;simp only[zJ,zK,zF,zG];refine aT m 0 rfl rfl rfl aR (dX rfl) rfl ?_;clear m;intro u m;simp only[zy,zx,bK,zF,zG,Nat.reduceAdd] at m;refine aG (k2 _ _ ?_);refine aF fun K3 k3=>?_;refine kI 8 [0,1,2,3,4,5,6] [⟨7,6,65,[.bool false,.string ⟨#[]⟩]⟩] aP (by kernel_rfl) (al1 ⟨_,_,_,rfl,by kernel_rfl,_,eX,rfl⟩) (ol:=?_) ?hol ?_
 case hol=>simp only[zw,zQ,zR];try rfl
 intro u e;replace m:=m.ext' e;clear e;refine oK (aO (c:=0) dW rfl bG rfl rfl) ?_;simp only[zz];refine nQ rfl (fun u e=>(((m.ext' e).b 2 rfl).lies1 bZ rfl)) ?_;simp only[zz];refine lW rfl rfl (tG Iw.h) (oK (aO (c:=0) dW rfl bG rfl rfl) ?_);simp only[zz];refine nQ rfl (fun u e=>(((m.ext' e).b 3 rfl).lies1 bZ rfl)) ?_;simp only[zz];refine lW rfl rfl (tG Iw.h) ?_;simp only[zz];refine lW rfl rfl (Jy Bw.up Bw.up) (Kv ?_);simp only[zz];refine mf1 m ?_;clear m;intro g5 u m;simp only[zJ,zK,zF,zG];refine aT m 0 rfl rfl rfl aR (dX rfl) rfl ?_;clear m;intro u m;simp only[zy,zx,bK,zF,zG,Nat.reduceAdd] at m;refine aG (k3 _ _ ?_);refine aF fun K4 k4=>?_;refine kI 8 [0,1,2,3,4,5,6] [⟨7,7,65,[.bool false,.string ⟨#[]⟩]⟩] aP (by kernel_rfl) (al1 ⟨_,_,_,rfl,by kernel_rfl,_,eX,rfl⟩) (ol:=?_) ?hol ?_
 case hol=>simp only[zw,zQ,zR];try rfl
 intro u e;replace m:=m.ext' e;clear e;refine oK (aO (c:=0) dW rfl bG rfl rfl) ?_;simp only[zz];refine nQ rfl (fun u e=>(((m.ext' e).b 3 rfl).lies1 bZ rfl)) ?_;simp only[zz];refine lW rfl rfl (tG Iw.h) (oK (aO (c:=0) dW rfl bG rfl rfl) ?_);simp only[zz];refine nQ rfl (fun u e=>(((m.ext' e).b 4 rfl).lies1 bZ rfl)) ?_;simp only[zz];refine lW rfl rfl (tG Iw.h) ?_;simp only[zz];refine lW rfl rfl (Jy Bw.up Bw.up) (Kv ?_);simp only[zz];refine mf1 m ?_;clear m;intro g6 u m;simp only[zJ,zK,zF,zG];refine aT m 0 rfl rfl rfl aR (dX rfl) rfl ?_;clear m;intro u m;simp only[zy,zx,bK,zF,zG,Nat.reduceAdd] at m;refine aG (k4 _ _ ?_);refine aF fun K5 k5=>wp_region_lit (aL rfl ((m.b 2 rfl).full cA aR) ?_);simp only[zz];refine aL rfl ((m.b 1 rfl).full cA aR) ?_;simp only[zz];refine aL rfl ((m.b 0 rfl).full cA aR) ?_;simp only[zz];refine aA (xO rfl rfl rfl) ?_;simp only[zz];refine aT m 3 rfl rfl rfl rV (dX rfl) rfl ?_;clear m;intro u m;simp only[zy,zx,bK,zF,zG,Nat.reduceAdd] at m;refine aG (k5 _ _ ?_);refine wp_ret ?_;try simp only[Exit.inBlock,Exit.then,if_true]
 refine bS rfl ⟨_,rfl,((m.b 3 rfl).full Je rV)⟩ ?_;try simp only[zD,zE]
 exact ⟨_,rfl,m.ext,rfl⟩
theorem Qn {u v : P3} (hu : Bv 400000 u) (hv : Bv 400000 v) : iX prog 91 [wv u,wv v] (W (u.dot v)):=by
 intro w;refine ⟨aft,?_⟩;have m:=cF.refl w
 go_enter func91,ntmps91
 refine aF fun K1 k1=>wp_region_lit (eP m rfl ?_);clear m;intro g1 u m;simp only[zz];refine eP m rfl ?_;clear m;intro g2 u m;simp only[zz];refine bH m eX rfl ?_;clear m;intro g3 u m;refine aG (k1 _ _ ?_);refine aF fun K2 k2=>?_;simp only[zz];refine kI 12 [0,1,2,3,4,5,6,7,8,9,10] [⟨11,5,65,[.bool false,.string ⟨#[]⟩]⟩] aP (by kernel_rfl) (al1 ⟨_,_,_,rfl,by kernel_rfl,_,eX,rfl⟩) (ol:=?_) ?hol ?_
 case hol=>simp only[zw,zQ,zR];try rfl
 intro u e;replace m:=m.ext' e;clear e;refine oK (aH uF aR rfl rfl (by decide) (by decide) rfl) ?_;simp only[zz];refine nQ rfl (fun u e=>(((m.ext' e).b 2 rfl).lies cA aR rfl rfl)) ?_;simp only[zz,zy,Nat.zero_add,Nat.reduceAdd,Nat.reduceMul,Int.reduceToNat];refine oK (aH uF aR rfl rfl (by decide) (by decide) rfl) ?_;simp only[zz];refine nQ rfl (fun u e=>(((m.ext' e).b 1 rfl).lies cA aR rfl rfl)) ?_;simp only[zz,zy,Nat.zero_add,Nat.reduceAdd,Nat.reduceMul,Int.reduceToNat];refine lW rfl rfl (Jz Bw.up Bw.up) (oK (aH uF aR rfl rfl (by decide) (by decide) rfl) ?_);simp only[zz];refine nQ rfl (fun u e=>(((m.ext' e).b 2 rfl).lies cA aR rfl rfl)) ?_;simp only[zz,zy,Nat.zero_add,Nat.reduceAdd,Nat.reduceMul,Int.reduceToNat];refine oK (aH uF aR rfl rfl (by decide) (by decide) rfl) ?_;simp only[zz];refine nQ rfl (fun u e=>(((m.ext' e).b 1 rfl).lies cA aR rfl rfl)) ?_;simp only[zz,zy,Nat.zero_add,Nat.reduceAdd,Nat.reduceMul,Int.reduceToNat];refine lW rfl rfl (Jz Bw.up Bw.up) ?_;simp only[zz];refine lW rfl rfl (Jw Bw.up Bw.up) (Kv ?_);simp only[zz];refine mf1 m ?_;clear m;intro g4 u m;simp only[zJ,zK,zF,zG];refine aT m 0 rfl rfl rfl aR (dX rfl) rfl ?_;clear m;intro u m;simp only[zy,zx,bK,zF,zG,Nat.reduceAdd] at m;refine aG (k2 _ _ ?_);refine aF fun K3 k3=>?_;refine gN m 7 aP (by kernel_rfl) ?_;simp only[zy];refine ql rfl (fun u m=>((m.b 0 rfl).full cA aR)) ?_;simp only[zz];refine aI (aH uF aR rfl rfl (by decide) (by decide) rfl) ?_;simp only[zz];refine ql rfl (fun u m=>((m.b 3 rfl).lies cA aR rfl rfl)) ?_;simp only[zz,zy,Nat.zero_add,Nat.reduceAdd,Nat.reduceMul,Int.reduceToNat];refine aI (aH uF aR rfl rfl (by decide) (by decide) rfl) ?_;simp only[zz];refine ql rfl (fun u m=>((m.b 2 rfl).lies cA aR rfl rfl)) ?_;simp only[zz,zy,Nat.zero_add,Nat.reduceAdd,Nat.reduceMul,Int.reduceToNat];refine sS rfl rfl (Jz Bw.up Bw.up) ?_;simp only[zz];refine sS rfl rfl (Jw Bw.up Bw.up) (cP ?_);clear m;intro u m;simp only[zz];refine aT m 1 rfl rfl rfl aR (dX rfl) rfl ?_;clear m;intro u m;simp only[zy,zx,bK,zF,zG,Nat.reduceAdd] at m;refine aG (k3 _ _ ?_);refine wp_ret ?_;try simp only[Exit.inBlock,Exit.then,if_true]
 refine bS rfl ⟨_,rfl,((m.b 1 rfl).full cA aR)⟩ ?_;try simp only[zD,zE]
 exact ⟨_,rfl,m.ext,rfl⟩
theorem aax {p q : P3} [I3 p] [I3 q] : iX prog 48 [pt p,pt q] (W ((q.sub p).dot (q.sub p))):=by
 intro w;refine ⟨aeO,?_⟩;have m:=cF.refl w
 go_enter func48,ntmps48
 refine aF fun K1 k1=>wp_region_lit (eP m rfl ?_);clear m;intro g1 u m;simp only[zz];refine eP m rfl ?_;clear m;intro g2 u m;simp only[zz];refine bH m eX rfl ?_;clear m;intro g3 u m;refine aG (k1 _ _ ?_);refine aF fun K2 k2=>wp_region_lit ?_;simp only[zz];refine aL rfl ((m.b 2 rfl).full aJ aC) ?_;simp only[zz];refine aL rfl ((m.b 1 rfl).full aJ aC) ?_;simp only[zz];refine gJ m rfl rfl (aaw) ?_;clear m;intro u m;simp only[zz];refine bH m Dr rfl ?_;clear m;intro g4 u m;simp only[zz];refine aT m 0 rfl rfl rfl rV (dX rfl) rfl ?_;clear m;intro u m;simp only[zy,zx,bK,zF,zG,Nat.reduceAdd] at m;refine aG (k2 _ _ ?_);refine aF fun K3 k3=>wp_region_lit (aL rfl ((m.b 0 rfl).full Je rV) ?_);simp only[zz];refine aL rfl ((m.b 0 rfl).full Je rV) ?_;simp only[zz];refine gJ m rfl rfl (Qn Bv.of Bv.of) ?_;clear m;intro u m;simp only[zz];refine aT m 1 rfl rfl rfl aR (dX rfl) rfl ?_;clear m;intro u m;simp only[zy,zx,bK,zF,zG,Nat.reduceAdd] at m;refine aG (k3 _ _ ?_);refine wp_ret ?_;try simp only[Exit.inBlock,Exit.then,if_true]
 refine bS rfl ⟨_,rfl,((m.b 1 rfl).full cA aR)⟩ ?_;try simp only[zD,zE]
 exact ⟨_,rfl,m.ext,rfl⟩
end Go.Proofs.YtfohfflkhpfjeaaGreatDoor
namespace Go.Proofs.YtfohfflkhpfjeaaGreatDoor
open Go.Proofs.Tryz
open Go.RowKit Go.Lith
set_option maxRecDepth 100000
attribute [local irreducible] wpList wpQuiet dY dO dN Code.wp
theorem ack {n : Nat} : Am (((eE n : Nat) : Int) * ((eE n : Nat) : Int) - (n : Int)) < 0 ↔ ¬ eE n * eE n = n:=by
 have h:=(sP n).1;have h2 : ((eE n : Nat) : Int) * ((eE n : Nat) : Int) = ((eE n * eE n : Nat) : Int):=by simp
 rw [h2];generalize eE n * eE n = r at h;unfold Am;split
 · exact ⟨fun _=>by omega,fun _=>by omega⟩
 ·
  split
  · exact ⟨fun k=>by omega,fun k=>by omega⟩
  · exact ⟨fun k=>by omega,fun k=>by omega⟩
section
variable {fs gs : List T3} {ms : List Mv}
theorem agq (hf : cX true fs = 0) (h : cX true gs ≠ 0) : gR fs gs ms = (0,cX true gs):=by
 rw [gR,if_neg (fun k=>k hf),if_pos h]
theorem af2 (hf : cX true fs = 0) (hg : cX true gs = 0) (h : ¬ aU fs = aU gs) : gR fs gs ms = (0,30):=by
 rw [gR,if_neg (fun k=>k hf),if_neg (fun k=>k hg),if_pos h]
theorem agr (hf : cX true fs = 0) (hg : cX true gs = 0) (hb : aU fs = aU gs) (h : iV fs gs (aU fs) = true ∨ nJ fs gs (aU fs) = false) : gR fs gs ms = (0,30):=by
 rw [gR,if_neg (fun k=>k hf),if_neg (fun k=>k hg),if_neg (fun k=>k hb),if_pos h]
theorem Se (hf : cX true fs = 0) (hg : cX true gs = 0) (hb : aU fs = aU gs) (h : ¬ (iV fs gs (aU fs) = true ∨ nJ fs gs (aU fs) = false)) : gR fs gs ms = if lK fs gs ms (aU fs) = false then ((0 : Int),(31 : Int)) else if kP fs gs ms = false then ((0 : Int),(32 : Int)) else match lH ms 0 with
 | some n=>(n,(0 : Int))
 | none=>((0 : Int),(3 : Int)):=by
 rw [gR,if_neg (fun k=>k hf),if_neg (fun k=>k hg),if_neg (fun k=>k hb),if_neg h];cases lH ms 0 <;> rfl
theorem af3 {x y : Bool} (h : (x || !y) = true) : x = true ∨ y = false:=by revert h;cases x <;> cases y <;> decide
theorem af4 {x y : Bool} (h : (x || !y) = false) : ¬ (x = true ∨ y = false):=by revert h;cases x <;> cases y <;> decide
end
theorem nob {b : Bool} (h : (!b) = true) : b = false:=by cases b <;> revert h <;> decide
theorem af5 {b : Bool} (h : (!b) = false) : b = true:=by cases b <;> revert h <;> decide
theorem aay {x y : E3} : (x.1.x = y.1.x ∧ x.1.y = y.1.y ∧ x.1.z = y.1.z ∧ x.2.x = y.2.x ∧ x.2.y = y.2.y ∧ x.2.z = y.2.z) ↔ x = y :=
 ⟨fun ⟨h1,h2,h3,h4,h5,h6⟩=>Prod.ext (P3.eq h1 h2 h3) (P3.eq h4 h5 h6),fun h=>by rw [h];exact ⟨rfl,rfl,rfl,rfl,rfl,rfl⟩⟩
theorem Ni {p q : P3} [I3 p] [I3 q] : iX prog 25 [pt p,pt q] (.tuple #[.int .i64 (Js (pJ p q)),.bool (decide (oJ (pJ p q)))]):=by
 intro w;refine ⟨aet,?_⟩;have m:=cF.refl w
 go_enter func25,ntmps25
 refine aF fun K1 k1=>wp_region_lit (eP m rfl ?_);clear m;intro g1 u m;simp only[zz];refine eP m rfl ?_;clear m;intro g2 u m;refine aA (aD) (aA (aD) (aG (k1 _ _ ?_)));refine aF fun K2 k2=>wp_region_lit ?_;simp only[zz];refine aL rfl ((m.b 1 rfl).full aJ aC) ?_;simp only[zz];refine aL rfl ((m.b 0 rfl).full aJ aC) ?_;simp only[zz];refine gJ m rfl rfl (aax (p:=p) (q:=q)) ?_;clear m;intro u m;simp only[zz];refine bH m eX rfl ?_;clear m;intro g3 u m;simp only[zz];refine aT m 0 rfl rfl rfl aR (dX rfl) rfl ?_;clear m;intro u m;simp only[zy,zx,bK,zF,zG,Nat.reduceAdd] at m;refine aG ?_;rw [Ka] at m;refine k2 _ _ ?_;refine aF fun K3 k3=>wp_region_lit (aL rfl ((m.b 0 rfl).full cA aR) ?_);simp only[zz];refine gJ m rfl rfl (abR (a:=((oA p q : Nat) : Int)) (oZ.mono (by decide)) (by omega)) ?_;clear m;intro u m;refine aA (aB) (aA (bM rfl rfl) (aA (bM rfl rfl) ?_));simp only[zz];refine bH m eX rfl ?_;clear m;intro g4 u m;simp only[zz];refine aT m 0 rfl rfl rfl aR (dX rfl) rfl ?_;clear m;intro u m;simp only[zy,zx,bK,zF,zG,Nat.reduceAdd] at m;refine aA (aD) (aG ?_);simp only[zz];rw [Int.natAbs_natCast] at m;refine k3 _ _ ?_;refine aF fun K4 k4=>aF fun K5 k5=>mq m aP (by kernel_rfl) (ql rfl (fun u m=>((m.b 0 rfl).full cA aR)) ?_);simp only[zz];refine ql rfl (fun u m=>((m.b 0 rfl).full cA aR)) ?_;simp only[zz];refine sS rfl rfl (Jz (a:=((eE (oA p q) : Nat) : Int)) (b:=((eE (oA p q) : Nat) : Int)) ((tH oZ).mono (by decide)) ((tH oZ).mono (by decide))) ?_;simp only[zz];refine ql rfl (fun u m=>((m.b 1 rfl).full cA aR)) ?_;simp only[zz];refine sS rfl rfl (adL (a:=((eE (oA p q) : Nat) : Int) * ((eE (oA p q) : Nat) : Int)) (b:=((oA p q : Nat) : Int)) (((tH oZ).mul (tH oZ)).mono (by decide)) (oZ.mono (by decide))) (aI (cO rfl rfl) (cP ?_));clear m;intro u m;refine k5 _ _ ?_;simp only[zz];refine oD m 0 [] [23,24,25] (fun vs i=>vs = [] ∧ i = bI g4 [.bool (iE (pJ p q)),.string (mX (pJ p q))] 65) ?_ ?_
 ·
  refine cC rfl (fun hc1=>?_) (fun hc1=>?_)
  ·
   have hsq:=ack.1 hc1;refine gN m 3 aP (by kernel_rfl) ?_;simp only[zy];refine ql rfl (fun u m=>((m.b 0 rfl).full cA aR)) ?_;simp only[zz];refine sS rfl rfl (tG (n:=1) (show oJ 1 by unfold oJ;decide)) ?_;simp only[zz];refine sS rfl rfl (Jw (a:=((eE (oA p q) : Nat) : Int)) (b:=1) ((tH oZ).mono (by decide)) Bw.up) (cP ?_);clear m;intro u m;simp only[zz];refine aT m 0 rfl rfl rfl aR (dX rfl) rfl ?_;clear m;intro u m;simp only[zy,zx,bK,zF,zG,Nat.reduceAdd] at m;refine aG ?_;rw [Sb hsq] at m;simp only[Exit.inBlock,Exit.then];refine ⟨_,_,rfl,?_,m,?_⟩
   · simp only[zz,zv]
   ·
    simp only[zQ,zR,zD,zE];exact ⟨trivial,trivial⟩
  ·
   have hsq:=Classical.not_not.1 (mt ack.2 hc1);refine wp_skip ?_;rw [Ng hsq] at m;simp only[Exit.inBlock,Exit.then];refine ⟨_,_,rfl,?_,m,?_⟩
   · simp only[zz,zv]
   ·
    simp only[zQ,zR,zD,zE];exact ⟨trivial,trivial⟩
 ·
  intro vs i wr m hI u;obtain ⟨rfl,rfl⟩:=hI;simp only[zF,zG] at m;simp only[zu,zF,zG];refine k4 _ _ ?_;refine aF fun K6 k6=>wp_region_lit (aL rfl ((m.b 0 rfl).full cA aR) ?_);simp only[zz];refine gJ m rfl rfl (adQ (a:=pJ p q) (Sc.mono (by decide))) ?_;clear m;intro u m;refine aA (bM rfl rfl) (aA (bM rfl rfl) (aA (aD) ?_));simp only[zz];refine aA (aD) (aG (k6 _ _ ?_));refine wp_ret ?_;simp only[zz];try simp only[Exit.inBlock,Exit.then,if_true]
  refine jW rfl rfl rfl ?_;try simp only[zD,zE]
  exact ⟨_,rfl,m.ext,rfl⟩
theorem Vr {fs gs : List T3} {ms : List Mv} {N cap N2 cap2 N3 cap3 : Nat} {A A2 A3 : Option Addr} (w : World) (hT : fA w A N fs) (hT2 : fA w A2 N2 gs) (hL3 : oU cB 6 w A3 N3 ms) (hN : N ≤ 300000) (hN2 : N2 ≤ 300000) (hN3 : N3 ≤ 10000000) (hI : ∀ mv ∈ ms,I3 mv.1 ∧ I3 mv.2) (hcap : N ≤ cap) (hcap2 : N2 ≤ cap2) : eL prog 24 [.slice A N cap,.slice A2 N2 cap2,.slice A3 N3 cap3] w (fun v _=>v = .tuple #[.int .i64 (gR fs gs ms).1,.int .i64 (gR fs gs ms).2]):=by
 refine ⟨aes,?_⟩;have m:=cF.refl w;have hblf : (aU fs).length ≤ 1000000:=by have h1:=rS (all:=bB fs) (bB fs) [];have h2:=jD fs;have h3:=hT.len;simp only[List.length_nil] at h1;unfold aU;omega
 have hblg : (aU gs).length ≤ 1000000:=by have h1:=rS (all:=bB gs) (bB gs) [];have h2:=jD gs;have h3:=hT2.len;simp only[List.length_nil] at h1;unfold aU;omega
 go_enter func24,ntmps24
 refine aF fun K1 k1=>wp_region_lit (aA (aD) (aA (aD) (aG (k1 _ _ ?_))));refine aF fun K2 k2=>wp_region_lit (aA (aB) ?_);simp only[zz];refine eQ m rfl rfl (xR _ (hT.ext m.ext) (by omega)) ?_;clear m;rintro v u m rfl;refine aA (aD) (aG (k2 _ _ ?_));refine aF fun K3 k3=>aF fun K4 k4=>wp_region_lit (aA (aB) (aA (kW rfl rfl) ?_));simp only[zz];refine aG (k4 _ _ ?_);refine cC rfl (fun hc1=>?_) (fun hc1=>?_)
 ·
  refine aF fun K5 k5=>wp_region_lit (aA (aB) (aA (aD) (aA (aD) (aG (k5 _ _ ?_)))));refine wp_ret ?_;simp only[zz];try simp only[Exit.inBlock,Exit.then,if_true]
  refine jW rfl rfl rfl ?_;try simp only[zD,zE]
  exact ⟨_,rfl,m.ext,by rw [aaf hc1]⟩
 ·
  have hf : cX true fs = 0:=Classical.not_not.1 hc1;refine wp_skip (k3 _ _ ?_);refine aF fun K6 k6=>wp_region_lit (aA (aB) ?_);simp only[zz];refine eQ m rfl rfl (xR _ (hT2.ext m.ext) (by omega)) ?_;clear m;rintro v u m rfl;refine aA (aD) (aG (k6 _ _ ?_));refine aF fun K7 k7=>aF fun K8 k8=>wp_region_lit (aA (aB) (aA (kW rfl rfl) ?_));simp only[zz];refine aG (k8 _ _ ?_);refine cC rfl (fun hc2=>?_) (fun hc2=>?_)
  ·
   refine aF fun K9 k9=>wp_region_lit (aA (aB) (aA (aD) (aA (aD) (aG (k9 _ _ ?_)))));refine wp_ret ?_;simp only[zz];try simp only[Exit.inBlock,Exit.then,if_true]
   refine jW rfl rfl rfl ?_;try simp only[zD,zE]
   exact ⟨_,rfl,m.ext,by rw [agq hf hc2]⟩
  ·
   have hg : cX true gs = 0:=Classical.not_not.1 hc2;refine wp_skip (k7 _ _ ?_);refine aF fun K10 k10=>wp_region_lit (aA (aB) ?_);simp only[zz];refine bE rfl rfl (Lw _ (hT.ext m.ext) (by omega)) ?_;rintro v u e ⟨A4,c4,n4,hn4,rfl,hN⟩;replace m:=m.newO e hN;clear e hN;subst hn4;refine aA (aD) (aG (k10 _ _ ?_));refine aF fun K11 k11=>wp_region_lit (aA (aB) ?_);simp only[zz];refine bE rfl rfl (Lw _ (hT2.ext m.ext) (by omega)) ?_;rintro v u e ⟨A5,c5,n5,hn5,rfl,hN⟩;replace m:=m.newO e hN;clear e hN;subst hn5;refine aA (aD) (aG (k11 _ _ ?_));refine aF fun K12 k12=>aF fun K13 k13=>wp_region_lit (aA (aB) (aA (bA rfl eU rfl) ?_));simp only[zz];refine aA (aB) (aA (bA rfl eU rfl) (aA (kW rfl rfl) (aG (k13 _ _ ?_))));simp only[zz];refine cC rfl (fun hc3=>?_) (fun hc3=>?_)
   ·
    have hne : ¬ aU fs = aU gs:=fun h=>hc3 (by rw [h]);refine aF fun K14 k14=>wp_region_lit (aA (aD) (aA (aD) (aG (k14 _ _ ?_))));refine wp_ret ?_;simp only[zz];try simp only[Exit.inBlock,Exit.then,if_true]
    refine jW rfl rfl rfl ?_;try simp only[zD,zE]
    exact ⟨_,rfl,m.ext,by rw [af2 hf hg hne]⟩
   ·
    have hlen : (aU fs).length = (aU gs).length:=by omega
    refine wp_skip (k12 _ _ ?_);refine aF fun K15 k15=>aF fun K16 k16=>wp_region_lit (aA (aD) (aG (k16 _ _ ?_)));refine wp_block ?_;simp only[zz];try simp only[Nat.zero_add,Nat.reduceAdd,Nat.reduceMul,Int.reduceToNat]
    refine bJ [11] [6,7,39,40,41,42,43,44,45,46,47,48,49,50,51,52,53] (fun n vs wl=>∃ (k : Nat),vs = [.int .i64 (k:Int)] ∧ cF w wl [oI 57 6 A5 (aU gs).length c5 ((aU gs).flatMap cB),oI 57 6 A4 (aU fs).length c4 ((aU fs).flatMap cB)] ∧ ((aU fs).take k = (aU gs).take k) ∧ (k ≤ (aU fs).length) ∧ (n = (aU fs).length - k)) ?_ ?_
    ·
     apply Exists.intro;simp only[zQ,zR,zD,zE];exact ⟨0,rfl,m,rfl,Nat.zero_le _,rfl⟩
    ·
     intro n vs wr hI u;clear m;obtain ⟨k,rfl,m,hpre,hk,hn⟩:=hI;simp only[zu,zF,zG];refine aF fun K17 k17=>aF fun K18 k18=>wp_region_lit (aA (aB) (aA (aB) (aA (bA rfl eU rfl) (aA (cO rfl rfl) ?_))));simp only[zz];refine aG (k18 _ _ ?_);refine cC rfl (fun hc4=>?_) (fun hc4=>?_)
     ·
      obtain ⟨e,he⟩ : ∃ e,(aU fs)[k]? = some e:=⟨_,List.getElem?_eq_getElem (by omega)⟩
      obtain ⟨e2,he2⟩ : ∃ e,(aU gs)[k]? = some e:=⟨_,List.getElem?_eq_getElem (by omega)⟩
      obtain ⟨gO,rfl⟩:=(m.o 1 rfl).some (by omega);obtain ⟨gP,rfl⟩:=(m.o 0 rfl).some (by omega);refine wp_skip (k17 _ _ ?_);refine aF fun K19 k19=>wp_block (aF fun K20 k20=>mq m aP (by kernel_rfl) (aI (aB) (aI (aB) ?_)));simp only[zz];refine aI (aK eU cK rfl rfl (by omega) (by omega) (bY (Int.toNat_natCast _))) ?_;simp only[zz];refine ql rfl (fun u m=>(((m.o 1 rfl).at rQ he).lies jR cK)) ?_;simp only[zz];refine aI (aB) (aI (aB) ?_);simp only[zz];refine aI (aK eU cK rfl rfl (by omega) (by omega) (bY (Int.toNat_natCast _))) ?_;simp only[zz];refine ql rfl (fun u m=>(((m.o 0 rfl).at rQ he2).lies jR cK)) ?_;simp only[zz];refine aI (Hd rfl rfl) (cP ?_);clear m;intro u m;refine k20 _ _ ?_;simp only[zz];refine cC rfl (fun hc5=>?_) (fun hc5=>?_)
      ·
       have hne : ¬ aU fs = aU gs:=fun h=>by rw [h] at he;exact hc5 (aay.2 (Option.some.inj (he.symm.trans he2)))
       refine aF fun K21 k21=>wp_region_lit (aA (aD) (aA (aD) (aG (k21 _ _ ?_))));refine wp_ret ?_;simp only[zz];try simp only[Exit.inBlock,Exit.then,if_true]
       refine jW rfl rfl rfl ?_;try simp only[zD,zE]
       exact ⟨_,rfl,m.ext,by rw [af2 hf hg hne]⟩
      ·
       have hpre2 : (aU fs).take (k + 1) = (aU gs).take (k + 1):=by rw [dJ he,dJ he2,hpre,aay.1 (Classical.not_not.1 hc5)]
       refine wp_skip (k19 _ _ ?_);refine wp_region_lit (aA (aB) ?_);simp only[zz];refine aA (aQ rfl rfl (aM (by omega) (by omega))) (aA (aD) (aG ?_));simp only[zz];simp only[Exit.inBlock,Exit.then];refine ⟨(aU fs).length - (k + 1),_,?_,rfl,?_,?_⟩
       · omega
       · simp only[zz,zv]
       ·
        simp only[zQ,zR,zD,zE];exact ⟨k + 1,rfl,m,hpre2,by omega,rfl⟩
     ·
      have hbe : aU fs = aU gs:=by rw [List.take_of_length_le (by omega),List.take_of_length_le (by omega)] at hpre;exact hpre
      refine wp_exit (k15 _ _ ?_);refine aF fun K22 k22=>wp_region_lit (aA (aB) (aA (aB) (aA (aB) ?_)));simp only[zz];refine eQ m rfl rfl (Zl _ (hT.lat.ext m.ext) (hT2.lat.ext m.ext) ((m.o 1 rfl).lat rQ (by decide)) (by omega) (by omega) (by omega) hcap) ?_;clear m;rintro v u m rfl;refine aA (aD) (aG (k22 _ _ ?_));refine aF fun K23 k23=>wp_region_lit (aA (aB) (aA (aB) ?_));simp only[zz];refine aA (aB) ?_;simp only[zz];refine eQ m rfl rfl (abp _ (hT.lat.ext m.ext) (hT2.lat.ext m.ext) ((m.o 1 rfl).lat rQ (by decide)) (by omega) (by omega) (by omega) (qF hf).1 (qF hg).1) ?_;clear m;rintro v u m rfl;refine aA (aD) (aG (k23 _ _ ?_));refine aF fun K24 k24=>aF fun K25 k25=>wp_region_lit (aA (aB) (aA (aB) ?_));simp only[zz];refine fE rfl (fun hb=>aB) (fE rfl (fun hb=>fN (bO hb rfl)) (aA (fQ rfl rfl rfl) (aG (k25 _ _ ?_))));simp only[zz];refine eD rfl (fun hc6=>?_) (fun hc6=>?_)
      ·
       have hj:=af3 hc6;refine aF fun K26 k26=>wp_region_lit (aA (aD) (aA (aD) (aG (k26 _ _ ?_))));refine wp_ret ?_;simp only[zz];try simp only[Exit.inBlock,Exit.then,if_true]
       refine jW rfl rfl rfl ?_;try simp only[zD,zE]
       exact ⟨_,rfl,m.ext,by rw [agr hf hg hbe hj]⟩
      ·
       have hj:=af4 hc6;refine wp_skip (k24 _ _ ?_);refine aF fun K27 k27=>wp_region_lit (aA (aB) (aA (aB) (aA (aB) (aA (aB) ?_))));simp only[zz];refine eQ m rfl rfl (Zr _ (hT.lat.ext m.ext) (hT2.lat.ext m.ext) (hL3.ext m.ext) ((m.o 1 rfl).lat rQ (by decide)) (by omega) (by omega) (by omega) (by omega)) ?_;clear m;rintro v u m rfl;refine aA (aD) (aG (k27 _ _ ?_));refine aF fun K28 k28=>aF fun K29 k29=>wp_region_lit (aA (aB) (aA (fN rfl) ?_));simp only[zz];refine aG (k29 _ _ ?_);refine eD rfl (fun hc7=>?_) (fun hc7=>?_)
       ·
        have hmv:=nob hc7;refine aF fun K30 k30=>wp_region_lit (aA (aD) (aA (aD) (aG (k30 _ _ ?_))));refine wp_ret ?_;simp only[zz];try simp only[Exit.inBlock,Exit.then,if_true]
        refine jW rfl rfl rfl ?_;try simp only[zD,zE]
        exact ⟨_,rfl,m.ext,by rw [Se hf hg hbe hj,hmv];rfl⟩
       ·
        have hmv:=af5 hc7;refine wp_skip (k28 _ _ ?_);refine aF fun K31 k31=>wp_region_lit (aA (aB) (aA (aB) (aA (aB) ?_)));simp only[zz];refine eQ m rfl rfl (Pz _ (hT.lat.ext m.ext) (hT2.lat.ext m.ext) (hL3.ext m.ext) (by omega) (by omega) (by omega) hcap2 (by omega)) ?_;clear m;rintro v u m rfl;refine aA (aD) (aG (k31 _ _ ?_));refine aF fun K32 k32=>aF fun K33 k33=>wp_region_lit (aA (aB) (aA (fN rfl) ?_));simp only[zz];refine aG (k33 _ _ ?_);refine eD rfl (fun hc8=>?_) (fun hc8=>?_)
        ·
         have hcv:=nob hc8;refine aF fun K34 k34=>wp_region_lit (aA (aD) (aA (aD) (aG (k34 _ _ ?_))));refine wp_ret ?_;simp only[zz];try simp only[Exit.inBlock,Exit.then,if_true]
         refine jW rfl rfl rfl ?_;try simp only[zD,zE]
         exact ⟨_,rfl,m.ext,by rw [Se hf hg hbe hj,hmv,hcv];rfl⟩
        ·
         have hcv:=af5 hc8;refine wp_skip (k32 _ _ ?_);refine aF fun K35 k35=>wp_region_lit (aA (aD) (aG (k35 _ _ ?_)));refine aF fun K36 k36=>aF fun K37 k37=>wp_region_lit (aA (aD) (aG (k37 _ _ ?_)));refine wp_block ?_;simp only[zz];try simp only[Nat.zero_add,Nat.reduceAdd,Nat.reduceMul,Int.reduceToNat]
         refine bJ [16,17] [6,7,18,19,80,81,82,83,84,85,86,87,88,89,90,91,92,93,94,95,96,97,98,99,100,101,102,103,104] (fun n vs wl=>∃ (k : Nat) (y : Int),vs = [.int .i64 y,.int .i64 (k:Int)] ∧ cF w wl [] ∧ (lH ms 0 = lH (ms.drop k) y) ∧ (k ≤ N3) ∧ (n = N3 - k)) ?_ ?_
         ·
          apply Exists.intro;simp only[zQ,zR,zD,zE];exact ⟨0,_,rfl,(m.sel [false,false]),rfl,Nat.zero_le _,rfl⟩
         ·
          intro n vs wr hI u;clear m;obtain ⟨k,y,rfl,m,hme,hk,hn⟩:=hI;simp only[zu,zF,zG];refine aF fun K38 k38=>aF fun K39 k39=>wp_region_lit (aA (aB) (aA (aB) (aA (bA rfl kJ rfl) (aA (cO rfl rfl) ?_))));simp only[zz];refine aG (k39 _ _ ?_);refine cC rfl (fun hc9=>?_) (fun hc9=>?_)
          ·
           obtain ⟨mv,hmv2,a3,rfl,hrow3⟩:=hL3.get (i:=k) (by omega);haveI:=(hI mv (List.mem_of_getElem? hmv2)).1;haveI:=(hI mv (List.mem_of_getElem? hmv2)).2;refine wp_skip (k38 _ _ ?_);refine aF fun K40 k40=>wp_block (aF fun K41 k41=>mq m aP (by kernel_rfl) (aI (aB) (aI (aB) ?_)));simp only[zz];refine aI (aK kJ fK rfl rfl (by omega) (by omega) (bY (Int.toNat_natCast _))) (aI (aO (c:=2) iY rfl aC rfl rfl) ?_);simp only[zz];refine ql rfl (fun u m=>((rD (hrow3.ext m.ext)).lies aJ aC)) ?_;simp only[zz];refine aI (aB) (aI (aB) ?_);simp only[zz];refine aI (aK kJ fK rfl rfl (by omega) (by omega) (bY (Int.toNat_natCast _))) (aI (aO (c:=2) iY rfl aC rfl rfl) ?_);simp only[zz];refine ql rfl (fun u m=>((uO (hrow3.ext m.ext)).lies aJ aC)) ?_;simp only[zz];refine sS rfl rfl (Ni (p:=mv.1) (q:=mv.2)) (aI (aB) (aI (bM rfl rfl) (aI (bM rfl rfl) ?_)));simp only[zz];refine aI (aD) (aI (aD) (cP ?_));clear m;intro u m;refine k41 _ _ ?_;refine aF fun K42 k42=>aF fun K43 k43=>wp_region_lit (aA (aB) (aA (fN rfl) ?_));simp only[zz];refine aG (k43 _ _ ?_);refine eD rfl (fun hc10=>?_) (fun hc10=>?_)
           ·
            have hc3 : ¬ oJ (pJ mv.1 mv.2):=by simpa using hc10
            have hno:=Sd hmv2 hme hc3;refine aF fun K44 k44=>wp_region_lit (aA (aD) (aA (aD) (aG (k44 _ _ ?_))));refine wp_ret ?_;simp only[zz];try simp only[Exit.inBlock,Exit.then,if_true]
            refine jW rfl rfl rfl ?_;try simp only[zD,zE]
            exact ⟨_,rfl,m.ext,by rw [Se hf hg hbe hj,hmv,hcv,hno];rfl⟩
           ·
            have hc3 : oJ (pJ mv.1 mv.2):=by simpa using hc10
            have hme2:=Nh hmv2 hme hc3;refine wp_skip (k42 _ _ ?_);rw [Js,if_pos hc3];refine wp_region_lit (aA (aB) (aA (aB) (aA (ab0 rfl rfl (Sa _ _)) (aA (aD) ?_))));simp only[zz];refine aG (k40 _ _ ?_);refine wp_region_lit (aA (aB) ?_);simp only[zz];refine aA (aQ rfl rfl (aM (by omega) (by omega))) (aA (aD) (aG ?_));simp only[zz];simp only[Exit.inBlock,Exit.then];refine ⟨N3 - (k + 1),_,?_,rfl,?_,?_⟩
            · omega
            · simp only[zz,zv]
            ·
             simp only[zQ,zR,zD,zE];exact ⟨k + 1,_,rfl,m,hme2,by omega,rfl⟩
          ·
           rw [List.drop_of_length_le (by rw [hL3.len];omega)] at hme;refine wp_exit (k36 _ _ ?_);refine aF fun K45 k45=>wp_region_lit (aA (aB) (aA (aD) (aA (aD) (aG (k45 _ _ ?_)))));refine wp_ret ?_;simp only[zz];try simp only[Exit.inBlock,Exit.then,if_true]
           refine jW rfl rfl rfl ?_;try simp only[zD,zE]
           exact ⟨_,rfl,m.ext,by rw [Se hf hg hbe hj,hmv,hcv,hme];rfl⟩
theorem Nj {fs gs : List T3} {ms : List Mv} {N cap N2 cap2 N3 cap3 : Nat} {A A2 A3 : Option Addr} (w : World) (hT : fA w A N fs) (hT2 : fA w A2 N2 gs) (hL3 : oU cB 6 w A3 N3 ms) (hN : N ≤ 300000) (hN2 : N2 ≤ 300000) (hN3 : N3 ≤ 10000000) (hI : ∀ mv ∈ ms,I3 mv.1 ∧ I3 mv.2) (hcap : N ≤ cap) (hcap2 : N2 ≤ cap2) : eL prog 13 [.slice A N cap,.slice A2 N2 cap2,.slice A3 N3 cap3] w (fun v _=>v = .bool true):=by
 refine ⟨ael,?_⟩;have m:=cF.refl w
 go_enter func13,ntmps13
 refine aF fun K1 k1=>wp_region_lit (aA (aD) (aG (k1 _ _ ?_)));refine aF fun K2 k2=>wp_region_lit (aA (aB) (aA (aB) (aA (aB) ?_)));simp only[zz];refine eQ m rfl rfl (sH _ (hT.ext m.ext) (hT2.ext m.ext) (hL3.ext m.ext) hN hN2 hN3 hI) ?_;clear m;rintro v u m rfl;refine aA (aB) (aA (bM rfl rfl) (aA (bM rfl rfl) ?_));simp only[zz];refine aA (aD) (aA (aD) (aG (k2 _ _ ?_)));refine aF fun K3 k3=>wp_region_lit (aA (aB) (aA (aB) ?_));simp only[zz];refine aA (aB) ?_;simp only[zz];refine eQ m rfl rfl (Vr _ (hT.ext m.ext) (hT2.ext m.ext) (hL3.ext m.ext) hN hN2 hN3 hI hcap hcap2) ?_;clear m;rintro v u m rfl;refine aA (aB) (aA (bM rfl rfl) (aA (bM rfl rfl) ?_));simp only[zz];refine aA (aD) (aA (aD) (aG (k3 _ _ ?_)));refine aF fun K4 k4=>wp_region_lit (aA (aB) (aA (aB) ?_));simp only[zz];refine aA (rJ rfl rfl) (aA (aB) (dF rfl (fun hb=>aB) (dF rfl (fun hb=>aB) ?_)));simp only[zz];refine dF rfl (fun hb=>rJ (bO hb rfl) (bO hb rfl)) (aA (dC rfl rfl rfl) (aA (aD) (aG (k4 _ _ ?_))));refine wp_ret ?_;simp only[zz];try simp only[Exit.inBlock,Exit.then,if_true]
 refine bS rfl rfl ?_;try simp only[zD,zE]
 exact ⟨_,rfl,m.ext,by simp⟩
end Go.Proofs.YtfohfflkhpfjeaaGreatDoor
namespace Go.Lith
open Go.RowKit
/-! ### Edges of a list in which triangles are changed -/
section
variable {p : P3} {X : E3 → Prop} {old new R fine fine' : List T3}
end
/-! ### The two kinds of division -/
end Go.Lith
namespace Go.Lith
open Go.RowKit
/-! ### Images -/
section
variable {l fine fine' R : List T3} {ms : List Mv} {B B' : Int} {p : P3}
end
end Go.Lith
namespace Go.Lith
open Go.RowKit
end Go.Lith
namespace Go.Lith
open Go.RowKit
theorem uS {ts : List T3} {x : P3} : x ∈ dZ ts ↔ ∃ t ∈ ts,x = t.cor 0 ∨ x = t.cor 1 ∨ x = t.cor 2:=by
 unfold dZ;rw [List.mem_flatMap];exact exists_congr fun t=>and_congr Iff.rfl (by simp [T3.cor])
def Mid (x : P3) : Prop:=-2000000 ≤ x.x ∧ x.x ≤ 2000000 ∧ -1000000 ≤ x.y ∧ x.y ≤ 1000000 ∧ -1000000 ≤ x.z ∧ x.z ≤ 1000000
theorem Mid.i3 {x : P3} (h : Mid x) : I3 x:=by
 obtain ⟨h1,h2,h3,h4,h5,h6⟩:=h;exact ⟨⟨by omega,by omega⟩,⟨by omega,by omega⟩,⟨by omega,by omega⟩⟩
theorem af7 {ts : List T3} (h : ∀ x ∈ dZ ts,I3 x) : ∀ t ∈ ts,IT t:=fun t ht =>
 ⟨h _ (uS.2 ⟨t,ht,.inl rfl⟩),h _ (uS.2 ⟨t,ht,.inr (.inl rfl)⟩),h _ (uS.2 ⟨t,ht,.inr (.inr rfl)⟩)⟩
theorem adR {ts : List T3} (h : ∀ t ∈ ts,SmT 200 t) : ∀ x ∈ dZ ts,Mid x:=fun x hx=>by
 obtain ⟨t,ht,hx⟩:=uS.1 hx;have key : ∀ y,Sm 200 y → Mid y:=fun y ⟨⟨h1,h2⟩,⟨h3,h4⟩,h5,h6⟩=>⟨by omega,by omega,by omega,by omega,by omega,by omega⟩
 rcases hx with rfl | rfl | rfl
 · exact key _ (h t ht).1
 · exact key _ (h t ht).2.1
 · exact key _ (h t ht).2.2
end Go.Lith
namespace Go.Proofs.YtfohfflkhpfjeaaGreatDoor
open Go.Proofs.Tryz
open Go.RowKit Go.Lith
set_option maxRecDepth 100000
attribute [local irreducible] wpList wpQuiet dY dO dN Code.wp
theorem Sf {n k : Int} [Iw n] (h0 : 0 < k) (h1 : k < 4611686018427387904) : iX prog 29 [.int .i64 n,.int .i64 k] (.int .i64 (n % k)):=by
 intro w;refine ⟨aev,?_⟩;have m:=cF.refl w;have hb:=Xr (n:=n) h0
 go_enter func29,ntmps29
 refine aF fun K1 k1=>wp_region_lit (aA (aD) (aG (k1 _ _ ?_)));refine aF fun K2 k2=>wp_region_lit (aA (aB) (aA (aB) ?_));simp only[zz];refine aA (cE rfl rfl (by omega) rfl) (aA (aB) ?_);simp only[zz];refine aA (aQ rfl rfl (aM (by omega) (by omega))) (aA (aB) ?_);simp only[zz];refine aA (cE rfl rfl (by omega) (Qy h0)) (aA (aD) (aG (k2 _ _ ?_)));refine wp_ret ?_;simp only[zz];try simp only[Exit.inBlock,Exit.then,if_true]
 refine bS rfl rfl ?_;try simp only[zD,zE]
 exact ⟨_,rfl,m.ext,rfl⟩
theorem Ci {n k : Int} [Iw n] (h0 : 0 < k) (h1 : k < 4611686018427387904) : iX prog 21 [.int .i64 n,.int .i64 k] (.int .i64 (n % k)):=by
 intro w;refine ⟨aep,?_⟩;have m:=cF.refl w;have hb:=Xr (n:=n) h0
 go_enter func21,ntmps21
 refine aF fun K1 k1=>wp_region_lit (aA (aD) (aG (k1 _ _ ?_)));refine aF fun K2 k2=>wp_region_lit (aA (aB) (aA (aB) ?_));simp only[zz];refine aA (cE rfl rfl (by omega) rfl) (aA (aB) ?_);simp only[zz];refine aA (aQ rfl rfl (aM (by omega) (by omega))) (aA (aB) ?_);simp only[zz];refine aA (cE rfl rfl (by omega) (Qy h0)) (aA (aD) (aG (k2 _ _ ?_)));refine wp_ret ?_;simp only[zz];try simp only[Exit.inBlock,Exit.then,if_true]
 refine bS rfl rfl ?_;try simp only[zD,zE]
 exact ⟨_,rfl,m.ext,rfl⟩
theorem Kc {x y N cap : Nat} {A : Option Addr} {zs : List Int} (w : World) (hZ : pU w A N zs) (hx : x ≤ 6) (hy : y ≤ 6) : eL prog 84 [.int .i64 (x : Int),.int .i64 (y : Int),.int .i64 10,.slice A N cap] w (fun v _=>v = pt (jP 10 zs x y)):=by
 refine ⟨afm,?_⟩;have m:=cF.refl w
 go_enter func84,ntmps84
 refine aF fun K1 k1=>wp_region_lit (bH m bU rfl ?_);clear m;intro g1 u m;refine aG (k1 _ _ ?_);refine aF fun K2 k2=>wp_region_lit (aA (aD) (aG (k2 _ _ ?_)));refine aF fun K3 k3=>aF fun K4 k4=>wp_region_lit (aA (aB) (aA (bA rfl bX rfl) ?_));simp only[zz];refine aA (oE rfl rfl) (aG (k4 _ _ ?_));simp only[zz];refine cC rfl (fun hc1=>?_) (fun hc1=>?_)
 ·
  have hi : (y * 7 + x) % N < N:=Nat.mod_lt _ (by omega);obtain ⟨z,hz,hzI,a,rfl,hcell⟩:=hZ.get hi;have hz6:=uZ (n:=z) (m:=64) (by decide);refine wp_region_lit (aA (aB) (aA (aB) ?_));simp only[zz];refine aA (fF rfl rfl (aM (by omega) (by omega))) (aA (aB) ?_);simp only[zz];refine aA (aQ rfl rfl (aM (by omega) (by omega))) (aA (aB) (aA (bA rfl bX rfl) ?_));simp only[zz];refine aA (cE rfl rfl (by omega) (Ra (k:=y * 7 + x))) (aA (aK bX bG rfl rfl (Int.natCast_nonneg _) (Int.ofNat_lt.2 hi) (gF (Int.toNat_natCast _))) ?_);simp only[zz];refine aL rfl (lies1 (m.ext.cell hcell) bZ) ?_;simp only[zz];refine gJ m rfl rfl (Sf (n:=z) (k:=64) (by decide) (by decide)) ?_;clear m;intro u m;refine aA (aD) (aG (k3 _ _ ?_));refine aF fun K5 k5=>wp_region_lit (aA (aB) (aA (aB) ?_));simp only[zz];refine aA (fF rfl rfl (aM (by omega) (by omega))) (aA (aB) (aA (aB) ?_));simp only[zz];refine aA (fF rfl rfl (aM (by omega) (by omega))) (aA (aB) ?_);simp only[zz];refine aA (aQ rfl rfl (aM (by omega) (by omega))) (aA (dT rfl rfl rfl) ?_);simp only[zz];refine aT m 0 rfl rfl rfl aC (dX rfl) rfl ?_;clear m;intro u m;simp only[zy,zx,bK,zF,zG,Nat.reduceAdd] at m;refine aG (k5 _ _ ?_);refine wp_ret ?_;try simp only[Exit.inBlock,Exit.then,if_true]
  refine bS rfl ⟨_,rfl,((m.b 0 rfl).full aJ aC)⟩ ?_;try simp only[zD,zE]
  exact ⟨_,rfl,m.ext,by simp only[pt,jP,Xt hZ.len hz]⟩
 ·
  refine wp_skip (k3 _ _ ?_);refine aF fun K6 k6=>wp_region_lit (aA (aB) (aA (aB) ?_));simp only[zz];refine aA (fF rfl rfl (aM (by omega) (by omega))) (aA (aB) (aA (aB) ?_));simp only[zz];refine aA (fF rfl rfl (aM (by omega) (by omega))) (aA (aB) (aA (aQ (m:=100) (n:=0) (r:=100) rfl rfl (by decide)) (aA (dT rfl rfl rfl) ?_)));simp only[zz];refine aT m 0 rfl rfl rfl aC (dX rfl) rfl ?_;clear m;intro u m;simp only[zy,zx,bK,zF,zG,Nat.reduceAdd] at m;refine aG (k6 _ _ ?_);refine wp_ret ?_;try simp only[Exit.inBlock,Exit.then,if_true]
  refine bS rfl ⟨_,rfl,((m.b 0 rfl).full aJ aC)⟩ ?_;try simp only[zD,zE]
  exact ⟨_,rfl,m.ext,by simp [pt,jP,aa4 hZ.len hc1]⟩
theorem wR {a b c d : P3} (w : World) : eL prog 85 [pt a,pt b,pt c,pt d] w (TS 53 (qM a b c d) w):=by
 refine ⟨afn,?_⟩;have m:=cF.refl w
 go_enter func85,ntmps85
 refine aF fun K1 k1=>wp_region_lit (eP m rfl ?_);clear m;intro g1 u m;simp only[zz];refine eP m rfl ?_;clear m;intro g2 u m;simp only[zz];refine eP m rfl ?_;clear m;intro g3 u m;simp only[zz];refine eP m rfl ?_;clear m;intro g4 u m;refine aA (aD) (aG (k1 _ _ ?_));refine aF fun K2 k2=>wp_region_lit ?_;simp only[zz];refine aL rfl ((m.b 3 rfl).full aJ aC) ?_;simp only[zz];refine aL rfl ((m.b 2 rfl).full aJ aC) ?_;simp only[zz];refine aL rfl ((m.b 1 rfl).full aJ aC) ?_;simp only[zz];refine aA (bR rfl rfl rfl) ?_;simp only[zz];refine aL rfl ((m.b 3 rfl).full aJ aC) ?_;simp only[zz];refine aL rfl ((m.b 1 rfl).full aJ aC) ?_;simp only[zz];refine aL rfl ((m.b 0 rfl).full aJ aC) ?_;simp only[zz];refine aA (bR rfl rfl rfl) ?_;simp only[zz];refine He rfl rfl ?_;intro u g5 e hg hB;replace m:=m.newB e hg hB;clear e hg hB;refine aA (aD) (aG (k2 _ _ ?_));refine wp_ret ?_;simp only[zz];try simp only[Exit.inBlock,Exit.then,if_true]
 refine bS rfl rfl ?_;try simp only[zD,zE]
 exact ⟨_,rfl,m.ext,⟨_,_,_,rfl,rfl,m.bo 0 rfl rfl (dX rfl)⟩⟩
theorem abU {n0 : Int} [Iw n0] {N cap : Nat} {A : Option Addr} {zs : List Int} (w : World) (hZ : pU w A N zs) : eL prog 43 [.int .i64 n0,.int .i64 10,.slice A N cap] w (TS 53 (kX 10 zs (1 + n0 % 6).toNat) w):=by
 refine ⟨aeJ,?_⟩;have m:=cF.refl w;have hb:=uZ (n:=n0) (m:=6) (by decide);obtain ⟨q,hq⟩ : ∃ q : Nat,q = (1 + n0 % 6).toNat:=⟨_,rfl⟩
 rw [← hq];have hq2 : 1 + n0 % 6 = (q : Int):=by omega
 go_enter func43,ntmps43
 refine aF fun K1 k1=>wp_region_lit (aA (aD) (aG (k1 _ _ ?_)));refine aF fun K2 k2=>wp_region_lit (aA (aB) ?_);simp only[zz];refine gJ m rfl rfl (Sf (n:=n0) (k:=6) (by decide) (by decide)) ?_;clear m;intro u m;simp only[zz];refine aA (aQ rfl rfl (aM (by omega) (by omega))) (aA (aD) (aG ?_));simp only[zz];rw [hq2];refine k2 _ _ ?_;refine aF fun K3 k3=>wp_region_lit (aA (aD) ?_);replace m:=m.nilO 53 9;refine aG (k3 _ _ ?_);refine aF fun K4 k4=>aF fun K5 k5=>wp_region_lit (aA (aD) (aG (k5 _ _ ?_)));refine wp_block ?_;simp only[zz];try simp only[Nat.zero_add,Nat.reduceAdd,Nat.reduceMul,Int.reduceToNat]
 refine bJ [7,8] [9,10,11,12,13,17,18,19,20,21,22,23,24,25,26,27,28,29,30,31,32,33,34,35,36,37,38,39,40,41,42,43,44,45,46,47,48,49,50,51,52,53,54,55,56,57] (fun n vs wl=>∃ (A1 : Option Addr) (cap1 y : Nat),vs = [.slice A1 (fJ 10 zs q (y) (0)).length cap1,.int .i64 (y:Int)] ∧ cF w wl [oI 53 9 A1 (fJ 10 zs q (y) (0)).length cap1 ((fJ 10 zs q (y) (0)).flatMap bQ)] ∧ (y ≤ q) ∧ (n = q - y)) ?_ ?_
 ·
  apply Exists.intro;simp only[zQ,zR,zD,zE];exact ⟨none,0,0,rfl,m,Nat.zero_le _,rfl⟩
 ·
  intro n vs wr hI u;clear m;obtain ⟨A1,cap1,y,rfl,m,hy,hn⟩:=hI;simp only[zu,zF,zG];refine aF fun K6 k6=>aF fun K7 k7=>wp_region_lit (aA (aB) (aA (aB) (aA (cO rfl rfl) (aG (k7 _ _ ?_)))));simp only[zz];refine cC rfl (fun hc1=>?_) (fun hc1=>?_)
  ·
   refine wp_skip (k6 _ _ ?_);refine aF fun K8 k8=>wp_block (aF fun K9 k9=>wp_region_lit (aA (aD) (aG (k9 _ _ ?_))));refine wp_block ?_;simp only[zz];try simp only[Nat.zero_add,Nat.reduceAdd,Nat.reduceMul,Int.reduceToNat]
   refine bJ [7,9] [10,11,12,13,22,23,24,25,26,27,28,29,30,31,32,33,34,35,36,37,38,39,40,41,42,43,44,45,46,47,48,49,50,51,52,53,54,55,56,57] (fun n vs wl=>∃ (A1 : Option Addr) (cap1 x : Nat),vs = [.slice A1 (fJ 10 zs q (y) (x)).length cap1,.int .i64 (x:Int)] ∧ cF w wl [oI 53 9 A1 (fJ 10 zs q (y) (x)).length cap1 ((fJ 10 zs q (y) (x)).flatMap bQ)] ∧ (x ≤ q) ∧ (n = q - x)) ?_ ?_
   ·
    apply Exists.intro;simp only[zQ,zR,zD,zE];exact ⟨_,_,0,rfl,m,Nat.zero_le _,rfl⟩
   ·
    intro n vs wr hI u;clear m;obtain ⟨A1,cap1,x,rfl,m,hx,hn2⟩:=hI;simp only[zu,zF,zG];refine aF fun K10 k10=>aF fun K11 k11=>wp_region_lit (aA (aB) (aA (aB) (aA (cO rfl rfl) (aG (k11 _ _ ?_)))));simp only[zz];refine cC rfl (fun hc2=>?_) (fun hc2=>?_)
    ·
     refine wp_skip (k10 _ _ ?_);refine aF fun K12 k12=>wp_block (aF fun K13 k13=>wp_region_lit (aA (aB) (aA (aB) (aA (aB) (aA (aB) ?_)))));simp only[zz];refine eQ m rfl rfl (Kc (x:=x) (y:=y) _ (hZ.ext m.ext) (by omega) (by omega)) ?_;clear m;rintro v u m rfl;simp only[zz];refine bH m bU rfl ?_;clear m;intro g1 u m;simp only[zz];refine aT m 0 rfl rfl rfl aC (dX rfl) rfl ?_;clear m;intro u m;simp only[zy,zx,bK,zF,zG,Nat.reduceAdd] at m;refine aG (k13 _ _ ?_);refine aF fun K14 k14=>wp_region_lit (aA (aB) ?_);simp only[zz];refine aA (aQ rfl rfl (aM (by omega) (by omega))) (aA (aB) (aA (aB) (aA (aB) ?_)));simp only[zz];refine eQ m rfl rfl (Kc (x:=x + 1) (y:=y) _ (hZ.ext m.ext) (by omega) (by omega)) ?_;clear m;rintro v u m rfl;simp only[zz];refine bH m bU rfl ?_;clear m;intro g2 u m;simp only[zz];refine aT m 0 rfl rfl rfl aC (dX rfl) rfl ?_;clear m;intro u m;simp only[zy,zx,bK,zF,zG,Nat.reduceAdd] at m;refine aG (k14 _ _ ?_);refine aF fun K15 k15=>wp_region_lit (aA (aB) ?_);simp only[zz];refine aA (aQ rfl rfl (aM (by omega) (by omega))) (aA (aB) ?_);simp only[zz];refine aA (aQ rfl rfl (aM (by omega) (by omega))) (aA (aB) (aA (aB) ?_));simp only[zz];refine eQ m rfl rfl (Kc (x:=x + 1) (y:=y + 1) _ (hZ.ext m.ext) (by omega) (by omega)) ?_;clear m;rintro v u m rfl;simp only[zz];refine bH m bU rfl ?_;clear m;intro g3 u m;simp only[zz];refine aT m 0 rfl rfl rfl aC (dX rfl) rfl ?_;clear m;intro u m;simp only[zy,zx,bK,zF,zG,Nat.reduceAdd] at m;refine aG (k15 _ _ ?_);refine aF fun K16 k16=>wp_region_lit (aA (aB) (aA (aB) ?_));simp only[zz];refine aA (aQ rfl rfl (aM (by omega) (by omega))) (aA (aB) (aA (aB) ?_));simp only[zz];refine eQ m rfl rfl (Kc (x:=x) (y:=y + 1) _ (hZ.ext m.ext) (by omega) (by omega)) ?_;clear m;rintro v u m rfl;simp only[zz];refine bH m bU rfl ?_;clear m;intro g4 u m;simp only[zz];refine aT m 0 rfl rfl rfl aC (dX rfl) rfl ?_;clear m;intro u m;simp only[zy,zx,bK,zF,zG,Nat.reduceAdd] at m;refine aG (k16 _ _ ?_);refine wp_region_lit (aA (aB) ?_);simp only[zz];refine aL rfl ((m.b 3 rfl).full aJ aC) ?_;simp only[zz];refine aL rfl ((m.b 2 rfl).full aJ aC) ?_;simp only[zz];refine aL rfl ((m.b 1 rfl).full aJ aC) ?_;simp only[zz];refine aL rfl ((m.b 0 rfl).full aJ aC) ?_;simp only[zz];refine bE rfl rfl (wR (a:=jP 10 zs x y) (b:=jP 10 zs (x + 1) y) (c:=jP 10 zs (x + 1) (y + 1)) (d:=jP 10 zs x (y + 1)) _) ?_;rintro v u e ⟨A2,cap2,_,rfl,rfl,hN⟩;replace m:=m.newO e hN;clear e hN;simp only[zz];refine eG m 5 rfl rfl bV mE rfl (by decide) rfl rfl (m.o 0 rfl).own.1 (m.o 0 rfl).row (rP _) (by have:=uB (s:=10) (zs:=zs) (n:=q) (y:=y) (x:=x) (by omega) (by omega) (by omega);show _ + 2 ≤ _;omega) (by have:=uB (s:=10) (zs:=zs) (n:=q) (y:=y) (x:=x) (by omega) (by omega) (by omega);show (_ + 2) * 72 ≤ _;omega) ?_;clear m;intro A1 cap1 u m;simp only[zF,zG] at m;rw [Xu,Xv] at m;rw [Xv];refine aA (aD) (aG (k12 _ _ ?_));refine wp_region_lit (aA (aB) ?_);simp only[zz];refine aA (aQ rfl rfl (aM (by omega) (by omega))) (aA (aD) (aG ?_));simp only[zz];simp only[Exit.inBlock,Exit.then];refine ⟨q - (x + 1),_,?_,rfl,?_,?_⟩
     · omega
     · simp only[zz,zv]
     ·
      simp only[zQ,zR,zD,zE];exact ⟨_,_,x + 1,rfl,(m.sel [false,false,false,false,false,true]),by omega,rfl⟩
    ·
     have hxq : x = q:=by omega
     rw [hxq,Ix] at m ⊢;refine wp_exit (k8 _ _ ?_);refine wp_region_lit (aA (aB) ?_);simp only[zz];refine aA (aQ rfl rfl (aM (by omega) (by omega))) (aA (aD) (aG ?_));simp only[zz];simp only[Exit.inBlock,Exit.then];refine ⟨q - (y + 1),_,?_,rfl,?_,?_⟩
     · omega
     · simp only[zz,zv]
     ·
      simp only[zQ,zR,zD,zE];exact ⟨_,_,y + 1,rfl,m,by omega,rfl⟩
  ·
   have hyq : y = q:=by omega
   rw [hyq,pD] at m ⊢;refine wp_exit (k4 _ _ ?_);refine aF fun K17 k17=>wp_region_lit (aA (aB) (aA (aD) (aG (k17 _ _ ?_))));refine wp_ret ?_;simp only[zz];try simp only[Exit.inBlock,Exit.then,if_true]
   refine bS rfl rfl ?_;try simp only[zD,zE]
   exact ⟨_,rfl,m.ext,⟨_,_,_,rfl,rfl,(m.o 0 rfl)⟩⟩
end Go.Proofs.YtfohfflkhpfjeaaGreatDoor
namespace Go.Proofs.YtfohfflkhpfjeaaGreatDoor
open Go.Proofs.Tryz
open Go.RowKit Go.Lith
set_option maxRecDepth 100000
attribute [local irreducible] wpList wpQuiet dY dO dN Code.wp
end Go.Proofs.YtfohfflkhpfjeaaGreatDoor
namespace Go.Proofs.YtfohfflkhpfjeaaGreatDoor
open Go.Proofs.Tryz
open Go.RowKit Go.Lith
set_option maxRecDepth 100000
attribute [local irreducible] wpList wpQuiet dY dO dN Code.wp
theorem adS {p : P3} (w : World) (hp : Sm 100 p) : eL prog 83 [pt p,.int .i64 8] w (TS 53 (uA p 8) w):=by
 refine ⟨afl,?_⟩;have m:=cF.refl w;have hp1:=hp.1;have hp2:=hp.2.1;have hp3:=hp.2.2
 go_enter func83,ntmps83
 refine aF fun K1 k1=>wp_region_lit (eP m rfl ?_);clear m;intro g1 u m;refine aA (aD) (aG (k1 _ _ ?_));refine aF fun K2 k2=>wp_region_lit ?_;simp only[zz];refine bH m Ym rfl ?_;clear m;intro g2 u m;refine aG (k2 _ _ ?_);refine aF fun K3 k3=>aF fun K4 k4=>wp_region_lit (aA (aD) (aG (k4 _ _ ?_)));refine wp_block (wp_loop_rounds 9 (dP (aF fun K5 k5=>aF fun K6 k6=>wp_region_lit (aA (aB) (aA (bW (m:=0) (n:=8) rfl rfl (by decide)) ?_)))));simp only[zz];refine aG (k6 _ _ ?_);refine cQ rfl (wp_skip (k5 _ _ ?_));refine aF fun K7 k7=>wp_block (wp_region_lit (aA (aB) (aA (aO (c:=0) dW rfl bG rfl rfl) ?_)));simp only[zz];refine aL rfl ((m.b 1 rfl).lies1 bZ rfl) ?_;simp only[zz];refine aA (aB) (aA (cE (m:=0) (n:=2) (r:=0) rfl rfl (by decide) (by decide)) (aA (aB) (aA (fF (m:=0) (n:=8) (r:=0) rfl rfl (by decide)) ?_)));simp only[zz];refine aA (aQ rfl rfl (aM (by omega) (by omega))) (aA (aO (c:=0) dW rfl bG rfl rfl) ?_);simp only[zz];refine aL rfl ((m.b 1 rfl).lies1 bZ rfl) ?_;simp only[zz];refine aA (aB) (aA (gY (m:=0) (n:=2) (r:=0) rfl rfl (by decide) (by decide)) (aA (cE (m:=0) (n:=2) (r:=0) rfl rfl (by decide) (by decide)) (aA (aB) ?_)));simp only[zz];refine aA (fF (m:=0) (n:=8) (r:=0) rfl rfl (by decide)) ?_;simp only[zz];refine aA (aQ rfl rfl (aM (by omega) (by omega))) (aA (aO (c:=0) dW rfl bG rfl rfl) ?_);simp only[zz];refine aL rfl ((m.b 1 rfl).lies1 bZ rfl) ?_;simp only[zz];refine aA (aB) (aA (gY (m:=0) (n:=4) (r:=0) rfl rfl (by decide) (by decide)) (aA (aB) (aA (fF (m:=0) (n:=8) (r:=0) rfl rfl (by decide)) ?_)));simp only[zz];refine aA (aQ rfl rfl (aM (by omega) (by omega))) (aA (dT rfl rfl rfl) (aA (aH fR aC rfl rfl (by decide) (by decide) rfl) ?_));simp only[zz];refine aT m 0 rfl rfl rfl aC (dX rfl) rfl ?_;clear m;intro u m;simp only[zy,zx,bK,zF,zG,Nat.reduceAdd] at m;refine aG (k7 _ _ ?_);refine wp_region_lit (aA (aB) (aA (aQ (m:=0) (n:=1) (r:=1) rfl rfl (by decide)) (aA (aD) (aG (aX (aF fun K8 k8=>aF fun K9 k9=>wp_region_lit (aA (aB) ?_)))))));simp only[zz];refine aA (bW (m:=1) (n:=8) rfl rfl (by decide)) (aG (k9 _ _ ?_));refine cQ rfl (wp_skip (k8 _ _ ?_));refine aF fun K10 k10=>wp_block (wp_region_lit (aA (aB) (aA (aO (c:=0) dW rfl bG rfl rfl) ?_)));simp only[zz];refine aL rfl ((m.b 1 rfl).lies1 bZ rfl) ?_;simp only[zz];refine aA (aB) (aA (cE (m:=1) (n:=2) (r:=1) rfl rfl (by decide) (by decide)) (aA (aB) (aA (fF (m:=1) (n:=8) (r:=8) rfl rfl (by decide)) ?_)));simp only[zz];refine aA (aQ rfl rfl (aM (by omega) (by omega))) (aA (aO (c:=0) dW rfl bG rfl rfl) ?_);simp only[zz];refine aL rfl ((m.b 1 rfl).lies1 bZ rfl) ?_;simp only[zz];refine aA (aB) (aA (gY (m:=1) (n:=2) (r:=0) rfl rfl (by decide) (by decide)) (aA (cE (m:=0) (n:=2) (r:=0) rfl rfl (by decide) (by decide)) (aA (aB) ?_)));simp only[zz];refine aA (fF (m:=0) (n:=8) (r:=0) rfl rfl (by decide)) ?_;simp only[zz];refine aA (aQ rfl rfl (aM (by omega) (by omega))) (aA (aO (c:=0) dW rfl bG rfl rfl) ?_);simp only[zz];refine aL rfl ((m.b 1 rfl).lies1 bZ rfl) ?_;simp only[zz];refine aA (aB) (aA (gY (m:=1) (n:=4) (r:=0) rfl rfl (by decide) (by decide)) (aA (aB) (aA (fF (m:=0) (n:=8) (r:=0) rfl rfl (by decide)) ?_)));simp only[zz];refine aA (aQ rfl rfl (aM (by omega) (by omega))) (aA (dT rfl rfl rfl) (aA (aH fR aC rfl rfl (by decide) (by decide) rfl) ?_));simp only[zz];refine aT m 0 rfl rfl rfl aC (dX rfl) rfl ?_;clear m;intro u m;simp only[zy,zx,bK,zF,zG,Nat.reduceAdd] at m;refine aG (k10 _ _ ?_);refine wp_region_lit (aA (aB) (aA (aQ (m:=1) (n:=1) (r:=2) rfl rfl (by decide)) (aA (aD) (aG (aX (aF fun K11 k11=>aF fun K12 k12=>wp_region_lit (aA (aB) ?_)))))));simp only[zz];refine aA (bW (m:=2) (n:=8) rfl rfl (by decide)) (aG (k12 _ _ ?_));refine cQ rfl (wp_skip (k11 _ _ ?_));refine aF fun K13 k13=>wp_block (wp_region_lit (aA (aB) (aA (aO (c:=0) dW rfl bG rfl rfl) ?_)));simp only[zz];refine aL rfl ((m.b 1 rfl).lies1 bZ rfl) ?_;simp only[zz];refine aA (aB) (aA (cE (m:=2) (n:=2) (r:=0) rfl rfl (by decide) (by decide)) (aA (aB) (aA (fF (m:=0) (n:=8) (r:=0) rfl rfl (by decide)) ?_)));simp only[zz];refine aA (aQ rfl rfl (aM (by omega) (by omega))) (aA (aO (c:=0) dW rfl bG rfl rfl) ?_);simp only[zz];refine aL rfl ((m.b 1 rfl).lies1 bZ rfl) ?_;simp only[zz];refine aA (aB) (aA (gY (m:=2) (n:=2) (r:=1) rfl rfl (by decide) (by decide)) (aA (cE (m:=1) (n:=2) (r:=1) rfl rfl (by decide) (by decide)) (aA (aB) ?_)));simp only[zz];refine aA (fF (m:=1) (n:=8) (r:=8) rfl rfl (by decide)) ?_;simp only[zz];refine aA (aQ rfl rfl (aM (by omega) (by omega))) (aA (aO (c:=0) dW rfl bG rfl rfl) ?_);simp only[zz];refine aL rfl ((m.b 1 rfl).lies1 bZ rfl) ?_;simp only[zz];refine aA (aB) (aA (gY (m:=2) (n:=4) (r:=0) rfl rfl (by decide) (by decide)) (aA (aB) (aA (fF (m:=0) (n:=8) (r:=0) rfl rfl (by decide)) ?_)));simp only[zz];refine aA (aQ rfl rfl (aM (by omega) (by omega))) (aA (dT rfl rfl rfl) (aA (aH fR aC rfl rfl (by decide) (by decide) rfl) ?_));simp only[zz];refine aT m 0 rfl rfl rfl aC (dX rfl) rfl ?_;clear m;intro u m;simp only[zy,zx,bK,zF,zG,Nat.reduceAdd] at m;refine aG (k13 _ _ ?_);refine wp_region_lit (aA (aB) (aA (aQ (m:=2) (n:=1) (r:=3) rfl rfl (by decide)) (aA (aD) (aG (aX (aF fun K14 k14=>aF fun K15 k15=>wp_region_lit (aA (aB) ?_)))))));simp only[zz];refine aA (bW (m:=3) (n:=8) rfl rfl (by decide)) (aG (k15 _ _ ?_));refine cQ rfl (wp_skip (k14 _ _ ?_));refine aF fun K16 k16=>wp_block (wp_region_lit (aA (aB) (aA (aO (c:=0) dW rfl bG rfl rfl) ?_)));simp only[zz];refine aL rfl ((m.b 1 rfl).lies1 bZ rfl) ?_;simp only[zz];refine aA (aB) (aA (cE (m:=3) (n:=2) (r:=1) rfl rfl (by decide) (by decide)) (aA (aB) (aA (fF (m:=1) (n:=8) (r:=8) rfl rfl (by decide)) ?_)));simp only[zz];refine aA (aQ rfl rfl (aM (by omega) (by omega))) (aA (aO (c:=0) dW rfl bG rfl rfl) ?_);simp only[zz];refine aL rfl ((m.b 1 rfl).lies1 bZ rfl) ?_;simp only[zz];refine aA (aB) (aA (gY (m:=3) (n:=2) (r:=1) rfl rfl (by decide) (by decide)) (aA (cE (m:=1) (n:=2) (r:=1) rfl rfl (by decide) (by decide)) (aA (aB) ?_)));simp only[zz];refine aA (fF (m:=1) (n:=8) (r:=8) rfl rfl (by decide)) ?_;simp only[zz];refine aA (aQ rfl rfl (aM (by omega) (by omega))) (aA (aO (c:=0) dW rfl bG rfl rfl) ?_);simp only[zz];refine aL rfl ((m.b 1 rfl).lies1 bZ rfl) ?_;simp only[zz];refine aA (aB) (aA (gY (m:=3) (n:=4) (r:=0) rfl rfl (by decide) (by decide)) (aA (aB) (aA (fF (m:=0) (n:=8) (r:=0) rfl rfl (by decide)) ?_)));simp only[zz];refine aA (aQ rfl rfl (aM (by omega) (by omega))) (aA (dT rfl rfl rfl) (aA (aH fR aC rfl rfl (by decide) (by decide) rfl) ?_));simp only[zz];refine aT m 0 rfl rfl rfl aC (dX rfl) rfl ?_;clear m;intro u m;simp only[zy,zx,bK,zF,zG,Nat.reduceAdd] at m;refine aG (k16 _ _ ?_);refine wp_region_lit (aA (aB) (aA (aQ (m:=3) (n:=1) (r:=4) rfl rfl (by decide)) (aA (aD) (aG (aX (aF fun K17 k17=>aF fun K18 k18=>wp_region_lit (aA (aB) ?_)))))));simp only[zz];refine aA (bW (m:=4) (n:=8) rfl rfl (by decide)) (aG (k18 _ _ ?_));refine cQ rfl (wp_skip (k17 _ _ ?_));refine aF fun K19 k19=>wp_block (wp_region_lit (aA (aB) (aA (aO (c:=0) dW rfl bG rfl rfl) ?_)));simp only[zz];refine aL rfl ((m.b 1 rfl).lies1 bZ rfl) ?_;simp only[zz];refine aA (aB) (aA (cE (m:=4) (n:=2) (r:=0) rfl rfl (by decide) (by decide)) (aA (aB) (aA (fF (m:=0) (n:=8) (r:=0) rfl rfl (by decide)) ?_)));simp only[zz];refine aA (aQ rfl rfl (aM (by omega) (by omega))) (aA (aO (c:=0) dW rfl bG rfl rfl) ?_);simp only[zz];refine aL rfl ((m.b 1 rfl).lies1 bZ rfl) ?_;simp only[zz];refine aA (aB) (aA (gY (m:=4) (n:=2) (r:=2) rfl rfl (by decide) (by decide)) (aA (cE (m:=2) (n:=2) (r:=0) rfl rfl (by decide) (by decide)) (aA (aB) ?_)));simp only[zz];refine aA (fF (m:=0) (n:=8) (r:=0) rfl rfl (by decide)) ?_;simp only[zz];refine aA (aQ rfl rfl (aM (by omega) (by omega))) (aA (aO (c:=0) dW rfl bG rfl rfl) ?_);simp only[zz];refine aL rfl ((m.b 1 rfl).lies1 bZ rfl) ?_;simp only[zz];refine aA (aB) (aA (gY (m:=4) (n:=4) (r:=1) rfl rfl (by decide) (by decide)) (aA (aB) (aA (fF (m:=1) (n:=8) (r:=8) rfl rfl (by decide)) ?_)));simp only[zz];refine aA (aQ rfl rfl (aM (by omega) (by omega))) (aA (dT rfl rfl rfl) (aA (aH fR aC rfl rfl (by decide) (by decide) rfl) ?_));simp only[zz];refine aT m 0 rfl rfl rfl aC (dX rfl) rfl ?_;clear m;intro u m;simp only[zy,zx,bK,zF,zG,Nat.reduceAdd] at m;refine aG (k19 _ _ ?_);refine wp_region_lit (aA (aB) (aA (aQ (m:=4) (n:=1) (r:=5) rfl rfl (by decide)) (aA (aD) (aG (aX (aF fun K20 k20=>aF fun K21 k21=>wp_region_lit (aA (aB) ?_)))))));simp only[zz];refine aA (bW (m:=5) (n:=8) rfl rfl (by decide)) (aG (k21 _ _ ?_));refine cQ rfl (wp_skip (k20 _ _ ?_));refine aF fun K22 k22=>wp_block (wp_region_lit (aA (aB) (aA (aO (c:=0) dW rfl bG rfl rfl) ?_)));simp only[zz];refine aL rfl ((m.b 1 rfl).lies1 bZ rfl) ?_;simp only[zz];refine aA (aB) (aA (cE (m:=5) (n:=2) (r:=1) rfl rfl (by decide) (by decide)) (aA (aB) (aA (fF (m:=1) (n:=8) (r:=8) rfl rfl (by decide)) ?_)));simp only[zz];refine aA (aQ rfl rfl (aM (by omega) (by omega))) (aA (aO (c:=0) dW rfl bG rfl rfl) ?_);simp only[zz];refine aL rfl ((m.b 1 rfl).lies1 bZ rfl) ?_;simp only[zz];refine aA (aB) (aA (gY (m:=5) (n:=2) (r:=2) rfl rfl (by decide) (by decide)) (aA (cE (m:=2) (n:=2) (r:=0) rfl rfl (by decide) (by decide)) (aA (aB) ?_)));simp only[zz];refine aA (fF (m:=0) (n:=8) (r:=0) rfl rfl (by decide)) ?_;simp only[zz];refine aA (aQ rfl rfl (aM (by omega) (by omega))) (aA (aO (c:=0) dW rfl bG rfl rfl) ?_);simp only[zz];refine aL rfl ((m.b 1 rfl).lies1 bZ rfl) ?_;simp only[zz];refine aA (aB) (aA (gY (m:=5) (n:=4) (r:=1) rfl rfl (by decide) (by decide)) (aA (aB) (aA (fF (m:=1) (n:=8) (r:=8) rfl rfl (by decide)) ?_)));simp only[zz];refine aA (aQ rfl rfl (aM (by omega) (by omega))) (aA (dT rfl rfl rfl) (aA (aH fR aC rfl rfl (by decide) (by decide) rfl) ?_));simp only[zz];refine aT m 0 rfl rfl rfl aC (dX rfl) rfl ?_;clear m;intro u m;simp only[zy,zx,bK,zF,zG,Nat.reduceAdd] at m;refine aG (k22 _ _ ?_);refine wp_region_lit (aA (aB) (aA (aQ (m:=5) (n:=1) (r:=6) rfl rfl (by decide)) (aA (aD) (aG (aX (aF fun K23 k23=>aF fun K24 k24=>wp_region_lit (aA (aB) ?_)))))));simp only[zz];refine aA (bW (m:=6) (n:=8) rfl rfl (by decide)) (aG (k24 _ _ ?_));refine cQ rfl (wp_skip (k23 _ _ ?_));refine aF fun K25 k25=>wp_block (wp_region_lit (aA (aB) (aA (aO (c:=0) dW rfl bG rfl rfl) ?_)));simp only[zz];refine aL rfl ((m.b 1 rfl).lies1 bZ rfl) ?_;simp only[zz];refine aA (aB) (aA (cE (m:=6) (n:=2) (r:=0) rfl rfl (by decide) (by decide)) (aA (aB) (aA (fF (m:=0) (n:=8) (r:=0) rfl rfl (by decide)) ?_)));simp only[zz];refine aA (aQ rfl rfl (aM (by omega) (by omega))) (aA (aO (c:=0) dW rfl bG rfl rfl) ?_);simp only[zz];refine aL rfl ((m.b 1 rfl).lies1 bZ rfl) ?_;simp only[zz];refine aA (aB) (aA (gY (m:=6) (n:=2) (r:=3) rfl rfl (by decide) (by decide)) (aA (cE (m:=3) (n:=2) (r:=1) rfl rfl (by decide) (by decide)) (aA (aB) ?_)));simp only[zz];refine aA (fF (m:=1) (n:=8) (r:=8) rfl rfl (by decide)) ?_;simp only[zz];refine aA (aQ rfl rfl (aM (by omega) (by omega))) (aA (aO (c:=0) dW rfl bG rfl rfl) ?_);simp only[zz];refine aL rfl ((m.b 1 rfl).lies1 bZ rfl) ?_;simp only[zz];refine aA (aB) (aA (gY (m:=6) (n:=4) (r:=1) rfl rfl (by decide) (by decide)) (aA (aB) (aA (fF (m:=1) (n:=8) (r:=8) rfl rfl (by decide)) ?_)));simp only[zz];refine aA (aQ rfl rfl (aM (by omega) (by omega))) (aA (dT rfl rfl rfl) (aA (aH fR aC rfl rfl (by decide) (by decide) rfl) ?_));simp only[zz];refine aT m 0 rfl rfl rfl aC (dX rfl) rfl ?_;clear m;intro u m;simp only[zy,zx,bK,zF,zG,Nat.reduceAdd] at m;refine aG (k25 _ _ ?_);refine wp_region_lit (aA (aB) (aA (aQ (m:=6) (n:=1) (r:=7) rfl rfl (by decide)) (aA (aD) (aG (aX (aF fun K26 k26=>aF fun K27 k27=>wp_region_lit (aA (aB) ?_)))))));simp only[zz];refine aA (bW (m:=7) (n:=8) rfl rfl (by decide)) (aG (k27 _ _ ?_));refine cQ rfl (wp_skip (k26 _ _ ?_));refine aF fun K28 k28=>wp_block (wp_region_lit (aA (aB) (aA (aO (c:=0) dW rfl bG rfl rfl) ?_)));simp only[zz];refine aL rfl ((m.b 1 rfl).lies1 bZ rfl) ?_;simp only[zz];refine aA (aB) (aA (cE (m:=7) (n:=2) (r:=1) rfl rfl (by decide) (by decide)) (aA (aB) (aA (fF (m:=1) (n:=8) (r:=8) rfl rfl (by decide)) ?_)));simp only[zz];refine aA (aQ rfl rfl (aM (by omega) (by omega))) (aA (aO (c:=0) dW rfl bG rfl rfl) ?_);simp only[zz];refine aL rfl ((m.b 1 rfl).lies1 bZ rfl) ?_;simp only[zz];refine aA (aB) (aA (gY (m:=7) (n:=2) (r:=3) rfl rfl (by decide) (by decide)) (aA (cE (m:=3) (n:=2) (r:=1) rfl rfl (by decide) (by decide)) (aA (aB) ?_)));simp only[zz];refine aA (fF (m:=1) (n:=8) (r:=8) rfl rfl (by decide)) ?_;simp only[zz];refine aA (aQ rfl rfl (aM (by omega) (by omega))) (aA (aO (c:=0) dW rfl bG rfl rfl) ?_);simp only[zz];refine aL rfl ((m.b 1 rfl).lies1 bZ rfl) ?_;simp only[zz];refine aA (aB) (aA (gY (m:=7) (n:=4) (r:=1) rfl rfl (by decide) (by decide)) (aA (aB) (aA (fF (m:=1) (n:=8) (r:=8) rfl rfl (by decide)) ?_)));simp only[zz];refine aA (aQ rfl rfl (aM (by omega) (by omega))) (aA (dT rfl rfl rfl) (aA (aH fR aC rfl rfl (by decide) (by decide) rfl) ?_));simp only[zz];refine aT m 0 rfl rfl rfl aC (dX rfl) rfl ?_;clear m;intro u m;simp only[zy,zx,bK,zF,zG,Nat.reduceAdd] at m;refine aG (k28 _ _ ?_);refine wp_region_lit (aA (aB) (aA (aQ (m:=7) (n:=1) (r:=8) rfl rfl (by decide)) (aA (aD) (aG (aX (aF fun K29 k29=>aF fun K30 k30=>wp_region_lit (aA (aB) ?_)))))));simp only[zz];refine aA (eM (m:=8) (n:=8) rfl rfl (by decide)) (aG (k30 _ _ ?_));refine iD rfl (wp_exit (k3 _ _ ?_));refine aF fun K31 k31=>?_;simp only[zz];change cF w _ [bI g2 [.int .i64 (dI p 8 0).x,.int .i64 (dI p 8 0).y,.int .i64 (dI p 8 0).z,.int .i64 (dI p 8 1).x,.int .i64 (dI p 8 1).y,.int .i64 (dI p 8 1).z,.int .i64 (dI p 8 2).x,.int .i64 (dI p 8 2).y,.int .i64 (dI p 8 2).z,.int .i64 (dI p 8 3).x,.int .i64 (dI p 8 3).y,.int .i64 (dI p 8 3).z,.int .i64 (dI p 8 4).x,.int .i64 (dI p 8 4).y,.int .i64 (dI p 8 4).z,.int .i64 (dI p 8 5).x,.int .i64 (dI p 8 5).y,.int .i64 (dI p 8 5).z,.int .i64 (dI p 8 6).x,.int .i64 (dI p 8 6).y,.int .i64 (dI p 8 6).z,.int .i64 (dI p 8 7).x,.int .i64 (dI p 8 7).y,.int .i64 (dI p 8 7).z] _,_] at m;refine wp_region_lit (aA (aH fR aC rfl rfl (by decide) (by decide) rfl) ?_);simp only[zz];refine aL rfl ((m.b 0 rfl).lies aJ aC rfl rfl) ?_;simp only[zz,zy,Nat.zero_add,Nat.reduceAdd,Nat.reduceMul,Int.reduceToNat];refine aA (aH fR aC rfl rfl (by decide) (by decide) rfl) ?_;simp only[zz];refine aL rfl ((m.b 0 rfl).lies aJ aC rfl rfl) ?_;simp only[zz,zy,Nat.zero_add,Nat.reduceAdd,Nat.reduceMul,Int.reduceToNat];refine aA (aH fR aC rfl rfl (by decide) (by decide) rfl) ?_;simp only[zz];refine aL rfl ((m.b 0 rfl).lies aJ aC rfl rfl) ?_;simp only[zz,zy,Nat.zero_add,Nat.reduceAdd,Nat.reduceMul,Int.reduceToNat];refine aA (aH fR aC rfl rfl (by decide) (by decide) rfl) ?_;simp only[zz];refine aL rfl ((m.b 0 rfl).lies aJ aC rfl rfl) ?_;simp only[zz,zy,Nat.zero_add,Nat.reduceAdd,Nat.reduceMul,Int.reduceToNat];refine bE rfl rfl (wR (a:=dI p 8 0) (b:=dI p 8 2) (c:=dI p 8 3) (d:=dI p 8 1) _) ?_;rintro v u e ⟨A1,cap1,_,rfl,rfl,hN⟩;replace m:=m.newO e hN;clear e hN;refine aA (aD) (aG (k31 _ _ ?_));refine aF fun K32 k32=>wp_region_lit (aA (aB) (aA (aH fR aC rfl rfl (by decide) (by decide) rfl) ?_));simp only[zz];refine aL rfl ((m.b 1 rfl).lies aJ aC rfl rfl) ?_;simp only[zz,zy,Nat.zero_add,Nat.reduceAdd,Nat.reduceMul,Int.reduceToNat];refine aA (aH fR aC rfl rfl (by decide) (by decide) rfl) ?_;simp only[zz];refine aL rfl ((m.b 1 rfl).lies aJ aC rfl rfl) ?_;simp only[zz,zy,Nat.zero_add,Nat.reduceAdd,Nat.reduceMul,Int.reduceToNat];refine aA (aH fR aC rfl rfl (by decide) (by decide) rfl) ?_;simp only[zz];refine aL rfl ((m.b 1 rfl).lies aJ aC rfl rfl) ?_;simp only[zz,zy,Nat.zero_add,Nat.reduceAdd,Nat.reduceMul,Int.reduceToNat];refine aA (aH fR aC rfl rfl (by decide) (by decide) rfl) ?_;simp only[zz];refine aL rfl ((m.b 1 rfl).lies aJ aC rfl rfl) ?_;simp only[zz,zy,Nat.zero_add,Nat.reduceAdd,Nat.reduceMul,Int.reduceToNat];refine bE rfl rfl (wR (a:=dI p 8 4) (b:=dI p 8 5) (c:=dI p 8 7) (d:=dI p 8 6) _) ?_;rintro v u e ⟨A2,cap2,_,rfl,rfl,hN⟩;replace m:=m.newO e hN;clear e hN;simp only[zz];refine eG m 1 rfl rfl bV mE rfl (by decide) rfl rfl (m.o 0 rfl).own.1 (m.o 0 rfl).row (rP _) (dX rfl) (dX rfl) ?_;clear m;intro A1 cap1 u m;simp only[zF,zG] at m;refine aA (aD) (aG (k32 _ _ ?_));refine aF fun K33 k33=>wp_region_lit (aA (aB) (aA (aH fR aC rfl rfl (by decide) (by decide) rfl) ?_));simp only[zz];refine aL rfl ((m.b 2 rfl).lies aJ aC rfl rfl) ?_;simp only[zz,zy,Nat.zero_add,Nat.reduceAdd,Nat.reduceMul,Int.reduceToNat];refine aA (aH fR aC rfl rfl (by decide) (by decide) rfl) ?_;simp only[zz];refine aL rfl ((m.b 2 rfl).lies aJ aC rfl rfl) ?_;simp only[zz,zy,Nat.zero_add,Nat.reduceAdd,Nat.reduceMul,Int.reduceToNat];refine aA (aH fR aC rfl rfl (by decide) (by decide) rfl) ?_;simp only[zz];refine aL rfl ((m.b 2 rfl).lies aJ aC rfl rfl) ?_;simp only[zz,zy,Nat.zero_add,Nat.reduceAdd,Nat.reduceMul,Int.reduceToNat];refine aA (aH fR aC rfl rfl (by decide) (by decide) rfl) ?_;simp only[zz];refine aL rfl ((m.b 2 rfl).lies aJ aC rfl rfl) ?_;simp only[zz,zy,Nat.zero_add,Nat.reduceAdd,Nat.reduceMul,Int.reduceToNat];refine bE rfl rfl (wR (a:=dI p 8 0) (b:=dI p 8 1) (c:=dI p 8 5) (d:=dI p 8 4) _) ?_;rintro v u e ⟨A3,cap3,_,rfl,rfl,hN⟩;replace m:=m.newO e hN;clear e hN;simp only[zz];refine eG m 2 rfl rfl bV mE rfl (by decide) rfl rfl (m.o 0 rfl).own.1 (m.o 0 rfl).row (rP _) (dX rfl) (dX rfl) ?_;clear m;intro A1 cap1 u m;simp only[zF,zG] at m;refine aA (aD) (aG (k33 _ _ ?_));refine aF fun K34 k34=>wp_region_lit (aA (aB) (aA (aH fR aC rfl rfl (by decide) (by decide) rfl) ?_));simp only[zz];refine aL rfl ((m.b 3 rfl).lies aJ aC rfl rfl) ?_;simp only[zz,zy,Nat.zero_add,Nat.reduceAdd,Nat.reduceMul,Int.reduceToNat];refine aA (aH fR aC rfl rfl (by decide) (by decide) rfl) ?_;simp only[zz];refine aL rfl ((m.b 3 rfl).lies aJ aC rfl rfl) ?_;simp only[zz,zy,Nat.zero_add,Nat.reduceAdd,Nat.reduceMul,Int.reduceToNat];refine aA (aH fR aC rfl rfl (by decide) (by decide) rfl) ?_;simp only[zz];refine aL rfl ((m.b 3 rfl).lies aJ aC rfl rfl) ?_;simp only[zz,zy,Nat.zero_add,Nat.reduceAdd,Nat.reduceMul,Int.reduceToNat];refine aA (aH fR aC rfl rfl (by decide) (by decide) rfl) ?_;simp only[zz];refine aL rfl ((m.b 3 rfl).lies aJ aC rfl rfl) ?_;simp only[zz,zy,Nat.zero_add,Nat.reduceAdd,Nat.reduceMul,Int.reduceToNat];refine bE rfl rfl (wR (a:=dI p 8 2) (b:=dI p 8 6) (c:=dI p 8 7) (d:=dI p 8 3) _) ?_;rintro v u e ⟨A4,cap4,_,rfl,rfl,hN⟩;replace m:=m.newO e hN;clear e hN;simp only[zz];refine eG m 3 rfl rfl bV mE rfl (by decide) rfl rfl (m.o 0 rfl).own.1 (m.o 0 rfl).row (rP _) (dX rfl) (dX rfl) ?_;clear m;intro A1 cap1 u m;simp only[zF,zG] at m;refine aA (aD) (aG (k34 _ _ ?_));refine aF fun K35 k35=>wp_region_lit (aA (aB) (aA (aH fR aC rfl rfl (by decide) (by decide) rfl) ?_));simp only[zz];refine aL rfl ((m.b 4 rfl).lies aJ aC rfl rfl) ?_;simp only[zz,zy,Nat.zero_add,Nat.reduceAdd,Nat.reduceMul,Int.reduceToNat];refine aA (aH fR aC rfl rfl (by decide) (by decide) rfl) ?_;simp only[zz];refine aL rfl ((m.b 4 rfl).lies aJ aC rfl rfl) ?_;simp only[zz,zy,Nat.zero_add,Nat.reduceAdd,Nat.reduceMul,Int.reduceToNat];refine aA (aH fR aC rfl rfl (by decide) (by decide) rfl) ?_;simp only[zz];refine aL rfl ((m.b 4 rfl).lies aJ aC rfl rfl) ?_;simp only[zz,zy,Nat.zero_add,Nat.reduceAdd,Nat.reduceMul,Int.reduceToNat];refine aA (aH fR aC rfl rfl (by decide) (by decide) rfl) ?_;simp only[zz];refine aL rfl ((m.b 4 rfl).lies aJ aC rfl rfl) ?_;simp only[zz,zy,Nat.zero_add,Nat.reduceAdd,Nat.reduceMul,Int.reduceToNat];refine bE rfl rfl (wR (a:=dI p 8 0) (b:=dI p 8 4) (c:=dI p 8 6) (d:=dI p 8 2) _) ?_;rintro v u e ⟨A5,cap5,_,rfl,rfl,hN⟩;replace m:=m.newO e hN;clear e hN;simp only[zz];refine eG m 4 rfl rfl bV mE rfl (by decide) rfl rfl (m.o 0 rfl).own.1 (m.o 0 rfl).row (rP _) (dX rfl) (dX rfl) ?_;clear m;intro A1 cap1 u m;simp only[zF,zG] at m;refine aA (aD) (aG (k35 _ _ ?_));refine aF fun K36 k36=>wp_region_lit (aA (aB) (aA (aH fR aC rfl rfl (by decide) (by decide) rfl) ?_));simp only[zz];refine aL rfl ((m.b 5 rfl).lies aJ aC rfl rfl) ?_;simp only[zz,zy,Nat.zero_add,Nat.reduceAdd,Nat.reduceMul,Int.reduceToNat];refine aA (aH fR aC rfl rfl (by decide) (by decide) rfl) ?_;simp only[zz];refine aL rfl ((m.b 5 rfl).lies aJ aC rfl rfl) ?_;simp only[zz,zy,Nat.zero_add,Nat.reduceAdd,Nat.reduceMul,Int.reduceToNat];refine aA (aH fR aC rfl rfl (by decide) (by decide) rfl) ?_;simp only[zz];refine aL rfl ((m.b 5 rfl).lies aJ aC rfl rfl) ?_;simp only[zz,zy,Nat.zero_add,Nat.reduceAdd,Nat.reduceMul,Int.reduceToNat];refine aA (aH fR aC rfl rfl (by decide) (by decide) rfl) ?_;simp only[zz];refine aL rfl ((m.b 5 rfl).lies aJ aC rfl rfl) ?_;simp only[zz,zy,Nat.zero_add,Nat.reduceAdd,Nat.reduceMul,Int.reduceToNat];refine bE rfl rfl (wR (a:=dI p 8 1) (b:=dI p 8 3) (c:=dI p 8 7) (d:=dI p 8 5) _) ?_;rintro v u e ⟨A6,cap6,_,rfl,rfl,hN⟩;replace m:=m.newO e hN;clear e hN;simp only[zz];refine eG m 5 rfl rfl bV mE rfl (by decide) rfl rfl (m.o 0 rfl).own.1 (m.o 0 rfl).row (rP _) (dX rfl) (dX rfl) ?_;clear m;intro A1 cap1 u m;simp only[zF,zG] at m;refine aA (aD) (aG (k36 _ _ ?_));refine wp_ret ?_;simp only[zz];try simp only[Exit.inBlock,Exit.then,if_true]
 refine bS rfl rfl ?_;try simp only[zD,zE]
 exact ⟨_,rfl,m.ext,⟨_,_,_,rfl,rfl,((m.o 5 rfl)).as (by simp only[uA,List.flatMap_append])⟩⟩
theorem aaz {b : Nat} (w : World) (hb : b < 134217728) : eL prog 42 [.int .i64 (b : Int),.int .i64 8,.agg #[.int .i64 4,.int .i64 5,.int .i64 6]] w (TS 53 (Tj b) w):=by
 refine ⟨aeI,?_⟩;have m:=cF.refl w;have hb0:=hb
 go_enter func42,ntmps42
 refine aF fun K1 k1=>wp_region_lit (eP m rfl ?_);clear m;intro g1 u m;refine aA (aD) (aG (k1 _ _ ?_));refine aF fun K2 k2=>wp_region_lit (aA (aD) ?_);replace m:=m.nilO 53 9;refine aG (k2 _ _ ?_);refine aF fun K3 k3=>aF fun K4 k4=>wp_region_lit (aA (aD) ?_);simp only[zz];refine aG (k4 _ _ ?_);refine wp_block ?_;try simp only[Nat.zero_add,Nat.reduceAdd,Nat.reduceMul,Int.reduceToNat]
 refine bJ [7,8] [9,10,11,12,13,14,15,16,17,18,19,20,21,22,23,24,25,26,27,28,29,30,31,32,33,34,35,36,37,38,39,40,41,42,43,44,45,46,47,48,49,50,51,52,53,54,55,56,57,58,59,60,61,62,63,64,65,66,67,68,69,70,71,72,73,74,75,76,77,78,79,80,81,82,83,84,85,86,87,88,89,90,91,92,93,94,95,96,97,98,99,100,101,102,103,104,105,106,107,108,109,110,111,112,113,114,115,116,117,118,119,120,121,122,123,124,125,126,127,128,129,130,131,132,133,134,135,136,137,138,139] (fun n vs wl=>∃ (A1 : Option Addr) (cap1 k : Nat),vs = [.slice A1 (iB b (k) (0)).length cap1,.int .i64 (k:Int)] ∧ cF w wl [oI 53 9 A1 (iB b (k) (0)).length cap1 ((iB b (k) (0)).flatMap bQ),bI g1 [.int .i64 4,.int .i64 5,.int .i64 6] 48] ∧ (k ≤ 27) ∧ (n = 27 - k)) ?_ ?_
 ·
  apply Exists.intro;simp only[zQ,zR,zD,zE];exact ⟨none,0,0,rfl,m,Nat.zero_le _,rfl⟩
 ·
  intro n vs wr hI u;clear m;obtain ⟨A1,cap1,k,rfl,m,hk,hn⟩:=hI;simp only[zu,zF,zG];refine aF fun K5 k5=>aF fun K6 k6=>wp_region_lit (aA (aB) (aA (cO rfl rfl) (aG (k6 _ _ ?_))));simp only[zz];refine cC rfl (fun hc1=>?_) (fun hc1=>?_)
  ·
   refine wp_skip (k5 _ _ ?_);refine aF fun K7 k7=>wp_block (aF fun K8 k8=>wp_region_lit (aA (aB) ?_));simp only[zz];refine aA (cE rfl rfl (by omega) (Ra (k:=k) (c:=3))) (aA (aD) (aG (k8 _ _ ?_)));refine aF fun K9 k9=>wp_region_lit (aA (aB) ?_);simp only[zz];refine aA (gY rfl rfl (by omega) (Mt (n:=3) (by omega))) ?_;simp only[zz];refine aA (cE rfl rfl (by omega) (Ra (k:=k / 3) (c:=3))) (aA (aD) (aG (k9 _ _ ?_)));refine aF fun K10 k10=>wp_region_lit (aA (aB) ?_);simp only[zz];refine aA (gY rfl rfl (by omega) (Mt (n:=9) (by omega))) (aA (aD) (aG (k10 _ _ ?_)));refine aF fun K11 k11=>aF fun K12 k12=>wp_region_lit (aA (aB) (aA (aB) ?_));simp only[zz];refine aA (jI underlying113 iT rfl (eW (by omega) (by omega))) ?_;simp only[zz];refine aA (qJ rfl rfl (by omega) (ad8 (by omega) (by omega))) (aA (rK rfl rfl (ad9 (Xs hb))) (aA (rJ rfl rfl) (aG (k12 _ _ ?_))));simp only[zz];refine cC rfl (fun hc2=>?_) (fun hc2=>?_)
   ·
    have hv : Bi b k = false:=by unfold Bi;exact decide_eq_false (by have:=hc2;simp only[Int.toNat_natCast] at this;omega)
    rw [Tk hv] at m ⊢;refine wp_exit (k7 _ _ ?_);refine wp_region_lit (aA (aB) ?_);simp only[zz];refine aA (aQ rfl rfl (aM (by omega) (by omega))) (aA (aD) (aG ?_));simp only[zz];simp only[Exit.inBlock,Exit.then];refine ⟨27 - (k + 1),_,?_,rfl,?_,?_⟩
    · omega
    · simp only[zz,zv]
    ·
     simp only[zQ,zR,zD,zE];exact ⟨_,_,k + 1,rfl,m,by omega,rfl⟩
   ·
    have hv : Bi b k = true:=by unfold Bi;exact decide_eq_true (by have:=hc2;simp only[Int.toNat_natCast] at this;omega)
    refine wp_skip (k11 _ _ ?_);refine aF fun K13 k13=>wp_region_lit (aA (aO (c:=0) dW rfl bG rfl rfl) ?_);simp only[zz];refine aL rfl ((m.b 1 rfl).lies1 bZ rfl) ?_;simp only[zz];refine aA (aB) (aA (aB) ?_);simp only[zz];refine aA (fF rfl rfl (aM (by omega) (by omega))) ?_;simp only[zz];refine aA (aQ rfl rfl (aM (by omega) (by omega))) (aA (aO (c:=0) dW rfl bG rfl rfl) ?_);simp only[zz];refine aL rfl ((m.b 1 rfl).lies1 bZ rfl) ?_;simp only[zz];refine aA (aB) (aA (aB) ?_);simp only[zz];refine aA (fF rfl rfl (aM (by omega) (by omega))) ?_;simp only[zz];refine aA (aQ rfl rfl (aM (by omega) (by omega))) (aA (aO (c:=0) dW rfl bG rfl rfl) ?_);simp only[zz];refine aL rfl ((m.b 1 rfl).lies1 bZ rfl) ?_;simp only[zz];refine aA (aB) (aA (aB) ?_);simp only[zz];refine aA (fF rfl rfl (aM (by omega) (by omega))) ?_;simp only[zz];refine aA (aQ rfl rfl (aM (by omega) (by omega))) (aA (dT rfl rfl rfl) ?_);simp only[zz];refine bH m bU rfl ?_;clear m;intro g2 u m;simp only[zz];refine aT m 0 rfl rfl rfl aC (dX rfl) rfl ?_;clear m;intro u m;simp only[zy,zx,bK,zF,zG,Nat.reduceAdd] at m;refine aG (k13 _ _ ?_);refine aF fun K14 k14=>wp_region_lit (aL rfl ((m.b 0 rfl).full aJ aC) ?_);simp only[zz];refine aA (aB) ?_;simp only[zz];refine bE rfl rfl (adS (p:=vP k) _ (ab6 (by omega))) ?_;rintro v u e ⟨A2,cap2,_,rfl,rfl,hN⟩;replace m:=m.newO e hN;clear e hN;obtain ⟨gc,rfl⟩:=(m.o 0 rfl).some (by rw [pE];decide);rw [pE] at m ⊢;refine aA (aD) (aG (k14 _ _ ?_));refine aF fun K15 k15=>wp_region_lit (aA (iO rfl rfl rfl) (aA (iO rfl rfl rfl) ?_));simp only[zz];refine aA (iO rfl rfl rfl) (aA (iO rfl rfl rfl) (aA (iO rfl rfl rfl) (aA (iO rfl rfl rfl) ?_)));simp only[zz];refine aA (rX rfl rfl rfl rfl rfl rfl) ?_;simp only[zz];refine bH m Li rfl ?_;clear m;intro g3 u m;simp only[zz];refine aT m 0 rfl rfl rfl Tv (dX rfl) rfl ?_;clear m;intro u m;simp only[zy,zx,bK,zF,zG,Nat.reduceAdd] at m;refine aG (k15 _ _ ?_);refine aF fun K16 k16=>wp_region_lit (aA (aD) (aG (k16 _ _ ?_)));refine wp_block ?_;simp only[zz];try simp only[Nat.zero_add,Nat.reduceAdd,Nat.reduceMul,Int.reduceToNat]
    refine bJ [7,15] [16,17,18,19,66,67,68,69,70,71,72,73,74,75,76,77,78,79,80,81,82,83,84,85,86,87,88,89,90,91,92,93,94,95,96,97,98,99,100,101,102,103,104,105,106,107,108,109,110,111,112,113,114,115,116,117,118,119,120,121,122,123,124,125,126,127,128,129,130,131,132,133,134,135,136,137,138,139] (fun n vs wl=>∃ (A1 : Option Addr) (cap1 f : Nat),vs = [.slice A1 (iB b (k) (f)).length cap1,.int .i64 (f:Int)] ∧ cF w wl [bI g3 vA 115,oI 53 9 (some ⟨gc,0,none⟩) 12 cap2 ((uA (vP k) 8).flatMap bQ),oI 53 9 A1 (iB b (k) (f)).length cap1 ((iB b (k) (f)).flatMap bQ),bI g1 [.int .i64 4,.int .i64 5,.int .i64 6] 48] ∧ (f ≤ 6) ∧ (n = 6 - f)) ?_ ?_
    ·
     apply Exists.intro;simp only[zQ,zR,zD,zE];exact ⟨_,_,0,rfl,(m.sel [true,true,false,true,true]),Nat.zero_le _,rfl⟩
    ·
     intro n vs wr hI u;clear m;obtain ⟨A1,cap1,f,rfl,m,hf6,hn2⟩:=hI;simp only[zu,zF,zG];refine aF fun K17 k17=>aF fun K18 k18=>wp_region_lit (aA (aB) (aA (cO rfl rfl) (aG (k18 _ _ ?_))));simp only[zz];refine cC rfl (fun hc3=>?_) (fun hc3=>?_)
     ·
      have hf : f < 6:=by omega
      have hs:=aed f;obtain ⟨t,u0,ht,hu,hpr⟩:=Ya (n:=k) hf;refine wp_skip (k17 _ _ ?_);refine aF fun K19 k19=>wp_block (aF fun K20 k20=>wp_region_lit (aA (aB) (aA (aB) ?_)));simp only[zz];refine aA (aH underlying115 xI rfl rfl (by omega) (by omega) (Ny (Int.toNat_natCast _))) (aA (aH underlying26 bG rfl rfl (by decide) (by decide) rfl) ?_);simp only[zz];refine aL rfl ((m.b 0 rfl).lies1 (i:=f * 3) bZ (aea hf)) ?_;simp only[zz];refine aA (aQ rfl rfl (aM (by omega) (by omega))) (aA (aD) (aG (k20 _ _ ?_)));refine aF fun K21 k21=>wp_region_lit (aA (aB) (aA (aB) ?_));simp only[zz];refine aA (aH underlying115 xI rfl rfl (by omega) (by omega) (Ny (Int.toNat_natCast _))) (aA (aH underlying26 bG rfl rfl (by decide) (by decide) rfl) ?_);simp only[zz];refine aL rfl ((m.b 0 rfl).lies1 (i:=f * 3 + 1) bZ (aeb hf)) ?_;simp only[zz];refine aA (aQ rfl rfl (aM (by omega) (by omega))) (aA (aD) (aG (k21 _ _ ?_)));refine aF fun K22 k22=>wp_region_lit (aA (aB) (aA (aB) ?_));simp only[zz];refine aA (aH underlying115 xI rfl rfl (by omega) (by omega) (Ny (Int.toNat_natCast _))) (aA (aH underlying26 bG rfl rfl (by decide) (by decide) rfl) ?_);simp only[zz];refine aL rfl ((m.b 0 rfl).lies1 (i:=f * 3 + 2) bZ (aec hf)) ?_;simp only[zz];refine aA (aQ rfl rfl (aM (by omega) (by omega))) (aA (aD) (aG (k22 _ _ ?_)));refine aF fun K23 k23=>wp_region_lit (aA (aB) (aA (pP rfl rfl) ?_));simp only[zz];refine aA (aB) (dF rfl (fun hb=>aB) (dF rfl (fun hb=>cO (bO hb rfl) rfl) (aA (dC rfl rfl rfl) ?_)));simp only[zz];refine aA (aB) (dF rfl (fun hb=>aB) (dF rfl (fun hb=>pP (bO hb rfl) rfl) (aA (dC rfl rfl rfl) ?_)));simp only[zz];refine aA (aB) (dF rfl (fun hb=>aB) (dF rfl (fun hb=>cO (bO hb rfl) rfl) (aA (dC rfl rfl rfl) ?_)));simp only[zz];refine aA (aB) (dF rfl (fun hb=>aB) (dF rfl (fun hb=>pP (bO hb rfl) rfl) (aA (dC rfl rfl rfl) ?_)));simp only[zz];refine aA (aB) (dF rfl (fun hb=>aB) (dF rfl (fun hb=>cO (bO hb rfl) rfl) (aA (dC rfl rfl rfl) ?_)));simp only[zz];refine aA (aD) (aG (k23 _ _ ?_));refine aF fun K24 k24=>wp_region_lit (aA (aB) (aA (fN rfl) (aA (aB) ?_)));simp only[zz];refine fE rfl (fun hb=>aB) (fE rfl (fun hb=>aB) ?_);simp only[zz];refine fE rfl (fun hb=>fF (bO hb rfl) rfl (aM (by omega) (by omega))) (fE rfl (fun hb=>aB) ?_);simp only[zz];refine fE rfl (fun hb=>aQ (bO hb rfl) (bO hb rfl) (aM (by omega) (by omega))) ?_;simp only[zz];refine fE rfl (fun hb=>fF (bO hb rfl) rfl (aM (by omega) (by omega))) (fE rfl (fun hb=>aB) ?_);simp only[zz];refine fE rfl (fun hb=>aQ (bO hb rfl) (bO hb rfl) (aM (by omega) (by omega))) (fE rfl (fun hb=>jI underlying113 iT (bO hb rfl) (eW (by have h:=vin hb;omega) (by have h:=vin hb;omega))) ?_);simp only[zz];refine fE rfl (fun hb=>qJ (bO hb rfl) (bO hb rfl) (by have h:=vin hb;omega) (ad8 (by have h:=vin hb;omega) (by have h:=vin hb;omega))) (fE rfl (fun hb=>rK (bO hb rfl) rfl (ad9 (Xs hb0))) (fE rfl (fun hb=>rJ (bO hb rfl) rfl) (aA (fQ rfl rfl rfl) ?_)));simp only[zz];refine aG (k24 _ _ ?_);refine lI rfl (fun hc4=>?_) (fun hc4=>?_)
      ·
       have hvf:=(Lc (b:=b) (n:=k) (f:=f)).symm.trans hc4;refine mh m [true,true,false,true] [(0,true),(1,true),(2,true),(3,true),(4,true),(6,true),(7,true),(8,true),(9,true),(10,true),(5,true),(11,true),(12,false),(13,false),(14,true)] aP (by kernel_rfl) (dL (fun _ _ _ _ _ h=>h)) (ol:=?_) ?hol ?_
       case hol=>simp only[zw,zQ,zR];try rfl
       clear m;intro u m;refine aZ (aB) (aZ (aB) (aZ (aB) ?_));simp only[zz];refine aZ (fF rfl rfl (aM (by omega) (by omega))) ?_;simp only[zz];refine aZ (aK bV aS rfl rfl (by omega) (by omega) (bY (show _ = 2 * f by omega))) (aZ (aB) (aZ (aB) ?_));simp only[zz];refine aZ (fF rfl rfl (aM (by omega) (by omega))) ?_;simp only[zz];refine aZ (aQ rfl rfl (aM (by omega) (by omega))) ?_;simp only[zz];refine aZ (aK bV aS rfl rfl (by omega) (by omega) (bY (show _ = 2 * f + 1 by omega))) ?_;simp only[zz];refine cU rfl (fun u m=>(((m.o 1 rfl).tri ht).lies eF aS)) ?_;simp only[zz];refine cU rfl (fun u m=>(((m.o 1 rfl).tri hu).lies eF aS)) ?_;simp only[zz];refine cW (He rfl rfl ?_);intro u g4 e hg hB;replace m:=m.newB e hg hB;clear e hg hB;refine aG (⟨m.sel [false,true,true,false,true],?_⟩);refine cW ?_;simp only[zz];refine eG m 3 rfl rfl bV mE rfl (by decide) rfl rfl rfl (m.b 0 rfl).rowsO (qX rfl) (by have:=yS (b:=b) (n:=k) (f:=f) (by omega) (by omega);omega) (by have:=yS (b:=b) (n:=k) (f:=f) (by omega) (by omega);omega) ?_;clear m;intro A1 cap1 u m;simp only[zF,zG] at m;rw [To hpr hvf,Rb hf hvf] at m;rw [Rb hf hvf];refine aG (⟨m.sel [false,true,true,false,true],?_⟩);refine aZ (aD) (dU (k19 _ _ ?_));refine wp_region_lit (aA (aB) ?_);simp only[zz];refine aA (aQ rfl rfl (aM (by omega) (by omega))) (aA (aD) (aG ?_));simp only[zz];simp only[Exit.inBlock,Exit.then];refine ⟨6 - (f + 1),_,?_,rfl,?_,?_⟩
       · omega
       · simp only[zz,zv]
       ·
        simp only[zQ,zR,zD,zE];exact ⟨_,_,f + 1,rfl,(m.sel [false,true,true,true,true]),by omega,rfl⟩
      ·
       have hvf:=(Lc (b:=b) (n:=k) (f:=f)).symm.trans hc4;rw [← Oq hvf] at m ⊢;refine wp_skip (k19 _ _ ?_);refine wp_region_lit (aA (aB) ?_);simp only[zz];refine aA (aQ rfl rfl (aM (by omega) (by omega))) (aA (aD) (aG ?_));simp only[zz];simp only[Exit.inBlock,Exit.then];refine ⟨6 - (f + 1),_,?_,rfl,?_,?_⟩
       · omega
       · simp only[zz,zv]
       ·
        simp only[zQ,zR,zD,zE];exact ⟨_,_,f + 1,rfl,m,by omega,rfl⟩
     ·
      have hfq : f = 6:=by omega
      rw [hfq,Oo hv] at m ⊢;refine wp_exit (k7 _ _ ?_);refine wp_region_lit (aA (aB) ?_);simp only[zz];refine aA (aQ rfl rfl (aM (by omega) (by omega))) (aA (aD) (aG ?_));simp only[zz];simp only[Exit.inBlock,Exit.then];refine ⟨27 - (k + 1),_,?_,rfl,?_,?_⟩
      · omega
      · simp only[zz,zv]
      ·
       simp only[zQ,zR,zD,zE];exact ⟨_,_,k + 1,rfl,(m.sel [false,false,true,true]),by omega,rfl⟩
  ·
   have hkq : k = 27:=by omega
   rw [hkq,Dh] at m ⊢;refine wp_exit (k3 _ _ ?_);refine aF fun K25 k25=>wp_region_lit (aA (aB) (aA (aD) (aG (k25 _ _ ?_))));refine wp_ret ?_;simp only[zz];try simp only[Exit.inBlock,Exit.then,if_true]
   refine bS rfl rfl ?_;try simp only[zD,zE]
   exact ⟨_,rfl,m.ext,⟨_,_,_,rfl,rfl,(m.o 0 rfl)⟩⟩
theorem adT {kind bits : Int} [Iw kind] [Iw bits] {N cap : Nat} {A : Option Addr} {zs : List Int} (w : World) (hZ : pU w A N zs) : eL prog 22 [.int .i64 kind,.int .i64 bits,.slice A N cap] w (TS 53 (vS kind bits zs) w):=by
 refine ⟨aeq,?_⟩;have m:=cF.refl w;have hbb:=uZ (n:=bits) (m:=134217728) (by decide);haveI : Iw (kind.tdiv 3):=⟨(Ld (Iw.h (n:=kind))).2⟩
 go_enter func22,ntmps22
 refine aF fun K1 k1=>wp_region_lit (aA (aD) (aG (k1 _ _ ?_)));refine aF fun K2 k2=>aF fun K3 k3=>wp_region_lit (aA (aB) ?_);simp only[zz];refine gJ m rfl rfl (Ci (n:=kind) (k:=3) (by decide) (by decide)) ?_;clear m;intro u m;refine aA (rJ rfl rfl) (aG (k3 _ _ ?_));simp only[zz];refine cC rfl (fun hc1=>?_) (fun hc1=>?_)
 ·
  refine aF fun K4 k4=>wp_region_lit (aA (aB) ?_);simp only[zz];refine gJ m rfl rfl (Ci (n:=bits) (k:=134217728) (by decide) (by decide)) ?_;clear m;intro u m;refine aA (dT rfl rfl rfl) ?_;simp only[zz];rw [show bits % 134217728 = (((bits % 134217728).toNat : Nat) : Int) by omega];refine bE rfl rfl (aaz (b:=(bits % 134217728).toNat) _ (by omega)) ?_;rintro v u e ⟨A1,cap1,_,rfl,rfl,hN⟩;replace m:=m.newO e hN;clear e hN;refine aA (aD) (aG (k4 _ _ ?_));refine wp_ret ?_;simp only[zz];try simp only[Exit.inBlock,Exit.then,if_true]
  refine bS rfl rfl ?_;try simp only[zD,zE]
  exact ⟨_,rfl,m.ext,by rw [vS,if_pos hc1];exact ⟨_,_,_,rfl,rfl,(m.o 0 rfl)⟩⟩
 ·
  refine wp_skip (k2 _ _ ?_);refine aF fun K5 k5=>wp_region_lit (aA (aB) ?_);simp only[zz];refine aA (gY rfl rfl (by omega) (Ld (Iw.h (n:=kind))).1) (aA (aB) ?_);simp only[zz];refine bE rfl rfl (abU (n0:=kind.tdiv 3) _ (hZ.ext m.ext)) ?_;rintro v u e ⟨A1,cap1,_,rfl,rfl,hN⟩;replace m:=m.newO e hN;clear e hN;refine aA (aD) (aG (k5 _ _ ?_));refine wp_ret ?_;simp only[zz];try simp only[Exit.inBlock,Exit.then,if_true]
  refine bS rfl rfl ?_;try simp only[zD,zE]
  exact ⟨_,rfl,m.ext,by rw [vS,if_neg hc1];exact ⟨_,_,_,rfl,rfl,(m.o 0 rfl)⟩⟩
end Go.Proofs.YtfohfflkhpfjeaaGreatDoor
namespace Go.Proofs.YtfohfflkhpfjeaaGreatDoor
open Go.Proofs.Tryz
open Go.RowKit Go.Lith
set_option maxRecDepth 100000
attribute [local irreducible] wpList wpQuiet dY dO dN Code.wp
end Go.Proofs.YtfohfflkhpfjeaaGreatDoor
namespace Go.Lith
open Go.RowKit
def Fj (e : P3) : List T3:=[⟨⟨0,0,0⟩,⟨0,30,0⟩,e⟩,⟨⟨0,30,0⟩,⟨30,0,0⟩,e⟩,⟨⟨30,0,0⟩,⟨0,0,0⟩,e⟩,⟨⟨0,0,0⟩,⟨30,0,0⟩,⟨0,0,30⟩⟩,⟨⟨30,0,0⟩,⟨0,30,0⟩,⟨0,0,30⟩⟩,⟨⟨0,30,0⟩,⟨0,0,0⟩,⟨0,0,30⟩⟩]
def Fk : List T3:=[⟨⟨0,0,0⟩,⟨0,30,0⟩,⟨30,0,0⟩⟩,⟨⟨0,0,0⟩,⟨30,0,0⟩,⟨0,0,30⟩⟩,⟨⟨30,0,0⟩,⟨0,30,0⟩,⟨0,0,30⟩⟩,⟨⟨0,30,0⟩,⟨0,0,0⟩,⟨0,0,30⟩⟩]
theorem af8 : gR (Fj ⟨3,4,1⟩) Fk [(⟨3,4,1⟩,⟨0,0,0⟩)] = (6,0):=by decide +kernel
theorem af9 : gR (Fj ⟨3,4,1⟩) Fk [(⟨3,4,1⟩,⟨0,0,30⟩)] = (0,32):=by decide +kernel
theorem aga : gR (Fj ⟨3,4,1⟩) Fk [] = (0,32):=by decide +kernel
theorem agb : gR (Fj ⟨3,4,1⟩) Fk [(⟨0,0,30⟩,⟨0,0,0⟩)] = (0,32):=by decide +kernel
theorem Sg : I3 ⟨0,0,0⟩:=⟨by decide,by decide,by decide⟩
theorem Sh : I3 ⟨0,0,30⟩:=⟨by decide,by decide,by decide⟩
theorem Vs : I3 ⟨3,4,1⟩:=⟨by decide,by decide,by decide⟩
theorem Cj (e : P3) [h : I3 e] : ∀ t ∈ Fj e,IT t:=fun t ht=>by
 have a : I3 ⟨0,0,0⟩:=Sg;have b : I3 ⟨30,0,0⟩:=⟨by decide,by decide,by decide⟩
 have c : I3 ⟨0,30,0⟩:=⟨by decide,by decide,by decide⟩
 have d : I3 ⟨0,0,30⟩:=Sh;simp only[Fj,List.mem_cons,List.not_mem_nil,or_false] at ht;rcases ht with rfl | rfl | rfl | rfl | rfl | rfl
 · exact ⟨a,c,h⟩
 · exact ⟨c,b,h⟩
 · exact ⟨b,a,h⟩
 · exact ⟨a,b,d⟩
 · exact ⟨b,c,d⟩
 · exact ⟨c,a,d⟩
theorem Ck : ∀ t ∈ Fk,IT t:=fun t ht=>by
 have a : I3 ⟨0,0,0⟩:=Sg;have b : I3 ⟨30,0,0⟩:=⟨by decide,by decide,by decide⟩
 have c : I3 ⟨0,30,0⟩:=⟨by decide,by decide,by decide⟩
 have d : I3 ⟨0,0,30⟩:=Sh;simp only[Fk,List.mem_cons,List.not_mem_nil,or_false] at ht;rcases ht with rfl | rfl | rfl | rfl
 · exact ⟨a,c,b⟩
 · exact ⟨a,b,d⟩
 · exact ⟨b,c,d⟩
 · exact ⟨c,a,d⟩
theorem adU {ts : List T3} (h : ∀ x ∈ dZ ts,Mid x) : ∀ t ∈ ts,IT t:=af7 fun x hx=>(h x hx).i3
end Go.Lith
namespace Go.Proofs.YtfohfflkhpfjeaaGreatDoor
open Go.Proofs.Tryz
open Go.RowKit Go.Lith
set_option maxRecDepth 100000
attribute [local irreducible] wpList wpQuiet dY dO dN Code.wp
theorem abV {e : P3} (w : World) : eL prog 23 [pt e] w (fun v w'=>∃ A1 c1 A2 c2,v = .tuple #[.slice A1 6 c1,.slice A2 4 c2] ∧ cF w w' [oI 53 9 A1 6 c1 ((Fj e).flatMap bQ),oI 53 9 A2 4 c2 (Fk.flatMap bQ)]):=by
 refine ⟨aer,?_⟩;have m:=cF.refl w
 go_enter func23,ntmps23
 refine aF fun K1 k1=>wp_region_lit (eP m rfl ?_);clear m;intro g1 u m;refine aA (aD) (aA (aD) (aG (k1 _ _ ?_)));refine aF fun K2 k2=>wp_region_lit (aA (Lk) ?_);simp only[zz];refine bH m bU rfl ?_;clear m;intro g2 u m;simp only[zz];refine aT m 0 rfl rfl rfl aC (dX rfl) rfl ?_;clear m;intro u m;simp only[zy,zx,bK,zF,zG,Nat.reduceAdd] at m;refine aG (k2 _ _ ?_);refine aF fun K3 k3=>wp_region_lit (aA (Jg rfl) ?_);simp only[zz];refine bH m bU rfl ?_;clear m;intro g3 u m;simp only[zz];refine aT m 0 rfl rfl rfl aC (dX rfl) rfl ?_;clear m;intro u m;simp only[zy,zx,bK,zF,zG,Nat.reduceAdd] at m;refine aG (k3 _ _ ?_);refine aF fun K4 k4=>wp_region_lit (aA (Jh rfl) ?_);simp only[zz];refine bH m bU rfl ?_;clear m;intro g4 u m;simp only[zz];refine aT m 0 rfl rfl rfl aC (dX rfl) rfl ?_;clear m;intro u m;simp only[zy,zx,bK,zF,zG,Nat.reduceAdd] at m;refine aG (k4 _ _ ?_);refine aF fun K5 k5=>wp_region_lit (aA (xL rfl) ?_);simp only[zz];refine bH m bU rfl ?_;clear m;intro g5 u m;simp only[zz];refine aT m 0 rfl rfl rfl aC (dX rfl) rfl ?_;clear m;intro u m;simp only[zy,zx,bK,zF,zG,Nat.reduceAdd] at m;refine aG (k5 _ _ ?_);refine aF fun K6 k6=>wp_region_lit (aL rfl ((m.b 3 rfl).full aJ aC) ?_);simp only[zz];refine aL rfl ((m.b 1 rfl).full aJ aC) ?_;simp only[zz];refine aL rfl ((m.b 2 rfl).full aJ aC) ?_;simp only[zz];refine aA (bR rfl rfl rfl) ?_;simp only[zz];refine aL rfl ((m.b 3 rfl).full aJ aC) ?_;simp only[zz];refine aL rfl ((m.b 2 rfl).full aJ aC) ?_;simp only[zz];refine aL rfl ((m.b 0 rfl).full aJ aC) ?_;simp only[zz];refine aA (bR rfl rfl rfl) ?_;simp only[zz];refine aL rfl ((m.b 2 rfl).full aJ aC) ?_;simp only[zz];refine aL rfl ((m.b 1 rfl).full aJ aC) ?_;simp only[zz];refine aL rfl ((m.b 0 rfl).full aJ aC) ?_;simp only[zz];refine aA (bR rfl rfl rfl) ?_;simp only[zz];refine aL rfl ((m.b 1 rfl).full aJ aC) ?_;simp only[zz];refine aL rfl ((m.b 3 rfl).full aJ aC) ?_;simp only[zz];refine aL rfl ((m.b 0 rfl).full aJ aC) ?_;simp only[zz];refine aA (bR rfl rfl rfl) ?_;simp only[zz];refine Ud rfl rfl rfl rfl ?_;intro u g6 e hg hB;replace m:=m.newB e hg hB;clear e hg hB;simp only[zz];replace m:=m.own 0 rfl (n:=4) (c:=9) rfl (dX rfl);simp only[zG] at m;refine aA (aD) (aG (k6 _ _ ?_));refine aF fun K7 k7=>wp_region_lit ?_;simp only[zz];refine aL rfl ((m.b 4 rfl).full aJ aC) ?_;simp only[zz];refine aL rfl ((m.b 2 rfl).full aJ aC) ?_;simp only[zz];refine aL rfl ((m.b 5 rfl).full aJ aC) ?_;simp only[zz];refine aA (bR rfl rfl rfl) ?_;simp only[zz];refine aL rfl ((m.b 2 rfl).full aJ aC) ?_;simp only[zz];refine aL rfl ((m.b 3 rfl).full aJ aC) ?_;simp only[zz];refine aL rfl ((m.b 5 rfl).full aJ aC) ?_;simp only[zz];refine aA (bR rfl rfl rfl) ?_;simp only[zz];refine aL rfl ((m.b 3 rfl).full aJ aC) ?_;simp only[zz];refine aL rfl ((m.b 4 rfl).full aJ aC) ?_;simp only[zz];refine aL rfl ((m.b 5 rfl).full aJ aC) ?_;simp only[zz];refine aA (bR rfl rfl rfl) ?_;simp only[zz];refine aL rfl ((m.b 4 rfl).full aJ aC) ?_;simp only[zz];refine aL rfl ((m.b 3 rfl).full aJ aC) ?_;simp only[zz];refine aL rfl ((m.b 1 rfl).full aJ aC) ?_;simp only[zz];refine aA (bR rfl rfl rfl) ?_;simp only[zz];refine aL rfl ((m.b 3 rfl).full aJ aC) ?_;simp only[zz];refine aL rfl ((m.b 2 rfl).full aJ aC) ?_;simp only[zz];refine aL rfl ((m.b 1 rfl).full aJ aC) ?_;simp only[zz];refine aA (bR rfl rfl rfl) ?_;simp only[zz];refine aL rfl ((m.b 2 rfl).full aJ aC) ?_;simp only[zz];refine aL rfl ((m.b 4 rfl).full aJ aC) ?_;simp only[zz];refine aL rfl ((m.b 1 rfl).full aJ aC) ?_;simp only[zz];refine aA (bR rfl rfl rfl) ?_;simp only[zz];refine Ue rfl rfl rfl rfl rfl rfl ?_;intro u g7 e hg hB;replace m:=m.newB e hg hB;clear e hg hB;simp only[zz];replace m:=m.own 0 rfl (n:=6) (c:=9) rfl (dX rfl);simp only[zG] at m;refine aA (aB) (aA (aD) (aA (aD) (aG (k7 _ _ ?_))));refine wp_ret ?_;simp only[zz];try simp only[Exit.inBlock,Exit.then,if_true]
 refine jW rfl rfl rfl ?_;try simp only[zD,zE]
 exact ⟨_,rfl,m.ext,_,_,_,_,rfl,m.sel [true,true,false,false,false,false,false]⟩
theorem aaA  : iX prog 11 [] (.bool true):=by
 intro w;refine ⟨aek,?_⟩;have m:=cF.refl w
 go_enter func11,ntmps11
 refine aF fun K1 k1=>wp_region_lit (aA (aD) (aG (k1 _ _ ?_)));refine aF fun K2 k2=>wp_region_lit (aA (dT rfl rfl rfl) ?_);simp only[zz];refine bH m bU rfl ?_;clear m;intro g1 u m;simp only[zz];refine aT m 0 rfl rfl rfl aC (dX rfl) rfl ?_;clear m;intro u m;simp only[zy,zx,bK,zF,zG,Nat.reduceAdd] at m;refine aG (k2 _ _ ?_);refine aF fun K3 k3=>wp_region_lit (aL rfl ((m.b 0 rfl).full aJ aC) ?_);simp only[zz];refine bE rfl rfl (abV (e:=(⟨3,4,1⟩ : P3)) _) ?_;rintro v u e ⟨A2,c2,A1,c1,rfl,hM⟩;replace m:=m.plus hM;clear hM e;simp only[List.cons_append,List.nil_append] at m;refine aA (aB) (aA (bM rfl rfl) (aA (bM rfl rfl) ?_));simp only[zz];refine aA (aD) (aA (aD) (aG (k3 _ _ ?_)));refine aF fun K4 k4=>wp_region_lit (aA (xL rfl) ?_);simp only[zz];refine bH m bU rfl ?_;clear m;intro g2 u m;simp only[zz];refine aT m 0 rfl rfl rfl aC (dX rfl) rfl ?_;clear m;intro u m;simp only[zy,zx,bK,zF,zG,Nat.reduceAdd] at m;refine aG (k4 _ _ ?_);refine aF fun K5 k5=>wp_region_lit (aA (aB) (aA (aB) ?_));simp only[zz];refine aL rfl ((m.b 3 rfl).full aJ aC) ?_;simp only[zz];refine aA (xM rfl) ?_;simp only[zz];refine pM rfl ?_;intro u g3 e hg hB;replace m:=m.newB e hg hB;clear e hg hB;simp only[zz];replace m:=m.own 0 rfl (n:=1) (c:=6) rfl (dX rfl);simp only[zG] at m;refine eQ m rfl rfl (sH (fs:=Fj ⟨3,4,1⟩) (gs:=Fk) (ms:=[((⟨3,4,1⟩ : P3),(⟨0,0,0⟩ : P3))]) _ ((m.o 2 rfl).tris (haveI:=Vs;Cj _)) ((m.o 3 rfl).tris Ck) (((m.o 0 rfl)).lat rQ (by decide)) (by decide) (by decide) (by decide) (fun mv h=>by obtain rfl:=List.mem_singleton.1 h;exact ⟨Vs,Sg⟩)) ?_;clear m;rintro v u m rfl;simp only[zz];rw [af8];dsimp only;refine aA (aB) (aA (bM rfl rfl) (aA (bM rfl rfl) (aA (aD) ?_)));simp only[zz];refine aA (aD) (aG (k5 _ _ ?_));refine aF fun K6 k6=>wp_region_lit (aA (aB) (aA (aB) ?_));simp only[zz];refine aL rfl ((m.b 4 rfl).full aJ aC) ?_;simp only[zz];refine aL rfl ((m.b 1 rfl).full aJ aC) ?_;simp only[zz];refine aA (nF rfl rfl) ?_;simp only[zz];refine pM rfl ?_;intro u g4 e hg hB;replace m:=m.newB e hg hB;clear e hg hB;simp only[zz];replace m:=m.own 0 rfl (n:=1) (c:=6) rfl (dX rfl);simp only[zG] at m;refine eQ m rfl rfl (sH (fs:=Fj ⟨3,4,1⟩) (gs:=Fk) (ms:=[((⟨3,4,1⟩ : P3),(⟨0,0,30⟩ : P3))]) _ ((m.o 3 rfl).tris (haveI:=Vs;Cj _)) ((m.o 4 rfl).tris Ck) (((m.o 0 rfl)).lat rQ (by decide)) (by decide) (by decide) (by decide) (fun mv h=>by obtain rfl:=List.mem_singleton.1 h;exact ⟨Vs,Sh⟩)) ?_;clear m;rintro v u m rfl;simp only[zz];rw [af9];dsimp only;refine aA (aB) (aA (bM rfl rfl) (aA (bM rfl rfl) (aA (aD) ?_)));simp only[zz];refine aA (aD) (aG (k6 _ _ ?_));refine aF fun K7 k7=>wp_region_lit (aA (aB) (aA (aB) ?_));simp only[zz];refine eQ m rfl rfl (sH (fs:=Fj ⟨3,4,1⟩) (gs:=Fk) (ms:=[]) _ ((m.o 3 rfl).tris (haveI:=Vs;Cj _)) ((m.o 4 rfl).tris Ck) (oU.nil _ _) (by decide) (by decide) (by decide) (fun mv h=>by cases h)) ?_;clear m;rintro v u m rfl;simp only[zz];rw [aga];dsimp only;refine aA (aB) (aA (bM rfl rfl) (aA (bM rfl rfl) (aA (aD) ?_)));simp only[zz];refine aA (aD) (aG (k7 _ _ ?_));refine aF fun K8 k8=>wp_region_lit (aA (aB) (aA (aB) ?_));simp only[zz];refine aL rfl ((m.b 2 rfl).full aJ aC) ?_;simp only[zz];refine aA (xM rfl) ?_;simp only[zz];refine pM rfl ?_;intro u g5 e hg hB;replace m:=m.newB e hg hB;clear e hg hB;simp only[zz];replace m:=m.own 0 rfl (n:=1) (c:=6) rfl (dX rfl);simp only[zG] at m;refine eQ m rfl rfl (sH (fs:=Fj ⟨3,4,1⟩) (gs:=Fk) (ms:=[((⟨0,0,30⟩ : P3),(⟨0,0,0⟩ : P3))]) _ ((m.o 4 rfl).tris (haveI:=Vs;Cj _)) ((m.o 5 rfl).tris Ck) (((m.o 0 rfl)).lat rQ (by decide)) (by decide) (by decide) (by decide) (fun mv h=>by obtain rfl:=List.mem_singleton.1 h;exact ⟨Sh,Sg⟩)) ?_;clear m;rintro v u m rfl;simp only[zz];rw [agb];dsimp only;refine aA (aB) (aA (bM rfl rfl) (aA (bM rfl rfl) (aA (aD) ?_)));simp only[zz];refine aA (aD) (aG (k8 _ _ ?_));refine aF fun K9 k9=>wp_region_lit (aA (aB) (aA (qT (m:=6) (n:=6) rfl rfl (by decide)) (aA (aB) ?_)));simp only[zz];refine bN rfl (aA (aB) (bN rfl (aA (qT (m:=0) (n:=0) rfl rfl (by decide)) (aA (cJ rfl) (aA (aB) ?_)))));simp only[zz];refine bN rfl (aA (aB) (bN rfl (aA (qT (m:=32) (n:=32) rfl rfl (by decide)) (aA (cJ rfl) (aA (aB) ?_)))));simp only[zz];refine bN rfl (aA (aB) (bN rfl (aA (qT (m:=32) (n:=32) rfl rfl (by decide)) (aA (cJ rfl) (aA (aB) ?_)))));simp only[zz];refine bN rfl (aA (aB) (bN rfl (aA (qT (m:=32) (n:=32) rfl rfl (by decide)) (aA (cJ rfl) (aA (aD) ?_)))));simp only[zz];refine aG (k9 _ _ ?_);refine wp_ret ?_;try simp only[Exit.inBlock,Exit.then,if_true]
 refine bS rfl rfl ?_;try simp only[zD,zE]
 exact ⟨_,rfl,m.ext,rfl⟩
end Go.Proofs.YtfohfflkhpfjeaaGreatDoor
namespace Go.Lith
open Go.RowKit
def T3.mapP (f : P3 → P3) (t : T3) : T3:=⟨f t.a,f t.b,f t.c⟩
def yI (f : P3 → P3) (e : E3) : E3:=(f e.1,f e.2)
def Wa (f : P3 → P3) (S : P3 → Prop) : Prop:=∀ x y,S x → S y → f x = f y → x = y
section
variable {f : P3 → P3} {S : P3 → Prop} {ts : List T3}
def Nk (S : P3 → Prop) (ts : List T3) : Prop:=∀ t ∈ ts,S t.a ∧ S t.b ∧ S t.c
theorem Nk.tl {t : T3} (h : Nk S (t :: ts)) : Nk S ts:=fun u hu=>h u (List.mem_cons_of_mem _ hu)
theorem tI (f : P3 → P3) (ts : List T3) : bB (ts.map (T3.mapP f)) = (bB ts).map (yI f):=by
 unfold bB;rw [List.flatMap_map,List.map_flatMap];rfl
theorem qG (h : Nk S ts) {e : E3} (he : e ∈ bB ts) : S e.1 ∧ S e.2:=by
 obtain ⟨t,ht,hx⟩:=List.mem_flatMap.1 he;obtain ⟨h1,h2,h3⟩:=h t ht;simp only[List.mem_cons,List.not_mem_nil,or_false] at hx;rcases hx with rfl | rfl | rfl
 · exact ⟨h1,h2⟩
 · exact ⟨h2,h3⟩
 · exact ⟨h3,h1⟩
theorem Nl (hf : Wa f S) {e d : E3} (he : S e.1 ∧ S e.2) (hd : S d.1 ∧ S d.2) (h : yI f e = yI f d) : e = d :=
 Prod.ext (hf _ _ he.1 hd.1 (congrArg Prod.fst h)) (hf _ _ he.2 hd.2 (congrArg Prod.snd h))
theorem Fl (hf : Wa f S) (h : Nk S ts) {e : E3} (he : S e.1 ∧ S e.2) : yI f e ∈ bB (ts.map (T3.mapP f)) ↔ e ∈ bB ts:=by
 rw [tI,List.mem_map];exact ⟨fun ⟨d,hd,k⟩=>Nl hf (qG h hd) he k ▸ hd,fun k=>⟨e,k,rfl⟩⟩
theorem aaB (hf : Wa f S) {t : T3} (h : S t.a ∧ S t.b ∧ S t.c) : pW (t.mapP f) = pW t:=by
 obtain ⟨h1,h2,h3⟩:=h;have e : ∀ x y,S x → S y → decide (f x = f y) = decide (x = y):=fun x y hx hy=>by
  rw [decide_eq_decide];exact ⟨hf x y hx hy,fun k=>by rw [k]⟩
 unfold pW T3.mapP;simp only[e _ _ h1 h2,e _ _ h2 h3,e _ _ h3 h1]
theorem aaC (hf : Wa f S) {t : T3} {p q : P3} (h : S t.a ∧ S t.b ∧ S t.c) (hp : S p) (hq : S q) : (t.mapP f).fnd (f p) (f q) = (t.fnd p q).map f:=by
 obtain ⟨h1,h2,h3⟩:=h;have e : ∀ x y,S x → S y → (f x = f y ↔ x = y):=fun x y hx hy=>⟨hf x y hx hy,fun k=>by rw [k]⟩
 unfold T3.fnd T3.mapP;simp only[e _ _ h1 hp,e _ _ h2 hq,e _ _ h2 hp,e _ _ h3 hq,e _ _ h3 hp,e _ _ h1 hq];split
 · rfl
 · split
   · rfl
   · split <;> rfl
theorem Bb (hf : Wa f S) {p q : P3} (hp : S p) (hq : S q) : ∀ {ts : List T3},Nk S ts → bP (ts.map (T3.mapP f)) (f p) (f q) = (bP ts p q).map f
 | [],_=>rfl
 | t :: ts,h=>by
  rw [List.map_cons,bP,bP,aaC hf (h t (List.mem_cons_self ..)) hp hq,Bb hf hp hq h.tl];cases t.fnd p q <;> rfl
theorem Fm (h : Nk S ts) {p q x : P3} (hb : bP ts p q = some x) : S x:=by
 have e : (q,x) ∈ bB ts:=by
  have:=mH (qC hb);rw [← mG];exact List.mem_map.2 ⟨_,this,rfl⟩
 exact (qG h e).2
theorem Nm (hf : Wa f S) (h : Nk S ts) {p : P3} (hp : S p) : ∀ (n : Nat) (x : P3),S x → pH (ts.map (T3.mapP f)) (f p) n (f x) = (pH ts p n x).map f
 | 0,x,_=>rfl
 | n + 1,x,hx=>by
  rw [pH,pH,Bb hf hp hx h];cases hb : bP ts p x with
  | none=>rfl
  | some y =>
   rw [Option.map_some,Option.bind_some,Option.bind_some];exact Nm hf h hp n y (Fm h hb)
theorem Vt (f : P3 → P3) (ts : List T3) : dZ (ts.map (T3.mapP f)) = (dZ ts).map f:=by
 unfold dZ;rw [List.flatMap_map,List.map_flatMap];rfl
theorem Nn (hf : Wa f S) {p : P3} (hp : S p) : ∀ {l : List P3},(∀ x ∈ l,S x) → oO (l.map f) (f p) = oO l p
 | [],_=>rfl
 | x :: l,h=>by
  rw [List.map_cons,lF,lF,Nn hf hp fun y hy=>h y (List.mem_cons_of_mem _ hy)];by_cases e : x = p
  · rw [if_pos e,if_pos (by rw [e])]
  · rw [if_neg e,if_neg (fun k=>e (hf _ _ (h x (List.mem_cons_self ..)) hp k))]
end
theorem Hz {ts : List T3} : (eJ ts).any (xG ts) = true ↔ ∃ e ∈ bB ts,∃ j,1 ≤ j ∧ j < oO (dZ ts) e.1 ∧ pH ts e.1 j e.2 = some e.2:=by
 rw [pinned];refine exists_congr fun e=>?_;rw [Ej,Eg,Ei];refine and_congr Iff.rfl (exists_congr fun j=>?_);rw [xW];constructor
 · rintro ⟨h1,h2,h3⟩;exact ⟨h1,by omega,h3⟩
 · rintro ⟨h1,h2,h3⟩;exact ⟨h1,by omega,h3⟩
theorem Ia {ts : List T3} : cX true ts = 0 ↔ Az ts ∧ (bB ts).Nodup ∧ ¬ ∃ e ∈ bB ts,∃ j,1 ≤ j ∧ j < oO (dZ ts) e.1 ∧ pH ts e.1 j e.2 = some e.2:=by
 constructor
 · intro h
   obtain ⟨h1,h2⟩:=qF h;refine ⟨h1,h2,fun k=>?_⟩;have hp:=Hz.2 k;have hd : ts.any pW = false:=List.any_eq_false.2 fun t ht=>by rw [h1 t ht];exact Bool.false_ne_true
   have hn:=xV (es:=bB ts);rw [decide_eq_false (fun k=>k h2)] at hn;unfold cX at h;rw [hd,hn,hp] at h;simp at h
 · rintro ⟨h1,h2,h3⟩
   have hp : (eJ ts).any (xG ts) = false:=by
    cases hh : (eJ ts).any (xG ts) with
    | false=>rfl
    | true=>exact absurd (Hz.1 hh) h3
   have hd : ts.any pW = false:=List.any_eq_false.2 fun t ht=>by rw [h1 t ht];exact Bool.false_ne_true
   have hn:=xV (es:=bB ts);rw [decide_eq_false (fun k=>k h2)] at hn;unfold cX;rw [hd,hn,hp];rfl
theorem Fo {f : P3 → P3} {S : P3 → Prop} {ts : List T3} (hf : Wa f S) (h : Nk S ts) (hc : cX true ts = 0) : cX true (ts.map (T3.mapP f)) = 0:=by
 obtain ⟨h1,h2,h3⟩:=Ia.1 hc;have hS : ∀ x ∈ dZ ts,S x:=fun x hx=>by
  obtain ⟨t,ht,hx⟩:=uS.1 hx;obtain ⟨k1,k2,k3⟩:=h t ht;rcases hx with rfl | rfl | rfl
  · exact k1
  · exact k2
  · exact k3
 refine Ia.2 ⟨fun t ht=>?_,?_,?_⟩
 · obtain ⟨u,hu,rfl⟩:=List.mem_map.1 ht
   rw [aaB hf (h u hu)];exact h1 u hu
 · rw [tI,List.Nodup,List.pairwise_map]
   exact h2.imp_of_mem fun {a b} ha hb hne e=>hne (Nl hf (qG h ha) (qG h hb) e)
 · rintro ⟨e,he,j,j1,j2,hr⟩
   rw [tI] at he;obtain ⟨d,hd,rfl⟩:=List.mem_map.1 he;obtain ⟨s1,s2⟩:=qG h hd;refine h3 ⟨d,hd,j,j1,?_,?_⟩
   · rw [Vt] at j2
     rwa [show (yI f d).1 = f d.1 from rfl,Nn hf s1 hS] at j2
   · rw [show (yI f d).1 = f d.1 from rfl,show (yI f d).2 = f d.2 from rfl,Nm hf h s1 j d.2 s2] at hr
     cases hi : pH ts d.1 j d.2 with
     | none=>rw [hi] at hr;cases hr
     | some y =>
      rw [hi] at hr;have hy : S y:=by
       have key : ∀ (n : Nat) (x y : P3),S x → pH ts d.1 n x = some y → S y:=by
        intro n
        induction n with
        | zero=>intro x y hx k;cases k;exact hx
        | succ n ih =>
         intro x y hx k;rw [pH] at k;obtain ⟨z,hz,k⟩:=Option.bind_eq_some_iff.1 k;exact ih z y (Fm h hz) k
       exact key j d.2 y s2 hi
      rw [hf y d.2 hy s2 (Option.some.inj hr)]
/-! ### An edge is divided -/
def mJ (e : E3) (x y : P3) : Bool:=(decide (x = e.1) && decide (y = e.2)) || (decide (x = e.2) && decide (y = e.1))
def yJ (e : E3) (p : P3) (t : T3) : List T3 :=
 if mJ e t.a t.b then [⟨t.a,p,t.c⟩,⟨p,t.b,t.c⟩] else if mJ e t.b t.c then [⟨t.b,p,t.a⟩,⟨p,t.c,t.a⟩] else if mJ e t.c t.a then [⟨t.c,p,t.b⟩,⟨p,t.a,t.b⟩] else [t]
def mM (e : E3) (p : P3) (ts : List T3) : List T3:=ts.flatMap (yJ e p)
section
variable {f : P3 → P3} {S : P3 → Prop}
theorem Kd (hf : Wa f S) {e : E3} {x y : P3} (he : S e.1 ∧ S e.2) (hx : S x) (hy : S y) : mJ (yI f e) (f x) (f y) = mJ e x y:=by
 have k : ∀ a b,S a → S b → decide (f a = f b) = decide (a = b):=fun a b ha hb=>by
  rw [decide_eq_decide];exact ⟨hf a b ha hb,fun h=>by rw [h]⟩
 unfold mJ yI;simp only[k _ _ hx he.1,k _ _ hy he.2,k _ _ hx he.2,k _ _ hy he.1]
theorem Vu (hf : Wa f S) {e : E3} {p : P3} {t : T3} (he : S e.1 ∧ S e.2) (ht : S t.a ∧ S t.b ∧ S t.c) : yJ (yI f e) (f p) (t.mapP f) = (yJ e p t).map (T3.mapP f):=by
 obtain ⟨h1,h2,h3⟩:=ht;unfold yJ;simp only[T3.mapP,Kd hf he h1 h2,Kd hf he h2 h3,Kd hf he h3 h1];split
 · rfl
 · split
   · rfl
   · split <;> rfl
theorem Ib (hf : Wa f S) {e : E3} {p : P3} (he : S e.1 ∧ S e.2) : ∀ {ts : List T3},Nk S ts → mM (yI f e) (f p) (ts.map (T3.mapP f)) = (mM e p ts).map (T3.mapP f)
 | [],_=>rfl
 | t :: ts,h=>by
  have ih:=Ib hf (p:=p) he h.tl;unfold mM at ih ⊢;rw [List.map_cons,List.flatMap_cons,List.flatMap_cons,List.map_append,Vu hf he (h t (List.mem_cons_self ..)),ih]
theorem aaD {e : E3} {p : P3} {t : T3} (hp : S p) (ht : S t.a ∧ S t.b ∧ S t.c) : Nk S (yJ e p t):=by
 obtain ⟨h1,h2,h3⟩:=ht;unfold yJ;intro u hu;split at hu
 · simp only[List.mem_cons,List.not_mem_nil,or_false] at hu
   rcases hu with rfl | rfl
   · exact ⟨h1,hp,h3⟩
   · exact ⟨hp,h2,h3⟩
 · split at hu
   · simp only[List.mem_cons,List.not_mem_nil,or_false] at hu
     rcases hu with rfl | rfl
     · exact ⟨h2,hp,h1⟩
     · exact ⟨hp,h3,h1⟩
   · split at hu
     · simp only[List.mem_cons,List.not_mem_nil,or_false] at hu
       rcases hu with rfl | rfl
       · exact ⟨h3,hp,h2⟩
       · exact ⟨hp,h1,h2⟩
     · obtain rfl:=List.mem_singleton.1 hu
       exact ⟨h1,h2,h3⟩
theorem No {e : E3} {p : P3} {ts : List T3} (hp : S p) (h : Nk S ts) : Nk S (mM e p ts):=fun u hu=>by
 obtain ⟨t,ht,hu⟩:=List.mem_flatMap.1 hu;exact aaD hp (h t ht) u hu
end
def Si : P3:=⟨100,0,0⟩
def mS (n : Nat) : List T3:=kX 10 [] n
def aaE (n : Nat) (e : E3) : Bool :=
 if (mM e Si (mS n)).length = (mS n).length + 1 then decide (cX true (mM e Si (mS n)) = 0) && !decide (e ∈ bB (mM e Si (mS n))) && !decide ((e.2,e.1) ∈ bB (mS n)) else true
theorem acl : cX true (mS 1) = 0 ∧ (bB (mS 1)).all (aaE 1) = true:=by decide +kernel
theorem acm : cX true (mS 2) = 0 ∧ (bB (mS 2)).all (aaE 2) = true:=by decide +kernel
theorem acn : cX true (mS 3) = 0 ∧ (bB (mS 3)).all (aaE 3) = true:=by decide +kernel
def Wb (zs : List Int) (p : P3) (x : P3) : P3:=if x = Si then p else ⟨x.x,x.y,100 + Vz zs (x.x / 10).toNat (x.y / 10).toNat⟩
def abW (x : P3) : Prop:=x = Si ∨ (x.z = 100 ∧ x.x < 100)
theorem abX {zs : List Int} {p : P3} (hp : 100 ≤ p.x) : Wa (Wb zs p) abW:=fun x y hx hy h=>by
 unfold Wb at h;rcases hx with rfl | ⟨hx1,hx2⟩ <;> rcases hy with rfl | ⟨hy1,hy2⟩
 · rfl
 · rw [if_pos rfl,if_neg (fun k=>by rw [k] at hy1;simp [Si] at hy1)] at h
   have:=congrArg P3.x h;simp only at this;omega
 · rw [if_pos rfl,if_neg (fun k=>by rw [k] at hx1;simp [Si] at hx1)] at h
   have:=congrArg P3.x h;simp only at this;omega
 · rw [if_neg (fun k=>by rw [k] at hx1;simp [Si] at hx1),if_neg (fun k=>by rw [k] at hy1;simp [Si] at hy1)] at h
   have h1:=congrArg P3.x h;have h2:=congrArg P3.y h;exact P3.eq h1 h2 (hx1.trans hy1.symm)
theorem Np (x y : Nat) : Vz [] x y = 0:=rfl
theorem Nq {zs : List Int} {p : P3} {x y : Nat} (hx : x ≤ 6) : Wb zs p (jP 10 [] x y) = jP 10 zs x y:=by
 unfold Wb;rw [if_neg (fun k=>by have:=congrArg P3.z k;simp [jP,Si,Np] at this)];have e1 : (((jP 10 [] x y).x) / 10).toNat = x:=by simp only[jP];omega
 have e2 : (((jP 10 [] x y).y) / 10).toNat = y:=by simp only[jP];omega
 rw [e1,e2];rfl
theorem Bc {α : Type} {g h : α → List T3} {k : T3 → T3} {l : List α} (e : ∀ x ∈ l,g x = (h x).map k) : l.flatMap g = (l.flatMap h).map k:=by
 induction l with
 | nil=>rfl
 | cons x l ih=>rw [List.flatMap_cons,List.flatMap_cons,List.map_append,e x (List.mem_cons_self ..),ih fun y hy=>e y (List.mem_cons_of_mem _ hy)]
theorem Vv {zs : List Int} {p : P3} {n : Nat} (hn : n ≤ 5) : kX 10 zs n = (mS n).map (T3.mapP (Wb zs p)):=by
 unfold kX mS kX;refine Bc fun y hy=>Bc fun x hx=>?_;have h1:=List.mem_range.1 hx;simp only[Dg,qM,List.map_cons,List.map_nil,T3.mapP,Nq (p:=p) (show x ≤ 6 by omega),Nq (p:=p) (show x + 1 ≤ 6 by omega)]
theorem Vw {n : Nat} (hn : n ≤ 5) : Nk abW (mS n):=fun t ht=>by
 obtain ⟨y,_,h⟩:=List.mem_flatMap.1 ht;obtain ⟨x,hx,h⟩:=List.mem_flatMap.1 h;have h1:=List.mem_range.1 hx;have k : ∀ x y : Nat,x ≤ 6 → abW (jP 10 [] x y):=fun x y h=>.inr ⟨by simp [jP,Np],by simp only[jP];omega⟩;simp only[Dg,qM,List.mem_cons,List.not_mem_nil,or_false] at h;rcases h with rfl | rfl
 · exact ⟨k _ _ (by omega),k _ _ (by omega),k _ _ (by omega)⟩
 · exact ⟨k _ _ (by omega),k _ _ (by omega),k _ _ (by omega)⟩
theorem abY {n : Nat} (h1 : 1 ≤ n) (h3 : n ≤ 3) : cX true (mS n) = 0 ∧ ∀ e ∈ bB (mS n),aaE n e = true:=by
 obtain rfl | rfl | rfl : n = 1 ∨ n = 2 ∨ n = 3:=by omega
 · exact ⟨acl.1,fun e he=>List.all_eq_true.1 acl.2 e he⟩
 · exact ⟨acm.1,fun e he=>List.all_eq_true.1 acm.2 e he⟩
 · exact ⟨acn.1,fun e he=>List.all_eq_true.1 acn.2 e he⟩
theorem Vx {zs : List Int} {p : P3} {n : Nat} {e : E3} {ms : List Mv} (hp : 100 ≤ p.x) (h1 : 1 ≤ n) (h3 : n ≤ 3) (he : e ∈ bB (kX 10 zs n)) (hl : (mM e p (kX 10 zs n)).length = (kX 10 zs n).length + 1) :
 gR (mM e p (kX 10 zs n)) (kX 10 zs n) ms = (0,30):=by
 have hf:=abX (zs:=zs) hp;have hS:=Vw (n:=n) (by omega);have hb : Wb zs p Si = p:=if_pos rfl;obtain ⟨k1,k2⟩:=abY h1 h3;rw [Vv (p:=p) (by omega)] at he hl ⊢;rw [tI] at he;obtain ⟨d,hd,rfl⟩:=List.mem_map.1 he;have hdS:=qG hS hd;have ed : mM (yI (Wb zs p) d) p ((mS n).map (T3.mapP (Wb zs p))) = (mM d Si (mS n)).map (T3.mapP (Wb zs p)):=by
  have:=Ib hf (p:=Si) hdS hS;rwa [hb] at this
 rw [ed] at hl ⊢;rw [List.length_map,List.length_map] at hl;have k3:=k2 d hd;unfold aaE at k3;rw [if_pos hl] at k3;simp only[Bool.and_eq_true,decide_eq_true_eq,Bool.not_eq_true',decide_eq_false_iff_not] at k3;obtain ⟨⟨k3,k4⟩,k5⟩:=k3;have hDS : Nk abW (mM d Si (mS n)):=No (.inl rfl) hS;have c1:=Fo hf hDS k3;have c2:=Fo hf hS k1;rw [gR,if_neg (fun k=>k c1),if_neg (fun k=>k c2),if_pos];intro hbe;have m1 : yI (Wb zs p) d ∈ aU ((mS n).map (T3.mapP (Wb zs p))):=by
  refine nV.2 ⟨(Fl hf hS hdS).2 hd,?_⟩;show yI (Wb zs p) (d.2,d.1) ∉ _
  exact fun k=>k5 ((Fl hf hS (e:=(d.2,d.1)) ⟨hdS.2,hdS.1⟩).1 k)
 rw [← hbe] at m1;exact k4 ((Fl hf hDS hdS).1 (nV.1 m1).1)
end Go.Lith
namespace Go.Lith
open Go.RowKit Go.ChangeShapes
variable {H : Type} {enc : TypeId × Value → H} {P : Program} {w : World} {base : Nat} {spare : Nat → Bool} {held : Bool}
theorem Nr {v : Value} {A : Option Addr} {len cap : Nat} (h : v.cells.toList = [.slice A len cap]) (hv : ∀ cs,v ≠ .agg cs) : v = .slice A len cap:=by
 cases v <;> first | (exact absurd rfl (hv _)) | (simp [Value.cells] at h;done) | (simpa [Value.cells] using h)
theorem Qo {r : Reach} {b0 n : Nat} {t e : TypeId} {v : Value} {d : DataW H} {p : List MemPlace} (hu : P.underlying t = some (.slice e)) (hi : nC P n e = true) (hc : P.cellsOf e = 1) (hv : Value.okWide P w r b0 t v) (h : DataW.Trod enc P w base spare held t v d p) :
 ∃ (A : Option Addr) (len cap : Nat) (zs : List Int),v = .slice A len cap ∧ pU w A len zs:=by
 obtain ⟨fuel,hf⟩:=h;obtain ⟨A,len,cap,zs,e,_,_,_,h1⟩:=On hu hi hc hf;refine ⟨A,len,cap,zs,Nr e fun cs hcs=>?_,h1⟩;unfold Value.okWide at hv;rw [hu] at hv;subst hcs;simp [Cell.okWide,Cell.ok,hu] at hv
end Go.Lith
