/-
 Texts of one claim, laid together: Wide8, Wide9, Wide10, Ops4, Facts2, Geo, Fresh, Fresh2, Geo2, Geo3, Geo4, Geo5, Own, Mem, Geo1, Exact.
-/
import Derived.LoopN
import Derived.Test.YtimjandkmfcmiaaGreatDoorTO2
set_option maxHeartbeats 8000000
set_option linter.unusedSimpArgs false
set_option linter.unusedVariables false
set_option linter.unusedSectionVars false
namespace Go.Proofs.YtimjandkmfcmiaaGreatDoor
open Go.RowKit Go.Lith
set_option maxRecDepth 100000
attribute [local irreducible] wpList wpQuiet dV Code.wp
theorem i5 {a : Int} (ha : Bd 1000000 a) : eI Tryz.prog 55 [W a] (.int .i64 (dL a)):=by
 intro w;refine ⟨Uo,?_⟩;have hX:=cD.refl w
 go_enter Tryz.func55,Tryz.ntmps55
 refine aF (fun K1 hK1=>wp_region_lit ?_);refine jA (by simp only[ev,zD,zE]; rfl) ?_;intro w1 g1 hE hg1 hB1;have hG1:=Nat.le_trans hX.size hg1;replace hX:=hX.trans hE;clear hE hg1;simp only[ev,zD,zE,zF,zG];refine aA (aD) ?_;simp only[ev,zD,zE,zF,zG];refine aC ?_;refine hK1 _ _ ?_;refine aF (fun K2 hK2=>wp_block (aF (fun K3 hK3=>wp_region_lit ?_)));refine aI rfl (hB1.lies aY aH rfl rfl) ?_;simp only[ev,zD,zE,zF,zG];refine bO rfl rfl (qG _ (iL ha)) ?_;rintro v w2 hE ⟨A1,c1,rfl,hN1⟩;replace hB1:=hB1.ext hE; replace hX:=hX.trans hE;clear hE;rw [iK] at hN1 ⊢;simp only[ev,zD,zE,zF,zG];refine aA (bM rfl Tryz.underlying97 rfl) (aA (lZ rfl rfl) (aA (aD) ?_));simp only[ev,zD,zE,zF,zG];refine aC ?_;refine hK3 _ _ ?_;refine cK rfl (fun hc1=>?_) (fun hc1=>?_)
 ·
  have h0:=Bz.1 hc1;refine aF (fun K4 hK4=>wp_region_lit (aA (aD) ?_));simp only[ev,zD,zE,zF,zG];refine aC ?_;refine hK4 _ _ ?_;refine wp_ret ?_;try simp only[Exit.inBlock,Exit.then]
  refine bT rfl rfl ?_;try simp only[zD,zE]
  exact ⟨_,rfl,hX,by rw [h0]; rfl⟩
 ·
  refine aF (fun K5 hK5=>wp_region_lit (aA (aG (c:=0) Tryz.underlying35 rfl gA rfl rfl) ?_));simp only[ev,zD,zE,zF,zG];refine aI rfl (hB1.lies1 j4 rfl) ?_;simp only[ev,zD,zE,zF,zG];refine aA (aD) ?_;simp only[ev,zD,zE,zF,zG];refine aC ?_;refine hK5 _ _ ?_;refine o0 rfl (fun hc2=>?_) (fun hc2=>?_)
  ·
   have hn:=yY hc2;refine aF (fun K6 hK6=>wp_region_lit (aA (aD) ?_));simp only[ev,zD,zE,zF,zG];refine aC ?_;refine hK6 _ _ ?_;refine wp_ret ?_;try simp only[Exit.inBlock,Exit.then]
   refine bT rfl rfl ?_;try simp only[zD,zE]
   exact ⟨_,rfl,hX,by rw [lU hn]⟩
  ·
   have hn:=wE hc2;have h0 : ¬ a = 0:=fun e=>hc1 (Bz.2 e);refine wp_skip ?_;refine hK2 _ _ ?_;refine aF (fun K7 hK7=>wp_region_lit (aA (aD) ?_));simp only[ev,zD,zE,zF,zG];refine aC ?_;refine hK7 _ _ ?_;refine wp_ret ?_;try simp only[Exit.inBlock,Exit.then]
   refine bT rfl rfl ?_;try simp only[zD,zE]
   exact ⟨_,rfl,hX,by rw [lV (by omega)]⟩
theorem Vl {a : Int} (ha : Bd 1000000 a) : eI Tryz.prog 95 [W a] (W (-a)):=by
 intro w;refine ⟨Vb,?_⟩;have hX:=cD.refl w
 go_enter Tryz.func95,Tryz.ntmps95
 refine aF (fun K1 hK1=>wp_region_lit ?_);refine jA (by simp only[ev,zD,zE]; rfl) ?_;intro w1 g1 hE hg1 hB1;have hG1:=Nat.le_trans hX.size hg1;replace hX:=hX.trans hE;clear hE hg1;simp only[ev,zD,zE,zF,zG];refine fR cV rfl ?_;intro w2 g2 hE hg2 hB2;have hG2:=Nat.le_trans hX.size hg2; have hN2_1 : g2 ≠ g1:=Nat.ne_of_gt (Nat.lt_of_lt_of_le hB1.lt hg2);replace hB1:=hB1.ext hE; replace hX:=hX.trans hE;clear hE hg2;simp only[ev,zD,zE,zF,zG];refine aC ?_;refine hK1 _ _ ?_;refine aF (fun K2 hK2=>?_);refine eG [(2,true),(0,true),(3,true),(4,true),(1,false),(5,false),(6,false)] aU (by kernel_rfl) (dN (fun _ _ _ _ _ h=>h)) (ol:=?_) ?hol ?_
 case hol=>simp only[zQ,zR,zS,zT,zU,zV]; try rfl
 intro w3 hE;replace hB1:=hB1.ext hE; replace hB2:=hB2.ext hE; replace hX:=hX.trans hE;clear hE;refine ⟨_,(iC.blk hB1 iC.nil),?_⟩;refine bQ (aG (c:=0) Tryz.underlying35 rfl gA rfl rfl) ?_;simp only[ev,zD,zE,zF,zG];refine eQ rfl (fun _ ⟨hB1,_⟩=>(hB1.lies aY aH rfl rfl)) ?_;simp only[ev,zD,zE,zF,zG];refine eQ rfl (fun _ ⟨hB1,_⟩=>(hB1.lies1 j4 rfl)) ?_;simp only[ev,zD,zE,zF,zG];refine bQ (gX rfl) ?_;simp only[ev,zD,zE,zF,zG];refine dZ ?_;refine bO rfl rfl (qG _ (iL ha)) ?_;rintro v w4 hE ⟨A1,c1,rfl,hN1⟩;replace hB1:=hB1.ext hE; replace hB2:=hB2.ext hE; replace hX:=hX.trans hE;clear hE;rw [iK] at hN1 ⊢;simp only[ev,zD,zE,zF,zG];refine aC ?_;refine ⟨⟨hB1,trivial⟩,?_⟩;refine dZ ?_;refine bO rfl rfl (m9 _ hN1 (Nat.le_trans (mA ha) (by decide))) ?_;rintro v w5 hE rfl;replace hB1:=hB1.ext hE; replace hB2:=hB2.ext hE; (try replace hN1:=hN1.ext hE); replace hX:=hX.trans hE;clear hE;simp only[cF];simp only[ev,zD,zE,zF,zG];refine aC ?_;refine ⟨⟨hB1,trivial⟩,?_⟩;refine dZ ?_;refine bZ rfl (by simp only[ev,zD,zE]; rfl) (by exact aH) hB2 (by simp) (by simp [Value.oneCell']) ?_;clear hB2; intro w6 hC hB2;replace hB1:=hB1.chg hC (by first | exact hN1_2 | exact Ne.symm hN2_1); (try replace hN1:=hN1.chg hC (by first | assumption | rfl)); replace hX:=hX.chg hC hG2;clear hC;simp only[a8,zH,zI,zJ,zK,zL,zM,zN,zO,zP,Nat.reduceAdd] at hB2;refine aC ?_;refine ⟨⟨hB1,trivial⟩,?_⟩;refine cZ ?_;rw [Nv] at hB2;refine hK2 _ _ ?_;refine wp_ret ?_;try simp only[Exit.inBlock,Exit.then]
 refine bT rfl ⟨_,rfl,(hB2.lies aY aH rfl rfl)⟩ ?_;try simp only[zD,zE]
 exact ⟨_,rfl,hX,rfl⟩
theorem Gf {a b : Int} (ha : Bd 1000000 a) (hb : Bd 1000000 b) : eI Tryz.prog 94 [W a,W b] (W (a + b)):=by
 intro w;refine ⟨Va,?_⟩;have hX:=cD.refl w;have hla:=mA ha;have hlb:=mA hb;have hls:=mA (Bd.add ha hb)
 go_enter Tryz.func94,Tryz.ntmps94
 refine aF (fun K1 hK1=>wp_region_lit ?_);refine jA (by simp only[ev,zD,zE]; rfl) ?_;intro w1 g1 hE hg1 hB1;have hG1:=Nat.le_trans hX.size hg1;replace hX:=hX.trans hE;clear hE hg1;simp only[ev,zD,zE,zF,zG];refine jA (by simp only[ev,zD,zE]; rfl) ?_;intro w2 g2 hE hg2 hB2;have hG2:=Nat.le_trans hX.size hg2; have hN2_1 : g2 ≠ g1:=Nat.ne_of_gt (Nat.lt_of_lt_of_le hB1.lt hg2);replace hB1:=hB1.ext hE; replace hX:=hX.trans hE;clear hE hg2;simp only[ev,zD,zE,zF,zG];refine fR cV rfl ?_;intro w3 g3 hE hg3 hB3;have hG3:=Nat.le_trans hX.size hg3; have hN3_1 : g3 ≠ g1:=Nat.ne_of_gt (Nat.lt_of_lt_of_le hB1.lt hg3); have hN3_2 : g3 ≠ g2:=Nat.ne_of_gt (Nat.lt_of_lt_of_le hB2.lt hg3);replace hB1:=hB1.ext hE; replace hB2:=hB2.ext hE; replace hX:=hX.trans hE;clear hE hg3;simp only[ev,zD,zE,zF,zG];refine aC ?_;refine hK1 _ _ ?_;refine aF (fun K2 hK2=>?_);refine eG [(0,true),(2,true),(1,false),(3,false),(4,true),(5,true)] aU (by kernel_rfl) (dN (fun _ _ _ _ _ h=>h)) (ol:=?_) ?hol ?_
 case hol=>simp only[zQ,zR,zS,zT,zU,zV]; try rfl
 intro w4 hE;replace hB1:=hB1.ext hE; replace hB2:=hB2.ext hE; replace hB3:=hB3.ext hE; replace hX:=hX.trans hE;clear hE;refine ⟨_,(iC.blk hB1 (iC.blk hB2 iC.nil)),?_⟩;refine eQ rfl (fun _ ⟨hB1,hB2,_⟩=>(hB1.lies aY aH rfl rfl)) ?_;simp only[ev,zD,zE,zF,zG];refine eQ rfl (fun _ ⟨hB1,hB2,_⟩=>(hB2.lies aY aH rfl rfl)) ?_;simp only[ev,zD,zE,zF,zG];refine dZ ?_;refine bO rfl rfl (qG _ (iL ha)) ?_;rintro v w5 hE ⟨A1,c1,rfl,hN1⟩;replace hB1:=hB1.ext hE; replace hB2:=hB2.ext hE; replace hB3:=hB3.ext hE; replace hX:=hX.trans hE;clear hE;rw [iK] at hN1 ⊢;simp only[ev,zD,zE,zF,zG];refine aC ?_;refine ⟨⟨hB1,hB2,trivial⟩,?_⟩;refine dZ ?_;refine bO rfl rfl (qG _ (iL hb)) ?_;rintro v w6 hE ⟨A2,c2,rfl,hN2⟩;replace hB1:=hB1.ext hE; replace hB2:=hB2.ext hE; replace hB3:=hB3.ext hE; (try replace hN1:=hN1.ext hE); replace hX:=hX.trans hE;clear hE;rw [iK] at hN2 ⊢;simp only[ev,zD,zE,zF,zG];refine aC ?_;refine ⟨⟨hB1,hB2,trivial⟩,?_⟩;refine bQ (aD) (bQ (aD) ?_);simp only[ev,zD,zE,zF,zG];refine cZ ?_;refine hK2 _ _ ?_;refine aF (fun K3 hK3=>wp_block (aF (fun K4 hK4=>wp_region_lit (aA (aG (c:=0) Tryz.underlying35 rfl gA rfl rfl) ?_))));simp only[ev,zD,zE,zF,zG];refine aI rfl (hB1.lies1 j4 rfl) ?_;simp only[ev,zD,zE,zF,zG];refine aA (aG (c:=0) Tryz.underlying35 rfl gA rfl rfl) ?_;simp only[ev,zD,zE,zF,zG];refine aI rfl (hB2.lies1 j4 rfl) ?_;simp only[ev,zD,zE,zF,zG];refine aA (Jg Tryz.underlying4 rfl rfl) (aA (aD) ?_);simp only[ev,zD,zE,zF,zG];refine aC ?_;refine hK4 _ _ ?_;refine cK rfl (fun hc1=>?_) (fun hc1=>?_)
 ·
  refine aF (fun K5 hK5=>?_);refine eG [(0,true),(1,true),(3,true),(4,true),(2,false),(5,false),(6,false)] aU (by kernel_rfl) (dN (fun _ _ _ _ _ h=>h)) (ol:=?_) ?hol ?_
  case hol=>simp only[zQ,zR,zS,zT,zU,zV]; try rfl
  intro w7 hE;replace hB1:=hB1.ext hE; replace hB2:=hB2.ext hE; replace hB3:=hB3.ext hE; (try replace hN1:=hN1.ext hE); (try replace hN2:=hN2.ext hE); replace hX:=hX.trans hE;clear hE;refine ⟨_,(iC.blk hB1 iC.nil),?_⟩;refine bQ (aB) (bQ (aB) (bQ (aG (c:=0) Tryz.underlying35 rfl gA rfl rfl) ?_));simp only[ev,zD,zE,zF,zG];refine eQ rfl (fun _ ⟨hB1,_⟩=>(hB1.lies1 j4 rfl)) ?_;simp only[ev,zD,zE,zF,zG];refine dZ ?_;refine bO rfl rfl (Vk _ hN1 hN2 (Nat.le_trans hla (by decide)) (Nat.le_trans hlb (by decide))) ?_;rintro v w8 hE ⟨A3,c3,rfl,hN3⟩;replace hB1:=hB1.ext hE; replace hB2:=hB2.ext hE; replace hB3:=hB3.ext hE; (try replace hN1:=hN1.ext hE); (try replace hN2:=hN2.ext hE); replace hX:=hX.trans hE;clear hE;simp only[ev,zD,zE,zF,zG];refine aC ?_;refine ⟨⟨hB1,trivial⟩,?_⟩;refine dZ ?_;simp only[cF] at hN3 ⊢;have hl3 : (digs 4294967296 (a.natAbs + b.natAbs)).length ≤ 100000000000:=Nat.le_trans (Hs ha hb) (by decide);refine bO rfl rfl (m9 _ hN3 hl3) ?_;rintro v w9 hE rfl;replace hB1:=hB1.ext hE; replace hB2:=hB2.ext hE; replace hB3:=hB3.ext hE; (try replace hN1:=hN1.ext hE); (try replace hN2:=hN2.ext hE); (try replace hN3:=hN3.ext hE); replace hX:=hX.trans hE;clear hE;simp only[cF];simp only[ev,zD,zE,zF,zG];refine aC ?_;refine ⟨⟨hB1,trivial⟩,?_⟩;refine dZ ?_;refine bZ rfl (by simp only[ev,zD,zE]; rfl) (by exact aH) hB3 (by simp) (by simp [Value.oneCell']) ?_;clear hB3; intro w10 hC hB3;replace hB1:=hB1.chg hC (by first | exact hN1_3 | exact Ne.symm hN3_1); replace hB2:=hB2.chg hC (by first | exact hN2_3 | exact Ne.symm hN3_2); (try replace hN1:=hN1.chg hC (by first | assumption | rfl)); (try replace hN2:=hN2.chg hC (by first | assumption | rfl)); (try replace hN3:=hN3.chg hC (by first | assumption | rfl)); replace hX:=hX.chg hC hG3;clear hC;simp only[a8,zH,zI,zJ,zK,zL,zM,zN,zO,zP,Nat.reduceAdd] at hB3;refine aC ?_;refine ⟨⟨hB1,trivial⟩,?_⟩;refine cZ ?_;rw [Nw hc1] at hB3;refine hK5 _ _ ?_;refine wp_ret ?_;try simp only[Exit.inBlock,Exit.then]
  refine bT rfl ⟨_,rfl,(hB3.lies aY aH rfl rfl)⟩ ?_;try simp only[zD,zE]
  exact ⟨_,rfl,hX,rfl⟩
 ·
  refine aF (fun K6 hK6=>wp_region_lit (aA (aB) (aA (aB) ?_)));simp only[ev,zD,zE,zF,zG];refine bO rfl rfl (Km _ hN1 hN2 (fX _) (fX _)) ?_;rintro v w7 hE rfl;replace hB1:=hB1.ext hE; replace hB2:=hB2.ext hE; replace hB3:=hB3.ext hE; (try replace hN1:=hN1.ext hE); (try replace hN2:=hN2.ext hE); replace hX:=hX.trans hE;clear hE;simp only[cF];simp only[ev,zD,zE,zF,zG];refine aA (dS rfl rfl) (aA (aD) ?_);simp only[ev,zD,zE,zF,zG];refine aC ?_;refine hK6 _ _ ?_;refine cK rfl (fun hc2=>?_) (fun hc2=>?_)
  ·
   have hlt:=oH.1 hc2;refine aF (fun K7 hK7=>?_);refine eG [(0,true),(1,true),(3,true),(4,true),(2,false),(5,false),(6,false)] aU (by kernel_rfl) (dN (fun _ _ _ _ _ h=>h)) (ol:=?_) ?hol ?_
   case hol=>simp only[zQ,zR,zS,zT,zU,zV]; try rfl
   intro w8 hE;replace hB1:=hB1.ext hE; replace hB2:=hB2.ext hE; replace hB3:=hB3.ext hE; (try replace hN1:=hN1.ext hE); (try replace hN2:=hN2.ext hE); replace hX:=hX.trans hE;clear hE;refine ⟨_,(iC.blk hB2 iC.nil),?_⟩;refine bQ (aB) (bQ (aB) (bQ (aG (c:=0) Tryz.underlying35 rfl gA rfl rfl) ?_));simp only[ev,zD,zE,zF,zG];refine eQ rfl (fun _ ⟨hB2,_⟩=>(hB2.lies1 j4 rfl)) ?_;simp only[ev,zD,zE,zF,zG];refine dZ ?_;refine bO rfl rfl (Kn _ hN2 hN1 (By (Nat.le_of_lt hlt)) (by simp only[cF]; omega) (Nat.le_trans hlb (by decide))) ?_;rintro v w9 hE ⟨⟨A3,c3,rfl,hN3⟩,_⟩;replace hB1:=hB1.ext hE; replace hB2:=hB2.ext hE; replace hB3:=hB3.ext hE; (try replace hN1:=hN1.ext hE); (try replace hN2:=hN2.ext hE); replace hX:=hX.trans hE;clear hE;simp only[cF] at hN3 ⊢;have hl3:=By (Nat.sub_le b.natAbs a.natAbs);simp only[ev,zD,zE,zF,zG];refine aC ?_;refine ⟨⟨hB2,trivial⟩,?_⟩;refine dZ ?_;refine bO rfl rfl (m9 _ hN3 (Nat.le_trans hl3 (Nat.le_trans hlb (by decide)))) ?_;rintro v w10 hE rfl;replace hB1:=hB1.ext hE; replace hB2:=hB2.ext hE; replace hB3:=hB3.ext hE; (try replace hN1:=hN1.ext hE); (try replace hN2:=hN2.ext hE); (try replace hN3:=hN3.ext hE); replace hX:=hX.trans hE;clear hE;simp only[cF];simp only[ev,zD,zE,zF,zG];refine aC ?_;refine ⟨⟨hB2,trivial⟩,?_⟩;refine dZ ?_;refine bZ rfl (by simp only[ev,zD,zE]; rfl) (by exact aH) hB3 (by simp) (by simp [Value.oneCell']) ?_;clear hB3; intro w11 hC hB3;replace hB1:=hB1.chg hC (by first | exact hN1_3 | exact Ne.symm hN3_1); replace hB2:=hB2.chg hC (by first | exact hN2_3 | exact Ne.symm hN3_2); (try replace hN1:=hN1.chg hC (by first | assumption | rfl)); (try replace hN2:=hN2.chg hC (by first | assumption | rfl)); (try replace hN3:=hN3.chg hC (by first | assumption | rfl)); replace hX:=hX.chg hC hG3;clear hC;simp only[a8,zH,zI,zJ,zK,zL,zM,zN,zO,zP,Nat.reduceAdd] at hB3;refine aC ?_;refine ⟨⟨hB2,trivial⟩,?_⟩;refine cZ ?_;rw [R5 hc1 hlt] at hB3;refine hK7 _ _ ?_;refine wp_ret ?_;try simp only[Exit.inBlock,Exit.then]
   refine bT rfl ⟨_,rfl,(hB3.lies aY aH rfl rfl)⟩ ?_;try simp only[zD,zE]
   exact ⟨_,rfl,hX,rfl⟩
  ·
   have hge : b.natAbs ≤ a.natAbs:=Nat.le_of_not_lt fun h=>hc2 (oH.2 h);refine wp_skip ?_;refine hK3 _ _ ?_;refine aF (fun K8 hK8=>?_);refine eG [(0,true),(1,true),(3,true),(4,true),(2,false),(5,false),(6,false)] aU (by kernel_rfl) (dN (fun _ _ _ _ _ h=>h)) (ol:=?_) ?hol ?_
   case hol=>simp only[zQ,zR,zS,zT,zU,zV]; try rfl
   intro w8 hE;replace hB1:=hB1.ext hE; replace hB2:=hB2.ext hE; replace hB3:=hB3.ext hE; (try replace hN1:=hN1.ext hE); (try replace hN2:=hN2.ext hE); replace hX:=hX.trans hE;clear hE;refine ⟨_,(iC.blk hB1 iC.nil),?_⟩;refine bQ (aB) (bQ (aB) (bQ (aG (c:=0) Tryz.underlying35 rfl gA rfl rfl) ?_));simp only[ev,zD,zE,zF,zG];refine eQ rfl (fun _ ⟨hB1,_⟩=>(hB1.lies1 j4 rfl)) ?_;simp only[ev,zD,zE,zF,zG];refine dZ ?_;refine bO rfl rfl (Kn _ hN1 hN2 (By hge) (by simp only[cF]; omega) (Nat.le_trans hla (by decide))) ?_;rintro v w9 hE ⟨⟨A3,c3,rfl,hN3⟩,_⟩;replace hB1:=hB1.ext hE; replace hB2:=hB2.ext hE; replace hB3:=hB3.ext hE; (try replace hN1:=hN1.ext hE); (try replace hN2:=hN2.ext hE); replace hX:=hX.trans hE;clear hE;simp only[cF] at hN3 ⊢;have hl3:=By (Nat.sub_le a.natAbs b.natAbs);simp only[ev,zD,zE,zF,zG];refine aC ?_;refine ⟨⟨hB1,trivial⟩,?_⟩;refine dZ ?_;refine bO rfl rfl (m9 _ hN3 (Nat.le_trans hl3 (Nat.le_trans hla (by decide)))) ?_;rintro v w10 hE rfl;replace hB1:=hB1.ext hE; replace hB2:=hB2.ext hE; replace hB3:=hB3.ext hE; (try replace hN1:=hN1.ext hE); (try replace hN2:=hN2.ext hE); (try replace hN3:=hN3.ext hE); replace hX:=hX.trans hE;clear hE;simp only[cF];simp only[ev,zD,zE,zF,zG];refine aC ?_;refine ⟨⟨hB1,trivial⟩,?_⟩;refine dZ ?_;refine bZ rfl (by simp only[ev,zD,zE]; rfl) (by exact aH) hB3 (by simp) (by simp [Value.oneCell']) ?_;clear hB3; intro w11 hC hB3;replace hB1:=hB1.chg hC (by first | exact hN1_3 | exact Ne.symm hN3_1); replace hB2:=hB2.chg hC (by first | exact hN2_3 | exact Ne.symm hN3_2); (try replace hN1:=hN1.chg hC (by first | assumption | rfl)); (try replace hN2:=hN2.chg hC (by first | assumption | rfl)); (try replace hN3:=hN3.chg hC (by first | assumption | rfl)); replace hX:=hX.chg hC hG3;clear hC;simp only[a8,zH,zI,zJ,zK,zL,zM,zN,zO,zP,Nat.reduceAdd] at hB3;refine aC ?_;refine ⟨⟨hB1,trivial⟩,?_⟩;refine cZ ?_;rw [R6 hc1 hge] at hB3;refine hK8 _ _ ?_;refine wp_ret ?_;try simp only[Exit.inBlock,Exit.then]
   refine bT rfl ⟨_,rfl,(hB3.lies aY aH rfl rfl)⟩ ?_;try simp only[zD,zE]
   exact ⟨_,rfl,hX,rfl⟩
end Go.Proofs.YtimjandkmfcmiaaGreatDoor
namespace Go.Proofs.YtimjandkmfcmiaaGreatDoor
open Go.RowKit Go.Lith
set_option maxRecDepth 100000
attribute [local irreducible] wpList wpQuiet dV Code.wp
theorem nN {a b : Int} (ha : Bd 1000000 a) (hb : Bd 1000000 b) : eI Tryz.prog 56 [W a,W b] (W (a - b)):=by
 intro w;refine ⟨Up,?_⟩;have hX:=cD.refl w
 go_enter Tryz.func56,Tryz.ntmps56
 refine aF (fun K1 hK1=>wp_region_lit ?_);refine jA (by simp only[ev,zD,zE]; rfl) ?_;intro w1 g1 hE hg1 hB1;have hG1:=Nat.le_trans hX.size hg1;replace hX:=hX.trans hE;clear hE hg1;simp only[ev,zD,zE,zF,zG];refine jA (by simp only[ev,zD,zE]; rfl) ?_;intro w2 g2 hE hg2 hB2;have hG2:=Nat.le_trans hX.size hg2; have hN2_1 : g2 ≠ g1:=Nat.ne_of_gt (Nat.lt_of_lt_of_le hB1.lt hg2);replace hB1:=hB1.ext hE; replace hX:=hX.trans hE;clear hE hg2;simp only[ev,zD,zE,zF,zG];refine fR cV rfl ?_;intro w3 g3 hE hg3 hB3;have hG3:=Nat.le_trans hX.size hg3; have hN3_1 : g3 ≠ g1:=Nat.ne_of_gt (Nat.lt_of_lt_of_le hB1.lt hg3); have hN3_2 : g3 ≠ g2:=Nat.ne_of_gt (Nat.lt_of_lt_of_le hB2.lt hg3);replace hB1:=hB1.ext hE; replace hB2:=hB2.ext hE; replace hX:=hX.trans hE;clear hE hg3;simp only[ev,zD,zE,zF,zG];refine aC ?_;refine hK1 _ _ ?_;refine aF (fun K2 hK2=>?_);refine gZ 4 aU (by kernel_rfl) ?_;simp only[zH,zI,zJ,zK];refine iM rfl (fun _ hE'=>((hB1.ext hE').lies aY aH rfl rfl)) ?_;simp only[ev,zD,zE,zF,zG];refine iM rfl (fun _ hE'=>((hB2.ext hE').lies aY aH rfl rfl)) ?_;simp only[ev,zD,zE,zF,zG];refine rM rfl rfl (Vl hb) ?_;simp only[ev,zD,zE,zF,zG];refine rM rfl rfl (Gf ha hb.neg) ?_;simp only[ev,zD,zE,zF,zG];refine dW ?_;intro w4 hE;replace hB1:=hB1.ext hE; replace hB2:=hB2.ext hE; replace hB3:=hB3.ext hE; replace hX:=hX.trans hE;clear hE;refine bZ rfl (by simp only[ev,zD,zE]; rfl) (by exact aH) hB3 (by simp) (by simp [Value.oneCell']) ?_;clear hB3; intro w5 hC hB3;replace hB1:=hB1.chg hC (by first | exact hN1_3 | exact Ne.symm hN3_1); replace hB2:=hB2.chg hC (by first | exact hN2_3 | exact Ne.symm hN3_2); replace hX:=hX.chg hC hG3;clear hC;simp only[a8,zH,zI,zJ,zK,zL,zM,zN,zO,zP,Nat.reduceAdd] at hB3;refine aC ?_;rw [← Int.sub_eq_add_neg] at hB3;refine hK2 _ _ ?_;refine wp_ret ?_;try simp only[Exit.inBlock,Exit.then]
 refine bT rfl ⟨_,rfl,(hB3.lies aY aH rfl rfl)⟩ ?_;try simp only[zD,zE]
 exact ⟨_,rfl,hX,rfl⟩
theorem gY {a b : Int} (ha : Bd 1000000 a) (hb : Bd 1000000 b) : eI Tryz.prog 38 [W a,W b] (W (a * b)):=by
 intro w;refine ⟨Ue,?_⟩;have hX:=cD.refl w;have hla:=mA ha;have hlb:=mA hb;have hls:=mA (Bd.mul ha hb)
 go_enter Tryz.func38,Tryz.ntmps38
 refine aF (fun K1 hK1=>wp_region_lit ?_);refine jA (by simp only[ev,zD,zE]; rfl) ?_;intro w1 g1 hE hg1 hB1;have hG1:=Nat.le_trans hX.size hg1;replace hX:=hX.trans hE;clear hE hg1;simp only[ev,zD,zE,zF,zG];refine jA (by simp only[ev,zD,zE]; rfl) ?_;intro w2 g2 hE hg2 hB2;have hG2:=Nat.le_trans hX.size hg2; have hN2_1 : g2 ≠ g1:=Nat.ne_of_gt (Nat.lt_of_lt_of_le hB1.lt hg2);replace hB1:=hB1.ext hE; replace hX:=hX.trans hE;clear hE hg2;simp only[ev,zD,zE,zF,zG];refine fR cV rfl ?_;intro w3 g3 hE hg3 hB3;have hG3:=Nat.le_trans hX.size hg3; have hN3_1 : g3 ≠ g1:=Nat.ne_of_gt (Nat.lt_of_lt_of_le hB1.lt hg3); have hN3_2 : g3 ≠ g2:=Nat.ne_of_gt (Nat.lt_of_lt_of_le hB2.lt hg3);replace hB1:=hB1.ext hE; replace hB2:=hB2.ext hE; replace hX:=hX.trans hE;clear hE hg3;simp only[ev,zD,zE,zF,zG];refine aC ?_;refine hK1 _ _ ?_;refine aF (fun K2 hK2=>?_);refine eG [(5,true),(7,true),(0,true),(2,true),(6,true),(8,true),(9,true),(1,false),(3,false),(4,false),(10,false),(11,false)] aU (by kernel_rfl) (dN (fun _ _ _ _ _ h=>h)) (ol:=?_) ?hol ?_
 case hol=>simp only[zQ,zR,zS,zT,zU,zV]; try rfl
 intro w4 hE;replace hB1:=hB1.ext hE; replace hB2:=hB2.ext hE; replace hB3:=hB3.ext hE; replace hX:=hX.trans hE;clear hE;refine ⟨_,(iC.blk hB1 (iC.blk hB2 iC.nil)),?_⟩;refine bQ (aG (c:=0) Tryz.underlying35 rfl gA rfl rfl) (bQ (aG (c:=0) Tryz.underlying35 rfl gA rfl rfl) ?_);simp only[ev,zD,zE,zF,zG];refine eQ rfl (fun _ ⟨hB1,hB2,_⟩=>(hB1.lies aY aH rfl rfl)) ?_;simp only[ev,zD,zE,zF,zG];refine eQ rfl (fun _ ⟨hB1,hB2,_⟩=>(hB2.lies aY aH rfl rfl)) ?_;simp only[ev,zD,zE,zF,zG];refine eQ rfl (fun _ ⟨hB1,hB2,_⟩=>(hB1.lies1 j4 rfl)) ?_;simp only[ev,zD,zE,zF,zG];refine eQ rfl (fun _ ⟨hB1,hB2,_⟩=>(hB2.lies1 j4 rfl)) ?_;simp only[ev,zD,zE,zF,zG];refine bQ (En Tryz.underlying4 rfl rfl) ?_;simp only[ev,zD,zE,zF,zG];refine dZ ?_;refine bO rfl rfl (qG _ (iL ha)) ?_;rintro v w5 hE ⟨A1,c1,rfl,hN1⟩;replace hB1:=hB1.ext hE; replace hB2:=hB2.ext hE; replace hB3:=hB3.ext hE; replace hX:=hX.trans hE;clear hE;rw [iK] at hN1 ⊢;simp only[ev,zD,zE,zF,zG];refine aC ?_;refine ⟨⟨hB1,hB2,trivial⟩,?_⟩;refine dZ ?_;refine bO rfl rfl (qG _ (iL hb)) ?_;rintro v w6 hE ⟨A2,c2,rfl,hN2⟩;replace hB1:=hB1.ext hE; replace hB2:=hB2.ext hE; replace hB3:=hB3.ext hE; (try replace hN1:=hN1.ext hE); replace hX:=hX.trans hE;clear hE;rw [iK] at hN2 ⊢;simp only[ev,zD,zE,zF,zG];refine aC ?_;refine ⟨⟨hB1,hB2,trivial⟩,?_⟩;refine dZ ?_;refine bO rfl rfl (Ko _ hN1 hN2 (Nat.le_trans hla (by decide)) (Nat.le_trans hlb (by decide))) ?_;rintro v w7 hE ⟨A3,c3,rfl,hN3⟩;replace hB1:=hB1.ext hE; replace hB2:=hB2.ext hE; replace hB3:=hB3.ext hE; (try replace hN1:=hN1.ext hE); (try replace hN2:=hN2.ext hE); replace hX:=hX.trans hE;clear hE;simp only[cF] at hN3 ⊢;rw [← Int.natAbs_mul] at hN3 ⊢;simp only[ev,zD,zE,zF,zG];refine aC ?_;refine ⟨⟨hB1,hB2,trivial⟩,?_⟩;refine dZ ?_;refine bO rfl rfl (m9 _ hN3 (Nat.le_trans hls (by decide))) ?_;rintro v w8 hE rfl;replace hB1:=hB1.ext hE; replace hB2:=hB2.ext hE; replace hB3:=hB3.ext hE; (try replace hN1:=hN1.ext hE); (try replace hN2:=hN2.ext hE); (try replace hN3:=hN3.ext hE); replace hX:=hX.trans hE;clear hE;simp only[cF];simp only[ev,zD,zE,zF,zG];refine aC ?_;refine ⟨⟨hB1,hB2,trivial⟩,?_⟩;refine dZ ?_;refine bZ rfl (by simp only[ev,zD,zE]; rfl) (by exact aH) hB3 (by simp) (by simp [Value.oneCell']) ?_;clear hB3; intro w9 hC hB3;replace hB1:=hB1.chg hC (by first | exact hN1_3 | exact Ne.symm hN3_1); replace hB2:=hB2.chg hC (by first | exact hN2_3 | exact Ne.symm hN3_2); (try replace hN1:=hN1.chg hC (by first | assumption | rfl)); (try replace hN2:=hN2.chg hC (by first | assumption | rfl)); (try replace hN3:=hN3.chg hC (by first | assumption | rfl)); replace hX:=hX.chg hC hG3;clear hC;simp only[a8,zH,zI,zJ,zK,zL,zM,zN,zO,zP,Nat.reduceAdd] at hB3;refine aC ?_;refine ⟨⟨hB1,hB2,trivial⟩,?_⟩;refine cZ ?_;rw [Int.natAbs_mul,Nx] at hB3;refine hK2 _ _ ?_;refine wp_ret ?_;try simp only[Exit.inBlock,Exit.then]
 refine bT rfl ⟨_,rfl,(hB3.lies aY aH rfl rfl)⟩ ?_;try simp only[zD,zE]
 exact ⟨_,rfl,hX,rfl⟩
theorem wM {a b : Int} (ha : Bd 900000 a) (hb : Bd 900000 b) : eI Tryz.prog 37 [W a,W b] (.int .i64 (dL (a - b))):=by
 intro w;refine ⟨Ud,?_⟩;have hX:=cD.refl w
 go_enter Tryz.func37,Tryz.ntmps37
 refine aF (fun K1 hK1=>wp_region_lit ?_);refine jA (by simp only[ev,zD,zE]; rfl) ?_;intro w1 g1 hE hg1 hB1;have hG1:=Nat.le_trans hX.size hg1;replace hX:=hX.trans hE;clear hE hg1;simp only[ev,zD,zE,zF,zG];refine jA (by simp only[ev,zD,zE]; rfl) ?_;intro w2 g2 hE hg2 hB2;have hG2:=Nat.le_trans hX.size hg2; have hN2_1 : g2 ≠ g1:=Nat.ne_of_gt (Nat.lt_of_lt_of_le hB1.lt hg2);replace hB1:=hB1.ext hE; replace hX:=hX.trans hE;clear hE hg2;simp only[ev,zD,zE,zF,zG];refine aA (aD) ?_;simp only[ev,zD,zE,zF,zG];refine aC ?_;refine hK1 _ _ ?_;refine aF (fun K2 hK2=>wp_region_lit ?_);refine aI rfl (hB1.lies aY aH rfl rfl) ?_;simp only[ev,zD,zE,zF,zG];refine aI rfl (hB2.lies aY aH rfl rfl) ?_;simp only[ev,zD,zE,zF,zG];refine iQ rfl rfl (nN (ha.mono (by decide)) (hb.mono (by decide))) ?_;intro w3 hE;replace hB1:=hB1.ext hE; replace hB2:=hB2.ext hE; replace hX:=hX.trans hE;clear hE;simp only[ev,zD,zE,zF,zG];refine iQ rfl rfl (i5 ((Bd.sub ha hb).mono (by decide))) ?_;intro w4 hE;replace hB1:=hB1.ext hE; replace hB2:=hB2.ext hE; replace hX:=hX.trans hE;clear hE;simp only[ev,zD,zE,zF,zG];refine aA (aD) ?_;simp only[ev,zD,zE,zF,zG];refine aC ?_;refine hK2 _ _ ?_;refine wp_ret ?_;try simp only[Exit.inBlock,Exit.then]
 refine bT rfl rfl ?_;try simp only[zD,zE]
 exact ⟨_,rfl,hX,rfl⟩
theorem i6 {n : Int} (h : kW n) : eI Tryz.prog 40 [.int .i64 n] (W n):=by
 intro w;refine ⟨Ug,?_⟩;have hX:=cD.refl w;have hna:=h.natAbs
 go_enter Tryz.func40,Tryz.ntmps40
 refine aF (fun K1 hK1=>wp_region_lit ?_);refine fR cV rfl ?_;intro w1 g1 hE hg1 hB1;have hG1:=Nat.le_trans hX.size hg1;replace hX:=hX.trans hE;clear hE hg1;simp only[ev,zD,zE,zF,zG];refine aC ?_;refine hK1 _ _ ?_;refine aF (fun K2 hK2=>?_);rcases (show n < 0 ∨ 0 ≤ n by omega) with h0 | h0
 ·
  refine wp_region_lit (aA (aB) (aA (dH Tryz.underlying101 Tryz.underlying3 rfl (Ga h h0)) (aA (aD) ?_)));simp only[ev,zD,zE,zF,zG];refine aC ?_;refine hK2 _ _ ?_;refine aF (fun K3 hK3=>aF (fun K4 hK4=>wp_region_lit (aA (aB) (aA (bR rfl rfl (by omega)) ?_))));simp only[ev,zD,zE,zF,zG];refine aC ?_;refine hK4 _ _ ?_;refine bS rfl (wp_region_lit (aA (aB) (aA (mN rfl (yZ hna (by omega))) (aA (aD) ?_))));simp only[ev,zD,zE,zF,zG];refine aC ?_;refine hK3 _ _ ?_;refine aF (fun K5 hK5=>wp_region_lit (aA (aB) (aA (nC rfl rfl (vB (by omega))) (aA (aB) ?_))));simp only[ev,zD,zE,zF,zG];refine aA (i9 rfl rfl (by omega) Bp) ?_;simp only[ev,zD,zE,zF,zG];refine l3 Tryz.underlying97 (z:=.int .u64 0) (by kernel_rfl) rfl (by simp only[ev,zD,zE,zF,zG]; rfl) (by rfl) (by simp only[ev,zD,zE,zF,zG]; rfl) (by rfl) ?_;intro w2 g2 hE hg2 hB2;have hG2:=Nat.le_trans hX.size hg2; have hN2_1 : g2 ≠ g1:=Nat.ne_of_gt (Nat.lt_of_lt_of_le hB1.lt hg2);replace hB1:=hB1.ext hE; replace hX:=hX.trans hE;clear hE hg2;simp only[ev,zD,zE,zF,zG];refine aA (aB) (aA (bR rfl rfl (by omega)) ?_);simp only[ev,zD,zE,zF,zG];refine bO rfl rfl (m9 _ (hB2.nat (os:=[n.natAbs % 4294967296,n.natAbs / 4294967296]) (wG (by omega)) rfl (by omega)) (by simp)) ?_;rintro v w3 hE rfl;replace hB1:=hB1.ext hE; replace hB2:=hB2.ext hE; replace hX:=hX.trans hE;clear hE;simp only[ev,zD,zE,zF,zG];refine bZ rfl (by simp only[ev,zD,zE]; rfl) (by exact aH) hB1 (by simp) (by simp [Value.oneCell']) ?_;clear hB1; intro w4 hC hB1;replace hB2:=hB2.chg hC (by first | exact hN2_1 | exact Ne.symm hN1_2); replace hX:=hX.chg hC hG1;clear hC;simp only[a8,zH,zI,zJ,zK,zL,zM,zN,zO,zP,Nat.reduceAdd] at hB1;refine aC ?_;refine hK5 _ _ ?_;refine wp_ret ?_;try simp only[Exit.inBlock,Exit.then]
  refine bT rfl ⟨_,rfl,(hB1.lies aY aH rfl rfl)⟩ ?_;try simp only[zD,zE]
  exact ⟨_,rfl,hX,by rw [y7,show true = b8 n from (decide_eq_true h0).symm,sE]; rfl⟩
 ·
  refine wp_region_lit (aA (aB) (aA (dH Tryz.underlying101 Tryz.underlying3 rfl (Ki h h0)) (aA (aD) ?_)));simp only[ev,zD,zE,zF,zG];refine aC ?_;refine hK2 _ _ ?_;refine aF (fun K6 hK6=>aF (fun K7 hK7=>wp_region_lit (aA (aB) (aA (eW rfl rfl (by omega)) ?_))));simp only[ev,zD,zE,zF,zG];refine aC ?_;refine hK7 _ _ ?_;refine eM rfl (wp_skip ?_);refine hK6 _ _ ?_;refine aF (fun K8 hK8=>wp_region_lit (aA (aB) (aA (nC rfl rfl (vB (by omega))) (aA (aB) ?_))));simp only[ev,zD,zE,zF,zG];refine aA (i9 rfl rfl (by omega) Bp) ?_;simp only[ev,zD,zE,zF,zG];refine l3 Tryz.underlying97 (z:=.int .u64 0) (by kernel_rfl) rfl (by simp only[ev,zD,zE,zF,zG]; rfl) (by rfl) (by simp only[ev,zD,zE,zF,zG]; rfl) (by rfl) ?_;intro w2 g2 hE hg2 hB2;have hG2:=Nat.le_trans hX.size hg2; have hN2_1 : g2 ≠ g1:=Nat.ne_of_gt (Nat.lt_of_lt_of_le hB1.lt hg2);replace hB1:=hB1.ext hE; replace hX:=hX.trans hE;clear hE hg2;simp only[ev,zD,zE,zF,zG];refine aA (aB) (aA (eW rfl rfl (by omega)) ?_);simp only[ev,zD,zE,zF,zG];refine bO rfl rfl (m9 _ (hB2.nat (os:=[n.natAbs % 4294967296,n.natAbs / 4294967296]) (wG (by omega)) rfl (by omega)) (by simp)) ?_;rintro v w3 hE rfl;replace hB1:=hB1.ext hE; replace hB2:=hB2.ext hE; replace hX:=hX.trans hE;clear hE;simp only[ev,zD,zE,zF,zG];refine bZ rfl (by simp only[ev,zD,zE]; rfl) (by exact aH) hB1 (by simp) (by simp [Value.oneCell']) ?_;clear hB1; intro w4 hC hB1;replace hB2:=hB2.chg hC (by first | exact hN2_1 | exact Ne.symm hN1_2); replace hX:=hX.chg hC hG1;clear hC;simp only[a8,zH,zI,zJ,zK,zL,zM,zN,zO,zP,Nat.reduceAdd] at hB1;refine aC ?_;refine hK8 _ _ ?_;refine wp_ret ?_;try simp only[Exit.inBlock,Exit.then]
  refine bT rfl ⟨_,rfl,(hB1.lies aY aH rfl rfl)⟩ ?_;try simp only[zD,zE]
  exact ⟨_,rfl,hX,by rw [y7,show false = b8 n from (decide_eq_false (by omega)).symm,sE]; rfl⟩
theorem Qf {a b : Int} (ha : Bd 1000000 a) (hb : Bd 1000000 b) (h0 : b ≠ 0) : eI Tryz.prog 132 [W a,W b] (.tuple #[W (a.tdiv b),W (a.tmod b),.bool true]):=by
 intro w;refine ⟨Re,?_⟩;have hX:=cD.refl w;have hla:=mA ha;have hlb:=mA hb;have hq:=mA (show Bd 1000000 (a.tdiv b) from ha.of_le (by rw [Int.natAbs_tdiv]; exact Nat.div_le_self ..));have hr:=mA (show Bd 1000000 (a.tmod b) from ha.of_le (by rw [Int.natAbs_tmod]; exact Nat.mod_le ..));rw [Int.natAbs_tdiv] at hq;rw [Int.natAbs_tmod] at hr
 go_enter Tryz.func132,Tryz.ntmps132
 refine aF (fun K1 hK1=>wp_region_lit ?_);refine jA (by simp only[ev,zD,zE]; rfl) ?_;intro w1 g1 hE hg1 hB1;have hG1:=Nat.le_trans hX.size hg1;replace hX:=hX.trans hE;clear hE hg1;simp only[ev,zD,zE,zF,zG];refine jA (by simp only[ev,zD,zE]; rfl) ?_;intro w2 g2 hE hg2 hB2;have hG2:=Nat.le_trans hX.size hg2; have hN2_1 : g2 ≠ g1:=Nat.ne_of_gt (Nat.lt_of_lt_of_le hB1.lt hg2);replace hB1:=hB1.ext hE; replace hX:=hX.trans hE;clear hE hg2;simp only[ev,zD,zE,zF,zG];refine fR cV rfl ?_;intro w3 g3 hE hg3 hB3;have hG3:=Nat.le_trans hX.size hg3; have hN3_1 : g3 ≠ g1:=Nat.ne_of_gt (Nat.lt_of_lt_of_le hB1.lt hg3); have hN3_2 : g3 ≠ g2:=Nat.ne_of_gt (Nat.lt_of_lt_of_le hB2.lt hg3);replace hB1:=hB1.ext hE; replace hB2:=hB2.ext hE; replace hX:=hX.trans hE;clear hE hg3;simp only[ev,zD,zE,zF,zG];refine fR cV rfl ?_;intro w4 g4 hE hg4 hB4;have hG4:=Nat.le_trans hX.size hg4; have hN4_1 : g4 ≠ g1:=Nat.ne_of_gt (Nat.lt_of_lt_of_le hB1.lt hg4); have hN4_2 : g4 ≠ g2:=Nat.ne_of_gt (Nat.lt_of_lt_of_le hB2.lt hg4); have hN4_3 : g4 ≠ g3:=Nat.ne_of_gt (Nat.lt_of_lt_of_le hB3.lt hg4);replace hB1:=hB1.ext hE; replace hB2:=hB2.ext hE; replace hB3:=hB3.ext hE; replace hX:=hX.trans hE;clear hE hg4;simp only[ev,zD,zE,zF,zG];refine aA (aD) ?_;simp only[ev,zD,zE,zF,zG];refine aC ?_;refine hK1 _ _ ?_;refine aF (fun K2 hK2=>wp_region_lit ?_);refine aI rfl (hB2.lies aY aH rfl rfl) ?_;simp only[ev,zD,zE,zF,zG];refine bO rfl rfl (qG _ (iL hb)) ?_;rintro v w5 hE ⟨A1,c1,rfl,hN1⟩;replace hB1:=hB1.ext hE; replace hB2:=hB2.ext hE; replace hB3:=hB3.ext hE; replace hB4:=hB4.ext hE; replace hX:=hX.trans hE;clear hE;rw [iK] at hN1 ⊢;simp only[ev,zD,zE,zF,zG];refine aA (aD) ?_;simp only[ev,zD,zE,zF,zG];refine aC ?_;refine hK2 _ _ ?_;refine aF (fun K3 hK3=>aF (fun K4 hK4=>wp_region_lit (aA (aB) (aA (bM rfl Tryz.underlying97 rfl) (aA (nX rfl rfl (fun e=>h0 (Bz.1 e))) ?_)))));simp only[ev,zD,zE,zF,zG];refine aC ?_;refine hK4 _ _ ?_;refine eM rfl (wp_skip ?_);refine hK3 _ _ ?_;refine aF (fun K5 hK5=>wp_region_lit ?_);refine aI rfl (hB1.lies aY aH rfl rfl) ?_;simp only[ev,zD,zE,zF,zG];refine bO rfl rfl (qG _ (iL ha)) ?_;rintro v w6 hE ⟨A2,c2,rfl,hN2⟩;replace hB1:=hB1.ext hE; replace hB2:=hB2.ext hE; replace hB3:=hB3.ext hE; replace hB4:=hB4.ext hE; (try replace hN1:=hN1.ext hE); replace hX:=hX.trans hE;clear hE;rw [iK] at hN2 ⊢;simp only[ev,zD,zE,zF,zG];refine aA (aB) ?_;simp only[ev,zD,zE,zF,zG];refine bO rfl rfl (Qe _ hN2 hN1 (fX _) (fX _) (by rw [cF]; omega) (Nat.le_trans hla (by decide)) (Nat.le_trans hlb (by decide))) ?_;rintro v w7 hE ⟨_,_,rfl,⟨A3,c3,rfl,hN3⟩,⟨A4,c4,rfl,hN4⟩⟩;replace hB1:=hB1.ext hE; replace hB2:=hB2.ext hE; replace hB3:=hB3.ext hE; replace hB4:=hB4.ext hE; (try replace hN1:=hN1.ext hE); (try replace hN2:=hN2.ext hE); replace hX:=hX.trans hE;clear hE;simp only[cF] at hN3 hN4 ⊢;simp only[ev,zD,zE,zF,zG];refine aA (aB) (aA (bJ rfl rfl) (aA (bJ rfl rfl) ?_));simp only[ev,zD,zE,zF,zG];refine aA (aD) (aA (aD) ?_);simp only[ev,zD,zE,zF,zG];refine aC ?_;refine hK5 _ _ ?_;refine aF (fun K6 hK6=>?_);refine eG [(0,true),(1,true),(3,true),(7,true),(8,true),(2,true),(4,true),(5,true),(9,true),(6,false),(10,false),(11,false),(12,false),(13,true)] aU (by kernel_rfl) (dN (fun _ _ _ _ _ h=>h)) (ol:=?_) ?hol ?_
 case hol=>simp only[zQ,zR,zS,zT,zU,zV]; try rfl
 intro w8 hE;replace hB1:=hB1.ext hE; replace hB2:=hB2.ext hE; replace hB3:=hB3.ext hE; replace hB4:=hB4.ext hE; (try replace hN1:=hN1.ext hE); (try replace hN2:=hN2.ext hE); (try replace hN3:=hN3.ext hE); (try replace hN4:=hN4.ext hE); replace hX:=hX.trans hE;clear hE;refine ⟨_,(iC.blk hB1 (iC.blk hB2 iC.nil)),?_⟩;refine bQ (aB) (bQ (aG (c:=0) Tryz.underlying35 rfl gA rfl rfl) (bQ (aG (c:=0) Tryz.underlying35 rfl gA rfl rfl) ?_));simp only[ev,zD,zE,zF,zG];refine bQ (aB) (bQ (aG (c:=0) Tryz.underlying35 rfl gA rfl rfl) ?_);simp only[ev,zD,zE,zF,zG];refine eQ rfl (fun _ ⟨hB1,hB2,_⟩=>(hB1.lies1 j4 rfl)) ?_;simp only[ev,zD,zE,zF,zG];refine eQ rfl (fun _ ⟨hB1,hB2,_⟩=>(hB2.lies1 j4 rfl)) ?_;simp only[ev,zD,zE,zF,zG];refine bQ (En Tryz.underlying4 rfl rfl) ?_;simp only[ev,zD,zE,zF,zG];refine eQ rfl (fun _ ⟨hB1,hB2,_⟩=>(hB1.lies1 j4 rfl)) ?_;simp only[ev,zD,zE,zF,zG];refine dZ ?_;refine bO rfl rfl (m9 _ hN3 (Nat.le_trans hq (by decide))) ?_;rintro v w9 hE rfl;replace hB1:=hB1.ext hE; replace hB2:=hB2.ext hE; replace hB3:=hB3.ext hE; replace hB4:=hB4.ext hE; (try replace hN1:=hN1.ext hE); (try replace hN2:=hN2.ext hE); (try replace hN3:=hN3.ext hE); (try replace hN4:=hN4.ext hE); replace hX:=hX.trans hE;clear hE;simp only[cF,Ny];simp only[ev,zD,zE,zF,zG];refine aC ?_;refine ⟨⟨hB1,hB2,trivial⟩,?_⟩;refine dZ ?_;refine bO rfl rfl (m9 _ hN4 (Nat.le_trans hr (by decide))) ?_;rintro v w10 hE rfl;replace hB1:=hB1.ext hE; replace hB2:=hB2.ext hE; replace hB3:=hB3.ext hE; replace hB4:=hB4.ext hE; (try replace hN1:=hN1.ext hE); (try replace hN2:=hN2.ext hE); (try replace hN3:=hN3.ext hE); (try replace hN4:=hN4.ext hE); replace hX:=hX.trans hE;clear hE;simp only[cF,Nz];simp only[ev,zD,zE,zF,zG];refine aC ?_;refine ⟨⟨hB1,hB2,trivial⟩,?_⟩;refine dZ ?_;refine bZ rfl (by simp only[ev,zD,zE]; rfl) (by exact aH) hB3 (by simp) (by simp [Value.oneCell']) ?_;clear hB3; intro w11 hC hB3;replace hB1:=hB1.chg hC (by first | exact hN1_3 | exact Ne.symm hN3_1); replace hB2:=hB2.chg hC (by first | exact hN2_3 | exact Ne.symm hN3_2); replace hB4:=hB4.chg hC (by first | exact hN4_3 | exact Ne.symm hN3_4); (try replace hN1:=hN1.chg hC (by first | assumption | rfl)); (try replace hN2:=hN2.chg hC (by first | assumption | rfl)); (try replace hN3:=hN3.chg hC (by first | assumption | rfl)); (try replace hN4:=hN4.chg hC (by first | assumption | rfl)); replace hX:=hX.chg hC hG3;clear hC;simp only[a8,zH,zI,zJ,zK,zL,zM,zN,zO,zP,Nat.reduceAdd] at hB3;refine aC ?_;refine ⟨⟨hB1,hB2,trivial⟩,?_⟩;refine dZ ?_;refine bZ rfl (by simp only[ev,zD,zE]; rfl) (by exact aH) hB4 (by simp) (by simp [Value.oneCell']) ?_;clear hB4; intro w12 hC hB4;replace hB1:=hB1.chg hC (by first | exact hN1_4 | exact Ne.symm hN4_1); replace hB2:=hB2.chg hC (by first | exact hN2_4 | exact Ne.symm hN4_2); replace hB3:=hB3.chg hC (by first | exact hN3_4 | exact Ne.symm hN4_3); (try replace hN1:=hN1.chg hC (by first | assumption | rfl)); (try replace hN2:=hN2.chg hC (by first | assumption | rfl)); (try replace hN3:=hN3.chg hC (by first | assumption | rfl)); (try replace hN4:=hN4.chg hC (by first | assumption | rfl)); replace hX:=hX.chg hC hG4;clear hC;simp only[a8,zH,zI,zJ,zK,zL,zM,zN,zO,zP,Nat.reduceAdd] at hB4;refine aC ?_;refine ⟨⟨hB1,hB2,trivial⟩,?_⟩;refine bQ (aD) ?_;simp only[ev,zD,zE,zF,zG];refine cZ ?_;refine hK6 _ _ ?_;refine wp_ret ?_;try simp only[Exit.inBlock,Exit.then]
 refine uU rfl ⟨_,rfl,(hB3.lies aY aH rfl rfl)⟩ ⟨_,rfl,(hB4.lies aY aH rfl rfl)⟩ rfl ?_;try simp only[zD,zE]
 exact ⟨_,rfl,hX,rfl⟩
theorem Vm {a b : Int} (ha : Bd 1000000 a) (hb : Bd 1000000 b) : eI Tryz.prog 131 [W a,W b] (W (Int.gcd a b : Int)):=by
 intro w;refine ⟨Rd,?_⟩;have hX:=cD.refl w;obtain ⟨K,hK⟩ : ∃ K,K = 2 ^ 1000000:=⟨_,rfl⟩
 have ha' : a.natAbs < K:=by rw [hK]; exact ha
 have hb' : b.natAbs < K:=by rw [hK]; exact hb
 have hlen : ∀ V : Nat,V < K → (digs 4294967296 V).length ≤ 1000000:=fun V h=>l9 (by rw [← hK]; exact h);clear hK
 go_enter Tryz.func131,Tryz.ntmps131
 refine aF (fun K1 hK1=>wp_region_lit ?_);refine jA (by simp only[ev,zD,zE]; rfl) ?_;intro w1 g1 hE hg1 hB1;have hG1:=Nat.le_trans hX.size hg1;replace hX:=hX.trans hE;clear hE hg1;simp only[ev,zD,zE,zF,zG];refine jA (by simp only[ev,zD,zE]; rfl) ?_;intro w2 g2 hE hg2 hB2;have hG2:=Nat.le_trans hX.size hg2; have hN2_1 : g2 ≠ g1:=Nat.ne_of_gt (Nat.lt_of_lt_of_le hB1.lt hg2);replace hB1:=hB1.ext hE; replace hX:=hX.trans hE;clear hE hg2;simp only[ev,zD,zE,zF,zG];refine fR cV rfl ?_;intro w3 g3 hE hg3 hB3;have hG3:=Nat.le_trans hX.size hg3; have hN3_1 : g3 ≠ g1:=Nat.ne_of_gt (Nat.lt_of_lt_of_le hB1.lt hg3); have hN3_2 : g3 ≠ g2:=Nat.ne_of_gt (Nat.lt_of_lt_of_le hB2.lt hg3);replace hB1:=hB1.ext hE; replace hB2:=hB2.ext hE; replace hX:=hX.trans hE;clear hE hg3;simp only[ev,zD,zE,zF,zG];refine aC ?_;refine hK1 _ _ ?_;refine aF (fun K2 hK2=>?_);refine eG [(0,true),(2,true),(1,false),(3,false),(4,true),(5,true)] aU (by kernel_rfl) (dN (fun _ _ _ _ _ h=>h)) (ol:=?_) ?hol ?_
 case hol=>simp only[zQ,zR,zS,zT,zU,zV]; try rfl
 intro w4 hE;replace hB1:=hB1.ext hE; replace hB2:=hB2.ext hE; replace hB3:=hB3.ext hE; replace hX:=hX.trans hE;clear hE;refine ⟨_,(iC.blk hB1 (iC.blk hB2 iC.nil)),?_⟩;refine eQ rfl (fun _ ⟨hB1,hB2,_⟩=>(hB1.lies aY aH rfl rfl)) ?_;simp only[ev,zD,zE,zF,zG];refine eQ rfl (fun _ ⟨hB1,hB2,_⟩=>(hB2.lies aY aH rfl rfl)) ?_;simp only[ev,zD,zE,zF,zG];refine dZ ?_;refine bO rfl rfl (qG _ (iL ha)) ?_;rintro v w5 hE ⟨A1,c1,rfl,hN1⟩;replace hB1:=hB1.ext hE; replace hB2:=hB2.ext hE; replace hB3:=hB3.ext hE; replace hX:=hX.trans hE;clear hE;rw [iK] at hN1 ⊢;simp only[ev,zD,zE,zF,zG];refine aC ?_;refine ⟨⟨hB1,hB2,trivial⟩,?_⟩;refine dZ ?_;refine bO rfl rfl (qG _ (iL hb)) ?_;rintro v w6 hE ⟨A2,c2,rfl,hN2⟩;replace hB1:=hB1.ext hE; replace hB2:=hB2.ext hE; replace hB3:=hB3.ext hE; (try replace hN1:=hN1.ext hE); replace hX:=hX.trans hE;clear hE;rw [iK] at hN2 ⊢;simp only[ev,zD,zE,zF,zG];refine aC ?_;refine ⟨⟨hB1,hB2,trivial⟩,?_⟩;refine bQ (aD) (bQ (aD) ?_);simp only[ev,zD,zE,zF,zG];refine cZ ?_;refine hK2 _ _ ?_;refine aF (fun K3 hK3=>wp_block ?_);refine cX [5,6] [7,8,13,14,15,16,17,18,19,20,21,22,23] (fun n vs wl=>∃ (X Y : Nat) (A1 A2 : Option Addr) (c1 c2 : Nat),vs = [.slice A1 (digs 4294967296 X).length c1,.slice A2 (digs 4294967296 Y).length c2] ∧ (cD w wl) ∧ (eU wl g3 [.bool false,.string ⟨#[]⟩] 35) ∧ (cG wl A1 (digs 4294967296 X).length c1 (digs 4294967296 X)) ∧ (cG wl A2 (digs 4294967296 Y).length c2 (digs 4294967296 Y)) ∧ (Nat.gcd X Y = Int.gcd a b) ∧ (X < K) ∧ (Y < K) ∧ (n = Y)) ?_ ?_
 ·
  apply Exists.intro;simp only[zQ,zR,zD,zE];exact ⟨a.natAbs,b.natAbs,A1,A2,c1,c2,rfl,hX,hB3,hN1,hN2,rfl,ha',hb',rfl⟩
 ·
  intro n vs wr hI u;obtain ⟨X,Y,A1,A2,c1,c2,rfl,hX,hB3,hN1,hN2,hg,hXK,hYK,hn⟩:=hI;simp only[aK,aQ,aM,aP,zF,zG];refine aF (fun K4 hK4=>aF (fun K5 hK5=>wp_region_lit (aA (aB) (aA (bM rfl Tryz.underlying97 rfl) (aA (gJ rfl rfl) ?_)))));simp only[ev,zD,zE,zF,zG];refine aC ?_;refine hK5 _ _ ?_;refine cK rfl (fun hc1=>?_) (fun hc1=>?_)
  ·
   have hY0 : 0 < Y:=by
    rcases Nat.eq_zero_or_pos Y with h | h
    · subst h; exact absurd hc1 (by decide)
    · exact h
   refine wp_skip ?_;refine hK4 _ _ ?_;refine wp_block (aF (fun K6 hK6=>wp_region_lit (aA (aB) (aA (aB) ?_))));simp only[ev,zD,zE,zF,zG];refine bO rfl rfl (Qe _ hN1 hN2 (fX _) (fX _) (by rw [cF]; exact hY0) (Nat.le_trans (hlen _ hXK) (by decide)) (Nat.le_trans (hlen _ hYK) (by decide))) ?_;rintro v w7 hE ⟨_,_,rfl,⟨A3,c3,rfl,hN3⟩,⟨A4,c4,rfl,hN4⟩⟩;replace hB3:=hB3.ext hE; (try replace hN1:=hN1.ext hE); (try replace hN2:=hN2.ext hE); replace hX:=hX.trans hE;clear hE;simp only[cF] at hN3 hN4 ⊢;simp only[ev,zD,zE,zF,zG];refine aA (aB) (aA (bJ rfl rfl) (aA (bJ rfl rfl) ?_));simp only[ev,zD,zE,zF,zG];refine aA (aD) (aA (aD) ?_);simp only[ev,zD,zE,zF,zG];refine aC ?_;refine hK6 _ _ ?_;refine wp_region_lit (aA (aB) (aA (aB) (aA (aD) ?_)));simp only[ev,zD,zE,zF,zG];refine aA (aD) ?_;simp only[ev,zD,zE,zF,zG];refine aC ?_;simp only[Exit.inBlock,Exit.then];refine ⟨X % Y,_,?_,rfl,?_,?_⟩
   · rw [hn]; exact Nat.mod_lt _ hY0
   · simp only[zQ,zR,zD,zE,aK,aQ,aM,aP,zF,zG]
   ·
    simp only[zQ,zR,zD,zE];exact ⟨Y,X % Y,A2,A4,c2,c4,rfl,hX,hB3,hN2,hN4,Kj.trans hg,hYK,Nat.lt_of_le_of_lt (Nat.mod_le _ _) hXK,rfl⟩
  ·
   obtain rfl : Y = 0:=(mR (B:=4294967296) (by omega)).1 (List.eq_nil_of_length_eq_zero (by omega));rw [Nat.gcd_zero_right] at hg;subst hg;refine wp_exit ?_;refine hK3 _ _ ?_;refine aF (fun K7 hK7=>wp_region_lit (aA (aB) ?_));simp only[ev,zD,zE,zF,zG];refine bO rfl rfl (m9 _ hN1 (Nat.le_trans (hlen _ hXK) (by decide))) ?_;rintro v w7 hE rfl;replace hB3:=hB3.ext hE; (try replace hN1:=hN1.ext hE); (try replace hN2:=hN2.ext hE); replace hX:=hX.trans hE;clear hE;simp only[cF];simp only[ev,zD,zE,zF,zG];refine bZ rfl (by simp only[ev,zD,zE]; rfl) (by exact aH) hB3 (by simp) (by simp [Value.oneCell']) ?_;clear hB3; intro w8 hC hB3
   (try replace hN1:=hN1.chg hC (by first | assumption | rfl)); (try replace hN2:=hN2.chg hC (by first | assumption | rfl)); replace hX:=hX.chg hC hG3
   clear hC;simp only[a8,zH,zI,zJ,zK,zL,zM,zN,zO,zP,Nat.reduceAdd] at hB3;refine aC ?_;refine hK7 _ _ ?_;refine wp_ret ?_;try simp only[Exit.inBlock,Exit.then]
   refine bT rfl ⟨_,rfl,(hB3.lies aY aH rfl rfl)⟩ ?_;try simp only[zD,zE]
   exact ⟨_,rfl,hX,by rw [kA]; rfl⟩
end Go.Proofs.YtimjandkmfcmiaaGreatDoor
namespace Go.Proofs.YtimjandkmfcmiaaGreatDoor
open Go.RowKit Go.Lith
set_option maxRecDepth 100000
attribute [local irreducible] wpList wpQuiet dV Code.wp
theorem Sb {n d : Int} (hn : Bd 400000 n) (hd : Bd 400000 d) (h0 : d ≠ 0) : eI Tryz.prog 103 [W n,W d] (.tuple #[Q (Rat.divInt n d),.bool true]):=by
 intro w;refine ⟨Q1,?_⟩;have hX:=cD.refl w;obtain ⟨e1,hg0⟩:=Di (n:=n) h0;have e2:=Dj (n:=n) h0;have hn':=hn.mono (show 400000 ≤ 1000000 by decide);have hd':=hd.mono (show 400000 ≤ 1000000 by decide);have hs : kW (dL d):=by unfold kW dL; split <;> (try split) <;> omega
 have hs1 : Bd 1 (dL d):=by unfold Bd dL; split <;> (try split) <;> decide
 have hg : Bd 400001 ((Int.gcd n d : Int)):=by
  have h1 : Int.gcd n d ∣ d.natAbs:=Nat.gcd_dvd_right ..;have h2:=Nat.le_of_dvd (by omega) h1;exact (hd.of_le (by simpa using h2)).mono (by decide)
 have hG : Bd 1000000 ((Int.gcd n d : Int) * dL d):=(hg.mul hs1).mono (by decide)
 go_enter Tryz.func103,Tryz.ntmps103
 refine aF (fun K1 hK1=>wp_region_lit ?_);refine jA (by simp only[ev,zD,zE]; rfl) ?_;intro w1 g1 hE hg1 hB1;have hG1:=Nat.le_trans hX.size hg1;replace hX:=hX.trans hE;clear hE hg1;simp only[ev,zD,zE,zF,zG];refine jA (by simp only[ev,zD,zE]; rfl) ?_;intro w2 g2 hE hg2 hB2;have hG2:=Nat.le_trans hX.size hg2; have hN2_1 : g2 ≠ g1:=Nat.ne_of_gt (Nat.lt_of_lt_of_le hB1.lt hg2);replace hB1:=hB1.ext hE; replace hX:=hX.trans hE;clear hE hg2;simp only[ev,zD,zE,zF,zG];refine fR fJ rfl ?_;intro w3 g3 hE hg3 hB3;have hG3:=Nat.le_trans hX.size hg3; have hN3_1 : g3 ≠ g1:=Nat.ne_of_gt (Nat.lt_of_lt_of_le hB1.lt hg3); have hN3_2 : g3 ≠ g2:=Nat.ne_of_gt (Nat.lt_of_lt_of_le hB2.lt hg3);replace hB1:=hB1.ext hE; replace hB2:=hB2.ext hE; replace hX:=hX.trans hE;clear hE hg3;simp only[ev,zD,zE,zF,zG];refine aA (aD) ?_;simp only[ev,zD,zE,zF,zG];refine aC ?_;refine hK1 _ _ ?_;refine aF (fun K2 hK2=>wp_region_lit ?_);refine aI rfl (hB2.lies aY aH rfl rfl) ?_;simp only[ev,zD,zE,zF,zG];refine iQ rfl rfl (i5 hd') ?_;intro w4 hE;replace hB1:=hB1.ext hE; replace hB2:=hB2.ext hE; replace hB3:=hB3.ext hE; replace hX:=hX.trans hE;clear hE;simp only[ev,zD,zE,zF,zG];refine aA (aD) ?_;simp only[ev,zD,zE,zF,zG];refine aC ?_;refine hK2 _ _ ?_;refine aF (fun K3 hK3=>aF (fun K4 hK4=>wp_region_lit (aA (aB) (aA (nX rfl rfl (by unfold dL; split <;> (try split) <;> omega)) ?_))));simp only[ev,zD,zE,zF,zG];refine aC ?_;refine hK4 _ _ ?_;refine eM rfl (wp_skip ?_);refine hK3 _ _ ?_;refine aF (fun K5 hK5=>wp_region_lit ?_);refine aI rfl (hB1.lies aY aH rfl rfl) ?_;simp only[ev,zD,zE,zF,zG];refine aI rfl (hB2.lies aY aH rfl rfl) ?_;simp only[ev,zD,zE,zF,zG];refine iQ rfl rfl (Vm hn' hd') ?_;intro w5 hE;replace hB1:=hB1.ext hE; replace hB2:=hB2.ext hE; replace hB3:=hB3.ext hE; replace hX:=hX.trans hE;clear hE;simp only[ev,zD,zE,zF,zG];refine aA (aB) ?_;simp only[ev,zD,zE,zF,zG];refine iQ rfl rfl (i6 hs) ?_;intro w6 hE;replace hB1:=hB1.ext hE; replace hB2:=hB2.ext hE; replace hB3:=hB3.ext hE; replace hX:=hX.trans hE;clear hE;simp only[ev,zD,zE,zF,zG];refine iQ rfl rfl (gY (hg.mono (by decide)) (hs1.mono (by decide))) ?_;intro w7 hE;replace hB1:=hB1.ext hE; replace hB2:=hB2.ext hE; replace hB3:=hB3.ext hE; replace hX:=hX.trans hE;clear hE;simp only[ev,zD,zE,zF,zG];refine fR cV rfl ?_;intro w8 g4 hE hg4 hB4;have hG4:=Nat.le_trans hX.size hg4; have hN4_1 : g4 ≠ g1:=Nat.ne_of_gt (Nat.lt_of_lt_of_le hB1.lt hg4); have hN4_2 : g4 ≠ g2:=Nat.ne_of_gt (Nat.lt_of_lt_of_le hB2.lt hg4); have hN4_3 : g4 ≠ g3:=Nat.ne_of_gt (Nat.lt_of_lt_of_le hB3.lt hg4);replace hB1:=hB1.ext hE; replace hB2:=hB2.ext hE; replace hB3:=hB3.ext hE; replace hX:=hX.trans hE;clear hE hg4;simp only[ev,zD,zE,zF,zG];refine bZ rfl (by simp only[ev,zD,zE]; rfl) (by exact aH) hB4 (by simp) (by simp [Value.oneCell']) ?_;clear hB4; intro w9 hC hB4;replace hB1:=hB1.chg hC (by first | exact hN1_4 | exact Ne.symm hN4_1); replace hB2:=hB2.chg hC (by first | exact hN2_4 | exact Ne.symm hN4_2); replace hB3:=hB3.chg hC (by first | exact hN3_4 | exact Ne.symm hN4_3); replace hX:=hX.chg hC hG4;clear hC;simp only[a8,zH,zI,zJ,zK,zL,zM,zN,zO,zP,Nat.reduceAdd] at hB4;refine aC ?_;refine hK5 _ _ ?_;refine aF (fun K6 hK6=>wp_region_lit ?_);refine aI rfl (hB1.lies aY aH rfl rfl) ?_;simp only[ev,zD,zE,zF,zG];refine aI rfl (hB4.lies aY aH rfl rfl) ?_;simp only[ev,zD,zE,zF,zG];refine iQ rfl rfl (Qf hn' hG hg0) ?_;intro w10 hE;replace hB1:=hB1.ext hE; replace hB2:=hB2.ext hE; replace hB3:=hB3.ext hE; replace hB4:=hB4.ext hE; replace hX:=hX.trans hE;clear hE;simp only[ev,zD,zE,zF,zG];refine aA (aB) (aA (bJ rfl rfl) (aA (bJ rfl rfl) ?_));simp only[ev,zD,zE,zF,zG];refine aA (bJ rfl rfl) ?_;simp only[ev,zD,zE,zF,zG];refine bZ rfl (by simp only[ev,zD,zE]; rfl) (by exact aH) hB1 (by simp) (by simp [Value.oneCell']) ?_;clear hB1; intro w11 hC hB1;replace hB2:=hB2.chg hC (by first | exact hN2_1 | exact Ne.symm hN1_2); replace hB3:=hB3.chg hC (by first | exact hN3_1 | exact Ne.symm hN1_3); replace hB4:=hB4.chg hC (by first | exact hN4_1 | exact Ne.symm hN1_4); replace hX:=hX.chg hC hG1;clear hC;simp only[a8,zH,zI,zJ,zK,zL,zM,zN,zO,zP,Nat.reduceAdd] at hB1;refine aC ?_;refine hK6 _ _ ?_;refine aF (fun K7 hK7=>wp_region_lit ?_);refine aI rfl (hB2.lies aY aH rfl rfl) ?_;simp only[ev,zD,zE,zF,zG];refine aI rfl (hB4.lies aY aH rfl rfl) ?_;simp only[ev,zD,zE,zF,zG];refine iQ rfl rfl (Qf hd' hG hg0) ?_;intro w12 hE;replace hB2:=hB2.ext hE; replace hB3:=hB3.ext hE; replace hB4:=hB4.ext hE; replace hB1:=hB1.ext hE; replace hX:=hX.trans hE;clear hE;simp only[ev,zD,zE,zF,zG];refine aA (aB) (aA (bJ rfl rfl) (aA (bJ rfl rfl) ?_));simp only[ev,zD,zE,zF,zG];refine aA (bJ rfl rfl) ?_;simp only[ev,zD,zE,zF,zG];refine bZ rfl (by simp only[ev,zD,zE]; rfl) (by exact aH) hB2 (by simp) (by simp [Value.oneCell']) ?_;clear hB2; intro w13 hC hB2;replace hB3:=hB3.chg hC (by first | exact hN3_2 | exact Ne.symm hN2_3); replace hB4:=hB4.chg hC (by first | exact hN4_2 | exact Ne.symm hN2_4); replace hB1:=hB1.chg hC (by first | exact hN1_2 | exact Ne.symm hN2_1); replace hX:=hX.chg hC hG2;clear hC;simp only[a8,zH,zI,zJ,zK,zL,zM,zN,zO,zP,Nat.reduceAdd] at hB2;refine aC ?_;refine hK7 _ _ ?_;refine aF (fun K8 hK8=>wp_region_lit ?_);refine aI rfl (hB1.lies aY aH rfl rfl) ?_;simp only[ev,zD,zE,zF,zG];refine aI rfl (hB2.lies aY aH rfl rfl) ?_;simp only[ev,zD,zE,zF,zG];refine aA (o5 rfl rfl) ?_;simp only[ev,zD,zE,zF,zG];refine bZ rfl (by simp only[ev,zD,zE]; rfl) (by exact aS) hB3 (by simp) (by simp [Value.oneCell']) ?_;clear hB3; intro w14 hC hB3;replace hB4:=hB4.chg hC (by first | exact hN4_3 | exact Ne.symm hN3_4); replace hB1:=hB1.chg hC (by first | exact hN1_3 | exact Ne.symm hN3_1); replace hB2:=hB2.chg hC (by first | exact hN2_3 | exact Ne.symm hN3_2); replace hX:=hX.chg hC hG3;clear hC;simp only[a8,zH,zI,zJ,zK,zL,zM,zN,zO,zP,Nat.reduceAdd] at hB3;refine aA (aD) ?_;simp only[ev,zD,zE,zF,zG];refine aC ?_;refine hK8 _ _ ?_;refine wp_ret ?_;try simp only[Exit.inBlock,Exit.then]
 refine mZ rfl ⟨_,rfl,(hB3.lies bG aS rfl rfl)⟩ rfl ?_;try simp only[zD,zE]
 exact ⟨_,rfl,hX,by rw [e1,e2] at *; rfl⟩
theorem Gg {q : Rat} (hq : Bq 400000 q) : eI Tryz.prog 36 [Q q] (.tuple #[W q.num,W q.den]):=by
 intro w;refine ⟨Uc,?_⟩;have hX:=cD.refl w;have h0 : (0 : Int) < q.den:=by have:=q.den_pos; omega
 have hd:=hq.d.mono (show 400000 ≤ 1000000 by decide)
 go_enter Tryz.func36,Tryz.ntmps36
 refine aF (fun K1 hK1=>wp_region_lit ?_);refine jA (by simp only[ev,zD,zE]; rfl) ?_;intro w1 g1 hE hg1 hB1;have hG1:=Nat.le_trans hX.size hg1;replace hX:=hX.trans hE;clear hE hg1;simp only[ev,zD,zE,zF,zG];refine fR cV rfl ?_;intro w2 g2 hE hg2 hB2;have hG2:=Nat.le_trans hX.size hg2; have hN2_1 : g2 ≠ g1:=Nat.ne_of_gt (Nat.lt_of_lt_of_le hB1.lt hg2);replace hB1:=hB1.ext hE; replace hX:=hX.trans hE;clear hE hg2;simp only[ev,zD,zE,zF,zG];refine fR cV rfl ?_;intro w3 g3 hE hg3 hB3;have hG3:=Nat.le_trans hX.size hg3; have hN3_1 : g3 ≠ g1:=Nat.ne_of_gt (Nat.lt_of_lt_of_le hB1.lt hg3); have hN3_2 : g3 ≠ g2:=Nat.ne_of_gt (Nat.lt_of_lt_of_le hB2.lt hg3);replace hB1:=hB1.ext hE; replace hB2:=hB2.ext hE; replace hX:=hX.trans hE;clear hE hg3;simp only[ev,zD,zE,zF,zG];refine aC ?_;refine hK1 _ _ ?_;refine aF (fun K2 hK2=>aF (fun K3 hK3=>wp_region_lit (aA (aG (c:=1) Tryz.underlying37 rfl aH rfl rfl) ?_)));simp only[ev,zD,zE,zF,zG];refine aI rfl (hB1.lies aY aH rfl rfl) ?_;simp only[ev,zD,zE,zF,zG];refine iQ rfl rfl (i5 (a:=(q.den : Int)) hd) ?_;intro w4 hE;replace hB1:=hB1.ext hE; replace hB2:=hB2.ext hE; replace hB3:=hB3.ext hE; replace hX:=hX.trans hE;clear hE;simp only[ev,zD,zE,zF,zG];refine aA (l2 rfl rfl (by rw [lV h0]; decide)) ?_;simp only[ev,zD,zE,zF,zG];refine aC ?_;refine hK3 _ _ ?_;refine bS rfl (aF (fun K4 hK4=>?_));refine eG [(0,true),(2,true),(1,true),(3,true),(4,false),(5,false)] aU (by kernel_rfl) (dN (fun _ _ _ _ _ h=>h)) (ol:=?_) ?hol ?_
 case hol=>simp only[zQ,zR,zS,zT,zU,zV]; try rfl
 intro w5 hE;replace hB1:=hB1.ext hE; replace hB2:=hB2.ext hE; replace hB3:=hB3.ext hE; replace hX:=hX.trans hE;clear hE;refine ⟨_,(iC.blk hB1 iC.nil),?_⟩;refine bQ (aG (c:=1) Tryz.underlying37 rfl aH rfl rfl) (bQ (aG (c:=1) Tryz.underlying37 rfl aH rfl rfl) ?_);simp only[ev,zD,zE,zF,zG];refine eQ rfl (fun _ ⟨hB1,_⟩=>(hB1.lies aY aH rfl rfl)) ?_;simp only[ev,zD,zE,zF,zG];refine eQ rfl (fun _ ⟨hB1,_⟩=>(hB1.lies aY aH rfl rfl)) ?_;simp only[ev,zD,zE,zF,zG];refine dZ ?_;refine bZ rfl (by simp only[ev,zD,zE]; rfl) (by exact aH) hB2 (by simp) (by simp [Value.oneCell']) ?_;clear hB2; intro w6 hC hB2;replace hB1:=hB1.chg hC (by first | exact hN1_2 | exact Ne.symm hN2_1); replace hB3:=hB3.chg hC (by first | exact hN3_2 | exact Ne.symm hN2_3); replace hX:=hX.chg hC hG2;clear hC;simp only[a8,zH,zI,zJ,zK,zL,zM,zN,zO,zP,Nat.reduceAdd] at hB2;refine aC ?_;refine ⟨⟨hB1,trivial⟩,?_⟩;refine dZ ?_;refine bZ rfl (by simp only[ev,zD,zE]; rfl) (by exact aH) hB3 (by simp) (by simp [Value.oneCell']) ?_;clear hB3; intro w7 hC hB3;replace hB1:=hB1.chg hC (by first | exact hN1_3 | exact Ne.symm hN3_1); replace hB2:=hB2.chg hC (by first | exact hN2_3 | exact Ne.symm hN3_2); replace hX:=hX.chg hC hG3;clear hC;simp only[a8,zH,zI,zJ,zK,zL,zM,zN,zO,zP,Nat.reduceAdd] at hB3;refine aC ?_;refine ⟨⟨hB1,trivial⟩,?_⟩;refine cZ ?_;refine hK4 _ _ ?_;refine wp_ret ?_;try simp only[Exit.inBlock,Exit.then]
 refine mZ rfl ⟨_,rfl,(hB2.lies aY aH rfl rfl)⟩ ⟨_,rfl,(hB3.lies aY aH rfl rfl)⟩ ?_;try simp only[zD,zE]
 exact ⟨_,rfl,hX,rfl⟩
theorem gV {p q : Rat} (hp : Bq 400000 p) (hq : Bq 400000 q) : eI Tryz.prog 20 [Q p,Q q] (.int .i64 (Kl p q)):=by
 intro w;refine ⟨Tz,?_⟩;have hX:=cD.refl w
 go_enter Tryz.func20,Tryz.ntmps20
 refine aF (fun K1 hK1=>wp_region_lit ?_);refine jA (by simp only[ev,zD,zE]; rfl) ?_;intro w1 g1 hE hg1 hB1;have hG1:=Nat.le_trans hX.size hg1;replace hX:=hX.trans hE;clear hE hg1;simp only[ev,zD,zE,zF,zG];refine jA (by simp only[ev,zD,zE]; rfl) ?_;intro w2 g2 hE hg2 hB2;have hG2:=Nat.le_trans hX.size hg2; have hN2_1 : g2 ≠ g1:=Nat.ne_of_gt (Nat.lt_of_lt_of_le hB1.lt hg2);replace hB1:=hB1.ext hE; replace hX:=hX.trans hE;clear hE hg2;simp only[ev,zD,zE,zF,zG];refine aA (aD) ?_;simp only[ev,zD,zE,zF,zG];refine aC ?_;refine hK1 _ _ ?_;refine aF (fun K2 hK2=>wp_region_lit ?_);refine aI rfl (hB1.lies bG aS rfl rfl) ?_;simp only[ev,zD,zE,zF,zG];refine iQ rfl rfl (Gg hp) ?_;intro w3 hE;replace hB1:=hB1.ext hE; replace hB2:=hB2.ext hE; replace hX:=hX.trans hE;clear hE;simp only[ev,zD,zE,zF,zG];refine aA (aB) (aA (bJ rfl rfl) (aA (bJ rfl rfl) ?_));simp only[ev,zD,zE,zF,zG];refine fR cV rfl ?_;intro w4 g3 hE hg3 hB3;have hG3:=Nat.le_trans hX.size hg3; have hN3_1 : g3 ≠ g1:=Nat.ne_of_gt (Nat.lt_of_lt_of_le hB1.lt hg3); have hN3_2 : g3 ≠ g2:=Nat.ne_of_gt (Nat.lt_of_lt_of_le hB2.lt hg3);replace hB1:=hB1.ext hE; replace hB2:=hB2.ext hE; replace hX:=hX.trans hE;clear hE hg3;simp only[ev,zD,zE,zF,zG];refine fR cV rfl ?_;intro w5 g4 hE hg4 hB4;have hG4:=Nat.le_trans hX.size hg4; have hN4_1 : g4 ≠ g1:=Nat.ne_of_gt (Nat.lt_of_lt_of_le hB1.lt hg4); have hN4_2 : g4 ≠ g2:=Nat.ne_of_gt (Nat.lt_of_lt_of_le hB2.lt hg4); have hN4_3 : g4 ≠ g3:=Nat.ne_of_gt (Nat.lt_of_lt_of_le hB3.lt hg4);replace hB1:=hB1.ext hE; replace hB2:=hB2.ext hE; replace hB3:=hB3.ext hE; replace hX:=hX.trans hE;clear hE hg4;simp only[ev,zD,zE,zF,zG];refine bZ rfl (by simp only[ev,zD,zE]; rfl) (by exact aH) hB3 (by simp) (by simp [Value.oneCell']) ?_;clear hB3; intro w6 hC hB3;replace hB1:=hB1.chg hC (by first | exact hN1_3 | exact Ne.symm hN3_1); replace hB2:=hB2.chg hC (by first | exact hN2_3 | exact Ne.symm hN3_2); replace hB4:=hB4.chg hC (by first | exact hN4_3 | exact Ne.symm hN3_4); replace hX:=hX.chg hC hG3;clear hC;simp only[a8,zH,zI,zJ,zK,zL,zM,zN,zO,zP,Nat.reduceAdd] at hB3;refine bZ rfl (by simp only[ev,zD,zE]; rfl) (by exact aH) hB4 (by simp) (by simp [Value.oneCell']) ?_;clear hB4; intro w7 hC hB4;replace hB1:=hB1.chg hC (by first | exact hN1_4 | exact Ne.symm hN4_1); replace hB2:=hB2.chg hC (by first | exact hN2_4 | exact Ne.symm hN4_2); replace hB3:=hB3.chg hC (by first | exact hN3_4 | exact Ne.symm hN4_3); replace hX:=hX.chg hC hG4;clear hC;simp only[a8,zH,zI,zJ,zK,zL,zM,zN,zO,zP,Nat.reduceAdd] at hB4;refine aC ?_;refine hK2 _ _ ?_;refine aF (fun K3 hK3=>wp_region_lit ?_);refine aI rfl (hB2.lies bG aS rfl rfl) ?_;simp only[ev,zD,zE,zF,zG];refine iQ rfl rfl (Gg hq) ?_;intro w8 hE;replace hB1:=hB1.ext hE; replace hB2:=hB2.ext hE; replace hB3:=hB3.ext hE; replace hB4:=hB4.ext hE; replace hX:=hX.trans hE;clear hE;simp only[ev,zD,zE,zF,zG];refine aA (aB) (aA (bJ rfl rfl) (aA (bJ rfl rfl) ?_));simp only[ev,zD,zE,zF,zG];refine fR cV rfl ?_;intro w9 g5 hE hg5 hB5;have hG5:=Nat.le_trans hX.size hg5; have hN5_1 : g5 ≠ g1:=Nat.ne_of_gt (Nat.lt_of_lt_of_le hB1.lt hg5); have hN5_2 : g5 ≠ g2:=Nat.ne_of_gt (Nat.lt_of_lt_of_le hB2.lt hg5); have hN5_3 : g5 ≠ g3:=Nat.ne_of_gt (Nat.lt_of_lt_of_le hB3.lt hg5); have hN5_4 : g5 ≠ g4:=Nat.ne_of_gt (Nat.lt_of_lt_of_le hB4.lt hg5);replace hB1:=hB1.ext hE; replace hB2:=hB2.ext hE; replace hB3:=hB3.ext hE; replace hB4:=hB4.ext hE; replace hX:=hX.trans hE;clear hE hg5;simp only[ev,zD,zE,zF,zG];refine fR cV rfl ?_;intro w10 g6 hE hg6 hB6;have hG6:=Nat.le_trans hX.size hg6; have hN6_1 : g6 ≠ g1:=Nat.ne_of_gt (Nat.lt_of_lt_of_le hB1.lt hg6); have hN6_2 : g6 ≠ g2:=Nat.ne_of_gt (Nat.lt_of_lt_of_le hB2.lt hg6); have hN6_3 : g6 ≠ g3:=Nat.ne_of_gt (Nat.lt_of_lt_of_le hB3.lt hg6); have hN6_4 : g6 ≠ g4:=Nat.ne_of_gt (Nat.lt_of_lt_of_le hB4.lt hg6); have hN6_5 : g6 ≠ g5:=Nat.ne_of_gt (Nat.lt_of_lt_of_le hB5.lt hg6);replace hB1:=hB1.ext hE; replace hB2:=hB2.ext hE; replace hB3:=hB3.ext hE; replace hB4:=hB4.ext hE; replace hB5:=hB5.ext hE; replace hX:=hX.trans hE;clear hE hg6;simp only[ev,zD,zE,zF,zG];refine bZ rfl (by simp only[ev,zD,zE]; rfl) (by exact aH) hB5 (by simp) (by simp [Value.oneCell']) ?_;clear hB5; intro w11 hC hB5;replace hB1:=hB1.chg hC (by first | exact hN1_5 | exact Ne.symm hN5_1); replace hB2:=hB2.chg hC (by first | exact hN2_5 | exact Ne.symm hN5_2); replace hB3:=hB3.chg hC (by first | exact hN3_5 | exact Ne.symm hN5_3); replace hB4:=hB4.chg hC (by first | exact hN4_5 | exact Ne.symm hN5_4); replace hB6:=hB6.chg hC (by first | exact hN6_5 | exact Ne.symm hN5_6); replace hX:=hX.chg hC hG5;clear hC;simp only[a8,zH,zI,zJ,zK,zL,zM,zN,zO,zP,Nat.reduceAdd] at hB5;refine bZ rfl (by simp only[ev,zD,zE]; rfl) (by exact aH) hB6 (by simp) (by simp [Value.oneCell']) ?_;clear hB6; intro w12 hC hB6;replace hB1:=hB1.chg hC (by first | exact hN1_6 | exact Ne.symm hN6_1); replace hB2:=hB2.chg hC (by first | exact hN2_6 | exact Ne.symm hN6_2); replace hB3:=hB3.chg hC (by first | exact hN3_6 | exact Ne.symm hN6_3); replace hB4:=hB4.chg hC (by first | exact hN4_6 | exact Ne.symm hN6_4); replace hB5:=hB5.chg hC (by first | exact hN5_6 | exact Ne.symm hN6_5); replace hX:=hX.chg hC hG6;clear hC;simp only[a8,zH,zI,zJ,zK,zL,zM,zN,zO,zP,Nat.reduceAdd] at hB6;refine aC ?_;refine hK3 _ _ ?_;refine aF (fun K4 hK4=>?_);refine iG aU (by kernel_rfl) ?_;refine iM rfl (fun _ hE'=>((hB3.ext hE').lies aY aH rfl rfl)) ?_;simp only[ev,zD,zE,zF,zG];refine iM rfl (fun _ hE'=>((hB6.ext hE').lies aY aH rfl rfl)) ?_;simp only[ev,zD,zE,zF,zG];refine rM rfl rfl (gY (hp.n.mono (by decide)) (hq.d.mono (by decide))) ?_;simp only[ev,zD,zE,zF,zG];refine iM rfl (fun _ hE'=>((hB5.ext hE').lies aY aH rfl rfl)) ?_;simp only[ev,zD,zE,zF,zG];refine iM rfl (fun _ hE'=>((hB4.ext hE').lies aY aH rfl rfl)) ?_;simp only[ev,zD,zE,zF,zG];refine rM rfl rfl (gY (hq.n.mono (by decide)) (hp.d.mono (by decide))) ?_;simp only[ev,zD,zE,zF,zG];refine rM rfl rfl (wM ((hp.n.mul hq.d).mono (by decide)) ((hq.n.mul hp.d).mono (by decide))) ?_;simp only[ev,zD,zE,zF,zG];refine aR (aD) ?_;simp only[ev,zD,zE,zF,zG];refine dW ?_;intro w13 hE;replace hB1:=hB1.ext hE; replace hB2:=hB2.ext hE; replace hB3:=hB3.ext hE; replace hB4:=hB4.ext hE; replace hB5:=hB5.ext hE; replace hB6:=hB6.ext hE; replace hX:=hX.trans hE;clear hE;refine hK4 _ _ ?_;refine wp_ret ?_;try simp only[Exit.inBlock,Exit.then]
 refine bT rfl rfl ?_;try simp only[zD,zE]
 exact ⟨_,rfl,hX,rfl⟩
end Go.Proofs.YtimjandkmfcmiaaGreatDoor
namespace Go.Lith
open Go.RowKit
section
variable {P : Program} {ds : List Deferred} {l : List Value} {T ty : TypeId} {ops : Array Oper} {Q : Exit → Act → World → Prop} {rest : List Oper} {d : Nat} {pos : String} {after : Array Edge} {w : World}
theorem nO {E : TypeId} {c n : Nat} {z : Value} {parts : Array (Nat × Operand)} {vs : Array (Nat × Value)} {base : Array Value} {cs : List Value} (hu : P.underlying T = some (.slice E)) (hi : (P.info? E).map (fun i=>(i.size,i.zero)) = some (c,some z)) (h0 : n * c ≠ 0) (h24 : n * c ≤ 16777216)
 (hb : ((Array.range (n * c)).map fun i=>z.cells[i % z.cells.size]!) = base) (hp : (parts.map fun (i,x)=>(i,ev l x)) = vs) (hf : Instr.fill (fun i=>some (i * c,c)) base vs.toList = some cs.toArray)
 (h : ∀ w' g,cD w w' → w.heap.size ≤ g → eU w' g cs E → wpList P ops Q rest (Fr (l.set d (.slice (some ⟨g,0,none⟩) n n)) ds) w') :
 wpList P ops Q (Oper.mk (some d) (.buildSlice T n parts) ty pos after none :: rest) (Fr l ds) w:=by
 subst hb;subst hp;cases hq : P.info? E with
 | none=>rw [hq] at hi; cases hi
 | some i =>
  rw [hq] at hi;simp only[Option.map_some,Option.some.injEq,Prod.mk.injEq] at hi;obtain ⟨e1,e2⟩:=hi;have e : (Fr l).eval = ev l:=funext cC;have h24' : ¬ 16777216 < n * c:=by omega
  refine jO (w':=w.alloc (.cells cs.toArray E)) (v:=.slice (some ⟨w.heap.size,0,none⟩) n n) (fun o ho _=>?_) (h _ _ ((cD.refl w).alloc _) (Nat.le_refl _) (gK w cs E));simp only[execOp,ho,e];simp [Instr.buildSlice,run_underlying hu,sizeOf,typeInfo,zeroValue,hq,e1,e2,h24',newRow,newObj,Sem.run] at hf ⊢;rw [if_neg h0];simp [hf];rfl
end
end Go.Lith
namespace Go.Proofs.YtimjandkmfcmiaaGreatDoor
open Go.RowKit Go.Lith
theorem lK {l : List Value} {ty : TypeId} {x y : Operand} {k : IntKind} {c0 c1 c2 : Value} (hx : ev l x = .agg #[c0,c1,c2]) (hy : ev l y = .int k 0) : fF Tryz.prog l (.index 23 x y) ty c0:=jB Tryz.underlying23 aZ aO hx hy (by decide) (by decide) rfl
theorem lL {l : List Value} {ty : TypeId} {x y : Operand} {k : IntKind} {c0 c1 c2 : Value} (hx : ev l x = .agg #[c0,c1,c2]) (hy : ev l y = .int k 1) : fF Tryz.prog l (.index 23 x y) ty c1:=jB Tryz.underlying23 aZ aO hx hy (by decide) (by decide) rfl
theorem lM {l : List Value} {ty : TypeId} {x y : Operand} {k : IntKind} {c0 c1 c2 : Value} (hx : ev l x = .agg #[c0,c1,c2]) (hy : ev l y = .int k 2) : fF Tryz.prog l (.index 23 x y) ty c2:=jB Tryz.underlying23 aZ aO hx hy (by decide) (by decide) rfl
theorem sF {l : List Value} {ty : TypeId} {x y : Operand} {k : IntKind} {c0 c1 c2 c3 c4 c5 c6 c7 c8 : Value} (hx : ev l x = .agg #[c0,c1,c2,c3,c4,c5,c6,c7,c8]) (hy : ev l y = .int k 0) : fF Tryz.prog l (.index 58 x y) ty (.agg #[c0,c1,c2]):=nE Tryz.underlying58 bC aN hx hy (by decide) (by decide) rfl
theorem sG {l : List Value} {ty : TypeId} {x y : Operand} {k : IntKind} {c0 c1 c2 c3 c4 c5 c6 c7 c8 : Value} (hx : ev l x = .agg #[c0,c1,c2,c3,c4,c5,c6,c7,c8]) (hy : ev l y = .int k 1) : fF Tryz.prog l (.index 58 x y) ty (.agg #[c3,c4,c5]):=nE Tryz.underlying58 bC aN hx hy (by decide) (by decide) rfl
theorem sH {l : List Value} {ty : TypeId} {x y : Operand} {k : IntKind} {c0 c1 c2 c3 c4 c5 c6 c7 c8 : Value} (hx : ev l x = .agg #[c0,c1,c2,c3,c4,c5,c6,c7,c8]) (hy : ev l y = .int k 2) : fF Tryz.prog l (.index 58 x y) ty (.agg #[c6,c7,c8]):=nE Tryz.underlying58 bC aN hx hy (by decide) (by decide) rfl
theorem xT {l : List Value} {ty : TypeId} {x y : Operand} {k : IntKind} {c0 c1 c2 c3 c4 c5 : Value} (hx : ev l x = .agg #[c0,c1,c2,c3,c4,c5]) (hy : ev l y = .int k 0) : fF Tryz.prog l (.index 152 x y) ty (.agg #[c0,c1]):=nE Tryz.underlying152 aY aH hx hy (by decide) (by decide) rfl
theorem xU {l : List Value} {ty : TypeId} {x y : Operand} {k : IntKind} {c0 c1 c2 c3 c4 c5 : Value} (hx : ev l x = .agg #[c0,c1,c2,c3,c4,c5]) (hy : ev l y = .int k 1) : fF Tryz.prog l (.index 152 x y) ty (.agg #[c2,c3]):=nE Tryz.underlying152 aY aH hx hy (by decide) (by decide) rfl
theorem xV {l : List Value} {ty : TypeId} {x y : Operand} {k : IntKind} {c0 c1 c2 c3 c4 c5 : Value} (hx : ev l x = .agg #[c0,c1,c2,c3,c4,c5]) (hy : ev l y = .int k 2) : fF Tryz.prog l (.index 152 x y) ty (.agg #[c4,c5]):=nE Tryz.underlying152 aY aH hx hy (by decide) (by decide) rfl
theorem xW {l : List Value} {ty : TypeId} {x y : Operand} {k : IntKind} {c0 c1 c2 : Value} (hx : ev l x = .agg #[c0,c1,c2]) (hy : ev l y = .int k 0) : fF Tryz.prog l (.index 176 x y) ty c0:=jB Tryz.underlying176 aZ aO hx hy (by decide) (by decide) rfl
theorem xX {l : List Value} {ty : TypeId} {x y : Operand} {k : IntKind} {c0 c1 c2 : Value} (hx : ev l x = .agg #[c0,c1,c2]) (hy : ev l y = .int k 1) : fF Tryz.prog l (.index 176 x y) ty c1:=jB Tryz.underlying176 aZ aO hx hy (by decide) (by decide) rfl
theorem xY {l : List Value} {ty : TypeId} {x y : Operand} {k : IntKind} {c0 c1 c2 : Value} (hx : ev l x = .agg #[c0,c1,c2]) (hy : ev l y = .int k 2) : fF Tryz.prog l (.index 176 x y) ty c2:=jB Tryz.underlying176 aZ aO hx hy (by decide) (by decide) rfl
theorem qH {l : List Value} {ty : TypeId} {x y : Operand} {k : IntKind} {c0 c1 c2 : Value} (hx : ev l x = .agg #[c0,c1,c2]) (hy : ev l y = .int k 0) : fF Tryz.prog l (.index 181 x y) ty c0:=jB Tryz.underlying181 Bf pT hx hy (by decide) (by decide) rfl
theorem qI {l : List Value} {ty : TypeId} {x y : Operand} {k : IntKind} {c0 c1 c2 : Value} (hx : ev l x = .agg #[c0,c1,c2]) (hy : ev l y = .int k 1) : fF Tryz.prog l (.index 181 x y) ty c1:=jB Tryz.underlying181 Bf pT hx hy (by decide) (by decide) rfl
theorem qJ {l : List Value} {ty : TypeId} {x y : Operand} {k : IntKind} {c0 c1 c2 : Value} (hx : ev l x = .agg #[c0,c1,c2]) (hy : ev l y = .int k 2) : fF Tryz.prog l (.index 181 x y) ty c2:=jB Tryz.underlying181 Bf pT hx hy (by decide) (by decide) rfl
theorem Hv {ds : List Deferred} {l : List Value} {ty : TypeId} {ops : Array Oper} {Q : Exit → Act → World → Prop} {rest : List Oper} {d : Nat} {pos : String} {after : Array Edge} {w : World} {x0 : Operand} {c0_0 c0_1 c0_2 : Value} (h0 : (ev l x0).cells = #[c0_0,c0_1,c0_2]) (h : ∀ w' g,cD w w' → w.heap.size ≤ g → eU w' g [c0_0,c0_1,c0_2] 56 → wpList Tryz.prog ops Q rest (Fr (l.set d (.slice (some ⟨g,0,none⟩) 1 1)) ds) w') : wpList Tryz.prog ops Q (Oper.mk (some d) (.buildSlice 26 1 #[(0,x0)]) ty pos after none :: rest) (Fr l ds) w :=
 nO (vs:=#[(0,ev l x0)]) (base:=#[.int .i64 0,.int .i64 0,.int .i64 0]) (c:=3) (z:=(.agg #[.int .i64 0,.int .i64 0,.int .i64 0])) Tryz.underlying26 (by kernel_rfl) (by decide) (by decide) (by kernel_rfl) (by simp) (by simp [Instr.fill,h0]) h
theorem Hw {ds : List Deferred} {l : List Value} {ty : TypeId} {ops : Array Oper} {Q : Exit → Act → World → Prop} {rest : List Oper} {d : Nat} {pos : String} {after : Array Edge} {w : World} {x0 x1 x2 x3 : Operand} {c0_0 c0_1 c0_2 c1_0 c1_1 c1_2 c2_0 c2_1 c2_2 c3_0 c3_1 c3_2 : Value} (h0 : (ev l x0).cells = #[c0_0,c0_1,c0_2]) (h1 : (ev l x1).cells = #[c1_0,c1_1,c1_2]) (h2 : (ev l x2).cells = #[c2_0,c2_1,c2_2]) (h3 : (ev l x3).cells = #[c3_0,c3_1,c3_2]) (h : ∀ w' g,cD w w' → w.heap.size ≤ g → eU w' g [c0_0,c0_1,c0_2,c1_0,c1_1,c1_2,c2_0,c2_1,c2_2,c3_0,c3_1,c3_2] 56 → wpList Tryz.prog ops Q rest (Fr (l.set d (.slice (some ⟨g,0,none⟩) 4 4)) ds) w') : wpList Tryz.prog ops Q (Oper.mk (some d) (.buildSlice 26 4 #[(0,x0),(1,x1),(2,x2),(3,x3)]) ty pos after none :: rest) (Fr l ds) w :=
 nO (vs:=#[(0,ev l x0),(1,ev l x1),(2,ev l x2),(3,ev l x3)]) (base:=#[.int .i64 0,.int .i64 0,.int .i64 0,.int .i64 0,.int .i64 0,.int .i64 0,.int .i64 0,.int .i64 0,.int .i64 0,.int .i64 0,.int .i64 0,.int .i64 0]) (c:=3) (z:=(.agg #[.int .i64 0,.int .i64 0,.int .i64 0])) Tryz.underlying26 (by kernel_rfl) (by decide) (by decide) (by kernel_rfl) (by simp) (by simp [Instr.fill,h0,h1,h2,h3]) h
theorem y9 {ds : List Deferred} {l : List Value} {ty : TypeId} {ops : Array Oper} {Q : Exit → Act → World → Prop} {rest : List Oper} {d : Nat} {pos : String} {after : Array Edge} {w : World} {x0 : Operand} {c0_0 c0_1 c0_2 c0_3 c0_4 c0_5 c0_6 c0_7 c0_8 : Value} (h0 : (ev l x0).cells = #[c0_0,c0_1,c0_2,c0_3,c0_4,c0_5,c0_6,c0_7,c0_8]) (h : ∀ w' g,cD w w' → w.heap.size ≤ g → eU w' g [c0_0,c0_1,c0_2,c0_3,c0_4,c0_5,c0_6,c0_7,c0_8] 58 → wpList Tryz.prog ops Q rest (Fr (l.set d (.slice (some ⟨g,0,none⟩) 1 1)) ds) w') : wpList Tryz.prog ops Q (Oper.mk (some d) (.buildSlice 48 1 #[(0,x0)]) ty pos after none :: rest) (Fr l ds) w :=
 nO (vs:=#[(0,ev l x0)]) (base:=#[.int .i64 0,.int .i64 0,.int .i64 0,.int .i64 0,.int .i64 0,.int .i64 0,.int .i64 0,.int .i64 0,.int .i64 0]) (c:=9) (z:=(.agg #[.int .i64 0,.int .i64 0,.int .i64 0,.int .i64 0,.int .i64 0,.int .i64 0,.int .i64 0,.int .i64 0,.int .i64 0])) Tryz.underlying48 (by kernel_rfl) (by decide) (by decide) (by kernel_rfl) (by simp) (by simp [Instr.fill,h0]) h
theorem zW {ds : List Deferred} {l : List Value} {ty : TypeId} {ops : Array Oper} {Q : Exit → Act → World → Prop} {rest : List Oper} {d : Nat} {pos : String} {after : Array Edge} {w : World} {x0 x1 : Operand} {c0_0 c0_1 c0_2 c0_3 c0_4 c0_5 c0_6 c0_7 c0_8 c1_0 c1_1 c1_2 c1_3 c1_4 c1_5 c1_6 c1_7 c1_8 : Value} (h0 : (ev l x0).cells = #[c0_0,c0_1,c0_2,c0_3,c0_4,c0_5,c0_6,c0_7,c0_8]) (h1 : (ev l x1).cells = #[c1_0,c1_1,c1_2,c1_3,c1_4,c1_5,c1_6,c1_7,c1_8]) (h : ∀ w' g,cD w w' → w.heap.size ≤ g → eU w' g [c0_0,c0_1,c0_2,c0_3,c0_4,c0_5,c0_6,c0_7,c0_8,c1_0,c1_1,c1_2,c1_3,c1_4,c1_5,c1_6,c1_7,c1_8] 58 → wpList Tryz.prog ops Q rest (Fr (l.set d (.slice (some ⟨g,0,none⟩) 2 2)) ds) w') : wpList Tryz.prog ops Q (Oper.mk (some d) (.buildSlice 48 2 #[(0,x0),(1,x1)]) ty pos after none :: rest) (Fr l ds) w :=
 nO (vs:=#[(0,ev l x0),(1,ev l x1)]) (base:=#[.int .i64 0,.int .i64 0,.int .i64 0,.int .i64 0,.int .i64 0,.int .i64 0,.int .i64 0,.int .i64 0,.int .i64 0,.int .i64 0,.int .i64 0,.int .i64 0,.int .i64 0,.int .i64 0,.int .i64 0,.int .i64 0,.int .i64 0,.int .i64 0]) (c:=9) (z:=(.agg #[.int .i64 0,.int .i64 0,.int .i64 0,.int .i64 0,.int .i64 0,.int .i64 0,.int .i64 0,.int .i64 0,.int .i64 0])) Tryz.underlying48 (by kernel_rfl) (by decide) (by decide) (by kernel_rfl) (by simp) (by simp [Instr.fill,h0,h1]) h
theorem qW {ds : List Deferred} {l : List Value} {ty : TypeId} {ops : Array Oper} {Q : Exit → Act → World → Prop} {rest : List Oper} {d : Nat} {pos : String} {after : Array Edge} {w : World} {x0 : Operand} {c0_0 c0_1 : Value} (h0 : (ev l x0).cells = #[c0_0,c0_1]) (h : ∀ w' g,cD w w' → w.heap.size ≤ g → eU w' g [c0_0,c0_1] 35 → wpList Tryz.prog ops Q rest (Fr (l.set d (.slice (some ⟨g,0,none⟩) 1 1)) ds) w') : wpList Tryz.prog ops Q (Oper.mk (some d) (.buildSlice 155 1 #[(0,x0)]) ty pos after none :: rest) (Fr l ds) w :=
 nO (vs:=#[(0,ev l x0)]) (base:=#[.bool false,.string ⟨#[]⟩]) (c:=2) (z:=(.agg #[.bool false,.string ⟨#[]⟩])) Tryz.underlying155 (by kernel_rfl) (by decide) (by decide) (by kernel_rfl) (by simp) (by simp [Instr.fill,h0]) h
theorem Fb {ds : List Deferred} {l : List Value} {ty : TypeId} {ops : Array Oper} {Q : Exit → Act → World → Prop} {rest : List Oper} {d : Nat} {pos : String} {after : Array Edge} {w : World} {x0 x1 x2 x3 : Operand} {c0_0 c0_1 c1_0 c1_1 c2_0 c2_1 c3_0 c3_1 : Value} (h0 : (ev l x0).cells = #[c0_0,c0_1]) (h1 : (ev l x1).cells = #[c1_0,c1_1]) (h2 : (ev l x2).cells = #[c2_0,c2_1]) (h3 : (ev l x3).cells = #[c3_0,c3_1]) (h : ∀ w' g,cD w w' → w.heap.size ≤ g → eU w' g [c0_0,c0_1,c1_0,c1_1,c2_0,c2_1,c3_0,c3_1] 35 → wpList Tryz.prog ops Q rest (Fr (l.set d (.slice (some ⟨g,0,none⟩) 4 4)) ds) w') : wpList Tryz.prog ops Q (Oper.mk (some d) (.buildSlice 155 4 #[(0,x0),(1,x1),(2,x2),(3,x3)]) ty pos after none :: rest) (Fr l ds) w :=
 nO (vs:=#[(0,ev l x0),(1,ev l x1),(2,ev l x2),(3,ev l x3)]) (base:=#[.bool false,.string ⟨#[]⟩,.bool false,.string ⟨#[]⟩,.bool false,.string ⟨#[]⟩,.bool false,.string ⟨#[]⟩]) (c:=2) (z:=(.agg #[.bool false,.string ⟨#[]⟩])) Tryz.underlying155 (by kernel_rfl) (by decide) (by decide) (by kernel_rfl) (by simp) (by simp [Instr.fill,h0,h1,h2,h3]) h
end Go.Proofs.YtimjandkmfcmiaaGreatDoor
namespace Go.Lith
open Go.RowKit
structure P3 where
 x : Int
 y : Int
 z : Int
structure T3 where
 a : P3
 b : P3
 c : P3
namespace P3
def sub (p q : P3) : P3:=⟨p.x - q.x,p.y - q.y,p.z - q.z⟩
def dot (p q : P3) : Int:=p.x * q.x + p.y * q.y + p.z * q.z
def cross (u v : P3) : P3:=⟨u.y * v.z - u.z * v.y,u.z * v.x - u.x * v.z,u.x * v.y - u.y * v.x⟩
end P3
def T3.normal (t : T3) : P3:=(t.b.sub t.a).cross (t.c.sub t.a)
def pt (p : P3) : Go.Value:=.agg #[.int .i64 p.x,.int .i64 p.y,.int .i64 p.z]
def tr (t : T3) : Go.Value:=.agg #[.int .i64 t.a.x,.int .i64 t.a.y,.int .i64 t.a.z,.int .i64 t.b.x,.int .i64 t.b.y,.int .i64 t.b.z,.int .i64 t.c.x,.int .i64 t.c.y,.int .i64 t.c.z]
def wv (v : P3) : Go.Value:=.agg #[.bool (b8 v.x),.string (cW v.x),.bool (b8 v.y),.string (cW v.y),.bool (b8 v.z),.string (cW v.z)]
theorem Bw.up {k m : Nat} {n : Int} [x : Bw k n] (h : k ≤ m:=by decide) : Bd m n:=x.h.mono h
theorem zX : cW 0 = ⟨#[]⟩:=by
 have : oF 0 = []:=by
  unfold oF;rw [(mR (B:=256) (by omega)).2 rfl];rfl
 simp only[cW,Int.natAbs_zero,this]
theorem Sc : W 0 = .agg #[.bool false,.string ⟨#[]⟩]:=by simp only[W,zX]; rfl
class Iw (n : Int) : Prop where
 h : kW n
class I3 (p : P3) : Prop where
 x : kW p.x
 y : kW p.y
 z : kW p.z
class IT (t : T3) : Prop where
 a : I3 t.a
 b : I3 t.b
 c : I3 t.c
instance {p : P3} [h : I3 p] : Iw p.x:=⟨h.x⟩
instance {p : P3} [h : I3 p] : Iw p.y:=⟨h.y⟩
instance {p : P3} [h : I3 p] : Iw p.z:=⟨h.z⟩
instance {t : T3} [h : IT t] : I3 t.a:=h.a
instance {t : T3} [h : IT t] : I3 t.b:=h.b
instance {t : T3} [h : IT t] : I3 t.c:=h.c
instance {n : Int} [h : Iw n] : Bw 64 n:=⟨h.h.bd⟩
class Bv (k : outParam Nat) (v : P3) : Prop where
 x : Bd k v.x
 y : Bd k v.y
 z : Bd k v.z
instance {k : Nat} {v : P3} [h : Bv k v] : Bw k v.x:=⟨h.x⟩
instance {k : Nat} {v : P3} [h : Bv k v] : Bw k v.y:=⟨h.y⟩
instance {k : Nat} {v : P3} [h : Bv k v] : Bw k v.z:=⟨h.z⟩
theorem Bv.mono {k m : Nat} {v : P3} (h : Bv k v) (hk : k ≤ m) : Bv m v:=⟨h.x.mono hk,h.y.mono hk,h.z.mono hk⟩
theorem Bv.of {k m : Nat} {v : P3} [h : Bv k v] (hk : k ≤ m:=by decide) : Bv m v:=h.mono hk
instance {p q : P3} [a : I3 p] [b : I3 q] : Bv 65 (p.sub q):=⟨a.x.bd.sub b.x.bd,a.y.bd.sub b.y.bd,a.z.bd.sub b.z.bd⟩
theorem B4 {k l : Nat} {a b c d : Int} (ha : Bd k a) (hb : Bd l b) (hc : Bd k c) (hd : Bd l d) : Bd (k + l + 1) (a * b - c * d):=by
 have:=(ha.mul hb).sub (hc.mul hd);exact this.mono (by omega)
theorem Kr {k l : Nat} {a b c d : Int} (ha : Bd k a) (hb : Bd l b) (hc : Bd k c) (hd : Bd l d) : Bd (k + l + 1) (a * b + c * d):=by
 have:=(ha.mul hb).add (hc.mul hd);exact this.mono (by omega)
instance {k l : Nat} {u v : P3} [a : Bv k u] [b : Bv l v] : Bv (k + l + 1) (u.cross v):=⟨B4 a.y b.z a.z b.y,B4 a.z b.x a.x b.z,B4 a.x b.y a.y b.x⟩
instance {k l : Nat} {u v : P3} [a : Bv k u] [b : Bv l v] : Bw (k + l + 2) (u.dot v):=⟨((Kr a.x b.x a.y b.y).add (a.z.mul b.z)).mono (by omega)⟩
instance {t : T3} [h : IT t] : Bv 131 t.normal:=inferInstanceAs (Bv 131 ((t.b.sub t.a).cross (t.c.sub t.a)))
theorem P3.dot0 {u v : P3} : 0 + u.x * v.x + u.y * v.y + u.z * v.z = u.dot v:=by simp only[P3.dot,Int.zero_add]
section
variable {P : Program} {Q : Exit → Act → World → Prop} {a : Act} {w : World} {c : Code} {n : Nat}
theorem dA (h : c.wp P (Exit.then (Code.rounds P c Q n) Q) a w) : Code.rounds P c Q (n + 1) a w:=h
theorem a7 (h : c.wp P (Exit.then (Code.rounds P c Q n) Q) a w) : Exit.then (Code.rounds P c Q (n + 1)) Q .normal a w:=h
end
end Go.Lith
namespace Go.Lith
open Go.RowKit
section
variable {P : Program} {ops : Array Oper} {md : Region.Mode} {w0 : World}
def YE (P : Program) (ops : Array Oper) (w0 : World) (o : Oper) (v : Value) (a : Act) : Prop :=
 (Region.wanted o (yielded ops a.tmps) = true ∧ ∀ w,cD w0 w → o.quietAt P a (cD w) w v) ∨ (Region.wanted o (yielded ops a.tmps) = false ∧ v = undef)
theorem YE.of_same {o : Oper} {v : Value} {a a' : Act} (hy : YE P ops w0 o v a) (he : execOp a'.eval o = execOp a.eval o)
 (hw : Region.wanted o (yielded ops a'.tmps) = Region.wanted o (yielded ops a.tmps)) : YE P ops w0 o v a':=by
 unfold YE Oper.quietAt at *
 rw [he,hw];exact hy
def qE (P : Program) (ops : Array Oper) (w0 : World) (i : Nat) (K : Act → Prop) (a : Act) : Prop:=∃ o v,ops[i]? = some o ∧ YE P ops w0 o v a ∧ K (a.put o.dst v)
theorem Oc {i : Nat} {a : Act} {K K' : Act → Prop} (h : ∀ a,K a → K' a) (hh : qE P ops w0 i K a) : qE P ops w0 i K' a :=
 let ⟨o,v,h1,h2,h3⟩:=hh; ⟨o,v,h1,h2,h _ h3⟩
theorem Sd {j : Nat} {oi oj : Oper} {v : Value} (hj : ops[j]? = some oj) (hap : oi.apart ops oj = true) (hsi : ∀ cs b,oi.op ≠ .select cs b) (hsj : ∀ cs b,oj.op ≠ .select cs b) {K : Act → Prop} {a : Act}
 (hy : YE P ops w0 oi v a) (h : qE P ops w0 j K (a.put oi.dst v)) : qE P ops w0 j (fun a'=>YE P ops w0 oi v a' ∧ K (a'.put oi.dst v)) a:=by
 obtain ⟨h1,h2,h3⟩:=Oper.apart_spec hap;obtain ⟨o,u,ho,hu,hk⟩:=h;rw [hj] at ho;cases ho;refine ⟨oj,u,hj,hu.of_same (execOp_put oj hsj a oi.dst v h1).symm (wanted_put oj a oi.dst v h1).symm,hy.of_same (execOp_put oi hsi a oj.dst u h3) (wanted_put oi a oj.dst u h3),?_⟩;rw [← Act.put_comm a v u h2];exact hk
def wN (P : Program) (md : Region.Mode) (ops : Array Oper) (w0 : World) (n : Nat) (L : Array Bool → Act → Prop) : Nat → Array Bool → Act → Prop
 | 0,listed,a=>L listed a
 | f + 1,listed,a=>Region.ready md ops listed ≠ [] ∧ ∀ i ∈ Region.ready md ops listed,i < n ∧ qE P ops w0 i (wN P md ops w0 n L f (listed.setIfInBounds i true)) a
theorem B5 {n i : Nat} {oi : Oper} {v : Value} {L : Array Bool → Act → Prop} (hi : ops[i]? = some oi) (hsel : ∀ (j : Nat) (o : Oper) cs b,ops[j]? = some o → o.op ≠ .select cs b)
 (hs : Region.sinkB md ops n = true) (hc : Region.chainB md ops n = true) (hn : n < ops.size) (hin : i < n)
 (hdone : ∀ listed a,L listed a → ∀ j ∈ Region.ready md ops listed,n ≤ j) :
 ∀ (f : Nat) (listed : Array Bool) (a : Act),HeadInv md ops n listed →
  (∀ j oj,ops[j]? = some oj → j ≠ i → listed.getD j true = false → (∀ e ∈ oj.after,Region.binds md e = true → e.on ≠ i) → oi.apart ops oj = true) →
  i ∈ Region.ready md ops listed → YE P ops w0 oi v a →
  wN P md ops w0 n L f (listed.setIfInBounds i true) (a.put oi.dst v) → wN P md ops w0 n L (f + 1) listed a:=by
 intro f
 induction f with
 | zero =>
  intro listed a inv _ hr hy H;have hun:=(mem_ready.1 hr).1;refine ⟨fun h=>(by rw [h] at hr; cases hr),fun j hj=>?_⟩;have hjn : j < n:=by
   rcases Nat.lt_or_ge j n with h | h
   · exact h
   · exact absurd hj (tail_waits hs hc hn inv _ i rfl hin hun j h)
  refine ⟨hjn,?_⟩;by_cases hji : j = i
  · subst hji; exact ⟨oi,v,hi,hy,H⟩
  · have:=hdone _ _ H j (ready_mono hj hji)
    omega
 | succ f ih =>
  intro listed a inv hfree hr hy H;have hun:=(mem_ready.1 hr).1;refine ⟨fun h=>(by rw [h] at hr; cases hr),fun j hj=>?_⟩;have hjn : j < n:=by
   rcases Nat.lt_or_ge j n with h | h
   · exact h
   · exact absurd hj (tail_waits hs hc hn inv _ i rfl hin hun j h)
  refine ⟨hjn,?_⟩;by_cases hji : j = i
  · subst hji; exact ⟨oi,v,hi,hy,H⟩
  · have h1:=(H.2 j (ready_mono hj hji)).2
    obtain ⟨hjun,oj,hoj,hall⟩:=mem_ready.1 hj;have hnot : ∀ e ∈ oj.after,Region.binds md e = true → e.on ≠ i:=fun e he hb heq=>by
     have h1:=hall e he hb;rw [heq,getD_both hun] at h1;cases h1
    have h2:=Sd hoj (hfree j oj hoj hji hjun hnot) (fun cs b=>hsel i oi cs b hi) (fun cs b=>hsel j oj cs b hoj) hy h1;have hfree' : ∀ k ok,ops[k]? = some ok → k ≠ i → (listed.setIfInBounds j true).getD k true = false →
     (∀ e ∈ ok.after,Region.binds md e = true → e.on ≠ i) → oi.apart ops ok = true:=fun k ok hk hki hun hno=>by
     refine hfree k ok hk hki ?_ hno;by_cases hjk : j = k
     · subst hjk; exact hjun
     · rw [getD_set_ne true hjk] at hun; exact hun
    refine Oc (fun a' h3=>ih (listed.setIfInBounds j true) a' (inv.set hj hjn) hfree' (ready_mono hr (Ne.symm hji)) h3.1 ?_) h2;rw [Array.setIfInBounds_comm _ _ hji];exact h3.2
def pC (P : Program) (ops : Array Oper) (w0 : World) (L : Act → Prop) : List Oper → Act → Prop
 | [],a=>L a
 | o :: r,a=>∃ v,YE P ops w0 o v a ∧ pC P ops w0 L r (a.put o.dst v)
def Ks (md : Region.Mode) (ops : Array Oper) (g n : Nat) : List Nat → Array Bool → Bool
 | [],listed=>Region.seqB md ops g n listed
 | i :: r,listed=>(ops[i]?).isSome && decide (i < n) && (Region.ready md ops listed).contains i && Region.free md ops listed i && Ks md ops g n r (listed.setIfInBounds i true)
theorem wO {n g : Nat} {L : Act → Prop} (hsel : Region.noSelect ops = true) (hs : Region.sinkB md ops n = true) (hc : Region.chainB md ops n = true) (hn : n < ops.size) :
 ∀ (l : List Nat) (listed : Array Bool) (a : Act),HeadInv md ops n listed → Ks md ops g n l listed = true → pC P ops w0 L (l.map fun i=>(ops[i]?).getD default) a →
 wN P md ops w0 n (fun listed' a'=>Region.seqB md ops g n listed' = true ∧ L a') l.length listed a
 | [],listed,a,_,hB,h=>⟨by simpa [Ks] using hB,h⟩
 | i :: l,listed,a,inv,hB,h=>by
  simp only[Ks,Bool.and_eq_true,decide_eq_true_eq] at hB;obtain ⟨⟨⟨⟨h1,h2⟩,h3⟩,h4⟩,h5⟩:=hB;obtain ⟨o,ho⟩:=Option.isSome_iff_exists.1 h1;simp only[List.map_cons,pC,ho,Option.getD_some] at h;obtain ⟨v,hy,hr⟩:=h;have hi' : i ∈ Region.ready md ops listed:=by simpa using h3
  exact B5 ho (Region.noSelect_spec hsel) hs hc hn h2 (fun listed' a' hL=>seqB_ready hL.1) l.length listed a inv (Region.free_spec ho h4) hi' hy (wO hsel hs hc hn l _ _ (inv.set hi' h2) h5 hr)
structure Al where
 i : Nat
 d : Nat
 T : TypeId
 cs : List Value
def j1 (P : Program) (md : Region.Mode) (ops : Array Oper) (x : Al) : Prop :=
 ∃ ty pos after,ops[x.i]? = some (Oper.mk (some x.d) (.alloc x.T) ty pos after none) ∧ (after.all fun e=>!Region.binds md e) = true ∧ ∃ z,i7 P x.T z ∧ z.cells = x.cs.toArray
def d5 (E : Nat → Option Value) : List Al → Act → Act
 | [],a=>a
 | x :: r,a=>match E x.i with
  | some v=>d5 E r (a.put (some x.d) v)
  | none=>d5 E r a
def oJ (ops : Array Oper) (o : Oper) (al : List Al) : Bool:=al.all fun x=>!(o.looksAt ops).contains x.d && o.dst != some x.d
theorem pD {E : Nat → Option Value} {o : Oper} (hs : ∀ cs b,o.op ≠ .select cs b) : ∀ {al : List Al},oJ ops o al = true → ∀ a,execOp (d5 E al a).eval o = execOp a.eval o ∧ Region.wanted o (yielded ops (d5 E al a).tmps) = Region.wanted o (yielded ops a.tmps)
 | [],_,a=>⟨rfl,rfl⟩
 | x :: r,hc,a=>by
  simp only[oJ,List.all_cons,Bool.and_eq_true,Bool.not_eq_true'] at hc;have hr : oJ ops o r = true:=by simp only[oJ,Bool.and_eq_true,Bool.not_eq_true'] ; simpa using hc.2
  have hd : x.d ∉ o.looksAt ops:=by simpa using hc.1.1
  unfold d5;split
  · obtain ⟨h1,h2⟩:=pD (E:=E) hs hr (a.put (some x.d) _)
    rename_i v _;exact ⟨h1.trans (execOp_put o hs a (some x.d) v (fun d e=>by cases e; exact hd)),h2.trans (wanted_put o a (some x.d) v (fun d e=>by cases e; exact hd))⟩
  · exact pD hs hr a
theorem qX {E : Nat → Option Value} {o : Oper} {v : Value} : ∀ {al : List Al},oJ ops o al = true → ∀ a,(d5 E al a).put o.dst v = d5 E al (a.put o.dst v)
 | [],_,a=>rfl
 | x :: r,hc,a=>by
  simp only[oJ,List.all_cons,Bool.and_eq_true,Bool.not_eq_true',bne_iff_ne,ne_eq] at hc;have hr : oJ ops o r = true:=by simp only[oJ,Bool.and_eq_true,Bool.not_eq_true'] ; simpa using hc.2
  unfold d5;split
  · rename_i u _
    rw [qX hr,Act.put_comm a u v (fun d e=>by cases e; exact hc.1.2)]
  · exact qX hr a
theorem wP {E : Nat → Option Value} {x : Al} {v : Value} : ∀ {al : List Al},(al.map (·.i)).Nodup → (al.map (·.d)).Nodup → x ∈ al → E x.i = none → ∀ a,(d5 E al a).put (some x.d) v = d5 (fun j=>if j = x.i then some v else E j) al a
 | [],_,_,hx,_,_=>by cases hx
 | y :: r,hi,hd,hx,he,a=>by
  simp only[List.map_cons,List.nodup_cons] at hi hd;have same : ∀ (l : List Al),x.i ∉ l.map (·.i) → ∀ a,d5 (fun j=>if j = x.i then some v else E j) l a = d5 E l a:=by
   intro l
   induction l with
   | nil=>intro _ a; rfl
   | cons z l ih =>
    intro hn a;simp only[List.map_cons,List.mem_cons,not_or] at hn;unfold d5;simp only[Ne.symm hn.1,if_false];split <;> exact ih hn.2 _
  have push : ∀ (l : List Al),x.d ∉ l.map (·.d) → ∀ a,(d5 E l a).put (some x.d) v = d5 E l (a.put (some x.d) v):=by
   intro l
   induction l with
   | nil=>intro _ a; rfl
   | cons z l ih =>
    intro hn a;simp only[List.map_cons,List.mem_cons,not_or] at hn;unfold d5;split
    · rename_i u _
      rw [ih hn.2,Act.put_comm a u v (fun d e=>by cases e; simp; exact hn.1)]
    · exact ih hn.2 _
  rcases List.mem_cons.1 hx with rfl | hx
  · unfold d5
    simp only[he,if_true];rw [push r hd.1,same r hi.1]
  · have hne : y.i ≠ x.i:=fun e=>hi.1 (by rw [e]; exact List.mem_map_of_mem hx)
    unfold d5;simp only[hne,if_false];split <;> exact wP hi.2 hd.2 hx he _
def Ej (E : Nat → Option Value) (al : List Al) : Nat:=(al.filter fun x=>(E x.i).isNone).length
theorem Gh {E : Nat → Option Value} {x : Al} {v : Value} : ∀ {al : List Al},(al.map (·.i)).Nodup → x ∈ al → E x.i = none → Ej E al = Ej (fun j=>if j = x.i then some v else E j) al + 1
 | [],_,hx,_=>by cases hx
 | y :: r,hi,hx,he=>by
  simp only[List.map_cons,List.nodup_cons] at hi;have same : ∀ (l : List Al),x.i ∉ l.map (·.i) → Ej (fun j=>if j = x.i then some v else E j) l = Ej E l:=by
   intro l
   induction l with
   | nil=>intro _; rfl
   | cons z l ih =>
    intro hn;simp only[List.map_cons,List.mem_cons,not_or] at hn;have:=ih hn.2;unfold Ej at *
    rw [List.filter_cons,List.filter_cons];simp only[Ne.symm hn.1,if_false];split <;> simp [this]
  rcases List.mem_cons.1 hx with rfl | hx
  · have:=same r hi.1
    unfold Ej at *
    rw [List.filter_cons,List.filter_cons];simp [he,this]
  · have hne : y.i ≠ x.i:=fun e=>hi.1 (by rw [e]; exact List.mem_map_of_mem hx)
    have:=Gh (v:=v) hi.2 hx he;unfold Ej at *
    rw [List.filter_cons,List.filter_cons];simp only[hne,if_false];split <;> simp [this]
theorem Dp {E : Nat → Option Value} {al : List Al} (h : Ej E al = 0) : ∀ x ∈ al,∃ v,E x.i = some v:=fun x hx=>by
 unfold Ej at h;have:=List.filter_eq_nil_iff.1 (List.eq_nil_of_length_eq_zero h) x hx;cases he : E x.i with
 | none=>simp [he] at this
 | some v=>exact ⟨v,rfl⟩
theorem Od {E : Nat → Option Value} {al : List Al} (h : 0 < Ej E al) : ∃ x ∈ al,E x.i = none:=by
 unfold Ej at h;obtain ⟨x,hx⟩:=List.length_pos_iff_exists_mem.1 h;obtain ⟨h1,h2⟩:=List.mem_filter.1 hx;exact ⟨x,h1,by simpa using h2⟩
def qY (base : Nat) (E : Nat → Option Value) (al : List Al) (w : World) : Prop :=
 (∀ x ∈ al,∀ v,E x.i = some v → ∃ g,v = .pointer (some ⟨g,0,none⟩) ∧ base ≤ g ∧ eU w g x.cs x.T) ∧
 (∀ x ∈ al,∀ y ∈ al,x.i ≠ y.i → ∀ g g',E x.i = some (.pointer (some ⟨g,0,none⟩)) → E y.i = some (.pointer (some ⟨g',0,none⟩)) → g ≠ g')
theorem qY.ext {base : Nat} {E : Nat → Option Value} {al : List Al} {w w' : World} (h : qY base E al w) (hE : cD w w') : qY base E al w' :=
 ⟨fun x hx v hv=>let ⟨g,e,hb,hB⟩:=h.1 x hx v hv; ⟨g,e,hb,hB.ext hE⟩,h.2⟩
theorem qY.new {base : Nat} {E : Nat → Option Value} {al : List Al} {w : World} (h : qY base E al w) {x : Al} (hx : x ∈ al) (hi : (al.map (·.i)).Nodup) (he : E x.i = none) (hb : base ≤ w.heap.size) :
 qY base (fun j=>if j = x.i then some (.pointer (some ⟨w.heap.size,0,none⟩)) else E j) al (w.alloc (.cells x.cs.toArray x.T)):=by
 have huniq : ∀ y ∈ al,y.i = x.i → y = x:=by
  intro y hy e;clear h
  induction al with
  | nil=>cases hx
  | cons z r ih =>
   simp only[List.map_cons,List.nodup_cons] at hi;rcases List.mem_cons.1 hx with rfl | hx'
   · rcases List.mem_cons.1 hy with rfl | hy'
     · rfl
     · exact absurd (by rw [← e]; exact List.mem_map_of_mem hy') hi.1
   · rcases List.mem_cons.1 hy with rfl | hy'
     · exact absurd (by rw [e]; exact List.mem_map_of_mem hx') hi.1
     · exact ih hx' hi.2 hy'
 refine ⟨fun y hy v hv=>?_,fun y hy z hz hne g g' h1 h2=>?_⟩
 · by_cases e : y.i = x.i
   · obtain rfl:=huniq y hy e
     simp only[if_true] at hv;cases hv;exact ⟨_,rfl,hb,gK w _ _⟩
   · simp only[e,if_false] at hv
     obtain ⟨g,e1,e2,e3⟩:=h.1 y hy v hv;exact ⟨g,e1,e2,e3.ext ((cD.refl w).alloc _)⟩
 · by_cases e : y.i = x.i
   · have e' : z.i ≠ x.i:=fun e2=>hne (e.trans e2.symm)
     simp only[e,if_true] at h1;simp only[e',if_false] at h2;cases h1;obtain ⟨g2,e1,_,e3⟩:=h.1 z hz _ h2;cases e1;exact Nat.ne_of_gt e3.lt
   · by_cases e' : z.i = x.i
     · simp only[e,if_false] at h1
       simp only[e',if_true] at h2;cases h2;obtain ⟨g2,e1,_,e3⟩:=h.1 y hy _ h1;cases e1;exact Nat.ne_of_lt e3.lt
     · simp only[e,if_false] at h1
       simp only[e',if_false] at h2;exact h.2 y hy z hz hne g g' h1 h2
def B6 (md : Region.Mode) (ops : Array Oper) (n : Nat) (al : List Al) : Bool :=
 decide ((al.map (·.i)).Nodup) && decide ((al.map (·.d)).Nodup) && (al.all fun x=>decide (x.i < n)) &&
 ((List.range n).all fun j=>(al.any fun x=>x.i == j) || match ops[j]? with
  | some o=>oJ ops o al && o.after.all fun e=>!Region.binds md e || !(al.any fun x=>x.i == e.on)
  | none=>true)
theorem W8 {n g : Nat} {al : List Al} {L : Act → Prop} {Q' : Exit → Act → World → Prop} {tl : List Oper} (hsel : Region.noSelect ops = true) (hs : Region.sinkB md ops n = true) (hc : Region.chainB md ops n = true) (hn : n < ops.size)
 (hal : ∀ x ∈ al,j1 P md ops x) (hB : B6 md ops n al = true) (htl : ∀ j,tl[j]? = ops[n + j]?) (hgl : tl.length = g)
 (hL : ∀ a E w,cD w0 w → qY w0.heap.size E al w → (∀ x ∈ al,∃ v,E x.i = some v) → L a → wpList P ops Q' tl (d5 E al a) w) :
 ∀ (k f : Nat) (E : Nat → Option Value) (lr lm : Array Bool) (a : Act) (w : World),k = f + Ej E al → HeadInv md ops n lr → lm.size = lr.size → (∀ j,lm.getD j false = (lr.getD j false || al.any fun x=>x.i == j)) →
  (∀ x ∈ al,(E x.i = none ↔ lr.getD x.i false = false)) → cD w0 w → qY w0.heap.size E al w →
  wN P md ops w0 n (fun listed' a'=>Region.seqB md ops g n listed' = true ∧ L a') f lm a → wpAny P md ops Q' (k + g) lr (d5 E al a) w:=by
 simp only[B6,Bool.and_eq_true,decide_eq_true_eq,List.all_eq_true,List.mem_range] at hB;obtain ⟨⟨⟨hni,hnd⟩,hlt⟩,hcl⟩:=hB;intro k
 induction k with
 | zero =>
  intro f E lr lm a w hk inv hsz hlm hE hx hla H;obtain rfl : f = 0:=by omega
  have h0 : Ej E al = 0:=by omega
  have hall:=Dp h0;have heq : lm = lr:=by
   apply Array.ext hsz;intro j h1 h2;have h3:=hlm j;simp only[Array.getD_eq_getD_getElem?,Array.getElem?_eq_getElem h1,Array.getElem?_eq_getElem h2,Option.getD_some] at h3;rw [h3];cases hlr : lr[j] with
   | true=>rfl
   | false =>
    rw [Bool.false_or];cases hany : al.any fun x=>x.i == j with
    | false=>rfl
    | true =>
     obtain ⟨x,hx1,hx2⟩:=List.any_eq_true.1 hany;have hx3 : x.i = j:=by simpa using hx2
     obtain ⟨v,hv⟩:=hall x hx1;have : lr.getD x.i false = false:=by
      rw [hx3,Array.getD_eq_getD_getElem?,Array.getElem?_eq_getElem h2]; simpa using hlr
     rw [(hE x hx1).2 this] at hv;cases hv
  subst heq;obtain ⟨H1,H2⟩:=H;rw [Nat.zero_add,← hgl];exact wpAny_of_seq (md:=md) tl n lm _ w htl (by rw [hgl]; exact H1) (hL a E w hx hla hall H2)
 | succ k ih =>
  intro f E lr lm a w hk inv hsz hlm hE hx hla H;have getT : ∀ j,j < ops.size → lr.getD j false = false → lr.getD j true = false:=fun j hj h=>getD_in (by rw [inv.size]; exact hj) h
  -- some head operation is not listed
  have hsome : ∃ j,j ∈ Region.ready md ops lr ∧ j < n:=by
   rcases Nat.eq_zero_or_pos (Ej E al) with h0 | h0
   · obtain ⟨f,rfl⟩ : ∃ q,f = q + 1:=⟨f - 1,by omega⟩
     obtain ⟨hne,hr⟩:=H;obtain ⟨j,hj⟩:=List.exists_mem_of_ne_nil _ hne;have hjn:=(hr j hj).1;refine ⟨j,?_,hjn⟩;have hall:=Dp h0;obtain ⟨hju,oj,hoj,hpre⟩:=mem_ready.1 hj;refine mem_ready.2 ⟨?_,oj,hoj,fun e he hb=>?_⟩
     · have h1:=hlm j
       rw [getD_both hju] at h1;have h2 : lr.getD j false = false:=by
        cases h : lr.getD j false with
        | false=>rfl
        | true=>rw [h] at h1; simp at h1
       exact getT j (by omega) h2
     · have h1:=hlm e.on
       rw [hpre e he hb] at h1;cases h : lr.getD e.on false with
       | true=>rfl
       | false =>
        rw [h,Bool.false_or] at h1;obtain ⟨x,hx1,hx2⟩:=List.any_eq_true.1 h1.symm;have hx3 : x.i = e.on:=by simpa using hx2
        obtain ⟨v,hv⟩:=hall x hx1;rw [(hE x hx1).2 (by rw [hx3]; exact h)] at hv;cases hv
   · obtain ⟨x,hx1,hx2⟩:=Od h0
     obtain ⟨ty,pos,after,hop,haf,_⟩:=hal x hx1;have hxn : x.i < n:=by simpa using hlt x hx1
     refine ⟨x.i,mem_ready.2 ⟨getT _ (by omega) ((hE x hx1).1 hx2),_,hop,fun e he hb=>?_⟩,hxn⟩;have:=Array.all_eq_true_iff_forall_mem.1 haf e he;simp [hb] at this
  obtain ⟨j0,hj0,hj0n⟩:=hsome;have hj0u:=(mem_ready.1 hj0).1;rw [show k + 1 + g = (k + g) + 1 by omega];refine ⟨fun h=>(by rw [h] at hj0; cases hj0),fun i hi=>?_⟩;have hin : i < n:=by
   rcases Nat.lt_or_ge i n with h | h
   · exact h
   · exact absurd hi (tail_waits hs hc hn inv _ j0 rfl hj0n hj0u i h)
  obtain ⟨hiu,oi,hoi,hpre⟩:=mem_ready.1 hi;by_cases hia : al.any (fun x=>x.i == i) = true
  · -- an allocation
    obtain ⟨x,hx1,hx2⟩:=List.any_eq_true.1 hia;obtain rfl : x.i = i:=by simpa using hx2
    obtain ⟨ty,pos,after,hop,haf,z,hz,hzc⟩:=hal x hx1;have hex : E x.i = none:=(hE x hx1).2 (getD_both hiu);obtain ⟨inf,hinf,hinz⟩:=hz;unfold wpOp;simp only[hop];rw [if_pos (by simp [Region.wanted])];refine .inl ?_;have hrun : ∀ ρ : Operand → Value,(execOp ρ (Oper.mk (some x.d) (.alloc x.T) ty pos after none)).run P w = .ok (.value (.pointer (some ⟨w.heap.size,0,none⟩))) (w.alloc (.cells x.cs.toArray x.T)):=fun ρ=>by
     simp [execOp,Instr.alloc,zeroValue,typeInfo,hinf,hinz,newVar,newRow,hzc,newObj,Sem.run]
    unfold Oper.wp;rw [hrun];show wpAny P md ops Q' (k + g) (lr.setIfInBounds x.i true) ((d5 E al a).put (some x.d) (.pointer (some ⟨w.heap.size,0,none⟩))) _
    rw [wP hni hnd hx1 hex];have hc1:=Gh (v:=.pointer (some ⟨w.heap.size,0,none⟩)) hni hx1 hex;have hxs : x.i < lr.size:=by rw [inv.size]; omega
    refine ih f _ _ lm a _ (by omega) (inv.set hi hin) (by simp [hsz]) (fun j=>?_) (fun y hy=>?_) (hx.alloc _) (hla.new hx1 hni hex hx.size) H
    · rw [hlm j]
      by_cases e : x.i = j
      · subst e
        rw [hia];simp
      · rw [getD_set_ne false e]
    · by_cases e : x.i = y.i
      · rw [← e]
        simp [hxs]
      · rw [getD_set_ne false e]
        simp only[Ne.symm e,if_false];exact hE y hy
  · -- an operation that computes
    have hia' : al.any (fun x=>x.i == i) = false:=by simpa using hia
    have hci:=hcl i hin;rw [hia',Bool.false_or,hoi] at hci;simp only[Bool.and_eq_true] at hci;have hready : i ∈ Region.ready md ops lm:=by
     refine mem_ready.2 ⟨?_,oi,hoi,fun e he hb=>by rw [hlm,hpre e he hb]; rfl⟩;have h1:=hlm i;rw [getD_both hiu,hia'] at h1;exact getD_in (by rw [hsz,inv.size]; omega) (by simpa using h1)
    cases f with
    | zero =>
     obtain ⟨H1,H2⟩:=H;have:=seqB_ready H1 i hready;omega
    | succ f =>
     obtain ⟨_,o,v,ho,hy,hK⟩:=H.2 i hready;rw [hoi] at ho;cases ho;have hse : ∀ cs b,oi.op ≠ .select cs b:=fun cs b=>Region.noSelect_spec hsel i oi cs b hoi;obtain ⟨e1,e2⟩:=pD (E:=E) hse hci.1 a;have hy':=hy.of_same e1 e2;have key : ∀ w',cD w w' → wpAny P md ops Q' (k + g) (lr.setIfInBounds i true) ((d5 E al a).put oi.dst v) w':=fun w' hw'=>by
      rw [qX hci.1];refine ih f E _ _ _ w' (by omega) (inv.set hi hin) (by simp [hsz]) (fun j=>?_) (fun y hy=>?_) (hx.trans hw') (hla.ext hw') hK
      · by_cases e : i = j
        · subst e
          have h1 : i < lr.size:=by rw [inv.size]; omega
          simp [h1,hsz]
        · rw [getD_set_ne false e,getD_set_ne false e,hlm j]
      · have e : i ≠ y.i:=fun e=>by
         have : al.any (fun x=>x.i == i) = true:=List.any_eq_true.2 ⟨y,hy,by simp [e]⟩;rw [hia'] at this; cases this
        rw [getD_set_ne false e];exact hE y hy
     unfold wpOp;simp only[hoi];rcases hy' with ⟨hw,hv⟩ | ⟨hw,rfl⟩
     · rw [if_pos hw]
       refine .inl ?_;have h3:=hv w hx;unfold Oper.quietAt at h3;unfold Oper.wp;generalize (execOp (d5 E al a).eval oi).run P w = r at *
       cases r with
       | ok nx w' =>
        cases nx <;> simp only[Oper.quietUpon] at h3 <;> simp only[Oper.upon]
        case value u =>
         obtain ⟨e1,e2⟩:=h3;rw [e1,e2];exact key w (cD.refl w)
        case skip =>
         obtain ⟨e1,e2⟩:=h3;rw [e1,← e2];exact key w (cD.refl w)
        case enter f' args =>
         obtain ⟨e1,hcl⟩:=h3;rw [e1];exact hcl.mono fun e w'' ⟨he,hw''⟩=>by subst he; exact key w'' hw''
       | halt x w'=>simp only[Oper.quietUpon] at h3
     · rw [if_neg (by rw [hw]; simp)]
       exact key w (cD.refl w)
theorem eV {id : Nat} {Q : Exit → Act → World → Prop} {a : Act} {w : World} {l : List Oper} (n : Nat) (idx : List Nat) (al : List Al) (hm : P.follows .mixedOrders = true)
 (hB : (Region.noSelect l.toArray && decide (n < l.length) && Region.sinkB .any l.toArray n && Region.chainB .any l.toArray n && B6 .any l.toArray n al && decide (n = idx.length + al.length) &&
  Ks .any l.toArray (l.length - n) n idx (al.foldl (fun s x=>s.setIfInBounds x.i true) (Array.replicate l.toArray.size false))) = true)
 (hal : ∀ x ∈ al,j1 P .any l.toArray x) {ol : List Oper} (hol : (idx.map fun i=>(l.toArray[i]?).getD default) = ol)
 (h : ∀ w1,cD w w1 → pC P l.toArray w1 (fun a'=>∀ E w',cD w1 w' → qY w1.heap.size E al w' → (∀ x ∈ al,∃ v,E x.i = some v) → wpList P l.toArray Q (l.drop n) (d5 E al a') w') ol a) : (Code.region id l.toArray true).wp P Q a w:=by
 simp only[Bool.and_eq_true,decide_eq_true_eq] at hB;obtain ⟨⟨⟨⟨⟨⟨hsel,hn⟩,hs⟩,hc⟩,hf⟩,hlen⟩,hlex⟩:=hB;subst hol;have hn' : n < l.toArray.size:=by simpa using hn
 have hf':=hf;simp only[B6,Bool.and_eq_true,decide_eq_true_eq,List.all_eq_true,List.mem_range] at hf';obtain ⟨⟨⟨hni,hnd⟩,hlt⟩,hcl⟩:=hf';generalize hlm : al.foldl (fun s x=>s.setIfInBounds x.i true) (Array.replicate l.toArray.size false) = lm at hlex;have hfold : ∀ (r : List Al) (s : Array Bool),(r.foldl (fun s x=>s.setIfInBounds x.i true) s).size = s.size ∧ ∀ j,j < s.size → (r.foldl (fun s x=>s.setIfInBounds x.i true) s).getD j false = (s.getD j false || r.any fun x=>x.i == j):=by
  intro r
  induction r with
  | nil=>intro s; exact ⟨rfl,fun j _=>by simp⟩
  | cons x r ih =>
   intro s;obtain ⟨h1,h2⟩:=ih (s.setIfInBounds x.i true);refine ⟨by rw [List.foldl_cons,h1]; simp,fun j hj=>?_⟩;rw [List.foldl_cons,h2 j (by simpa using hj),List.any_cons];by_cases e : x.i = j
   · subst e
     simp [hj]
   · have e2 : (x.i == j) = false:=by simpa using e
     rw [getD_set_ne false e,e2,Bool.false_or]
 obtain ⟨hsz,hget⟩:=hfold al (Array.replicate l.toArray.size false);rw [hlm] at hsz hget;have hsz' : lm.size = l.toArray.size:=by rw [hsz]; simp
 have hlmj : ∀ j,lm.getD j false = al.any fun x=>x.i == j:=fun j=>by
  rcases Nat.lt_or_ge j l.toArray.size with hj | hj
  · rw [hget j (by simpa using hj),getD_replicate_false,Bool.false_or]
  · have h1 : lm.getD j false = false:=by rw [Array.getD_eq_getD_getElem?,Array.getElem?_eq_none (by omega)]; rfl
    rw [h1]
    symm
    rw [Bool.eq_false_iff];intro h2;obtain ⟨x,hx1,hx2⟩:=List.any_eq_true.1 h2;have hx3 : x.i = j:=by simpa using hx2
    have : x.i < n:=by simpa using hlt x hx1
    omega
 have inv0 : HeadInv .any l.toArray n (Array.replicate l.toArray.size false) :=
  ⟨by simp,fun j oj _ hl=>(by rw [getD_replicate_false] at hl; cases hl),fun t _ ht=>getD_in (by simpa using ht) (getD_replicate_false _ _)⟩
 have invm : HeadInv .any l.toArray n lm:=by
  refine ⟨hsz',fun j oj hoj hl e he hb=>?_,fun t ht ht'=>getD_in (by rw [hsz']; exact ht') ?_⟩
  · rw [hlmj] at hl
    obtain ⟨x,hx1,hx2⟩:=List.any_eq_true.1 hl;have hx3 : x.i = j:=by simpa using hx2
    obtain ⟨ty,pos,after,hop,haf,_⟩:=hal x hx1;rw [hx3,hoj] at hop;cases hop;have:=Array.all_eq_true_iff_forall_mem.1 haf e he;simp [hb] at this
  · rw [hlmj,Bool.eq_false_iff]
    intro h2;obtain ⟨x,hx1,hx2⟩:=List.any_eq_true.1 h2;have hx3 : x.i = t:=by simpa using hx2
    have : x.i < n:=by simpa using hlt x hx1
    omega
 refine wp_region_any hm ?_;obtain ⟨w1,hw1⟩ : ∃ w1,w1 = ({ w with drawn:=w.drawn + 1 } : World):=⟨_,rfl⟩
 rw [← hw1];have hx1 : cD w w1:=by rw [hw1]; exact (cD.refl w).drawn
 have H:=wO (md:=.any) (g:=l.length - n) hsel hs hc hn' idx lm a invm hlex (h w1 hx1);have hcnt : Ej (fun _=>none) al = al.length:=by
  unfold Ej;simp
 have key:=W8 (md:=.any) (P:=P) (ops:=l.toArray) (w0:=w1) (Q':=Q) (tl:=l.drop n) (g:=l.length - n) (al:=al) hsel hs hc hn' hal hf (fun j=>by simp [List.getElem?_drop]) (by simp) (fun a E w' hw' hla hall hL=>hL E w' hw' hla hall)
  (idx.length + al.length) idx.length (fun _=>none) (Array.replicate l.toArray.size false) lm a w1 (by rw [hcnt]) inv0 (by rw [hsz']; simp) (fun j=>by rw [getD_replicate_false,Bool.false_or]; exact hlmj j)
  (fun x _=>⟨fun _=>getD_replicate_false _ _,fun _=>rfl⟩) (cD.refl w1) ⟨fun x _ v hv=>(by cases hv),fun x _ y _ _ g g' h1 _=>(by cases h1)⟩ H
 have hap : ∀ r : List Al,d5 (fun _=>none) r a = a:=by
  intro r
  induction r with
  | nil=>rfl
  | cons x r ih=>exact ih
 rw [hap,← hlen] at key;have e : n + (l.length - n) = l.toArray.size:=by rw [List.size_toArray]; omega
 rwa [e] at key
end
section
variable {P : Program} {ops : Array Oper} {w0 : World} {L : Act → Prop} {ds : List Deferred} {l : List Value} {rest : List Oper} {d : Nat} {op : Op} {ty : TypeId} {pos : String} {after : Array Edge} {v : Value} {x y : Operand} {T : TypeId}
theorem Kt (hr : ∀ w,cD w0 w → uT P l op ty v w) (h : pC P ops w0 L rest (Fr (l.set d v) ds)) : pC P ops w0 L (Oper.mk (some d) op ty pos after none :: rest) (Fr l ds):=by
 refine ⟨v,.inl ⟨by simp [Region.wanted],fun w hw=>?_⟩,?_⟩
 · unfold Oper.quietAt
   rw [gH,hr w hw _ rfl rfl];exact ⟨rfl,rfl⟩
 · show pC P ops w0 L rest ((Fr l ds).put (some d) v)
   rw [fV];exact h
theorem iE (hr : fF P l op ty v) (h : pC P ops w0 L rest (Fr (l.set d v) ds)) : pC P ops w0 L (Oper.mk (some d) op ty pos after none :: rest) (Fr l ds):=Kt (fun w _=>hr w) h
theorem eT {a : Addr} (hx : ev l x = .pointer (some a)) (hv : ∀ w',cD w0 w' → oY P w' T a v) (h : pC P ops w0 L rest (Fr (l.set d v) ds)) : pC P ops w0 L (Oper.mk (some d) (.load T x) ty pos after none :: rest) (Fr l ds) :=
 Kt (fun _ hE=>jN hx (hv _ hE)) h
theorem Oe {f : FuncId} {fo : Operand} {xs : Array Operand} {args : List Value} {first cap : Array Value} {a0 : Array TypeId} (hf : ev l fo = .func (.func f) first cap) (hxs : first.toList ++ xs.toList.map (ev l) ++ cap.toList = args) (hc : ∀ w',cD w0 w' → gD P f args w' fun u _=>u = v)
 (h : pC P ops w0 L rest (Fr (l.set d v) ds)) : pC P ops w0 L (Oper.mk (some d) (.call { callee:=.value fo,args:=xs,argTypes:=a0 }) ty pos after none :: rest) (Fr l ds):=by
 refine ⟨v,.inl ⟨by simp [Region.wanted],fun w hw=>?_⟩,?_⟩
 · unfold Oper.quietAt
   rw [gH,kL (hc w hw).1 hf hxs _ rfl];refine ⟨rfl,(hc w hw).2.mono ?_⟩;rintro e w'' ⟨u,rfl,hE,rfl⟩;exact ⟨rfl,hE⟩
 · show pC P ops w0 L rest ((Fr l ds).put (some d) v)
   rw [fV];exact h
theorem fU {f : FuncId} {fo : Operand} {xs : Array Operand} {args : List Value} {first cap : Array Value} {a0 : Array TypeId} (hf : ev l fo = .func (.func f) first cap) (hxs : first.toList ++ xs.toList.map (ev l) ++ cap.toList = args) (hc : eI P f args v)
 (h : pC P ops w0 L rest (Fr (l.set d v) ds)) : pC P ops w0 L (Oper.mk (some d) (.call { callee:=.value fo,args:=xs,argTypes:=a0 }) ty pos after none :: rest) (Fr l ds) :=
 Oe hf hxs (fun w' _=>hc w') h
theorem sI (h : L (Fr l ds)) : pC P ops w0 L [] (Fr l ds):=h
theorem Wm {md : Region.Mode} {x : Al} (h : j1 P md ops x) : ∀ y ∈ [x],j1 P md ops y:=fun y hy=>by
 rcases List.mem_cons.1 hy with rfl | hy
 · exact h
 · cases hy
theorem Tp {md : Region.Mode} {x y : Al} (h : j1 P md ops x) (k : j1 P md ops y) : ∀ z ∈ [x,y],j1 P md ops z:=fun z hz=>by
 rcases List.mem_cons.1 hz with rfl | hz
 · exact h
 · exact Wm k z hz
variable {Q : Exit → Act → World → Prop} {tl : List Oper}
theorem Se {i d : Nat} {T : TypeId} {cs : List Value} (h : ∀ w' g,cD w0 w' → w0.heap.size ≤ g → eU w' g cs T → wpList P ops Q tl (Fr (l.set d (.pointer (some ⟨g,0,none⟩))) ds) w') :
 ∀ E w',cD w0 w' → qY w0.heap.size E [⟨i,d,T,cs⟩] w' → (∀ x ∈ [(⟨i,d,T,cs⟩ : Al)],∃ v,E x.i = some v) → wpList P ops Q tl (d5 E [⟨i,d,T,cs⟩] (Fr l ds)) w':=fun E w' hE hL hv=>by
 obtain ⟨v,hv⟩:=hv ⟨i,d,T,cs⟩ (by simp);obtain ⟨g,rfl,hg,hB⟩:=hL.1 ⟨i,d,T,cs⟩ (by simp) v hv;have e : d5 E [⟨i,d,T,cs⟩] (Fr l ds) = Fr (l.set d (.pointer (some ⟨g,0,none⟩))) ds:=by
  simp only[d5,hv];exact fV _ _
 rw [e];exact h w' g hE hg hB
theorem Sf {i d j e : Nat} {T U : TypeId} {cs us : List Value} (hij : i ≠ j) (h : ∀ w' g k,cD w0 w' → w0.heap.size ≤ g → w0.heap.size ≤ k → eU w' g cs T → eU w' k us U → k ≠ g → wpList P ops Q tl (Fr ((l.set d (.pointer (some ⟨g,0,none⟩))).set e (.pointer (some ⟨k,0,none⟩))) ds) w') :
 ∀ E w',cD w0 w' → qY w0.heap.size E [⟨i,d,T,cs⟩,⟨j,e,U,us⟩] w' → (∀ x ∈ [(⟨i,d,T,cs⟩ : Al),⟨j,e,U,us⟩],∃ v,E x.i = some v) → wpList P ops Q tl (d5 E [⟨i,d,T,cs⟩,⟨j,e,U,us⟩] (Fr l ds)) w':=fun E w' hE hL hv=>by
 obtain ⟨v,h1⟩:=hv ⟨i,d,T,cs⟩ (by simp);obtain ⟨u,h2⟩:=hv ⟨j,e,U,us⟩ (by simp);obtain ⟨g,rfl,hg,hB⟩:=hL.1 ⟨i,d,T,cs⟩ (by simp) v h1;obtain ⟨k,rfl,hk,hK⟩:=hL.1 ⟨j,e,U,us⟩ (by simp) u h2;have e' : d5 E [⟨i,d,T,cs⟩,⟨j,e,U,us⟩] (Fr l ds) = Fr ((l.set d (.pointer (some ⟨g,0,none⟩))).set e (.pointer (some ⟨k,0,none⟩))) ds:=by
  simp only[d5,h1,h2];rw [fV,fV]
 rw [e'];exact h w' g k hE hg hk hB hK (Ne.symm (hL.2 ⟨i,d,T,cs⟩ (by simp) ⟨j,e,U,us⟩ (by simp) hij g k h1 h2))
end
end Go.Lith
namespace Go.Lith
section
variable {P : Program} {ops : Array Oper} {w0 : World} {ds : List Deferred} {l : List Value} {Q : Exit → Act → World → Prop} {tl : List Oper}
theorem W9 {md : Region.Mode} {x y z : Al} (h : j1 P md ops x) (k : j1 P md ops y) (m : j1 P md ops z) : ∀ u ∈ [x,y,z],j1 P md ops u:=fun u hu=>by
 rcases List.mem_cons.1 hu with rfl | hu
 · exact h
 · exact Tp k m u hu
theorem Sg {i d j e m f : Nat} {T U V : TypeId} {cs us vs : List Value} (hij : i ≠ j) (him : i ≠ m) (hjm : j ≠ m)
 (h : ∀ w' g k p,cD w0 w' → w0.heap.size ≤ g → w0.heap.size ≤ k → w0.heap.size ≤ p → eU w' g cs T → eU w' k us U → eU w' p vs V → k ≠ g → p ≠ g → p ≠ k → wpList P ops Q tl (Fr (((l.set d (.pointer (some ⟨g,0,none⟩))).set e (.pointer (some ⟨k,0,none⟩))).set f (.pointer (some ⟨p,0,none⟩))) ds) w') :
 ∀ E w',cD w0 w' → qY w0.heap.size E [⟨i,d,T,cs⟩,⟨j,e,U,us⟩,⟨m,f,V,vs⟩] w' → (∀ x ∈ [(⟨i,d,T,cs⟩ : Al),⟨j,e,U,us⟩,⟨m,f,V,vs⟩],∃ v,E x.i = some v) → wpList P ops Q tl (d5 E [⟨i,d,T,cs⟩,⟨j,e,U,us⟩,⟨m,f,V,vs⟩] (Fr l ds)) w':=fun E w' hE hL hv=>by
 obtain ⟨v,h1⟩:=hv ⟨i,d,T,cs⟩ (by simp);obtain ⟨u,h2⟩:=hv ⟨j,e,U,us⟩ (by simp);obtain ⟨s,h3⟩:=hv ⟨m,f,V,vs⟩ (by simp);obtain ⟨g,rfl,hg,hB⟩:=hL.1 ⟨i,d,T,cs⟩ (by simp) v h1;obtain ⟨k,rfl,hk,hK⟩:=hL.1 ⟨j,e,U,us⟩ (by simp) u h2;obtain ⟨p,rfl,hp,hP⟩:=hL.1 ⟨m,f,V,vs⟩ (by simp) s h3;have e' : d5 E [⟨i,d,T,cs⟩,⟨j,e,U,us⟩,⟨m,f,V,vs⟩] (Fr l ds) = Fr (((l.set d (.pointer (some ⟨g,0,none⟩))).set e (.pointer (some ⟨k,0,none⟩))).set f (.pointer (some ⟨p,0,none⟩))) ds:=by
  simp only[d5,h1,h2,h3];rw [fV,fV,fV]
 rw [e'];exact h w' g k p hE hg hk hp hB hK hP (Ne.symm (hL.2 ⟨i,d,T,cs⟩ (by simp) ⟨j,e,U,us⟩ (by simp) hij g k h1 h2)) (Ne.symm (hL.2 ⟨i,d,T,cs⟩ (by simp) ⟨m,f,V,vs⟩ (by simp) him g p h1 h3)) (Ne.symm (hL.2 ⟨j,e,U,us⟩ (by simp) ⟨m,f,V,vs⟩ (by simp) hjm k p h2 h3))
end
end Go.Lith
namespace Go.Lith
open Go.RowKit
def nv (v : P3) : Go.Value:=.agg #[.int .i64 v.x,.int .i64 v.y,.int .i64 v.z]
def sg (v : P3) : Go.Value:=.agg #[.int .i64 (dL v.x),.int .i64 (dL v.y),.int .i64 (dL v.z)]
class S3 (p : P3) : Prop where
 x : p.x.natAbs < 262144
 y : p.y.natAbs < 262144
 z : p.z.natAbs < 262144
class N3 (p : P3) : Prop where
 x : p.x.natAbs < 524288
 y : p.y.natAbs < 524288
 z : p.z.natAbs < 524288
instance {p q : P3} [a : S3 p] [b : S3 q] : N3 (p.sub q):=⟨by have:=a.x; have:=b.x; simp only[P3.sub]; omega,by have:=a.y; have:=b.y; simp only[P3.sub]; omega,by have:=a.z; have:=b.z; simp only[P3.sub]; omega⟩
theorem uW {a b : Int} (ha : a.natAbs < 524288) (hb : b.natAbs < 524288) : -274877906944 < a * b ∧ a * b < 274877906944:=by
 have h : (a * b).natAbs ≤ 524287 * 524287:=by rw [Int.natAbs_mul]; exact Nat.mul_le_mul (by omega) (by omega)
 omega
theorem Sh {x y : Int} (h : -274877906944 < x ∧ x < 274877906944) (k : -274877906944 < y ∧ y < 274877906944) : IntKind.i64.wrap (x - y) = x - y:=aL (by omega) (by omega)
theorem zY {x : Int} (h : -274877906944 < x ∧ x < 274877906944) : IntKind.i64.wrap x = x:=aL (by omega) (by omega)
theorem oP {v : Int} (h : kW v) : IntKind.u64.wrap (if v < IntKind.i64.wrap (0 - v) then IntKind.i64.wrap (0 - v) else v) = (v.natAbs : Int):=by
 obtain ⟨h1,h2⟩:=h;rcases Int.lt_or_le (-9223372036854775808) v with h3 | h3
 · rw [aL (x:=0 - v) (by omega) (by omega),iJ]
   split <;> omega
 · obtain rfl : v = -9223372036854775808:=by omega
   decide
def Of : ByteArray:=⟨#[0,1,2,2,3,3,3,3,4,4,4,4,4,4,4,4,5,5,5,5,5,5,5,5,5,5,5,5,5,5,5,5,6,6,6,6,6,6,6,6,6,6,6,6,6,6,6,6,6,6,6,6,6,6,6,6,6,6,6,6,6,6,6,6,7,7,7,7,7,7,7,7,7,7,7,7,7,7,7,7,7,7,7,7,7,7,7,7,7,7,7,7,7,7,7,7,7,7,7,7,7,7,7,7,7,7,7,7,7,7,7,7,7,7,7,7,7,7,7,7,7,7,7,7,7,7,7,7,8,8,8,8,8,8,8,8,8,8,8,8,8,8,8,8,8,8,8,8,8,8,8,8,8,8,8,8,8,8,8,8,8,8,8,8,8,8,8,8,8,8,8,8,8,8,8,8,8,8,8,8,8,8,8,8,8,8,8,8,8,8,8,8,8,8,8,8,8,8,8,8,8,8,8,8,8,8,8,8,8,8,8,8,8,8,8,8,8,8,8,8,8,8,8,8,8,8,8,8,8,8,8,8,8,8,8,8,8,8,8,8,8,8,8,8,8,8,8,8,8,8,8,8,8,8,8,8]⟩
theorem Hy : ∀ i,i < 256 → ∃ b : UInt8,Of[i]? = some b ∧ b.toNat ≤ 8 ∧ (b.toNat ≤ 2 → i < 4):=by
 have h : (List.range 256).all (fun i=>match Of[i]? with
  | some b=>decide (b.toNat ≤ 8) && (decide (2 < b.toNat) || decide (i < 4))
  | none=>false) = true:=by decide +kernel
 intro i hi;have:=List.all_eq_true.1 h i (List.mem_range.2 hi);cases hb : Of[i]? with
 | none=>rw [hb] at this; cases this
 | some b =>
  rw [hb] at this;simp only[Bool.and_eq_true,Bool.or_eq_true,decide_eq_true_eq] at this;exact ⟨b,rfl,this.1,fun h=>by omega⟩
section
variable {P : Program} {ds : List Deferred} {l : List Value} {x y : Operand} {T ty : TypeId} {ops : Array Oper} {Q : Exit → Act → World → Prop} {rest : List Oper} {d : Nat} {pos : String} {after : Array Edge} {w : World} {k : IntKind}
theorem pF {Y : Nat} (hu : P.underlying T = some .string) (hx : ev l x = .string Of) (hy : ev l y = .int k (Y : Int)) (hY : Y < 256) (h : ∀ b : Nat,b ≤ 8 → (b ≤ 2 → Y < 4) → wpList P ops Q rest (Fr (l.set d (.int .u8 (b : Int))) ds) w) :
 wpList P ops Q (Oper.mk (some d) (.index T x y) ty pos after none :: rest) (Fr l ds) w:=by
 obtain ⟨b,hb,h1,h2⟩:=Hy Y hY;exact aA (l1 hu hx hy (by omega) (by rw [Int.toNat_natCast]; exact hb)) (h b.toNat h1 h2)
end
theorem Ku {m : Nat} : (m : Int).fdiv (2 ^ (min (16 : Int).toNat IntKind.u64.bits)) = ((m / 65536 : Nat) : Int):=by
 show (m : Int).fdiv (2 ^ 16) = _
 rw [Int.fdiv_eq_ediv_of_nonneg _ (by decide)];omega
theorem Gi {m : Nat} : (m : Int).fdiv (2 ^ (min (8 : Int).toNat IntKind.u64.bits)) = ((m / 256 : Nat) : Int):=by
 show (m : Int).fdiv (2 ^ 8) = _
 rw [Int.fdiv_eq_ediv_of_nonneg _ (by decide)];omega
end Go.Lith
namespace Go.Lith
open Go.RowKit
def Hz (x p q : P3) : Rat :=
 if (q.sub p).dot (x.sub p) ≤ 0 then Rat.divInt ((x.sub p).dot (x.sub p)) 1
 else if (q.sub p).dot (q.sub p) ≤ (q.sub p).dot (x.sub p) then Rat.divInt ((q.sub x).dot (q.sub x)) 1
 else Rat.divInt ((x.sub p).dot (x.sub p) * (q.sub p).dot (q.sub p) - (q.sub p).dot (x.sub p) * (q.sub p).dot (x.sub p)) ((q.sub p).dot (q.sub p))
def Si (n a b x : P3) : Int:=n.dot ((b.sub a).cross (x.sub a))
def W4 (x : P3) (t : T3) : Prop:=0 ≤ Si t.normal t.a t.b x ∧ 0 ≤ Si t.normal t.b t.c x ∧ 0 ≤ Si t.normal t.c t.a x
instance (x : P3) (t : T3) : Decidable (W4 x t):=inferInstanceAs (Decidable (_ ∧ _ ∧ _))
def T3.flat (t : T3) : Prop:=t.normal.x = 0 ∧ t.normal.y = 0 ∧ t.normal.z = 0
instance (t : T3) : Decidable t.flat:=inferInstanceAs (Decidable (_ ∧ _ ∧ _))
def Og (m q : Rat) : Rat:=if q < m then q else m
def Vn (x : P3) (t : T3) : Rat:=Og (Og (Hz x t.a t.b) (Hz x t.b t.c)) (Hz x t.c t.a)
def Vo (x : P3) (t : T3) : Rat:=Rat.divInt (t.normal.dot (x.sub t.a) * t.normal.dot (x.sub t.a)) (t.normal.dot t.normal)
def Sj (x : P3) (t : T3) : Rat:=if ¬ t.flat ∧ W4 x t then Vo x t else Vn x t
theorem fZ {n : Int} : dL n = 0 ↔ n = 0:=by
 unfold dL;constructor
 · intro h
   split at h
   · cases h
   · split at h
     · cases h
     · omega
 · rintro rfl; rfl
theorem Dq {n : Int} : 0 ≤ dL n ↔ 0 ≤ n:=by
 unfold dL;split
 · constructor <;> intro h <;> omega
 · split <;> constructor <;> intro h <;> omega
theorem jD {n : Int} : 0 < dL n ↔ 0 < n:=by
 unfold dL;split
 · constructor <;> intro h <;> omega
 · split <;> constructor <;> intro h <;> omega
theorem zZ (a : Int) : 0 ≤ a * a:=by
 rcases Int.le_total 0 a with h | h
 · exact Int.mul_nonneg h h
 · exact Int.mul_nonneg_of_nonpos_of_nonpos h h
theorem Fc {a : Int} (h : a ≠ 0) : 0 < a * a:=by
 rcases Int.lt_or_gt_of_ne h with h | h
 · exact Int.mul_pos_of_neg_of_neg h h
 · exact Int.mul_pos h h
theorem Sk (u : P3) : 0 ≤ u.dot u:=by
 have:=zZ u.x; have:=zZ u.y; have:=zZ u.z;simp only[P3.dot]; omega
theorem Oh {u : P3} : 0 < u.dot u ↔ ¬ (u.x = 0 ∧ u.y = 0 ∧ u.z = 0):=by
 have h1:=zZ u.x; have h2:=zZ u.y; have h3:=zZ u.z;constructor
 · rintro h ⟨e1,e2,e3⟩
   simp [P3.dot,e1,e2,e3] at h
 · intro h
   simp only[P3.dot];by_cases e1 : u.x = 0
   · by_cases e2 : u.y = 0
     · by_cases e3 : u.z = 0
       · exact absurd ⟨e1,e2,e3⟩ h
       · have:=Fc e3; omega
     · have:=Fc e2; omega
   · have:=Fc e1; omega
theorem Kv {t : T3} : 0 < t.normal.dot t.normal ↔ ¬ t.flat:=Oh
theorem Bq.mono {k m : Nat} {q : Rat} (h : Bq k q) (hk : k ≤ m) : Bq m q:=⟨h.n.mono hk,h.d.mono hk⟩
theorem qK : Bd 1 1:=by
 show Int.natAbs 1 < 2 ^ 1
 decide
instance : Bw 1 1:=⟨qK⟩
theorem vF {x p q : P3} [I3 x] [I3 p] [I3 q] : Bq 1000 (Hz x p q):=by
 unfold Hz;split
 · exact (Bq.mk' (a:=200) (b:=1) Bw.up qK (by decide)).mono (by decide)
 · split
   · exact (Bq.mk' (a:=200) (b:=1) Bw.up qK (by decide)).mono (by decide)
   · exact (Bq.mk' (a:=400) (b:=200) Bw.up Bw.up (by rename_i h1 h2; have:=Sk (q.sub p); omega)).mono (by decide)
theorem Gj {m q : Rat} (h : Bq 1000 m) (k : Bq 1000 q) : Bq 1000 (Og m q):=by
 unfold Og;split
 · exact k
 · exact h
theorem Oi {x : P3} {t : T3} [I3 x] [IT t] : Bq 1000 (Sj x t):=by
 unfold Sj;split
 · rename_i h
   have:=Kv.2 h.1;exact (Bq.mk' (a:=500) (b:=300) Bw.up Bw.up (by omega)).mono (by decide)
 · exact Gj (Gj vF vF) vF
theorem Bq.up {k m : Nat} {q : Rat} [h : Bq k q] (hk : k ≤ m:=by decide) : Bq m q:=h.mono hk
instance {x p q : P3} [I3 x] [I3 p] [I3 q] : Bq 1000 (Hz x p q):=vF
instance {x : P3} {t : T3} [I3 x] [IT t] : Bq 1000 (Sj x t):=Oi
structure cJ (w : World) (A : Option Addr) (n : Nat) (ts : List T3) : Prop where
 len : ts.length = n
 it : ∀ t ∈ ts,IT t
 row : ∀ i t,ts[i]? = some t → ∃ a,A = some a ∧ pS w (a.add (i * 9)) [.int .i64 t.a.x,.int .i64 t.a.y,.int .i64 t.a.z,.int .i64 t.b.x,.int .i64 t.b.y,.int .i64 t.b.z,.int .i64 t.c.x,.int .i64 t.c.y,.int .i64 t.c.z]
theorem cJ.ext {w w' : World} {A : Option Addr} {n : Nat} {ts : List T3} (h : cJ w A n ts) (hE : cD w w') : cJ w' A n ts :=
 ⟨h.len,h.it,fun i t hi=>let ⟨a,e,hr⟩:=h.row i t hi; ⟨a,e,hr.ext hE⟩⟩
theorem cJ.nil (w : World) (A : Option Addr) : cJ w A 0 []:=⟨rfl,fun t h=>(by cases h),fun i t h=>(by cases h)⟩
theorem cJ.get {w : World} {A : Option Addr} {n : Nat} {ts : List T3} (h : cJ w A n ts) {i : Nat} (hi : i < n) : ∃ t,ts[i]? = some t ∧ IT t ∧ ∃ a,A = some a ∧ pS w (a.add (i * 9)) [.int .i64 t.a.x,.int .i64 t.a.y,.int .i64 t.a.z,.int .i64 t.b.x,.int .i64 t.b.y,.int .i64 t.b.z,.int .i64 t.c.x,.int .i64 t.c.y,.int .i64 t.c.z]:=by
 have hl : i < ts.length:=by rw [h.len]; exact hi
 refine ⟨ts[i],List.getElem?_eq_getElem hl,h.it _ (List.getElem_mem hl),h.row i _ (List.getElem?_eq_getElem hl)⟩
end Go.Lith
namespace Go.Lith
open Go.RowKit
def nn (t : T3) : Int:=t.normal.dot t.normal
def H0 (t : T3) : Int:=(j5 (nn t).natAbs : Int)
def Qg (t : T3) : Int:=H0 t + if H0 t * H0 t = nn t then 0 else 1
theorem Gk {t : T3} [IT t] : Bd 300 (H0 t):=by
 have h : Bd 300 (nn t):=(Bw.up : Bd 300 (t.normal.dot t.normal))
 refine h.of_le ?_;simp only[H0,Int.natAbs_natCast];exact Kk _
theorem Kw {t : T3} [IT t] : Bd 301 (Qg t):=by
 refine (Gk (t:=t)).add ?_ |>.mono (by decide : max 300 1 + 1 ≤ 301)
 split
 · exact gT 1
 · exact qK
instance {t : T3} [IT t] : Bw 300 (H0 t):=⟨Gk⟩
instance {t : T3} [IT t] : Bw 301 (Qg t):=⟨Kw⟩
instance {t : T3} [IT t] : Bw 300 (nn t):=⟨(Bw.up : Bd 300 (t.normal.dot t.normal))⟩
def W5 (t : T3) : Int:=t.a.dot (t.b.cross t.c)
theorem Kx {p : P3} [h : I3 p] : Bv 64 p:=⟨h.x.bd,h.y.bd,h.z.bd⟩
theorem Sl {t : T3} [IT t] : Bd 200 (W5 t):=by
 haveI:=Kx (p:=t.a);haveI:=Kx (p:=t.b);haveI:=Kx (p:=t.c);exact (Bw.up : Bd 200 (t.a.dot (t.b.cross t.c)))
instance {t : T3} [IT t] : Bw 200 (W5 t):=⟨Sl⟩
theorem cJ.one {w : World} {g : Nat} {t : T3} {T : TypeId} [h : IT t] (hB : eU w g [.int .i64 t.a.x,.int .i64 t.a.y,.int .i64 t.a.z,.int .i64 t.b.x,.int .i64 t.b.y,.int .i64 t.b.z,.int .i64 t.c.x,.int .i64 t.c.y,.int .i64 t.c.z] T) : cJ w (some ⟨g,0,none⟩) 1 [t]:=by
 refine ⟨rfl,fun u hu=>?_,fun i u hi=>?_⟩
 · obtain rfl:=List.mem_singleton.1 hu
   exact h
 · cases i with
   | zero =>
    cases hi;exact ⟨_,rfl,hB.row 0⟩
   | succ i=>cases hi
theorem cJ.at {w : World} {a : Addr} {n i : Nat} {ts : List T3} {t : T3} (h : cJ w (some a) n ts) (ht : ts[i]? = some t) : pS w (a.add (i * 9)) [.int .i64 t.a.x,.int .i64 t.a.y,.int .i64 t.a.z,.int .i64 t.b.x,.int .i64 t.b.y,.int .i64 t.b.z,.int .i64 t.c.x,.int .i64 t.c.y,.int .i64 t.c.z]:=by
 obtain ⟨a',ha,hr⟩:=h.row i t ht;cases ha;exact hr
theorem cJ.empty {w : World} {A : Option Addr} {n : Nat} {ts : List T3} (h : cJ w A n ts) (h0 : n = 0) : ts = []:=List.eq_nil_of_length_eq_zero (by rw [h.len]; exact h0)
end Go.Lith
namespace Go.Lith
open Go.RowKit
def bV (t : T3) : List Go.Value:=[.int .i64 t.a.x,.int .i64 t.a.y,.int .i64 t.a.z,.int .i64 t.b.x,.int .i64 t.b.y,.int .i64 t.b.z,.int .i64 t.c.x,.int .i64 t.c.y,.int .i64 t.c.z]
theorem pS.pre {w : World} {a : Addr} {xs ys : List Go.Value} (h : pS w a (xs ++ ys)) : pS w a xs:=fun j u hj=>h j u (by
 have hl : j < xs.length:=(List.getElem?_eq_some_iff.1 hj).1;rw [List.getElem?_append_left hl]; exact hj)
theorem kZ (t : T3) : (bV t).length = 9:=rfl
theorem lW : ∀ (ts : List T3) (i : Nat) (t : T3),ts[i]? = some t → (ts.flatMap bV).drop (i * 9) = bV t ++ (ts.drop (i + 1)).flatMap bV
 | [],i,t,h=>by cases h
 | u :: ts,0,t,h=>by
  cases h;rfl
 | u :: ts,i + 1,t,h=>by
  rw [List.flatMap_cons,show (i + 1) * 9 = (bV u).length + i * 9 by rw [kZ]; omega,List.drop_append,List.drop_of_length_le (by omega),List.nil_append];rw [show (bV u).length + i * 9 - (bV u).length = i * 9 by omega];exact lW ts i t h
theorem cJ.of_cells {w : World} {g n : Nat} {ts : List T3} {T : TypeId} {cs : List Go.Value} (hB : eU w g cs T) (hc : cs = ts.flatMap bV) (hn : ts.length = n) (hi : ∀ t ∈ ts,IT t) : cJ w (some ⟨g,0,none⟩) n ts:=by
 subst hc;refine ⟨hn,hi,fun i t ht=>⟨_,rfl,?_⟩⟩;rw [eY,Nat.zero_add];have:=hB.row (i * 9);rw [lW ts i t ht] at this;exact this.pre
instance {a b c : Int} [x : Iw a] [y : Iw b] [z : Iw c] : I3 ⟨a,b,c⟩:=⟨x.h,y.h,z.h⟩
instance {a b c : P3} [x : I3 a] [y : I3 b] [z : I3 c] : IT ⟨a,b,c⟩:=⟨x,y,z⟩
end Go.Lith
namespace Go.Lith
open Go.RowKit
abbrev nP (A : Option Addr) : Option Nat:=A.map (·.block)
structure Ow (w0 w : World) (S : List (Option Nat)) (E : TypeId) (c : Nat) (A : Option Addr) (n cap : Nat) (xs : List Value) : Prop where
 own : w.ownsRow w0.heap.size E c (.slice A n cap) n xs
 sep : ∀ b,nP A = some b → some b ∉ S
 bd : ∀ b,some b ∈ S → b < w.heap.size
structure Wr (w w' : World) (A : Option Addr) : Prop where
 os : w'.os = w.os
 tape : w'.tape = w.tape
 output : w'.output = w.output
 size : w.heap.size ≤ w'.heap.size
 block : ∀ k,k < w.heap.size → nP A ≠ some k → w'.heap[k]? = w.heap[k]?
theorem jE {w : World} {base c n cap : Nat} {E : TypeId} {A : Option Addr} {xs : List Value} (h : w.ownsRow base E c (.slice A n cap) n xs) :
 (A = none ∧ n = 0 ∧ cap = 0 ∧ xs = []) ∨ ∃ g cur,A = some ⟨g,0,none⟩ ∧ base ≤ g ∧ w.heap[g]? = some (.cells cur E (0,0)) ∧ n ≤ cap ∧ cap ≤ maxLen ∧ cur.size = cap * c ∧ cur.toList.take (n * c) = xs:=by
 rcases h.2 with ⟨h1,h2⟩ | ⟨g,cap',cur,h1,h2,h3,h4,h5,h6,h7⟩
 · cases h1
   exact .inl ⟨rfl,h2,rfl,List.eq_nil_of_length_eq_zero (by rw [h.1,h2,Nat.zero_mul])⟩
 · cases h1
   exact .inr ⟨g,cur,rfl,h2,h3,h4,h5,h6,h7⟩
section
variable {w0 w w' : World} {S : List (Option Nat)} {E : TypeId} {c n cap : Nat} {A : Option Addr} {xs : List Value}
theorem Ow.cases (h : Ow w0 w S E c A n cap xs) : (A = none ∧ n = 0 ∧ cap = 0 ∧ xs = []) ∨ ∃ g cur,A = some ⟨g,0,none⟩ ∧ w0.heap.size ≤ g ∧ w.heap[g]? = some (.cells cur E (0,0)) ∧ n ≤ cap ∧ cap ≤ maxLen ∧ cur.size = cap * c ∧ cur.toList.take (n * c) = xs:=jE h.own
theorem Ow.lt (h : Ow w0 w S E c A n cap xs) : ∀ b,nP A = some b → b < w.heap.size:=fun b hb=>by
 rcases h.cases with ⟨rfl,_⟩ | ⟨g,cur,rfl,_,hg,_⟩
 · cases hb
 · cases hb
   exact (Array.getElem?_eq_some_iff.1 hg).1
theorem Ow.ge (h : Ow w0 w S E c A n cap xs) : ∀ b,nP A = some b → w0.heap.size ≤ b:=fun b hb=>by
 rcases h.cases with ⟨rfl,_⟩ | ⟨g,cur,rfl,hg,_⟩
 · cases hb
 · cases hb
   exact hg
theorem Ow.le (h : Ow w0 w S E c A n cap xs) : n ≤ cap:=by
 rcases h.cases with ⟨_,rfl,rfl,_⟩ | ⟨g,cur,_,_,_,h1,_⟩
 · exact Nat.le_refl _
 · exact h1
theorem Ow.some (h : Ow w0 w S E c A n cap xs) (hn : 0 < n) : ∃ g,A = some ⟨g,0,none⟩:=by
 rcases h.cases with ⟨_,rfl,_⟩ | ⟨g,cur,rfl,_⟩
 · omega
 · exact ⟨g,rfl⟩
theorem Ow.keep (h : Ow w0 w S E c A n cap xs) (hs : w.heap.size ≤ w'.heap.size) (hb : ∀ b,nP A = Option.some b → w'.heap[b]? = w.heap[b]?) : Ow w0 w' S E c A n cap xs:=by
 refine ⟨⟨h.own.1,?_⟩,h.sep,fun b hb=>Nat.lt_of_lt_of_le (h.bd b hb) hs⟩;rcases h.cases with ⟨rfl,rfl,rfl,_⟩ | ⟨g,cur,rfl,h1,h2,h3⟩
 · exact .inl ⟨rfl,rfl⟩
 · exact .inr ⟨g,cap,cur,rfl,h1,(hb g rfl).trans h2,h3⟩
theorem Ow.ext (h : Ow w0 w S E c A n cap xs) (hE : cD w w') : Ow w0 w' S E c A n cap xs:=h.keep hE.size fun b hb=>Below.block hE b (h.lt b hb)
theorem Ow.chg {g : Nat} (h : Ow w0 w S E c A n cap xs) (hC : yF w w' g) (hg : Option.some g ∈ S) : Ow w0 w' S E c A n cap xs :=
 h.keep (by rw [hC.size]; exact Nat.le_refl _) fun b hb=>hC.block b (fun e=>h.sep b hb (e ▸ hg))
theorem Ow.new {g : Nat} (h : Ow w0 w S E c A n cap xs) (hE : cD w w') (hg : w.heap.size ≤ g) (hl : g < w'.heap.size) : Ow w0 w' (Option.some g :: S) E c A n cap xs:=by
 refine ⟨(h.ext hE).own,fun b hb hm=>?_,fun b hb=>?_⟩
 · rcases List.mem_cons.1 hm with e | hm
   · cases e
     have:=h.lt _ hb;omega
   · exact h.sep b hb hm
 · rcases List.mem_cons.1 hb with e | hb
   · cases e; exact hl
   · exact Nat.lt_of_lt_of_le (h.bd b hb) hE.size
theorem Ow.sub {T : List (Option Nat)} (h : Ow w0 w S E c A n cap xs) (hT : ∀ s ∈ T,s ∈ S) : Ow w0 w T E c A n cap xs:=⟨h.own,fun b hb hm=>h.sep b hb (hT _ hm),fun b hb=>h.bd b (hT _ hb)⟩
theorem Ow.base {w1 : World} (h : Ow w0 w S E c A n cap xs) (hX : cD w1 w0) : Ow w1 w S E c A n cap xs:=by
 refine ⟨⟨h.own.1,?_⟩,h.sep,h.bd⟩;rcases h.cases with ⟨rfl,rfl,rfl,_⟩ | ⟨g,cur,rfl,h1,h2,h3⟩
 · exact .inl ⟨rfl,rfl⟩
 · exact .inr ⟨g,cap,cur,rfl,Nat.le_trans hX.size h1,h2,h3⟩
theorem Ow.newO {w1 : World} {S2 : List (Option Nat)} {E2 : TypeId} {c2 n2 cap2 : Nat} {A2 : Option Addr} {xs2 : List Value} (h : Ow w0 w S E c A n cap xs) (hE : cD w w') (h2 : Ow w w' S2 E2 c2 A2 n2 cap2 xs2) : Ow w0 w' (nP A2 :: S) E c A n cap xs:=by
 refine ⟨(h.ext hE).own,fun b hb hm=>?_,fun b hb=>?_⟩
 · rcases List.mem_cons.1 hm with e | hm
   · have:=h2.ge b e.symm
     have:=h.lt b hb;omega
   · exact h.sep b hb hm
 · rcases List.mem_cons.1 hb with e | hb
   · exact h2.lt b e.symm
   · exact Nat.lt_of_lt_of_le (h.bd b hb) hE.size
theorem Ow.wr {A2 : Option Addr} (h : Ow w0 w S E c A n cap xs) (hW : Wr w w' A2) (hm : nP A2 ∈ S) : Ow w0 w' S E c A n cap xs :=
 h.keep hW.size fun b hb=>hW.block b (h.lt b hb) (fun e=>h.sep b hb (e ▸ hm))
theorem eU.wr {g : Nat} {cs : List Value} {t : TypeId} (hB : eU w g cs t) (hW : Wr w w' A) (h : Ow w0 w S E c A n cap xs) (hm : Option.some g ∈ S) : eU w' g cs t:=(hW.block g hB.lt (fun e=>h.sep g e hm)).trans hB
theorem cD.wr {w1 : World} (hX : cD w1 w) (h : Ow w1 w S E c A n cap xs) (hW : Wr w w' A) : cD w1 w' :=
 ⟨hW.os.trans hX.os,hW.tape.trans hX.tape,hW.output.trans hX.output,Nat.le_trans hX.size hW.size,fun k hk=>(hW.block k (Nat.lt_of_lt_of_le hk hX.size) (fun e=>by have:=h.ge k e; omega)).trans (Below.block hX k hk)⟩
theorem Ow.row (h : Ow w0 w S E c A n cap xs) : ∀ j u,xs[j]? = Option.some u → ∃ a,A = Option.some a ∧ w.cell? (a.add j) = Option.some u:=fun j u hj=>by
 rcases h.cases with ⟨_,_,_,rfl⟩ | ⟨g,cur,rfl,_,hg,_,_,_,h4⟩
 · cases hj
 · refine ⟨_,rfl,?_⟩
   rw [eY,Nat.zero_add,cell_of_row w g j cur E (0,0) hg];rw [← h4,List.getElem?_take] at hj;split at hj
   · simpa using hj
   · cases hj
theorem Ow.rows {g : Nat} (h : Ow w0 w S E c (Option.some ⟨g,0,none⟩) n cap xs) : pS w ⟨g,0,none⟩ xs:=fun j u hj=>by
 obtain ⟨a,e,h1⟩:=h.row j u hj;cases e;exact h1
theorem Ow.nil (w0 w : World) (E : TypeId) (c : Nat) : Ow w0 w [] E c none 0 0 []:=⟨World.ownsRow_nil w _ E c,fun _ h=>(by cases h),fun _ h=>(by cases h)⟩
theorem Ow.mk' {g : Nat} {cs : List Value} (hB : eU w g cs E) (hg : w0.heap.size ≤ g) (hl : cs.length = n * c) (hm : n ≤ maxLen) : Ow w0 w [] E c (Option.some ⟨g,0,none⟩) n n cs :=
 ⟨⟨hl,.inr ⟨g,n,_,rfl,hg,hB,Nat.le_refl _,hm,by simpa using hl,by simp [← hl]⟩⟩,fun _ _ h=>(by cases h),fun _ h=>(by cases h)⟩
theorem Ow.take (h : Ow w0 w S E c A n cap xs) {k : Nat} (hk : k ≤ n) : Ow w0 w S E c A k cap (xs.take (k * c)):=by
 have hl : (xs.take (k * c)).length = k * c:=by
  rw [List.length_take,h.own.1];exact Nat.min_eq_left (Nat.mul_le_mul_right _ hk)
 refine ⟨⟨hl,?_⟩,h.sep,h.bd⟩;rcases h.cases with ⟨rfl,rfl,rfl,_⟩ | ⟨g,cur,rfl,h1,h2,h3,h4,h5,h6⟩
 · obtain rfl : k = 0:=by omega
   exact .inl ⟨rfl,rfl⟩
 · refine .inr ⟨g,cap,cur,rfl,h1,h2,by omega,h4,h5,?_⟩
   rw [← h6,List.take_take,Nat.min_eq_left (Nat.mul_le_mul_right _ hk)]
theorem Ow.as {ys : List Value} (h : Ow w0 w S E c A n cap xs) (e : xs = ys) : Ow w0 w S E c A n cap ys:=e ▸ h
theorem Ow.len (h : Ow w0 w S E c A n cap xs) {m : Nat} (e : n = m) : Ow w0 w S E c A m cap xs:=e ▸ h
end
section
variable {P : Program} {ds : List Deferred} {l : List Value} {x y : Operand} {T ty : TypeId}
variable {ops : Array Oper} {Q : Exit → Act → World → Prop} {rest : List Oper} {d : Nat} {pos : String} {after : Array Edge} {w w0 : World} {S : List (Option Nat)} {E : TypeId} {c n cap m mcap : Nat} {A B : Option Addr} {xs news : List Value}
theorem Wr.refl (w : World) (A : Option Addr) : Wr w w A:=⟨rfl,rfl,rfl,Nat.le_refl _,fun _ _ _=>rfl⟩
theorem xZ {t : TypeId} {i : TypeInfo} {z : Value} {bytes : Nat} (ht : P.underlying t = some (.slice E)) (hi : P.info? E = some i) (hz : i.zero = some z) (hsize : i.size = c) (hby : i.bytes = bytes) (hzs : z.cells.size = c) (hsz : 0 < c)
 (hown : Ow w0 w S E c A n cap xs) (hl : news.length = m * c) (hnews : ∀ j u,news[j]? = some u → ∃ a,B = some a ∧ w.cell? (a.add j) = some u) (h1 : ∀ u ∈ news,u.oneCell' = true)
 (h63 : n + m ≤ maxLen) (hbytes : (n + m) * bytes ≤ 140737488355328) (hbase : w0.heap.size ≤ w.heap.size) :
 ∃ A' cap' w',(Builtin.append_ #[t,t] ty #[.slice A n cap,.slice B m mcap]).run P w = .ok (.slice A' (n + m) cap') w' ∧ Ow w0 w' S E c A' (n + m) cap' (xs ++ news) ∧ Wr w w' A ∧ (A' = A ∨ nP A' = some w.heap.size):=by
 subst hsize;subst hby;have hsmall : n + m ≤ 9223372036854775807:=by simp only[maxLen] at h63; omega
 have hlen : (xs ++ news).length = (n + m) * i.size:=by rw [List.length_append,hown.own.1,hl,Nat.add_mul]
 have grown : ∀ (old : Nat),old < n + m →
  Ow w0 (w.drew.alloc (.cells (xs.toArray ++ news.toArray ++ Builtin.zeroCells z.cells (grownCap w (n + m) old E - (n + m))) E)) S E i.size
   (some ⟨w.heap.size,0,none⟩) (n + m) (grownCap w (n + m) old E) (xs ++ news) ∧
  Wr w (w.drew.alloc (.cells (xs.toArray ++ news.toArray ++ Builtin.zeroCells z.cells (grownCap w (n + m) old E - (n + m))) E)) A:=by
  intro old ho;have hge:=grownCap_ge w (n + m) old E;have hcm : grownCap w (n + m) old E ≤ maxLen:=grownCap_le_maxLen w (n + m) old E h63;refine ⟨⟨⟨hlen,.inr ⟨w.heap.size,_,_,rfl,hbase,heap_alloc_new w.drew _,hge,hcm,?_,?_⟩⟩,fun b hb hm=>?_,fun b hb=>?_⟩,⟨rfl,rfl,rfl,by simp,fun k hk _=>heap_alloc_old w.drew _ (h:=hk)⟩⟩
  · simp only[Array.size_append,List.size_toArray,size_zeroCells,hzs,hown.own.1,hl,← Nat.add_mul]
    congr 1
    omega
  · simp only[Array.toList_append,List.append_assoc]
    rw [← List.append_assoc,← hlen];exact List.take_left
  · have hb' : w.heap.size = b:=by simpa using hb
    subst hb';exact absurd (hown.bd _ hm) (Nat.lt_irrefl _)
  · have:=hown.bd _ hb
    have h2 : (w.drew.alloc (.cells (xs.toArray ++ news.toArray ++ Builtin.zeroCells z.cells (grownCap w (n + m) old E - (n + m))) E)).heap.size = w.heap.size + 1:=by simp
    rw [h2];omega
 have hB0 : B = none → m = 0 ∧ news = []:=fun hB=>by
  have hn : news = []:=by
   cases news with
   | nil=>rfl
   | cons u us=>obtain ⟨a,e,_⟩:=hnews 0 u rfl; rw [hB] at e; cases e
  subst hn;refine ⟨?_,rfl⟩;rcases Nat.eq_zero_or_pos m with h0 | h0
  · exact h0
  · have:=Nat.mul_pos h0 hsz; simp at hl; omega
 rcases hown.cases with ⟨rfl,rfl,rfl,rfl⟩ | ⟨g,cur,rfl,hbg,hg,hnc,hcm,hcs,htake⟩
 · by_cases hm : m = 0
   · subst hm
     have hn : news = []:=List.eq_nil_of_length_eq_zero (by simpa using hl);subst hn;refine ⟨none,0,w,?_,by simpa using hown,Wr.refl _ _,.inl rfl⟩;cases B <;> simp [Builtin.append_,run_underlying ht,sizeOf,typeInfo,hi,Builtin.lenOf,Builtin.firstCells,loadCells,loadCellsFrom]
   · cases B with
     | none=>exact absurd (hB0 rfl).1 hm
     | some a =>
      have hr:=run_append_nil (P:=P) w t ty E i z ht hi hz a m mcap news hl (fun j u hj=>by obtain ⟨a',e,h⟩:=hnews j u hj; cases e; exact h) (by omega) (by omega) (by have hb:=hbytes; simp only[Nat.zero_add] at hb; omega);have hgr:=grown 0 (by omega);simp only[Nat.zero_add,List.nil_append,Array.empty_append] at hgr ⊢;exact ⟨_,_,_,hr,hgr.1,hgr.2,.inr rfl⟩
 · cases B with
   | none =>
    obtain ⟨rfl,rfl⟩:=hB0 rfl;refine ⟨some ⟨g,0,none⟩,cap,w,?_,by simpa using hown,Wr.refl _ _,.inl rfl⟩;simp [Builtin.append_,run_underlying ht,sizeOf,typeInfo,hi,Builtin.lenOf,Builtin.firstCells,hnc,storeCells]
   | some a =>
    have hnews' : ∀ j u,news[j]? = some u → w.cell? (a.add j) = some u:=fun j u hj=>by obtain ⟨a',e,h⟩:=hnews j u hj; cases e; exact h
    by_cases hroom : n + m ≤ cap
    · have hfit : n * i.size + news.length ≤ cur.size:=by rw [hl,hcs,← Nat.add_mul]; exact Nat.mul_le_mul_right _ hroom
      have hr:=run_append_room (P:=P) w t ty E i ht hi g n cap cur hg a m mcap news hl hnews' h1 hroom hfit;refine ⟨_,_,_,hr,⟨⟨hlen,.inr ⟨g,cap,_,rfl,hbg,setRow_heap w g cur _ E _ hg,hroom,hcm,?_,?_⟩⟩,hown.sep,fun b hb=>by simpa using hown.bd b hb⟩,⟨rfl,rfl,rfl,by simp,fun k _ hk=>setRow_other w g k _ (fun e=>hk (by rw [e]; rfl))⟩,.inl rfl⟩
      · simp only[List.size_toArray,List.length_append,List.length_take,List.length_drop,Array.length_toList]
        omega
      · rw [htake,← hlen]
        exact List.take_left
    · have hr:=run_append_grow (P:=P) w t ty E i z ht hi hz ⟨g,0,none⟩ n cap xs hown.own.1 hown.rows a m mcap news hl hnews' (by omega) (by omega) (growslice_fits (by omega) hbytes)
      have hgr:=grown cap (by omega);exact ⟨_,_,_,hr,hgr.1,hgr.2,.inr rfl⟩
theorem H4 {b : Nat} {z : Value} {a0 : Array TypeId} (ha : a0 = #[T,T]) (hu : P.underlying T = some (.slice E)) (hi : (P.info? E).map (fun i=>(i.size,i.bytes,i.zero)) = some (c,b,some z)) (hz : z.cells.size = c) (hc : 0 < c) (hX : cD w0 w)
 (hs : ev l x = .slice A n cap) (hown : Ow w0 w S E c A n cap xs) (hx : ev l y = .slice B m mcap) (hl : news.length = m * c) (hrow : ∀ j u,news[j]? = some u → ∃ a,B = some a ∧ w.cell? (a.add j) = some u) (h1 : ∀ u ∈ news,u.oneCell' = true) (h63 : n + m ≤ 9223372036854775807) (hbytes : (n + m) * b ≤ 140737488355328)
 (h : ∀ A' cap' w',Ow w0 w' S E c A' (n + m) cap' (xs ++ news) → Wr w w' A → (A' = A ∨ nP A' = some w.heap.size) → wpList P ops Q rest (Fr (l.set d (.slice A' (n + m) cap')) ds) w') :
 wpList P ops Q (Oper.mk (some d) (.call { callee:=.builtin .append,args:=#[x,y],argTypes:=a0 }) ty pos after none :: rest) (Fr l ds) w:=by
 subst ha;cases hq : P.info? E with
 | none=>rw [hq] at hi; cases hi
 | some i =>
  rw [hq] at hi;simp only[Option.map_some,Option.some.injEq,Prod.mk.injEq] at hi;obtain ⟨e1,e2,e3⟩:=hi;obtain ⟨A',cap',w',hr,h2,h3,h4⟩:=xZ (P:=P) (w:=w) (ty:=ty) (mcap:=mcap) hu hq e3 e1 e2 hz hc hown hl hrow h1 (by simpa [maxLen] using h63) hbytes hX.size;exact jO (fun o ho hty=>by simp [execOp,ho,hty,resolve,invoke,builtin,cC,hs,hx,hr]) (h A' cap' w' h2 h3 h4)
theorem x6 {cur : Array Value} {xs us : List Value} {off k : Nat} (hx : cur.toList.take k = xs) (hl : xs.length = k) (hf : off + us.length ≤ k) : (a8 cur.toList off us).take k = a8 xs off us:=by
 subst hx;have hk : k ≤ cur.toList.length:=by rw [List.length_take] at hl; omega
 unfold a8;apply List.ext_getElem?;intro j;rw [List.getElem?_take];have e1 : (cur.toList.take off).length = off:=by rw [List.length_take]; omega
 have e2 : ((cur.toList.take k).take off).length = off:=by rw [List.length_take,List.length_take]; omega
 simp only[List.append_assoc];by_cases h0 : j < k
 · rw [if_pos h0]
   rcases Nat.lt_or_ge j off with h1 | h1
   · rw [List.getElem?_append_left (by omega),List.getElem?_append_left (by omega),List.take_take,Nat.min_eq_left (by omega)]
   · rw [List.getElem?_append_right (l₁:=cur.toList.take off) (by omega),List.getElem?_append_right (l₁:=(cur.toList.take k).take off) (by omega),e1,e2]
     rcases Nat.lt_or_ge (j - off) us.length with h2 | h2
     · rw [List.getElem?_append_left h2,List.getElem?_append_left h2]
     · rw [List.getElem?_append_right h2,List.getElem?_append_right h2,List.getElem?_drop,List.getElem?_drop,List.getElem?_take,if_pos (by omega)]
 · rw [if_neg h0]
   symm
   apply List.getElem?_eq_none;simp only[List.length_append,e2,List.length_drop,List.length_take];omega
theorem Ky {g off : Nat} {us : List Value} (hx : ev l x = .pointer (some ⟨g,off,none⟩)) (hv : (ev l y).cells = us.toArray) (hc : dM P T us.length) (hO : Ow w0 w S E c (some ⟨g,0,none⟩) n cap xs) (hfit : off + us.length ≤ n * c) (h1 : ∀ u ∈ us,u.oneCell' = true)
 (h : ∀ w',Wr w w' (some ⟨g,0,none⟩) → Ow w0 w' S E c (some ⟨g,0,none⟩) n cap (a8 xs off us) → wpList P ops Q rest (Fr l ds) w') : wpList P ops Q (Oper.mk none (.store T x y) ty pos after none :: rest) (Fr l ds) w:=by
 rcases hO.cases with ⟨e,_⟩ | ⟨g',cur,e,hbg,hg,hnc,hcm,hcs,htake⟩
 · cases e
 · cases e
   have hfc : off + us.length ≤ cur.toList.length:=by
    have:=Nat.mul_le_mul_right c hnc;simp; omega
   have hB : eU w g cur.toList E:=by unfold eU; simpa using hg
   refine bZ (cs:=cur.toList) (t:=E) hx hv hc hB hfc h1 fun w' hC hB'=>h w' ⟨hC.os,hC.tape,hC.output,by rw [hC.size]; exact Nat.le_refl _,fun k _ hk=>hC.block k (fun e=>hk (by rw [e]; rfl))⟩ ?_;refine ⟨⟨?_,.inr ⟨g,cap,_,rfl,hbg,hB',hnc,hcm,?_,?_⟩⟩,hO.sep,fun b hb=>by rw [hC.size]; exact hO.bd b hb⟩
   · rw [oZ (by rw [hO.own.1]; exact hfit)]; exact hO.own.1
   · simp only[List.size_toArray]; rw [oZ hfc]; simpa using hcs
   · show ((a8 cur.toList off us).toArray.toList).take (n * c) = _
     simp only[List.toList_toArray];exact x6 htake hO.own.1 hfit
end
theorem B7 (ts : List T3) : (ts.flatMap bV).length = ts.length * 9:=by
 induction ts with
 | nil=>rfl
 | cons t ts ih=>rw [List.flatMap_cons,List.length_append,ih,kZ,List.length_cons]; omega
theorem Ow.tris {w0 w : World} {S : List (Option Nat)} {E : TypeId} {A : Option Addr} {n cap : Nat} {ts : List T3} (h : Ow w0 w S E 9 A n cap (ts.flatMap bV)) (hi : ∀ t ∈ ts,IT t) : cJ w A n ts:=by
 refine ⟨?_,hi,fun i t ht=>?_⟩
 · have:=h.own.1; rw [B7] at this; omega
 · have hr : ∀ j u,(bV t)[j]? = Option.some u → (ts.flatMap bV)[i * 9 + j]? = Option.some u:=fun j u hj=>by
    have hj' : j < (bV t).length:=(List.getElem?_eq_some_iff.1 hj).1;rw [← List.getElem?_drop,lW ts i t ht,List.getElem?_append_left hj'];exact hj
   obtain ⟨a,e,_⟩:=h.row _ _ (hr 0 _ rfl);refine ⟨a,e,fun j u hj=>?_⟩;obtain ⟨a',e',hc⟩:=h.row _ _ (hr j u hj);rw [e] at e';cases e';rw [fP];exact hc
theorem cJ.cells {w : World} {A : Option Addr} {n : Nat} {ts : List T3} (h : cJ w A n ts) : ∀ j u,(ts.flatMap bV)[j]? = some u → ∃ a,A = some a ∧ w.cell? (a.add j) = some u:=fun j u hj=>by
 have hl : j < ts.length * 9:=by
  have:=(List.getElem?_eq_some_iff.1 hj).1;rwa [B7] at this
 have hq : j / 9 < ts.length:=by omega
 have ht:=List.getElem?_eq_getElem hq;obtain ⟨a,e,hr⟩:=h.row _ _ ht;refine ⟨a,e,?_⟩;have hd:=lW ts (j / 9) _ ht;have hj' : (bV ts[j / 9])[j % 9]? = some u:=by
  have : ((ts.flatMap bV).drop (j / 9 * 9))[j % 9]? = some u:=by rw [List.getElem?_drop,show j / 9 * 9 + j % 9 = j by omega]; exact hj
  rw [hd,List.getElem?_append_left (by rw [kZ]; omega)] at this;exact this
 have:=hr _ _ hj';rwa [fP,show j / 9 * 9 + j % 9 = j by omega] at this
theorem Oj : ∀ (t : T3),∀ u ∈ bV t,u.oneCell' = true:=fun t u hu=>by
 simp only[bV,List.mem_cons,List.not_mem_nil,or_false] at hu;rcases hu with rfl | rfl | rfl | rfl | rfl | rfl | rfl | rfl | rfl <;> rfl
theorem mB (ts : List T3) : ∀ u ∈ ts.flatMap bV,u.oneCell' = true:=fun u hu=>by
 obtain ⟨t,_,h⟩:=List.mem_flatMap.1 hu;exact Oj t u h
theorem eU.rowsO {w : World} {g : Nat} {cs : List Value} {t : TypeId} (h : eU w g cs t) : ∀ j u,cs[j]? = some u → ∃ a,some (⟨g,0,none⟩ : Addr) = some a ∧ w.cell? (a.add j) = some u:=fun j u hj=>⟨_,rfl,by have:=h.row 0; rw [List.drop_zero] at this; exact this j u hj⟩
section
variable {w0 w w' : World} {S : List (Option Nat)} {E : TypeId} {c n cap : Nat} {A : Option Addr} {xs : List Value}
theorem Ow.put {g : Nat} (h : Ow w0 w S E c A n cap xs) (hne : ∀ b,nP A = Option.some b → b ≠ g) (hl : g < w.heap.size) : Ow w0 w (Option.some g :: S) E c A n cap xs :=
 ⟨h.own,fun b hb hm=>by
  rcases List.mem_cons.1 hm with e | hm
  · cases e; exact hne _ hb rfl
  · exact h.sep b hb hm,fun b hb=>by
  rcases List.mem_cons.1 hb with e | hb
  · cases e; exact hl
  · exact h.bd b hb⟩
theorem Ow.upd {g : Nat} (h : Ow w0 w S E c A n cap xs) (hU : I2 w w' g) (hm : Option.some g ∈ S) : Ow w0 w' S E c A n cap xs :=
 h.keep hU.size fun b hb=>hU.block b (h.lt b hb) (fun e=>h.sep b hb (e ▸ hm))
end
end Go.Lith
namespace Go.Lith
open Go.RowKit
structure It where
 own : Nat → Prop
 P : World → Prop
 lt : ∀ w b,P w → own b → b < w.heap.size
 st : ∀ w w',P w → w.heap.size ≤ w'.heap.size → (∀ b,own b → w'.heap[b]? = w.heap[b]?) → P w'
def bI (g : Nat) (cs : List Value) (t : TypeId) : It where
 own b:=some g = some b
 P w:=eU w g cs t
 lt w b h e:=by cases e; exact h.lt
 st w w' h _ k:=(k g rfl).trans h
def oI (E : TypeId) (c : Nat) (A : Option Addr) (n cap : Nat) (xs : List Value) : It where
 own b:=nP A = some b
 P w:=w.ownsRow 0 E c (.slice A n cap) n xs
 lt w b h e:=by
  rcases jE h with ⟨rfl,_⟩ | ⟨g,cur,rfl,_,hg,_⟩
  · cases e
  · cases e; exact (Array.getElem?_eq_some_iff.1 hg).1
 st w w' h _ k:=by
  refine ⟨h.1,?_⟩;rcases jE h with ⟨rfl,rfl,rfl,_⟩ | ⟨g,cur,rfl,h1,h2,h3⟩
  · exact .inl ⟨rfl,rfl⟩
  · exact .inr ⟨g,cap,cur,rfl,h1,(k g rfl).trans h2,h3⟩
def Ap (i j : It) : Prop:=∀ b,i.own b → j.own b → False
theorem Ap.symm {i j : It} (h : Ap i j) : Ap j i:=fun b h1 h2=>h b h2 h1
structure bU (w0 w : World) (is : List It) : Prop where
 ext : cD w0 w
 all : ∀ i ∈ is,i.P w
 ge : ∀ i ∈ is,∀ b,i.own b → w0.heap.size ≤ b
 nd : is.Pairwise Ap
def B8 : List Bool → List It → List It
 | true :: bs,i :: is=>i :: B8 bs is
 | false :: bs,_ :: is=>B8 bs is
 | _,_=>[]
theorem pG : ∀ (bs : List Bool) (is : List It),(B8 bs is).Sublist is
 | true :: bs,i :: is=>(pG bs is).cons_cons i
 | false :: bs,i :: is=>(pG bs is).cons i
 | [],is=>List.nil_sublist _
 | true :: bs,[]=>List.nil_sublist _
 | false :: bs,[]=>List.nil_sublist _
section
variable {w0 w w' : World} {is : List It}
theorem bU.refl (w : World) : bU w w []:=⟨cD.refl w,fun _ h=>(by cases h),fun _ h=>(by cases h),.nil⟩
theorem bU.ext' (m : bU w0 w is) (e : cD w w') : bU w0 w' is :=
 ⟨m.ext.trans e,fun i hi=>i.st w w' (m.all i hi) e.size fun b hb=>Below.block e b (i.lt w b (m.all i hi) hb),m.ge,m.nd⟩
theorem bU.sel (m : bU w0 w is) (bs : List Bool) : bU w0 w (B8 bs is) :=
 ⟨m.ext,fun i hi=>m.all i ((pG bs is).subset hi),fun i hi=>m.ge i ((pG bs is).subset hi),m.nd.sublist (pG bs is)⟩
theorem bU.tl {i : It} (m : bU w0 w (i :: is)) : bU w0 w is:=⟨m.ext,fun j hj=>m.all j (List.mem_cons_of_mem _ hj),fun j hj=>m.ge j (List.mem_cons_of_mem _ hj),(List.pairwise_cons.1 m.nd).2⟩
theorem bU.get (m : bU w0 w is) (k : Nat) {i : It} (hk : is[k]? = some i) : i.P w:=m.all i (List.mem_of_getElem? hk)
theorem bU.b (m : bU w0 w is) (k : Nat) {g : Nat} {cs : List Value} {t : TypeId} (hk : is[k]? = some (bI g cs t)) : eU w g cs t:=m.get k hk
theorem bU.o (m : bU w0 w is) (k : Nat) {E : TypeId} {c n cap : Nat} {A : Option Addr} {xs : List Value} (hk : is[k]? = some (oI E c A n cap xs)) : Ow w0 w [] E c A n cap xs:=by
 have h : w.ownsRow 0 E c (.slice A n cap) n xs:=m.get k hk;refine ⟨⟨h.1,?_⟩,fun _ _ h=>(by cases h),fun _ h=>(by cases h)⟩;rcases jE h with ⟨rfl,rfl,rfl,_⟩ | ⟨g,cur,rfl,_,h2,h3⟩
 · exact .inl ⟨rfl,rfl⟩
 · exact .inr ⟨g,cap,cur,rfl,m.ge _ (List.mem_of_getElem? hk) g rfl,h2,h3⟩
theorem bU.bo (m : bU w0 w is) (k : Nat) {g : Nat} {cs : List Value} {t : TypeId} (hk : is[k]? = some (bI g cs t)) {n c : Nat} (hl : cs.length = n * c) (hm : n ≤ maxLen) : Ow w0 w [] t c (some ⟨g,0,none⟩) n n cs :=
 Ow.mk' (m.b k hk) (m.ge _ (List.mem_of_getElem? hk) g rfl) hl hm
theorem bU.toO (m : bU w0 w is) (k : Nat) {g : Nat} {cs : List Value} {t : TypeId} (hk : is[k]? = some (bI g cs t)) {n c : Nat} (hl : cs.length = n * c) (hm : n ≤ maxLen) : ∃ i,i = oI t c (some ⟨g,0,none⟩) n n cs ∧ i.P w:=⟨_,rfl,(m.bo k hk hl hm).own.1,.inr ⟨g,n,_,rfl,Nat.zero_le _,m.b k hk,Nat.le_refl _,hm,by simpa using hl,by simp [← hl]⟩⟩
theorem bU.new {i : It} (m : bU w0 w is) (e : cD w w') (hi : i.P w') (hg : ∀ b,i.own b → w.heap.size ≤ b) : bU w0 w' (i :: is):=by
 have m':=m.ext' e;refine ⟨m'.ext,fun j hj=>?_,fun j hj=>?_,List.pairwise_cons.2 ⟨fun j hj b h1 h2=>?_,m'.nd⟩⟩
 · rcases List.mem_cons.1 hj with rfl | hj
   · exact hi
   · exact m'.all j hj
 · rcases List.mem_cons.1 hj with rfl | hj
   · exact fun b hb=>Nat.le_trans m.ext.size (hg b hb)
   · exact m'.ge j hj
 · have:=j.lt w b (m.all j hj) h2
   have:=hg b h1;omega
theorem bU.newB {g : Nat} {cs : List Value} {t : TypeId} (m : bU w0 w is) (e : cD w w') (hg : w.heap.size ≤ g) (hB : eU w' g cs t) : bU w0 w' (bI g cs t :: is):=m.new e hB (fun b h=>by cases h; exact hg)
theorem bU.newO {S : List (Option Nat)} {E : TypeId} {c n cap : Nat} {A : Option Addr} {xs : List Value} (m : bU w0 w is) (e : cD w w') (h : Ow w w' S E c A n cap xs) : bU w0 w' (oI E c A n cap xs :: is):=by
 refine m.new e (i:=oI E c A n cap xs) ?_ h.ge;refine ⟨h.own.1,?_⟩;rcases h.cases with ⟨rfl,rfl,rfl,_⟩ | ⟨g,cur,rfl,_,h2,h3⟩
 · exact .inl ⟨rfl,rfl⟩
 · exact .inr ⟨g,cap,cur,rfl,Nat.zero_le _,h2,h3⟩
theorem bU.nilO (m : bU w0 w is) (E : TypeId) (c : Nat) : bU w0 w (oI E c none 0 0 [] :: is):=m.newO (cD.refl w) (Ow.nil w w E c)
theorem Fe {i i' : It} : ∀ (is : List It) (k : Nat),is.Pairwise Ap → is[k]? = some i → (∀ x ∈ is,Ap i x → Ap i' x) → (is.set k i').Pairwise Ap
 | [],_,_,h,_=>by cases h
 | j :: is,0,hp,h,hc=>by
  cases h;rw [List.set_cons_zero];have:=List.pairwise_cons.1 hp;exact List.pairwise_cons.2 ⟨fun x hx=>hc x (List.mem_cons_of_mem _ hx) (this.1 x hx),this.2⟩
 | j :: is,k + 1,hp,h,hc=>by
  rw [List.set_cons_succ];have hp':=List.pairwise_cons.1 hp;have h' : is[k]? = some i:=h;refine List.pairwise_cons.2 ⟨fun x hx=>?_,Fe is k hp'.2 h' fun x hx=>hc x (List.mem_cons_of_mem _ hx)⟩;rcases List.mem_or_eq_of_mem_set hx with hx | rfl
  · exact hp'.1 x hx
  · exact (hc j (List.mem_cons_self ..) (hp'.1 i (List.mem_of_getElem? h')).symm).symm
theorem bU.put {i i' : It} (m : bU w0 w is) (k : Nat) (hk : is[k]? = some i) (hos : w'.os = w.os) (ht : w'.tape = w.tape) (ho : w'.output = w.output) (hs : w.heap.size ≤ w'.heap.size) (hb : ∀ b,b < w.heap.size → ¬ i.own b → w'.heap[b]? = w.heap[b]?)
 (hi : i'.P w') (hid : (∀ b,i'.own b → i.own b) ∨ ∀ b,i'.own b → w.heap.size ≤ b) : bU w0 w' (is.set k i'):=by
 have hmem:=List.mem_of_getElem? hk;refine ⟨⟨hos.trans m.ext.os,ht.trans m.ext.tape,ho.trans m.ext.output,Nat.le_trans m.ext.size hs,fun b hlt=>(hb b (Nat.lt_of_lt_of_le hlt m.ext.size) fun e=>?_).trans (Below.block m.ext b hlt)⟩,fun j hj=>?_,fun j hj b hjb=>?_,Fe is k m.nd hk fun x hx ha b h1 h2=>?_⟩
 · have:=m.ge i hmem b e
   omega
 · obtain ⟨q,hq,e⟩:=List.getElem_of_mem hj
   rw [List.getElem_set] at e;split at e
   · subst e; exact hi
   · rename_i hne
     rw [List.length_set] at hq;have hj' : j ∈ is:=e ▸ List.getElem_mem hq;have hq' : is[q]? = some j:=by rw [← e]; exact List.getElem?_eq_getElem hq
     refine j.st w w' (m.all j hj') hs fun b hjb=>hb b (j.lt w b (m.all j hj') hjb) fun hib=>?_;have hklt : k < is.length:=(List.getElem?_eq_some_iff.1 hk).1;have hki : is[k] = i:=(List.getElem?_eq_some_iff.1 hk).2;rcases Nat.lt_or_gt_of_ne hne with h | h
     · have:=List.pairwise_iff_getElem.1 m.nd k q hklt hq h
       rw [hki,e] at this;exact this b hib hjb
     · have:=List.pairwise_iff_getElem.1 m.nd q k hq hklt h
       rw [hki,e] at this;exact this b hjb hib
 · rcases List.mem_or_eq_of_mem_set hj with hj | rfl
   · exact m.ge j hj b hjb
   · rcases hid with hid | hid
     · exact m.ge i hmem b (hid b hjb)
     · exact Nat.le_trans m.ext.size (hid b hjb)
 · rcases hid with hid | hid
   · exact ha b (hid b h1) h2
   · have:=hid b h1
     have:=x.lt w b (m.all x hx) h2;omega
theorem bU.re (m : bU w0 w is) (k : Nat) {g : Nat} {cs cs' : List Value} {t : TypeId} (hk : is[k]? = some (bI g cs t)) (hB : eU w g cs' t) : bU w0 w (is.set k (bI g cs' t)) :=
 m.put k hk rfl rfl rfl (Nat.le_refl _) (fun _ _ _=>rfl) hB (.inl fun _ h=>h)
theorem bU.reO (m : bU w0 w is) (k : Nat) {E : TypeId} {c n cap n' cap' : Nat} {A : Option Addr} {xs xs' : List Value} (hk : is[k]? = some (oI E c A n cap xs)) (h : Ow w0 w [] E c A n' cap' xs') : bU w0 w (is.set k (oI E c A n' cap' xs')):=by
 refine m.put k hk rfl rfl rfl (Nat.le_refl _) (fun _ _ _=>rfl) ?_ (.inl fun _ h=>h);refine ⟨h.own.1,?_⟩;rcases h.cases with ⟨rfl,rfl,rfl,_⟩ | ⟨g,cur,rfl,_,h2,h3⟩
 · exact .inl ⟨rfl,rfl⟩
 · exact .inr ⟨g,cap',cur,rfl,Nat.zero_le _,h2,h3⟩
theorem bU.own (m : bU w0 w is) (k : Nat) {g : Nat} {cs : List Value} {t : TypeId} (hk : is[k]? = some (bI g cs t)) {n c : Nat} (hl : cs.length = n * c) (hm : n ≤ maxLen) : bU w0 w (is.set k (oI t c (some ⟨g,0,none⟩) n n cs)):=by
 obtain ⟨i,rfl,h⟩:=m.toO k hk hl hm;exact m.put k hk rfl rfl rfl (Nat.le_refl _) (fun _ _ _=>rfl) h (.inl fun _ h=>h)
theorem b9 {a b : Nat} (h : Nat.ble a b = true) : a ≤ b:=Nat.le_of_ble_eq_true h
theorem kB {us : List Value} (h : (us.all (·.oneCell')) = true) : ∀ u ∈ us,u.oneCell' = true:=fun u hu=>List.all_eq_true.1 h u hu
end
section
variable {P : Program} {ds : List Deferred} {l : List Value} {x y : Operand} {T ty : TypeId}
variable {ops : Array Oper} {Q : Exit → Act → World → Prop} {rest : List Oper} {d : Nat} {pos : String} {after : Array Edge} {w w0 : World} {is : List It}
theorem Wt {cs : List Value} (m : bU w0 w is) (hv : (ev l x).cells = cs.toArray) (h : ∀ g u,bU w0 u (bI g cs T :: is) → wpList P ops Q rest (Fr (l.set d (.pointer (some ⟨g,0,none⟩))) ds) u) :
 wpList P ops Q (Oper.mk (some d) (.box T x) ty pos after none :: rest) (Fr l ds) w:=jA hv fun u g e hg hB=>h g u (m.newB e hg hB)
theorem bN {cs : List Value} {z : Value} (m : bU w0 w is) (hZ : i7 P T z) (hv : z.cells = cs.toArray) (h : ∀ g u,bU w0 u (bI g cs T :: is) → wpList P ops Q rest (Fr (l.set d (.pointer (some ⟨g,0,none⟩))) ds) u) :
 wpList P ops Q (Oper.mk (some d) (.alloc T) ty pos after none :: rest) (Fr l ds) w:=fR hZ hv fun u g e hg hB=>h g u (m.newB e hg hB)
theorem Kz {g off : Nat} {cs us : List Value} {t : TypeId} (m : bU w0 w is) (k : Nat) (hk : is[k]? = some (bI g cs t)) (hx : ev l x = .pointer (some ⟨g,off,none⟩)) (hv : (ev l y).cells = us.toArray) (hc : dM P T us.length) (hfit : off + us.length ≤ cs.length) (h1 : (us.all (·.oneCell')) = true)
 (h : ∀ u,bU w0 u (is.set k (bI g (a8 cs off us) t)) → wpList P ops Q rest (Fr l ds) u) : wpList P ops Q (Oper.mk none (.store T x y) ty pos after none :: rest) (Fr l ds) w :=
 bZ hx hv hc (m.b k hk) hfit (kB h1) fun u hC hB=>h u (m.put k hk hC.os hC.tape hC.output (by rw [hC.size]; exact Nat.le_refl _) (fun b _ hne=>hC.block b fun e=>hne (by rw [e]; rfl)) hB (.inl fun _ h=>h))
theorem Gl {g off : Nat} {us xs : List Value} {E : TypeId} {c n cap : Nat} (m : bU w0 w is) (k : Nat) (hk : is[k]? = some (oI E c (some ⟨g,0,none⟩) n cap xs)) (hx : ev l x = .pointer (some ⟨g,off,none⟩)) (hv : (ev l y).cells = us.toArray) (hc : dM P T us.length) (hfit : off + us.length ≤ n * c) (h1 : (us.all (·.oneCell')) = true)
 (h : ∀ u,bU w0 u (is.set k (oI E c (some ⟨g,0,none⟩) n cap (a8 xs off us))) → wpList P ops Q rest (Fr l ds) u) : wpList P ops Q (Oper.mk none (.store T x y) ty pos after none :: rest) (Fr l ds) w :=
 Ky hx hv hc (m.o k hk) hfit (kB h1) fun u hW hO=>h u (m.put k hk hW.os hW.tape hW.output hW.size (fun b hb hne=>hW.block b hb hne) (by
  refine ⟨hO.own.1,?_⟩;rcases hO.cases with ⟨e,_⟩ | ⟨g,cur,e,_,h2,h3⟩
  · cases e
  · cases e; exact .inr ⟨_,cap,cur,rfl,Nat.zero_le _,h2,h3⟩) (.inl fun _ h=>h))
theorem bH {v : Value} {f : FuncId} {fo : Operand} {xs : Array Operand} {args : List Value} {first cap : Array Value} {a0 : Array TypeId} (m : bU w0 w is) (hf : ev l fo = .func (.func f) first cap) (hxs : first.toList ++ xs.toList.map (ev l) ++ cap.toList = args) (hc : eI P f args v)
 (h : ∀ u,bU w0 u is → wpList P ops Q rest (Fr (l.set d v) ds) u) : wpList P ops Q (Oper.mk (some d) (.call { callee:=.value fo,args:=xs,argTypes:=a0 }) ty pos after none :: rest) (Fr l ds) w :=
 iQ hf hxs hc fun u e=>h u (m.ext' e)
theorem fA {f : FuncId} {fo : Operand} {xs : Array Operand} {args : List Value} {first cap : Array Value} {a0 : Array TypeId} {R : Value → World → Prop} (m : bU w0 w is) (hf : ev l fo = .func (.func f) first cap) (hxs : first.toList ++ xs.toList.map (ev l) ++ cap.toList = args) (hc : gD P f args w R)
 (h : ∀ v u,bU w0 u is → R v u → wpList P ops Q rest (Fr (l.set d v) ds) u) : wpList P ops Q (Oper.mk (some d) (.call { callee:=.value fo,args:=xs,argTypes:=a0 }) ty pos after none :: rest) (Fr l ds) w :=
 bO hf hxs hc fun v u e hR=>h v u (m.ext' e) hR
def OR (E : TypeId) (c : Nat) (R : List Value → Prop) (w : World) (v : Value) (w' : World) : Prop:=∃ A n cap xs,v = .slice A n cap ∧ Ow w w' [] E c A n cap xs ∧ R xs
theorem dU {E : TypeId} {c n cap b nm mcap : Nat} {A B : Option Addr} {z : Value} {xs news : List Value} {a0 : Array TypeId} (m : bU w0 w is) (k : Nat) (hk : is[k]? = some (oI E c A n cap xs)) (ha : a0 = #[T,T]) (hu : P.underlying T = some (.slice E)) (hi : (P.info? E).map (fun i=>(i.size,i.bytes,i.zero)) = some (c,b,some z)) (hz : z.cells.size = c) (hc : 0 < c)
 (hs : ev l x = .slice A n cap) (hx : ev l y = .slice B nm mcap) (hl : news.length = nm * c) (hrow : ∀ j u,news[j]? = some u → ∃ a,B = some a ∧ w.cell? (a.add j) = some u) (h1 : ∀ u ∈ news,u.oneCell' = true) (h63 : n + nm ≤ 9223372036854775807) (hbytes : (n + nm) * b ≤ 140737488355328)
 (h : ∀ A' cap' u,bU w0 u (is.set k (oI E c A' (n + nm) cap' (xs ++ news))) → wpList P ops Q rest (Fr (l.set d (.slice A' (n + nm) cap')) ds) u) :
 wpList P ops Q (Oper.mk (some d) (.call { callee:=.builtin .append,args:=#[x,y],argTypes:=a0 }) ty pos after none :: rest) (Fr l ds) w :=
 H4 ha hu hi hz hc m.ext hs (m.o k hk) hx hl hrow h1 h63 hbytes fun A' cap' u hO hW hF=>h A' cap' u (m.put k hk hW.os hW.tape hW.output hW.size (fun b hb hne=>hW.block b hb hne) (by
  refine ⟨hO.own.1,?_⟩;rcases hO.cases with ⟨rfl,e1,rfl,_⟩ | ⟨g,cur,rfl,_,h2,h3⟩
  · exact .inl ⟨by rw [e1],e1⟩
  · exact .inr ⟨g,cap',cur,rfl,Nat.zero_le _,h2,h3⟩) (by
  rcases hF with rfl | hF
  · exact .inl fun _ h=>h
  · exact .inr fun b hb=>by
     have e : nP A' = some b:=hb;rw [hF] at e;cases e;exact Nat.le_refl _))
theorem dJ {cs : List Value} (m : bU w0 w is) (hv : ev l x = .agg cs.toArray) (h : ∀ g u,bU w0 u (bI g cs T :: is) → wpList P ops Q rest (Fr (l.set d (.pointer (some ⟨g,0,none⟩))) ds) u) :
 wpList P ops Q (Oper.mk (some d) (.box T x) ty pos after none :: rest) (Fr l ds) w:=Wt m (by rw [hv]; rfl) h
theorem aV {g off : Nat} {cs us : List Value} {t : TypeId} (m : bU w0 w is) (k : Nat) (hk : is[k]? = some (bI g cs t)) (hx : ev l x = .pointer (some ⟨g,off,none⟩)) (hv : ev l y = .agg us.toArray) (hc : dM P T us.length) (hfit : off + us.length ≤ cs.length) (h1 : (us.all (·.oneCell')) = true)
 (h : ∀ u,bU w0 u (is.set k (bI g (a8 cs off us) t)) → wpList P ops Q rest (Fr l ds) u) : wpList P ops Q (Oper.mk none (.store T x y) ty pos after none :: rest) (Fr l ds) w:=Kz m k hk hx (by rw [hv]; rfl) hc hfit h1 h
theorem cA {g off : Nat} {cs : List Value} {v : Value} {t : TypeId} (m : bU w0 w is) (k : Nat) (hk : is[k]? = some (bI g cs t)) (hx : ev l x = .pointer (some ⟨g,off,none⟩)) (hv : ev l y = v) (hc : dM P T 1) (hfit : off + 1 ≤ cs.length) (h1 : v.oneCell' = true ∧ v.cells = #[v])
 (h : ∀ u,bU w0 u (is.set k (bI g (a8 cs off [v]) t)) → wpList P ops Q rest (Fr l ds) u) : wpList P ops Q (Oper.mk none (.store T x y) ty pos after none :: rest) (Fr l ds) w:=Kz (us:=[v]) m k hk hx (by rw [hv,h1.2]) hc hfit (by simp [h1.1]) h
theorem eU.full {g : Nat} {cs : List Value} {t : TypeId} (h : eU w g cs t) (hA : fM P T true) (hc : dM P T cs.length) : oY P w T ⟨g,0,none⟩ (.agg cs.toArray):=by
 have:=h.row 0;rw [List.drop_zero] at this;exact this.lies hA hc
theorem bU.s01 {w0 w : World} {i j : It} {is : List It} (m : bU w0 w (i :: j :: is)) : bU w0 w (j :: i :: is):=by
 have h1:=List.pairwise_cons.1 m.nd;have h2:=List.pairwise_cons.1 h1.2;refine ⟨m.ext,fun x hx=>m.all x ?_,fun x hx=>m.ge x ?_,List.pairwise_cons.2 ⟨fun x hx=>?_,List.pairwise_cons.2 ⟨fun x hx=>h1.1 x (List.mem_cons_of_mem _ hx),h2.2⟩⟩⟩
 · simp only[List.mem_cons] at hx ⊢; rcases hx with h | h | h <;> simp [h]
 · simp only[List.mem_cons] at hx ⊢; rcases hx with h | h | h <;> simp [h]
 · rcases List.mem_cons.1 hx with rfl | hx
   · exact (h1.1 _ (List.mem_cons_self ..)).symm
   · exact h2.1 x hx
/-! ### Regions -/
theorem dQ {id : Nat} {a : Act} {l : List Oper} (m : bU w0 w is) (n : Nat) (hm : P.follows .mixedOrders = true) (hB : Region.lexTailB .any l.toArray n = true)
 (h : wpQuiet P l.toArray (fun u=>bU w0 u is) (fun a'=>∀ u,bU w0 u is → wpList P l.toArray Q (l.drop n) a' u) (l.take n) a) : (Code.region id l.toArray true).wp P Q a w :=
 kJ (C:=fun u=>bU w0 u is) n hm hB (m.ext' (cD.refl w).drawn) h
theorem mq {id : Nat} {a : Act} {l : List Oper} (m : bU w0 w is) (hm : P.follows .mixedOrders = true) (hB : Region.lexB .any l.toArray = true)
 (h : wpQuiet P l.toArray (fun u=>bU w0 u is) (fun a'=>∀ u,bU w0 u is → Q .normal a' u) l a) : (Code.region id l.toArray true).wp P Q a w :=
 wp_region_quiet (C:=fun u=>bU w0 u is) hm hB (m.ext' (cD.refl w).drawn) (by simpa using h)
theorem mh {id : Nat} {a : Act} {l : List Oper} (m : bU w0 w is) (bs : List Bool) (o : List (Nat × Bool)) (hm : P.follows .mixedOrders = true) (hB : (Region.noSelect l.toArray && decide (o.length = l.length) && tG .any l.toArray o (Array.replicate l.toArray.size false)) = true)
 (hQ : ∀ c d v a w,Q (.panic c) (Act.put a d v) w → Q (.panic c) a w) {ol : List (Oper × Bool)} (hol : (o.map fun x=>((l.toArray[x.1]?).getD default,x.2)) = ol)
 (h : ∀ u,bU w0 u is → dK P l.toArray (fun u=>bU w0 u (B8 bs is)) Q ol a u) : (Code.region id l.toArray true).wp P Q a w :=
 eG o hm hB hQ hol fun u e=>⟨fun u=>bU w0 u (B8 bs is),(m.ext' e).sel bs,h u (m.ext' e)⟩
theorem qL {id : Nat} {a : Act} {l : List Oper} (m : bU w0 w is) (bs : List Bool) (t : lJ) (hm : P.follows .mixedOrders = true) (hB : (Region.noSelect l.toArray && t.ok .any l.toArray l.toArray.size (Array.replicate l.toArray.size false)) = true)
 (hQ : ∀ c d v a w,Q (.panic c) (Act.put a d v) w → Q (.panic c) a w)
 (h : ∀ u,bU w0 u is → dI P l.toArray (fun u=>bU w0 u (B8 bs is)) Q t a u) : (Code.region id l.toArray true).wp P Q a w :=
 wJ t hm hB hQ fun u e=>⟨fun u=>bU w0 u (B8 bs is),(m.ext' e).sel bs,h u (m.ext' e)⟩
theorem Wu {tl : List Oper} {i d : Nat} {T : TypeId} {cs : List Value} (m : bU w0 w is) (h : ∀ g u,bU w0 u (bI g cs T :: is) → wpList P ops Q tl (Fr (l.set d (.pointer (some ⟨g,0,none⟩))) ds) u) :
 ∀ E w',cD w w' → qY w.heap.size E [⟨i,d,T,cs⟩] w' → (∀ x ∈ [(⟨i,d,T,cs⟩ : Al)],∃ v,E x.i = some v) → wpList P ops Q tl (d5 E [⟨i,d,T,cs⟩] (Fr l ds)) w' :=
 Se fun u g e hg hB=>h g u (m.newB e hg hB)
theorem bU.newB2 {w w' : World} {is : List It} {g g2 : Nat} {cs cs2 : List Value} {t t2 : TypeId} (m : bU w0 w is) (e : cD w w') (hg : w.heap.size ≤ g) (hg2 : w.heap.size ≤ g2) (hB : eU w' g cs t) (hB2 : eU w' g2 cs2 t2) (hne : g2 ≠ g) : bU w0 w' (bI g2 cs2 t2 :: bI g cs t :: is):=by
 have m1:=m.newB e hg hB;refine ⟨m1.ext,fun j hj=>?_,fun j hj=>?_,List.pairwise_cons.2 ⟨fun j hj b h1 h2=>?_,m1.nd⟩⟩
 · rcases List.mem_cons.1 hj with rfl | hj
   · exact hB2
   · exact m1.all j hj
 · rcases List.mem_cons.1 hj with rfl | hj
   · exact fun b hb=>by cases hb; exact Nat.le_trans m.ext.size hg2
   · exact m1.ge j hj
 · cases h1
   rcases List.mem_cons.1 hj with rfl | hj
   · cases h2; exact hne rfl
   · have:=j.lt w _ (m.all j hj) h2
     omega
theorem bU.newB3 {w w' : World} {is : List It} {g g2 g3 : Nat} {cs cs2 cs3 : List Value} {t t2 t3 : TypeId} (m : bU w0 w is) (e : cD w w') (hg : w.heap.size ≤ g) (hg2 : w.heap.size ≤ g2) (hg3 : w.heap.size ≤ g3) (hB : eU w' g cs t) (hB2 : eU w' g2 cs2 t2) (hB3 : eU w' g3 cs3 t3) (hne : g2 ≠ g) (hn2 : g3 ≠ g) (hn3 : g3 ≠ g2) : bU w0 w' (bI g3 cs3 t3 :: bI g2 cs2 t2 :: bI g cs t :: is):=by
 have m1:=m.newB2 e hg hg2 hB hB2 hne;refine ⟨m1.ext,fun j hj=>?_,fun j hj=>?_,List.pairwise_cons.2 ⟨fun j hj b h1 h2=>?_,m1.nd⟩⟩
 · rcases List.mem_cons.1 hj with rfl | hj
   · exact hB3
   · exact m1.all j hj
 · rcases List.mem_cons.1 hj with rfl | hj
   · exact fun b hb=>by cases hb; exact Nat.le_trans m.ext.size hg3
   · exact m1.ge j hj
 · cases h1
   rcases List.mem_cons.1 hj with rfl | hj
   · cases h2; exact hn3 rfl
   · rcases List.mem_cons.1 hj with rfl | hj
     · cases h2; exact hn2 rfl
     · have:=j.lt w _ (m.all j hj) h2
       omega
theorem Vp {tl : List Oper} {i d j e : Nat} {T U : TypeId} {cs us : List Value} (m : bU w0 w is) (hij : i ≠ j) (h : ∀ g k u,bU w0 u (bI k us U :: bI g cs T :: is) → wpList P ops Q tl (Fr ((l.set d (.pointer (some ⟨g,0,none⟩))).set e (.pointer (some ⟨k,0,none⟩))) ds) u) :
 ∀ E w',cD w w' → qY w.heap.size E [⟨i,d,T,cs⟩,⟨j,e,U,us⟩] w' → (∀ x ∈ [(⟨i,d,T,cs⟩ : Al),⟨j,e,U,us⟩],∃ v,E x.i = some v) → wpList P ops Q tl (d5 E [⟨i,d,T,cs⟩,⟨j,e,U,us⟩] (Fr l ds)) w' :=
 Sf hij fun u g k e hg hk hB hK hne=>h g k u (m.newB2 e hg hk hB hK hne)
theorem Xa {tl : List Oper} {i d j e k f : Nat} {T U V : TypeId} {cs us vs : List Value} (m : bU w0 w is) (hij : i ≠ j) (him : i ≠ k) (hjm : j ≠ k) (h : ∀ g p q u,bU w0 u (bI q vs V :: bI p us U :: bI g cs T :: is) → wpList P ops Q tl (Fr (((l.set d (.pointer (some ⟨g,0,none⟩))).set e (.pointer (some ⟨p,0,none⟩))).set f (.pointer (some ⟨q,0,none⟩))) ds) u) :
 ∀ E w',cD w w' → qY w.heap.size E [⟨i,d,T,cs⟩,⟨j,e,U,us⟩,⟨k,f,V,vs⟩] w' → (∀ x ∈ [(⟨i,d,T,cs⟩ : Al),⟨j,e,U,us⟩,⟨k,f,V,vs⟩],∃ v,E x.i = some v) → wpList P ops Q tl (d5 E [⟨i,d,T,cs⟩,⟨j,e,U,us⟩,⟨k,f,V,vs⟩] (Fr l ds)) w' :=
 Sg hij him hjm fun u g p q e hg hp hq hB hP hQ n1 n2 n3=>h g p q u (m.newB3 e hg hp hq hB hP hQ n1 n2 n3)
theorem Vq {c : Code} {a : Act} {l : Nat → Nat → List Value} {c1 c2 : List Value} {T1 T2 : TypeId} (m : bU w0 w is) (h1 : c.wp P (fun e a' u=>e = .normal ∧ ∃ g k,a' = Fr (l g k) ds ∧ bU w0 u (bI k c2 T2 :: bI g c1 T1 :: is)) a w)
 (h2 : ∀ g k u,bU w0 u (bI k c2 T2 :: bI g c1 T1 :: is) → Q .normal (Fr (l g k) ds) u) : c.wp P Q a w:=by
 refine Code.wp_mono ?_ h1;rintro e a' u ⟨rfl,g,k,rfl,m'⟩;exact h2 g k u m'
end
section
variable {P : Program} {w0 : World} {is : List It} {l : List Value} {x y : Operand} {T ty : TypeId}
variable {ops : Array Oper} {Q : Act → Prop} {rest : List Oper} {d : Nat} {pos : String} {after : Array Edge} {v : Value} {ds : List Deferred}
theorem ql {a : Addr} (hx : ev l x = .pointer (some a)) (hv : ∀ u,bU w0 u is → oY P u T a v) (h : wpQuiet P ops (fun u=>bU w0 u is) Q rest (Fr (l.set d v) ds)) : wpQuiet P ops (fun u=>bU w0 u is) Q (Oper.mk (some d) (.load T x) ty pos after none :: rest) (Fr l ds) :=
 vN (fun u m=>jN hx (hv u m)) h
theorem qc {f : FuncId} {fo : Operand} {xs : Array Operand} {args : List Value} {first cap : Array Value} {a0 : Array TypeId} (hf : ev l fo = .func (.func f) first cap) (hxs : first.toList ++ xs.toList.map (ev l) ++ cap.toList = args) (hc : ∀ u,bU w0 u is → gD P f args u fun x _=>x = v)
 (h : wpQuiet P ops (fun u=>bU w0 u is) Q rest (Fr (l.set d v) ds)) : wpQuiet P ops (fun u=>bU w0 u is) Q (Oper.mk (some d) (.call { callee:=.value fo,args:=xs,argTypes:=a0 }) ty pos after none :: rest) (Fr l ds):=by
 refine wpQuiet_step fun K hK=>?_;rw [if_pos (by simp [Region.wanted])];refine ⟨v,fun w' hw=>?_,?_⟩
 · unfold Oper.quietAt
   rw [gH,kL (hc w' hw).1 hf hxs _ rfl];refine ⟨rfl,(hc w' hw).2.mono ?_⟩;rintro e w'' ⟨u,rfl,hE,rfl⟩;exact ⟨rfl,hw.ext' hE⟩
 · show K ((Fr l ds).put (some d) v)
   rw [fV];exact hK _ h
theorem iO {f : FuncId} {fo : Operand} {xs : Array Operand} {args : List Value} {first cap : Array Value} {a0 : Array TypeId} (hf : ev l fo = .func (.func f) first cap) (hxs : first.toList ++ xs.toList.map (ev l) ++ cap.toList = args) (hc : eI P f args v)
 (h : wpQuiet P ops (fun u=>bU w0 u is) Q rest (Fr (l.set d v) ds)) : wpQuiet P ops (fun u=>bU w0 u is) Q (Oper.mk (some d) (.call { callee:=.value fo,args:=xs,argTypes:=a0 }) ty pos after none :: rest) (Fr l ds):=qc hf hxs (fun u _=>hc u) h
end
end Go.Lith
namespace Go.Proofs.YtimjandkmfcmiaaGreatDoor
open Go.RowKit Go.Lith
set_option maxRecDepth 100000
attribute [local irreducible] wpList wpQuiet dV dK dI Code.wp
theorem Vr {p : P3} : eI Tryz.prog 150 [pt p] (.int .i64 p.x):=by
 intro w;refine ⟨Ji,?_⟩;have m:=bU.refl w
 go_enter Tryz.func150,Tryz.ntmps150
 refine aF fun K1 k1=>wp_region_lit (dJ m rfl ?_);clear m; intro g1 u m;refine aA (aD) (aC (k1 _ _ ?_));refine aF fun K2 k2=>wp_region_lit (aA (aG (c:=0) Tryz.underlying183 rfl aO rfl rfl) ?_);simp only[ev,zD,zE,zF,zG];refine aI rfl ((m.b 0 rfl).lies1 aZ rfl) ?_;simp only[ev,zD,zE,zF,zG];refine aA (aD) (aC (k2 _ _ ?_));refine wp_ret ?_;simp only[ev,zD,zE,zF,zG];try simp only[Exit.inBlock,Exit.then,if_true]
 refine bT rfl rfl ?_;try simp only[zD,zE]
 exact ⟨_,rfl,m.ext,rfl⟩
theorem Vs {p : P3} : eI Tryz.prog 151 [pt p] (.int .i64 p.y):=by
 intro w;refine ⟨Jj,?_⟩;have m:=bU.refl w
 go_enter Tryz.func151,Tryz.ntmps151
 refine aF fun K1 k1=>wp_region_lit (dJ m rfl ?_);clear m; intro g1 u m;refine aA (aD) (aC (k1 _ _ ?_));refine aF fun K2 k2=>wp_region_lit (aA (aG (c:=0) Tryz.underlying183 rfl aO rfl rfl) ?_);simp only[ev,zD,zE,zF,zG];refine aI rfl ((m.b 0 rfl).lies1 aZ rfl) ?_;simp only[ev,zD,zE,zF,zG];refine aA (aD) (aC (k2 _ _ ?_));refine wp_ret ?_;simp only[ev,zD,zE,zF,zG];try simp only[Exit.inBlock,Exit.then,if_true]
 refine bT rfl rfl ?_;try simp only[zD,zE]
 exact ⟨_,rfl,m.ext,rfl⟩
theorem Vt {p : P3} : eI Tryz.prog 152 [pt p] (.int .i64 p.z):=by
 intro w;refine ⟨Jk,?_⟩;have m:=bU.refl w
 go_enter Tryz.func152,Tryz.ntmps152
 refine aF fun K1 k1=>wp_region_lit (dJ m rfl ?_);clear m; intro g1 u m;refine aA (aD) (aC (k1 _ _ ?_));refine aF fun K2 k2=>wp_region_lit (aA (aG (c:=0) Tryz.underlying183 rfl aO rfl rfl) ?_);simp only[ev,zD,zE,zF,zG];refine aI rfl ((m.b 0 rfl).lies1 aZ rfl) ?_;simp only[ev,zD,zE,zF,zG];refine aA (aD) (aC (k2 _ _ ?_));refine wp_ret ?_;simp only[ev,zD,zE,zF,zG];try simp only[Exit.inBlock,Exit.then,if_true]
 refine bT rfl rfl ?_;try simp only[zD,zE]
 exact ⟨_,rfl,m.ext,rfl⟩
theorem Sn  : eI Tryz.prog 137 [] (.agg #[.func (.func 150) #[] #[],.func (.func 151) #[] #[],.func (.func 152) #[] #[]]):=by
 intro w;refine ⟨Jh,?_⟩;have m:=bU.refl w
 go_enter Tryz.func137,Tryz.ntmps137
 refine aF fun K1 k1=>wp_region_lit (bN m vW rfl ?_);clear m; intro g1 u m;refine aC (k1 _ _ ?_);refine aF fun K2 k2=>wp_region_lit (aA (mQ rfl rfl rfl) ?_);simp only[ev,zD,zE,zF,zG];refine aV m 0 rfl rfl rfl pU (b9 rfl) rfl ?_;clear m; intro u m; simp only[a8,zH,zI,zJ,zK,zL,zM,zN,zO,zP,zF,zG,Nat.reduceAdd] at m;refine aC (k2 _ _ ?_);refine wp_ret ?_;try simp only[Exit.inBlock,Exit.then,if_true]
 refine bT rfl ⟨_,rfl,((m.b 0 rfl).full F9 pU)⟩ ?_;try simp only[zD,zE]
 exact ⟨_,rfl,m.ext,rfl⟩
theorem K0  : eI Tryz.prog 138 [.int .i64 0] (.tuple #[.int .i64 1,.int .i64 2]):=by
 intro w;refine ⟨Eq,?_⟩;have m:=bU.refl w
 go_enter Tryz.func138,Tryz.ntmps138
 refine aF fun K1 k1=>wp_region_lit (aA (aD) (aA (aD) (aC (k1 _ _ ?_))));refine aF fun K2 k2=>wp_region_lit (aA (aB) (aA (aX (m:=0) (n:=1) (r:=1) rfl rfl (by decide)) ?_));simp only[ev,zD,zE,zF,zG];refine aA (dF (m:=1) (n:=3) (r:=1) rfl rfl (by decide) (by decide)) (aA (aB) (aA (aX (m:=0) (n:=2) (r:=2) rfl rfl (by decide)) (aA (dF (m:=2) (n:=3) (r:=2) rfl rfl (by decide) (by decide)) ?_)));simp only[ev,zD,zE,zF,zG];refine aA (aD) (aA (aD) (aC (k2 _ _ ?_)));refine wp_ret ?_;simp only[ev,zD,zE,zF,zG];try simp only[Exit.inBlock,Exit.then,if_true]
 refine mZ rfl rfl rfl ?_;try simp only[zD,zE]
 exact ⟨_,rfl,m.ext,rfl⟩
theorem La  : eI Tryz.prog 138 [.int .i64 1] (.tuple #[.int .i64 2,.int .i64 0]):=by
 intro w;refine ⟨Eq,?_⟩;have m:=bU.refl w
 go_enter Tryz.func138,Tryz.ntmps138
 refine aF fun K1 k1=>wp_region_lit (aA (aD) (aA (aD) (aC (k1 _ _ ?_))));refine aF fun K2 k2=>wp_region_lit (aA (aB) (aA (aX (m:=1) (n:=1) (r:=2) rfl rfl (by decide)) ?_));simp only[ev,zD,zE,zF,zG];refine aA (dF (m:=2) (n:=3) (r:=2) rfl rfl (by decide) (by decide)) (aA (aB) (aA (aX (m:=1) (n:=2) (r:=3) rfl rfl (by decide)) (aA (dF (m:=3) (n:=3) (r:=0) rfl rfl (by decide) (by decide)) ?_)));simp only[ev,zD,zE,zF,zG];refine aA (aD) (aA (aD) (aC (k2 _ _ ?_)));refine wp_ret ?_;simp only[ev,zD,zE,zF,zG];try simp only[Exit.inBlock,Exit.then,if_true]
 refine mZ rfl rfl rfl ?_;try simp only[zD,zE]
 exact ⟨_,rfl,m.ext,rfl⟩
theorem Lb  : eI Tryz.prog 138 [.int .i64 2] (.tuple #[.int .i64 0,.int .i64 1]):=by
 intro w;refine ⟨Eq,?_⟩;have m:=bU.refl w
 go_enter Tryz.func138,Tryz.ntmps138
 refine aF fun K1 k1=>wp_region_lit (aA (aD) (aA (aD) (aC (k1 _ _ ?_))));refine aF fun K2 k2=>wp_region_lit (aA (aB) (aA (aX (m:=2) (n:=1) (r:=3) rfl rfl (by decide)) ?_));simp only[ev,zD,zE,zF,zG];refine aA (dF (m:=3) (n:=3) (r:=0) rfl rfl (by decide) (by decide)) (aA (aB) (aA (aX (m:=2) (n:=2) (r:=4) rfl rfl (by decide)) (aA (dF (m:=4) (n:=3) (r:=1) rfl rfl (by decide) (by decide)) ?_)));simp only[ev,zD,zE,zF,zG];refine aA (aD) (aA (aD) (aC (k2 _ _ ?_)));refine wp_ret ?_;simp only[ev,zD,zE,zF,zG];try simp only[Exit.inBlock,Exit.then,if_true]
 refine mZ rfl rfl rfl ?_;try simp only[zD,zE]
 exact ⟨_,rfl,m.ext,rfl⟩
theorem mU {p q : P3} [I3 p] [I3 q] : eI Tryz.prog 107 [pt p,pt q] (wv (q.sub p)):=by
 intro w;refine ⟨Q5,?_⟩;have m:=bU.refl w
 go_enter Tryz.func107,Tryz.ntmps107
 refine aF fun K1 k1=>wp_region_lit (dJ m rfl ?_);clear m; intro g1 u m;simp only[ev,zD,zE,zF,zG];refine dJ m rfl ?_;clear m; intro g2 u m;simp only[ev,zD,zE,zF,zG];refine bN m rV rfl ?_;clear m; intro g3 u m;refine aC (k1 _ _ ?_);refine aF fun K2 k2=>wp_region_lit ?_;simp only[ev,zD,zE,zF,zG];refine bN m rV rfl ?_;clear m; intro g4 u m;refine aC (k2 _ _ ?_);refine aF fun K3 k3=>aF fun K4 k4=>wp_region_lit ?_;simp only[ev,zD,zE,zF,zG];refine bH m rfl rfl (Sn) ?_;clear m; intro u m;refine aA (aB) (aC (k4 _ _ ?_));refine wp_block (wp_loop_rounds 4 (dA (aF fun K5 k5=>wp_region_lit (aA (bR (m:=0) (n:=3) rfl rfl (by decide)) (aC (k5 _ _ ?_))))));refine aF fun K6 k6=>bS rfl (wp_skip (k6 _ _ ?_));refine aF fun K7 k7=>wp_block (aF fun K8 k8=>wp_region_lit (aA (aB) ?_));simp only[ev,zD,zE,zF,zG];refine aA (qH rfl rfl) (aA (aD) (aA (aD) (aC (k8 _ _ ?_))));simp only[ev,zD,zE,zF,zG];refine dQ m 11 aU (by kernel_rfl) ?_;simp only[zH,zI,zJ,zK];refine aR (aB) (aR (aB) ?_);simp only[ev,zD,zE,zF,zG];refine ql rfl (fun u m=>((m.b 2 rfl).full bC aN)) ?_;simp only[ev,zD,zE,zF,zG];refine iO rfl rfl (Vr) ?_;simp only[ev,zD,zE,zF,zG];refine iO rfl rfl (i6 Iw.h) (aR (aB) ?_);simp only[ev,zD,zE,zF,zG];refine ql rfl (fun u m=>((m.b 3 rfl).full bC aN)) ?_;simp only[ev,zD,zE,zF,zG];refine iO rfl rfl (Vr) ?_;simp only[ev,zD,zE,zF,zG];refine iO rfl rfl (i6 Iw.h) ?_;simp only[ev,zD,zE,zF,zG];refine iO rfl rfl (nN Bw.up Bw.up) (aR (aJ Tryz.underlying152 aH rfl rfl (by decide) (by decide) rfl) (dW ?_));clear m; intro u m;simp only[ev,zD,zE,zF,zG];refine aV m 0 rfl rfl rfl aH (b9 rfl) rfl ?_;clear m; intro u m; simp only[a8,zH,zI,zJ,zK,zL,zM,zN,zO,zP,zF,zG,Nat.reduceAdd] at m;refine aC (k7 _ _ ?_);refine wp_region_lit (aA (aX (m:=0) (n:=1) (r:=1) rfl rfl (by decide)) (aA (aB) (aC (a7 (aF fun K9 k9=>wp_region_lit (aA (bR (m:=1) (n:=3) rfl rfl (by decide)) (aC (k9 _ _ ?_))))))));refine aF fun K10 k10=>bS rfl (wp_skip (k10 _ _ ?_));refine aF fun K11 k11=>wp_block (aF fun K12 k12=>wp_region_lit (aA (aB) ?_));simp only[ev,zD,zE,zF,zG];refine aA (qI rfl rfl) (aA (aD) (aA (aD) (aC (k12 _ _ ?_))));simp only[ev,zD,zE,zF,zG];refine dQ m 11 aU (by kernel_rfl) ?_;simp only[zH,zI,zJ,zK];refine aR (aB) (aR (aB) ?_);simp only[ev,zD,zE,zF,zG];refine ql rfl (fun u m=>((m.b 2 rfl).full bC aN)) ?_;simp only[ev,zD,zE,zF,zG];refine iO rfl rfl (Vs) ?_;simp only[ev,zD,zE,zF,zG];refine iO rfl rfl (i6 Iw.h) (aR (aB) ?_);simp only[ev,zD,zE,zF,zG];refine ql rfl (fun u m=>((m.b 3 rfl).full bC aN)) ?_;simp only[ev,zD,zE,zF,zG];refine iO rfl rfl (Vs) ?_;simp only[ev,zD,zE,zF,zG];refine iO rfl rfl (i6 Iw.h) ?_;simp only[ev,zD,zE,zF,zG];refine iO rfl rfl (nN Bw.up Bw.up) (aR (aJ Tryz.underlying152 aH rfl rfl (by decide) (by decide) rfl) (dW ?_));clear m; intro u m;simp only[ev,zD,zE,zF,zG];refine aV m 0 rfl rfl rfl aH (b9 rfl) rfl ?_;clear m; intro u m; simp only[a8,zH,zI,zJ,zK,zL,zM,zN,zO,zP,zF,zG,Nat.reduceAdd] at m;refine aC (k11 _ _ ?_);refine wp_region_lit (aA (aX (m:=1) (n:=1) (r:=2) rfl rfl (by decide)) (aA (aB) (aC (a7 (aF fun K13 k13=>wp_region_lit (aA (bR (m:=2) (n:=3) rfl rfl (by decide)) (aC (k13 _ _ ?_))))))));refine aF fun K14 k14=>bS rfl (wp_skip (k14 _ _ ?_));refine aF fun K15 k15=>wp_block (aF fun K16 k16=>wp_region_lit (aA (aB) ?_));simp only[ev,zD,zE,zF,zG];refine aA (qJ rfl rfl) (aA (aD) (aA (aD) (aC (k16 _ _ ?_))));simp only[ev,zD,zE,zF,zG];refine dQ m 11 aU (by kernel_rfl) ?_;simp only[zH,zI,zJ,zK];refine aR (aB) (aR (aB) ?_);simp only[ev,zD,zE,zF,zG];refine ql rfl (fun u m=>((m.b 2 rfl).full bC aN)) ?_;simp only[ev,zD,zE,zF,zG];refine iO rfl rfl (Vt) ?_;simp only[ev,zD,zE,zF,zG];refine iO rfl rfl (i6 Iw.h) (aR (aB) ?_);simp only[ev,zD,zE,zF,zG];refine ql rfl (fun u m=>((m.b 3 rfl).full bC aN)) ?_;simp only[ev,zD,zE,zF,zG];refine iO rfl rfl (Vt) ?_;simp only[ev,zD,zE,zF,zG];refine iO rfl rfl (i6 Iw.h) ?_;simp only[ev,zD,zE,zF,zG];refine iO rfl rfl (nN Bw.up Bw.up) (aR (aJ Tryz.underlying152 aH rfl rfl (by decide) (by decide) rfl) (dW ?_));clear m; intro u m;simp only[ev,zD,zE,zF,zG];refine aV m 0 rfl rfl rfl aH (b9 rfl) rfl ?_;clear m; intro u m; simp only[a8,zH,zI,zJ,zK,zL,zM,zN,zO,zP,zF,zG,Nat.reduceAdd] at m;refine aC (k15 _ _ ?_);refine wp_region_lit (aA (aX (m:=2) (n:=1) (r:=3) rfl rfl (by decide)) (aA (aB) (aC (a7 (aF fun K17 k17=>wp_region_lit (aA (eW (m:=3) (n:=3) rfl rfl (by decide)) (aC (k17 _ _ ?_))))))));refine aF fun K18 k18=>eM rfl (wp_exit (k3 _ _ ?_));refine aF fun K19 k19=>wp_region_lit ?_;simp only[ev,zD,zE,zF,zG];refine aI rfl ((m.b 0 rfl).full u7 lT) ?_;simp only[ev,zD,zE,zF,zG];refine aV m 1 rfl rfl rfl lT (b9 rfl) rfl ?_;clear m; intro u m; simp only[a8,zH,zI,zJ,zK,zL,zM,zN,zO,zP,zF,zG,Nat.reduceAdd] at m;refine aC (k19 _ _ ?_);refine wp_ret ?_;try simp only[Exit.inBlock,Exit.then,if_true]
 refine bT rfl ⟨_,rfl,((m.b 1 rfl).full u7 lT)⟩ ?_;try simp only[zD,zE]
 exact ⟨_,rfl,m.ext,rfl⟩
theorem sJ {u v : P3} (hu : Bv 400000 u) (hv : Bv 400000 v) : eI Tryz.prog 108 [wv u,wv v] (wv (u.cross v)):=by
 intro w;refine ⟨Q6,?_⟩;have m:=bU.refl w
 go_enter Tryz.func108,Tryz.ntmps108
 refine aF fun K1 k1=>wp_region_lit (dJ m rfl ?_);clear m; intro g1 u m;simp only[ev,zD,zE,zF,zG];refine dJ m rfl ?_;clear m; intro g2 u m;simp only[ev,zD,zE,zF,zG];refine bN m rV rfl ?_;clear m; intro g3 u m;refine aC (k1 _ _ ?_);refine aF fun K2 k2=>wp_region_lit ?_;simp only[ev,zD,zE,zF,zG];refine bN m rV rfl ?_;clear m; intro g4 u m;refine aC (k2 _ _ ?_);refine aF fun K3 k3=>aF fun K4 k4=>wp_region_lit (aA (aB) (aC (k4 _ _ ?_)));refine wp_block (wp_loop_rounds 4 (dA (aF fun K5 k5=>wp_region_lit (aA (bR (m:=0) (n:=3) rfl rfl (by decide)) (aC (k5 _ _ ?_))))));refine aF fun K6 k6=>bS rfl (wp_skip (k6 _ _ ?_));refine aF fun K7 k7=>wp_block (aF fun K8 k8=>wp_region_lit (aA (aB) ?_));simp only[ev,zD,zE,zF,zG];refine aA (aD) (aC (k8 _ _ ?_));refine aF fun K9 k9=>wp_region_lit (aA (aB) ?_);simp only[ev,zD,zE,zF,zG];refine bH m rfl rfl (K0) ?_;clear m; intro u m;refine aA (aB) (aA (bJ rfl rfl) (aA (bJ rfl rfl) ?_));simp only[ev,zD,zE,zF,zG];refine aA (aD) (aA (aD) (aC (k9 _ _ ?_)));simp only[ev,zD,zE,zF,zG];refine dQ m 17 aU (by kernel_rfl) ?_;simp only[zH,zI,zJ,zK];refine aR (aB) (aR (aB) (aR (aJ Tryz.underlying152 aH rfl rfl (by decide) (by decide) rfl) ?_));simp only[ev,zD,zE,zF,zG];refine ql rfl (fun u m=>((m.b 3 rfl).lies aY aH rfl rfl)) ?_;simp only[ev,zD,zE,zF,zG,zH,zI,zJ,zK,Nat.zero_add,Nat.reduceAdd,Nat.reduceMul,Int.reduceToNat];refine aR (aB) (aR (aJ Tryz.underlying152 aH rfl rfl (by decide) (by decide) rfl) ?_);simp only[ev,zD,zE,zF,zG];refine ql rfl (fun u m=>((m.b 2 rfl).lies aY aH rfl rfl)) ?_;simp only[ev,zD,zE,zF,zG,zH,zI,zJ,zK,Nat.zero_add,Nat.reduceAdd,Nat.reduceMul,Int.reduceToNat];refine iO rfl rfl (gY Bw.up Bw.up) (aR (aB) (aR (aJ Tryz.underlying152 aH rfl rfl (by decide) (by decide) rfl) ?_));simp only[ev,zD,zE,zF,zG];refine ql rfl (fun u m=>((m.b 3 rfl).lies aY aH rfl rfl)) ?_;simp only[ev,zD,zE,zF,zG,zH,zI,zJ,zK,Nat.zero_add,Nat.reduceAdd,Nat.reduceMul,Int.reduceToNat];refine aR (aB) (aR (aJ Tryz.underlying152 aH rfl rfl (by decide) (by decide) rfl) ?_);simp only[ev,zD,zE,zF,zG];refine ql rfl (fun u m=>((m.b 2 rfl).lies aY aH rfl rfl)) ?_;simp only[ev,zD,zE,zF,zG,zH,zI,zJ,zK,Nat.zero_add,Nat.reduceAdd,Nat.reduceMul,Int.reduceToNat];refine iO rfl rfl (gY Bw.up Bw.up) ?_;simp only[ev,zD,zE,zF,zG];refine iO rfl rfl (nN Bw.up Bw.up) (aR (aJ Tryz.underlying152 aH rfl rfl (by decide) (by decide) rfl) (dW ?_));clear m; intro u m;simp only[ev,zD,zE,zF,zG];refine aV m 0 rfl rfl rfl aH (b9 rfl) rfl ?_;clear m; intro u m; simp only[a8,zH,zI,zJ,zK,zL,zM,zN,zO,zP,zF,zG,Nat.reduceAdd] at m;refine aC (k7 _ _ ?_);refine wp_region_lit (aA (aX (m:=0) (n:=1) (r:=1) rfl rfl (by decide)) (aA (aB) (aC (a7 (aF fun K10 k10=>wp_region_lit (aA (bR (m:=1) (n:=3) rfl rfl (by decide)) (aC (k10 _ _ ?_))))))));refine aF fun K11 k11=>bS rfl (wp_skip (k11 _ _ ?_));refine aF fun K12 k12=>wp_block (aF fun K13 k13=>wp_region_lit (aA (aB) ?_));simp only[ev,zD,zE,zF,zG];refine aA (aD) (aC (k13 _ _ ?_));refine aF fun K14 k14=>wp_region_lit (aA (aB) ?_);simp only[ev,zD,zE,zF,zG];refine bH m rfl rfl (La) ?_;clear m; intro u m;refine aA (aB) (aA (bJ rfl rfl) (aA (bJ rfl rfl) ?_));simp only[ev,zD,zE,zF,zG];refine aA (aD) (aA (aD) (aC (k14 _ _ ?_)));simp only[ev,zD,zE,zF,zG];refine dQ m 17 aU (by kernel_rfl) ?_;simp only[zH,zI,zJ,zK];refine aR (aB) (aR (aB) (aR (aJ Tryz.underlying152 aH rfl rfl (by decide) (by decide) rfl) ?_));simp only[ev,zD,zE,zF,zG];refine ql rfl (fun u m=>((m.b 3 rfl).lies aY aH rfl rfl)) ?_;simp only[ev,zD,zE,zF,zG,zH,zI,zJ,zK,Nat.zero_add,Nat.reduceAdd,Nat.reduceMul,Int.reduceToNat];refine aR (aB) (aR (aJ Tryz.underlying152 aH rfl rfl (by decide) (by decide) rfl) ?_);simp only[ev,zD,zE,zF,zG];refine ql rfl (fun u m=>((m.b 2 rfl).lies aY aH rfl rfl)) ?_;simp only[ev,zD,zE,zF,zG,zH,zI,zJ,zK,Nat.zero_add,Nat.reduceAdd,Nat.reduceMul,Int.reduceToNat];refine iO rfl rfl (gY Bw.up Bw.up) (aR (aB) (aR (aJ Tryz.underlying152 aH rfl rfl (by decide) (by decide) rfl) ?_));simp only[ev,zD,zE,zF,zG];refine ql rfl (fun u m=>((m.b 3 rfl).lies aY aH rfl rfl)) ?_;simp only[ev,zD,zE,zF,zG,zH,zI,zJ,zK,Nat.zero_add,Nat.reduceAdd,Nat.reduceMul,Int.reduceToNat];refine aR (aB) (aR (aJ Tryz.underlying152 aH rfl rfl (by decide) (by decide) rfl) ?_);simp only[ev,zD,zE,zF,zG];refine ql rfl (fun u m=>((m.b 2 rfl).lies aY aH rfl rfl)) ?_;simp only[ev,zD,zE,zF,zG,zH,zI,zJ,zK,Nat.zero_add,Nat.reduceAdd,Nat.reduceMul,Int.reduceToNat];refine iO rfl rfl (gY Bw.up Bw.up) ?_;simp only[ev,zD,zE,zF,zG];refine iO rfl rfl (nN Bw.up Bw.up) (aR (aJ Tryz.underlying152 aH rfl rfl (by decide) (by decide) rfl) (dW ?_));clear m; intro u m;simp only[ev,zD,zE,zF,zG];refine aV m 0 rfl rfl rfl aH (b9 rfl) rfl ?_;clear m; intro u m; simp only[a8,zH,zI,zJ,zK,zL,zM,zN,zO,zP,zF,zG,Nat.reduceAdd] at m;refine aC (k12 _ _ ?_);refine wp_region_lit (aA (aX (m:=1) (n:=1) (r:=2) rfl rfl (by decide)) (aA (aB) (aC (a7 (aF fun K15 k15=>wp_region_lit (aA (bR (m:=2) (n:=3) rfl rfl (by decide)) (aC (k15 _ _ ?_))))))));refine aF fun K16 k16=>bS rfl (wp_skip (k16 _ _ ?_));refine aF fun K17 k17=>wp_block (aF fun K18 k18=>wp_region_lit (aA (aB) ?_));simp only[ev,zD,zE,zF,zG];refine aA (aD) (aC (k18 _ _ ?_));refine aF fun K19 k19=>wp_region_lit (aA (aB) ?_);simp only[ev,zD,zE,zF,zG];refine bH m rfl rfl (Lb) ?_;clear m; intro u m;refine aA (aB) (aA (bJ rfl rfl) (aA (bJ rfl rfl) ?_));simp only[ev,zD,zE,zF,zG];refine aA (aD) (aA (aD) (aC (k19 _ _ ?_)));simp only[ev,zD,zE,zF,zG];refine dQ m 17 aU (by kernel_rfl) ?_;simp only[zH,zI,zJ,zK];refine aR (aB) (aR (aB) (aR (aJ Tryz.underlying152 aH rfl rfl (by decide) (by decide) rfl) ?_));simp only[ev,zD,zE,zF,zG];refine ql rfl (fun u m=>((m.b 3 rfl).lies aY aH rfl rfl)) ?_;simp only[ev,zD,zE,zF,zG,zH,zI,zJ,zK,Nat.zero_add,Nat.reduceAdd,Nat.reduceMul,Int.reduceToNat];refine aR (aB) (aR (aJ Tryz.underlying152 aH rfl rfl (by decide) (by decide) rfl) ?_);simp only[ev,zD,zE,zF,zG];refine ql rfl (fun u m=>((m.b 2 rfl).lies aY aH rfl rfl)) ?_;simp only[ev,zD,zE,zF,zG,zH,zI,zJ,zK,Nat.zero_add,Nat.reduceAdd,Nat.reduceMul,Int.reduceToNat];refine iO rfl rfl (gY Bw.up Bw.up) (aR (aB) (aR (aJ Tryz.underlying152 aH rfl rfl (by decide) (by decide) rfl) ?_));simp only[ev,zD,zE,zF,zG];refine ql rfl (fun u m=>((m.b 3 rfl).lies aY aH rfl rfl)) ?_;simp only[ev,zD,zE,zF,zG,zH,zI,zJ,zK,Nat.zero_add,Nat.reduceAdd,Nat.reduceMul,Int.reduceToNat];refine aR (aB) (aR (aJ Tryz.underlying152 aH rfl rfl (by decide) (by decide) rfl) ?_);simp only[ev,zD,zE,zF,zG];refine ql rfl (fun u m=>((m.b 2 rfl).lies aY aH rfl rfl)) ?_;simp only[ev,zD,zE,zF,zG,zH,zI,zJ,zK,Nat.zero_add,Nat.reduceAdd,Nat.reduceMul,Int.reduceToNat];refine iO rfl rfl (gY Bw.up Bw.up) ?_;simp only[ev,zD,zE,zF,zG];refine iO rfl rfl (nN Bw.up Bw.up) (aR (aJ Tryz.underlying152 aH rfl rfl (by decide) (by decide) rfl) (dW ?_));clear m; intro u m;simp only[ev,zD,zE,zF,zG];refine aV m 0 rfl rfl rfl aH (b9 rfl) rfl ?_;clear m; intro u m; simp only[a8,zH,zI,zJ,zK,zL,zM,zN,zO,zP,zF,zG,Nat.reduceAdd] at m;refine aC (k17 _ _ ?_);refine wp_region_lit (aA (aX (m:=2) (n:=1) (r:=3) rfl rfl (by decide)) (aA (aB) (aC (a7 (aF fun K20 k20=>wp_region_lit (aA (eW (m:=3) (n:=3) rfl rfl (by decide)) (aC (k20 _ _ ?_))))))));refine aF fun K21 k21=>eM rfl (wp_exit (k3 _ _ ?_));refine aF fun K22 k22=>wp_region_lit ?_;simp only[ev,zD,zE,zF,zG];refine aI rfl ((m.b 0 rfl).full u7 lT) ?_;simp only[ev,zD,zE,zF,zG];refine aV m 1 rfl rfl rfl lT (b9 rfl) rfl ?_;clear m; intro u m; simp only[a8,zH,zI,zJ,zK,zL,zM,zN,zO,zP,zF,zG,Nat.reduceAdd] at m;refine aC (k22 _ _ ?_);refine wp_ret ?_;try simp only[Exit.inBlock,Exit.then,if_true]
 refine bT rfl ⟨_,rfl,((m.b 1 rfl).full u7 lT)⟩ ?_;try simp only[zD,zE]
 exact ⟨_,rfl,m.ext,rfl⟩
theorem Sp {b : Int} (hb : Bd 1000000 b) : eI Tryz.prog 94 [.agg #[.bool false,.string ⟨#[]⟩],W b] (W (0 + b)):=by
 rw [← Sc];exact Gf (gT _) hb
end Go.Proofs.YtimjandkmfcmiaaGreatDoor
namespace Go.Proofs.YtimjandkmfcmiaaGreatDoor
open Go.RowKit Go.Lith
set_option maxRecDepth 100000
attribute [local irreducible] wpList wpQuiet dV dK dI Code.wp
theorem Ld {t : T3} [IT t] : eI Tryz.prog 70 [tr t] (wv t.normal):=by
 intro w;refine ⟨U3,?_⟩;have m:=bU.refl w
 go_enter Tryz.func70,Tryz.ntmps70
 refine aF fun K1 k1=>wp_region_lit (dJ m rfl ?_);clear m; intro g1 u m;simp only[ev,zD,zE,zF,zG];refine bN m Jq rfl ?_;clear m; intro g2 u m;refine aC (k1 _ _ ?_);refine aF fun K2 k2=>?_;simp only[ev,zD,zE,zF,zG];refine dQ m 11 aU (by kernel_rfl) ?_;simp only[zH,zI,zJ,zK];refine aR (aJ Tryz.underlying58 aN rfl rfl (by decide) (by decide) rfl) ?_;simp only[ev,zD,zE,zF,zG];refine ql rfl (fun u m=>((m.b 1 rfl).lies bC aN rfl rfl)) ?_;simp only[ev,zD,zE,zF,zG,zH,zI,zJ,zK,Nat.zero_add,Nat.reduceAdd,Nat.reduceMul,Int.reduceToNat];refine aR (aJ Tryz.underlying58 aN rfl rfl (by decide) (by decide) rfl) ?_;simp only[ev,zD,zE,zF,zG];refine ql rfl (fun u m=>((m.b 1 rfl).lies bC aN rfl rfl)) ?_;simp only[ev,zD,zE,zF,zG,zH,zI,zJ,zK,Nat.zero_add,Nat.reduceAdd,Nat.reduceMul,Int.reduceToNat];refine iO rfl rfl (mU) (aR (aJ Tryz.underlying58 aN rfl rfl (by decide) (by decide) rfl) ?_);simp only[ev,zD,zE,zF,zG];refine ql rfl (fun u m=>((m.b 1 rfl).lies bC aN rfl rfl)) ?_;simp only[ev,zD,zE,zF,zG,zH,zI,zJ,zK,Nat.zero_add,Nat.reduceAdd,Nat.reduceMul,Int.reduceToNat];refine aR (aJ Tryz.underlying58 aN rfl rfl (by decide) (by decide) rfl) ?_;simp only[ev,zD,zE,zF,zG];refine ql rfl (fun u m=>((m.b 1 rfl).lies bC aN rfl rfl)) ?_;simp only[ev,zD,zE,zF,zG,zH,zI,zJ,zK,Nat.zero_add,Nat.reduceAdd,Nat.reduceMul,Int.reduceToNat];refine iO rfl rfl (mU) ?_;simp only[ev,zD,zE,zF,zG];refine iO rfl rfl (sJ Bv.of Bv.of) (dW ?_);clear m; intro u m;simp only[ev,zD,zE,zF,zG];refine aV m 0 rfl rfl rfl yJ (b9 rfl) rfl ?_;clear m; intro u m; simp only[a8,zH,zI,zJ,zK,zL,zM,zN,zO,zP,zF,zG,Nat.reduceAdd] at m;refine aC (k2 _ _ ?_);refine wp_ret ?_;try simp only[Exit.inBlock,Exit.then,if_true]
 refine bT rfl ⟨_,rfl,((m.b 0 rfl).full Ni yJ)⟩ ?_;try simp only[zD,zE]
 exact ⟨_,rfl,m.ext,rfl⟩
theorem jM {X : Nat} (w : World) (hX64 : X < 18446744073709551616) : gD Tryz.prog 149 [.int .u64 X] w (fun v _=>∃ n : Int,v = .int .i64 n ∧ 0 ≤ n ∧ n ≤ 64 ∧ (n ≤ 18 → X < 262144)):=by
 refine ⟨Rl,?_⟩;have m:=bU.refl w
 go_enter Tryz.func149,Tryz.ntmps149
 refine aF fun K1 k1=>wp_region_lit (aA (aD) (aC (k1 _ _ ?_)));refine aF fun K2 k2=>aF fun K3 k3=>wp_region_lit (aA (aB) (aA (kK rfl rfl) (aC (k3 _ _ ?_))));simp only[ev,zD,zE,zF,zG];refine cK rfl (fun hc1=>?_) (fun hc1=>?_)
 ·
  refine aF fun K4 k4=>wp_region_lit (aA (aB) ?_);simp only[ev,zD,zE,zF,zG];refine aA (i9 rfl rfl (by omega) Bp) (aA (aD) (aC (k4 _ _ ?_)));refine wp_region_lit (aA (aD) (aC (k2 _ _ ?_)));refine aF fun K5 k5=>aF fun K6 k6=>wp_region_lit (aA (aB) ?_);simp only[ev,zD,zE,zF,zG];refine aA (kK rfl rfl) (aC (k6 _ _ ?_));simp only[ev,zD,zE,zF,zG];refine cK rfl (fun hc2=>?_) (fun hc2=>?_)
  ·
   refine aF fun K7 k7=>wp_region_lit (aA (aB) ?_);simp only[ev,zD,zE,zF,zG];refine aA (i9 rfl rfl (by omega) Ku) (aA (aD) (aC (k7 _ _ ?_)));refine wp_region_lit (aA (aB) (aA (aX (m:=32) (n:=16) (r:=48) rfl rfl (by decide)) ?_));simp only[ev,zD,zE,zF,zG];refine aA (aD) (aC (k5 _ _ ?_));refine aF fun K8 k8=>aF fun K9 k9=>wp_region_lit (aA (aB) (aA (kK rfl rfl) (aC (k9 _ _ ?_))));simp only[ev,zD,zE,zF,zG];refine cK rfl (fun hc3=>?_) (fun hc3=>?_)
   ·
    refine aF fun K10 k10=>wp_region_lit (aA (aB) ?_);simp only[ev,zD,zE,zF,zG];refine aA (i9 rfl rfl (by omega) Gi) (aA (aD) (aC (k10 _ _ ?_)));refine wp_region_lit (aA (aB) (aA (aX (m:=48) (n:=8) (r:=56) rfl rfl (by decide)) ?_));simp only[ev,zD,zE,zF,zG];refine aA (aD) (aC (k8 _ _ ?_));refine aF fun K11 k11=>wp_region_lit (aA (aB) (aA (aB) (aA (dH Tryz.underlying5 Tryz.underlying101 rfl (lH (by omega) (by omega))) ?_)));simp only[ev,zD,zE,zF,zG];refine pF Tryz.underlying9 (by kernel_rfl) rfl (by omega) ?_;intro b hb8 hb2;simp only[oW,i8,mM,List.getD_cons_succ,List.getD_cons_zero,List.set_cons_succ,List.set_cons_zero];refine aA (dH Tryz.underlying3 Tryz.underlying5 rfl (aL (by omega) (by omega))) ?_;simp only[ev,zD,zE,zF,zG];refine aA (aX rfl rfl (aL (by omega) (by omega))) (aA (aD) (aC (k11 _ _ ?_)));refine wp_ret ?_;simp only[ev,zD,zE,zF,zG];try simp only[Exit.inBlock,Exit.then,if_true]
    refine bT rfl rfl ?_;try simp only[zD,zE]
    exact ⟨_,rfl,m.ext,_,rfl,by omega,by omega,by omega⟩
   ·
    refine wp_skip (k8 _ _ ?_);refine aF fun K12 k12=>wp_region_lit (aA (aB) (aA (aB) (aA (dH Tryz.underlying5 Tryz.underlying101 rfl (lH (by omega) (by omega))) ?_)));simp only[ev,zD,zE,zF,zG];refine pF Tryz.underlying9 (by kernel_rfl) rfl (by omega) ?_;intro b hb8 hb2;simp only[oW,i8,mM,List.getD_cons_succ,List.getD_cons_zero,List.set_cons_succ,List.set_cons_zero];refine aA (dH Tryz.underlying3 Tryz.underlying5 rfl (aL (by omega) (by omega))) ?_;simp only[ev,zD,zE,zF,zG];refine aA (aX rfl rfl (aL (by omega) (by omega))) (aA (aD) (aC (k12 _ _ ?_)));refine wp_ret ?_;simp only[ev,zD,zE,zF,zG];try simp only[Exit.inBlock,Exit.then,if_true]
    refine bT rfl rfl ?_;try simp only[zD,zE]
    exact ⟨_,rfl,m.ext,_,rfl,by omega,by omega,by omega⟩
  ·
   refine wp_skip (k5 _ _ ?_);refine aF fun K13 k13=>aF fun K14 k14=>wp_region_lit (aA (aB) (aA (kK rfl rfl) (aC (k14 _ _ ?_))));simp only[ev,zD,zE,zF,zG];refine cK rfl (fun hc3=>?_) (fun hc3=>?_)
   ·
    refine aF fun K15 k15=>wp_region_lit (aA (aB) ?_);simp only[ev,zD,zE,zF,zG];refine aA (i9 rfl rfl (by omega) Gi) (aA (aD) (aC (k15 _ _ ?_)));refine wp_region_lit (aA (aB) (aA (aX (m:=32) (n:=8) (r:=40) rfl rfl (by decide)) ?_));simp only[ev,zD,zE,zF,zG];refine aA (aD) (aC (k13 _ _ ?_));refine aF fun K16 k16=>wp_region_lit (aA (aB) (aA (aB) (aA (dH Tryz.underlying5 Tryz.underlying101 rfl (lH (by omega) (by omega))) ?_)));simp only[ev,zD,zE,zF,zG];refine pF Tryz.underlying9 (by kernel_rfl) rfl (by omega) ?_;intro b hb8 hb2;simp only[oW,i8,mM,List.getD_cons_succ,List.getD_cons_zero,List.set_cons_succ,List.set_cons_zero];refine aA (dH Tryz.underlying3 Tryz.underlying5 rfl (aL (by omega) (by omega))) ?_;simp only[ev,zD,zE,zF,zG];refine aA (aX rfl rfl (aL (by omega) (by omega))) (aA (aD) (aC (k16 _ _ ?_)));refine wp_ret ?_;simp only[ev,zD,zE,zF,zG];try simp only[Exit.inBlock,Exit.then,if_true]
    refine bT rfl rfl ?_;try simp only[zD,zE]
    exact ⟨_,rfl,m.ext,_,rfl,by omega,by omega,by omega⟩
   ·
    refine wp_skip (k13 _ _ ?_);refine aF fun K17 k17=>wp_region_lit (aA (aB) (aA (aB) (aA (dH Tryz.underlying5 Tryz.underlying101 rfl (lH (by omega) (by omega))) ?_)));simp only[ev,zD,zE,zF,zG];refine pF Tryz.underlying9 (by kernel_rfl) rfl (by omega) ?_;intro b hb8 hb2;simp only[oW,i8,mM,List.getD_cons_succ,List.getD_cons_zero,List.set_cons_succ,List.set_cons_zero];refine aA (dH Tryz.underlying3 Tryz.underlying5 rfl (aL (by omega) (by omega))) ?_;simp only[ev,zD,zE,zF,zG];refine aA (aX rfl rfl (aL (by omega) (by omega))) (aA (aD) (aC (k17 _ _ ?_)));refine wp_ret ?_;simp only[ev,zD,zE,zF,zG];try simp only[Exit.inBlock,Exit.then,if_true]
    refine bT rfl rfl ?_;try simp only[zD,zE]
    exact ⟨_,rfl,m.ext,_,rfl,by omega,by omega,by omega⟩
 ·
  refine wp_skip (k2 _ _ ?_);refine aF fun K18 k18=>aF fun K19 k19=>wp_region_lit (aA (aB) (aA (kK rfl rfl) (aC (k19 _ _ ?_))));simp only[ev,zD,zE,zF,zG];refine cK rfl (fun hc2=>?_) (fun hc2=>?_)
  ·
   refine aF fun K20 k20=>wp_region_lit (aA (aB) ?_);simp only[ev,zD,zE,zF,zG];refine aA (i9 rfl rfl (by omega) Ku) (aA (aD) (aC (k20 _ _ ?_)));refine wp_region_lit (aA (aB) (aA (aX (m:=0) (n:=16) (r:=16) rfl rfl (by decide)) ?_));simp only[ev,zD,zE,zF,zG];refine aA (aD) (aC (k18 _ _ ?_));refine aF fun K21 k21=>aF fun K22 k22=>wp_region_lit (aA (aB) (aA (kK rfl rfl) (aC (k22 _ _ ?_))));simp only[ev,zD,zE,zF,zG];refine cK rfl (fun hc3=>?_) (fun hc3=>?_)
   ·
    refine aF fun K23 k23=>wp_region_lit (aA (aB) ?_);simp only[ev,zD,zE,zF,zG];refine aA (i9 rfl rfl (by omega) Gi) (aA (aD) (aC (k23 _ _ ?_)));refine wp_region_lit (aA (aB) (aA (aX (m:=16) (n:=8) (r:=24) rfl rfl (by decide)) ?_));simp only[ev,zD,zE,zF,zG];refine aA (aD) (aC (k21 _ _ ?_));refine aF fun K24 k24=>wp_region_lit (aA (aB) (aA (aB) (aA (dH Tryz.underlying5 Tryz.underlying101 rfl (lH (by omega) (by omega))) ?_)));simp only[ev,zD,zE,zF,zG];refine pF Tryz.underlying9 (by kernel_rfl) rfl (by omega) ?_;intro b hb8 hb2;simp only[oW,i8,mM,List.getD_cons_succ,List.getD_cons_zero,List.set_cons_succ,List.set_cons_zero];refine aA (dH Tryz.underlying3 Tryz.underlying5 rfl (aL (by omega) (by omega))) ?_;simp only[ev,zD,zE,zF,zG];refine aA (aX rfl rfl (aL (by omega) (by omega))) (aA (aD) (aC (k24 _ _ ?_)));refine wp_ret ?_;simp only[ev,zD,zE,zF,zG];try simp only[Exit.inBlock,Exit.then,if_true]
    refine bT rfl rfl ?_;try simp only[zD,zE]
    exact ⟨_,rfl,m.ext,_,rfl,by omega,by omega,by omega⟩
   ·
    refine wp_skip (k21 _ _ ?_);refine aF fun K25 k25=>wp_region_lit (aA (aB) (aA (aB) (aA (dH Tryz.underlying5 Tryz.underlying101 rfl (lH (by omega) (by omega))) ?_)));simp only[ev,zD,zE,zF,zG];refine pF Tryz.underlying9 (by kernel_rfl) rfl (by omega) ?_;intro b hb8 hb2;simp only[oW,i8,mM,List.getD_cons_succ,List.getD_cons_zero,List.set_cons_succ,List.set_cons_zero];refine aA (dH Tryz.underlying3 Tryz.underlying5 rfl (aL (by omega) (by omega))) ?_;simp only[ev,zD,zE,zF,zG];refine aA (aX rfl rfl (aL (by omega) (by omega))) (aA (aD) (aC (k25 _ _ ?_)));refine wp_ret ?_;simp only[ev,zD,zE,zF,zG];try simp only[Exit.inBlock,Exit.then,if_true]
    refine bT rfl rfl ?_;try simp only[zD,zE]
    exact ⟨_,rfl,m.ext,_,rfl,by omega,by omega,by omega⟩
  ·
   refine wp_skip (k18 _ _ ?_);refine aF fun K26 k26=>aF fun K27 k27=>wp_region_lit (aA (aB) (aA (kK rfl rfl) (aC (k27 _ _ ?_))));simp only[ev,zD,zE,zF,zG];refine cK rfl (fun hc3=>?_) (fun hc3=>?_)
   ·
    refine aF fun K28 k28=>wp_region_lit (aA (aB) ?_);simp only[ev,zD,zE,zF,zG];refine aA (i9 rfl rfl (by omega) Gi) (aA (aD) (aC (k28 _ _ ?_)));refine wp_region_lit (aA (aB) (aA (aX (m:=0) (n:=8) (r:=8) rfl rfl (by decide)) ?_));simp only[ev,zD,zE,zF,zG];refine aA (aD) (aC (k26 _ _ ?_));refine aF fun K29 k29=>wp_region_lit (aA (aB) (aA (aB) (aA (dH Tryz.underlying5 Tryz.underlying101 rfl (lH (by omega) (by omega))) ?_)));simp only[ev,zD,zE,zF,zG];refine pF Tryz.underlying9 (by kernel_rfl) rfl (by omega) ?_;intro b hb8 hb2;simp only[oW,i8,mM,List.getD_cons_succ,List.getD_cons_zero,List.set_cons_succ,List.set_cons_zero];refine aA (dH Tryz.underlying3 Tryz.underlying5 rfl (aL (by omega) (by omega))) ?_;simp only[ev,zD,zE,zF,zG];refine aA (aX rfl rfl (aL (by omega) (by omega))) (aA (aD) (aC (k29 _ _ ?_)));refine wp_ret ?_;simp only[ev,zD,zE,zF,zG];try simp only[Exit.inBlock,Exit.then,if_true]
    refine bT rfl rfl ?_;try simp only[zD,zE]
    exact ⟨_,rfl,m.ext,_,rfl,by omega,by omega,by omega⟩
   ·
    refine wp_skip (k26 _ _ ?_);refine aF fun K30 k30=>wp_region_lit (aA (aB) (aA (aB) (aA (dH Tryz.underlying5 Tryz.underlying101 rfl (lH (by omega) (by omega))) ?_)));simp only[ev,zD,zE,zF,zG];refine pF Tryz.underlying9 (by kernel_rfl) rfl (by omega) ?_;intro b hb8 hb2;simp only[oW,i8,mM,List.getD_cons_succ,List.getD_cons_zero,List.set_cons_succ,List.set_cons_zero];refine aA (dH Tryz.underlying3 Tryz.underlying5 rfl (aL (by omega) (by omega))) ?_;simp only[ev,zD,zE,zF,zG];refine aA (aX rfl rfl (aL (by omega) (by omega))) (aA (aD) (aC (k30 _ _ ?_)));refine wp_ret ?_;simp only[ev,zD,zE,zF,zG];try simp only[Exit.inBlock,Exit.then,if_true]
    refine bT rfl rfl ?_;try simp only[zD,zE]
    exact ⟨_,rfl,m.ext,_,rfl,by omega,by omega,by omega⟩
theorem sK {p q : P3} [hp : S3 p] [hq : S3 q] : eI Tryz.prog 134 [pt p,pt q] (nv (q.sub p)):=by
 intro w;refine ⟨Rh,?_⟩;have m:=bU.refl w;have:=hp.x; have:=hp.y; have:=hp.z; have:=hq.x; have:=hq.y; have:=hq.z
 go_enter Tryz.func134,Tryz.ntmps134
 refine aF fun K1 k1=>wp_region_lit (dJ m rfl ?_);clear m; intro g1 u m;simp only[ev,zD,zE,zF,zG];refine dJ m rfl ?_;clear m; intro g2 u m;simp only[ev,zD,zE,zF,zG];refine bN m rW rfl ?_;clear m; intro g3 u m;refine aC (k1 _ _ ?_);refine aF fun K2 k2=>wp_region_lit (aA (aG (c:=0) Tryz.underlying56 rfl aO rfl rfl) ?_);simp only[ev,zD,zE,zF,zG];refine aI rfl ((m.b 1 rfl).lies1 aZ rfl) ?_;simp only[ev,zD,zE,zF,zG];refine aA (aG (c:=0) Tryz.underlying56 rfl aO rfl rfl) ?_;simp only[ev,zD,zE,zF,zG];refine aI rfl ((m.b 2 rfl).lies1 aZ rfl) ?_;simp only[ev,zD,zE,zF,zG];refine aA (eA rfl rfl (aL (by omega) (by omega))) (aA (aG (c:=0) Tryz.underlying56 rfl aO rfl rfl) ?_);simp only[ev,zD,zE,zF,zG];refine aI rfl ((m.b 1 rfl).lies1 aZ rfl) ?_;simp only[ev,zD,zE,zF,zG];refine aA (aG (c:=0) Tryz.underlying56 rfl aO rfl rfl) ?_;simp only[ev,zD,zE,zF,zG];refine aI rfl ((m.b 2 rfl).lies1 aZ rfl) ?_;simp only[ev,zD,zE,zF,zG];refine aA (eA rfl rfl (aL (by omega) (by omega))) (aA (aG (c:=0) Tryz.underlying56 rfl aO rfl rfl) ?_);simp only[ev,zD,zE,zF,zG];refine aI rfl ((m.b 1 rfl).lies1 aZ rfl) ?_;simp only[ev,zD,zE,zF,zG];refine aA (aG (c:=0) Tryz.underlying56 rfl aO rfl rfl) ?_;simp only[ev,zD,zE,zF,zG];refine aI rfl ((m.b 2 rfl).lies1 aZ rfl) ?_;simp only[ev,zD,zE,zF,zG];refine aA (eA rfl rfl (aL (by omega) (by omega))) (aA (rZ rfl rfl rfl) ?_);simp only[ev,zD,zE,zF,zG];refine aV m 0 rfl rfl rfl nF (b9 rfl) rfl ?_;clear m; intro u m; simp only[a8,zH,zI,zJ,zK,zL,zM,zN,zO,zP,zF,zG,Nat.reduceAdd] at m;refine aC (k2 _ _ ?_);refine wp_ret ?_;try simp only[Exit.inBlock,Exit.then,if_true]
 refine bT rfl ⟨_,rfl,((m.b 0 rfl).full Be nF)⟩ ?_;try simp only[zD,zE]
 exact ⟨_,rfl,m.ext,rfl⟩
theorem x7 {u v : P3} (hu : N3 u) (hv : N3 v) : eI Tryz.prog 135 [nv u,nv v] (nv (u.cross v)):=by
 intro w;refine ⟨Ri,?_⟩;have m:=bU.refl w
 go_enter Tryz.func135,Tryz.ntmps135
 refine aF fun K1 k1=>wp_region_lit (dJ m rfl ?_);clear m; intro g1 u m;simp only[ev,zD,zE,zF,zG];refine dJ m rfl ?_;clear m; intro g2 u m;simp only[ev,zD,zE,zF,zG];refine bN m rW rfl ?_;clear m; intro g3 u m;refine aC (k1 _ _ ?_);refine aF fun K2 k2=>wp_region_lit ?_;simp only[ev,zD,zE,zF,zG];refine bN m rW rfl ?_;clear m; intro g4 u m;refine aC (k2 _ _ ?_);refine aF fun K3 k3=>aF fun K4 k4=>wp_region_lit (aA (aB) (aC (k4 _ _ ?_)));refine wp_block (wp_loop_rounds 4 (dA (aF fun K5 k5=>wp_region_lit (aA (bR (m:=0) (n:=3) rfl rfl (by decide)) (aC (k5 _ _ ?_))))));refine aF fun K6 k6=>bS rfl (wp_skip (k6 _ _ ?_));refine aF fun K7 k7=>wp_block (aF fun K8 k8=>wp_region_lit (aA (aB) ?_));simp only[ev,zD,zE,zF,zG];refine aA (aD) (aC (k8 _ _ ?_));refine aF fun K9 k9=>wp_region_lit (aA (aB) ?_);simp only[ev,zD,zE,zF,zG];refine bH m rfl rfl (K0) ?_;clear m; intro u m;refine aA (aB) (aA (bJ rfl rfl) (aA (bJ rfl rfl) ?_));simp only[ev,zD,zE,zF,zG];refine aA (aD) (aA (aD) (aC (k9 _ _ ?_)));simp only[ev,zD,zE,zF,zG];refine dQ m 17 aU (by kernel_rfl) ?_;simp only[zH,zI,zJ,zK];refine aR (aB) (aR (aB) (aR (aJ Tryz.underlying176 aO rfl rfl (by decide) (by decide) rfl) ?_));simp only[ev,zD,zE,zF,zG];refine ql rfl (fun u m=>((m.b 3 rfl).lies1 aZ rfl)) ?_;simp only[ev,zD,zE,zF,zG];refine aR (aB) (aR (aJ Tryz.underlying176 aO rfl rfl (by decide) (by decide) rfl) ?_);simp only[ev,zD,zE,zF,zG];refine ql rfl (fun u m=>((m.b 2 rfl).lies1 aZ rfl)) ?_;simp only[ev,zD,zE,zF,zG];refine aR (dX rfl rfl (zY (uW hu.y hv.z))) (aR (aB) (aR (aJ Tryz.underlying176 aO rfl rfl (by decide) (by decide) rfl) ?_));simp only[ev,zD,zE,zF,zG];refine ql rfl (fun u m=>((m.b 3 rfl).lies1 aZ rfl)) ?_;simp only[ev,zD,zE,zF,zG];refine aR (aB) (aR (aJ Tryz.underlying176 aO rfl rfl (by decide) (by decide) rfl) ?_);simp only[ev,zD,zE,zF,zG];refine ql rfl (fun u m=>((m.b 2 rfl).lies1 aZ rfl)) ?_;simp only[ev,zD,zE,zF,zG];refine aR (dX rfl rfl (zY (uW hu.z hv.y))) (aR (eA rfl rfl (Sh (uW hu.y hv.z) (uW hu.z hv.y))) (aR (aJ Tryz.underlying176 aO rfl rfl (by decide) (by decide) rfl) (dW ?_)));clear m; intro u m;simp only[ev,zD,zE,zF,zG];refine cA m 0 rfl rfl rfl aO (b9 rfl) ⟨rfl,rfl⟩ ?_;clear m; intro u m; simp only[a8,zH,zI,zJ,zK,zL,zM,zN,zO,zP,zF,zG,Nat.reduceAdd] at m;refine aC (k7 _ _ ?_);refine wp_region_lit (aA (aX (m:=0) (n:=1) (r:=1) rfl rfl (by decide)) (aA (aB) (aC (a7 (aF fun K10 k10=>wp_region_lit (aA (bR (m:=1) (n:=3) rfl rfl (by decide)) (aC (k10 _ _ ?_))))))));refine aF fun K11 k11=>bS rfl (wp_skip (k11 _ _ ?_));refine aF fun K12 k12=>wp_block (aF fun K13 k13=>wp_region_lit (aA (aB) ?_));simp only[ev,zD,zE,zF,zG];refine aA (aD) (aC (k13 _ _ ?_));refine aF fun K14 k14=>wp_region_lit (aA (aB) ?_);simp only[ev,zD,zE,zF,zG];refine bH m rfl rfl (La) ?_;clear m; intro u m;refine aA (aB) (aA (bJ rfl rfl) (aA (bJ rfl rfl) ?_));simp only[ev,zD,zE,zF,zG];refine aA (aD) (aA (aD) (aC (k14 _ _ ?_)));simp only[ev,zD,zE,zF,zG];refine dQ m 17 aU (by kernel_rfl) ?_;simp only[zH,zI,zJ,zK];refine aR (aB) (aR (aB) (aR (aJ Tryz.underlying176 aO rfl rfl (by decide) (by decide) rfl) ?_));simp only[ev,zD,zE,zF,zG];refine ql rfl (fun u m=>((m.b 3 rfl).lies1 aZ rfl)) ?_;simp only[ev,zD,zE,zF,zG];refine aR (aB) (aR (aJ Tryz.underlying176 aO rfl rfl (by decide) (by decide) rfl) ?_);simp only[ev,zD,zE,zF,zG];refine ql rfl (fun u m=>((m.b 2 rfl).lies1 aZ rfl)) ?_;simp only[ev,zD,zE,zF,zG];refine aR (dX rfl rfl (zY (uW hu.z hv.x))) (aR (aB) (aR (aJ Tryz.underlying176 aO rfl rfl (by decide) (by decide) rfl) ?_));simp only[ev,zD,zE,zF,zG];refine ql rfl (fun u m=>((m.b 3 rfl).lies1 aZ rfl)) ?_;simp only[ev,zD,zE,zF,zG];refine aR (aB) (aR (aJ Tryz.underlying176 aO rfl rfl (by decide) (by decide) rfl) ?_);simp only[ev,zD,zE,zF,zG];refine ql rfl (fun u m=>((m.b 2 rfl).lies1 aZ rfl)) ?_;simp only[ev,zD,zE,zF,zG];refine aR (dX rfl rfl (zY (uW hu.x hv.z))) (aR (eA rfl rfl (Sh (uW hu.z hv.x) (uW hu.x hv.z))) (aR (aJ Tryz.underlying176 aO rfl rfl (by decide) (by decide) rfl) (dW ?_)));clear m; intro u m;simp only[ev,zD,zE,zF,zG];refine cA m 0 rfl rfl rfl aO (b9 rfl) ⟨rfl,rfl⟩ ?_;clear m; intro u m; simp only[a8,zH,zI,zJ,zK,zL,zM,zN,zO,zP,zF,zG,Nat.reduceAdd] at m;refine aC (k12 _ _ ?_);refine wp_region_lit (aA (aX (m:=1) (n:=1) (r:=2) rfl rfl (by decide)) (aA (aB) (aC (a7 (aF fun K15 k15=>wp_region_lit (aA (bR (m:=2) (n:=3) rfl rfl (by decide)) (aC (k15 _ _ ?_))))))));refine aF fun K16 k16=>bS rfl (wp_skip (k16 _ _ ?_));refine aF fun K17 k17=>wp_block (aF fun K18 k18=>wp_region_lit (aA (aB) ?_));simp only[ev,zD,zE,zF,zG];refine aA (aD) (aC (k18 _ _ ?_));refine aF fun K19 k19=>wp_region_lit (aA (aB) ?_);simp only[ev,zD,zE,zF,zG];refine bH m rfl rfl (Lb) ?_;clear m; intro u m;refine aA (aB) (aA (bJ rfl rfl) (aA (bJ rfl rfl) ?_));simp only[ev,zD,zE,zF,zG];refine aA (aD) (aA (aD) (aC (k19 _ _ ?_)));simp only[ev,zD,zE,zF,zG];refine dQ m 17 aU (by kernel_rfl) ?_;simp only[zH,zI,zJ,zK];refine aR (aB) (aR (aB) (aR (aJ Tryz.underlying176 aO rfl rfl (by decide) (by decide) rfl) ?_));simp only[ev,zD,zE,zF,zG];refine ql rfl (fun u m=>((m.b 3 rfl).lies1 aZ rfl)) ?_;simp only[ev,zD,zE,zF,zG];refine aR (aB) (aR (aJ Tryz.underlying176 aO rfl rfl (by decide) (by decide) rfl) ?_);simp only[ev,zD,zE,zF,zG];refine ql rfl (fun u m=>((m.b 2 rfl).lies1 aZ rfl)) ?_;simp only[ev,zD,zE,zF,zG];refine aR (dX rfl rfl (zY (uW hu.x hv.y))) (aR (aB) (aR (aJ Tryz.underlying176 aO rfl rfl (by decide) (by decide) rfl) ?_));simp only[ev,zD,zE,zF,zG];refine ql rfl (fun u m=>((m.b 3 rfl).lies1 aZ rfl)) ?_;simp only[ev,zD,zE,zF,zG];refine aR (aB) (aR (aJ Tryz.underlying176 aO rfl rfl (by decide) (by decide) rfl) ?_);simp only[ev,zD,zE,zF,zG];refine ql rfl (fun u m=>((m.b 2 rfl).lies1 aZ rfl)) ?_;simp only[ev,zD,zE,zF,zG];refine aR (dX rfl rfl (zY (uW hu.y hv.x))) (aR (eA rfl rfl (Sh (uW hu.x hv.y) (uW hu.y hv.x))) (aR (aJ Tryz.underlying176 aO rfl rfl (by decide) (by decide) rfl) (dW ?_)));clear m; intro u m;simp only[ev,zD,zE,zF,zG];refine cA m 0 rfl rfl rfl aO (b9 rfl) ⟨rfl,rfl⟩ ?_;clear m; intro u m; simp only[a8,zH,zI,zJ,zK,zL,zM,zN,zO,zP,zF,zG,Nat.reduceAdd] at m;refine aC (k17 _ _ ?_);refine wp_region_lit (aA (aX (m:=2) (n:=1) (r:=3) rfl rfl (by decide)) (aA (aB) (aC (a7 (aF fun K20 k20=>wp_region_lit (aA (eW (m:=3) (n:=3) rfl rfl (by decide)) (aC (k20 _ _ ?_))))))));refine aF fun K21 k21=>eM rfl (wp_exit (k3 _ _ ?_));refine aF fun K22 k22=>wp_region_lit ?_;simp only[ev,zD,zE,zF,zG];refine aI rfl ((m.b 0 rfl).full Be nF) ?_;simp only[ev,zD,zE,zF,zG];refine aV m 1 rfl rfl rfl nF (b9 rfl) rfl ?_;clear m; intro u m; simp only[a8,zH,zI,zJ,zK,zL,zM,zN,zO,zP,zF,zG,Nat.reduceAdd] at m;refine aC (k22 _ _ ?_);refine wp_ret ?_;try simp only[Exit.inBlock,Exit.then,if_true]
 refine bT rfl ⟨_,rfl,((m.b 1 rfl).full Be nF)⟩ ?_;try simp only[zD,zE]
 exact ⟨_,rfl,m.ext,rfl⟩
theorem Ff {n : Int} : eI Tryz.prog 136 [.int .i64 n] (.int .i64 (dL n)):=by
 intro w;refine ⟨Rj,?_⟩;have m:=bU.refl w
 go_enter Tryz.func136,Tryz.ntmps136
 refine aF fun K1 k1=>wp_region_lit (aA (aD) (aC (k1 _ _ ?_)));refine aF fun K2 k2=>wp_block (aF fun K3 k3=>wp_region_lit (aA (aB) (aA (dS rfl rfl) (aA (aD) ?_))));simp only[ev,zD,zE,zF,zG];refine aC (k3 _ _ ?_);refine cK rfl (fun hc1=>?_) (fun hc1=>?_)
 ·
  refine aF fun K4 k4=>wp_region_lit (aA (aD) (aC (k4 _ _ ?_)));refine wp_ret ?_;simp only[ev,zD,zE,zF,zG];try simp only[Exit.inBlock,Exit.then,if_true]
  refine bT rfl rfl ?_;try simp only[zD,zE]
  exact ⟨_,rfl,m.ext,by rw [lU (by assumption)]⟩
 ·
  refine aF fun K5 k5=>wp_region_lit (aA (aB) (aA (gJ rfl rfl) (aA (aD) (aC (k5 _ _ ?_)))));simp only[ev,zD,zE,zF,zG];refine cK rfl (fun hc2=>?_) (fun hc2=>?_)
  ·
   refine aF fun K6 k6=>wp_region_lit (aA (aD) (aC (k6 _ _ ?_)));refine wp_ret ?_;simp only[ev,zD,zE,zF,zG];try simp only[Exit.inBlock,Exit.then,if_true]
   refine bT rfl rfl ?_;try simp only[zD,zE]
   exact ⟨_,rfl,m.ext,by rw [lV (by assumption)]⟩
  ·
   refine wp_skip (k2 _ _ ?_);refine aF fun K7 k7=>wp_region_lit (aA (aD) (aC (k7 _ _ ?_)));refine wp_ret ?_;simp only[ev,zD,zE,zF,zG];try simp only[Exit.inBlock,Exit.then,if_true]
   refine bT rfl rfl ?_;try simp only[zD,zE]
   exact ⟨_,rfl,m.ext,by rw [show n = 0 by omega]; rfl⟩
end Go.Proofs.YtimjandkmfcmiaaGreatDoor
