/-
 Texts of one claim, laid together: Ray8, Ray9, RayB, Cmp, SortPt, Maps1, Surf2, Maps2, Ifc, RayO, Sh, Scene, RayK, Lat, Bag.
-/
import Derived.Shelf.SlLaysF0
import Derived.Test.YtimjandkmfcmiaaGreatDoorProg
import Derived.Stop.Asserts
import Derived.Test.YtimjandkmfcmiaaGreatDoorTO4
set_option maxHeartbeats 8000000
set_option linter.unusedSimpArgs false
set_option linter.unusedVariables false
set_option linter.unusedSectionVars false
namespace Go.Proofs.YtimjandkmfcmiaaGreatDoor
open Go.RowKit Go.Lith
set_option maxRecDepth 100000
attribute [local irreducible] wpList wpQuiet dV dK dI Code.wp
instance W7 {p : P3} [h : I3 p] : Bv 64 p:=⟨h.x.bd,h.y.bd,h.z.bd⟩
instance Ww {k m : Nat} {v : P3} {n : Int} [h : Bv k v] [a : Bw m n] : Bv (k + m) (v.scl n):=⟨h.x.mul a.h,h.y.mul a.h,h.z.mul a.h⟩
instance Xb : Bv 1 (⟨0,0,0⟩ : P3):=⟨gT _,gT _,gT _⟩
instance Wx {r : e8} {t : T3} [IR r] [IT t] : Bw 262 (lN r t):=inferInstanceAs (Bw 262 (t.normal.dot (r.to t.a)))
instance Wy {r : e8} {t : T3} [IR r] [IT t] : Bw 197 (jT r t):=inferInstanceAs (Bw 197 (t.normal.dot r.d))
theorem Ik {t : T3} [IT t] : eI Tryz.prog 64 [tr t] (.bool (decide t.flat)):=by
 have:=Sq (t:=t);rwa [show decide (dL t.normal.x = 0 ∧ dL t.normal.y = 0 ∧ dL t.normal.z = 0) = decide t.flat from decide_eq_decide.2 (by rw [fZ,fZ,fZ]; rfl)] at this
theorem nR {r : e8} {t : T3} (h : ¬ gE r t) : Value.tuple #[Q 0,.bool false] = .tuple #[Q (eL r t),.bool (decide (gE r t))]:=by
 rw [eL,if_neg h,decide_eq_false h]
theorem tU {r : e8} {t : T3} (h : gE r t) : Value.tuple #[Q (Rat.divInt (lN r t) (r.w * jT r t)),.bool true] = .tuple #[Q (eL r t),.bool (decide (gE r t))]:=by
 rw [eL,if_pos h,decide_eq_true h]
theorem Gv {r : e8} {t : T3} (hok : r.ok) (h : jT r t ≠ 0) : r.w * jT r t ≠ 0:=fun e=>by
 rcases Int.mul_eq_zero.1 e with e | e
 · have:=hok.1; omega
 · exact h e
theorem Ft {r : e8} {t : T3} [IR r] [IT t] : eI Tryz.prog 44 [nQ r,tr t] (.tuple #[Q (eL r t),.bool (decide (gE r t))]):=by
 intro w;refine ⟨Uk,?_⟩;have m:=bU.refl w
 go_enter Tryz.func44,Tryz.ntmps44
 refine aF fun K1 k1=>wp_region_lit (dJ m rfl ?_);clear m; intro g1 u m;simp only[ev,zD,zE,zF,zG];refine dJ m rfl ?_;clear m; intro g2 u m;simp only[ev,zD,zE,zF,zG];refine bN m fJ rfl ?_;clear m; intro g3 u m;refine aA (aD) (aC (k1 _ _ ?_));refine aF fun K2 k2=>aF fun K3 k3=>?_;simp only[ev,zD,zE,zF,zG];rcases Decidable.em r.ok with hok | hok
 ·
  refine wp_region_lit (aI rfl ((m.b 2 rfl).full iN eE) ?_);simp only[ev,zD,zE,zF,zG];refine bH m rfl rfl (xA hok) ?_;clear m; intro u m;refine aA (gX rfl) (aA (aB) (aW rfl ?_));simp only[ev,zD,zE,zF,zG];refine aI rfl ((m.b 1 rfl).full l5 eS) ?_;simp only[ev,zD,zE,zF,zG];refine aW rfl (bH m rfl rfl (Ik) ?_);clear m; intro u m;refine aA (cU rfl) (aC (k3 _ _ ?_));simp only[ev,zD,zE,zF,zG];refine cK rfl (fun hc1=>?_) (fun hc1=>?_)
  ·
   refine aF fun K4 k4=>wp_region_lit (bH m rfl rfl (eN) ?_);clear m; intro u m;simp only[ev,zD,zE,zF,zG];refine aV m 0 rfl rfl rfl aS (b9 rfl) rfl ?_;clear m; intro u m; simp only[a8,zH,zI,zJ,zK,zL,zM,zN,zO,zP,zF,zG,Nat.reduceAdd] at m;refine aA (aD) (aC (k4 _ _ ?_));refine wp_ret ?_;simp only[ev,zD,zE,zF,zG];try simp only[Exit.inBlock,Exit.then,if_true]
   refine mZ rfl ⟨_,rfl,((m.b 0 rfl).full bG aS)⟩ rfl ?_;try simp only[zD,zE]
   exact ⟨_,rfl,m.ext,nR (fun h=>h.2.1 hc1)⟩
  ·
   have hf : ¬ t.flat:=hc1;refine wp_skip (k2 _ _ ?_);refine aF fun K5 k5=>?_;refine eV 23 [0,1,2,3,4,5,6,7,8,9,10,11,12,13,14,15,16,17,18,19] [⟨20,6,108,[.bool false,.string ⟨#[]⟩,.bool false,.string ⟨#[]⟩,.bool false,.string ⟨#[]⟩]⟩,⟨21,7,108,[.bool false,.string ⟨#[]⟩,.bool false,.string ⟨#[]⟩,.bool false,.string ⟨#[]⟩]⟩,⟨22,8,35,[.bool false,.string ⟨#[]⟩]⟩] aU (by kernel_rfl) (W9 ⟨_,_,_,rfl,by kernel_rfl,_,gL,rfl⟩ ⟨_,_,_,rfl,by kernel_rfl,_,gL,rfl⟩ ⟨_,_,_,rfl,by kernel_rfl,_,cV,rfl⟩) (ol:=?_) ?hol ?_
   case hol=>simp only[zQ,zR,zS,zT,zU,zV]; try rfl
   intro u e; replace m:=m.ext' e; clear e;refine iE (aG (c:=0) Tryz.underlying25 rfl aO rfl rfl) ?_;simp only[ev,zD,zE,zF,zG];refine eT rfl (fun u e=>(((m.ext' e).b 2 rfl).lies1 aZ rfl)) ?_;simp only[ev,zD,zE,zF,zG];refine iE (aG (c:=0) Tryz.underlying25 rfl aO rfl rfl) ?_;simp only[ev,zD,zE,zF,zG];refine eT rfl (fun u e=>(((m.ext' e).b 2 rfl).lies1 aZ rfl)) ?_;simp only[ev,zD,zE,zF,zG];refine iE (aG (c:=0) Tryz.underlying25 rfl aO rfl rfl) ?_;simp only[ev,zD,zE,zF,zG];refine eT rfl (fun u e=>(((m.ext' e).b 2 rfl).lies1 aZ rfl)) ?_;simp only[ev,zD,zE,zF,zG];refine fU rfl rfl (O4) (iE (aG (c:=2) Tryz.underlying25 rfl eJ rfl rfl) (iE (aJ Tryz.underlying23 aO rfl rfl (by decide) (by decide) rfl) ?_));simp only[ev,zD,zE,zF,zG];refine eT rfl (fun u e=>(((m.ext' e).b 2 rfl).lies1 aZ rfl)) ?_;simp only[ev,zD,zE,zF,zG];refine iE (aG (c:=2) Tryz.underlying25 rfl eJ rfl rfl) (iE (aJ Tryz.underlying23 aO rfl rfl (by decide) (by decide) rfl) ?_);simp only[ev,zD,zE,zF,zG];refine eT rfl (fun u e=>(((m.ext' e).b 2 rfl).lies1 aZ rfl)) ?_;simp only[ev,zD,zE,zF,zG];refine iE (aG (c:=2) Tryz.underlying25 rfl eJ rfl rfl) (iE (aJ Tryz.underlying23 aO rfl rfl (by decide) (by decide) rfl) ?_);simp only[ev,zD,zE,zF,zG];refine eT rfl (fun u e=>(((m.ext' e).b 2 rfl).lies1 aZ rfl)) ?_;simp only[ev,zD,zE,zF,zG];refine fU rfl rfl (O4) (iE (aG (c:=0) Tryz.underlying25 rfl aO rfl rfl) ?_);simp only[ev,zD,zE,zF,zG];refine eT rfl (fun u e=>(((m.ext' e).b 2 rfl).lies1 aZ rfl)) ?_;simp only[ev,zD,zE,zF,zG];refine fU rfl rfl (i6 Iw.h) (sI ?_);simp only[ev,zD,zE,zF,zG];refine Xa m (by decide) (by decide) (by decide) ?_;clear m; intro g4 g5 g6 u m;simp only[zJ,zK,zF,zG];refine aV m 2 rfl rfl rfl bE (b9 rfl) rfl ?_;clear m; intro u m; simp only[a8,zH,zI,zJ,zK,zL,zM,zN,zO,zP,zF,zG,Nat.reduceAdd] at m;refine aV m 1 rfl rfl rfl bE (b9 rfl) rfl ?_;clear m; intro u m; simp only[a8,zH,zI,zJ,zK,zL,zM,zN,zO,zP,zF,zG,Nat.reduceAdd] at m;refine aV m 0 rfl rfl rfl aH (b9 rfl) rfl ?_;clear m; intro u m; simp only[a8,zH,zI,zJ,zK,zL,zM,zN,zO,zP,zF,zG,Nat.reduceAdd] at m;refine aC (k5 _ _ ?_);refine aF fun K6 k6=>wp_region_lit (bN m Jr rfl ?_);clear m; intro g7 u m;refine aC (k6 _ _ ?_);refine aF fun K7 k7=>aF fun K8 k8=>wp_region_lit ?_;simp only[ev,zD,zE,zF,zG];refine aI rfl ((m.b 5 rfl).full l5 eS) ?_;simp only[ev,zD,zE,zF,zG];refine aA (aB) (aC (k8 _ _ ?_));refine wp_block (wp_loop_rounds 4 (dA (aF fun K9 k9=>wp_region_lit (aA (bR (m:=0) (n:=3) rfl rfl (by decide)) (aC (k9 _ _ ?_))))));refine aF fun K10 k10=>bS rfl (wp_skip (k10 _ _ ?_));refine aF fun K11 k11=>wp_block (aF fun K12 k12=>wp_region_lit (aA (aB) (aA (sF rfl rfl) ?_)));simp only[ev,zD,zE,zF,zG];refine bN m e9 rfl ?_;clear m; intro g8 u m;refine aA (aD) ?_;simp only[ev,zD,zE,zF,zG];refine aV m 0 rfl rfl rfl aN (b9 rfl) rfl ?_;clear m; intro u m; simp only[a8,zH,zI,zJ,zK,zL,zM,zN,zO,zP,zF,zG,Nat.reduceAdd] at m;refine aC (k12 _ _ ?_);refine dQ m 8 aU (by kernel_rfl) ?_;simp only[zH,zI,zJ,zK];refine aR (aB) ?_;simp only[ev,zD,zE,zF,zG];refine ql rfl (fun u m=>((m.b 0 rfl).full bC aN)) ?_;simp only[ev,zD,zE,zF,zG];refine iO rfl rfl (mG) ?_;simp only[ev,zD,zE,zF,zG];refine ql rfl (fun u m=>((m.b 2 rfl).full aY aH)) ?_;simp only[ev,zD,zE,zF,zG];refine iO rfl rfl (pN Bv.of ⟨Bw.up⟩) ?_;simp only[ev,zD,zE,zF,zG];refine ql rfl (fun u m=>((m.b 4 rfl).full dP bE)) ?_;simp only[ev,zD,zE,zF,zG];refine iO rfl rfl (mH Bv.of Bv.of) (aR (aJ Tryz.underlying110 bE rfl rfl (by decide) (by decide) rfl) (dW ?_));clear m; intro u m;simp only[ev,zD,zE,zF,zG];refine aV m 1 rfl rfl rfl bE (b9 rfl) rfl ?_;clear m; intro u m; simp only[a8,zH,zI,zJ,zK,zL,zM,zN,zO,zP,zF,zG,Nat.reduceAdd] at m;refine aC (k11 _ _ ?_);refine wp_region_lit (aA (aX (m:=0) (n:=1) (r:=1) rfl rfl (by decide)) (aA (aB) (aC (a7 (aF fun K13 k13=>wp_region_lit (aA (bR (m:=1) (n:=3) rfl rfl (by decide)) (aC (k13 _ _ ?_))))))));refine aF fun K14 k14=>bS rfl (wp_skip (k14 _ _ ?_));refine aF fun K15 k15=>wp_block (aF fun K16 k16=>wp_region_lit (aA (aB) ?_));simp only[ev,zD,zE,zF,zG];refine aA (sG rfl rfl) ?_;simp only[ev,zD,zE,zF,zG];refine bN m e9 rfl ?_;clear m; intro g9 u m;refine aA (aD) ?_;simp only[ev,zD,zE,zF,zG];refine aV m 0 rfl rfl rfl aN (b9 rfl) rfl ?_;clear m; intro u m; simp only[a8,zH,zI,zJ,zK,zL,zM,zN,zO,zP,zF,zG,Nat.reduceAdd] at m;refine aC (k16 _ _ ?_);refine dQ m 8 aU (by kernel_rfl) ?_;simp only[zH,zI,zJ,zK];refine aR (aB) ?_;simp only[ev,zD,zE,zF,zG];refine ql rfl (fun u m=>((m.b 0 rfl).full bC aN)) ?_;simp only[ev,zD,zE,zF,zG];refine iO rfl rfl (mG) ?_;simp only[ev,zD,zE,zF,zG];refine ql rfl (fun u m=>((m.b 3 rfl).full aY aH)) ?_;simp only[ev,zD,zE,zF,zG];refine iO rfl rfl (pN Bv.of ⟨Bw.up⟩) ?_;simp only[ev,zD,zE,zF,zG];refine ql rfl (fun u m=>((m.b 5 rfl).full dP bE)) ?_;simp only[ev,zD,zE,zF,zG];refine iO rfl rfl (mH Bv.of Bv.of) (aR (aJ Tryz.underlying110 bE rfl rfl (by decide) (by decide) rfl) (dW ?_));clear m; intro u m;simp only[ev,zD,zE,zF,zG];refine aV m 2 rfl rfl rfl bE (b9 rfl) rfl ?_;clear m; intro u m; simp only[a8,zH,zI,zJ,zK,zL,zM,zN,zO,zP,zF,zG,Nat.reduceAdd] at m;refine aC (k15 _ _ ?_);refine wp_region_lit (aA (aX (m:=1) (n:=1) (r:=2) rfl rfl (by decide)) (aA (aB) (aC (a7 (aF fun K17 k17=>wp_region_lit (aA (bR (m:=2) (n:=3) rfl rfl (by decide)) (aC (k17 _ _ ?_))))))));refine aF fun K18 k18=>bS rfl (wp_skip (k18 _ _ ?_));refine aF fun K19 k19=>wp_block (aF fun K20 k20=>wp_region_lit (aA (aB) ?_));simp only[ev,zD,zE,zF,zG];refine aA (sH rfl rfl) ?_;simp only[ev,zD,zE,zF,zG];refine bN m e9 rfl ?_;clear m; intro g10 u m;refine aA (aD) ?_;simp only[ev,zD,zE,zF,zG];refine aV m 0 rfl rfl rfl aN (b9 rfl) rfl ?_;clear m; intro u m; simp only[a8,zH,zI,zJ,zK,zL,zM,zN,zO,zP,zF,zG,Nat.reduceAdd] at m;refine aC (k20 _ _ ?_);refine dQ m 8 aU (by kernel_rfl) ?_;simp only[zH,zI,zJ,zK];refine aR (aB) ?_;simp only[ev,zD,zE,zF,zG];refine ql rfl (fun u m=>((m.b 0 rfl).full bC aN)) ?_;simp only[ev,zD,zE,zF,zG];refine iO rfl rfl (mG) ?_;simp only[ev,zD,zE,zF,zG];refine ql rfl (fun u m=>((m.b 4 rfl).full aY aH)) ?_;simp only[ev,zD,zE,zF,zG];refine iO rfl rfl (pN Bv.of ⟨Bw.up⟩) ?_;simp only[ev,zD,zE,zF,zG];refine ql rfl (fun u m=>((m.b 6 rfl).full dP bE)) ?_;simp only[ev,zD,zE,zF,zG];refine iO rfl rfl (mH Bv.of Bv.of) (aR (aJ Tryz.underlying110 bE rfl rfl (by decide) (by decide) rfl) (dW ?_));clear m; intro u m;simp only[ev,zD,zE,zF,zG];refine aV m 3 rfl rfl rfl bE (b9 rfl) rfl ?_;clear m; intro u m; simp only[a8,zH,zI,zJ,zK,zL,zM,zN,zO,zP,zF,zG,Nat.reduceAdd] at m;refine aC (k19 _ _ ?_);refine wp_region_lit (aA (aX (m:=2) (n:=1) (r:=3) rfl rfl (by decide)) (aA (aB) (aC (a7 (aF fun K21 k21=>wp_region_lit (aA (eW (m:=3) (n:=3) rfl rfl (by decide)) (aC (k21 _ _ ?_))))))));refine aF fun K22 k22=>eM rfl (wp_exit (k7 _ _ ?_));refine aF fun K23 k23=>aF fun K24 k24=>wp_region_lit ?_;simp only[ev,zD,zE,zF,zG];refine aI rfl ((m.b 5 rfl).full dP bE) ?_;simp only[ev,zD,zE,zF,zG];refine aI rfl ((m.b 3 rfl).full Nj G5) ?_;simp only[ev,zD,zE,zF,zG];refine bH m rfl rfl (Md (d:=r.d) (a:=r.to t.a) (b:=r.to t.b) (c:=r.to t.c) Bv.of Bv.of Bv.of Bv.of) ?_;clear m; intro u m;refine aA (gX rfl) (aC (k24 _ _ ?_));simp only[ev,zD,zE,zF,zG];refine o0 rfl (fun hc3=>?_) (fun hc3=>?_)
   ·
    have hp : ¬ z6 r.d (r.to t.a) (r.to t.b) (r.to t.c):=by simpa using hc3
    refine aF fun K25 k25=>wp_region_lit (bH m rfl rfl (eN) ?_);clear m; intro u m;simp only[ev,zD,zE,zF,zG];refine aV m 7 rfl rfl rfl aS (b9 rfl) rfl ?_;clear m; intro u m; simp only[a8,zH,zI,zJ,zK,zL,zM,zN,zO,zP,zF,zG,Nat.reduceAdd] at m;refine aA (aD) (aC (k25 _ _ ?_));refine wp_ret ?_;simp only[ev,zD,zE,zF,zG];try simp only[Exit.inBlock,Exit.then,if_true]
    refine mZ rfl ⟨_,rfl,((m.b 7 rfl).full bG aS)⟩ rfl ?_;try simp only[zD,zE]
    exact ⟨_,rfl,m.ext,nR (fun h=>hp h.2.2.1)⟩
   ·
    have hp : z6 r.d (r.to t.a) (r.to t.b) (r.to t.c):=by simpa using hc3
    refine wp_skip (k23 _ _ ?_);refine aF fun K26 k26=>wp_region_lit (aI rfl ((m.b 8 rfl).full l5 eS) ?_);simp only[ev,zD,zE,zF,zG];refine bH m rfl rfl (Ld) ?_;clear m; intro u m;simp only[ev,zD,zE,zF,zG];refine bN m gL rfl ?_;clear m; intro g11 u m;simp only[ev,zD,zE,zF,zG];refine aV m 0 rfl rfl rfl bE (b9 rfl) rfl ?_;clear m; intro u m; simp only[a8,zH,zI,zJ,zK,zL,zM,zN,zO,zP,zF,zG,Nat.reduceAdd] at m;refine aC (k26 _ _ ?_);refine aF fun K27 k27=>wp_region_lit (aI rfl ((m.b 0 rfl).full dP bE) ?_);simp only[ev,zD,zE,zF,zG];refine aA (vQ) ?_;simp only[ev,zD,zE,zF,zG,List.map_toArray,List.map_cons,List.map_nil];refine aA (aD) (aC (k27 _ _ ?_));refine aF fun K28 k28=>?_;simp only[ev,zD,zE,zF,zG];refine eV 9 [0,1,2,3,4,5,6] [⟨7,14,35,[.bool false,.string ⟨#[]⟩]⟩,⟨8,15,35,[.bool false,.string ⟨#[]⟩]⟩] aU (by kernel_rfl) (Tp ⟨_,_,_,rfl,by kernel_rfl,_,cV,rfl⟩ ⟨_,_,_,rfl,by kernel_rfl,_,cV,rfl⟩) (ol:=?_) ?hol ?_
    case hol=>simp only[zQ,zR,zS,zT,zU,zV]; try rfl
    intro u e; replace m:=m.ext' e; clear e;refine iE (aB) (iE (aJ Tryz.underlying110 bE rfl rfl (by decide) (by decide) rfl) ?_);simp only[ev,zD,zE,zF,zG];refine eT rfl (fun u e=>(((m.ext' e).b 4 rfl).lies dP bE rfl rfl)) ?_;simp only[ev,zD,zE,zF,zG,zH,zI,zJ,zK,Nat.zero_add,Nat.reduceAdd,Nat.reduceMul,Int.reduceToNat];refine fU rfl rfl (Fs (u:=t.normal) (v:=r.to t.a) Bv.of Bv.of) (iE (aB) ?_);simp only[ev,zD,zE,zF,zG];refine eT rfl (fun u e=>(((m.ext' e).b 6 rfl).full dP bE)) ?_;simp only[ev,zD,zE,zF,zG];refine fU rfl rfl (Fs (u:=t.normal) (v:=r.d) Bv.of Bv.of) (sI ?_);simp only[ev,zD,zE,zF,zG];refine Vp m (by decide) ?_;clear m; intro g12 g13 u m;simp only[zJ,zK,zF,zG];refine aV m 1 rfl rfl rfl aH (b9 rfl) rfl ?_;clear m; intro u m; simp only[a8,zH,zI,zJ,zK,zL,zM,zN,zO,zP,zF,zG,Nat.reduceAdd] at m;refine aV m 0 rfl rfl rfl aH (b9 rfl) rfl ?_;clear m; intro u m; simp only[a8,zH,zI,zJ,zK,zL,zM,zN,zO,zP,zF,zG,Nat.reduceAdd] at m;refine aC (k28 _ _ ?_);refine aF fun K29 k29=>aF fun K30 k30=>?_;refine qL m [true,true,true,true,true,true,true,true,true,true,true,true,true] (.take 0 (.take 1 (.take 2 (.take 5 (.two 3 (.two 4 (.one 6 (.one 7 (.take 8 .nil))) 6 (.one 4 (.one 7 (.take 8 .nil)))) 6 (.one 3 (.one 4 (.one 7 (.take 8 .nil))))))))) aU (by kernel_rfl) (dN (fun _ _ _ _ _ h=>h)) ?_;clear m; intro u m;refine cN (by simp only[zS,zT,zU,zV]; rfl) (eQ rfl (fun u m=>((m.b 1 rfl).full aY aH)) ?_);simp only[ev,zD,zE,zF,zG];refine cZ (cN (by simp only[zS,zT,zU,zV]; rfl) (bQ (Bm) (cZ (cN (by simp only[zS,zT,zU,zV]; rfl) ?_))));simp only[ev,zD,zE,zF,zG];refine eQ rfl (fun u m=>((m.b 2 rfl).full dP bE)) ?_;simp only[ev,zD,zE,zF,zG];refine cZ (cN (by simp only[zS,zT,zU,zV]; rfl) (eQ rfl (fun u m=>((m.b 0 rfl).full aY aH)) ?_));simp only[ev,zD,zE,zF,zG];refine cZ ?_;refine jZ (by simp only[zS,zT,zU,zV]; rfl) (by simp only[zS,zT,zU,zV]; rfl) ?_ ?_
    ·
     refine bH m rfl rfl (Ah (v:=t.normal) Bv.of) ?_;clear m; intro u m;refine aC ?_;refine ⟨m,?_⟩;simp only[ev,zD,zE,zF,zG];refine jZ (by simp only[zS,zT,zU,zV]; rfl) (by simp only[zS,zT,zU,zV]; rfl) ?_ ?_
     ·
      refine bH m rfl rfl (oM (n:=lN r t) (v:=P3.sub ⟨0,0,0⟩ t.normal) Bw.up Bv.of) ?_;clear m; intro u m;refine aC ?_;refine ⟨m,?_⟩;refine bY (by simp only[zS,zT,zU,zV]; rfl) ?_;simp only[ev,zD,zE,zF,zG];refine qW rfl ?_;intro u g14 e hg hB; replace m:=m.newB e hg hB; clear e hg hB;refine aC ?_;refine ⟨m.sel [false,true,true,true,true,true,true,true,true,true,true,true,true,true],?_⟩;refine bY (by simp only[zS,zT,zU,zV]; rfl) ?_;simp only[ev,zD,zE,zF,zG];refine fA m rfl rfl (Cl (n:=jT r t) _ Bw.up (m.b 0 rfl)) ?_;clear m; rintro v u m rfl;refine aC ?_;refine ⟨m.sel [false,true,true,true,true,true,true,true,true,true,true,true,true,true],?_⟩;refine cN (by simp only[zS,zT,zU,zV]; rfl) (bQ (nB rfl rfl) (cZ (gM (k30 _ _ ?_))));simp only[ev,zD,zE,zF,zG];refine cK rfl (fun hc4=>?_) (fun hc4=>?_)
      ·
       refine aF fun K31 k31=>wp_region_lit (bH m rfl rfl (eN) ?_);clear m; intro u m;simp only[ev,zD,zE,zF,zG];refine aV m 11 rfl rfl rfl aS (b9 rfl) rfl ?_;clear m; intro u m; simp only[a8,zH,zI,zJ,zK,zL,zM,zN,zO,zP,zF,zG,Nat.reduceAdd] at m;refine aA (aD) (aC (k31 _ _ ?_));refine wp_ret ?_;simp only[ev,zD,zE,zF,zG];try simp only[Exit.inBlock,Exit.then,if_true]
       refine mZ rfl ⟨_,rfl,((m.b 11 rfl).full bG aS)⟩ rfl ?_;try simp only[zD,zE]
       exact ⟨_,rfl,m.ext,nR (fun h=>hc4 h.2.2.2)⟩
      ·
       have hs0:=Decidable.not_not.1 hc4;have hs:=wQ hf hs0;refine wp_skip (k29 _ _ ?_);refine aF fun K32 k32=>?_;refine dQ m 5 aU (by kernel_rfl) ?_;simp only[zH,zI,zJ,zK];refine ql rfl (fun u m=>((m.b 2 rfl).full aY aH)) ?_;simp only[ev,zD,zE,zF,zG];refine ql rfl (fun u m=>((m.b 8 rfl).full aY aH)) ?_;simp only[ev,zD,zE,zF,zG];refine ql rfl (fun u m=>((m.b 1 rfl).full aY aH)) ?_;simp only[ev,zD,zE,zF,zG];refine iO rfl rfl (gY (a:=r.w) (b:=jT r t) Bw.up Bw.up) ?_;simp only[ev,zD,zE,zF,zG];refine iO rfl rfl (jS (n:=lN r t) (d:=r.w * jT r t) Bw.up Bw.up (Gv hok hs)) (dW ?_);clear m; intro u m;simp only[ev,zD,zE,zF,zG];refine aV m 11 rfl rfl rfl aS (b9 rfl) rfl ?_;clear m; intro u m; simp only[a8,zH,zI,zJ,zK,zL,zM,zN,zO,zP,zF,zG,Nat.reduceAdd] at m;refine aA (aD) (aC (k32 _ _ ?_));refine wp_ret ?_;simp only[ev,zD,zE,zF,zG];try simp only[Exit.inBlock,Exit.then,if_true]
       refine mZ rfl ⟨_,rfl,((m.b 11 rfl).full bG aS)⟩ rfl ?_;try simp only[zD,zE]
       exact ⟨_,rfl,m.ext,tU ⟨hok,hf,hp,hs0⟩⟩
     ·
      refine qW rfl ?_;intro u g14 e hg hB; replace m:=m.newB e hg hB; clear e hg hB;refine aC ?_;refine ⟨m.sel [false,true,true,true,true,true,true,true,true,true,true,true,true,true],?_⟩;refine bY (by simp only[zS,zT,zU,zV]; rfl) ?_;simp only[ev,zD,zE,zF,zG];refine bH m rfl rfl (oM (n:=lN r t) (v:=P3.sub ⟨0,0,0⟩ t.normal) Bw.up Bv.of) ?_;clear m; intro u m;refine aC ?_;refine ⟨m.sel [false,true,true,true,true,true,true,true,true,true,true,true,true,true],?_⟩;refine bY (by simp only[zS,zT,zU,zV]; rfl) ?_;simp only[ev,zD,zE,zF,zG];refine fA m rfl rfl (Cl (n:=jT r t) _ Bw.up (m.b 0 rfl)) ?_;clear m; rintro v u m rfl;refine aC ?_;refine ⟨m.sel [false,true,true,true,true,true,true,true,true,true,true,true,true,true],?_⟩;refine cN (by simp only[zS,zT,zU,zV]; rfl) (bQ (nB rfl rfl) (cZ (gM (k30 _ _ ?_))));simp only[ev,zD,zE,zF,zG];refine cK rfl (fun hc4=>?_) (fun hc4=>?_)
      ·
       refine aF fun K33 k33=>wp_region_lit (bH m rfl rfl (eN) ?_);clear m; intro u m;simp only[ev,zD,zE,zF,zG];refine aV m 11 rfl rfl rfl aS (b9 rfl) rfl ?_;clear m; intro u m; simp only[a8,zH,zI,zJ,zK,zL,zM,zN,zO,zP,zF,zG,Nat.reduceAdd] at m;refine aA (aD) (aC (k33 _ _ ?_));refine wp_ret ?_;simp only[ev,zD,zE,zF,zG];try simp only[Exit.inBlock,Exit.then,if_true]
       refine mZ rfl ⟨_,rfl,((m.b 11 rfl).full bG aS)⟩ rfl ?_;try simp only[zD,zE]
       exact ⟨_,rfl,m.ext,nR (fun h=>hc4 h.2.2.2)⟩
      ·
       have hs0:=Decidable.not_not.1 hc4;have hs:=wQ hf hs0;refine wp_skip (k29 _ _ ?_);refine aF fun K34 k34=>?_;refine dQ m 5 aU (by kernel_rfl) ?_;simp only[zH,zI,zJ,zK];refine ql rfl (fun u m=>((m.b 2 rfl).full aY aH)) ?_;simp only[ev,zD,zE,zF,zG];refine ql rfl (fun u m=>((m.b 8 rfl).full aY aH)) ?_;simp only[ev,zD,zE,zF,zG];refine ql rfl (fun u m=>((m.b 1 rfl).full aY aH)) ?_;simp only[ev,zD,zE,zF,zG];refine iO rfl rfl (gY (a:=r.w) (b:=jT r t) Bw.up Bw.up) ?_;simp only[ev,zD,zE,zF,zG];refine iO rfl rfl (jS (n:=lN r t) (d:=r.w * jT r t) Bw.up Bw.up (Gv hok hs)) (dW ?_);clear m; intro u m;simp only[ev,zD,zE,zF,zG];refine aV m 11 rfl rfl rfl aS (b9 rfl) rfl ?_;clear m; intro u m; simp only[a8,zH,zI,zJ,zK,zL,zM,zN,zO,zP,zF,zG,Nat.reduceAdd] at m;refine aA (aD) (aC (k34 _ _ ?_));refine wp_ret ?_;simp only[ev,zD,zE,zF,zG];try simp only[Exit.inBlock,Exit.then,if_true]
       refine mZ rfl ⟨_,rfl,((m.b 11 rfl).full bG aS)⟩ rfl ?_;try simp only[zD,zE]
       exact ⟨_,rfl,m.ext,tU ⟨hok,hf,hp,hs0⟩⟩
    ·
     refine qW rfl ?_;intro u g14 e hg hB; replace m:=m.newB e hg hB; clear e hg hB;refine aC ?_;refine ⟨m.sel [false,true,true,true,true,true,true,true,true,true,true,true,true,true],?_⟩;refine bY (by simp only[zS,zT,zU,zV]; rfl) ?_;simp only[ev,zD,zE,zF,zG];refine bH m rfl rfl (Ah (v:=t.normal) Bv.of) ?_;clear m; intro u m;refine aC ?_;refine ⟨m.sel [false,true,true,true,true,true,true,true,true,true,true,true,true,true],?_⟩;refine bY (by simp only[zS,zT,zU,zV]; rfl) ?_;simp only[ev,zD,zE,zF,zG];refine bH m rfl rfl (oM (n:=lN r t) (v:=P3.sub ⟨0,0,0⟩ t.normal) Bw.up Bv.of) ?_;clear m; intro u m;refine aC ?_;refine ⟨m.sel [false,true,true,true,true,true,true,true,true,true,true,true,true,true],?_⟩;refine bY (by simp only[zS,zT,zU,zV]; rfl) ?_;simp only[ev,zD,zE,zF,zG];refine fA m rfl rfl (Cl (n:=jT r t) _ Bw.up (m.b 0 rfl)) ?_;clear m; rintro v u m rfl;refine aC ?_;refine ⟨m.sel [false,true,true,true,true,true,true,true,true,true,true,true,true,true],?_⟩;refine cN (by simp only[zS,zT,zU,zV]; rfl) (bQ (nB rfl rfl) (cZ (gM (k30 _ _ ?_))));simp only[ev,zD,zE,zF,zG];refine cK rfl (fun hc4=>?_) (fun hc4=>?_)
     ·
      refine aF fun K35 k35=>wp_region_lit (bH m rfl rfl (eN) ?_);clear m; intro u m;simp only[ev,zD,zE,zF,zG];refine aV m 11 rfl rfl rfl aS (b9 rfl) rfl ?_;clear m; intro u m; simp only[a8,zH,zI,zJ,zK,zL,zM,zN,zO,zP,zF,zG,Nat.reduceAdd] at m;refine aA (aD) (aC (k35 _ _ ?_));refine wp_ret ?_;simp only[ev,zD,zE,zF,zG];try simp only[Exit.inBlock,Exit.then,if_true]
      refine mZ rfl ⟨_,rfl,((m.b 11 rfl).full bG aS)⟩ rfl ?_;try simp only[zD,zE]
      exact ⟨_,rfl,m.ext,nR (fun h=>hc4 h.2.2.2)⟩
     ·
      have hs0:=Decidable.not_not.1 hc4;have hs:=wQ hf hs0;refine wp_skip (k29 _ _ ?_);refine aF fun K36 k36=>?_;refine dQ m 5 aU (by kernel_rfl) ?_;simp only[zH,zI,zJ,zK];refine ql rfl (fun u m=>((m.b 2 rfl).full aY aH)) ?_;simp only[ev,zD,zE,zF,zG];refine ql rfl (fun u m=>((m.b 8 rfl).full aY aH)) ?_;simp only[ev,zD,zE,zF,zG];refine ql rfl (fun u m=>((m.b 1 rfl).full aY aH)) ?_;simp only[ev,zD,zE,zF,zG];refine iO rfl rfl (gY (a:=r.w) (b:=jT r t) Bw.up Bw.up) ?_;simp only[ev,zD,zE,zF,zG];refine iO rfl rfl (jS (n:=lN r t) (d:=r.w * jT r t) Bw.up Bw.up (Gv hok hs)) (dW ?_);clear m; intro u m;simp only[ev,zD,zE,zF,zG];refine aV m 11 rfl rfl rfl aS (b9 rfl) rfl ?_;clear m; intro u m; simp only[a8,zH,zI,zJ,zK,zL,zM,zN,zO,zP,zF,zG,Nat.reduceAdd] at m;refine aA (aD) (aC (k36 _ _ ?_));refine wp_ret ?_;simp only[ev,zD,zE,zF,zG];try simp only[Exit.inBlock,Exit.then,if_true]
      refine mZ rfl ⟨_,rfl,((m.b 11 rfl).full bG aS)⟩ rfl ?_;try simp only[zD,zE]
      exact ⟨_,rfl,m.ext,tU ⟨hok,hf,hp,hs0⟩⟩
 ·
  refine wp_region_lit (aI rfl ((m.b 2 rfl).full iN eE) ?_);simp only[ev,zD,zE,zF,zG];refine bH m rfl rfl (xB hok) ?_;clear m; intro u m;refine aA (gX rfl) (aA (aB) (bW rfl ?_));simp only[ev,zD,zE,zF,zG];refine bW rfl (aA (cQ rfl) (aC (k3 _ _ ?_)));refine bS rfl (aF fun K37 k37=>wp_region_lit ?_);simp only[ev,zD,zE,zF,zG];refine bH m rfl rfl (eN) ?_;clear m; intro u m;simp only[ev,zD,zE,zF,zG];refine aV m 0 rfl rfl rfl aS (b9 rfl) rfl ?_;clear m; intro u m; simp only[a8,zH,zI,zJ,zK,zL,zM,zN,zO,zP,zF,zG,Nat.reduceAdd] at m;refine aA (aD) (aC (k37 _ _ ?_));refine wp_ret ?_;simp only[ev,zD,zE,zF,zG];try simp only[Exit.inBlock,Exit.then,if_true]
  refine mZ rfl ⟨_,rfl,((m.b 0 rfl).full bG aS)⟩ rfl ?_;try simp only[zD,zE]
  exact ⟨_,rfl,m.ext,nR (Su hok)⟩
end Go.Proofs.YtimjandkmfcmiaaGreatDoor
namespace Go.Proofs.YtimjandkmfcmiaaGreatDoor
open Go.RowKit Go.Lith
set_option maxRecDepth 100000
attribute [local irreducible] wpList wpQuiet dV dK dI Code.wp
def Wz (h : Option (Rat × Nat)) : Go.Value:=.agg #[.bool (b8 (lO (h)).num),.string (cW (lO (h)).num),.bool (b8 ((lO (h)).den : Int)),.string (cW ((lO (h)).den : Int)),.int .i64 (Ss (h) : Int)]
theorem S1 (r : e8) (t : T3) (b : Option (Rat × Nat)) : ¬ gE r t ∨ (gE r t ∧ b = none) ∨ (gE r t ∧ ∃ q j,b = some (q,j)):=by
 by_cases h : gE r t
 ·
  cases b with
  | none=>exact .inr (.inl ⟨h,rfl⟩)
  | some x=>exact .inr (.inr ⟨h,x.1,x.2,rfl⟩)
 · exact .inl h
theorem O7 {r : e8} {t : T3} {b : Option (Rat × Nat)} {k : Nat} (h : ¬ gE r t) : wR r b k t = b:=if_neg h
theorem Il {r : e8} {t : T3} {k : Nat} (h : gE r t) : wR r none k t = some (eL r t,k):=if_pos h
theorem O8 {r : e8} {t : T3} {k j : Nat} {q : Rat} (h : gE r t) (hq : eL r t < q) : wR r (some (q,j)) k t = some (eL r t,k):=(if_pos h).trans (if_pos hq)
theorem O9 {r : e8} {t : T3} {k j : Nat} {q : Rat} (h : gE r t) (hq : ¬ eL r t < q) : wR r (some (q,j)) k t = some (q,j):=(if_pos h).trans (if_neg hq)
theorem D6 {r : e8} {t : T3} [IR r] [IT t] : Bq 400000 (eL r t):=by
 unfold eL;split
 ·
  rename_i h;exact (Bq.mk' (a:=262) (b:=262) Bw.up Bw.up (Gv h.1 (wQ h.2.1 h.2.2.2))).mono (by decide)
 · exact ⟨gT _,qK.mono (by decide)⟩
theorem D7 {r : e8} {ts : List T3} [IR r] (h : ∀ t ∈ ts,IT t) : Bq 400000 (lO (bB r ts)):=by
 cases hb : bB r ts with
 | none=>exact ⟨gT _,qK.mono (by decide)⟩
 | some x =>
  obtain ⟨t,ht,_,e⟩:=pL (q:=x.1) (k:=x.2) hb;haveI:=h t ht;show Bq 400000 x.1
  rw [← e];exact D6
theorem Fu {r : e8} {ts : List T3} [IR r] {N cap : Nat} {A : Option Addr} (w : World) (hT : cJ w A N ts) (hN : N < 4611686018427387904) : gD Tryz.prog 27 [nQ r,.slice A N cap] w (fun v _=>v = .tuple #[Wz (bB r ts),.bool (bB r ts).isSome]):=by
 refine ⟨T9,?_⟩;have m:=bU.refl w
 go_enter Tryz.func27,Tryz.ntmps27
 refine aF fun K1 k1=>wp_region_lit (dJ m rfl ?_);clear m; intro g1 u m;simp only[ev,zD,zE,zF,zG];refine bN m rU rfl ?_;clear m; intro g2 u m;refine aA (aD) (aC (k1 _ _ ?_));refine aF fun K2 k2=>wp_region_lit ?_;simp only[ev,zD,zE,zF,zG];refine bH m rfl rfl (eN) ?_;clear m; intro u m;refine aA (Bj rfl) ?_;simp only[ev,zD,zE,zF,zG];refine bN m rU rfl ?_;clear m; intro g3 u m;simp only[ev,zD,zE,zF,zG];refine aV m 0 rfl rfl rfl l4 (b9 rfl) rfl ?_;clear m; intro u m; simp only[a8,zH,zI,zJ,zK,zL,zM,zN,zO,zP,zF,zG,Nat.reduceAdd] at m;refine aA (aD) (aC (k2 _ _ ?_));refine aF fun K3 k3=>aF fun K4 k4=>wp_region_lit (aA (aB) (aA (bM rfl Tryz.underlying48 rfl) (aA (aB) ?_)));simp only[ev,zD,zE,zF,zG];refine aC (k4 _ _ ?_);refine wp_block ?_;try simp only[Nat.zero_add,Nat.reduceAdd,Nat.reduceMul,Int.reduceToNat]
 refine cX [7,16] [8,9,10,11,17,18,19,20,21,22,23,24,25,26,27,28,29,30,31,32,33,34,35,36,37,38,39,40,41,42] (fun n vs wl=>∃ (k : Nat) (b : Bool),vs = [.bool b,.int .i64 (k:Int)] ∧ bU w wl [bI g3 [.bool (b8 (lO (bB r (ts.take k))).num),.string (cW (lO (bB r (ts.take k))).num),.bool (b8 ((lO (bB r (ts.take k))).den : Int)),.string (cW ((lO (bB r (ts.take k))).den : Int)),.int .i64 (Ss (bB r (ts.take k)) : Int)] 43,bI g2 [.bool false,.string ⟨#[]⟩,.bool false,.string ⟨#[]⟩,.int .i64 0] 43,bI g1 [.int .i64 r.s.x,.int .i64 r.s.y,.int .i64 r.s.z,.int .i64 r.w,.int .i64 r.d.x,.int .i64 r.d.y,.int .i64 r.d.z] 25] ∧ (b = (bB r (ts.take k)).isSome) ∧ (k ≤ N) ∧ (n = N - k)) ?_ ?_
 ·
  apply Exists.intro;simp only[zQ,zR,zD,zE];exact ⟨0,false,rfl,m,rfl,Nat.zero_le _,rfl⟩
 ·
  intro n vs wr hI u;clear m;obtain ⟨k,b,rfl,m,hb,hk,hn⟩:=hI;simp only[aK,aQ,aM,aP,zF,zG];refine aF fun K5 k5=>wp_region_lit (aA (dS rfl rfl) (aC (k5 _ _ ?_)));refine aF fun K6 k6=>?_;simp only[ev,zD,zE,zF,zG];refine cK rfl (fun hc1=>?_) (fun hc1=>?_)
  ·
   obtain ⟨t,ht,hit,a,rfl,hrow⟩:=hT.get (i:=k) (by omega);refine wp_skip (k6 _ _ ?_);refine aF fun K7 k7=>wp_block (aF fun K8 k8=>wp_region_lit (aA (aB) ?_));simp only[ev,zD,zE,zF,zG];refine aA (aT Tryz.underlying48 eS rfl rfl (by omega) (by omega) (vY (Int.toNat_natCast _))) ?_;simp only[ev,zD,zE,zF,zG];refine aI rfl (((hrow.ext m.ext)).lies l5 eS) ?_;simp only[ev,zD,zE,zF,zG];refine bN m u5 rfl ?_;clear m; intro g4 u m;refine aA (aD) ?_;simp only[ev,zD,zE,zF,zG];refine aV m 0 rfl rfl rfl eS (b9 rfl) rfl ?_;clear m; intro u m; simp only[a8,zH,zI,zJ,zK,zL,zM,zN,zO,zP,zF,zG,Nat.reduceAdd] at m;refine aC (k8 _ _ ?_);refine aF fun K9 k9=>wp_region_lit (aI rfl ((m.b 3 rfl).full iN eE) ?_);simp only[ev,zD,zE,zF,zG];refine aI rfl ((m.b 0 rfl).full l5 eS) ?_;simp only[ev,zD,zE,zF,zG];refine bH m rfl rfl (Ft (t:=t)) ?_;clear m; intro u m;refine aA (aB) (aA (bJ rfl rfl) (aA (bJ rfl rfl) ?_));simp only[ev,zD,zE,zF,zG];refine bN m fJ rfl ?_;clear m; intro g5 u m;simp only[ev,zD,zE,zF,zG];refine aV m 0 rfl rfl rfl aS (b9 rfl) rfl ?_;clear m; intro u m; simp only[a8,zH,zI,zJ,zK,zL,zM,zN,zO,zP,zF,zG,Nat.reduceAdd] at m;refine aA (aD) (aC (k9 _ _ ?_));refine aF fun K10 k10=>?_;simp only[ev,zD,zE,zF,zG];rcases S1 r t (bB r (ts.take k)) with hh | ⟨hh,hb1⟩ | ⟨hh,q,j,hb1⟩
   ·
    rw [decide_eq_false hh];have hq : bB r (ts.take (k + 1)) = bB r (ts.take k):=by rw [mC ht]; exact O7 hh
    refine wp_region_lit (aA (aB) (aA (aB) (bD rfl (bD rfl ?_))));simp only[ev,zD,zE,zF,zG];refine bD rfl (eC rfl (eC rfl (eC rfl ?_)));simp only[ev,zD,zE,zF,zG];refine eC rfl (eC rfl (bD rfl (aA (cU rfl) ?_)));simp only[ev,zD,zE,zF,zG];refine aC (k10 _ _ ?_);refine eM rfl (wp_skip (k7 _ _ ?_));refine wp_region_lit (aA (aX rfl rfl (aL (by omega) (by omega))) (aA (aB) (aC ?_)));simp only[ev,zD,zE,zF,zG];simp only[Exit.inBlock,Exit.then];refine ⟨N - (k + 1),_,?_,rfl,?_,?_⟩
    · omega
    · simp only[zQ,zR,zD,zE,aK,aQ,aM,aP,zF,zG]
    ·
     simp only[zQ,zR,zD,zE];exact ⟨k + 1,_,rfl,((m.re 2 rfl (by rw [hq]; exact (m.b 2 rfl))).sel [false,false,true,true,true]),by rw [hq]; first | rfl | exact hb,by omega,rfl⟩
   ·
    rw [decide_eq_true hh];obtain rfl : b = false:=by rw [hb,hb1]; rfl
    have hq : bB r (ts.take (k + 1)) = some (eL r t,k):=by rw [mC ht,hb1]; exact Il hh
    refine wp_region_lit (aA (aB) (aA (aB) (aW rfl (aA (aB) (aW rfl (aA (gX rfl) ?_))))));simp only[ev,zD,zE,zF,zG];refine aW rfl (aA (aB) (bW rfl (bW rfl (bW rfl ?_))));simp only[ev,zD,zE,zF,zG];refine bW rfl (bW rfl (aW rfl (aA (cQ rfl) (aA (cQ rfl) ?_))));simp only[ev,zD,zE,zF,zG];refine aC (k10 _ _ ?_);refine bS rfl (wp_region_lit (aI rfl ((m.b 0 rfl).full bG aS) ?_));simp only[ev,zD,zE,zF,zG];refine aA (aB) (aA (o6 rfl rfl) ?_);simp only[ev,zD,zE,zF,zG];refine aV m 2 rfl rfl rfl l4 (b9 rfl) rfl ?_;clear m; intro u m; simp only[a8,zH,zI,zJ,zK,zL,zM,zN,zO,zP,zF,zG,Nat.reduceAdd] at m;refine aA (aD) (aC (k7 _ _ ?_));refine wp_region_lit ?_;simp only[ev,zD,zE,zF,zG];refine aA (aX rfl rfl (aL (by omega) (by omega))) (aA (aB) (aC ?_));simp only[ev,zD,zE,zF,zG];simp only[Exit.inBlock,Exit.then];refine ⟨N - (k + 1),_,?_,rfl,?_,?_⟩
    · omega
    · simp only[zQ,zR,zD,zE,aK,aQ,aM,aP,zF,zG]
    ·
     simp only[zQ,zR,zD,zE];exact ⟨k + 1,_,rfl,((m.re 2 rfl (by rw [hq]; exact (m.b 2 rfl))).sel [false,false,true,true,true]),by rw [hq]; first | rfl | exact hb,by omega,rfl⟩
   ·
    rw [decide_eq_true hh];obtain rfl : b = true:=by rw [hb,hb1]; rfl
    refine wp_region_lit (aA (aB) (aA (aB) (aW rfl (aA (aB) (aW rfl (aA (gX rfl) ?_))))));simp only[ev,zD,zE,zF,zG];refine aW rfl (aA (aB) (aW rfl ?_));simp only[ev,zD,zE,zF,zG];refine aI rfl ((m.b 0 rfl).full bG aS) ?_;simp only[ev,zD,zE,zF,zG];refine aW rfl (aA (aG (c:=3) Tryz.underlying43 rfl aS rfl rfl) (aW rfl ?_));simp only[ev,zD,zE,zF,zG];refine aI rfl ((m.b 2 rfl).lies bG aS rfl rfl) ?_;simp only[ev,zD,zE,zF,zG,zH,zI,zJ,zK,Nat.zero_add,Nat.reduceAdd,Nat.reduceMul,Int.reduceToNat];refine aW rfl (bH m rfl rfl (gV (p:=eL r t) (q:=lO (bB r (ts.take k))) D6 (D7 (fun u hu=>hT.it u (List.mem_of_mem_take hu)))) ?_);clear m; intro u m;refine aW rfl (aA (dS rfl rfl) (aW rfl (aA (cU rfl) (aA (cQ rfl) ?_))));simp only[ev,zD,zE,zF,zG];refine aC (k10 _ _ ?_);refine cK rfl (fun hc2=>?_) (fun hc2=>?_)
    ·
     have hq : bB r (ts.take (k + 1)) = some (eL r t,k):=by rw [mC ht,hb1]; exact O8 hh (by have:=gU.1 hc2; rwa [hb1] at this)
     refine wp_region_lit (aI rfl ((m.b 0 rfl).full bG aS) ?_);simp only[ev,zD,zE,zF,zG];refine aA (aB) (aA (o6 rfl rfl) ?_);simp only[ev,zD,zE,zF,zG];refine aV m 2 rfl rfl rfl l4 (b9 rfl) rfl ?_;clear m; intro u m; simp only[a8,zH,zI,zJ,zK,zL,zM,zN,zO,zP,zF,zG,Nat.reduceAdd] at m;refine aA (aD) (aC (k7 _ _ ?_));refine wp_region_lit ?_;simp only[ev,zD,zE,zF,zG];refine aA (aX rfl rfl (aL (by omega) (by omega))) (aA (aB) (aC ?_));simp only[ev,zD,zE,zF,zG];simp only[Exit.inBlock,Exit.then];refine ⟨N - (k + 1),_,?_,rfl,?_,?_⟩
     · omega
     · simp only[zQ,zR,zD,zE,aK,aQ,aM,aP,zF,zG]
     ·
      simp only[zQ,zR,zD,zE];exact ⟨k + 1,_,rfl,((m.re 2 rfl (by rw [hq]; exact (m.b 2 rfl))).sel [false,false,true,true,true]),by rw [hq]; first | rfl | exact hb,by omega,rfl⟩
    ·
     have hq : bB r (ts.take (k + 1)) = bB r (ts.take k):=by rw [mC ht,hb1]; exact O9 hh (by have:=mt gU.2 hc2; rwa [hb1] at this)
     refine wp_skip (k7 _ _ ?_);refine wp_region_lit (aA (aX rfl rfl (aL (by omega) (by omega))) (aA (aB) (aC ?_)));simp only[ev,zD,zE,zF,zG];simp only[Exit.inBlock,Exit.then];refine ⟨N - (k + 1),_,?_,rfl,?_,?_⟩
     · omega
     · simp only[zQ,zR,zD,zE,aK,aQ,aM,aP,zF,zG]
     ·
      simp only[zQ,zR,zD,zE];exact ⟨k + 1,_,rfl,((m.re 2 rfl (by rw [hq]; exact (m.b 2 rfl))).sel [false,false,true,true,true]),by rw [hq]; first | rfl | exact hb,by omega,rfl⟩
  ·
   have e : ts.take k = ts:=List.take_of_length_le (by rw [hT.len]; omega);simp only[e] at m hb;refine wp_exit (k3 _ _ ?_);refine aF fun K11 k11=>wp_region_lit (aI rfl ((m.b 0 rfl).full Jl l4) ?_);simp only[ev,zD,zE,zF,zG];refine aA (aB) ?_;simp only[ev,zD,zE,zF,zG];refine aV m 1 rfl rfl rfl l4 (b9 rfl) rfl ?_;clear m; intro u m; simp only[a8,zH,zI,zJ,zK,zL,zM,zN,zO,zP,zF,zG,Nat.reduceAdd] at m;refine aA (aD) (aC (k11 _ _ ?_));refine wp_ret ?_;simp only[ev,zD,zE,zF,zG];try simp only[Exit.inBlock,Exit.then,if_true]
   refine mZ rfl ⟨_,rfl,((m.b 1 rfl).full Jl l4)⟩ rfl ?_;try simp only[zD,zE]
   exact ⟨_,rfl,m.ext,by rw [hb]; rfl⟩
end Go.Proofs.YtimjandkmfcmiaaGreatDoor
namespace Go.Proofs.YtimjandkmfcmiaaGreatDoor
open Go.RowKit Go.Lith
set_option maxRecDepth 100000
attribute [local irreducible] wpList wpQuiet dV dK dI Code.wp
def V7 : Option (Rat × Rat) → Go.Value
 | none=>.tuple #[Q 0,Q 0,.bool false]
 | some (p,q)=>.tuple #[Q p,Q q,.bool true]
def xC : Option Rat → List Go.Value
 | none=>[.bool false,.string ⟨#[]⟩,.bool false,.string ⟨#[]⟩]
 | some q=>[.bool (b8 (q).num),.string (cW (q).num),.bool (b8 ((q).den : Int)),.string (cW ((q).den : Int))]
theorem Me (o : Option Rat) : ∃ c0 c1 c2 c3,xC o = [c0,c1,c2,c3]:=by
 cases o <;> exact ⟨_,_,_,_,rfl⟩
theorem Pb {r : e8} {d : Int} (hok : r.ok) (h : d ≠ 0) : r.w * d ≠ 0:=fun e=>by
 rcases Int.mul_eq_zero.1 e with e | e
 ·
  have:=hok.1;omega
 · exact h e
theorem Cn {r : e8} {lo hi : P3} {k : Nat} {st : Rat × Option Rat} (hk : k < 3) (h : uM r lo hi k = some st) (ho : iY ((r.to lo).at k) ((r.to hi).at k) (r.d.at k)) : mL r lo hi = none:=by
 have h1 : uM r lo hi (k + 1) = none:=by rw [uM,h,Option.bind_some,L9,if_pos ho]
 have up : ∀ j,uM r lo hi (k + 1 + j) = none:=by
  intro j
  induction j with
  | zero=>exact h1
  | succ j ih=>rw [← Nat.add_assoc,uM,ih]; rfl
 have h3 : uM r lo hi 3 = none:=by have:=up (3 - (k + 1)); rwa [show k + 1 + (3 - (k + 1)) = 3 by omega] at this
 unfold mL;rw [h3];split <;> rfl
theorem Mf {r : e8} {lo hi : P3} {k : Nat} {st : Rat × Option Rat} (h : uM r lo hi k = some st) (ho : ¬ iY ((r.to lo).at k) ((r.to hi).at k) (r.d.at k)) (hd : r.d.at k = 0) : uM r lo hi (k + 1) = some st:=by
 rw [uM,h,Option.bind_some,L9,if_neg ho,if_pos hd]
theorem Mg {r : e8} {lo hi : P3} {k : Nat} {st : Rat × Option Rat} (h : uM r lo hi k = some st) (ho : ¬ iY ((r.to lo).at k) ((r.to hi).at k) (r.d.at k)) (hd : ¬ r.d.at k = 0) :
 uM r lo hi (k + 1) = some (yB st.1 (Ch r ((r.to lo).at k) ((r.to hi).at k) (r.d.at k)),some (oT st.2 (Ci r ((r.to lo).at k) ((r.to hi).at k) (r.d.at k)))):=by
 rw [uM,h,Option.bind_some,L9,if_neg ho,if_neg hd]
def Wp (o : Option Rat) : Prop:=∀ q,o = some q → Bq 400000 q
theorem gN {q : Rat} (h : Bq 400000 q) : Wp (some q):=fun p e=>by cases e; exact h
theorem uO {r : e8} {n d : Int} [IR r] (hn : Bd 129 n) (hd : Bd 64 d) (h : d ≠ 0) (hok : r.ok) : Bq 400000 (Rat.divInt n (r.w * d)) :=
 haveI : Bw 129 n:=⟨hn⟩
 haveI : Bw 64 d:=⟨hd⟩
 (Bq.mk' (a:=129) (b:=200) Bw.up Bw.up (fun e=>by
  rcases Int.mul_eq_zero.1 e with e | e
  · have:=hok.1; omega
  · exact h e)).mono (by decide)
theorem S4 {p q : Rat} (hp : Bq 400000 p) (hq : Bq 400000 q) : Bq 400000 (yB p q):=by
 unfold yB;split
 · exact hq
 · exact hp
theorem S5 {o : Option Rat} {q : Rat} (ho : Wp o) (hq : Bq 400000 q) : Bq 400000 (oT o q):=by
 unfold oT;split
 · exact hq
 ·
  split
  · exact hq
  · exact ho _ rfl
theorem Mh {r : e8} {lo hi : P3} {k : Nat} {st : Rat × Option Rat} (h : uM r lo hi k = some st) (hd : ∃ j,j < k ∧ ¬ r.d.at j = 0) : st.2.isSome = true:=by
 induction k generalizing st with
 | zero=>obtain ⟨j,hj,_⟩:=hd; omega
 | succ k ih =>
  rw [uM] at h;obtain ⟨s,hs,e⟩:=Option.bind_eq_some_iff.1 h;unfold L9 at e;split at e
  · cases e
  ·
   split at e
   ·
    rename_i h0;cases e;obtain ⟨j,hj,hn⟩:=hd;refine ih hs ⟨j,?_,hn⟩;rcases Nat.lt_or_ge j k with h | h
    · exact h
    ·
     have : j = k:=by omega
     subst this; exact absurd h0 hn
   · cases e; rfl
theorem Pd {r : e8} {lo hi : P3} {st : Rat × Option Rat} (hok : r.ok) (h : uM r lo hi 3 = some st) : ∃ q,st.2 = some q:=by
 refine Option.isSome_iff_exists.1 (Mh h ?_);by_cases hx : r.d.x = 0
 ·
  by_cases hy : r.d.y = 0
  · exact ⟨2,by decide,fun hz=>hok.2 ⟨hx,hy,hz⟩⟩
  · exact ⟨1,by decide,hy⟩
 · exact ⟨0,by decide,hx⟩
theorem Pe {r : e8} {lo hi : P3} {p q : Rat} (hok : r.ok) (h : uM r lo hi 3 = some (p,some q)) : mL r lo hi = if q < p then none else some (p,q):=by
 rw [mL,if_pos hok,h,Option.bind_some]
theorem W0 (n f d : Int) : f < n ∨ (¬ f < n ∧ d = 0 ∧ 0 < n) ∨ (¬ f < n ∧ d = 0 ∧ ¬ 0 < n ∧ f < 0) ∨ (¬ f < n ∧ d = 0 ∧ ¬ 0 < n ∧ ¬ f < 0) ∨ (¬ f < n ∧ d < 0) ∨ (¬ f < n ∧ 0 < d):=by omega
theorem k3 {k : Nat} (h : k < 3) : k = 0 ∨ k = 1 ∨ k = 2:=by omega
instance {b k : Nat} {v : P3} [h : Bv b v] : Bw b (v.at k):=⟨by unfold P3.at; split; exact h.x; exact h.y; exact h.z⟩
instance {k : Nat} {v : P3} [h : I3 v] : Iw (v.at k):=⟨by unfold P3.at; split; exact h.x; exact h.y; exact h.z⟩
theorem Xc (v : P3) {k : Nat} (h : k < 3) : (#[Go.Value.int .i64 v.x,.int .i64 v.y,.int .i64 v.z] : Array Go.Value)[((k : Nat) : Int).toNat * 1]? = some (.int .i64 (v.at k)):=by
 rcases k3 h with rfl | rfl | rfl <;> rfl
theorem Gw {w : World} {g k : Nat} {v : P3} (hB : eU w g [.bool (b8 (v).x),.string (cW (v).x),.bool (b8 (v).y),.string (cW (v).y),.bool (b8 (v).z),.string (cW (v).z)] 108) (h : k < 3) : oY Tryz.prog w 35 ⟨g,k * 2,none⟩ (W (v.at k)):=by
 rcases k3 h with rfl | rfl | rfl
 · exact hB.lies (i:=0) aY aH rfl rfl
 · exact hB.lies (i:=2) aY aH rfl rfl
 · exact hB.lies (i:=4) aY aH rfl rfl
theorem Mi {r : e8} {lo hi : P3} [IR r] [I3 lo] [I3 hi] : eI Tryz.prog 45 [nQ r,pt lo,pt hi] (V7 (mL r lo hi)):=by
 intro w;refine ⟨Ul,?_⟩;have m:=bU.refl w
 go_enter Tryz.func45,Tryz.ntmps45
 refine aF fun K1 k1=>wp_region_lit (dJ m rfl ?_);clear m; intro g1 u m;simp only[ev,zD,zE,zF,zG];refine dJ m rfl ?_;clear m; intro g2 u m;simp only[ev,zD,zE,zF,zG];refine dJ m rfl ?_;clear m; intro g3 u m;simp only[ev,zD,zE,zF,zG];refine bN m fJ rfl ?_;clear m; intro g4 u m;simp only[ev,zD,zE,zF,zG];refine bN m fJ rfl ?_;clear m; intro g5 u m;refine aA (aD) (aC (k1 _ _ ?_));refine aF fun K2 k2=>aF fun K3 k3=>?_;simp only[ev,zD,zE,zF,zG];rcases Decidable.em r.ok with hok | hok
 ·
  refine wp_region_lit (aI rfl ((m.b 4 rfl).full iN eE) ?_);simp only[ev,zD,zE,zF,zG];refine bH m rfl rfl (xA hok) ?_;clear m; intro u m;refine aA (gX rfl) (aC (k3 _ _ ?_));refine eM rfl (wp_skip (k2 _ _ ?_));refine aF fun K4 k4=>?_;simp only[ev,zD,zE,zF,zG];refine eV 12 [0,1,2,3,4,5,6,7,8,9] [⟨10,9,108,[.bool false,.string ⟨#[]⟩,.bool false,.string ⟨#[]⟩,.bool false,.string ⟨#[]⟩]⟩,⟨11,10,35,[.bool false,.string ⟨#[]⟩]⟩] aU (by kernel_rfl) (Tp ⟨_,_,_,rfl,by kernel_rfl,_,gL,rfl⟩ ⟨_,_,_,rfl,by kernel_rfl,_,cV,rfl⟩) (ol:=?_) ?hol ?_
  case hol=>simp only[zQ,zR,zS,zT,zU,zV]; try rfl
  intro u e; replace m:=m.ext' e; clear e;refine iE (aG (c:=0) Tryz.underlying25 rfl aO rfl rfl) ?_;simp only[ev,zD,zE,zF,zG];refine eT rfl (fun u e=>(((m.ext' e).b 4 rfl).lies1 aZ rfl)) ?_;simp only[ev,zD,zE,zF,zG];refine iE (aG (c:=0) Tryz.underlying25 rfl aO rfl rfl) ?_;simp only[ev,zD,zE,zF,zG];refine eT rfl (fun u e=>(((m.ext' e).b 4 rfl).lies1 aZ rfl)) ?_;simp only[ev,zD,zE,zF,zG];refine iE (aG (c:=0) Tryz.underlying25 rfl aO rfl rfl) ?_;simp only[ev,zD,zE,zF,zG];refine eT rfl (fun u e=>(((m.ext' e).b 4 rfl).lies1 aZ rfl)) ?_;simp only[ev,zD,zE,zF,zG];refine fU rfl rfl (O4) (iE (aG (c:=0) Tryz.underlying25 rfl aO rfl rfl) ?_);simp only[ev,zD,zE,zF,zG];refine eT rfl (fun u e=>(((m.ext' e).b 4 rfl).lies1 aZ rfl)) ?_;simp only[ev,zD,zE,zF,zG];refine fU rfl rfl (i6 Iw.h) (sI ?_);simp only[ev,zD,zE,zF,zG];refine Vp m (by decide) ?_;clear m; intro g6 g7 u m;simp only[zJ,zK,zF,zG];refine aV m 1 rfl rfl rfl bE (b9 rfl) rfl ?_;clear m; intro u m; simp only[a8,zH,zI,zJ,zK,zL,zM,zN,zO,zP,zF,zG,Nat.reduceAdd] at m;refine aV m 0 rfl rfl rfl aH (b9 rfl) rfl ?_;clear m; intro u m; simp only[a8,zH,zI,zJ,zK,zL,zM,zN,zO,zP,zF,zG,Nat.reduceAdd] at m;refine aC (k4 _ _ ?_);refine aF fun K5 k5=>?_;refine eV 14 [0,1,2,3,4,5,6,7,8,9,10,11] [⟨12,11,108,[.bool false,.string ⟨#[]⟩,.bool false,.string ⟨#[]⟩,.bool false,.string ⟨#[]⟩]⟩,⟨13,12,108,[.bool false,.string ⟨#[]⟩,.bool false,.string ⟨#[]⟩,.bool false,.string ⟨#[]⟩]⟩] aU (by kernel_rfl) (Tp ⟨_,_,_,rfl,by kernel_rfl,_,gL,rfl⟩ ⟨_,_,_,rfl,by kernel_rfl,_,gL,rfl⟩) (ol:=?_) ?hol ?_
  case hol=>simp only[zQ,zR,zS,zT,zU,zV]; try rfl
  intro u e; replace m:=m.ext' e; clear e;refine eT rfl (fun u e=>(((m.ext' e).b 5 rfl).full bC aN)) ?_;simp only[ev,zD,zE,zF,zG];refine fU rfl rfl (mG) ?_;simp only[ev,zD,zE,zF,zG];refine eT rfl (fun u e=>(((m.ext' e).b 0 rfl).full aY aH)) ?_;simp only[ev,zD,zE,zF,zG];refine fU rfl rfl (pN Bv.of ⟨Bw.up⟩) ?_;simp only[ev,zD,zE,zF,zG];refine eT rfl (fun u e=>(((m.ext' e).b 1 rfl).full dP bE)) ?_;simp only[ev,zD,zE,zF,zG];refine fU rfl rfl (mH Bv.of Bv.of) ?_;simp only[ev,zD,zE,zF,zG];refine eT rfl (fun u e=>(((m.ext' e).b 4 rfl).full bC aN)) ?_;simp only[ev,zD,zE,zF,zG];refine fU rfl rfl (mG) ?_;simp only[ev,zD,zE,zF,zG];refine eT rfl (fun u e=>(((m.ext' e).b 0 rfl).full aY aH)) ?_;simp only[ev,zD,zE,zF,zG];refine fU rfl rfl (pN Bv.of ⟨Bw.up⟩) ?_;simp only[ev,zD,zE,zF,zG];refine eT rfl (fun u e=>(((m.ext' e).b 1 rfl).full dP bE)) ?_;simp only[ev,zD,zE,zF,zG];refine fU rfl rfl (mH Bv.of Bv.of) (sI ?_);simp only[ev,zD,zE,zF,zG];refine Vp m (by decide) ?_;clear m; intro g8 g9 u m;simp only[zJ,zK,zF,zG];refine aV m 1 rfl rfl rfl bE (b9 rfl) rfl ?_;clear m; intro u m; simp only[a8,zH,zI,zJ,zK,zL,zM,zN,zO,zP,zF,zG,Nat.reduceAdd] at m;refine aV m 0 rfl rfl rfl bE (b9 rfl) rfl ?_;clear m; intro u m; simp only[a8,zH,zI,zJ,zK,zL,zM,zN,zO,zP,zF,zG,Nat.reduceAdd] at m;refine aC (k5 _ _ ?_);refine aF fun K6 k6=>wp_region_lit (bH m rfl rfl (eN) ?_);clear m; intro u m;simp only[ev,zD,zE,zF,zG];refine aV m 5 rfl rfl rfl aS (b9 rfl) rfl ?_;clear m; intro u m; simp only[a8,zH,zI,zJ,zK,zL,zM,zN,zO,zP,zF,zG,Nat.reduceAdd] at m;refine aA (aD) (aC (k6 _ _ ?_));refine aF fun K7 k7=>aF fun K8 k8=>wp_region_lit (aA (aG (c:=2) Tryz.underlying25 rfl eJ rfl rfl) ?_);simp only[ev,zD,zE,zF,zG];refine aI rfl ((m.b 8 rfl).lies o4 eJ rfl rfl) ?_;simp only[ev,zD,zE,zF,zG,zH,zI,zJ,zK,Nat.zero_add,Nat.reduceAdd,Nat.reduceMul,Int.reduceToNat];refine aA (aB) (aC (k8 _ _ ?_));refine wp_block ?_;simp only[ev,zD,zE,zF,zG];try simp only[Nat.zero_add,Nat.reduceAdd,Nat.reduceMul,Int.reduceToNat]
  refine cX [13,51] [8,14,15,16,17,18,19,20,52,53,54,55,56,57,58,59,60,61,62,63,64,65,66,67,68,69,70,71,72,73,74,75,76,77,78,79,80,81,82,83,84,85,86,87,88,89,90,91,92,93,94,95,96,97,98,99,100,101,102,103,104,105,106,107,108,109,110,111,112] (fun n vs wl=>∃ (k : Nat) (p : Rat) (o : Option Rat) (bb : Bool),vs = [.bool bb,.int .i64 (k:Int)] ∧ bU w wl [bI g9 [.bool (b8 ((r.to hi)).x),.string (cW ((r.to hi)).x),.bool (b8 ((r.to hi)).y),.string (cW ((r.to hi)).y),.bool (b8 ((r.to hi)).z),.string (cW ((r.to hi)).z)] 108,bI g8 [.bool (b8 ((r.to lo)).x),.string (cW ((r.to lo)).x),.bool (b8 ((r.to lo)).y),.string (cW ((r.to lo)).y),.bool (b8 ((r.to lo)).z),.string (cW ((r.to lo)).z)] 108,bI g7 [.bool (b8 r.w),.string (cW r.w)] 35,bI g6 [.bool (b8 (r.s).x),.string (cW (r.s).x),.bool (b8 (r.s).y),.string (cW (r.s).y),.bool (b8 (r.s).z),.string (cW (r.s).z)] 108,bI g5 (xC o) 37,bI g4 [.bool (b8 (p).num),.string (cW (p).num),.bool (b8 ((p).den : Int)),.string (cW ((p).den : Int))] 37,bI g3 [.int .i64 hi.x,.int .i64 hi.y,.int .i64 hi.z] 56,bI g2 [.int .i64 lo.x,.int .i64 lo.y,.int .i64 lo.z] 56,bI g1 [.int .i64 r.s.x,.int .i64 r.s.y,.int .i64 r.s.z,.int .i64 r.w,.int .i64 r.d.x,.int .i64 r.d.y,.int .i64 r.d.z] 25] ∧ (uM r lo hi k = some (p,o)) ∧ (bb = o.isSome) ∧ (Bq 400000 p) ∧ (Wp o) ∧ (k ≤ 3) ∧ (n = 3 - k)) ?_ ?_
  ·
   apply Exists.intro;simp only[zQ,zR,zD,zE];exact ⟨0,0,none,false,rfl,m,rfl,rfl,⟨gT _,qK.mono (by decide)⟩,(fun q h=>by cases h),Nat.zero_le _,rfl⟩
  ·
   intro n vs wr hI u;clear m;obtain ⟨k,p,o,bb,rfl,m,ha,hbb,hbp,hbo,hk,hn⟩:=hI;simp only[aK,aQ,aM,aP,zF,zG];refine aF fun K9 k9=>wp_region_lit (aA (dS rfl rfl) (aC (k9 _ _ ?_)));refine aF fun K10 k10=>?_;simp only[ev,zD,zE,zF,zG];refine cK rfl (fun hc2=>?_) (fun hc2=>?_)
   ·
    have hk3 : k < 3:=by omega
    let kN : Nat:=k + 1
    let kM : Nat:=2 - k
    have hlt : kM < n:=by show 2 - k < n; omega
    refine wp_skip (k10 _ _ ?_);refine aF fun K11 k11=>wp_block (aF fun K12 k12=>wp_region_lit (aA (aB) (aA (jB Tryz.underlying23 aZ aO rfl rfl (Int.natCast_nonneg _) (by omega) (Xc r.d hk3)) (aA (aD) (aA (aD) ?_)))));simp only[ev,zD,zE,zF,zG];refine aC (k12 _ _ ?_);refine aF fun K13 k13=>?_;apply Vq m (T1:=35) (T2:=35)
    ·
     refine qL m [true,true,true,true,true,true,true,true,true] (.take 0 (.take 1 (.take 2 (.take 3 (.take 4 (.take 5 (.two 6 (.one 7 (.one 8 (.one 9 .nil))) 7 (.one 6 (.one 8 (.one 9 .nil)))))))))) aU (by kernel_rfl) (fun _ _ _ _ _ h=>by cases h.1) ?_;intro u m;refine cN (by simp only[zS,zT,zU,zV]; rfl) (bQ (aB) (cZ (cN (by simp only[zS,zT,zU,zV]; rfl) ?_)));simp only[ev,zD,zE,zF,zG];refine bQ (aJ Tryz.underlying108 aH rfl rfl (by omega) (by omega) (vZ (Int.toNat_natCast _))) (cZ (cN (by simp only[zS,zT,zU,zV]; rfl) ?_));simp only[ev,zD,zE,zF,zG];refine eQ rfl (fun u m=>(Gw (m.b 1 rfl) hk3)) ?_;simp only[ev,zD,zE,zF,zG];refine cZ (cN (by simp only[zS,zT,zU,zV]; rfl) (bQ (aB) (cZ (cN (by simp only[zS,zT,zU,zV]; rfl) ?_))));simp only[ev,zD,zE,zF,zG];refine bQ (aJ Tryz.underlying108 aH rfl rfl (by omega) (by omega) (vZ (Int.toNat_natCast _))) (cZ (cN (by simp only[zS,zT,zU,zV]; rfl) ?_));simp only[ev,zD,zE,zF,zG];refine eQ rfl (fun u m=>(Gw (m.b 0 rfl) hk3)) ?_;simp only[ev,zD,zE,zF,zG];refine cZ ?_;refine jZ (by simp only[zS,zT,zU,zV]; rfl) (by simp only[zS,zT,zU,zV]; rfl) ?_ ?_
     ·
      refine bN m cV rfl ?_;clear m; intro g10 u m;refine aC ?_;refine ⟨m.sel [false,true,true,true,true,true,true,true,true,true],?_⟩;refine bY (by simp only[zS,zT,zU,zV]; rfl) ?_;simp only[ev,zD,zE,zF,zG];refine bN m cV rfl ?_;clear m; intro g11 u m;refine aC ?_;refine ⟨m.sel [false,false,true,true,true,true,true,true,true,true,true],?_⟩;refine bY (by simp only[zS,zT,zU,zV]; rfl) ?_;simp only[ev,zD,zE,zF,zG];refine aV m 1 rfl rfl rfl aH (b9 rfl) rfl ?_;clear m; intro u m; simp only[a8,zH,zI,zJ,zK,zL,zM,zN,zO,zP,zF,zG,Nat.reduceAdd] at m;refine aC ?_;refine ⟨m.sel [false,false,true,true,true,true,true,true,true,true,true],?_⟩;refine bY (by simp only[zS,zT,zU,zV]; rfl) (aV m 0 rfl rfl rfl aH (b9 rfl) rfl ?_);clear m; intro u m; simp only[a8,zH,zI,zJ,zK,zL,zM,zN,zO,zP,zF,zG,Nat.reduceAdd] at m;refine aC ?_;refine ⟨m.sel [false,false,true,true,true,true,true,true,true,true,true],?_⟩;refine gM ?_;exact ⟨rfl,g10,g11,rfl,m⟩
     ·
      refine bN m cV rfl ?_;clear m; intro g10 u m;refine aC ?_;refine ⟨m.sel [false,true,true,true,true,true,true,true,true,true],?_⟩;refine bY (by simp only[zS,zT,zU,zV]; rfl) ?_;simp only[ev,zD,zE,zF,zG];refine bN m cV rfl ?_;clear m; intro g11 u m;refine aC ?_;refine ⟨m.sel [false,false,true,true,true,true,true,true,true,true,true],?_⟩;refine bY (by simp only[zS,zT,zU,zV]; rfl) ?_;simp only[ev,zD,zE,zF,zG];refine aV m 0 rfl rfl rfl aH (b9 rfl) rfl ?_;clear m; intro u m; simp only[a8,zH,zI,zJ,zK,zL,zM,zN,zO,zP,zF,zG,Nat.reduceAdd] at m;refine aC ?_;refine ⟨m.sel [false,false,true,true,true,true,true,true,true,true,true],?_⟩;refine bY (by simp only[zS,zT,zU,zV]; rfl) (aV m 1 rfl rfl rfl aH (b9 rfl) rfl ?_);clear m; intro u m; simp only[a8,zH,zI,zJ,zK,zL,zM,zN,zO,zP,zF,zG,Nat.reduceAdd] at m;refine aC ?_;refine ⟨m.sel [false,false,true,true,true,true,true,true,true,true,true],?_⟩;refine gM ?_;exact ⟨rfl,g11,g10,rfl,m.s01⟩
    intro g10 g11 u m;try dsimp only
    refine k13 _ _ ?_;refine aF fun K14 k14=>wp_block (aF fun K15 k15=>aF fun K16 k16=>?_);rcases W0 ((r.to lo).at k) ((r.to hi).at k) (r.d.at k) with ho | ho | ho | ho | ho | ho
    ·
     have hbx:=Cn (k:=k) hk3 ha (show iY ((r.to lo).at k) ((r.to hi).at k) (r.d.at k) by unfold iY; omega);obtain ⟨c0,c1,c2,c3,hl4⟩:=Me o;rw [hl4] at m;refine wp_region_lit (aI rfl ((m.b 1 rfl).full aY aH) ?_);simp only[ev,zD,zE,zF,zG];refine aI rfl ((m.b 0 rfl).full aY aH) ?_;simp only[ev,zD,zE,zF,zG];refine bH m rfl rfl (wM (a:=(r.to lo).at k) (b:=(r.to hi).at k) Bw.up Bw.up) ?_;clear m; intro u m;refine aA (l2 rfl rfl (by rw [jD]; omega)) (aA (aD) (aC (k16 _ _ ?_)));refine bS rfl (wp_skip (k15 _ _ ?_));refine bS rfl (aF fun K17 k17=>wp_region_lit ?_);simp only[ev,zD,zE,zF,zG];refine bH m rfl rfl (eN) ?_;clear m; intro u m;simp only[ev,zD,zE,zF,zG];refine bH m rfl rfl (eN) ?_;clear m; intro u m;simp only[ev,zD,zE,zF,zG];refine aV m 7 rfl rfl rfl aS (b9 rfl) rfl ?_;clear m; intro u m; simp only[a8,zH,zI,zJ,zK,zL,zM,zN,zO,zP,zF,zG,Nat.reduceAdd] at m;refine aV m 6 rfl rfl rfl aS (b9 rfl) rfl ?_;clear m; intro u m; simp only[a8,zH,zI,zJ,zK,zL,zM,zN,zO,zP,zF,zG,Nat.reduceAdd] at m;refine aA (aD) (aC (k17 _ _ ?_));refine wp_ret ?_;simp only[ev,zD,zE,zF,zG];try simp only[Exit.inBlock,Exit.then,if_true]
     refine uU rfl ⟨_,rfl,((m.b 7 rfl).full bG aS)⟩ ⟨_,rfl,((m.b 6 rfl).full bG aS)⟩ rfl ?_;try simp only[zD,zE]
     exact ⟨_,rfl,m.ext,by rw [hbx]; rfl⟩
    ·
     have hbx:=Cn (k:=k) hk3 ha (show iY ((r.to lo).at k) ((r.to hi).at k) (r.d.at k) by unfold iY; omega);obtain ⟨c0,c1,c2,c3,hl4⟩:=Me o;rw [hl4] at m;refine wp_region_lit (aI rfl ((m.b 1 rfl).full aY aH) ?_);simp only[ev,zD,zE,zF,zG];refine aI rfl ((m.b 0 rfl).full aY aH) ?_;simp only[ev,zD,zE,zF,zG];refine bH m rfl rfl (wM (a:=(r.to lo).at k) (b:=(r.to hi).at k) Bw.up Bw.up) ?_;clear m; intro u m;refine aA (iZ rfl rfl (by rw [jD]; omega)) (aA (aD) (aC (k16 _ _ ?_)));refine eM rfl (wp_region_lit (aA (aB) ?_));simp only[ev,zD,zE,zF,zG];refine aA (nW rfl rfl (by omega)) (aA (aB) (aW rfl ?_));simp only[ev,zD,zE,zF,zG];refine aI rfl ((m.b 1 rfl).full aY aH) ?_;simp only[ev,zD,zE,zF,zG];refine aW rfl (bH m rfl rfl (i5 (a:=(r.to lo).at k) Bw.up) ?_);clear m; intro u m;refine aW rfl (aA (l2 rfl rfl (by rw [jD]; omega)) (aW rfl (aA (aB) (bW rfl ?_))));simp only[ev,zD,zE,zF,zG];refine bW rfl (bW rfl (aW rfl (aA (cQ rfl) (aA (cQ rfl) ?_))));simp only[ev,zD,zE,zF,zG];refine aA (aD) (aC (k15 _ _ ?_));refine bS rfl (aF fun K18 k18=>wp_region_lit ?_);simp only[ev,zD,zE,zF,zG];refine bH m rfl rfl (eN) ?_;clear m; intro u m;simp only[ev,zD,zE,zF,zG];refine bH m rfl rfl (eN) ?_;clear m; intro u m;simp only[ev,zD,zE,zF,zG];refine aV m 7 rfl rfl rfl aS (b9 rfl) rfl ?_;clear m; intro u m; simp only[a8,zH,zI,zJ,zK,zL,zM,zN,zO,zP,zF,zG,Nat.reduceAdd] at m;refine aV m 6 rfl rfl rfl aS (b9 rfl) rfl ?_;clear m; intro u m; simp only[a8,zH,zI,zJ,zK,zL,zM,zN,zO,zP,zF,zG,Nat.reduceAdd] at m;refine aA (aD) (aC (k18 _ _ ?_));refine wp_ret ?_;simp only[ev,zD,zE,zF,zG];try simp only[Exit.inBlock,Exit.then,if_true]
     refine uU rfl ⟨_,rfl,((m.b 7 rfl).full bG aS)⟩ ⟨_,rfl,((m.b 6 rfl).full bG aS)⟩ rfl ?_;try simp only[zD,zE]
     exact ⟨_,rfl,m.ext,by rw [hbx]; rfl⟩
    ·
     have hbx:=Cn (k:=k) hk3 ha (show iY ((r.to lo).at k) ((r.to hi).at k) (r.d.at k) by unfold iY; omega);obtain ⟨c0,c1,c2,c3,hl4⟩:=Me o;rw [hl4] at m;refine wp_region_lit (aI rfl ((m.b 1 rfl).full aY aH) ?_);simp only[ev,zD,zE,zF,zG];refine aI rfl ((m.b 0 rfl).full aY aH) ?_;simp only[ev,zD,zE,zF,zG];refine bH m rfl rfl (wM (a:=(r.to lo).at k) (b:=(r.to hi).at k) Bw.up Bw.up) ?_;clear m; intro u m;refine aA (iZ rfl rfl (by rw [jD]; omega)) (aA (aD) (aC (k16 _ _ ?_)));refine eM rfl (wp_region_lit (aA (aB) ?_));simp only[ev,zD,zE,zF,zG];refine aA (nW rfl rfl (by omega)) (aA (aB) (aW rfl ?_));simp only[ev,zD,zE,zF,zG];refine aI rfl ((m.b 1 rfl).full aY aH) ?_;simp only[ev,zD,zE,zF,zG];refine aW rfl (bH m rfl rfl (i5 (a:=(r.to lo).at k) Bw.up) ?_);clear m; intro u m;refine aW rfl (aA (iZ rfl rfl (by rw [jD]; omega)) (aW rfl (aA (aB) (aW rfl ?_))));simp only[ev,zD,zE,zF,zG];refine aI rfl ((m.b 0 rfl).full aY aH) ?_;simp only[ev,zD,zE,zF,zG];refine aW rfl (bH m rfl rfl (i5 (a:=(r.to hi).at k) Bw.up) ?_);clear m; intro u m;refine aW rfl (aA (bR rfl rfl (by rw [lU (by omega)]; decide)) (aW rfl (aA (cU rfl) (aA (cQ rfl) ?_))));simp only[ev,zD,zE,zF,zG];refine aA (aD) (aC (k15 _ _ ?_));refine bS rfl (aF fun K19 k19=>wp_region_lit ?_);simp only[ev,zD,zE,zF,zG];refine bH m rfl rfl (eN) ?_;clear m; intro u m;simp only[ev,zD,zE,zF,zG];refine bH m rfl rfl (eN) ?_;clear m; intro u m;simp only[ev,zD,zE,zF,zG];refine aV m 7 rfl rfl rfl aS (b9 rfl) rfl ?_;clear m; intro u m; simp only[a8,zH,zI,zJ,zK,zL,zM,zN,zO,zP,zF,zG,Nat.reduceAdd] at m;refine aV m 6 rfl rfl rfl aS (b9 rfl) rfl ?_;clear m; intro u m; simp only[a8,zH,zI,zJ,zK,zL,zM,zN,zO,zP,zF,zG,Nat.reduceAdd] at m;refine aA (aD) (aC (k19 _ _ ?_));refine wp_ret ?_;simp only[ev,zD,zE,zF,zG];try simp only[Exit.inBlock,Exit.then,if_true]
     refine uU rfl ⟨_,rfl,((m.b 7 rfl).full bG aS)⟩ ⟨_,rfl,((m.b 6 rfl).full bG aS)⟩ rfl ?_;try simp only[zD,zE]
     exact ⟨_,rfl,m.ext,by rw [hbx]; rfl⟩
    ·
     have hgo:=Mf (k:=k) ha (show ¬ iY ((r.to lo).at k) ((r.to hi).at k) (r.d.at k) by unfold iY; omega) (show r.d.at k = 0 by omega)
     let pE : Rat:=p
     let oE : Option Rat:=o
     refine wp_region_lit (aI rfl ((m.b 1 rfl).full aY aH) ?_);simp only[ev,zD,zE,zF,zG];refine aI rfl ((m.b 0 rfl).full aY aH) ?_;simp only[ev,zD,zE,zF,zG];refine bH m rfl rfl (wM (a:=(r.to lo).at k) (b:=(r.to hi).at k) Bw.up Bw.up) ?_;clear m; intro u m;refine aA (iZ rfl rfl (by rw [jD]; omega)) (aA (aD) (aC (k16 _ _ ?_)));refine eM rfl (wp_region_lit (aA (aB) ?_));simp only[ev,zD,zE,zF,zG];refine aA (nW rfl rfl (by omega)) (aA (aB) (aW rfl ?_));simp only[ev,zD,zE,zF,zG];refine aI rfl ((m.b 1 rfl).full aY aH) ?_;simp only[ev,zD,zE,zF,zG];refine aW rfl (bH m rfl rfl (i5 (a:=(r.to lo).at k) Bw.up) ?_);clear m; intro u m;refine aW rfl (aA (iZ rfl rfl (by rw [jD]; omega)) (aW rfl (aA (aB) (aW rfl ?_))));simp only[ev,zD,zE,zF,zG];refine aI rfl ((m.b 0 rfl).full aY aH) ?_;simp only[ev,zD,zE,zF,zG];refine aW rfl (bH m rfl rfl (i5 (a:=(r.to hi).at k) Bw.up) ?_);clear m; intro u m;refine aW rfl (aA (eW rfl rfl (by have:=Dq (n:=(r.to hi).at k); omega)) (aW rfl (aA (cU rfl) (aA (cQ rfl) ?_))));simp only[ev,zD,zE,zF,zG];refine aA (aD) (aC (k15 _ _ ?_));refine eM rfl (aF fun K20 k20=>wp_region_lit (aA (aB) (aA (nW rfl rfl (by omega)) (aA (aD) ?_))));simp only[ev,zD,zE,zF,zG];refine aC (k20 _ _ ?_);refine bS rfl (wp_exit (k11 _ _ ?_));refine wp_region_lit (aA (aX rfl rfl (aL (by omega) (by omega))) (aA (aB) (aC ?_)));simp only[ev,zD,zE,zF,zG];simp only[Exit.inBlock,Exit.then];refine ⟨kM,_,?_,rfl,?_,?_⟩
     · exact hlt
     · simp only[zQ,zR,zD,zE,aK,aQ,aM,aP,zF,zG]
     ·
      simp only[zQ,zR,zD,zE];exact ⟨kN,pE,oE,_,rfl,(m.sel [false,false,true,true,true,true,true,true,true,true,true]),by first | exact hgo | (rw [hmx,hmn] at hgo; exact hgo),by first | rfl | exact hbb,by first | exact hbF | exact hbp,by first | exact hbo | exact gN hbT,by show k + 1 ≤ 3; omega,by show 2 - k = 3 - (k + 1); omega⟩
    ·
     have hoff : ¬ iY ((r.to lo).at k) ((r.to hi).at k) (r.d.at k):=by unfold iY; omega
     have hgo:=Mg (k:=k) ha hoff (show ¬ r.d.at k = 0 by omega);rw [show Ch r ((r.to lo).at k) ((r.to hi).at k) (r.d.at k) = Rat.divInt ((r.to hi).at k) (r.w * (r.d.at k)) from if_pos (show  r.d.at k < 0 by omega),show Ci r ((r.to lo).at k) ((r.to hi).at k) (r.d.at k) = Rat.divInt ((r.to lo).at k) (r.w * (r.d.at k)) from if_pos (show  r.d.at k < 0 by omega)] at hgo;dsimp only at hgo;have hbF : Bq 400000 (Rat.divInt ((r.to hi).at k) (r.w * (r.d.at k))):=uO Bw.h Bw.h (by omega) hok;have hbT : Bq 400000 (Rat.divInt ((r.to lo).at k) (r.w * (r.d.at k))):=uO Bw.h Bw.h (by omega) hok;refine wp_region_lit (aI rfl ((m.b 1 rfl).full aY aH) ?_);simp only[ev,zD,zE,zF,zG];refine aI rfl ((m.b 0 rfl).full aY aH) ?_;simp only[ev,zD,zE,zF,zG];refine bH m rfl rfl (wM (a:=(r.to lo).at k) (b:=(r.to hi).at k) Bw.up Bw.up) ?_;clear m; intro u m;refine aA (iZ rfl rfl (by rw [jD]; omega)) (aA (aD) (aC (k16 _ _ ?_)));refine eM rfl (wp_region_lit (aA (aB) ?_));simp only[ev,zD,zE,zF,zG];refine aA (nX rfl rfl (by omega)) (aA (aB) (bD rfl (bD rfl ?_)));simp only[ev,zD,zE,zF,zG];refine bD rfl (bD rfl (eC rfl (eC rfl ?_)));simp only[ev,zD,zE,zF,zG];refine eC rfl (bD rfl (aA (cU rfl) (aA (aD) ?_)));simp only[ev,zD,zE,zF,zG];refine aC (k15 _ _ ?_);refine eM rfl (aF fun K21 k21=>wp_region_lit (aA (aB) (aA (nX rfl rfl (by omega)) (aA (aD) (aC (k21 _ _ ?_))))));refine eM rfl (aF fun K22 k22=>wp_region_lit (aA (aB) ?_));simp only[ev,zD,zE,zF,zG];refine aA (bR rfl rfl (by omega)) (aA (aD) (aC (k22 _ _ ?_)));refine bS rfl (wp_region_lit ?_);simp only[ev,zD,zE,zF,zG];refine aI rfl ((m.b 0 rfl).full aY aH) ?_;simp only[ev,zD,zE,zF,zG];refine aI rfl ((m.b 1 rfl).full aY aH) ?_;simp only[ev,zD,zE,zF,zG];refine aV m 1 rfl rfl rfl aH (b9 rfl) rfl ?_;clear m; intro u m; simp only[a8,zH,zI,zJ,zK,zL,zM,zN,zO,zP,zF,zG,Nat.reduceAdd] at m;refine aV m 0 rfl rfl rfl aH (b9 rfl) rfl ?_;clear m; intro u m; simp only[a8,zH,zI,zJ,zK,zL,zM,zN,zO,zP,zF,zG,Nat.reduceAdd] at m;refine aC (k14 _ _ ?_);refine aF fun K23 k23=>?_;refine eV 5 [0,1,2,3] [⟨4,18,35,[.bool false,.string ⟨#[]⟩]⟩] aU (by kernel_rfl) (Wm ⟨_,_,_,rfl,by kernel_rfl,_,cV,rfl⟩) (ol:=?_) ?hol ?_
     case hol=>simp only[zQ,zR,zS,zT,zU,zV]; try rfl
     intro u e; replace m:=m.ext' e; clear e;refine eT rfl (fun u e=>(((m.ext' e).b 4 rfl).full aY aH)) ?_;simp only[ev,zD,zE,zF,zG];refine iE (aB) ?_;simp only[ev,zD,zE,zF,zG];refine fU rfl rfl (i6 Iw.h) ?_;simp only[ev,zD,zE,zF,zG];refine fU rfl rfl (gY (a:=r.w) (b:=r.d.at k) Bw.up Bw.up) (sI ?_);simp only[ev,zD,zE,zF,zG];refine Wu m ?_;clear m; intro g12 u m;simp only[zJ,zK,zF,zG];refine aV m 0 rfl rfl rfl aH (b9 rfl) rfl ?_;clear m; intro u m; simp only[a8,zH,zI,zJ,zK,zL,zM,zN,zO,zP,zF,zG,Nat.reduceAdd] at m;refine aC (k23 _ _ ?_);refine aF fun K24 k24=>?_;refine eV 8 [0,1,2,3,4,5] [⟨6,19,37,[.bool false,.string ⟨#[]⟩,.bool false,.string ⟨#[]⟩]⟩,⟨7,20,37,[.bool false,.string ⟨#[]⟩,.bool false,.string ⟨#[]⟩]⟩] aU (by kernel_rfl) (Tp ⟨_,_,_,rfl,by kernel_rfl,_,fJ,rfl⟩ ⟨_,_,_,rfl,by kernel_rfl,_,fJ,rfl⟩) (ol:=?_) ?hol ?_
     case hol=>simp only[zQ,zR,zS,zT,zU,zV]; try rfl
     intro u e; replace m:=m.ext' e; clear e;refine eT rfl (fun u e=>(((m.ext' e).b 2 rfl).full aY aH)) ?_;simp only[ev,zD,zE,zF,zG];refine eT rfl (fun u e=>(((m.ext' e).b 0 rfl).full aY aH)) ?_;simp only[ev,zD,zE,zF,zG];refine fU rfl rfl (jS (n:=((r.to hi).at k)) (d:=r.w * (r.d.at k)) Bw.up Bw.up (Pb hok (by omega))) ?_;simp only[ev,zD,zE,zF,zG];refine eT rfl (fun u e=>(((m.ext' e).b 1 rfl).full aY aH)) ?_;simp only[ev,zD,zE,zF,zG];refine eT rfl (fun u e=>(((m.ext' e).b 0 rfl).full aY aH)) ?_;simp only[ev,zD,zE,zF,zG];refine fU rfl rfl (jS (n:=((r.to lo).at k)) (d:=r.w * (r.d.at k)) Bw.up Bw.up (Pb hok (by omega))) (sI ?_);simp only[ev,zD,zE,zF,zG];refine Vp m (by decide) ?_;clear m; intro g13 g14 u m;simp only[zJ,zK,zF,zG];refine aV m 1 rfl rfl rfl aS (b9 rfl) rfl ?_;clear m; intro u m; simp only[a8,zH,zI,zJ,zK,zL,zM,zN,zO,zP,zF,zG,Nat.reduceAdd] at m;refine aV m 0 rfl rfl rfl aS (b9 rfl) rfl ?_;clear m; intro u m; simp only[a8,zH,zI,zJ,zK,zL,zM,zN,zO,zP,zF,zG,Nat.reduceAdd] at m;refine aC (k24 _ _ ?_);refine aF fun K25 k25=>aF fun K26 k26=>wp_region_lit (aI rfl ((m.b 1 rfl).full bG aS) ?_);simp only[ev,zD,zE,zF,zG];refine aI rfl ((m.b 10 rfl).full bG aS) ?_;simp only[ev,zD,zE,zF,zG];refine bH m rfl rfl (gV (p:=Rat.divInt ((r.to hi).at k) (r.w * (r.d.at k))) (q:=p) hbF hbp) ?_;clear m; intro u m;refine aA (gJ rfl rfl) (aC (k26 _ _ ?_));simp only[ev,zD,zE,zF,zG];refine cK rfl (fun hc7=>?_) (fun hc7=>?_)
     ·
      have hmx : yB p (Rat.divInt ((r.to hi).at k) (r.w * (r.d.at k))) = Rat.divInt ((r.to hi).at k) (r.w * (r.d.at k)):=if_pos (p3.1 hc7)
      let pE : Rat:=Rat.divInt ((r.to hi).at k) (r.w * (r.d.at k))
      refine wp_region_lit (aI rfl ((m.b 1 rfl).full bG aS) ?_);simp only[ev,zD,zE,zF,zG];refine aV m 10 rfl rfl rfl aS (b9 rfl) rfl ?_;clear m; intro u m; simp only[a8,zH,zI,zJ,zK,zL,zM,zN,zO,zP,zF,zG,Nat.reduceAdd] at m;refine aC (k25 _ _ ?_);refine aF fun K27 k27=>?_;rcases o with _ | q
      ·
       obtain rfl : bb = false:=hbb;simp only[xC] at m;have hmn : oT none (Rat.divInt ((r.to lo).at k) (r.w * (r.d.at k))) = Rat.divInt ((r.to lo).at k) (r.w * (r.d.at k)):=rfl
       let oE : Option Rat:=some (Rat.divInt ((r.to lo).at k) (r.w * (r.d.at k)))
       refine wp_region_lit (aA (aB) (aA (gX rfl) (aA (aB) (bW rfl ?_))));simp only[ev,zD,zE,zF,zG];refine bW rfl (bW rfl (bW rfl (aA (cQ rfl) ?_)));simp only[ev,zD,zE,zF,zG];refine aC (k27 _ _ ?_);refine bS rfl (wp_region_lit (aI rfl ((m.b 0 rfl).full bG aS) ?_));simp only[ev,zD,zE,zF,zG];refine aV m 9 rfl rfl rfl aS (b9 rfl) rfl ?_;clear m; intro u m; simp only[a8,zH,zI,zJ,zK,zL,zM,zN,zO,zP,zF,zG,Nat.reduceAdd] at m;refine aA (aD) (aC (k11 _ _ ?_));refine wp_region_lit ?_;simp only[ev,zD,zE,zF,zG];refine aA (aX rfl rfl (aL (by omega) (by omega))) (aA (aB) (aC ?_));simp only[ev,zD,zE,zF,zG];simp only[Exit.inBlock,Exit.then];refine ⟨kM,_,?_,rfl,?_,?_⟩
       · exact hlt
       · simp only[zQ,zR,zD,zE,aK,aQ,aM,aP,zF,zG]
       ·
        simp only[zQ,zR,zD,zE];exact ⟨kN,pE,oE,_,rfl,(m.sel [false,false,false,false,false,true,true,true,true,true,true,true,true,true]),by first | exact hgo | (rw [hmx,hmn] at hgo; exact hgo),by first | rfl | exact hbb,by first | exact hbF | exact hbp,by first | exact hbo | exact gN hbT,by show k + 1 ≤ 3; omega,by show 2 - k = 3 - (k + 1); omega⟩
      ·
       obtain rfl : bb = true:=hbb;simp only[xC] at m;refine wp_region_lit (aA (aB) (aA (gX rfl) (aA (aB) (aW rfl ?_))));simp only[ev,zD,zE,zF,zG];refine aI rfl ((m.b 0 rfl).full bG aS) ?_;simp only[ev,zD,zE,zF,zG];refine aW rfl (aI rfl ((m.b 9 rfl).full bG aS) ?_);simp only[ev,zD,zE,zF,zG];refine aW rfl (bH m rfl rfl (gV (p:=Rat.divInt ((r.to lo).at k) (r.w * (r.d.at k))) (q:=q) hbT (hbo q rfl)) ?_);clear m; intro u m;refine aW rfl (aA (dS rfl rfl) (aA (cU rfl) (aC (k27 _ _ ?_))));simp only[ev,zD,zE,zF,zG];refine cK rfl (fun hc8=>?_) (fun hc8=>?_)
       ·
        have hmn : oT (some q) (Rat.divInt ((r.to lo).at k) (r.w * (r.d.at k))) = Rat.divInt ((r.to lo).at k) (r.w * (r.d.at k)):=if_pos (gU.1 hc8)
        let oE : Option Rat:=some (Rat.divInt ((r.to lo).at k) (r.w * (r.d.at k)))
        refine wp_region_lit (aI rfl ((m.b 0 rfl).full bG aS) ?_);simp only[ev,zD,zE,zF,zG];refine aV m 9 rfl rfl rfl aS (b9 rfl) rfl ?_;clear m; intro u m; simp only[a8,zH,zI,zJ,zK,zL,zM,zN,zO,zP,zF,zG,Nat.reduceAdd] at m;refine aA (aD) (aC (k11 _ _ ?_));refine wp_region_lit ?_;simp only[ev,zD,zE,zF,zG];refine aA (aX rfl rfl (aL (by omega) (by omega))) (aA (aB) (aC ?_));simp only[ev,zD,zE,zF,zG];simp only[Exit.inBlock,Exit.then];refine ⟨kM,_,?_,rfl,?_,?_⟩
        · exact hlt
        · simp only[zQ,zR,zD,zE,aK,aQ,aM,aP,zF,zG]
        ·
         simp only[zQ,zR,zD,zE];exact ⟨kN,pE,oE,_,rfl,(m.sel [false,false,false,false,false,true,true,true,true,true,true,true,true,true]),by first | exact hgo | (rw [hmx,hmn] at hgo; exact hgo),by first | rfl | exact hbb,by first | exact hbF | exact hbp,by first | exact hbo | exact gN hbT,by show k + 1 ≤ 3; omega,by show 2 - k = 3 - (k + 1); omega⟩
       ·
        have hmn : oT (some q) (Rat.divInt ((r.to lo).at k) (r.w * (r.d.at k))) = q:=if_neg (mt gU.2 hc8)
        let oE : Option Rat:=some q
        refine wp_skip (k11 _ _ ?_);refine wp_region_lit (aA (aX rfl rfl (aL (by omega) (by omega))) (aA (aB) (aC ?_)));simp only[ev,zD,zE,zF,zG];simp only[Exit.inBlock,Exit.then];refine ⟨kM,_,?_,rfl,?_,?_⟩
        · exact hlt
        · simp only[zQ,zR,zD,zE,aK,aQ,aM,aP,zF,zG]
        ·
         simp only[zQ,zR,zD,zE];exact ⟨kN,pE,oE,_,rfl,(m.sel [false,false,false,false,false,true,true,true,true,true,true,true,true,true]),by first | exact hgo | (rw [hmx,hmn] at hgo; exact hgo),by first | rfl | exact hbb,by first | exact hbF | exact hbp,by first | exact hbo | exact gN hbT,by show k + 1 ≤ 3; omega,by show 2 - k = 3 - (k + 1); omega⟩
     ·
      have hmx : yB p (Rat.divInt ((r.to hi).at k) (r.w * (r.d.at k))) = p:=if_neg (mt p3.2 hc7)
      let pE : Rat:=p
      refine wp_skip (k25 _ _ ?_);refine aF fun K28 k28=>?_;rcases o with _ | q
      ·
       obtain rfl : bb = false:=hbb;simp only[xC] at m;have hmn : oT none (Rat.divInt ((r.to lo).at k) (r.w * (r.d.at k))) = Rat.divInt ((r.to lo).at k) (r.w * (r.d.at k)):=rfl
       let oE : Option Rat:=some (Rat.divInt ((r.to lo).at k) (r.w * (r.d.at k)))
       refine wp_region_lit (aA (aB) (aA (gX rfl) (aA (aB) (bW rfl ?_))));simp only[ev,zD,zE,zF,zG];refine bW rfl (bW rfl (bW rfl (aA (cQ rfl) ?_)));simp only[ev,zD,zE,zF,zG];refine aC (k28 _ _ ?_);refine bS rfl (wp_region_lit (aI rfl ((m.b 0 rfl).full bG aS) ?_));simp only[ev,zD,zE,zF,zG];refine aV m 9 rfl rfl rfl aS (b9 rfl) rfl ?_;clear m; intro u m; simp only[a8,zH,zI,zJ,zK,zL,zM,zN,zO,zP,zF,zG,Nat.reduceAdd] at m;refine aA (aD) (aC (k11 _ _ ?_));refine wp_region_lit ?_;simp only[ev,zD,zE,zF,zG];refine aA (aX rfl rfl (aL (by omega) (by omega))) (aA (aB) (aC ?_));simp only[ev,zD,zE,zF,zG];simp only[Exit.inBlock,Exit.then];refine ⟨kM,_,?_,rfl,?_,?_⟩
       · exact hlt
       · simp only[zQ,zR,zD,zE,aK,aQ,aM,aP,zF,zG]
       ·
        simp only[zQ,zR,zD,zE];exact ⟨kN,pE,oE,_,rfl,(m.sel [false,false,false,false,false,true,true,true,true,true,true,true,true,true]),by first | exact hgo | (rw [hmx,hmn] at hgo; exact hgo),by first | rfl | exact hbb,by first | exact hbF | exact hbp,by first | exact hbo | exact gN hbT,by show k + 1 ≤ 3; omega,by show 2 - k = 3 - (k + 1); omega⟩
      ·
       obtain rfl : bb = true:=hbb;simp only[xC] at m;refine wp_region_lit (aA (aB) (aA (gX rfl) (aA (aB) (aW rfl ?_))));simp only[ev,zD,zE,zF,zG];refine aI rfl ((m.b 0 rfl).full bG aS) ?_;simp only[ev,zD,zE,zF,zG];refine aW rfl (aI rfl ((m.b 9 rfl).full bG aS) ?_);simp only[ev,zD,zE,zF,zG];refine aW rfl (bH m rfl rfl (gV (p:=Rat.divInt ((r.to lo).at k) (r.w * (r.d.at k))) (q:=q) hbT (hbo q rfl)) ?_);clear m; intro u m;refine aW rfl (aA (dS rfl rfl) (aA (cU rfl) (aC (k28 _ _ ?_))));simp only[ev,zD,zE,zF,zG];refine cK rfl (fun hc8=>?_) (fun hc8=>?_)
       ·
        have hmn : oT (some q) (Rat.divInt ((r.to lo).at k) (r.w * (r.d.at k))) = Rat.divInt ((r.to lo).at k) (r.w * (r.d.at k)):=if_pos (gU.1 hc8)
        let oE : Option Rat:=some (Rat.divInt ((r.to lo).at k) (r.w * (r.d.at k)))
        refine wp_region_lit (aI rfl ((m.b 0 rfl).full bG aS) ?_);simp only[ev,zD,zE,zF,zG];refine aV m 9 rfl rfl rfl aS (b9 rfl) rfl ?_;clear m; intro u m; simp only[a8,zH,zI,zJ,zK,zL,zM,zN,zO,zP,zF,zG,Nat.reduceAdd] at m;refine aA (aD) (aC (k11 _ _ ?_));refine wp_region_lit ?_;simp only[ev,zD,zE,zF,zG];refine aA (aX rfl rfl (aL (by omega) (by omega))) (aA (aB) (aC ?_));simp only[ev,zD,zE,zF,zG];simp only[Exit.inBlock,Exit.then];refine ⟨kM,_,?_,rfl,?_,?_⟩
        · exact hlt
        · simp only[zQ,zR,zD,zE,aK,aQ,aM,aP,zF,zG]
        ·
         simp only[zQ,zR,zD,zE];exact ⟨kN,pE,oE,_,rfl,(m.sel [false,false,false,false,false,true,true,true,true,true,true,true,true,true]),by first | exact hgo | (rw [hmx,hmn] at hgo; exact hgo),by first | rfl | exact hbb,by first | exact hbF | exact hbp,by first | exact hbo | exact gN hbT,by show k + 1 ≤ 3; omega,by show 2 - k = 3 - (k + 1); omega⟩
       ·
        have hmn : oT (some q) (Rat.divInt ((r.to lo).at k) (r.w * (r.d.at k))) = q:=if_neg (mt gU.2 hc8)
        let oE : Option Rat:=some q
        refine wp_skip (k11 _ _ ?_);refine wp_region_lit (aA (aX rfl rfl (aL (by omega) (by omega))) (aA (aB) (aC ?_)));simp only[ev,zD,zE,zF,zG];simp only[Exit.inBlock,Exit.then];refine ⟨kM,_,?_,rfl,?_,?_⟩
        · exact hlt
        · simp only[zQ,zR,zD,zE,aK,aQ,aM,aP,zF,zG]
        ·
         simp only[zQ,zR,zD,zE];exact ⟨kN,pE,oE,_,rfl,(m.sel [false,false,false,false,false,true,true,true,true,true,true,true,true,true]),by first | exact hgo | (rw [hmx,hmn] at hgo; exact hgo),by first | rfl | exact hbb,by first | exact hbF | exact hbp,by first | exact hbo | exact gN hbT,by show k + 1 ≤ 3; omega,by show 2 - k = 3 - (k + 1); omega⟩
    ·
     have hoff : ¬ iY ((r.to lo).at k) ((r.to hi).at k) (r.d.at k):=by unfold iY; omega
     have hgo:=Mg (k:=k) ha hoff (show ¬ r.d.at k = 0 by omega);rw [show Ch r ((r.to lo).at k) ((r.to hi).at k) (r.d.at k) = Rat.divInt ((r.to lo).at k) (r.w * (r.d.at k)) from if_neg (show ¬ r.d.at k < 0 by omega),show Ci r ((r.to lo).at k) ((r.to hi).at k) (r.d.at k) = Rat.divInt ((r.to hi).at k) (r.w * (r.d.at k)) from if_neg (show ¬ r.d.at k < 0 by omega)] at hgo;dsimp only at hgo;have hbF : Bq 400000 (Rat.divInt ((r.to lo).at k) (r.w * (r.d.at k))):=uO Bw.h Bw.h (by omega) hok;have hbT : Bq 400000 (Rat.divInt ((r.to hi).at k) (r.w * (r.d.at k))):=uO Bw.h Bw.h (by omega) hok;refine wp_region_lit (aI rfl ((m.b 1 rfl).full aY aH) ?_);simp only[ev,zD,zE,zF,zG];refine aI rfl ((m.b 0 rfl).full aY aH) ?_;simp only[ev,zD,zE,zF,zG];refine bH m rfl rfl (wM (a:=(r.to lo).at k) (b:=(r.to hi).at k) Bw.up Bw.up) ?_;clear m; intro u m;refine aA (iZ rfl rfl (by rw [jD]; omega)) (aA (aD) (aC (k16 _ _ ?_)));refine eM rfl (wp_region_lit (aA (aB) ?_));simp only[ev,zD,zE,zF,zG];refine aA (nX rfl rfl (by omega)) (aA (aB) (bD rfl (bD rfl ?_)));simp only[ev,zD,zE,zF,zG];refine bD rfl (bD rfl (eC rfl (eC rfl ?_)));simp only[ev,zD,zE,zF,zG];refine eC rfl (bD rfl (aA (cU rfl) (aA (aD) ?_)));simp only[ev,zD,zE,zF,zG];refine aC (k15 _ _ ?_);refine eM rfl (aF fun K29 k29=>wp_region_lit (aA (aB) (aA (nX rfl rfl (by omega)) (aA (aD) (aC (k29 _ _ ?_))))));refine eM rfl (aF fun K30 k30=>wp_region_lit (aA (aB) ?_));simp only[ev,zD,zE,zF,zG];refine aA (eW rfl rfl (by omega)) (aA (aD) (aC (k30 _ _ ?_)));refine eM rfl (wp_skip (k14 _ _ ?_));refine aF fun K31 k31=>?_;simp only[ev,zD,zE,zF,zG];refine eV 5 [0,1,2,3] [⟨4,18,35,[.bool false,.string ⟨#[]⟩]⟩] aU (by kernel_rfl) (Wm ⟨_,_,_,rfl,by kernel_rfl,_,cV,rfl⟩) (ol:=?_) ?hol ?_
     case hol=>simp only[zQ,zR,zS,zT,zU,zV]; try rfl
     intro u e; replace m:=m.ext' e; clear e;refine eT rfl (fun u e=>(((m.ext' e).b 4 rfl).full aY aH)) ?_;simp only[ev,zD,zE,zF,zG];refine iE (aB) ?_;simp only[ev,zD,zE,zF,zG];refine fU rfl rfl (i6 Iw.h) ?_;simp only[ev,zD,zE,zF,zG];refine fU rfl rfl (gY (a:=r.w) (b:=r.d.at k) Bw.up Bw.up) (sI ?_);simp only[ev,zD,zE,zF,zG];refine Wu m ?_;clear m; intro g12 u m;simp only[zJ,zK,zF,zG];refine aV m 0 rfl rfl rfl aH (b9 rfl) rfl ?_;clear m; intro u m; simp only[a8,zH,zI,zJ,zK,zL,zM,zN,zO,zP,zF,zG,Nat.reduceAdd] at m;refine aC (k31 _ _ ?_);refine aF fun K32 k32=>?_;refine eV 8 [0,1,2,3,4,5] [⟨6,19,37,[.bool false,.string ⟨#[]⟩,.bool false,.string ⟨#[]⟩]⟩,⟨7,20,37,[.bool false,.string ⟨#[]⟩,.bool false,.string ⟨#[]⟩]⟩] aU (by kernel_rfl) (Tp ⟨_,_,_,rfl,by kernel_rfl,_,fJ,rfl⟩ ⟨_,_,_,rfl,by kernel_rfl,_,fJ,rfl⟩) (ol:=?_) ?hol ?_
     case hol=>simp only[zQ,zR,zS,zT,zU,zV]; try rfl
     intro u e; replace m:=m.ext' e; clear e;refine eT rfl (fun u e=>(((m.ext' e).b 2 rfl).full aY aH)) ?_;simp only[ev,zD,zE,zF,zG];refine eT rfl (fun u e=>(((m.ext' e).b 0 rfl).full aY aH)) ?_;simp only[ev,zD,zE,zF,zG];refine fU rfl rfl (jS (n:=((r.to lo).at k)) (d:=r.w * (r.d.at k)) Bw.up Bw.up (Pb hok (by omega))) ?_;simp only[ev,zD,zE,zF,zG];refine eT rfl (fun u e=>(((m.ext' e).b 1 rfl).full aY aH)) ?_;simp only[ev,zD,zE,zF,zG];refine eT rfl (fun u e=>(((m.ext' e).b 0 rfl).full aY aH)) ?_;simp only[ev,zD,zE,zF,zG];refine fU rfl rfl (jS (n:=((r.to hi).at k)) (d:=r.w * (r.d.at k)) Bw.up Bw.up (Pb hok (by omega))) (sI ?_);simp only[ev,zD,zE,zF,zG];refine Vp m (by decide) ?_;clear m; intro g13 g14 u m;simp only[zJ,zK,zF,zG];refine aV m 1 rfl rfl rfl aS (b9 rfl) rfl ?_;clear m; intro u m; simp only[a8,zH,zI,zJ,zK,zL,zM,zN,zO,zP,zF,zG,Nat.reduceAdd] at m;refine aV m 0 rfl rfl rfl aS (b9 rfl) rfl ?_;clear m; intro u m; simp only[a8,zH,zI,zJ,zK,zL,zM,zN,zO,zP,zF,zG,Nat.reduceAdd] at m;refine aC (k32 _ _ ?_);refine aF fun K33 k33=>aF fun K34 k34=>wp_region_lit (aI rfl ((m.b 1 rfl).full bG aS) ?_);simp only[ev,zD,zE,zF,zG];refine aI rfl ((m.b 10 rfl).full bG aS) ?_;simp only[ev,zD,zE,zF,zG];refine bH m rfl rfl (gV (p:=Rat.divInt ((r.to lo).at k) (r.w * (r.d.at k))) (q:=p) hbF hbp) ?_;clear m; intro u m;refine aA (gJ rfl rfl) (aC (k34 _ _ ?_));simp only[ev,zD,zE,zF,zG];refine cK rfl (fun hc7=>?_) (fun hc7=>?_)
     ·
      have hmx : yB p (Rat.divInt ((r.to lo).at k) (r.w * (r.d.at k))) = Rat.divInt ((r.to lo).at k) (r.w * (r.d.at k)):=if_pos (p3.1 hc7)
      let pE : Rat:=Rat.divInt ((r.to lo).at k) (r.w * (r.d.at k))
      refine wp_region_lit (aI rfl ((m.b 1 rfl).full bG aS) ?_);simp only[ev,zD,zE,zF,zG];refine aV m 10 rfl rfl rfl aS (b9 rfl) rfl ?_;clear m; intro u m; simp only[a8,zH,zI,zJ,zK,zL,zM,zN,zO,zP,zF,zG,Nat.reduceAdd] at m;refine aC (k33 _ _ ?_);refine aF fun K35 k35=>?_;rcases o with _ | q
      ·
       obtain rfl : bb = false:=hbb;simp only[xC] at m;have hmn : oT none (Rat.divInt ((r.to hi).at k) (r.w * (r.d.at k))) = Rat.divInt ((r.to hi).at k) (r.w * (r.d.at k)):=rfl
       let oE : Option Rat:=some (Rat.divInt ((r.to hi).at k) (r.w * (r.d.at k)))
       refine wp_region_lit (aA (aB) (aA (gX rfl) (aA (aB) (bW rfl ?_))));simp only[ev,zD,zE,zF,zG];refine bW rfl (bW rfl (bW rfl (aA (cQ rfl) ?_)));simp only[ev,zD,zE,zF,zG];refine aC (k35 _ _ ?_);refine bS rfl (wp_region_lit (aI rfl ((m.b 0 rfl).full bG aS) ?_));simp only[ev,zD,zE,zF,zG];refine aV m 9 rfl rfl rfl aS (b9 rfl) rfl ?_;clear m; intro u m; simp only[a8,zH,zI,zJ,zK,zL,zM,zN,zO,zP,zF,zG,Nat.reduceAdd] at m;refine aA (aD) (aC (k11 _ _ ?_));refine wp_region_lit ?_;simp only[ev,zD,zE,zF,zG];refine aA (aX rfl rfl (aL (by omega) (by omega))) (aA (aB) (aC ?_));simp only[ev,zD,zE,zF,zG];simp only[Exit.inBlock,Exit.then];refine ⟨kM,_,?_,rfl,?_,?_⟩
       · exact hlt
       · simp only[zQ,zR,zD,zE,aK,aQ,aM,aP,zF,zG]
       ·
        simp only[zQ,zR,zD,zE];exact ⟨kN,pE,oE,_,rfl,(m.sel [false,false,false,false,false,true,true,true,true,true,true,true,true,true]),by first | exact hgo | (rw [hmx,hmn] at hgo; exact hgo),by first | rfl | exact hbb,by first | exact hbF | exact hbp,by first | exact hbo | exact gN hbT,by show k + 1 ≤ 3; omega,by show 2 - k = 3 - (k + 1); omega⟩
      ·
       obtain rfl : bb = true:=hbb;simp only[xC] at m;refine wp_region_lit (aA (aB) (aA (gX rfl) (aA (aB) (aW rfl ?_))));simp only[ev,zD,zE,zF,zG];refine aI rfl ((m.b 0 rfl).full bG aS) ?_;simp only[ev,zD,zE,zF,zG];refine aW rfl (aI rfl ((m.b 9 rfl).full bG aS) ?_);simp only[ev,zD,zE,zF,zG];refine aW rfl (bH m rfl rfl (gV (p:=Rat.divInt ((r.to hi).at k) (r.w * (r.d.at k))) (q:=q) hbT (hbo q rfl)) ?_);clear m; intro u m;refine aW rfl (aA (dS rfl rfl) (aA (cU rfl) (aC (k35 _ _ ?_))));simp only[ev,zD,zE,zF,zG];refine cK rfl (fun hc8=>?_) (fun hc8=>?_)
       ·
        have hmn : oT (some q) (Rat.divInt ((r.to hi).at k) (r.w * (r.d.at k))) = Rat.divInt ((r.to hi).at k) (r.w * (r.d.at k)):=if_pos (gU.1 hc8)
        let oE : Option Rat:=some (Rat.divInt ((r.to hi).at k) (r.w * (r.d.at k)))
        refine wp_region_lit (aI rfl ((m.b 0 rfl).full bG aS) ?_);simp only[ev,zD,zE,zF,zG];refine aV m 9 rfl rfl rfl aS (b9 rfl) rfl ?_;clear m; intro u m; simp only[a8,zH,zI,zJ,zK,zL,zM,zN,zO,zP,zF,zG,Nat.reduceAdd] at m;refine aA (aD) (aC (k11 _ _ ?_));refine wp_region_lit ?_;simp only[ev,zD,zE,zF,zG];refine aA (aX rfl rfl (aL (by omega) (by omega))) (aA (aB) (aC ?_));simp only[ev,zD,zE,zF,zG];simp only[Exit.inBlock,Exit.then];refine ⟨kM,_,?_,rfl,?_,?_⟩
        · exact hlt
        · simp only[zQ,zR,zD,zE,aK,aQ,aM,aP,zF,zG]
        ·
         simp only[zQ,zR,zD,zE];exact ⟨kN,pE,oE,_,rfl,(m.sel [false,false,false,false,false,true,true,true,true,true,true,true,true,true]),by first | exact hgo | (rw [hmx,hmn] at hgo; exact hgo),by first | rfl | exact hbb,by first | exact hbF | exact hbp,by first | exact hbo | exact gN hbT,by show k + 1 ≤ 3; omega,by show 2 - k = 3 - (k + 1); omega⟩
       ·
        have hmn : oT (some q) (Rat.divInt ((r.to hi).at k) (r.w * (r.d.at k))) = q:=if_neg (mt gU.2 hc8)
        let oE : Option Rat:=some q
        refine wp_skip (k11 _ _ ?_);refine wp_region_lit (aA (aX rfl rfl (aL (by omega) (by omega))) (aA (aB) (aC ?_)));simp only[ev,zD,zE,zF,zG];simp only[Exit.inBlock,Exit.then];refine ⟨kM,_,?_,rfl,?_,?_⟩
        · exact hlt
        · simp only[zQ,zR,zD,zE,aK,aQ,aM,aP,zF,zG]
        ·
         simp only[zQ,zR,zD,zE];exact ⟨kN,pE,oE,_,rfl,(m.sel [false,false,false,false,false,true,true,true,true,true,true,true,true,true]),by first | exact hgo | (rw [hmx,hmn] at hgo; exact hgo),by first | rfl | exact hbb,by first | exact hbF | exact hbp,by first | exact hbo | exact gN hbT,by show k + 1 ≤ 3; omega,by show 2 - k = 3 - (k + 1); omega⟩
     ·
      have hmx : yB p (Rat.divInt ((r.to lo).at k) (r.w * (r.d.at k))) = p:=if_neg (mt p3.2 hc7)
      let pE : Rat:=p
      refine wp_skip (k33 _ _ ?_);refine aF fun K36 k36=>?_;rcases o with _ | q
      ·
       obtain rfl : bb = false:=hbb;simp only[xC] at m;have hmn : oT none (Rat.divInt ((r.to hi).at k) (r.w * (r.d.at k))) = Rat.divInt ((r.to hi).at k) (r.w * (r.d.at k)):=rfl
       let oE : Option Rat:=some (Rat.divInt ((r.to hi).at k) (r.w * (r.d.at k)))
       refine wp_region_lit (aA (aB) (aA (gX rfl) (aA (aB) (bW rfl ?_))));simp only[ev,zD,zE,zF,zG];refine bW rfl (bW rfl (bW rfl (aA (cQ rfl) ?_)));simp only[ev,zD,zE,zF,zG];refine aC (k36 _ _ ?_);refine bS rfl (wp_region_lit (aI rfl ((m.b 0 rfl).full bG aS) ?_));simp only[ev,zD,zE,zF,zG];refine aV m 9 rfl rfl rfl aS (b9 rfl) rfl ?_;clear m; intro u m; simp only[a8,zH,zI,zJ,zK,zL,zM,zN,zO,zP,zF,zG,Nat.reduceAdd] at m;refine aA (aD) (aC (k11 _ _ ?_));refine wp_region_lit ?_;simp only[ev,zD,zE,zF,zG];refine aA (aX rfl rfl (aL (by omega) (by omega))) (aA (aB) (aC ?_));simp only[ev,zD,zE,zF,zG];simp only[Exit.inBlock,Exit.then];refine ⟨kM,_,?_,rfl,?_,?_⟩
       · exact hlt
       · simp only[zQ,zR,zD,zE,aK,aQ,aM,aP,zF,zG]
       ·
        simp only[zQ,zR,zD,zE];exact ⟨kN,pE,oE,_,rfl,(m.sel [false,false,false,false,false,true,true,true,true,true,true,true,true,true]),by first | exact hgo | (rw [hmx,hmn] at hgo; exact hgo),by first | rfl | exact hbb,by first | exact hbF | exact hbp,by first | exact hbo | exact gN hbT,by show k + 1 ≤ 3; omega,by show 2 - k = 3 - (k + 1); omega⟩
      ·
       obtain rfl : bb = true:=hbb;simp only[xC] at m;refine wp_region_lit (aA (aB) (aA (gX rfl) (aA (aB) (aW rfl ?_))));simp only[ev,zD,zE,zF,zG];refine aI rfl ((m.b 0 rfl).full bG aS) ?_;simp only[ev,zD,zE,zF,zG];refine aW rfl (aI rfl ((m.b 9 rfl).full bG aS) ?_);simp only[ev,zD,zE,zF,zG];refine aW rfl (bH m rfl rfl (gV (p:=Rat.divInt ((r.to hi).at k) (r.w * (r.d.at k))) (q:=q) hbT (hbo q rfl)) ?_);clear m; intro u m;refine aW rfl (aA (dS rfl rfl) (aA (cU rfl) (aC (k36 _ _ ?_))));simp only[ev,zD,zE,zF,zG];refine cK rfl (fun hc8=>?_) (fun hc8=>?_)
       ·
        have hmn : oT (some q) (Rat.divInt ((r.to hi).at k) (r.w * (r.d.at k))) = Rat.divInt ((r.to hi).at k) (r.w * (r.d.at k)):=if_pos (gU.1 hc8)
        let oE : Option Rat:=some (Rat.divInt ((r.to hi).at k) (r.w * (r.d.at k)))
        refine wp_region_lit (aI rfl ((m.b 0 rfl).full bG aS) ?_);simp only[ev,zD,zE,zF,zG];refine aV m 9 rfl rfl rfl aS (b9 rfl) rfl ?_;clear m; intro u m; simp only[a8,zH,zI,zJ,zK,zL,zM,zN,zO,zP,zF,zG,Nat.reduceAdd] at m;refine aA (aD) (aC (k11 _ _ ?_));refine wp_region_lit ?_;simp only[ev,zD,zE,zF,zG];refine aA (aX rfl rfl (aL (by omega) (by omega))) (aA (aB) (aC ?_));simp only[ev,zD,zE,zF,zG];simp only[Exit.inBlock,Exit.then];refine ⟨kM,_,?_,rfl,?_,?_⟩
        · exact hlt
        · simp only[zQ,zR,zD,zE,aK,aQ,aM,aP,zF,zG]
        ·
         simp only[zQ,zR,zD,zE];exact ⟨kN,pE,oE,_,rfl,(m.sel [false,false,false,false,false,true,true,true,true,true,true,true,true,true]),by first | exact hgo | (rw [hmx,hmn] at hgo; exact hgo),by first | rfl | exact hbb,by first | exact hbF | exact hbp,by first | exact hbo | exact gN hbT,by show k + 1 ≤ 3; omega,by show 2 - k = 3 - (k + 1); omega⟩
       ·
        have hmn : oT (some q) (Rat.divInt ((r.to hi).at k) (r.w * (r.d.at k))) = q:=if_neg (mt gU.2 hc8)
        let oE : Option Rat:=some q
        refine wp_skip (k11 _ _ ?_);refine wp_region_lit (aA (aX rfl rfl (aL (by omega) (by omega))) (aA (aB) (aC ?_)));simp only[ev,zD,zE,zF,zG];simp only[Exit.inBlock,Exit.then];refine ⟨kM,_,?_,rfl,?_,?_⟩
        · exact hlt
        · simp only[zQ,zR,zD,zE,aK,aQ,aM,aP,zF,zG]
        ·
         simp only[zQ,zR,zD,zE];exact ⟨kN,pE,oE,_,rfl,(m.sel [false,false,false,false,false,true,true,true,true,true,true,true,true,true]),by first | exact hgo | (rw [hmx,hmn] at hgo; exact hgo),by first | rfl | exact hbb,by first | exact hbF | exact hbp,by first | exact hbo | exact gN hbT,by show k + 1 ≤ 3; omega,by show 2 - k = 3 - (k + 1); omega⟩
   ·
    obtain rfl : k = 3:=by omega
    obtain ⟨q,hq⟩:=Pd hok ha;have hq : o = some q:=hq;subst hq;simp only[xC] at m;have hbx:=Pe hok ha;refine wp_exit (k7 _ _ ?_);refine aF fun K37 k37=>aF fun K38 k38=>wp_region_lit (aI rfl ((m.b 5 rfl).full bG aS) ?_);simp only[ev,zD,zE,zF,zG];refine aI rfl ((m.b 4 rfl).full bG aS) ?_;simp only[ev,zD,zE,zF,zG];refine bH m rfl rfl (gV (p:=p) (q:=q) hbp (hbo q rfl)) ?_;clear m; intro u m;refine aA (gJ rfl rfl) (aC (k38 _ _ ?_));simp only[ev,zD,zE,zF,zG];refine cK rfl (fun hc9=>?_) (fun hc9=>?_)
    ·
     rw [if_pos (p3.1 hc9)] at hbx;refine aF fun K39 k39=>wp_region_lit (bH m rfl rfl (eN) ?_);clear m; intro u m;simp only[ev,zD,zE,zF,zG];refine bH m rfl rfl (eN) ?_;clear m; intro u m;simp only[ev,zD,zE,zF,zG];refine aV m 5 rfl rfl rfl aS (b9 rfl) rfl ?_;clear m; intro u m; simp only[a8,zH,zI,zJ,zK,zL,zM,zN,zO,zP,zF,zG,Nat.reduceAdd] at m;refine aV m 4 rfl rfl rfl aS (b9 rfl) rfl ?_;clear m; intro u m; simp only[a8,zH,zI,zJ,zK,zL,zM,zN,zO,zP,zF,zG,Nat.reduceAdd] at m;refine aA (aD) (aC (k39 _ _ ?_));refine wp_ret ?_;simp only[ev,zD,zE,zF,zG];try simp only[Exit.inBlock,Exit.then,if_true]
     refine uU rfl ⟨_,rfl,((m.b 5 rfl).full bG aS)⟩ ⟨_,rfl,((m.b 4 rfl).full bG aS)⟩ rfl ?_;try simp only[zD,zE]
     exact ⟨_,rfl,m.ext,by rw [hbx]; rfl⟩
    ·
     rw [if_neg (mt p3.2 hc9)] at hbx;refine wp_skip (k37 _ _ ?_);refine aF fun K40 k40=>?_;refine qL m [true,true,true,true,false,false,true,true,true] (.two 0 (.two 1 (.one 2 (.one 3 (.take 4 .nil))) 2 (.one 1 (.one 3 (.take 4 .nil)))) 1 (.one 0 (.one 2 (.one 3 (.take 4 .nil))))) aU (by kernel_rfl) (dN (fun _ _ _ _ _ h=>h)) ?_;clear m; intro u m;refine jZ (by simp only[zS,zT,zU,zV]; rfl) (by simp only[zS,zT,zU,zV]; rfl) ?_ ?_
     ·
      refine aI rfl ((m.b 5 rfl).full bG aS) ?_;simp only[ev,zD,zE,zF,zG];refine aC ?_;refine ⟨m.sel [true,true,true,true,false,false,true,true,true],?_⟩;refine jZ (by simp only[zS,zT,zU,zV]; rfl) (by simp only[zS,zT,zU,zV]; rfl) ?_ ?_
      ·
       refine aI rfl ((m.b 4 rfl).full bG aS) ?_;simp only[ev,zD,zE,zF,zG];refine aC ?_;refine ⟨m.sel [true,true,true,true,false,false,true,true,true],?_⟩;refine bY (by simp only[zS,zT,zU,zV]; rfl) (aV m 5 rfl rfl rfl aS (b9 rfl) rfl ?_);clear m; intro u m; simp only[a8,zH,zI,zJ,zK,zL,zM,zN,zO,zP,zF,zG,Nat.reduceAdd] at m;refine aC ?_;refine ⟨m.sel [true,true,true,true,false,false,true,true,true],?_⟩;refine bY (by simp only[zS,zT,zU,zV]; rfl) (aV m 4 rfl rfl rfl aS (b9 rfl) rfl ?_);clear m; intro u m; simp only[a8,zH,zI,zJ,zK,zL,zM,zN,zO,zP,zF,zG,Nat.reduceAdd] at m;refine aC ?_;refine ⟨m.sel [true,true,true,true,false,false,true,true,true],?_⟩;refine cN (by simp only[zS,zT,zU,zV]; rfl) (bQ (aD) (cZ (gM (k40 _ _ ?_))));refine wp_ret ?_;simp only[ev,zD,zE,zF,zG];try simp only[Exit.inBlock,Exit.then,if_true]
       refine uU rfl ⟨_,rfl,((m.b 5 rfl).full bG aS)⟩ ⟨_,rfl,((m.b 4 rfl).full bG aS)⟩ rfl ?_;try simp only[zD,zE]
       exact ⟨_,rfl,m.ext,by rw [hbx]; rfl⟩
      ·
       refine aV m 5 rfl rfl rfl aS (b9 rfl) rfl ?_;clear m; intro u m; simp only[a8,zH,zI,zJ,zK,zL,zM,zN,zO,zP,zF,zG,Nat.reduceAdd] at m;refine aC ?_;refine ⟨m.sel [true,true,true,true,false,false,true,true,true],?_⟩;refine bY (by simp only[zS,zT,zU,zV]; rfl) (aI rfl ((m.b 4 rfl).full bG aS) ?_);simp only[ev,zD,zE,zF,zG];refine aC ?_;refine ⟨m.sel [true,true,true,true,false,false,true,true,true],?_⟩;refine bY (by simp only[zS,zT,zU,zV]; rfl) (aV m 4 rfl rfl rfl aS (b9 rfl) rfl ?_);clear m; intro u m; simp only[a8,zH,zI,zJ,zK,zL,zM,zN,zO,zP,zF,zG,Nat.reduceAdd] at m;refine aC ?_;refine ⟨m.sel [true,true,true,true,false,false,true,true,true],?_⟩;refine cN (by simp only[zS,zT,zU,zV]; rfl) (bQ (aD) (cZ (gM (k40 _ _ ?_))));refine wp_ret ?_;simp only[ev,zD,zE,zF,zG];try simp only[Exit.inBlock,Exit.then,if_true]
       refine uU rfl ⟨_,rfl,((m.b 5 rfl).full bG aS)⟩ ⟨_,rfl,((m.b 4 rfl).full bG aS)⟩ rfl ?_;try simp only[zD,zE]
       exact ⟨_,rfl,m.ext,by rw [hbx]; rfl⟩
     ·
      refine aI rfl ((m.b 4 rfl).full bG aS) ?_;simp only[ev,zD,zE,zF,zG];refine aC ?_;refine ⟨m.sel [true,true,true,true,false,false,true,true,true],?_⟩;refine bY (by simp only[zS,zT,zU,zV]; rfl) (aI rfl ((m.b 5 rfl).full bG aS) ?_);simp only[ev,zD,zE,zF,zG];refine aC ?_;refine ⟨m.sel [true,true,true,true,false,false,true,true,true],?_⟩;refine bY (by simp only[zS,zT,zU,zV]; rfl) (aV m 5 rfl rfl rfl aS (b9 rfl) rfl ?_);clear m; intro u m; simp only[a8,zH,zI,zJ,zK,zL,zM,zN,zO,zP,zF,zG,Nat.reduceAdd] at m;refine aC ?_;refine ⟨m.sel [true,true,true,true,false,false,true,true,true],?_⟩;refine bY (by simp only[zS,zT,zU,zV]; rfl) (aV m 4 rfl rfl rfl aS (b9 rfl) rfl ?_);clear m; intro u m; simp only[a8,zH,zI,zJ,zK,zL,zM,zN,zO,zP,zF,zG,Nat.reduceAdd] at m;refine aC ?_;refine ⟨m.sel [true,true,true,true,false,false,true,true,true],?_⟩;refine cN (by simp only[zS,zT,zU,zV]; rfl) (bQ (aD) (cZ (gM (k40 _ _ ?_))));refine wp_ret ?_;simp only[ev,zD,zE,zF,zG];try simp only[Exit.inBlock,Exit.then,if_true]
      refine uU rfl ⟨_,rfl,((m.b 5 rfl).full bG aS)⟩ ⟨_,rfl,((m.b 4 rfl).full bG aS)⟩ rfl ?_;try simp only[zD,zE]
      exact ⟨_,rfl,m.ext,by rw [hbx]; rfl⟩
 ·
  have hbx : mL r lo hi = none:=if_neg hok;refine wp_region_lit (aI rfl ((m.b 4 rfl).full iN eE) ?_);simp only[ev,zD,zE,zF,zG];refine bH m rfl rfl (xB hok) ?_;clear m; intro u m;refine aA (gX rfl) (aC (k3 _ _ ?_));refine bS rfl (aF fun K41 k41=>wp_region_lit ?_);simp only[ev,zD,zE,zF,zG];refine bH m rfl rfl (eN) ?_;clear m; intro u m;simp only[ev,zD,zE,zF,zG];refine bH m rfl rfl (eN) ?_;clear m; intro u m;simp only[ev,zD,zE,zF,zG];refine aV m 1 rfl rfl rfl aS (b9 rfl) rfl ?_;clear m; intro u m; simp only[a8,zH,zI,zJ,zK,zL,zM,zN,zO,zP,zF,zG,Nat.reduceAdd] at m;refine aV m 0 rfl rfl rfl aS (b9 rfl) rfl ?_;clear m; intro u m; simp only[a8,zH,zI,zJ,zK,zL,zM,zN,zO,zP,zF,zG,Nat.reduceAdd] at m;refine aA (aD) (aC (k41 _ _ ?_));refine wp_ret ?_;simp only[ev,zD,zE,zF,zG];try simp only[Exit.inBlock,Exit.then,if_true]
  refine uU rfl ⟨_,rfl,((m.b 1 rfl).full bG aS)⟩ ⟨_,rfl,((m.b 0 rfl).full bG aS)⟩ rfl ?_;try simp only[zD,zE]
  exact ⟨_,rfl,m.ext,by rw [hbx]; rfl⟩
end Go.Proofs.YtimjandkmfcmiaaGreatDoor
namespace Go.Proofs.YtimjandkmfcmiaaGreatDoor
open Go.RowKit Go.Lith
set_option maxRecDepth 100000
attribute [local irreducible] wpList wpQuiet dV dK dI Code.wp
theorem Qm {p : P3} : pH Tryz.prog 150 [pt p] (.int .i64 p.x):=by
 intro w;refine ⟨Ji,?_⟩;have m:=gQ.refl w
 go_enter Tryz.func150,Tryz.ntmps150
 refine aF fun K1 k1=>wp_region_lit (qZ m rfl ?_);clear m; intro g1 u m;refine aA (aD) (aC (k1 _ _ ?_));refine aF fun K2 k2=>wp_region_lit (aA (aG (c:=0) Tryz.underlying183 rfl aO rfl rfl) ?_);simp only[ev,zD,zE,zF,zG];refine aI rfl ((m.b 0 rfl).lies1 aZ rfl) ?_;simp only[ev,zD,zE,zF,zG];refine aA (aD) (aC (k2 _ _ ?_));refine wp_ret ?_;simp only[ev,zD,zE,zF,zG];try simp only[Exit.inBlock,Exit.then,if_true]
 refine bT rfl rfl ?_;try simp only[zD,zE]
 exact ⟨_,rfl,m.ext,rfl⟩
theorem Qn {p : P3} : pH Tryz.prog 151 [pt p] (.int .i64 p.y):=by
 intro w;refine ⟨Jj,?_⟩;have m:=gQ.refl w
 go_enter Tryz.func151,Tryz.ntmps151
 refine aF fun K1 k1=>wp_region_lit (qZ m rfl ?_);clear m; intro g1 u m;refine aA (aD) (aC (k1 _ _ ?_));refine aF fun K2 k2=>wp_region_lit (aA (aG (c:=0) Tryz.underlying183 rfl aO rfl rfl) ?_);simp only[ev,zD,zE,zF,zG];refine aI rfl ((m.b 0 rfl).lies1 aZ rfl) ?_;simp only[ev,zD,zE,zF,zG];refine aA (aD) (aC (k2 _ _ ?_));refine wp_ret ?_;simp only[ev,zD,zE,zF,zG];try simp only[Exit.inBlock,Exit.then,if_true]
 refine bT rfl rfl ?_;try simp only[zD,zE]
 exact ⟨_,rfl,m.ext,rfl⟩
theorem Qo {p : P3} : pH Tryz.prog 152 [pt p] (.int .i64 p.z):=by
 intro w;refine ⟨Jk,?_⟩;have m:=gQ.refl w
 go_enter Tryz.func152,Tryz.ntmps152
 refine aF fun K1 k1=>wp_region_lit (qZ m rfl ?_);clear m; intro g1 u m;refine aA (aD) (aC (k1 _ _ ?_));refine aF fun K2 k2=>wp_region_lit (aA (aG (c:=0) Tryz.underlying183 rfl aO rfl rfl) ?_);simp only[ev,zD,zE,zF,zG];refine aI rfl ((m.b 0 rfl).lies1 aZ rfl) ?_;simp only[ev,zD,zE,zF,zG];refine aA (aD) (aC (k2 _ _ ?_));refine wp_ret ?_;simp only[ev,zD,zE,zF,zG];try simp only[Exit.inBlock,Exit.then,if_true]
 refine bT rfl rfl ?_;try simp only[zD,zE]
 exact ⟨_,rfl,m.ext,rfl⟩
theorem Pf  : pH Tryz.prog 137 [] (.agg #[.func (.func 150) #[] #[],.func (.func 151) #[] #[],.func (.func 152) #[] #[]]):=by
 intro w;refine ⟨Jh,?_⟩;have m:=gQ.refl w
 go_enter Tryz.func137,Tryz.ntmps137
 refine aF fun K1 k1=>wp_region_lit (Ol m vW rfl ?_);clear m; intro g1 u m;refine aC (k1 _ _ ?_);refine aF fun K2 k2=>wp_region_lit (aA (mQ rfl rfl rfl) ?_);simp only[ev,zD,zE,zF,zG];refine Le m 0 rfl rfl rfl pU (b9 rfl) rfl ?_;clear m; intro u m; simp only[a8,zH,zI,zJ,zK,zL,zM,zN,zO,zP,zF,zG,Nat.reduceAdd] at m;refine aC (k2 _ _ ?_);refine wp_ret ?_;try simp only[Exit.inBlock,Exit.then,if_true]
 refine bT rfl ⟨_,rfl,((m.b 0 rfl).full F9 pU)⟩ ?_;try simp only[zD,zE]
 exact ⟨_,rfl,m.ext,rfl⟩
theorem Gx {p q : P3} : pH Tryz.prog 130 [pt p,pt q] (.bool (decide (p.Lt q))):=by
 intro w;refine ⟨Rc,?_⟩;have m:=gQ.refl w
 go_enter Tryz.func130,Tryz.ntmps130
 refine aF fun K1 k1=>wp_region_lit (qZ m rfl ?_);clear m; intro g1 u m;simp only[ev,zD,zE,zF,zG];refine qZ m rfl ?_;clear m; intro g2 u m;refine aA (aD) (aC (k1 _ _ ?_));refine aF fun K2 k2=>aF fun K3 k3=>wp_region_lit ?_;simp only[ev,zD,zE,zF,zG];refine B9 m rfl rfl (Pf) ?_;clear m; intro u m;refine aA (aB) (aC (k3 _ _ ?_));refine wp_block (wp_loop_rounds 4 (dA (aF fun K4 k4=>wp_region_lit (aA (bR (m:=0) (n:=3) rfl rfl (by decide)) (aC (k4 _ _ ?_))))));refine aF fun K5 k5=>bS rfl (wp_skip (k5 _ _ ?_));refine aF fun K6 k6=>wp_block (aF fun K7 k7=>wp_region_lit (aA (qH rfl rfl) ?_));simp only[ev,zD,zE,zF,zG];refine aA (aD) (aC (k7 _ _ ?_));refine aF fun K8 k8=>?_;simp only[ev,zD,zE,zF,zG];refine Wv m aU (by kernel_rfl) (aR (aB) ?_);simp only[ev,zD,zE,zF,zG];refine Tq rfl (fun u m=>((m.b 1 rfl).full bC aN)) ?_;simp only[ev,zD,zE,zF,zG];refine H6 rfl rfl (Qm) (aR (aB) ?_);simp only[ev,zD,zE,zF,zG];refine Tq rfl (fun u m=>((m.b 0 rfl).full bC aN)) ?_;simp only[ev,zD,zE,zF,zG];refine H6 rfl rfl (Qm) (aR (aD) (aR (aD) (dW ?_)));clear m; intro u m;refine k8 _ _ ?_;refine aF fun K9 k9=>wp_region_lit (aA (aB) ?_);simp only[ev,zD,zE,zF,zG];refine aA (aB) (aA (nB rfl rfl) (aC (k9 _ _ ?_)));simp only[ev,zD,zE,zF,zG];refine cK rfl (fun hc2=>?_) (fun hc2=>?_)
 ·
  refine aF fun K10 k10=>wp_region_lit (aA (aB) (aA (aB) (aA (dS rfl rfl) (aA (aD) ?_))));simp only[ev,zD,zE,zF,zG];refine aC (k10 _ _ ?_);refine wp_ret ?_;try simp only[Exit.inBlock,Exit.then,if_true]
  refine bT rfl rfl ?_;try simp only[zD,zE]
  exact ⟨_,rfl,m.ext,by simp only[P3.lt_x hc2]⟩
 ·
  have ex : p.x = q.x:=by omega
  refine wp_skip (k6 _ _ ?_);refine wp_region_lit (aA (aX (m:=0) (n:=1) (r:=1) rfl rfl (by decide)) (aA (aB) (aC (a7 (aF fun K11 k11=>wp_region_lit (aA (bR (m:=1) (n:=3) rfl rfl (by decide)) (aC (k11 _ _ ?_))))))));refine aF fun K12 k12=>bS rfl (wp_skip (k12 _ _ ?_));refine aF fun K13 k13=>wp_block (aF fun K14 k14=>wp_region_lit (aA (qI rfl rfl) ?_));simp only[ev,zD,zE,zF,zG];refine aA (aD) (aC (k14 _ _ ?_));refine aF fun K15 k15=>?_;simp only[ev,zD,zE,zF,zG];refine Wv m aU (by kernel_rfl) (aR (aB) ?_);simp only[ev,zD,zE,zF,zG];refine Tq rfl (fun u m=>((m.b 1 rfl).full bC aN)) ?_;simp only[ev,zD,zE,zF,zG];refine H6 rfl rfl (Qn) (aR (aB) ?_);simp only[ev,zD,zE,zF,zG];refine Tq rfl (fun u m=>((m.b 0 rfl).full bC aN)) ?_;simp only[ev,zD,zE,zF,zG];refine H6 rfl rfl (Qn) (aR (aD) (aR (aD) (dW ?_)));clear m; intro u m;refine k15 _ _ ?_;refine aF fun K16 k16=>wp_region_lit (aA (aB) ?_);simp only[ev,zD,zE,zF,zG];refine aA (aB) (aA (nB rfl rfl) (aC (k16 _ _ ?_)));simp only[ev,zD,zE,zF,zG];refine cK rfl (fun hc2=>?_) (fun hc2=>?_)
  ·
   refine aF fun K17 k17=>wp_region_lit (aA (aB) (aA (aB) (aA (dS rfl rfl) (aA (aD) ?_))));simp only[ev,zD,zE,zF,zG];refine aC (k17 _ _ ?_);refine wp_ret ?_;try simp only[Exit.inBlock,Exit.then,if_true]
   refine bT rfl rfl ?_;try simp only[zD,zE]
   exact ⟨_,rfl,m.ext,by simp only[P3.lt_y ex hc2]⟩
  ·
   have ey : p.y = q.y:=by omega
   refine wp_skip (k13 _ _ ?_);refine wp_region_lit (aA (aX (m:=1) (n:=1) (r:=2) rfl rfl (by decide)) (aA (aB) (aC (a7 (aF fun K18 k18=>wp_region_lit (aA (bR (m:=2) (n:=3) rfl rfl (by decide)) (aC (k18 _ _ ?_))))))));refine aF fun K19 k19=>bS rfl (wp_skip (k19 _ _ ?_));refine aF fun K20 k20=>wp_block (aF fun K21 k21=>wp_region_lit (aA (qJ rfl rfl) ?_));simp only[ev,zD,zE,zF,zG];refine aA (aD) (aC (k21 _ _ ?_));refine aF fun K22 k22=>?_;simp only[ev,zD,zE,zF,zG];refine Wv m aU (by kernel_rfl) (aR (aB) ?_);simp only[ev,zD,zE,zF,zG];refine Tq rfl (fun u m=>((m.b 1 rfl).full bC aN)) ?_;simp only[ev,zD,zE,zF,zG];refine H6 rfl rfl (Qo) (aR (aB) ?_);simp only[ev,zD,zE,zF,zG];refine Tq rfl (fun u m=>((m.b 0 rfl).full bC aN)) ?_;simp only[ev,zD,zE,zF,zG];refine H6 rfl rfl (Qo) (aR (aD) (aR (aD) (dW ?_)));clear m; intro u m;refine k22 _ _ ?_;refine aF fun K23 k23=>wp_region_lit (aA (aB) ?_);simp only[ev,zD,zE,zF,zG];refine aA (aB) (aA (nB rfl rfl) (aC (k23 _ _ ?_)));simp only[ev,zD,zE,zF,zG];refine cK rfl (fun hc2=>?_) (fun hc2=>?_)
   ·
    refine aF fun K24 k24=>wp_region_lit (aA (aB) (aA (aB) (aA (dS rfl rfl) (aA (aD) ?_))));simp only[ev,zD,zE,zF,zG];refine aC (k24 _ _ ?_);refine wp_ret ?_;try simp only[Exit.inBlock,Exit.then,if_true]
    refine bT rfl rfl ?_;try simp only[zD,zE]
    exact ⟨_,rfl,m.ext,by simp only[P3.lt_z ex ey]⟩
   ·
    have ez : p.z = q.z:=by omega
    refine wp_skip (k20 _ _ ?_);refine wp_region_lit (aA (aX (m:=2) (n:=1) (r:=3) rfl rfl (by decide)) (aA (aB) (aC (a7 (aF fun K25 k25=>wp_region_lit (aA (eW (m:=3) (n:=3) rfl rfl (by decide)) (aC (k25 _ _ ?_))))))));refine aF fun K26 k26=>eM rfl (wp_exit (k2 _ _ ?_));refine aF fun K27 k27=>wp_region_lit (aA (aD) ?_);simp only[ev,zD,zE,zF,zG];refine aC (k27 _ _ ?_);refine wp_ret ?_;try simp only[Exit.inBlock,Exit.then,if_true]
    refine bT rfl rfl ?_;try simp only[zD,zE]
    exact ⟨_,rfl,m.ext,by rw [decide_eq_false (fun h=>by unfold P3.Lt at h; omega)]⟩
theorem Pg {p q : P3} : pH Tryz.prog 102 [pt p,pt q] (.int .i64 (Ca p q)):=by
 intro w;refine ⟨Q0,?_⟩;have m:=gQ.refl w
 go_enter Tryz.func102,Tryz.ntmps102
 refine aF fun K1 k1=>wp_region_lit (qZ m rfl ?_);clear m; intro g1 u m;simp only[ev,zD,zE,zF,zG];refine qZ m rfl ?_;clear m; intro g2 u m;refine aA (aD) (aC (k1 _ _ ?_));refine aF fun K2 k2=>wp_block (aF fun K3 k3=>wp_region_lit ?_);simp only[ev,zD,zE,zF,zG];refine aI rfl ((m.b 1 rfl).full bC aN) ?_;simp only[ev,zD,zE,zF,zG];refine aI rfl ((m.b 0 rfl).full bC aN) ?_;simp only[ev,zD,zE,zF,zG];refine B9 m rfl rfl (Gx) ?_;clear m; intro u m;refine aA (aD) (aC (k3 _ _ ?_));simp only[ev,zD,zE,zF,zG];refine cK rfl (fun hc1=>?_) (fun hc1=>?_)
 ·
  refine aF fun K4 k4=>wp_region_lit (aA (aD) (aC (k4 _ _ ?_)));refine wp_ret ?_;simp only[ev,zD,zE,zF,zG];try simp only[Exit.inBlock,Exit.then,if_true]
  refine bT rfl rfl ?_;try simp only[zD,zE]
  exact ⟨_,rfl,m.ext,by simp [Ca,hc1]⟩
 ·
  refine aF fun K5 k5=>wp_region_lit (aI rfl ((m.b 0 rfl).full bC aN) ?_);simp only[ev,zD,zE,zF,zG];refine aI rfl ((m.b 1 rfl).full bC aN) ?_;simp only[ev,zD,zE,zF,zG];refine B9 m rfl rfl (Gx) ?_;clear m; intro u m;refine aA (aD) (aC (k5 _ _ ?_));simp only[ev,zD,zE,zF,zG];refine cK rfl (fun hc2=>?_) (fun hc2=>?_)
  ·
   refine aF fun K6 k6=>wp_region_lit (aA (aD) (aC (k6 _ _ ?_)));refine wp_ret ?_;simp only[ev,zD,zE,zF,zG];try simp only[Exit.inBlock,Exit.then,if_true]
   refine bT rfl rfl ?_;try simp only[zD,zE]
   exact ⟨_,rfl,m.ext,by simp [Ca,hc1,hc2]⟩
  ·
   refine wp_skip (k2 _ _ ?_);refine aF fun K7 k7=>wp_region_lit (aA (aD) (aC (k7 _ _ ?_)));refine wp_ret ?_;simp only[ev,zD,zE,zF,zG];try simp only[Exit.inBlock,Exit.then,if_true]
   refine bT rfl rfl ?_;try simp only[zD,zE]
   exact ⟨_,rfl,m.ext,by simp [Ca,hc1,hc2]⟩
end Go.Proofs.YtimjandkmfcmiaaGreatDoor
namespace Go.Proofs
open Go.Shelf
def Tryz.sort129_ren : Go.Shelf.Ren:=⟨fun | 6=>129 | 15=>147 | 14=>146 | 28=>168 | 29=>149 | 20=>160 | 21=>161 | 22=>162 | 23=>163 | 24=>164 | 25=>165 | 26=>166 | 27=>167 | 46=>178 | 47=>179 | 48=>180 | 49=>181 | 50=>182 | 57=>185 | n=>n,fun | 22=>26 | 24=>56 | 25=>149 | 3=>3 | 39=>103 | 0=>0 | 53=>212 | 55=>101 | 4=>4 | 46=>206 | 45=>205 | 50=>126 | 5=>5 | 9=>9 | 66=>225 | 70=>229 | 76=>231 | 77=>184 | n=>n,fun | n=>n⟩
theorem Tryz.sort129 : Go.Proofs.SlLaysF0.n6 Tryz.prog Tryz.sort129_ren:={
 mixed:=by kernel_rfl
 f6:=⟨Tryz.f129.name,by decide,Tryz.func129.trans (congrArg some (by kernel_rfl))⟩
 f14:=⟨Tryz.f146.name,by decide,Tryz.func146.trans (congrArg some (by kernel_rfl))⟩
 f15:=Tryz.func147.trans (congrArg some (by kernel_rfl))
 f20:=⟨Tryz.f160.name,by decide,Tryz.func160.trans (congrArg some (by kernel_rfl))⟩
 f21:=⟨Tryz.f161.name,by decide,Tryz.func161.trans (congrArg some (by kernel_rfl))⟩
 f22:=⟨Tryz.f162.name,by decide,Tryz.func162.trans (congrArg some (by kernel_rfl))⟩
 f23:=⟨Tryz.f163.name,by decide,Tryz.func163.trans (congrArg some (by kernel_rfl))⟩
 f24:=⟨Tryz.f164.name,by decide,Tryz.func164.trans (congrArg some (by kernel_rfl))⟩
 f25:=⟨Tryz.f165.name,by decide,Tryz.func165.trans (congrArg some (by kernel_rfl))⟩
 f26:=⟨Tryz.f166.name,by decide,Tryz.func166.trans (congrArg some (by kernel_rfl))⟩
 f27:=⟨Tryz.f167.name,by decide,Tryz.func167.trans (congrArg some (by kernel_rfl))⟩
 f28:=Tryz.func168.trans (congrArg some (by kernel_rfl))
 f29:=Tryz.func149.trans (congrArg some (by kernel_rfl))
 f46:=⟨Tryz.f178.name,by decide,Tryz.func178.trans (congrArg some (by kernel_rfl))⟩
 f47:=Tryz.func179.trans (congrArg some (by kernel_rfl))
 f48:=Tryz.func180.trans (congrArg some (by kernel_rfl))
 f49:=⟨Tryz.f181.name,by decide,Tryz.func181.trans (congrArg some (by kernel_rfl))⟩
 f50:=⟨Tryz.f182.name,by decide,Tryz.func182.trans (congrArg some (by kernel_rfl))⟩
 f57:=⟨Tryz.f185.name,by decide,Tryz.func185.trans (congrArg some (by kernel_rfl))⟩
 t0:=Tryz.underlying0
 a0:=Tryz.isAgg0
 z0:=Tryz.sizeOf0
 v0:=Tryz.zeroValue0
 t3:=Tryz.underlying3
 a3:=Tryz.isAgg3
 z3:=Tryz.sizeOf3
 v3:=Tryz.zeroValue3
 t4:=Tryz.underlying4
 a4:=Tryz.isAgg4
 z4:=Tryz.sizeOf4
 v4:=Tryz.zeroValue4
 t5:=Tryz.underlying5
 a5:=Tryz.isAgg5
 z5:=Tryz.sizeOf5
 v5:=Tryz.zeroValue5
 t9:=Tryz.underlying9
 a9:=Tryz.isAgg9
 z9:=Tryz.sizeOf9
 v9:=Tryz.zeroValue9
 t22:=Tryz.underlying26
 a22:=Tryz.isAgg26
 z22:=Tryz.sizeOf26
 v22:=Tryz.zeroValue26
 t25:=Tryz.underlying149
 a25:=Tryz.isAgg149
 z25:=Tryz.sizeOf149
 v25:=Tryz.zeroValue149
 t39:=Tryz.underlying103
 a39:=Tryz.isAgg103
 z39:=Tryz.sizeOf103
 v39:=Tryz.zeroValue103
 t45:=Tryz.underlying205
 a45:=Tryz.isAgg205
 z45:=Tryz.sizeOf205
 v45:=Tryz.zeroValue205
 t46:=Tryz.underlying206
 a46:=Tryz.isAgg206
 z46:=Tryz.sizeOf206
 v46:=Tryz.zeroValue206
 t50:=Tryz.underlying126
 a50:=Tryz.isAgg126
 z50:=Tryz.sizeOf126
 v50:=Tryz.zeroValue126
 t53:=Tryz.underlying212
 a53:=Tryz.isAgg212
 z53:=Tryz.sizeOf212
 v53:=Tryz.zeroValue212
 t55:=Tryz.underlying101
 a55:=Tryz.isAgg101
 z55:=Tryz.sizeOf101
 v55:=Tryz.zeroValue101
 t66:=Tryz.underlying225
 a66:=Tryz.isAgg225
 z66:=Tryz.sizeOf225
 v66:=Tryz.zeroValue225
 t70:=Tryz.underlying229
 a70:=Tryz.isAgg229
 z70:=Tryz.sizeOf229
 v70:=Tryz.zeroValue229
 t76:=Tryz.underlying231
 a76:=Tryz.isAgg231
 z76:=Tryz.sizeOf231
 v76:=Tryz.zeroValue231
 t77:=Tryz.underlying184
 a77:=Tryz.isAgg184
 z77:=Tryz.sizeOf184
 v77:=Tryz.zeroValue184 }
end Go.Proofs
namespace Go.Proofs.YtimjandkmfcmiaaGreatDoor
open Go.RowKit Go.Lith
set_option maxRecDepth 100000
attribute [local irreducible] wpList wpQuiet dV dK dI Code.wp
theorem Qp : x8 Tryz.prog 56 pt:=by
 refine x8.agg (cs:=fun p=>#[.int .i64 p.x,.int .i64 p.y,.int .i64 p.z]) (fun _=>rfl) Tryz.underlying56 (fun e p=>?_) (fun p q=>?_) (fun p=>?_)
 ·
  refine Li.struct (d:=9999) Tryz.underlying56 fun f hf=>?_;simp only[List.mem_cons,List.not_mem_nil,or_false] at hf;rcases hf with rfl | rfl | rfl <;> exact ⟨_,fW aZ rfl,Li.int (d:=9998) Tryz.underlying3⟩
 · exact (R1 9998).iff ⟨fun h=>P3.eq h.1 h.2.1 h.2.2,fun h=>by subst h; exact ⟨rfl,rfl,rfl⟩⟩
 · simp [pt,Instr.sameBits]
theorem Fv {w0 w : World} {is : List It} {g c : Nat} {es : Array MapEntry} {D : List (P3 × Bool)} {p : P3} (m : bU w0 w is) (k : Nat) (hk : is[k]? = some (mI g es c)) (hD1 : gW pt Value.bool D es c) : Calls Tryz.prog 100 [.map (some g),pt p].toArray w fun e w'=>∃ v i,e = .returned v ∧ bU w0 w' (is.set k i) ∧ (v = .bool (!(sL D p).getD false) ∧ ∃ es' c',i = mI g es' c' ∧ gW pt Value.bool (kS D p true) es' c'):=by
 go_enter Tryz.func100,Tryz.ntmps100
 refine aF fun K1 k1=>wp_region_lit (dJ m rfl ?_);clear m; intro g1 u m;refine aA (aD) (aC (k1 _ _ ?_));refine aF fun K2 k2=>aF fun K3 k3=>wp_region_lit (aA (aB) ?_);simp only[ev,zD,zE,zF,zG];refine aI rfl ((m.b 0 rfl).full bC aN) ?_;simp only[ev,zD,zE,zF,zG];refine oX (Lg (ek:=pt) (en:=Value.bool) (k:=p) (v0:=false) Tryz.underlying146 Rt Qp rfl rfl (m.p (k + 1) hk) hD1) ?_;simp only[ev,zD,zE,zF,zG];refine aC (k3 _ _ ?_);refine Gm rfl (fun hc1=>?_) (fun hc1=>?_)
 ·
  refine aF fun K4 k4=>wp_region_lit (aA (aD) (aC (k4 _ _ ?_)));refine wp_ret ?_;simp only[ev,zD,zE,zF,zG];try simp only[Exit.inBlock,Exit.then,if_true]
  refine bT rfl rfl ?_;try simp only[zD,zE]
  exact ⟨_,mI g es c,rfl,by rw [Lh hk]; exact m.tl,by rw [hc1]; rfl,es,c,rfl,by rw [z7 (by cases hq : sL D p with | none=>rw [hq] at hc1; cases hc1 | some x=>rw [hq] at hc1; exact congrArg some hc1)]; exact hD1⟩
 ·
  refine wp_skip (k2 _ _ ?_);refine aF fun K5 k5=>wp_region_lit (aA (aB) ?_);simp only[ev,zD,zE,zF,zG];refine aI rfl ((m.b 0 rfl).full bC aN) ?_;simp only[ev,zD,zE,zF,zG];refine Oo (ek:=pt) (en:=Value.bool) (a:=p) (v:=true) m (k + 1) hk Tryz.underlying146 Qp rfl rfl rfl hD1 ?_;clear m; intro es1 c1 u m hD'; clear hD1; have hD1:=hD'; clear hD'; simp only[zF,zG] at m;refine aC (k5 _ _ ?_);refine aF fun K6 k6=>wp_region_lit (aA (aD) (aC (k6 _ _ ?_)));refine wp_ret ?_;simp only[ev,zD,zE,zF,zG];try simp only[Exit.inBlock,Exit.then,if_true]
  refine bT rfl rfl ?_;try simp only[zD,zE]
  exact ⟨_,_,rfl,m.tl,by rw [hc1]; rfl,_,_,rfl,hD1⟩
theorem Ph {w0 w : World} {is : List It} {A : Option Addr} {n cap : Nat} {xs : List P3} (m : bU w0 w is) (k : Nat) (hi : is[k]? = some (oI 56 3 A n cap (xs.flatMap gC))) (hsz : n < 4611686018427387904) :
 Calls Tryz.prog 129 [.slice A n cap,.func (.func 102) #[] #[]].toArray w fun e w'=>∃ v i,e = .returned v ∧ bU w0 w' (is.set k i) ∧ (v = .tuple #[] ∧ ∃ ys : List P3,i = oI 56 3 A n cap (ys.flatMap gC) ∧ ys.Perm xs ∧ ys.Pairwise fun a b=>ltOf Ca b a = false) :=
 Lk (enc:=gC) Tryz.sort129 (fun w=>rO bC w) (fun w=>d6 aN w) (fun _=>rfl) (by decide) Dv Ca Ll (fun x y=>Pg) m k hi hsz
theorem Im {g c : Nat} {es : Array MapEntry} {D : List (P3 × Bool)} (w : World) (hM : lP w g es c) (hD : gW pt Value.bool D es c) (hl : D.length ≤ 1000000) : gD Tryz.prog 101 [.map (some g),.func (.func 102) #[] #[]] w (OR 56 3 (fun xs=>∃ ps : List P3,xs = ps.flatMap gC ∧ ps.Perm (D.map (·.1)) ∧ ps.Pairwise fun a b=>¬ b.Lt a) w):=by
 refine ⟨Qz,?_⟩;have m:=bU.refl w
 go_enter Tryz.func101,Tryz.ntmps101
 refine aF fun K1 k1=>wp_region_lit (aA (aD) (aC (k1 _ _ ?_)));refine aF fun K2 k2=>wp_region_lit (aA (aD) ?_);replace m:=m.nilO 56 3;refine aC (k2 _ _ ?_);refine aF fun K3 k3=>aF fun K4 k4=>wp_region_lit (aA (aB) ?_);simp only[ev,zD,zE,zF,zG];refine Sv m Tryz.underlying146 rfl (hM.ext m.ext) ?_;clear m; intro r1 u m;refine aC (k4 _ _ ?_);refine wp_block ?_;simp only[ev,zD,zE,zF,zG];try simp only[Nat.zero_add,Nat.reduceAdd,Nat.reduceMul,Int.reduceToNat]
 refine cX [5] [6,9,10,11,12,13,14,15,16] (fun n vs wl=>∃ (dn rs : List (P3 × Bool)) (A1 : Option Addr) (n1 cap1 : Nat) (sn : Array Nat),vs = [.slice A1 n1 cap1] ∧ bU w wl [iI r1 g c sn,oI 56 3 A1 n1 cap1 ((dn.map (·.1)).flatMap gC)] ∧ (sM pt Value.bool D es sn dn rs) ∧ (n1 = dn.length) ∧ (n = rs.length)) ?_ ?_
 ·
  apply Exists.intro;simp only[zQ,zR,zD,zE];exact ⟨[],D,none,0,0,#[],rfl,m,sM.start hD,rfl,rfl⟩
 ·
  intro n vs wr hI u;clear m;obtain ⟨dn,rs,A1,n1,cap1,sn,rfl,m,hT,hn1,hn⟩:=hI;have hlen:=hT.len;simp only[aK,aQ,aM,aP,zF,zG];refine aF fun K5 k5=>wp_region_lit (Vv m 0 rfl rfl (hM.ext m.ext) hD hT ?_);clear m; intro bb kk vv sn u m hN; simp only[zF,zG] at m;refine aA (Oq rfl) (aC (k5 _ _ ?_));refine aF fun K6 k6=>?_;simp only[ev,zD,zE,zF,zG];refine Gm rfl (fun hc1=>?_) (fun hc1=>?_)
  ·
   obtain ⟨kp,kb,rs2,hp,hT2⟩:=Vx hc1 hN;refine wp_skip (k6 _ _ ?_);refine wp_block (aF fun K7 k7=>wp_region_lit (oX (Or rfl (m.r 0 rfl) (hM.ext m.ext) hD hT2) ?_));simp only[ev,zD,zE,zF,zG];refine aA (bJ rfl rfl) ?_;simp only[ev,zD,zE,zF,zG];refine bN m e9 rfl ?_;clear m; intro g2 u m;simp only[ev,zD,zE,zF,zG];refine aV m 0 rfl rfl rfl aN (b9 rfl) rfl ?_;clear m; intro u m; simp only[a8,zH,zI,zJ,zK,zL,zM,zN,zO,zP,zF,zG,Nat.reduceAdd] at m;refine aC (k7 _ _ ?_);refine wp_region_lit (aA (aB) ?_);simp only[ev,zD,zE,zF,zG];refine aI rfl ((m.b 0 rfl).full bC aN) ?_;simp only[ev,zD,zE,zF,zG];refine Hv rfl ?_;intro u g3 e hg hB; replace m:=m.newB e hg hB; clear e hg hB;simp only[ev,zD,zE,zF,zG];refine dU m 3 rfl rfl Tryz.underlying26 Ru rfl (by decide) rfl rfl rfl (m.b 0 rfl).rowsO (kB rfl) (by omega) (by omega) ?_;clear m; intro A1 cap1 u m; simp only[zF,zG] at m;refine aA (aD) (aC ?_);simp only[ev,zD,zE,zF,zG];simp only[Exit.inBlock,Exit.then];refine ⟨rs2.length,_,?_,rfl,?_,?_⟩
   · rw [hn,hp.length_eq]; exact Nat.lt_succ_self _
   · simp only[zQ,zR,zD,zE,aK,aQ,aM,aP,zF,zG]
   ·
    simp only[zQ,zR,zD,zE];exact ⟨dn ++ [(kp,kb)],rs2,_,_,_,_,rfl,((m.reO 3 rfl ((m.o 3 rfl).as (by simp [gC]))).sel [false,false,true,true]),hT2,by simp [hn1],rfl⟩
  ·
   obtain rfl:=Vw hc1 hN;refine wp_exit (k3 _ _ ?_);refine aF fun K8 k8=>wp_region_lit (aA (aB) (aA (aB) ?_));simp only[ev,zD,zE,zF,zG];refine Cc m 1 Rb rfl rfl (fun m=>Ph m 1 rfl (by omega)) ?_;clear m; rintro v i u m ⟨rfl,ys,rfl,hys,hso⟩; simp only[zF,zG] at m;refine aC (k8 _ _ ?_);refine aF fun K9 k9=>wp_region_lit (aA (aB) (aA (aD) (aC (k9 _ _ ?_))));refine wp_ret ?_;simp only[ev,zD,zE,zF,zG];try simp only[Exit.inBlock,Exit.then,if_true]
   refine bT rfl rfl ?_;try simp only[zD,zE]
   exact ⟨_,rfl,m.ext,_,_,_,_,rfl,(m.o 1 rfl),_,rfl,hys.trans (hT.done.map _),hso.imp fun h=>by simpa [ltOf,sN] using h⟩
end Go.Proofs.YtimjandkmfcmiaaGreatDoor
namespace Go.Lith
open Go.RowKit
def M9 (ts : List T3) (p : P3) : Prop:=∃ u ∈ ts,p = u.a ∨ p = u.b ∨ p = u.c
def rD (us ts : List T3) : Prop:=∀ p,M9 us p → M9 ts p
theorem rD.refl (ts : List T3) : rD ts ts:=fun _ h=>h
theorem rD.trans {a b c : List T3} (h : rD a b) (k : rD b c) : rD a c:=fun p hp=>k p (h p hp)
theorem rD.one {ts : List T3} {a b c : P3} (ha : M9 ts a) (hb : M9 ts b) (hc : M9 ts c) : rD [⟨a,b,c⟩] ts:=fun p ⟨u,hu,hp⟩=>by
 obtain rfl:=List.mem_singleton.1 hu;rcases hp with rfl | rfl | rfl
 · exact ha
 · exact hb
 · exact hc
theorem rD.set {us ts : List T3} {k : Nat} {a b c : P3} (h : rD us ts) (ha : M9 ts a) (hb : M9 ts b) (hc : M9 ts c) : rD (us.set k ⟨a,b,c⟩) ts:=fun p ⟨u,hu,hp⟩=>by
 rcases List.mem_or_eq_of_mem_set hu with hu | rfl
 · exact h p ⟨u,hu,hp⟩
 · rcases hp with rfl | rfl | rfl
   · exact ha
   · exact hb
   · exact hc
theorem rD.sm {us ts : List T3} {k : Int} (h : rD us ts) (hs : ∀ t ∈ ts,Ek k t) : ∀ t ∈ us,Ek k t:=fun t ht=>by
 have p : ∀ p,M9 us p → Sm k p:=fun p hp=>by
  obtain ⟨u,hu,hp⟩:=h p hp;rcases hp with rfl | rfl | rfl
  · exact (hs u hu).1
  · exact (hs u hu).2.1
  · exact (hs u hu).2.2
 exact ⟨p _ ⟨t,ht,.inl rfl⟩,p _ ⟨t,ht,.inr (.inl rfl)⟩,p _ ⟨t,ht,.inr (.inr rfl)⟩⟩
theorem rD.it {us ts : List T3} (h : rD us ts) (hs : ∀ t ∈ ts,IT t) : ∀ t ∈ us,IT t:=fun t ht=>by
 have p : ∀ p,M9 us p → I3 p:=fun p hp=>by
  obtain ⟨u,hu,hp⟩:=h p hp;have:=hs u hu;rcases hp with rfl | rfl | rfl
  · exact this.a
  · exact this.b
  · exact this.c
 exact ⟨p _ ⟨t,ht,.inl rfl⟩,p _ ⟨t,ht,.inr (.inl rfl)⟩,p _ ⟨t,ht,.inr (.inr rfl)⟩⟩
section
variable {w0 w : World} {S : List (Option Nat)} {E : TypeId} {n cap : Nat} {A : Option Addr} {ts : List T3}
theorem cJ.take {N k : Nat} (h : cJ w A N ts) (hk : k ≤ N) : cJ w A k (ts.take k) :=
 ⟨by rw [List.length_take,h.len]; omega,fun t ht=>h.it t (List.mem_of_mem_take ht),fun i t ht=>h.row i t (by rw [List.getElem?_take] at ht; split at ht; exact ht; cases ht)⟩
theorem Pi {a b : Nat} : (if (b : Int) < (a : Int) then (b : Int) else (a : Int)) = ((min a b : Nat) : Int):=by
 split <;> omega
end
end Go.Lith
namespace Go.Proofs.YtimjandkmfcmiaaGreatDoor
open Go.RowKit Go.Lith
set_option maxRecDepth 100000
attribute [local irreducible] wpList wpQuiet dV dK dI Code.wp
theorem Fw {ts : List T3} {N cap : Nat} {A : Option Addr} (w : World) (hT : cJ w A N ts) (hN : N ≤ 300000) : gD Tryz.prog 61 [.slice A N cap] w (OR 56 3 (fun xs=>∃ ps : List P3,xs = ps.flatMap gC ∧ Lo ps ∧ ∀ a,a ∈ ps ↔ a ∈ jF ts) w):=by
 refine ⟨Uu,?_⟩;have m:=bU.refl w
 go_enter Tryz.func61,Tryz.ntmps61
 refine aF fun K1 k1=>wp_region_lit (aA (aD) (aC (k1 _ _ ?_)));refine aF fun K2 k2=>wp_region_lit ?_;simp only[ev,zD,zE,zF,zG];refine Lf m ?_;clear m; intro q8 u m;have hD8:=gW.nil (K:=P3) (V:=Bool) pt Value.bool;refine aA (aD) (aC (k2 _ _ ?_));refine aF fun K3 k3=>aF fun K4 k4=>wp_region_lit (aA (aB) (aA (bM rfl Tryz.underlying48 rfl) ?_));simp only[ev,zD,zE,zF,zG];refine aA (aB) (aC (k4 _ _ ?_));refine wp_block ?_;simp only[ev,zD,zE,zF,zG];try simp only[Nat.zero_add,Nat.reduceAdd,Nat.reduceMul,Int.reduceToNat]
 refine cX [11] [5,7,12,13,14,15,16,17,18,19,20,21,22,23] (fun n vs wl=>∃ (k : Nat) (es : Array MapEntry) (c : Nat),vs = [.int .i64 (k:Int)] ∧ bU w wl [mI q8 es c] ∧ (gW pt Value.bool (pI [] (jF (ts.take k))) es c) ∧ (k ≤ N) ∧ (n = N - k)) ?_ ?_
 ·
  apply Exists.intro;simp only[zQ,zR,zD,zE];exact ⟨0,_,_,rfl,m,hD8,Nat.zero_le _,rfl⟩
 ·
  intro n vs wr hI u;clear m;obtain ⟨k,es,c,rfl,m,hD8,hk,hn⟩:=hI;simp only[aK,aQ,aM,aP,zF,zG];refine aF fun K5 k5=>wp_region_lit (aA (dS rfl rfl) (aC (k5 _ _ ?_)));refine aF fun K6 k6=>?_;simp only[ev,zD,zE,zF,zG];refine cK rfl (fun hc1=>?_) (fun hc1=>?_)
  ·
   obtain ⟨t,ht,_,a,rfl,hrow⟩:=hT.get (i:=k) (by omega);refine wp_skip (k6 _ _ ?_);refine aF fun K7 k7=>wp_block (aF fun K8 k8=>wp_region_lit (aA (aT Tryz.underlying48 eS rfl rfl (by omega) (by omega) (vY (Int.toNat_natCast _))) ?_));simp only[ev,zD,zE,zF,zG];refine aI rfl (((hrow.ext m.ext)).lies l5 eS) ?_;simp only[ev,zD,zE,zF,zG];refine bN m u5 rfl ?_;clear m; intro g2 u m;simp only[ev,zD,zE,zF,zG];refine aV m 0 rfl rfl rfl eS (b9 rfl) rfl ?_;clear m; intro u m; simp only[a8,zH,zI,zJ,zK,zL,zM,zN,zO,zP,zF,zG,Nat.reduceAdd] at m;refine aC (k8 _ _ ?_);refine aF fun K9 k9=>wp_region_lit (aI rfl ((m.b 0 rfl).full l5 eS) ?_);simp only[ev,zD,zE,zF,zG];refine aA (aB) (aC (k9 _ _ ?_));refine wp_block (wp_loop_rounds 4 (dA (aF fun K10 k10=>wp_region_lit (aA (bR (m:=0) (n:=3) rfl rfl (by decide)) (aC (k10 _ _ ?_))))));refine aF fun K11 k11=>bS rfl (wp_skip (k11 _ _ ?_));refine aF fun K12 k12=>wp_block (aF fun K13 k13=>wp_region_lit (aA (sF rfl rfl) ?_));simp only[ev,zD,zE,zF,zG];refine bN m e9 rfl ?_;clear m; intro g3 u m;simp only[ev,zD,zE,zF,zG];refine aV m 0 rfl rfl rfl aN (b9 rfl) rfl ?_;clear m; intro u m; simp only[a8,zH,zI,zJ,zK,zL,zM,zN,zO,zP,zF,zG,Nat.reduceAdd] at m;refine aC (k13 _ _ ?_);refine wp_region_lit (aA (aB) ?_);simp only[ev,zD,zE,zF,zG];refine aI rfl ((m.b 0 rfl).full bC aN) ?_;simp only[ev,zD,zE,zF,zG];refine Cc m 2 Ep rfl rfl (fun m=>Fv (p:=t.a) m 2 rfl hD8) ?_;clear m; rintro v i u m ⟨rfl,es',c',rfl,hD'⟩; simp only[zF,zG] at m;simp only[ev,zD,zE,zF,zG];clear hD8; have hD8:=hD'; clear hD';refine aC (k12 _ _ ?_);refine wp_region_lit (aA (aX (m:=0) (n:=1) (r:=1) rfl rfl (by decide)) (aA (aB) (aC (a7 (aF fun K14 k14=>wp_region_lit (aA (bR (m:=1) (n:=3) rfl rfl (by decide)) (aC (k14 _ _ ?_))))))));refine aF fun K15 k15=>bS rfl (wp_skip (k15 _ _ ?_));refine aF fun K16 k16=>wp_block (aF fun K17 k17=>wp_region_lit (aA (sG rfl rfl) ?_));simp only[ev,zD,zE,zF,zG];refine bN m e9 rfl ?_;clear m; intro g4 u m;simp only[ev,zD,zE,zF,zG];refine aV m 0 rfl rfl rfl aN (b9 rfl) rfl ?_;clear m; intro u m; simp only[a8,zH,zI,zJ,zK,zL,zM,zN,zO,zP,zF,zG,Nat.reduceAdd] at m;refine aC (k17 _ _ ?_);refine wp_region_lit (aA (aB) ?_);simp only[ev,zD,zE,zF,zG];refine aI rfl ((m.b 0 rfl).full bC aN) ?_;simp only[ev,zD,zE,zF,zG];refine Cc m 3 Ep rfl rfl (fun m=>Fv (p:=t.b) m 3 rfl hD8) ?_;clear m; rintro v i u m ⟨rfl,es',c',rfl,hD'⟩; simp only[zF,zG] at m;simp only[ev,zD,zE,zF,zG];clear hD8; have hD8:=hD'; clear hD';refine aC (k16 _ _ ?_);refine wp_region_lit (aA (aX (m:=1) (n:=1) (r:=2) rfl rfl (by decide)) (aA (aB) (aC (a7 (aF fun K18 k18=>wp_region_lit (aA (bR (m:=2) (n:=3) rfl rfl (by decide)) (aC (k18 _ _ ?_))))))));refine aF fun K19 k19=>bS rfl (wp_skip (k19 _ _ ?_));refine aF fun K20 k20=>wp_block (aF fun K21 k21=>wp_region_lit (aA (sH rfl rfl) ?_));simp only[ev,zD,zE,zF,zG];refine bN m e9 rfl ?_;clear m; intro g5 u m;simp only[ev,zD,zE,zF,zG];refine aV m 0 rfl rfl rfl aN (b9 rfl) rfl ?_;clear m; intro u m; simp only[a8,zH,zI,zJ,zK,zL,zM,zN,zO,zP,zF,zG,Nat.reduceAdd] at m;refine aC (k21 _ _ ?_);refine wp_region_lit (aA (aB) ?_);simp only[ev,zD,zE,zF,zG];refine aI rfl ((m.b 0 rfl).full bC aN) ?_;simp only[ev,zD,zE,zF,zG];refine Cc m 4 Ep rfl rfl (fun m=>Fv (p:=t.c) m 4 rfl hD8) ?_;clear m; rintro v i u m ⟨rfl,es',c',rfl,hD'⟩; simp only[zF,zG] at m;simp only[ev,zD,zE,zF,zG];clear hD8; have hD8:=hD'; clear hD';refine aC (k20 _ _ ?_);refine wp_region_lit (aA (aX (m:=2) (n:=1) (r:=3) rfl rfl (by decide)) (aA (aB) (aC (a7 (aF fun K22 k22=>wp_region_lit (aA (eW (m:=3) (n:=3) rfl rfl (by decide)) (aC (k22 _ _ ?_))))))));refine aF fun K23 k23=>eM rfl (wp_exit (k7 _ _ ?_));refine wp_region_lit ?_;simp only[ev,zD,zE,zF,zG];refine aA (aX rfl rfl (aL (by omega) (by omega))) (aA (aB) (aC ?_));simp only[ev,zD,zE,zF,zG];simp only[Exit.inBlock,Exit.then];refine ⟨N - (k + 1),_,?_,rfl,?_,?_⟩
   · omega
   · simp only[zQ,zR,zD,zE,aK,aQ,aM,aP,zF,zG]
   ·
    simp only[zQ,zR,zD,zE];exact ⟨k + 1,_,_,rfl,(m.sel [false,false,false,false,true]),by rw [Fp ht]; exact hD8,by omega,rfl⟩
  ·
   have hkN : k = N:=by omega
   rw [hkN,show ts.take N = ts from List.take_of_length_le (by rw [hT.len]; exact Nat.le_refl _)] at hD8;refine wp_exit (k3 _ _ ?_);refine aF fun K24 k24=>wp_region_lit (aA (aB) ?_);simp only[ev,zD,zE,zF,zG];refine bO rfl rfl (Im _ (m.p 0 rfl) hD8 (by have h1:=sO (jF ts) []; have h2:=Cg ts; have h3:=hT.len; simp only[List.length_nil] at h1; omega)) ?_;rintro v u e ⟨A9,n9,cap9,_,rfl,hN,ps,rfl,hps,hso⟩; replace m:=m.newO e hN; clear e hN;refine aA (aD) (aC (k24 _ _ ?_));refine wp_ret ?_;simp only[ev,zD,zE,zF,zG];try simp only[Exit.inBlock,Exit.then,if_true]
   refine bT rfl rfl ?_;try simp only[zD,zE]
   exact ⟨_,rfl,m.ext,_,_,_,_,rfl,(m.o 0 rfl),ps,rfl,Ic (hps.nodup_iff.2 (uG _ _ .nil)) hso,fun a=>by rw [hps.mem_iff,z8]; simp⟩
theorem V8 {ts : List T3} {N cap : Nat} {A : Option Addr} (w : World) (hT : cJ w A N ts) (hN : N ≤ 300000) : gD Tryz.prog 41 [.slice A N cap] w (fun v _=>v = .tuple #[pt (uK (jF ts)),pt (uL (jF ts)),.bool (decide ((0 : Int) < (N : Int)))]):=by
 refine ⟨Uh,?_⟩;have m:=bU.refl w
 go_enter Tryz.func41,Tryz.ntmps41
 refine aF fun K1 k1=>wp_region_lit (bN m e9 rfl ?_);clear m; intro g1 u m;simp only[ev,zD,zE,zF,zG];refine bN m e9 rfl ?_;clear m; intro g2 u m;refine aA (aD) (aC (k1 _ _ ?_));refine aF fun K2 k2=>aF fun K3 k3=>wp_region_lit (aA (aB) ?_);simp only[ev,zD,zE,zF,zG];refine bO rfl rfl (Fw _ (hT.ext m.ext) hN) ?_;rintro v u e ⟨A8,n8,cap8,_,rfl,hN,ps,rfl,hso,hmem⟩; replace m:=m.newO e hN; clear e hN;obtain rfl : ps.length = n8:=by have:=(m.o 0 rfl).own.1; rw [Sx] at this; omega
 refine aA (bM rfl Tryz.underlying26 rfl) (aA (aB) (aC (k3 _ _ ?_)));refine wp_block ?_;simp only[ev,zD,zE,zF,zG];try simp only[Nat.zero_add,Nat.reduceAdd,Nat.reduceMul,Int.reduceToNat]
 refine cX [10] [5,6,11,12,13,14,15,16,17,18,19,20,21,22,23,24,25,26,27,28,29,30,31,32,33,34,35,36,37,38,39,40,41,42,43,44,45,46,47,48,49,50,51] (fun n vs wl=>∃ (k : Nat),vs = [.int .i64 (k:Int)] ∧ bU w wl [oI 56 3 A8 ps.length cap8 (ps.flatMap gC),bI g2 [.int .i64 (uL (ps.take k)).x,.int .i64 (uL (ps.take k)).y,.int .i64 (uL (ps.take k)).z] 56,bI g1 [.int .i64 (uK (ps.take k)).x,.int .i64 (uK (ps.take k)).y,.int .i64 (uK (ps.take k)).z] 56] ∧ (k ≤ ps.length) ∧ (n = ps.length - k)) ?_ ?_
 ·
  apply Exists.intro;simp only[zQ,zR,zD,zE];exact ⟨0,rfl,m,Nat.zero_le _,rfl⟩
 ·
  intro n vs wr hI u;clear m;obtain ⟨k,rfl,m,hk,hn⟩:=hI;simp only[aK,aQ,aM,aP,zF,zG];refine aF fun K4 k4=>wp_region_lit (aA (dS rfl rfl) (aC (k4 _ _ ?_)));refine aF fun K5 k5=>?_;simp only[ev,zD,zE,zF,zG];refine cK rfl (fun hc1=>?_) (fun hc1=>?_)
  ·
   have hle8 : ps.length ≤ 9223372036854775807:=Nat.le_trans (m.o 0 rfl).le (m.o 0 rfl).max;obtain ⟨p,hp⟩ : ∃ p,ps[k]? = some p:=⟨_,List.getElem?_eq_getElem (by omega)⟩
   obtain ⟨gO,rfl⟩:=(m.o 0 rfl).some (by omega);refine wp_skip (k5 _ _ ?_);refine aF fun K6 k6=>wp_block (aF fun K7 k7=>wp_region_lit (aA (aB) ?_));simp only[ev,zD,zE,zF,zG];refine aA (aT Tryz.underlying26 aN rfl rfl (by omega) (by omega) (vY (Int.toNat_natCast _))) ?_;simp only[ev,zD,zE,zF,zG];refine aI rfl (((m.o 0 rfl).pt hp).lies bC aN) ?_;simp only[ev,zD,zE,zF,zG];refine bN m e9 rfl ?_;clear m; intro g3 u m;refine aA (aD) ?_;simp only[ev,zD,zE,zF,zG];refine aV m 0 rfl rfl rfl aN (b9 rfl) rfl ?_;clear m; intro u m; simp only[a8,zH,zI,zJ,zK,zL,zM,zN,zO,zP,zF,zG,Nat.reduceAdd] at m;refine aC (k7 _ _ ?_);refine aF fun K8 k8=>aF fun K9 k9=>wp_region_lit (aA (aB) (aA (lZ rfl rfl) (aC (k9 _ _ ?_))));simp only[ev,zD,zE,zF,zG];refine cK rfl (fun hc2=>?_) (fun hc2=>?_)
   ·
    refine mh m [true,true,false,false] [(0,true),(1,true),(2,false),(3,false)] aU (by kernel_rfl) (dN (fun _ _ _ _ _ h=>h)) (ol:=?_) ?hol ?_
    case hol=>simp only[zQ,zR,zS,zT,zU,zV]; try rfl
    clear m; intro u m;refine eQ rfl (fun u m=>((m.b 0 rfl).full bC aN)) ?_;simp only[ev,zD,zE,zF,zG];refine eQ rfl (fun u m=>((m.b 0 rfl).full bC aN)) ?_;simp only[ev,zD,zE,zF,zG];refine dZ (aV m 3 rfl rfl rfl aN (b9 rfl) rfl ?_);clear m; intro u m; simp only[a8,zH,zI,zJ,zK,zL,zM,zN,zO,zP,zF,zG,Nat.reduceAdd] at m;refine aC ?_;refine ⟨m.sel [true,true,false,false],?_⟩;refine dZ (aV m 2 rfl rfl rfl aN (b9 rfl) rfl ?_);clear m; intro u m; simp only[a8,zH,zI,zJ,zK,zL,zM,zN,zO,zP,zF,zG,Nat.reduceAdd] at m;refine aC ?_;refine ⟨m.sel [true,true,false,false],?_⟩;refine cZ (k8 _ _ ?_);refine aF fun K10 k10=>wp_region_lit (aA (aG (c:=0) Tryz.underlying56 rfl aO rfl rfl) ?_);simp only[ev,zD,zE,zF,zG];refine aI rfl ((m.b 3 rfl).lies1 aZ rfl) ?_;simp only[ev,zD,zE,zF,zG];refine aA (aG (c:=0) Tryz.underlying56 rfl aO rfl rfl) ?_;simp only[ev,zD,zE,zF,zG];refine aI rfl ((m.b 0 rfl).lies1 aZ rfl) ?_;simp only[ev,zD,zE,zF,zG];refine aA (vR rfl rfl rfl) (aA (aG (c:=0) Tryz.underlying56 rfl aO rfl rfl) ?_);simp only[ev,zD,zE,zF,zG];refine aI rfl ((m.b 3 rfl).lies1 aZ rfl) ?_;simp only[ev,zD,zE,zF,zG];refine aA (aG (c:=0) Tryz.underlying56 rfl aO rfl rfl) ?_;simp only[ev,zD,zE,zF,zG];refine aI rfl ((m.b 0 rfl).lies1 aZ rfl) ?_;simp only[ev,zD,zE,zF,zG];refine aA (vR rfl rfl rfl) (aA (aG (c:=0) Tryz.underlying56 rfl aO rfl rfl) ?_);simp only[ev,zD,zE,zF,zG];refine aI rfl ((m.b 3 rfl).lies1 aZ rfl) ?_;simp only[ev,zD,zE,zF,zG];refine aA (aG (c:=0) Tryz.underlying56 rfl aO rfl rfl) ?_;simp only[ev,zD,zE,zF,zG];refine aI rfl ((m.b 0 rfl).lies1 aZ rfl) ?_;simp only[ev,zD,zE,zF,zG];refine aA (vR rfl rfl rfl) (aA (bL rfl rfl rfl) ?_);simp only[ev,zD,zE,zF,zG];refine aV m 3 rfl rfl rfl aN (b9 rfl) rfl ?_;clear m; intro u m; simp only[a8,zH,zI,zJ,zK,zL,zM,zN,zO,zP,zF,zG,Nat.reduceAdd] at m;refine aC (k10 _ _ ?_);refine wp_region_lit (aA (aG (c:=0) Tryz.underlying56 rfl aO rfl rfl) ?_);simp only[ev,zD,zE,zF,zG];refine aI rfl ((m.b 2 rfl).lies1 aZ rfl) ?_;simp only[ev,zD,zE,zF,zG];refine aA (aG (c:=0) Tryz.underlying56 rfl aO rfl rfl) ?_;simp only[ev,zD,zE,zF,zG];refine aI rfl ((m.b 0 rfl).lies1 aZ rfl) ?_;simp only[ev,zD,zE,zF,zG];refine aA (jU rfl rfl rfl) (aA (aG (c:=0) Tryz.underlying56 rfl aO rfl rfl) ?_);simp only[ev,zD,zE,zF,zG];refine aI rfl ((m.b 2 rfl).lies1 aZ rfl) ?_;simp only[ev,zD,zE,zF,zG];refine aA (aG (c:=0) Tryz.underlying56 rfl aO rfl rfl) ?_;simp only[ev,zD,zE,zF,zG];refine aI rfl ((m.b 0 rfl).lies1 aZ rfl) ?_;simp only[ev,zD,zE,zF,zG];refine aA (jU rfl rfl rfl) (aA (aG (c:=0) Tryz.underlying56 rfl aO rfl rfl) ?_);simp only[ev,zD,zE,zF,zG];refine aI rfl ((m.b 2 rfl).lies1 aZ rfl) ?_;simp only[ev,zD,zE,zF,zG];refine aA (aG (c:=0) Tryz.underlying56 rfl aO rfl rfl) ?_;simp only[ev,zD,zE,zF,zG];refine aI rfl ((m.b 0 rfl).lies1 aZ rfl) ?_;simp only[ev,zD,zE,zF,zG];refine aA (jU rfl rfl rfl) (aA (bL rfl rfl rfl) ?_);simp only[ev,zD,zE,zF,zG];refine aV m 2 rfl rfl rfl aN (b9 rfl) rfl ?_;clear m; intro u m; simp only[a8,zH,zI,zJ,zK,zL,zM,zN,zO,zP,zF,zG,Nat.reduceAdd] at m;refine aC (k6 _ _ ?_);refine wp_region_lit (aA (aX rfl rfl (aL (by omega) (by omega))) (aA (aB) (aC ?_)));simp only[ev,zD,zE,zF,zG];simp only[Exit.inBlock,Exit.then];refine ⟨ps.length - (k + 1),_,?_,rfl,?_,?_⟩
    · omega
    · simp only[zQ,zR,zD,zE,aK,aQ,aM,aP,zF,zG]
    ·
     simp only[zQ,zR,zD,zE];exact ⟨k + 1,rfl,(((m.re 3 rfl (by rw [L7 (by omega) hp]; exact (m.b 3 rfl))).re 2 rfl (by rw [L8 (by omega) hp]; exact (m.b 2 rfl))).sel [false,true,true,true]),by omega,rfl⟩
   ·
    have hk0 : 0 < k:=by omega
    refine wp_skip (k8 _ _ ?_);refine aF fun K11 k11=>wp_region_lit (aA (aG (c:=0) Tryz.underlying56 rfl aO rfl rfl) ?_);simp only[ev,zD,zE,zF,zG];refine aI rfl ((m.b 3 rfl).lies1 aZ rfl) ?_;simp only[ev,zD,zE,zF,zG];refine aA (aG (c:=0) Tryz.underlying56 rfl aO rfl rfl) ?_;simp only[ev,zD,zE,zF,zG];refine aI rfl ((m.b 0 rfl).lies1 aZ rfl) ?_;simp only[ev,zD,zE,zF,zG];refine aA (vR rfl rfl rfl) (aA (aG (c:=0) Tryz.underlying56 rfl aO rfl rfl) ?_);simp only[ev,zD,zE,zF,zG];refine aI rfl ((m.b 3 rfl).lies1 aZ rfl) ?_;simp only[ev,zD,zE,zF,zG];refine aA (aG (c:=0) Tryz.underlying56 rfl aO rfl rfl) ?_;simp only[ev,zD,zE,zF,zG];refine aI rfl ((m.b 0 rfl).lies1 aZ rfl) ?_;simp only[ev,zD,zE,zF,zG];refine aA (vR rfl rfl rfl) (aA (aG (c:=0) Tryz.underlying56 rfl aO rfl rfl) ?_);simp only[ev,zD,zE,zF,zG];refine aI rfl ((m.b 3 rfl).lies1 aZ rfl) ?_;simp only[ev,zD,zE,zF,zG];refine aA (aG (c:=0) Tryz.underlying56 rfl aO rfl rfl) ?_;simp only[ev,zD,zE,zF,zG];refine aI rfl ((m.b 0 rfl).lies1 aZ rfl) ?_;simp only[ev,zD,zE,zF,zG];refine aA (vR rfl rfl rfl) (aA (bL rfl rfl rfl) ?_);simp only[ev,zD,zE,zF,zG];refine aV m 3 rfl rfl rfl aN (b9 rfl) rfl ?_;clear m; intro u m; simp only[a8,zH,zI,zJ,zK,zL,zM,zN,zO,zP,zF,zG,Nat.reduceAdd] at m;refine aC (k11 _ _ ?_);refine wp_region_lit (aA (aG (c:=0) Tryz.underlying56 rfl aO rfl rfl) ?_);simp only[ev,zD,zE,zF,zG];refine aI rfl ((m.b 2 rfl).lies1 aZ rfl) ?_;simp only[ev,zD,zE,zF,zG];refine aA (aG (c:=0) Tryz.underlying56 rfl aO rfl rfl) ?_;simp only[ev,zD,zE,zF,zG];refine aI rfl ((m.b 0 rfl).lies1 aZ rfl) ?_;simp only[ev,zD,zE,zF,zG];refine aA (jU rfl rfl rfl) (aA (aG (c:=0) Tryz.underlying56 rfl aO rfl rfl) ?_);simp only[ev,zD,zE,zF,zG];refine aI rfl ((m.b 2 rfl).lies1 aZ rfl) ?_;simp only[ev,zD,zE,zF,zG];refine aA (aG (c:=0) Tryz.underlying56 rfl aO rfl rfl) ?_;simp only[ev,zD,zE,zF,zG];refine aI rfl ((m.b 0 rfl).lies1 aZ rfl) ?_;simp only[ev,zD,zE,zF,zG];refine aA (jU rfl rfl rfl) (aA (aG (c:=0) Tryz.underlying56 rfl aO rfl rfl) ?_);simp only[ev,zD,zE,zF,zG];refine aI rfl ((m.b 2 rfl).lies1 aZ rfl) ?_;simp only[ev,zD,zE,zF,zG];refine aA (aG (c:=0) Tryz.underlying56 rfl aO rfl rfl) ?_;simp only[ev,zD,zE,zF,zG];refine aI rfl ((m.b 0 rfl).lies1 aZ rfl) ?_;simp only[ev,zD,zE,zF,zG];refine aA (jU rfl rfl rfl) (aA (bL rfl rfl rfl) ?_);simp only[ev,zD,zE,zF,zG];refine aV m 2 rfl rfl rfl aN (b9 rfl) rfl ?_;clear m; intro u m; simp only[a8,zH,zI,zJ,zK,zL,zM,zN,zO,zP,zF,zG,Nat.reduceAdd] at m;refine aC (k6 _ _ ?_);refine wp_region_lit (aA (aX rfl rfl (aL (by omega) (by omega))) (aA (aB) (aC ?_)));simp only[ev,zD,zE,zF,zG];simp only[Exit.inBlock,Exit.then];refine ⟨ps.length - (k + 1),_,?_,rfl,?_,?_⟩
    · omega
    · simp only[zQ,zR,zD,zE,aK,aQ,aM,aP,zF,zG]
    ·
     simp only[zQ,zR,zD,zE];exact ⟨k + 1,rfl,(((m.re 3 rfl (by rw [L5 hp hk0]; exact (m.b 3 rfl))).re 2 rfl (by rw [L6 hp hk0]; exact (m.b 2 rfl))).sel [false,true,true,true]),by omega,rfl⟩
  ·
   have hkN : k = ps.length:=by omega
   rw [hkN,List.take_length] at m;refine wp_exit (k2 _ _ ?_);refine aF fun K12 k12=>?_;refine qL m [true,false,false] (.take 2 (.take 3 (.take 4 (.two 0 (.two 1 (.one 5 (.one 6 (.take 7 .nil))) 5 (.one 1 (.one 6 (.take 7 .nil)))) 1 (.one 0 (.one 5 (.one 6 (.take 7 .nil)))))))) aU (by kernel_rfl) (dN (fun _ _ _ _ _ h=>h)) ?_;clear m; intro u m;refine cN (by simp only[zS,zT,zU,zV]; rfl) (bQ (aB) (cZ (cN (by simp only[zS,zT,zU,zV]; rfl) (bQ (bM rfl Tryz.underlying48 rfl) (cZ (cN (by simp only[zS,zT,zU,zV]; rfl) (bQ (gJ rfl rfl) (cZ ?_))))))));simp only[ev,zD,zE,zF,zG];refine jZ (by simp only[zS,zT,zU,zV]; rfl) (by simp only[zS,zT,zU,zV]; rfl) ?_ ?_
   ·
    refine aI rfl ((m.b 2 rfl).full bC aN) ?_;simp only[ev,zD,zE,zF,zG];refine aC ?_;refine ⟨m.sel [true,false,false],?_⟩;refine jZ (by simp only[zS,zT,zU,zV]; rfl) (by simp only[zS,zT,zU,zV]; rfl) ?_ ?_
    ·
     refine aI rfl ((m.b 1 rfl).full bC aN) ?_;simp only[ev,zD,zE,zF,zG];refine aC ?_;refine ⟨m.sel [true,false,false],?_⟩;refine bY (by simp only[zS,zT,zU,zV]; rfl) (aV m 2 rfl rfl rfl aN (b9 rfl) rfl ?_);clear m; intro u m; simp only[a8,zH,zI,zJ,zK,zL,zM,zN,zO,zP,zF,zG,Nat.reduceAdd] at m;refine aC ?_;refine ⟨m.sel [true,false,false],?_⟩;refine bY (by simp only[zS,zT,zU,zV]; rfl) (aV m 1 rfl rfl rfl aN (b9 rfl) rfl ?_);clear m; intro u m; simp only[a8,zH,zI,zJ,zK,zL,zM,zN,zO,zP,zF,zG,Nat.reduceAdd] at m;refine aC ?_;refine ⟨m.sel [true,false,false],?_⟩;refine cN (by simp only[zS,zT,zU,zV]; rfl) (bQ (aD) (cZ (gM (k12 _ _ ?_))));refine wp_ret ?_;simp only[ev,zD,zE,zF,zG];try simp only[Exit.inBlock,Exit.then,if_true]
     refine uU rfl ⟨_,rfl,((m.b 2 rfl).full bC aN)⟩ ⟨_,rfl,((m.b 1 rfl).full bC aN)⟩ rfl ?_;try simp only[zD,zE]
     exact ⟨_,rfl,m.ext,by rw [Ce hmem,Cf hmem]; rfl⟩
    ·
     refine aV m 2 rfl rfl rfl aN (b9 rfl) rfl ?_;clear m; intro u m; simp only[a8,zH,zI,zJ,zK,zL,zM,zN,zO,zP,zF,zG,Nat.reduceAdd] at m;refine aC ?_;refine ⟨m.sel [true,false,false],?_⟩;refine bY (by simp only[zS,zT,zU,zV]; rfl) (aI rfl ((m.b 1 rfl).full bC aN) ?_);simp only[ev,zD,zE,zF,zG];refine aC ?_;refine ⟨m.sel [true,false,false],?_⟩;refine bY (by simp only[zS,zT,zU,zV]; rfl) (aV m 1 rfl rfl rfl aN (b9 rfl) rfl ?_);clear m; intro u m; simp only[a8,zH,zI,zJ,zK,zL,zM,zN,zO,zP,zF,zG,Nat.reduceAdd] at m;refine aC ?_;refine ⟨m.sel [true,false,false],?_⟩;refine cN (by simp only[zS,zT,zU,zV]; rfl) (bQ (aD) (cZ (gM (k12 _ _ ?_))));refine wp_ret ?_;simp only[ev,zD,zE,zF,zG];try simp only[Exit.inBlock,Exit.then,if_true]
     refine uU rfl ⟨_,rfl,((m.b 2 rfl).full bC aN)⟩ ⟨_,rfl,((m.b 1 rfl).full bC aN)⟩ rfl ?_;try simp only[zD,zE]
     exact ⟨_,rfl,m.ext,by rw [Ce hmem,Cf hmem]; rfl⟩
   ·
    refine aI rfl ((m.b 1 rfl).full bC aN) ?_;simp only[ev,zD,zE,zF,zG];refine aC ?_;refine ⟨m.sel [true,false,false],?_⟩;refine bY (by simp only[zS,zT,zU,zV]; rfl) (aI rfl ((m.b 2 rfl).full bC aN) ?_);simp only[ev,zD,zE,zF,zG];refine aC ?_;refine ⟨m.sel [true,false,false],?_⟩;refine bY (by simp only[zS,zT,zU,zV]; rfl) (aV m 2 rfl rfl rfl aN (b9 rfl) rfl ?_);clear m; intro u m; simp only[a8,zH,zI,zJ,zK,zL,zM,zN,zO,zP,zF,zG,Nat.reduceAdd] at m;refine aC ?_;refine ⟨m.sel [true,false,false],?_⟩;refine bY (by simp only[zS,zT,zU,zV]; rfl) (aV m 1 rfl rfl rfl aN (b9 rfl) rfl ?_);clear m; intro u m; simp only[a8,zH,zI,zJ,zK,zL,zM,zN,zO,zP,zF,zG,Nat.reduceAdd] at m;refine aC ?_;refine ⟨m.sel [true,false,false],?_⟩;refine cN (by simp only[zS,zT,zU,zV]; rfl) (bQ (aD) (cZ (gM (k12 _ _ ?_))));refine wp_ret ?_;simp only[ev,zD,zE,zF,zG];try simp only[Exit.inBlock,Exit.then,if_true]
    refine uU rfl ⟨_,rfl,((m.b 2 rfl).full bC aN)⟩ ⟨_,rfl,((m.b 1 rfl).full bC aN)⟩ rfl ?_;try simp only[zD,zE]
    exact ⟨_,rfl,m.ext,by rw [Ce hmem,Cf hmem]; rfl⟩
end Go.Proofs.YtimjandkmfcmiaaGreatDoor
namespace Go.Lith
open Go.RowKit
section
variable {P : Program} {ds : List Deferred} {l : List Value} {x y : Operand} {T T' U t ty : TypeId} {v z : Value}
theorem nS (h : P.concrete T = true) (hx : ev l x = v) : fF P l (.makeInterface T x) ty (.iface T v):=fun w o ho _=>by
 simp [execOp,ho,cC,hx,show (Instr.makeInterface T v).run P w = .ok (.iface T v) w from run_makeInterface (h:=h) ..]
theorem D8 (h : P.concrete U = true) (w : World) : (Instr.typeAssert (.iface U v) T U true).run P w = .ok (.tuple #[v,.bool true]) w:=by
 unfold Program.concrete at h;cases hd : P.underlying U with
 | none=>simp [hd] at h
 | some d=>cases d <;> first | (simp [hd] at h; done) | simp [Instr.typeAssert,run_underlying hd]
theorem D9 (h : P.concrete U = true) (hz : i7 P U z) (hne : t ≠ U) (w : World) : (Instr.typeAssert (.iface t v) T U true).run P w = .ok (.tuple #[z,.bool false]) w:=by
 unfold Program.concrete at h;obtain ⟨i,hi,hz⟩:=hz;cases hd : P.underlying U with
 | none=>simp [hd] at h
 | some d=>cases d <;> first | (simp [hd] at h; done) | simp [Instr.typeAssert,run_underlying hd,hne,zeroValue,typeInfo,hi,hz]
theorem tV (h : P.concrete U = true) (hx : ev l x = .iface U v) : fF P l (.typeAssert x T U true) ty (.tuple #[v,.bool true]):=fun w o ho _=>by
 simp [execOp,ho,cC,hx,D8 h]
theorem tW (h : P.concrete U = true) (hz : i7 P U z) (hne : (t == U) = false) (hx : ev l x = .iface t v) : fF P l (.typeAssert x T U true) ty (.tuple #[z,.bool false]):=fun w o ho _=>by
 simp [execOp,ho,cC,hx,D9 h hz (by simpa using hne)]
theorem Io {ms : Array (String × TypeId)} (hi : P.underlying T = some (.interface ms)) (w : World) : (binOp .eql T .nilIface .nilIface).run P w = .ok (.bool true) w:=by
 have h : ∀ d : Nat,(Op.equalIn (d + 1) T .nilIface .nilIface).run P w = .ok true w:=fun d=>by simp [Op.equalIn,run_underlying hi]
 simp only[binOp];simp [Op.equal,Op.maxDepth,h 9999]
theorem Ip {ms : Array (String × TypeId)} (hi : P.underlying T = some (.interface ms)) (w : World) : (binOp .eql T (.iface t v) .nilIface).run P w = .ok (.bool false) w:=by
 have h : ∀ d : Nat,(Op.equalIn (d + 1) T (.iface t v) .nilIface).run P w = .ok false w:=fun d=>by simp [Op.equalIn,run_underlying hi]
 simp only[binOp];simp [Op.equal,Op.maxDepth,h 9999]
theorem Pj {ms : Array (String × TypeId)} (hi : P.underlying T = some (.interface ms)) (hx : ev l x = .nilIface) : fF P l (.binOp .eql T x (.const .nilIface) T') ty (.bool true):=fun w o ho _=>by
 simp [execOp,ho,cC,hx,i8,eqGuard,Io hi]
theorem Co {ms : Array (String × TypeId)} (hi : P.underlying T = some (.interface ms)) (hx : ev l x = .iface t v) : fF P l (.binOp .eql T x (.const .nilIface) T') ty (.bool false):=fun w o ho _=>by
 simp [execOp,ho,cC,hx,i8,eqGuard,Ip hi]
end
section
variable {P : Program} {ds : List Deferred} {l : List Value} {ty : TypeId} {v u : Value}
variable {ops : Array Oper} {Q : Exit → Act → World → Prop} {rest : List Oper} {d : Nat} {pos : String} {after : Array Edge} {w w0 : World} {is : List It}
theorem lE {f : FuncId} {fo : Operand} {name : String} {args : List Value} {a0 : Array TypeId} (m : bU w0 w is) (hx : ev l fo = u) (hm : ∀ w : World,(invoke (.fn (.method name) #[]) #[u]).run P w = .ok (.enter f args.toArray) w) (hc : eI P f args v)
 (h : ∀ u,bU w0 u is → wpList P ops Q rest (Fr (l.set d v) ds) u) : wpList P ops Q (Oper.mk (some d) (.call { callee:=.invoke fo name,args:=#[],argTypes:=a0 }) ty pos after none :: rest) (Fr l ds) w:=by
 refine wpList_plain rfl fun K hK=>?_;unfold Oper.wp;have e : ∀ o : Oper,o.op = .call { callee:=.invoke fo name,args:=#[],argTypes:=a0 } → (execOp (Fr l).eval o).run P w = .ok (.enter f args.toArray) w:=fun o ho=>by
  have hm:=hm w;simp [execOp,ho,resolve,cC,hx,hm]
 rw [gH,e _ rfl];refine (hc w).2.mono ?_;rintro e w' ⟨v,rfl,hE,rfl⟩;show K ((Fr l ds).put (some d) v) w'
 rw [fV];exact hK _ _ (h w' (m.ext' hE))
end
section
variable {P : Program} {w0 : World} {is : List It} {l : List Value} {ty : TypeId} {u : Value}
variable {ops : Array Oper} {Q : Act → Prop} {rest : List Oper} {d : Nat} {pos : String} {after : Array Edge} {v : Value} {ds : List Deferred}
end
section
variable {P : Program} {l : List Value} {x y z : Operand} {ty : TypeId} {k : IntKind} {m n q r : Int}
theorem S6 {a0 : Array TypeId} (hx : ev l x = .int k m) (hy : ev l y = .int k n) (hz : ev l z = .int k q) (hr : (if q < (if n < m then n else m) then q else if n < m then n else m) = r) : fF P l (.call { callee:=.builtin .min,args:=#[x,y,z],argTypes:=a0 }) ty (.int k r):=fun w o ho _=>by
 subst hr;simp [execOp,ho,resolve,invoke,builtin,Builtin.min_,Builtin.min2,cC,hx,hy,hz]
theorem S7 {a0 : Array TypeId} (hx : ev l x = .int k m) (hy : ev l y = .int k n) (hz : ev l z = .int k q) (hr : (if (if m < n then n else m) < q then q else if m < n then n else m) = r) : fF P l (.call { callee:=.builtin .max,args:=#[x,y,z],argTypes:=a0 }) ty (.int k r):=fun w o ho _=>by
 subst hr;simp [execOp,ho,resolve,invoke,builtin,Builtin.max_,Builtin.max2,cC,hx,hy,hz]
end
theorem Qq {P : Program} {Q : Exit → Act → World → Prop} {l : List Value} {ds : List Deferred} {c1 c2 : Code} {w : World} {x : Operand} {p : Prop} [Decidable p] (hx : ev l x = .bool (!decide p)) (ht : ¬ p → c1.wp P Q (Fr l ds) w) (hf : p → c2.wp P Q (Fr l ds) w) : (Code.cond x c1 c2).wp P Q (Fr l ds) w :=
 cK (p:=¬ p) (by rw [hx,decide_not]) ht (fun h=>hf (Decidable.not_not.1 h))
end Go.Lith
namespace Go.Lith
open Go.RowKit
structure yC (r r' : e8) : Prop where
 ok : r'.ok ↔ r.ok
 hits : ∀ t,gE r' t ↔ gE r t
 cross : ∀ t,eL r' t = eL r t
 box : ∀ lo hi,mL r' lo hi = mL r lo hi
def e8.times (r : e8) (f : Int) : e8:=⟨⟨f * r.s.x,f * r.s.y,f * r.s.z⟩,f * r.w,r.d⟩
theorem tX {f n : Int} (hf : 0 < f) : dL (f * n) = dL n:=by
 rcases Int.lt_trichotomy n 0 with h | h | h
 · have:=Int.mul_neg_of_pos_of_neg hf h
   unfold dL
   repeat' split
   all_goals omega
 · subst h; rw [Int.mul_zero]
 · have:=Int.mul_pos hf h
   unfold dL
   repeat' split
   all_goals omega
theorem Mj {f g n : Int} {v : P3} (hf : 0 < f) (hg : 0 < g) : kR (f * n) ⟨g * v.x,g * v.y,g * v.z⟩ = kR n v:=by
 unfold kR;simp only[tX hf,tX hg]
theorem pO (r : e8) (f : Int) (p : P3) : (r.times f).to p = ⟨f * (r.to p).x,f * (r.to p).y,f * (r.to p).z⟩:=by
 simp only[e8.to,e8.times,P3.scl,P3.sub,P3.mk.injEq];refine ⟨?_,?_,?_⟩ <;> grind
theorem rF {f : Int} (hf : 0 < f) (d a b : P3) : oQ d ⟨f * a.x,f * a.y,f * a.z⟩ ⟨f * b.x,f * b.y,f * b.z⟩ = oQ d a b:=by
 have h1 : d.dot (P3.cross ⟨f * a.x,f * a.y,f * a.z⟩ ⟨f * b.x,f * b.y,f * b.z⟩) = f * f * d.dot (a.cross b):=by
  simp only[P3.dot,P3.cross]; grind
 have h2 : d.cross (P3.sub ⟨f * b.x,f * b.y,f * b.z⟩ ⟨f * a.x,f * a.y,f * a.z⟩) = ⟨f * (d.cross (b.sub a)).x,f * (d.cross (b.sub a)).y,f * (d.cross (b.sub a)).z⟩:=by
  simp only[P3.cross,P3.sub,P3.mk.injEq];refine ⟨?_,?_,?_⟩ <;> grind
 unfold oQ;rw [h1,h2];exact Mj (Int.mul_pos hf hf) hf
theorem s6 {r : e8} {f : Int} (hf : 0 < f) : (r.times f).ok ↔ r.ok:=by
 unfold e8.ok;refine and_congr ?_ Iff.rfl;refine ⟨fun h=>?_,fun h=>Int.mul_pos hf h⟩;rcases Int.lt_trichotomy r.w 0 with k | k | k
 · have:=Int.mul_neg_of_pos_of_neg hf k
   have h : 0 < f * r.w:=h;omega
 · have h : 0 < f * r.w:=h
   rw [k,Int.mul_zero] at h;omega
 · exact k
theorem Ai (r : e8) (f : Int) (t : T3) : lN (r.times f) t = f * lN r t:=by
 unfold lN;rw [pO];simp only[P3.dot]
 grind
theorem rG {r : e8} {f : Int} (hf : 0 < f) (t : T3) : gE (r.times f) t ↔ gE r t:=by
 have e : ∀ v : P3,kR (f * lN r t) v = kR (lN r t) v:=fun v=>by
  unfold kR;simp only[tX hf]
 unfold gE z6;rw [s6 hf,pO,pO,pO,show (r.times f).d = r.d from rfl,rF hf,rF hf,rF hf,Ai,e,show jT (r.times f) t = jT r t from rfl]
theorem uP {f n d : Int} (hf : 0 < f) : Rat.divInt (f * n) (f * d) = Rat.divInt n d:=Rat.divInt_mul_left (by omega)
theorem Ea {r : e8} {f : Int} (hf : 0 < f) (t : T3) : eL (r.times f) t = eL r t:=by
 unfold eL;by_cases h : gE r t
 · rw [if_pos h,if_pos ((rG hf t).2 h),Ai,show jT (r.times f) t = jT r t from rfl,show (r.times f).w = f * r.w from rfl,Int.mul_assoc,uP hf]
 · rw [if_neg h,if_neg (mt (rG hf t).1 h)]
theorem Fx {f n m : Int} (hf : 0 < f) : f * n < f * m ↔ n < m:=⟨fun h=>Int.lt_of_mul_lt_mul_left h (Int.le_of_lt hf),fun h=>Int.mul_lt_mul_of_pos_left h hf⟩
theorem Iq {f n m d : Int} (hf : 0 < f) : iY (f * n) (f * m) d ↔ iY n m d:=by
 have h1:=Fx (n:=m) (m:=n) hf;have h2:=Fx (n:=0) (m:=n) hf;have h3:=Fx (n:=m) (m:=0) hf;rw [Int.mul_zero] at h2 h3;unfold iY;rw [h1,h2,h3]
theorem Ir {r : e8} {f n m d : Int} (hf : 0 < f) (st : Rat × Option Rat) : L9 (r.times f) (f * n) (f * m) d st = L9 r n m d st:=by
 have e : ∀ k : Int,Rat.divInt (f * k) ((r.times f).w * d) = Rat.divInt k (r.w * d):=fun k=>by
  rw [show (r.times f).w = f * r.w from rfl,Int.mul_assoc,uP hf]
 unfold L9 Ch Ci;simp only[Iq hf,e]
theorem Is {r : e8} {f : Int} (hf : 0 < f) (lo hi : P3) (k : Nat) : uM (r.times f) lo hi k = uM r lo hi k:=by
 induction k with
 | zero=>rfl
 | succ k ih =>
  have e : ∀ p : P3,((r.times f).to p).at k = f * (r.to p).at k:=fun p=>by
   rw [pO];unfold P3.at;split <;> rfl
  rw [uM,uM,ih,e,e,show (r.times f).d = r.d from rfl]
  congr 1
  funext st
  exact Ir hf st
theorem Fy {r : e8} {f : Int} (hf : 0 < f) : yC r (r.times f):=by
 refine ⟨s6 hf,rG hf,Ea hf,fun lo hi=>?_⟩;unfold mL;rw [Is hf];by_cases h : r.ok
 · rw [if_pos h,if_pos ((s6 hf).2 h)]
 · rw [if_neg h,if_neg (mt (s6 hf).1 h)]
structure yD (n : Nat) (f g : Nat → Nat) (bs cs : List Int) (xs ys : List (List T3)) : Prop where
 lx : xs.length = n
 ly : ys.length = n
 fn : ∀ i,i < n → f i < n
 gn : ∀ i,i < n → g i < n
 fg : ∀ i,i < n → f (g i) = i
 gf : ∀ i,i < n → g (f i) = i
 at_ : ∀ i,i < n → ys[f i]? = xs[i]?
 bd : ∀ i,i < n → eB cs (f i) = eB bs i
theorem yD.symm {n : Nat} {f g : Nat → Nat} {bs cs : List Int} {xs ys : List (List T3)} (t : yD n f g bs cs xs ys) : yD n g f cs bs ys xs :=
 ⟨t.ly,t.lx,t.gn,t.fn,t.gf,t.fg,fun i hi=>by have:=t.at_ (g i) (t.gn i hi); rw [t.fg i hi] at this; exact this.symm,fun i hi=>by have:=t.bd (g i) (t.gn i hi); rw [t.fg i hi] at this; exact this.symm⟩
theorem yD.sure {n : Nat} {f g : Nat → Nat} {bs cs : List Int} {xs ys : List (List T3)} (t : yD n f g bs cs xs ys) {u : T3} (h : u ∈ bP bs xs) : u ∈ bP cs ys:=by
 obtain ⟨i,l,hi,hb,hu⟩:=mF.1 h;have hn : i < n:=by rw [← t.lx]; exact (List.getElem?_eq_some_iff.1 hi).1
 exact mF.2 ⟨f i,l,(t.at_ i hn).trans hi,(t.bd i hn).trans hb,hu⟩
theorem yD.rest {n : Nat} {f g : Nat → Nat} {bs cs : List Int} {xs ys : List (List T3)} (t : yD n f g bs cs xs ys) {i : Nat} {kd : Kd} (h : (i,kd) ∈ bX bs xs) : i < n ∧ (f i,kd) ∈ bX cs ys:=by
 obtain ⟨l,hi,e,ho⟩:=jH.1 h;have hn : i < n:=by rw [← t.lx]; exact (List.getElem?_eq_some_iff.1 hi).1
 exact ⟨hn,jH.2 ⟨l,(t.at_ i hn).trans hi,by rw [t.bd i hn]; exact e,ho⟩⟩
theorem yC.begin {r r' : e8} (s : yC r r') (kd : Kd) : gR r' kd = gR r kd:=by
 cases kd with
 | near lo hi=>rw [gR,gR,s.box]
 | _=>rfl
theorem yC.symm {r r' : e8} (s : yC r r') : yC r' r:=⟨s.ok.symm,fun t=>(s.hits t).symm,fun t=>(s.cross t).symm,fun lo hi=>(s.box lo hi).symm⟩
theorem xD {r r' : e8} (s : yC r r') {ts us : List T3} (h : ∀ u,u ∈ ts ↔ u ∈ us) : (bB r' us).isSome = (bB r ts).isSome ∧ lO (bB r' us) = lO (bB r ts):=by
 have k : ∀ {r r' : e8} {ts us : List T3},yC r r' → (∀ u,u ∈ ts → u ∈ us) → ∀ q j,bB r ts = some (q,j) → ∃ q' j',bB r' us = some (q',j') ∧ q' ≤ q:=by
  intro r r' ts us s h q j e;obtain ⟨t,ht,hh,hc⟩:=pL e;obtain ⟨q',j',e',hq⟩:=tQ (h t ht) ((s.hits t).2 hh);exact ⟨q',j',e',by rw [← hc,← s.cross]; exact hq⟩
 have k1:=k s (fun u=>(h u).1);have k2:=k s.symm (fun u=>(h u).2);cases e : bB r ts with
 | none =>
  cases e' : bB r' us with
  | none=>exact ⟨rfl,rfl⟩
  | some y =>
   obtain ⟨q,j,e2,_⟩:=k2 y.1 y.2 e';rw [e] at e2; cases e2
 | some x =>
  obtain ⟨q,j,e1,h1⟩:=k1 x.1 x.2 e;obtain ⟨q',j',e2,h2⟩:=k2 q j e1;rw [e] at e2;cases e2;rw [e1];exact ⟨rfl,Rat.le_antisymm h1 h2⟩
theorem Aj {r r' : e8} (s : yC r r') {n : Nat} {f g : Nat → Nat} {bs cs : List Int} {xs ys : List (List T3)} (t : yD n f g bs cs xs ys) {i : Nat} {q : Rat}
 (h : (i,q) ∈ dC r (bB r (bP bs xs)) (bX bs xs)) : i < n ∧ (f i,q) ∈ dC r' (bB r' (bP cs ys)) (bX cs ys):=by
 obtain ⟨kd,hm,hb,hlt⟩:=jI.1 h;obtain ⟨hn,hm'⟩:=t.rest hm;refine ⟨hn,jI.2 ⟨kd,hm',(s.begin kd).trans hb,fun T k e=>?_⟩⟩;obtain ⟨h1,h2⟩:=xD s (ts:=bP bs xs) (us:=bP cs ys) fun u=>⟨t.sure,t.symm.sure⟩
 rw [e] at h1 h2;cases e2 : bB r (bP bs xs) with
 | none=>rw [e2] at h1; cases h1
 | some y =>
  rw [e2] at h2;have h2 : T = y.1:=h2;rw [h2];exact hlt y.1 y.2 e2
theorem Mk {xs ys : List (Nat × Rat)} (h : ∀ q,(∃ i,(i,q) ∈ xs) ↔ ∃ i,(i,q) ∈ ys) : qB xs = qB ys:=by
 have key : ∀ {xs ys : List (Nat × Rat)},(∀ q,(∃ i,(i,q) ∈ xs) → ∃ i,(i,q) ∈ ys) → xs ≠ [] → qB ys ≤ qB xs:=by
  intro xs ys h hx;obtain ⟨x,hm,e⟩:=Cj hx;obtain ⟨i,hi⟩:=h x.2 ⟨x.1,hm⟩;rw [e];exact Mb (x:=(i,x.2)) hi
 cases xs with
 | nil =>
  cases ys with
  | nil=>rfl
  | cons y ys =>
   obtain ⟨i,hi⟩:=(h y.2).2 ⟨y.1,List.mem_cons_self ..⟩;cases hi
 | cons x xs =>
  have hy : ys ≠ []:=fun e=>by
   obtain ⟨i,hi⟩:=(h x.2).1 ⟨x.1,List.mem_cons_self ..⟩;rw [e] at hi; cases hi
  exact Rat.le_antisymm (key (fun q=>(h q).2) hy) (key (fun q=>(h q).1) (by simp))
theorem vH (bs : List Int) (ls : List (List T3)) : ((bX bs ls).map (·.1)).Pairwise (· < ·) ∧ ∀ x ∈ bX bs ls,x.1 < ls.length:=by
 have H : ∀ k,k ≤ ls.length → ((bX bs (ls.take k)).map (·.1)).Pairwise (· < ·) ∧ ∀ x ∈ bX bs (ls.take k),x.1 < k:=by
  intro k
  induction k with
  | zero=>exact fun _=>⟨.nil,fun x h=>by simp [bX] at h⟩
  | succ k ih =>
   intro hk;obtain ⟨h1,h2⟩:=ih (by omega);obtain ⟨l,hl⟩ : ∃ l,ls[k]? = some l:=⟨_,List.getElem?_eq_getElem (by omega)⟩
   rw [lX hl];split
   · refine ⟨?_,fun x hx=>?_⟩
     · rw [List.map_append,List.pairwise_append]
       refine ⟨h1,List.pairwise_singleton ..,fun a ha b hb=>?_⟩;obtain ⟨x,hx,rfl⟩:=List.mem_map.1 ha;rw [List.mem_singleton.1 hb];exact h2 x hx
     · rcases List.mem_append.1 hx with hx | hx
       · have:=h2 x hx; omega
       · rw [List.mem_singleton.1 hx]; exact Nat.lt_succ_self k
   · rw [List.append_nil]
     exact ⟨h1,fun x hx=>by have:=h2 x hx; omega⟩
 have h:=H ls.length (Nat.le_refl _);rwa [List.take_length] at h
theorem Ak {r : e8} {h : Option (Rat × Nat)} {x : Nat × Kd} : ∀ y ∈ mE r h x,y.1 = x.1:=by
 intro y hy;unfold mE at hy;split at hy
 · cases hy
 · split at hy
   · rw [List.mem_singleton.1 hy]
   · split at hy
     · rw [List.mem_singleton.1 hy]
     · cases hy
theorem vI {r : e8} {h : Option (Rat × Nat)} : ∀ {xs : List (Nat × Kd)},(xs.map (·.1)).Pairwise (· < ·) → ((dC r h xs).map (·.1)).Pairwise (· < ·)
 | [],_=>.nil
 | x :: xs,hp=>by
  have hp:=List.pairwise_cons.1 hp;unfold dC;rw [List.flatMap_cons,List.map_append,List.pairwise_append];refine ⟨?_,vI hp.2,fun a ha b hb=>?_⟩
  · have:=Ag (r:=r) (h:=h) (x:=x)
    match hk : mE r h x,this with
    | [],_=>exact .nil
    | [y],_=>exact List.pairwise_singleton ..
  · obtain ⟨y,hy,rfl⟩:=List.mem_map.1 ha
    obtain ⟨z,hz,rfl⟩:=List.mem_map.1 hb;obtain ⟨u,hu,hz⟩:=List.mem_flatMap.1 hz;rw [Ak y hy,Ak z hz];exact hp.1 _ (List.mem_map_of_mem hu)
theorem Fz {α β : Type} [DecidableEq β] {f : α → β} {xs : List α} {ys : List β} (hn : xs.Pairwise (fun a b=>f a ≠ f b)) (h : ∀ x ∈ xs,f x ∈ ys) : xs.length ≤ ys.length:=by
 have h1 : (xs.map f).Nodup:=by
  unfold List.Nodup;rw [List.pairwise_map];exact hn
 have h2:=List.Nodup.length_le_of_subset h1 (l₂:=ys) fun y hy=>by
  obtain ⟨x,hx,rfl⟩:=List.mem_map.1 hy;exact h x hx
 rwa [List.length_map] at h2
theorem F0 {r r' : e8} (s : yC r r') {n : Nat} {f g : Nat → Nat} {bs cs : List Int} {xs ys : List (List T3)} (t : yD n f g bs cs xs ys) :
 (cL r xs bs).kind = (cL r' ys cs).kind ∧ (cL r xs bs).lo = (cL r' ys cs).lo ∧ (cL r xs bs).hi = (cL r' ys cs).hi ∧ (cL r xs bs).sure = (cL r' ys cs).sure ∧
 (cL r xs bs).opn.length = (cL r' ys cs).opn.length ∧ (∀ i ∈ (cL r xs bs).opn,∃ k : Nat,i = (k : Int) ∧ k < n ∧ ((f k : Nat) : Int) ∈ (cL r' ys cs).opn):=by
 unfold cL;by_cases hok : r.ok
 · rw [if_pos hok,if_pos (s.ok.2 hok)]
   have K1:=fun i q=>Aj s t (i:=i) (q:=q);have K2:=fun i q=>Aj s.symm t.symm (i:=i) (q:=q);obtain ⟨h1,h2⟩:=xD s (ts:=bP bs xs) (us:=bP cs ys) fun u=>⟨t.sure,t.symm.sure⟩
   have u1:=vI (r:=r) (h:=bB r (bP bs xs)) (vH bs xs).1;have u2:=vI (r:=r') (h:=bB r' (bP cs ys)) (vH cs ys).1;generalize bB r (bP bs xs) = h at *
   generalize bB r' (bP cs ys) = h' at *
   generalize dC r h (bX bs xs) = o at *
   generalize dC r' h' (bX cs ys) = o' at *
   have hlo : qB o = qB o':=Mk fun q=>⟨fun ⟨i,hi⟩=>⟨f i,(K1 i q hi).2⟩,fun ⟨i,hi⟩=>⟨g i,(K2 i q hi).2⟩⟩
   have nil : o = [] ↔ o' = []:=by
    constructor <;> (intro e; refine List.eq_nil_iff_forall_not_mem.2 fun ⟨i,q⟩ hx=>?_)
    · have:=(K2 i q hx).2; rw [e] at this; cases this
    · have:=(K1 i q hx).2; rw [e] at this; cases this
   have L1 : ∀ {o o' : List (Nat × Rat)} {f g : Nat → Nat},(∀ i,i < n → g (f i) = i) → (∀ i q,(i,q) ∈ o → i < n ∧ (f i,q) ∈ o') → (o.map (·.1)).Pairwise (· < ·) → o.length ≤ o'.length:=by
    intro o o' f g hgf hK hu;have hb : ∀ x ∈ o,x.1 < n:=fun x hx=>(hK x.1 x.2 hx).1;rw [show o'.length = (o'.map (·.1)).length from (List.length_map ..).symm];refine Fz (f:=fun x : Nat × Rat=>f x.1) ?_ fun x hx=>List.mem_map.2 ⟨(f x.1,x.2),(hK x.1 x.2 hx).2,rfl⟩;rw [List.pairwise_map] at hu;refine hu.imp_of_mem fun {a b} ha hb' hlt e=>?_;have:=congrArg g e;rw [hgf _ (hb a ha),hgf _ (hb b hb')] at this;omega
   have hlen : o.length = o'.length:=Nat.le_antisymm (L1 t.gf K1 u1) (L1 t.fg K2 u2);unfold sW;by_cases ho : o = []
   · have ho':=nil.1 ho
     subst ho ho';rw [if_neg (fun h=>h rfl),if_neg (fun h=>h rfl)];cases h with
     | none =>
      cases h' with
      | none=>exact ⟨rfl,rfl,rfl,rfl,rfl,fun i hi=>by cases hi⟩
      | some y=>cases h1
     | some x =>
      cases h' with
      | none=>cases h1
      | some y =>
       have h2 : y.1 = x.1:=h2;refine ⟨rfl,h2.symm,h2.symm,rfl,rfl,fun i hi=>by cases hi⟩
   · rw [if_pos ho,if_pos (mt nil.2 ho)]
     refine ⟨rfl,hlo,h2.symm,h1.symm,by simp only[List.length_map,hlen],fun i hi=>?_⟩;obtain ⟨x,hx,rfl⟩:=List.mem_map.1 hi;obtain ⟨hn,hx'⟩:=K1 x.1 x.2 hx;exact ⟨x.1,rfl,hn,List.mem_map.2 ⟨_,hx',rfl⟩⟩
 · rw [if_neg hok,if_neg (mt s.ok.1 hok)]
   exact ⟨rfl,rfl,rfl,rfl,rfl,fun i hi=>by cases hi⟩
theorem Ml (r : e8) (xs : List (List T3)) (bs : List Int) : (cL r xs bs).opn.Pairwise (· < ·) ∧ ∀ i ∈ (cL r xs bs).opn,0 ≤ i ∧ i < xs.length:=by
 unfold cL;split
 · have u1:=vI (r:=r) (h:=bB r (bP bs xs)) (vH bs xs).1
   unfold sW;split
   · refine ⟨?_,fun i hi=>?_⟩
     · have e : (dC r (bB r (bP bs xs)) (bX bs xs)).map (fun x=>(x.1 : Int)) = ((dC r (bB r (bP bs xs)) (bX bs xs)).map (·.1)).map (fun k : Nat=>(k : Int)):=by rw [List.map_map]; rfl
       show ((dC r (bB r (bP bs xs)) (bX bs xs)).map (fun x=>(x.1 : Int))).Pairwise (· < ·)
       rw [e,List.pairwise_map];exact u1.imp fun h=>by omega
     · obtain ⟨x,hx,rfl⟩:=List.mem_map.1 hi
       obtain ⟨kd,hm,_⟩:=jI.1 (show (x.1,x.2) ∈ _ from hx);have:=(vH bs xs).2 _ hm;simp only at this;omega
   · split
     · exact ⟨.nil,fun i hi=>by cases hi⟩
     · exact ⟨.nil,fun i hi=>by cases hi⟩
 · exact ⟨.nil,fun i hi=>by cases hi⟩
end Go.Lith
namespace Go.Lith
open Go.RowKit
def P3.sh (p v : P3) : P3:=⟨p.x + v.x,p.y + v.y,p.z + v.z⟩
def T3.sh (v : P3) (t : T3) : T3:=⟨t.a.sh v,t.b.sh v,t.c.sh v⟩
end Go.Lith
namespace Go.Lith
open Go.RowKit
def fD (n : Nat) : Nat → List T3 → List (List T3)
 | 0,_=>[]
 | k + 1,l=>if l = [] then [] else l.take n :: fD n k (l.drop n)
theorem xE {n : Nat} : ∀ {k : Nat} {l x : List T3},x ∈ fD n k l → ∀ t ∈ x,t ∈ l
 | 0,_,_,h=>by cases h
 | k + 1,l,x,h=>by
  unfold fD at h;split at h
  · cases h
  · rcases List.mem_cons.1 h with rfl | h
    · exact fun t ht=>List.mem_of_mem_take ht
    · exact fun t ht=>List.mem_of_mem_drop (xE h t ht)
theorem tY {n : Nat} : ∀ {k : Nat} {l : List T3},(fD n k l).length ≤ k
 | 0,_=>Nat.le_refl _
 | k + 1,l=>by
  unfold fD;split
  · exact Nat.zero_le _
  · exact Nat.succ_le_succ tY
theorem xF {n : Nat} : ∀ {k : Nat} {l x : List T3},x ∈ fD n k l → x.length ≤ n
 | 0,_,_,h=>by cases h
 | k + 1,l,x,h=>by
  unfold fD at h;split at h
  · cases h
  · rcases List.mem_cons.1 h with rfl | h
    · rw [List.length_take]; exact Nat.min_le_left _ _
    · exact xF h
theorem Eb {n k : Nat} {l : List T3} (h : l ≠ []) : fD n (k + 1) l = l.take n :: fD n k (l.drop n):=if_neg h
theorem F1 {n k : Nat} : fD n k [] = []:=by cases k <;> rfl
def jP (zs : List Int) (i : Nat) : Int:=if zs = [] then 0 else if ((zs[(i * i + i) % zs.length]?).getD 0).tmod 50 < -1 then -1 else ((zs[(i * i + i) % zs.length]?).getD 0).tmod 50
def gG (n : Nat) (zs : List Int) : List Int:=(List.range n).map (jP zs)
theorem Cp (zs : List Int) (i : Nat) : -1 ≤ jP zs i ∧ jP zs i ≤ 49:=by
 unfold jP;split
 · omega
 · have:=qN (n:=(zs[(i * i + i) % zs.length]?).getD 0) (m:=50) (by decide)
   split <;> omega
theorem Pk (n : Nat) (zs : List Int) : (gG n zs).length = n:=by simp [gG]
theorem Gy {n i : Nat} {zs : List Int} (h : i < n) : (gG n zs)[i]? = some (jP zs i):=by
 unfold gG;rw [List.getElem?_map,List.getElem?_range h];rfl
theorem xG {n i : Nat} {zs : List Int} (h : i < n) : eB (gG n zs) i = jP zs i:=by rw [eB,Gy h]; rfl
theorem S8 (n : Nat) (zs : List Int) : ∀ z ∈ gG n zs,-1 ≤ z ∧ z ≤ 49:=fun z hz=>by
 obtain ⟨i,_,rfl⟩:=List.mem_map.1 hz;exact Cp zs i
def oU (ss : List P3) (b : Int) (i : Nat) : P3:=let v:=(ss[i % ss.length]?).getD ⟨0,0,0⟩; ⟨v.x.tmod (b.tdiv 2 + 1),v.y.tmod (b.tdiv 2 + 1),v.z.tmod (b.tdiv 2 + 1)⟩
def fL (ss : List P3) (b : Int) (i : Nat) (l : List T3) : List T3:=if b < 0 then [] else if 0 < b ∧ ss ≠ [] then l.map (T3.sh (oU ss b i)) else l
theorem Cq {ss : List P3} {b : Int} {i : Nat} (h0 : 0 < b) (h1 : b ≤ 49) : (-b ≤ (oU ss b i).x ∧ (oU ss b i).x ≤ b) ∧ (-b ≤ (oU ss b i).y ∧ (oU ss b i).y ≤ b) ∧ (-b ≤ (oU ss b i).z ∧ (oU ss b i).z ≤ b):=by
 have e : b.tdiv 2 = b / 2:=Int.tdiv_eq_ediv_of_nonneg (by omega);have h2 : 0 < b.tdiv 2 + 1:=by omega
 have h3 : b.tdiv 2 ≤ b:=by omega
 have k:=fun n : Int=>qN (n:=n) (m:=b.tdiv 2 + 1) h2;unfold oU;generalize (ss[i % ss.length]?).getD ⟨0,0,0⟩ = v;have k1:=k v.x;have k2:=k v.y;have k3:=k v.z;simp only;omega
theorem S9 {ps : List P3} {p : P3} (h : p ∈ ps) : (uK ps).x ≤ p.x ∧ (uK ps).y ≤ p.y ∧ (uK ps).z ≤ p.z:=by
 cases ps with
 | nil=>cases h
 | cons q ps=>exact (sT ps q).1 p h
theorem Ta {ps : List P3} {p : P3} (h : p ∈ ps) : p.x ≤ (uL ps).x ∧ p.y ≤ (uL ps).y ∧ p.z ≤ (uL ps).z:=by
 cases ps with
 | nil=>cases h
 | cons q ps=>exact (sU ps q).1 p h
theorem lY {b : Int} {m : List T3} {p v : P3} (h : p.sh v ∈ fN m) (hv : (-b ≤ v.x ∧ v.x ≤ b) ∧ (-b ≤ v.y ∧ v.y ≤ b) ∧ (-b ≤ v.z ∧ v.z ≤ b)) : pM b m p:=by
 have h1:=S9 h;have h2:=Ta h;simp only[P3.sh] at h1 h2;unfold pM P3.le;simp only[P3.sub,P3.pls,P3.all];omega
theorem Gz {m : List T3} {t : T3} (h : t ∈ m) : t.a ∈ fN m ∧ t.b ∈ fN m ∧ t.c ∈ fN m :=
 ⟨List.mem_flatMap.2 ⟨t,h,by simp⟩,List.mem_flatMap.2 ⟨t,h,by simp⟩,List.mem_flatMap.2 ⟨t,h,by simp⟩⟩
theorem Cr (p : P3) : p.sh ⟨0,0,0⟩ = p:=by simp [P3.sh]
theorem F2 {ss : List P3} {b : Int} {i : Nat} {l : List T3} (h0 : 0 < b) (h1 : b ≤ 49) : ∀ t ∈ l,fL ss b i l ≠ [] ∧ pM b (fL ss b i l) t.a ∧ pM b (fL ss b i l) t.b ∧ pM b (fL ss b i l) t.c:=by
 intro t ht;unfold fL;rw [if_neg (by omega)];split
 · have hm : t.sh (oU ss b i) ∈ l.map (T3.sh (oU ss b i)):=List.mem_map_of_mem ht
   obtain ⟨c1,c2,c3⟩:=Gz hm;have hv:=Cq (ss:=ss) (i:=i) h0 h1;exact ⟨fun e=>(by rw [e] at hm; cases hm),lY c1 hv,lY c2 hv,lY c3 hv⟩
 · obtain ⟨c1,c2,c3⟩:=Gz ht
   have hv : (-b ≤ (⟨0,0,0⟩ : P3).x ∧ (⟨0,0,0⟩ : P3).x ≤ b) ∧ (-b ≤ (⟨0,0,0⟩ : P3).y ∧ (⟨0,0,0⟩ : P3).y ≤ b) ∧ (-b ≤ (⟨0,0,0⟩ : P3).z ∧ (⟨0,0,0⟩ : P3).z ≤ b):=by
    simp only; omega
   rw [← Cr t.a] at c1;rw [← Cr t.b] at c2;rw [← Cr t.c] at c3;exact ⟨fun e=>(by rw [e] at ht; cases ht),lY c1 hv,lY c2 hv,lY c3 hv⟩
def cY (ss : List P3) (bs : List Int) (fine : List (List T3)) : List (List T3):=fine.mapIdx fun i l=>fL ss (eB bs i) i l
theorem kE (ss : List P3) (bs : List Int) (fine : List (List T3)) : (cY ss bs fine).length = fine.length:=by simp [cY]
theorem kF {ss : List P3} {bs : List Int} {fine : List (List T3)} {i : Nat} {l : List T3} (h : fine[i]? = some l) : (cY ss bs fine)[i]? = some (fL ss (eB bs i) i l):=by
 simp [cY,h]
theorem shows {ss : List P3} {bs : List Int} {fine : List (List T3)} (hb : ∀ i,i < fine.length → eB bs i ≤ 49) : s5 bs fine (cY ss bs fine):=by
 refine ⟨kE ..,fun i l hl h0=>?_,fun i l hl h0=>?_⟩
 · rw [kF hl,h0,fL,if_neg (by decide),if_neg (by omega)]
 · exact ⟨_,kF hl,F2 h0 (hb i (List.getElem?_eq_some_iff.1 hl).1)⟩
structure Cs (os : List Int) (bs bs' : List Int) (fine xs xs' : List (List T3)) : Prop where
 len : xs'.length = xs.length
 on : ∀ i : Nat,(i : Int) ∈ os → xs'[i]? = fine[i]? ∧ eB bs' i = 0
 off : ∀ i : Nat,(i : Int) ∉ os → xs'[i]? = xs[i]? ∧ eB bs' i = eB bs i
theorem Cs.shows {os bs bs' : List Int} {fine xs xs' : List (List T3)} (r : Cs os bs bs' fine xs xs') (s : s5 bs fine xs) : s5 bs' fine xs':=by
 refine ⟨r.len.trans s.len,fun i l hl h0=>?_,fun i l hl h0=>?_⟩
 · by_cases h : (i : Int) ∈ os
   · rw [(r.on i h).1]; exact hl
   · rw [(r.off i h).1]; rw [(r.off i h).2] at h0; exact s.ex i l hl h0
 · have h : (i : Int) ∉ os:=fun h=>by have:=(r.on i h).2; omega
   rw [(r.off i h).2] at h0 ⊢;rw [(r.off i h).1];exact s.near i l hl h0
theorem Pm {r : e8} {xs : List (List T3)} {bs : List Int} {i : Int} (h : i ∈ (cL r xs bs).opn) : ∃ k : Nat,i = (k : Int) ∧ k < xs.length ∧ eB bs k ≠ 0:=by
 unfold cL at h;split at h
 · unfold sW at h
   split at h
   · obtain ⟨x,hx,rfl⟩:=List.mem_map.1 h
     obtain ⟨kd,hm,_⟩:=jI.1 (show (x.1,x.2) ∈ _ from hx);obtain ⟨l,hl,e,ho⟩:=jH.1 hm;refine ⟨x.1,rfl,(List.getElem?_eq_some_iff.1 hl).1,fun h0=>?_⟩;rw [e,h0,tF,if_neg (by decide),if_pos rfl] at ho;cases ho
   · split at h <;> cases h
 · cases h
theorem Cs.done {r : e8} {bs bs' : List Int} {fine xs xs' : List (List T3)} (p : Cs (cL r xs bs).opn bs bs' fine xs xs') : (cL r xs' bs').kind ≠ 3:=by
 by_cases hok : r.ok
 · refine S0.done (bs:=bs) (xs:=xs) ⟨fun t ht=>?_,fun i kd hm=>?_⟩
   · obtain ⟨i,l,hi,hb,htl⟩:=mF.1 ht
     have h : (i : Int) ∉ (cL r xs bs).opn:=fun h=>by
      obtain ⟨k,e,_,h0⟩:=Pm h;obtain rfl : i = k:=by omega
      exact h0 hb
     exact mF.2 ⟨i,l,by rw [(p.off i h).1]; exact hi,by rw [(p.off i h).2]; exact hb,htl⟩
   · obtain ⟨l,hl,e,ho⟩:=jH.1 hm
     have h : (i : Int) ∉ (cL r xs bs).opn:=fun h=>by
      rw [e,(p.on i h).2,tF,if_neg (by decide),if_pos rfl] at ho;cases ho
     refine ⟨jH.2 ⟨l,by rw [← (p.off i h).1]; exact hl,by rw [← (p.off i h).2]; exact e,ho⟩,fun q hq=>h ?_⟩;unfold cL sW;rw [if_pos hok,if_pos (fun e=>by rw [e] at hq; cases hq)];exact List.mem_map.2 ⟨(i,q),hq,rfl⟩
 · unfold cL
   rw [if_neg hok];exact fun e=>by simp [kD.miss] at e
end Go.Lith
namespace Go.Proofs.YtimjandkmfcmiaaGreatDoor
open Go.RowKit Go.Lith
set_option maxRecDepth 100000
attribute [local irreducible] wpList wpQuiet dV dK dI Code.wp
def V9 (i : Nat) : Kd → Go.Value
 | .no=>.nilIface
 | .ex=>.iface 69 (.agg #[.int .i64 (i : Int)])
 | .unk=>.iface 83 (.agg #[.int .i64 (i : Int)])
 | .near lo hi=>.iface 88 (.agg #[.int .i64 (i : Int),.int .i64 lo.x,.int .i64 lo.y,.int .i64 lo.z,.int .i64 hi.x,.int .i64 hi.y,.int .i64 hi.z])
def Iu : Kd → Prop
 | .near lo hi=>I3 lo ∧ I3 hi
 | _=>True
theorem G0 {ps : List P3} (h : ps ≠ []) (hi : ∀ p ∈ ps,I3 p) : I3 (uK ps) ∧ I3 (uL ps):=by
 cases ps with
 | nil=>exact absurd rfl h
 | cons p ps =>
  obtain ⟨_,⟨a,ha,ea⟩,⟨b,hb,eb⟩,⟨c,hc,ec⟩⟩:=sT ps p;obtain ⟨_,⟨d,hd,ed⟩,⟨e,he,ee⟩,⟨f,hf,ef⟩⟩:=sU ps p;exact ⟨⟨(show (uK (p :: ps)).x = a.x from ea) ▸ (hi a ha).x,(show (uK (p :: ps)).y = b.y from eb) ▸ (hi b hb).y,(show (uK (p :: ps)).z = c.z from ec) ▸ (hi c hc).z⟩,
   ⟨(show (uL (p :: ps)).x = d.x from ed) ▸ (hi d hd).x,(show (uL (p :: ps)).y = e.y from ee) ▸ (hi e he).y,(show (uL (p :: ps)).z = f.z from ef) ▸ (hi f hf).z⟩⟩
theorem Wa {l : List T3} {b : Int} (hl : ∀ t ∈ l,IT t) (h0 : b < 9223372036854775808) : Iu (tF l b):=by
 unfold tF
 repeat' split
 all_goals try trivial
 rename_i h1 h2 h3 hf;have h3 : fN l ≠ []:=by
  cases l with
  | nil=>exact absurd rfl h3
  | cons t l=>simp [fN]
 have hi : ∀ p ∈ fN l,I3 p:=fun p hp=>by
  obtain ⟨t,ht,hp⟩:=List.mem_flatMap.1 hp;have:=hl t ht;simp only[List.mem_cons,List.not_mem_nil,or_false] at hp;rcases hp with rfl | rfl | rfl
  · exact this.a
  · exact this.b
  · exact this.c
 obtain ⟨k1,k2⟩:=G0 h3 hi;unfold sV at hf;obtain ⟨⟨a1,a2⟩,⟨a3,a4⟩,a5,a6⟩:=k1;obtain ⟨⟨b1,b2⟩,⟨b3,b4⟩,b5,b6⟩:=k2;refine ⟨⟨⟨?_,?_⟩,⟨?_,?_⟩,⟨?_,?_⟩⟩,⟨⟨?_,?_⟩,⟨?_,?_⟩,⟨?_,?_⟩⟩⟩ <;> (simp only[P3.sub,P3.pls,P3.all]; omega)
theorem Wb (l : List T3) : fN l = jF l:=rfl
theorem Mm {l : List T3} (h : jF l = []) : l = []:=by
 cases l with
 | nil=>rfl
 | cons t l=>simp [jF] at h
theorem Pn {l : List T3} (hl : ∀ t ∈ l,IT t) : ∀ p ∈ jF l,I3 p:=fun p hp=>by
 obtain ⟨t,ht,hp⟩:=List.mem_flatMap.1 hp;have:=hl t ht;simp only[List.mem_cons,List.not_mem_nil,or_false] at hp;rcases hp with rfl | rfl | rfl
 · exact this.a
 · exact this.b
 · exact this.c
theorem Tb (i : Int) (w : World) : (invoke (.fn (.method "lithophane/trace.number") #[]) #[.iface 83 (.agg #[.int .i64 i])]).run Tryz.prog w = .ok (.enter 202 [.int .i64 i].toArray) w:=by kernel_rfl
theorem Tc (i a b c d e f : Int) (w : World) : (invoke (.fn (.method "lithophane/trace.number") #[]) #[.iface 88 (.agg #[.int .i64 i,.int .i64 a,.int .i64 b,.int .i64 c,.int .i64 d,.int .i64 e,.int .i64 f])]).run Tryz.prog w = .ok (.enter 202 [.int .i64 i].toArray) w:=by kernel_rfl
theorem lF {i : Nat} {kd : Kd} (h : kd.other = true) (w : World) : (invoke (.fn (.method "lithophane/trace.number") #[]) #[V9 i kd]).run Tryz.prog w = .ok (.enter 202 [.int .i64 (i : Int)].toArray) w:=by
 cases kd with
 | no=>cases h
 | ex=>cases h
 | unk=>exact Tb i w
 | near lo hi=>exact Tc i _ _ _ _ _ _ w
theorem iF {i : Int} : eI Tryz.prog 202 [.int .i64 i] (.int .i64 i):=by
 intro w;refine ⟨Rs,?_⟩;have m:=bU.refl w
 go_enter Tryz.func202,Tryz.ntmps202
 refine aF fun K1 k1=>wp_region_lit (aA (aD) (aC (k1 _ _ ?_)));refine aF fun K2 k2=>wp_region_lit (aA (aB) (aA (aD) (aC (k2 _ _ ?_))));refine wp_ret ?_;simp only[ev,zD,zE,zF,zG];try simp only[Exit.inBlock,Exit.then,if_true]
 refine bT rfl rfl ?_;try simp only[zD,zE]
 exact ⟨_,rfl,m.ext,rfl⟩
theorem Ct  : eI Tryz.prog 25 [] (Q 0):=by
 intro w;refine ⟨T7,?_⟩;have m:=bU.refl w
 go_enter Tryz.func25,Tryz.ntmps25
 refine aF fun K1 k1=>wp_region_lit (bN m fJ rfl ?_);clear m; intro g1 u m;refine aC (k1 _ _ ?_);refine aF fun K2 k2=>?_;simp only[ev,zD,zE,zF,zG];haveI : Iw (1 : Int):=⟨⟨by decide,by decide⟩⟩
 refine wp_region_lit (bH m rfl rfl (i6 (n:=1) Iw.h) ?_);clear m; intro u m;refine aA (Bh rfl) ?_;simp only[ev,zD,zE,zF,zG];refine aV m 0 rfl rfl rfl aS (b9 rfl) rfl ?_;clear m; intro u m; simp only[a8,zH,zI,zJ,zK,zL,zM,zN,zO,zP,zF,zG,Nat.reduceAdd] at m;refine aC (k2 _ _ ?_);refine wp_ret ?_;try simp only[Exit.inBlock,Exit.then,if_true]
 refine bT rfl ⟨_,rfl,((m.b 0 rfl).full bG aS)⟩ ?_;try simp only[zD,zE]
 exact ⟨_,rfl,m.ext,rfl⟩
theorem Td {lo hi : P3} {bd : Int} [I3 lo] [I3 hi] (h0 : 0 < bd) (h1 : bd < 9223372036854775808) : eI Tryz.prog 42 [pt lo,pt hi,.int .i64 bd] (.bool (decide (sV lo hi bd))):=by
 intro w;refine ⟨Ui,?_⟩;have m:=bU.refl w
 go_enter Tryz.func42,Tryz.ntmps42
 refine aF fun K1 k1=>wp_region_lit (dJ m rfl ?_);clear m; intro g1 u m;simp only[ev,zD,zE,zF,zG];refine dJ m rfl ?_;clear m; intro g2 u m;refine aA (aD) (aC (k1 _ _ ?_));refine aF fun K2 k2=>wp_region_lit (aA (aG (c:=0) Tryz.underlying56 rfl aO rfl rfl) ?_);simp only[ev,zD,zE,zF,zG];refine aI rfl ((m.b 1 rfl).lies1 aZ rfl) ?_;simp only[ev,zD,zE,zF,zG];refine aA (aG (c:=0) Tryz.underlying56 rfl aO rfl rfl) ?_;simp only[ev,zD,zE,zF,zG];refine aI rfl ((m.b 1 rfl).lies1 aZ rfl) ?_;simp only[ev,zD,zE,zF,zG];refine aA (aG (c:=0) Tryz.underlying56 rfl aO rfl rfl) ?_;simp only[ev,zD,zE,zF,zG];refine aI rfl ((m.b 1 rfl).lies1 aZ rfl) ?_;simp only[ev,zD,zE,zF,zG];refine aA (S6 rfl rfl rfl rfl) (aA (aB) ?_);simp only[ev,zD,zE,zF,zG];refine aA (aX rfl rfl (aL (by omega) (by omega))) (aA (kK rfl rfl) (aA (aB) (f0 rfl (fun hb=>aG (c:=0) Tryz.underlying56 rfl aO rfl rfl) ?_)));simp only[ev,zD,zE,zF,zG];refine p4 rfl (fun hb=>jN (gI hb rfl) ((m.b 0 rfl).lies1 aZ rfl)) (f0 rfl (fun hb=>aG (c:=0) Tryz.underlying56 rfl aO rfl rfl) ?_);simp only[ev,zD,zE,zF,zG];refine p4 rfl (fun hb=>jN (gI hb rfl) ((m.b 0 rfl).lies1 aZ rfl)) (f0 rfl (fun hb=>aG (c:=0) Tryz.underlying56 rfl aO rfl rfl) ?_);simp only[ev,zD,zE,zF,zG];refine p4 rfl (fun hb=>jN (gI hb rfl) ((m.b 0 rfl).lies1 aZ rfl)) (f0 rfl (fun hb=>S7 (gI hb rfl) (gI hb rfl) (gI hb rfl) rfl) (f0 rfl (fun hb=>aB) ?_));simp only[ev,zD,zE,zF,zG];refine f0 rfl (fun hb=>eA rfl (gI hb rfl) (aL (by omega) (by omega))) (f0 rfl (fun hb=>I7 (gI hb rfl) (gI hb rfl)) (aA (iU rfl rfl rfl) (aA (aD) ?_)));simp only[ev,zD,zE,zF,zG];refine aC (k2 _ _ ?_);refine wp_ret ?_;try simp only[Exit.inBlock,Exit.then,if_true]
 refine bT rfl rfl ?_;try simp only[zD,zE]
 exact ⟨_,rfl,m.ext,iA (by rw [← Bool.decide_and]; exact decide_eq_decide.2 (by unfold sV; omega))⟩
theorem Te {i N cap M bcap : Nat} {A B : Option Addr} {l : List T3} {bs : List Int} (w : World) (hi : i < 4611686018427387904) (hT : cJ w A N l) (hN : N ≤ 300000) (hb : cT w B M bs) : gD Tryz.prog 26 [.int .i64 (i : Int),.slice A N cap,.slice B M bcap] w (fun v _=>v = V9 i (tF l (eB bs i))):=by
 refine ⟨T8,?_⟩;have m:=bU.refl w
 go_enter Tryz.func26,Tryz.ntmps26
 refine aF fun K1 k1=>wp_region_lit (aA (aD) (aC (k1 _ _ ?_)));refine aF fun K2 k2=>wp_region_lit (aA (aD) (aC (k2 _ _ ?_)));refine aF fun K3 k3=>aF fun K4 k4=>wp_region_lit (aA (aB) (aA (aB) ?_));simp only[ev,zD,zE,zF,zG];refine aA (bM rfl Tryz.underlying22 rfl) (aA (dS rfl rfl) (aC (k4 _ _ ?_)));simp only[ev,zD,zE,zF,zG];refine cK rfl (fun hc1=>?_) (fun hc1=>?_)
 ·
  obtain ⟨z,hz,_,a,rfl,hcell⟩:=hb.get (i:=i) (by omega);have ez : eB bs i = z:=by rw [eB,hz]; rfl
  have hz64 : z < 9223372036854775808:=(hb.it z (List.mem_of_getElem? hz)).2;refine wp_region_lit (aA (aB) (aA (aB) ?_));simp only[ev,zD,zE,zF,zG];refine aA (aT Tryz.underlying22 aO rfl rfl (by omega) (by omega) (d7 (Int.toNat_natCast _))) ?_;simp only[ev,zD,zE,zF,zG];refine aI rfl (Lith.lies1 (m.ext.cell hcell) aZ) ?_;simp only[ev,zD,zE,zF,zG];refine aA (aD) (aC (k3 _ _ ?_));refine aF fun K5 k5=>wp_block (aF fun K6 k6=>wp_region_lit (aA (aB) (aA (dS rfl rfl) (aA (aD) ?_))));simp only[ev,zD,zE,zF,zG];refine aC (k6 _ _ ?_);refine cK rfl (fun hc2=>?_) (fun hc2=>?_)
  ·
   refine aF fun K7 k7=>wp_region_lit (aA (aB) (aA (oB rfl) (aA (nS (by kernel_rfl) rfl) (aA (aD) ?_))));simp only[ev,zD,zE,zF,zG];refine aC (k7 _ _ ?_);refine wp_ret ?_;try simp only[Exit.inBlock,Exit.then,if_true]
   refine bT rfl rfl ?_;try simp only[zD,zE]
   exact ⟨_,rfl,m.ext,by rw [ez,tF,if_pos (by omega)]; rfl⟩
  ·
   refine aF fun K8 k8=>wp_region_lit (aA (aB) (aA (lZ rfl rfl) (aA (aD) (aC (k8 _ _ ?_)))));simp only[ev,zD,zE,zF,zG];refine cK rfl (fun hc3=>?_) (fun hc3=>?_)
   ·
    refine aF fun K9 k9=>wp_region_lit (aA (aB) (aA (Bk rfl) (aA (nS (by kernel_rfl) rfl) (aA (aD) ?_))));simp only[ev,zD,zE,zF,zG];refine aC (k9 _ _ ?_);refine wp_ret ?_;try simp only[Exit.inBlock,Exit.then,if_true]
    refine bT rfl rfl ?_;try simp only[zD,zE]
    exact ⟨_,rfl,m.ext,by rw [ez,tF,if_neg (by omega),if_pos (by omega)]; rfl⟩
   ·
    refine wp_skip (k5 _ _ ?_);refine aF fun K10 k10=>wp_region_lit (aA (aB) ?_);simp only[ev,zD,zE,zF,zG];refine fA m rfl rfl (V8 _ (hT.ext m.ext) hN) ?_;clear m; rintro v u m rfl;refine aA (aB) (aA (bJ rfl rfl) (aA (bJ rfl rfl) ?_));simp only[ev,zD,zE,zF,zG];refine aA (bJ rfl rfl) ?_;simp only[ev,zD,zE,zF,zG];refine bN m e9 rfl ?_;clear m; intro g1 u m;simp only[ev,zD,zE,zF,zG];refine bN m e9 rfl ?_;clear m; intro g2 u m;simp only[ev,zD,zE,zF,zG];refine aV m 1 rfl rfl rfl aN (b9 rfl) rfl ?_;clear m; intro u m; simp only[a8,zH,zI,zJ,zK,zL,zM,zN,zO,zP,zF,zG,Nat.reduceAdd] at m;refine aV m 0 rfl rfl rfl aN (b9 rfl) rfl ?_;clear m; intro u m; simp only[a8,zH,zI,zJ,zK,zL,zM,zN,zO,zP,zF,zG,Nat.reduceAdd] at m;refine aA (aD) (aC (k10 _ _ ?_));refine aF fun K11 k11=>wp_block (aF fun K12 k12=>wp_region_lit (aA (aB) (aA (gX rfl) (aA (aD) ?_))));simp only[ev,zD,zE,zF,zG];refine aC (k12 _ _ ?_);refine Qq rfl (fun hc4=>?_) (fun hc4=>?_)
    ·
     have hl : l = []:=hT.empty (by omega);refine aF fun K13 k13=>wp_region_lit (aA (aD) (aC (k13 _ _ ?_)));refine wp_ret ?_;simp only[ev,zD,zE,zF,zG];try simp only[Exit.inBlock,Exit.then,if_true]
     refine bT rfl rfl ?_;try simp only[zD,zE]
     exact ⟨_,rfl,m.ext,by rw [ez,tF,if_neg (by omega),if_neg (by omega),if_pos hl]; rfl⟩
    ·
     have hl : l ≠ []:=fun e=>by have:=hT.len; rw [e] at this; simp only[List.length_nil] at this; omega
     have hi3:=G0 (ps:=jF l) (fun e=>hl (Mm e)) (Pn hT.it);haveI:=hi3.1;haveI:=hi3.2;have hb0 : 0 < z:=by omega
     refine aF fun K14 k14=>wp_region_lit (aI rfl ((m.b 1 rfl).full bC aN) ?_);simp only[ev,zD,zE,zF,zG];refine aI rfl ((m.b 0 rfl).full bC aN) ?_;simp only[ev,zD,zE,zF,zG];refine aA (aB) ?_;simp only[ev,zD,zE,zF,zG];refine bH m rfl rfl (Td hb0 hz64) ?_;clear m; intro u m;refine aA (gX rfl) (aA (aD) (aC (k14 _ _ ?_)));simp only[ev,zD,zE,zF,zG];refine Qq rfl (fun hc5=>?_) (fun hc5=>?_)
     ·
      have hf : ¬ sV (uK (jF l)) (uL (jF l)) z:=hc5;refine aF fun K15 k15=>wp_region_lit (aA (aB) (aA (oB rfl) (aA (nS (by kernel_rfl) rfl) (aA (aD) ?_))));simp only[ev,zD,zE,zF,zG];refine aC (k15 _ _ ?_);refine wp_ret ?_;try simp only[Exit.inBlock,Exit.then,if_true]
      refine bT rfl rfl ?_;try simp only[zD,zE]
      exact ⟨_,rfl,m.ext,by rw [ez,tF,if_neg (by omega),if_neg (by omega),if_neg hl,Wb,if_neg hf]; rfl⟩
     ·
      have hf : sV (uK (jF l)) (uL (jF l)) z:=hc5;have hf2:=hf;unfold sV at hf2;obtain ⟨⟨⟨a1,a2⟩,⟨a3,a4⟩,a5,a6⟩,⟨⟨b1,b2⟩,⟨b3,b4⟩,b5,b6⟩⟩:=hi3;refine wp_skip (k11 _ _ ?_);refine aF fun K16 k16=>wp_region_lit (aA (aG (c:=0) Tryz.underlying56 rfl aO rfl rfl) ?_);simp only[ev,zD,zE,zF,zG];refine aI rfl ((m.b 1 rfl).lies1 aZ rfl) ?_;simp only[ev,zD,zE,zF,zG];refine aA (aB) ?_;simp only[ev,zD,zE,zF,zG];refine aA (eA rfl rfl (aL (by omega) (by omega))) (aA (aG (c:=0) Tryz.underlying56 rfl aO rfl rfl) ?_);simp only[ev,zD,zE,zF,zG];refine aI rfl ((m.b 1 rfl).lies1 aZ rfl) ?_;simp only[ev,zD,zE,zF,zG];refine aA (aB) ?_;simp only[ev,zD,zE,zF,zG];refine aA (eA rfl rfl (aL (by omega) (by omega))) (aA (aG (c:=0) Tryz.underlying56 rfl aO rfl rfl) ?_);simp only[ev,zD,zE,zF,zG];refine aI rfl ((m.b 1 rfl).lies1 aZ rfl) ?_;simp only[ev,zD,zE,zF,zG];refine aA (aB) ?_;simp only[ev,zD,zE,zF,zG];refine aA (eA rfl rfl (aL (by omega) (by omega))) (aA (bL rfl rfl rfl) ?_);simp only[ev,zD,zE,zF,zG];refine aV m 1 rfl rfl rfl aN (b9 rfl) rfl ?_;clear m; intro u m; simp only[a8,zH,zI,zJ,zK,zL,zM,zN,zO,zP,zF,zG,Nat.reduceAdd] at m;refine aC (k16 _ _ ?_);refine aF fun K17 k17=>wp_region_lit (aA (aG (c:=0) Tryz.underlying56 rfl aO rfl rfl) ?_);simp only[ev,zD,zE,zF,zG];refine aI rfl ((m.b 0 rfl).lies1 aZ rfl) ?_;simp only[ev,zD,zE,zF,zG];refine aA (aB) ?_;simp only[ev,zD,zE,zF,zG];refine aA (aX rfl rfl (aL (by omega) (by omega))) (aA (aG (c:=0) Tryz.underlying56 rfl aO rfl rfl) ?_);simp only[ev,zD,zE,zF,zG];refine aI rfl ((m.b 0 rfl).lies1 aZ rfl) ?_;simp only[ev,zD,zE,zF,zG];refine aA (aB) ?_;simp only[ev,zD,zE,zF,zG];refine aA (aX rfl rfl (aL (by omega) (by omega))) (aA (aG (c:=0) Tryz.underlying56 rfl aO rfl rfl) ?_);simp only[ev,zD,zE,zF,zG];refine aI rfl ((m.b 0 rfl).lies1 aZ rfl) ?_;simp only[ev,zD,zE,zF,zG];refine aA (aB) ?_;simp only[ev,zD,zE,zF,zG];refine aA (aX rfl rfl (aL (by omega) (by omega))) (aA (bL rfl rfl rfl) ?_);simp only[ev,zD,zE,zF,zG];refine aV m 0 rfl rfl rfl aN (b9 rfl) rfl ?_;clear m; intro u m; simp only[a8,zH,zI,zJ,zK,zL,zM,zN,zO,zP,zF,zG,Nat.reduceAdd] at m;refine aC (k17 _ _ ?_);refine aF fun K18 k18=>wp_region_lit (aA (aB) ?_);simp only[ev,zD,zE,zF,zG];refine aI rfl ((m.b 1 rfl).full bC aN) ?_;simp only[ev,zD,zE,zF,zG];refine aI rfl ((m.b 0 rfl).full bC aN) ?_;simp only[ev,zD,zE,zF,zG];refine aA (tK rfl rfl rfl) (aA (nS (by kernel_rfl) rfl) (aA (aD) (aC (k18 _ _ ?_))));refine wp_ret ?_;simp only[ev,zD,zE,zF,zG];try simp only[Exit.inBlock,Exit.then,if_true]
      refine bT rfl rfl ?_;try simp only[zD,zE]
      exact ⟨_,rfl,m.ext,by rw [ez,tF,if_neg (by omega),if_neg (by omega),if_neg hl,Wb,if_pos hf]; rfl⟩
 ·
  have ez : eB bs i = -1:=by rw [eB,List.getElem?_eq_none (by rw [hb.len]; omega)]; rfl
  refine wp_skip (k3 _ _ ?_);refine aF fun K19 k19=>wp_block (aF fun K20 k20=>wp_region_lit (aA (aB) (aA (bR (m:=(-1)) (n:=0) rfl rfl (by decide)) (aA (aD) (aC (k20 _ _ ?_))))));refine bS rfl (aF fun K21 k21=>wp_region_lit (aA (aB) ?_));simp only[ev,zD,zE,zF,zG];refine aA (oB rfl) (aA (nS (by kernel_rfl) rfl) (aA (aD) (aC (k21 _ _ ?_))));refine wp_ret ?_;simp only[ev,zD,zE,zF,zG];try simp only[Exit.inBlock,Exit.then,if_true]
  refine bT rfl rfl ?_;try simp only[zD,zE]
  exact ⟨_,rfl,m.ext,by rw [ez,tF,if_pos (by decide)]; rfl⟩
theorem Po {r : e8} {i : Nat} {kd : Kd} [IR r] (ho : kd.other = true) (hk : Iu kd) : eI Tryz.prog 28 [nQ r,V9 i kd] (.tuple #[Q ((gR r kd).getD 0),.bool (gR r kd).isSome]):=by
 intro w;refine ⟨Ua,?_⟩;have m:=bU.refl w
 go_enter Tryz.func28,Tryz.ntmps28
 refine aF fun K1 k1=>wp_region_lit (dJ m rfl ?_);clear m; intro g1 u m;simp only[ev,zD,zE,zF,zG];refine bN m fJ rfl ?_;clear m; intro g2 u m;refine aA (aD) (aC (k1 _ _ ?_));refine aF fun K2 k2=>aF fun K3 k3=>wp_region_lit (aA (aB) (aC (k3 _ _ ?_)));refine wp_block (aF fun K4 k4=>?_);simp only[ev,zD,zE,zF,zG];cases kd
 ·
  cases ho
 ·
  cases ho
 ·
  refine wp_region_lit (aA (tV (by kernel_rfl) rfl) (aA (bJ rfl rfl) (aA (bJ rfl rfl) (aC (k4 _ _ ?_)))));refine bS rfl (aF fun K5 k5=>wp_region_lit ?_);simp only[ev,zD,zE,zF,zG];refine bN m Bc rfl ?_;clear m; intro g3 u m;simp only[ev,zD,zE,zF,zG];refine aV m 0 rfl rfl rfl Jo (b9 rfl) rfl ?_;clear m; intro u m; simp only[a8,zH,zI,zJ,zK,zL,zM,zN,zO,zP,zF,zG,Nat.reduceAdd] at m;refine aC (k5 _ _ ?_);refine aF fun K6 k6=>wp_region_lit (bH m rfl rfl (Ct) ?_);clear m; intro u m;simp only[ev,zD,zE,zF,zG];refine aV m 1 rfl rfl rfl aS (b9 rfl) rfl ?_;clear m; intro u m; simp only[a8,zH,zI,zJ,zK,zL,zM,zN,zO,zP,zF,zG,Nat.reduceAdd] at m;refine aA (aD) (aC (k6 _ _ ?_));refine wp_ret ?_;simp only[ev,zD,zE,zF,zG];try simp only[Exit.inBlock,Exit.then,if_true]
  refine mZ rfl ⟨_,rfl,((m.b 1 rfl).full bG aS)⟩ rfl ?_;try simp only[zD,zE]
  exact ⟨_,rfl,m.ext,rfl⟩
 ·
  rename_i lo hi;obtain ⟨hk1,hk2⟩:=hk;haveI:=hk1;haveI:=hk2;refine wp_region_lit (aA (tW (by kernel_rfl) Bc (by decide) rfl) (aA (bJ rfl rfl) (aA (bJ rfl rfl) (aC (k4 _ _ ?_)))));refine eM rfl (aF fun K7 k7=>wp_region_lit (aA (tV (by kernel_rfl) rfl) ?_));simp only[ev,zD,zE,zF,zG];refine aA (bJ rfl rfl) (aA (bJ rfl rfl) (aC (k7 _ _ ?_)));refine bS rfl (aF fun K8 k8=>wp_region_lit ?_);simp only[ev,zD,zE,zF,zG];refine bN m F8 rfl ?_;clear m; intro g3 u m;simp only[ev,zD,zE,zF,zG];refine aV m 0 rfl rfl rfl Jp (b9 rfl) rfl ?_;clear m; intro u m; simp only[a8,zH,zI,zJ,zK,zL,zM,zN,zO,zP,zF,zG,Nat.reduceAdd] at m;refine aC (k8 _ _ ?_);refine aF fun K9 k9=>?_;have hbv : (∃ p q,mL r lo hi = some (p,q)) ∨ mL r lo hi = none:=by cases mL r lo hi with | none=>exact .inr rfl | some x=>exact .inl ⟨x.1,x.2,rfl⟩
  refine wp_region_lit (aI rfl ((m.b 2 rfl).full iN eE) ?_);simp only[ev,zD,zE,zF,zG];refine aA (aG (c:=2) Tryz.underlying88 rfl aN rfl rfl) ?_;simp only[ev,zD,zE,zF,zG];refine aI rfl ((m.b 0 rfl).lies bC aN rfl rfl) ?_;simp only[ev,zD,zE,zF,zG,zH,zI,zJ,zK,Nat.zero_add,Nat.reduceAdd,Nat.reduceMul,Int.reduceToNat];refine aA (aG (c:=2) Tryz.underlying88 rfl aN rfl rfl) ?_;simp only[ev,zD,zE,zF,zG];refine aI rfl ((m.b 0 rfl).lies bC aN rfl rfl) ?_;simp only[ev,zD,zE,zF,zG,zH,zI,zJ,zK,Nat.zero_add,Nat.reduceAdd,Nat.reduceMul,Int.reduceToNat];refine bH m rfl rfl (Mi) ?_;clear m; intro u m;refine aA (aB) ?_;simp only[ev,zD,zE,zF,zG];rw [show V7 (mL r lo hi) = .tuple #[Q ((mL r lo hi).getD (0,0)).1,Q ((mL r lo hi).getD (0,0)).2,.bool (mL r lo hi).isSome] by cases mL r lo hi <;> rfl];refine aA (bJ rfl rfl) (aA (bJ rfl rfl) (aA (bJ rfl rfl) ?_));simp only[ev,zD,zE,zF,zG];refine bN m fJ rfl ?_;clear m; intro g4 u m;simp only[ev,zD,zE,zF,zG];refine bN m fJ rfl ?_;clear m; intro g5 u m;simp only[ev,zD,zE,zF,zG];refine aV m 1 rfl rfl rfl aS (b9 rfl) rfl ?_;clear m; intro u m; simp only[a8,zH,zI,zJ,zK,zL,zM,zN,zO,zP,zF,zG,Nat.reduceAdd] at m;refine aV m 0 rfl rfl rfl aS (b9 rfl) rfl ?_;clear m; intro u m; simp only[a8,zH,zI,zJ,zK,zL,zM,zN,zO,zP,zF,zG,Nat.reduceAdd] at m;refine aA (aD) (aC (k9 _ _ ?_));refine aF fun K10 k10=>wp_region_lit ?_;simp only[ev,zD,zE,zF,zG];refine aI rfl ((m.b 1 rfl).full bG aS) ?_;simp only[ev,zD,zE,zF,zG];refine aA (aB) ?_;simp only[ev,zD,zE,zF,zG];refine aV m 3 rfl rfl rfl aS (b9 rfl) rfl ?_;clear m; intro u m; simp only[a8,zH,zI,zJ,zK,zL,zM,zN,zO,zP,zF,zG,Nat.reduceAdd] at m;refine aA (aD) (aC (k10 _ _ ?_));refine wp_ret ?_;simp only[ev,zD,zE,zF,zG];try simp only[Exit.inBlock,Exit.then,if_true]
  refine mZ rfl ⟨_,rfl,((m.b 3 rfl).full bG aS)⟩ rfl ?_;try simp only[zD,zE]
  exact ⟨_,rfl,m.ext,by rw [gR]; rcases hbv with ⟨p,q,e⟩ | e <;> (rw [e]; rfl)⟩
end Go.Proofs.YtimjandkmfcmiaaGreatDoor
namespace Go.Lith
open Go.RowKit
section
variable {α : Type} {enc : α → List Value} {c : Nat} {w w' : World} {A : Option Addr} {n : Nat} {xs : List α}
structure Am (enc : α → List Value) (c : Nat) (w : World) (A : Option Addr) (n : Nat) (xs : List α) : Prop where
 len : xs.length = n
 row : ∀ i x,xs[i]? = some x → ∃ a,A = some a ∧ pS w (a.add (i * c)) (enc x)
theorem Am.ext (h : Am enc c w A n xs) (hE : cD w w') : Am enc c w' A n xs:=⟨h.len,fun i x hi=>let ⟨a,e,hr⟩:=h.row i x hi; ⟨a,e,hr.ext hE⟩⟩
theorem Am.nil (w : World) (A : Option Addr) : Am enc c w A 0 []:=⟨rfl,fun i x h=>by cases h⟩
theorem Am.get (h : Am enc c w A n xs) {i : Nat} (hi : i < n) : ∃ x,xs[i]? = some x ∧ ∃ a,A = some a ∧ pS w (a.add (i * c)) (enc x):=by
 have hl : i < xs.length:=by rw [h.len]; exact hi
 exact ⟨xs[i],List.getElem?_eq_getElem hl,h.row i _ (List.getElem?_eq_getElem hl)⟩
theorem Am.at {a : Addr} (h : Am enc c w (some a) n xs) {i : Nat} {x : α} (hx : xs[i]? = some x) : pS w (a.add (i * c)) (enc x):=by
 obtain ⟨b,e,hr⟩:=h.row i x hx;cases e;exact hr
theorem Am.take (h : Am enc c w A n xs) {k : Nat} (hk : k ≤ n) : Am enc c w A k (xs.take k) :=
 ⟨by rw [List.length_take,h.len]; omega,fun i x hx=>h.row i x (by rw [List.getElem?_take] at hx; split at hx; exact hx; cases hx)⟩
theorem tZ (hc : ∀ x,(enc x).length = c) : ∀ xs : List α,(xs.flatMap enc).length = xs.length * c
 | []=>by simp
 | x :: xs=>by rw [List.flatMap_cons,List.length_append,hc,tZ hc xs,List.length_cons,Nat.add_mul,Nat.one_mul,Nat.add_comm]
theorem xH (hc : ∀ x,(enc x).length = c) : ∀ (xs : List α) (k : Nat),(xs.drop k).flatMap enc = (xs.flatMap enc).drop (k * c)
 | xs,0=>by simp
 | [],k + 1=>by simp
 | x :: xs,k + 1=>by
  rw [List.drop_succ_cons,List.flatMap_cons,xH hc xs k,List.drop_append,hc,List.drop_of_length_le (l:=enc x) (by rw [hc,Nat.add_mul]; omega),Nat.add_mul,Nat.one_mul,Nat.add_sub_cancel,List.nil_append]
theorem Ec (hc : ∀ x,(enc x).length = c) {xs : List α} {i : Nat} {x : α} (h : xs[i]? = some x) : (xs.flatMap enc).drop (i * c) = enc x ++ (xs.drop (i + 1)).flatMap enc:=by
 rw [← xH hc,List.drop_eq_getElem_cons (List.getElem?_eq_some_iff.1 h).1,List.flatMap_cons,(List.getElem?_eq_some_iff.1 h).2]
theorem Ow.at {w0 : World} {S : List (Option Nat)} {E : TypeId} {cap g i : Nat} {x : α} (hc : ∀ x,(enc x).length = c) (h : Ow w0 w S E c (Option.some ⟨g,0,none⟩) n cap (xs.flatMap enc)) (hx : xs[i]? = Option.some x) : pS w ((⟨g,0,none⟩ : Addr).add (i * c)) (enc x):=by
 intro j u hj;have hj' : j < (enc x).length:=(List.getElem?_eq_some_iff.1 hj).1;rw [fP];refine h.rows _ _ ?_;rw [← List.getElem?_drop,Ec hc hx,List.getElem?_append_left hj'];exact hj
theorem Ow.num {w0 : World} {S : List (Option Nat)} {E : TypeId} {cap : Nat} (hc : ∀ x,(enc x).length = c) (h0 : 0 < c) (h : Ow w0 w S E c A n cap (xs.flatMap enc)) : xs.length = n:=by
 have:=h.own.1;rw [tZ hc] at this;exact Nat.eq_of_mul_eq_mul_right h0 this
theorem Am.cells (hc : ∀ x,(enc x).length = c) (h0 : 0 < c) (h : Am enc c w A n xs) : ∀ j u,(xs.flatMap enc)[j]? = some u → ∃ a,A = some a ∧ w.cell? (a.add j) = some u:=fun j u hj=>by
 have hj':=(List.getElem?_eq_some_iff.1 hj).1;rw [tZ hc] at hj';have hi : j / c < xs.length:=(Nat.div_lt_iff_lt_mul h0).2 hj';obtain ⟨a,rfl,hr⟩:=h.row (j / c) _ (List.getElem?_eq_getElem hi);refine ⟨a,rfl,?_⟩;have hm:=Nat.mod_lt j h0;have e : j = j / c * c + j % c:=by rw [Nat.mul_comm]; exact (Nat.div_add_mod j c).symm
 have:=hr (j % c) u (by
  rw [e,← List.getElem?_drop,Ec hc (List.getElem?_eq_getElem hi),List.getElem?_append_left (by rw [hc]; exact hm)] at hj;exact hj)
 rw [fP,← e] at this;exact this
end
theorem Iv {α : Type} {ps : List α} {k : Nat} {p : α} (h : ps[k]? = some p) : ps.take (k + 1) = ps.take k ++ [p]:=by
 rw [List.take_add_one,h];rfl
abbrev E3:=P3 × P3
def ed (e : E3) : Value:=.agg #[.int .i64 e.1.x,.int .i64 e.1.y,.int .i64 e.1.z,.int .i64 e.2.x,.int .i64 e.2.y,.int .i64 e.2.z]
def Tf (p : P3) : List Value:=[.int .i64 p.x,.int .i64 p.y,.int .i64 p.z]
end Go.Lith
namespace Go.Lith
open Go.RowKit
def s7 (w : World) (A : Option Addr) (xs : List Value) : Prop:=∀ j u,xs[j]? = some u → ∃ a,A = some a ∧ w.cell? (a.add j) = some u
theorem s7.ext {w w' : World} {A : Option Addr} {xs : List Value} (h : s7 w A xs) (hE : cD w w') : s7 w' A xs:=fun j u hj=>let ⟨a,e,hc⟩:=h j u hj; ⟨a,e,hE.cell hc⟩
abbrev Cu:=List (Option Addr × List Value)
def lG (L : Cu) : It where
 own b:=∃ e ∈ L,e.2 ≠ [] ∧ nP e.1 = some b
 P w:=∀ e ∈ L,s7 w e.1 e.2
 lt w b h hb:=by
  obtain ⟨⟨A,xs⟩,he,hne,hb⟩:=hb
  match xs,hne with
  | u :: us,_ =>
   obtain ⟨a,ha,hc⟩:=h _ he 0 u rfl;simp only at ha hb;rw [ha] at hb;cases hb;exact World.block_lt_of_cell? _ _ hc
 st w w' h _ k:=fun e he j u hj=>by
  obtain ⟨a,ha,hc⟩:=h e he j u hj;have hb : w'.heap[(a.add j).block]? = w.heap[(a.add j).block]?:=k _ ⟨e,he,fun e0=>(by rw [e0] at hj; cases hj),by rw [ha]; show some a.block = _; congr 1; unfold Addr.add; split <;> rfl⟩;exact ⟨a,ha,(World.cell?_of_block hb).trans hc⟩
section
variable {w0 w w' : World} {is : List It}
theorem bU.l (m : bU w0 w is) (k : Nat) {L : Cu} (hk : is[k]? = some (lG L)) : (lG L).P w:=m.get k hk
theorem bU.oR (m : bU w0 w is) (k : Nat) {E : TypeId} {c n cap : Nat} {A : Option Addr} {xs : List Value} (hk : is[k]? = some (oI E c A n cap xs)) : bU w0 w (is.set k (lG [(A,xs)])) :=
 m.put k hk rfl rfl rfl (Nat.le_refl _) (fun _ _ _=>rfl) (fun e he=>by rw [List.mem_singleton.1 he]; exact (m.o k hk).row) (.inl fun b ⟨e,he,_,hb⟩=>by rw [List.mem_singleton.1 he] at hb; exact hb)
theorem bU.join {L1 L2 : Cu} (m : bU w0 w (lG L1 :: is)) (k : Nat) (hk : is[k]? = some (lG L2)) : bU w0 w (is.set k (lG (L1 ++ L2))):=by
 obtain ⟨h1,h2⟩:=List.pairwise_cons.1 m.nd;have P1 : (lG L1).P w:=m.all _ (List.mem_cons_self ..);have P2 : (lG L2).P w:=m.tl.get k hk;have g1:=m.ge _ (List.mem_cons_self ..);have g2:=m.tl.ge _ (List.mem_of_getElem? hk);refine ⟨m.ext,fun i hi=>?_,fun i hi=>?_,Fe is k h2 hk fun x hx ha b hb h3=>?_⟩
 · rcases List.mem_or_eq_of_mem_set hi with hi | rfl
   · exact m.tl.all i hi
   · exact fun e he=>(List.mem_append.1 he).elim (P1 e) (P2 e)
 · rcases List.mem_or_eq_of_mem_set hi with hi | rfl
   · exact m.tl.ge i hi
   · rintro b ⟨e,he,hb⟩
     exact (List.mem_append.1 he).elim (fun h=>g1 b ⟨e,h,hb⟩) (fun h=>g2 b ⟨e,h,hb⟩)
 · obtain ⟨e,he,hb⟩:=hb
   rcases List.mem_append.1 he with he | he
   · exact h1 x hx b ⟨e,he,hb⟩ h3
   · exact ha b ⟨e,he,hb⟩ h3
theorem bU.plus {js : List It} (m : bU w0 w is) (h : bU w w' js) : bU w0 w' (js ++ is):=by
 have m':=m.ext' h.ext;refine ⟨m'.ext,fun i hi=>?_,fun i hi b hb=>?_,List.pairwise_append.2 ⟨h.nd,m.nd,fun i hi j hj b h1 h2=>?_⟩⟩
 · exact (List.mem_append.1 hi).elim (h.all i) (m'.all i)
 · rcases List.mem_append.1 hi with hi | hi
   · exact Nat.le_trans m.ext.size (h.ge i hi b hb)
   · exact m'.ge i hi b hb
 · have k1:=h.ge i hi b h1
   have k2:=j.lt w b (m.all j hj) h2;omega
end
theorem s7.tris {w : World} {A : Option Addr} {ts : List T3} (h : s7 w A (ts.flatMap bV)) (hi : ∀ t ∈ ts,IT t) : cJ w A ts.length ts:=by
 refine ⟨rfl,hi,fun i t ht=>?_⟩;have hr : ∀ j u,(bV t)[j]? = some u → (ts.flatMap bV)[i * 9 + j]? = some u:=fun j u hj=>by
  rw [← List.getElem?_drop,lW ts i t ht,List.getElem?_append_left (List.getElem?_eq_some_iff.1 hj).1];exact hj
 obtain ⟨a,e,_⟩:=h _ _ (hr 0 _ rfl);refine ⟨a,e,fun j u hj=>?_⟩;obtain ⟨a',e',hc⟩:=h _ _ (hr j u hj);rw [e] at e';cases e';rw [fP];exact hc
structure Hd where
 A : Option Addr
 n : Nat
 cap : Nat
def Hd.v (h : Hd) : Value:=.slice h.A h.n h.cap
theorem Cv {hs : List Hd} {i : Nat} {h : Hd} (hi : i < hs.length) : a8 (hs.map Hd.v) i [h.v] = (hs.set i h).map Hd.v:=by
 apply List.ext_getElem?;intro j;unfold a8;rw [List.getElem?_map,List.getElem?_set,List.append_assoc];rcases Nat.lt_trichotomy j i with hj | hj | hj
 · rw [List.getElem?_append_left (by rw [List.length_take,List.length_map]; omega),List.getElem?_take_of_lt hj,List.getElem?_map,if_neg (by omega)]
 · subst hj
   rw [List.getElem?_append_right (by rw [List.length_take]; omega),List.length_take,List.length_map,Nat.min_eq_left (by omega),Nat.sub_self,if_pos rfl,if_pos hi];rfl
 · rw [List.getElem?_append_right (by rw [List.length_take,List.length_map]; omega),List.length_take,List.length_map,Nat.min_eq_left (by omega),if_neg (by omega),List.getElem?_append_right (by simp; omega),List.getElem?_drop,List.getElem?_map]
   congr 2
   simp;omega
structure gP (w : World) (A : Option Addr) (N : Nat) (xs : List (List T3)) : Prop where
 len : xs.length = N
 row : ∀ i l,xs[i]? = some l → ∃ a,∃ h : Hd,A = some a ∧ w.cell? (a.add i) = some h.v ∧ cJ w h.A h.n l ∧ h.n ≤ h.cap
theorem gP.ext {w w' : World} {A : Option Addr} {N : Nat} {xs : List (List T3)} (h : gP w A N xs) (hE : cD w w') : gP w' A N xs :=
 ⟨h.len,fun i l hi=>let ⟨a,hd,e,hc,ht,hl⟩:=h.row i l hi; ⟨a,hd,e,hE.cell hc,ht.ext hE,hl⟩⟩
theorem gP.get {w : World} {A : Option Addr} {N i : Nat} {xs : List (List T3)} (h : gP w A N xs) (hi : i < N) : ∃ l,xs[i]? = some l ∧ ∃ a B n c,A = some a ∧ w.cell? (a.add i) = some (.slice B n c) ∧ cJ w B n l ∧ n ≤ c:=by
 have hl : i < xs.length:=by rw [h.len]; exact hi
 obtain ⟨a,hd,e,hc,ht,hle⟩:=h.row i _ (List.getElem?_eq_getElem hl);exact ⟨xs[i],List.getElem?_eq_getElem hl,a,hd.A,hd.n,hd.cap,e,hc,ht,hle⟩
def kV (L : Cu) (h : Hd) (l : List T3) : Prop:=h.n ≤ h.cap ∧ ∀ w,(lG L).P w → cJ w h.A h.n l
structure yE (L : Cu) (hs : List Hd) (xs : List (List T3)) : Prop where
 len : hs.length = xs.length
 at_ : ∀ (i : Nat) (h : Hd) (l : List T3),hs[i]? = some h → xs[i]? = some l → kV L h l
theorem kV.mono {L L' : Cu} {h : Hd} {l : List T3} (s : kV L h l) (hL : ∀ e ∈ L,e ∈ L') : kV L' h l:=⟨s.1,fun w hw=>s.2 w fun e he=>hw e (hL e he)⟩
theorem kV.nil (L : Cu) : kV L ⟨none,0,0⟩ []:=⟨Nat.le_refl _,fun w _=>cJ.nil w none⟩
theorem kV.one {A : Option Addr} {ts : List T3} {cap : Nat} (hi : ∀ t ∈ ts,IT t) (hc : ts.length ≤ cap) : kV [(A,ts.flatMap bV)] ⟨A,ts.length,cap⟩ ts :=
 ⟨hc,fun w hw=>s7.tris (hw _ (List.mem_singleton.2 rfl)) hi⟩
theorem cJ.takeL {w : World} {A : Option Addr} {N k : Nat} {ts : List T3} (h : cJ w A N ts) (hk : k ≤ N) : cJ w A k (ts.take k) :=
 ⟨by rw [List.length_take,h.len]; exact Nat.min_eq_left hk,fun t ht=>h.it t (List.mem_of_mem_take ht),fun i t hi=>by
  rw [List.getElem?_take] at hi;split at hi
  · exact h.row i t hi
  · cases hi⟩
theorem cJ.dropL {w : World} {A : Option Addr} {N k cap : Nat} {ts : List T3} (h : cJ w A N ts) (hk : k ≤ N) (hc : N ≤ cap) : cJ w (if cap = k then A else A.map (·.add (k * 9))) (N - k) (ts.drop k) :=
 ⟨by rw [List.length_drop,h.len],fun t ht=>h.it t (List.mem_of_mem_drop ht),fun i t hi=>by
  rw [List.getElem?_drop] at hi;obtain ⟨a,e,hr⟩:=h.row _ t hi;have hl:=(List.getElem?_eq_some_iff.1 hi).1;rw [h.len] at hl;rw [if_neg (by omega),e];refine ⟨_,rfl,?_⟩;rw [fP,← Nat.add_mul];exact hr⟩
theorem kV.take {L : Cu} {A : Option Addr} {N k cap : Nat} {ts : List T3} (s : kV L ⟨A,N,cap⟩ ts) (hk : k ≤ N) : kV L ⟨A,k,cap⟩ (ts.take k):=⟨Nat.le_trans hk s.1,fun w hw=>(s.2 w hw).takeL hk⟩
theorem kV.drop {L : Cu} {A : Option Addr} {N k cap : Nat} {ts : List T3} (s : kV L ⟨A,N,cap⟩ ts) (hk : k ≤ N) : kV L ⟨if cap = k then A else A.map (·.add (k * 9)),N - k,cap - k⟩ (ts.drop k):=⟨Nat.sub_le_sub_right s.1 k,fun w hw=>(s.2 w hw).dropL hk s.1⟩
theorem yE.nil (L : Cu) : yE L [] []:=⟨rfl,fun i h l hi=>by cases hi⟩
theorem yE.mono {L L' : Cu} {hs : List Hd} {xs : List (List T3)} (c : yE L hs xs) (hL : ∀ e ∈ L,e ∈ L') : yE L' hs xs:=⟨c.len,fun i h l h1 h2=>(c.at_ i h l h1 h2).mono hL⟩
theorem yE.snoc {L : Cu} {hs : List Hd} {xs : List (List T3)} {h : Hd} {l : List T3} (c : yE L hs xs) (s : kV L h l) : yE L (hs ++ [h]) (xs ++ [l]):=by
 refine ⟨by simp [c.len],fun i h' l' h1 h2=>?_⟩;rcases Nat.lt_or_ge i hs.length with hi | hi
 · rw [List.getElem?_append_left hi] at h1
   rw [List.getElem?_append_left (by rw [← c.len]; exact hi)] at h2;exact c.at_ i h' l' h1 h2
 · rw [List.getElem?_append_right hi] at h1
   rw [List.getElem?_append_right (by rw [← c.len]; exact hi),← c.len] at h2;cases hd : i - hs.length with
   | zero=>rw [hd] at h1 h2; cases h1; cases h2; exact s
   | succ j=>rw [hd] at h1; cases h1
theorem yE.set {L : Cu} {hs : List Hd} {xs : List (List T3)} {h : Hd} {l : List T3} {k : Nat} (c : yE L hs xs) (s : kV L h l) : yE L (hs.set k h) (xs.set k l):=by
 refine ⟨by simp [c.len],fun i h' l' h1 h2=>?_⟩;rw [List.getElem?_set] at h1 h2;by_cases hk : k = i
 · rw [if_pos hk] at h1 h2
   have hl:=c.len;split at h1
   · rw [if_pos (by omega)] at h2
     cases h1; cases h2; exact s
   · cases h1
 · rw [if_neg hk] at h1 h2
   exact c.at_ i h' l' h1 h2
theorem yE.lists {L : Cu} {hs : List Hd} {xs : List (List T3)} (c : yE L hs xs) {w : World} {A : Option Addr} {N : Nat} (hN : hs.length = N) (hr : s7 w A (hs.map Hd.v)) (hL : (lG L).P w) : gP w A N xs:=by
 refine ⟨by rw [← c.len]; exact hN,fun i l hi=>?_⟩;have hl:=(List.getElem?_eq_some_iff.1 hi).1;rw [← c.len] at hl;have h1 : hs[i]? = some hs[i]:=List.getElem?_eq_getElem hl;obtain ⟨a,e,hc⟩:=hr i hs[i].v (by rw [List.getElem?_map,h1]; rfl);have s:=c.at_ i _ l h1 hi;exact ⟨a,hs[i],e,hc,s.2 w hL,s.1⟩
theorem bU.lists {w0 w : World} {is : List It} (m : bU w0 w is) {L : Cu} {hs : List Hd} {xs : List (List T3)} (c : yE L hs xs) (k j : Nat) {E : TypeId} {A : Option Addr} {n cap : Nat} (hk : is[k]? = some (oI E 1 A n cap (hs.map Hd.v))) (hj : is[j]? = some (lG L)) : gP w A n xs:=by
 have ho:=m.o k hk;refine c.lists ?_ ho.row (m.l j hj);have:=ho.own.1;rw [List.length_map,Nat.mul_one] at this;exact this
end Go.Lith
