/-
  Texts of one claim, laid together: Sane, Grow, Pts, Geo6, Guard, Open, Surf, Surf2, Near, Near2, Div, Areas, Div2, Div3, Law4, Join, Open2.
-/
import Derived.Sort.Grow
import Derived.Deep.Draws
import Derived.OpenShut
import Derived.Lib.SmallJoins
import Derived.Deep.Slices
import Derived.OpenVars
import Derived.WalkKit
import Derived.ProofKit
import Derived.Test.YtmcgcnpgkkfkoaaDoorG4
set_option maxHeartbeats 8000000
set_option linter.unusedSimpArgs false
set_option linter.unusedVariables false
set_option linter.unusedSectionVars false
namespace Go.Proofs.YtmcgcnpgkkfkoaaDoor
open Go.RowKit Go.Lith
set_option maxRecDepth 100000
attribute [local irreducible] wpList wpQuiet wpMix wpMixH wpTree Code.wp
instance : Iw 0:=⟨by unfold I64; decide⟩
instance : Iw 2:=⟨by unfold I64; decide⟩
instance : Iw 5:=⟨by unfold I64; decide⟩
instance : Iw 9:=⟨by unfold I64; decide⟩
instance : Iw 16:=⟨by unfold I64; decide⟩
instance : Iw 32:=⟨by unfold I64; decide⟩
instance : Iw (-1):=⟨by unfold I64; decide⟩
theorem lfrac_c {n d : Int} [Iw n] [Iw d] : Pure Tryd.prog 13 [.int .i64 n,.int .i64 d] (Qc n d):=by
 intro w
 refine ⟨en_13,?_⟩
 have m:=Mem.refl w
 go_enter Tryd.func13,Tryd.ntmps13
 refine c_seq fun K1 k1=>wp_region_lit (malloc m zero_32 rfl ?_)
 clear m; intro g1 u m
 refine n_nil (k1 _ _ ?_)
 refine c_seq fun K2 k2=>wp_region_lit (n_val (r_move) ?_)
 simp only [ev,zD,zE,zF,zG]
 refine mcallP m rfl rfl (rFrom_c Iw.h) ?_
 clear m; intro u m
 refine n_val (r_move) ?_
 simp only [ev,zD,zE,zF,zG]
 refine mcallP m rfl rfl (rFrom_c Iw.h) ?_
 clear m; intro u m
 refine n_val (r_build_32_0_1 rfl rfl) ?_
 simp only [ev,zD,zE,zF,zG]
 refine mstoreA m 0 rfl rfl rfl cells_32 (leT rfl) rfl ?_
 clear m; intro u m; simp only [over,zH,zI,zJ,zK,zL,zM,zN,zO,zP,zF,zG,Nat.reduceAdd] at m
 refine n_nil (k2 _ _ ?_)
 refine wp_ret ?_
 try simp only [Exit.inBlock,Exit.then,if_true]
 refine fin1 rfl ⟨_,rfl,((m.b 0 rfl).full agg_32 cells_32)⟩ ?_
 try simp only [zD,zE]
 exact ⟨_,rfl,m.ext,rfl⟩
theorem far_c {x : P3} {t : T3} [I3 x] [IT t] {k : Int} [Iw k] (h : triq x t = (k : Rat)) : Pure Tryd.prog 10 [pt x,tr t,.int .i64 k] (.bool true):=by
 intro w
 refine ⟨en_10,?_⟩
 have m:=Mem.refl w
 go_enter Tryd.func10,Tryd.ntmps10
 refine c_seq fun K1 k1=>wp_region_lit (mboxA m rfl ?_)
 clear m; intro g1 u m
 simp only [ev,zD,zE,zF,zG]
 refine mboxA m rfl ?_
 clear m; intro g2 u m
 refine n_val (r_assign) (n_nil (k1 _ _ ?_))
 refine c_seq fun K2 k2=>wp_region_lit ?_
 simp only [ev,zD,zE,zF,zG]
 refine n_load rfl ((m.b 1 rfl).full agg_23 cells_23) ?_
 simp only [ev,zD,zE,zF,zG]
 refine n_load rfl ((m.b 0 rfl).full agg_25 cells_25) ?_
 simp only [ev,zD,zE,zF,zG]
 refine n_bs_28_1 rfl ?_
 intro u g3 e hg hB; replace m:=m.newB e hg hB; clear e hg hB
 simp only [ev,zD,zE,zF,zG]
 refine mcall m rfl rfl (Far2_c (ts:=[t]) _ (TrisAt.one (m.b 0 rfl)) (by decide)) ?_
 clear m; rintro v u m rfl
 simp only [ev,zD,zE,zF,zG]
 rw [show farq x [t] = (k : Rat) from h,show decide ((0 : Int) < ((1 : Nat) : Int)) = true from rfl]
 refine n_val (r_move) (n_val (r_extract rfl rfl) (n_val (r_extract rfl rfl) ?_))
 simp only [ev,zD,zE,zF,zG]
 refine malloc m zero_32 rfl ?_
 clear m; intro g4 u m
 simp only [ev,zD,zE,zF,zG]
 refine mstoreA m 0 rfl rfl rfl cells_32 (leT rfl) rfl ?_
 clear m; intro u m; simp only [over,zH,zI,zJ,zK,zL,zM,zN,zO,zP,zF,zG,Nat.reduceAdd] at m
 refine n_val (r_assign) (n_nil (k2 _ _ ?_))
 refine c_seq fun K3 k3=>?_
 simp only [ev,zD,zE,zF,zG]
 refine mq m follows_mixed (by kernel_rfl) (q_val (r_move) (q_val (r_move) (q_want rfl ?_)))
 simp only [ev,zD,zE,zF,zG]
 refine ql rfl (fun u m=>((m.b 0 rfl).full agg_32 cells_32)) ?_
 simp only [ev,zD,zE,zF,zG]
 refine q_want rfl (q_val (r_move) (q_want rfl ?_))
 simp only [ev,zD,zE,zF,zG]
 refine qcP rfl rfl (lfrac_c) (q_want rfl (q_val (r_as (eq_eql_32 rfl rfl) (bool_as (decide_eq_true ⟨rfl,rfl,rfl,rfl⟩))) (q_val (r_pickT rfl) (q_val (r_assign) ?_))))
 simp only [ev,zD,zE,zF,zG]
 refine q_nil ?_
 clear m; intro u m
 refine k3 _ _ ?_
 refine wp_ret ?_
 try simp only [Exit.inBlock,Exit.then,if_true]
 refine fin1 rfl rfl ?_
 try simp only [zD,zE]
 exact ⟨_,rfl,m.ext,rfl⟩
def T0 : T3:=⟨⟨0,0,0⟩,⟨4,0,0⟩,⟨0,4,0⟩⟩
instance : IT T0:=inferInstanceAs (IT ⟨⟨0,0,0⟩,⟨4,0,0⟩,⟨0,4,0⟩⟩)
def T1 : T3:=⟨⟨0,0,0⟩,⟨1,0,0⟩,⟨0,1,1⟩⟩
instance : IT T1:=inferInstanceAs (IT ⟨⟨0,0,0⟩,⟨1,0,0⟩,⟨0,1,1⟩⟩)
def tet : List T3:=[⟨⟨0,0,0⟩,⟨0,4,0⟩,⟨4,0,0⟩⟩,⟨⟨0,0,0⟩,⟨4,0,0⟩,⟨0,0,4⟩⟩,⟨⟨4,0,0⟩,⟨0,4,0⟩,⟨0,0,4⟩⟩,⟨⟨0,4,0⟩,⟨0,0,0⟩,⟨0,0,4⟩⟩]
theorem tet_it : ∀ t ∈ tet,IT t:=fun t ht=>by
 simp only [tet,List.mem_cons,List.not_mem_nil,or_false] at ht
 rcases ht with rfl | rfl | rfl | rfl <;> infer_instance
theorem isq {n r : Nat} (h1 : r * r ≤ n) (h2 : n < (r + 1) * (r + 1)) : isqrt n = r:=(isqrt_unique h1 h2).symm
theorem low0 : sumT lowA [T0] = 16:=by rw [sumT_one]; show ((isqrt 256 : Nat) : Int) = 16; rw [isq (r:=16) (by decide) (by decide)]; rfl
theorem high0 : sumT highA [T0] = 16:=by
 have h : lowA T0 = 16:=by have:=low0; rwa [sumT_one] at this
 rw [sumT_one,highA,h]; rfl
theorem low1 : sumT lowA [T1] = 1:=by rw [sumT_one]; show ((isqrt 2 : Nat) : Int) = 1; rw [isq (r:=1) (by decide) (by decide)]; rfl
theorem high1 : sumT highA [T1] = 2:=by
 have h : lowA T1 = 1:=by have:=low1; rwa [sumT_one] at this
 rw [sumT_one,highA,h]; rfl
theorem tet_vol : sumT det tet = 64:=by decide +kernel
theorem tet_x : sumT (mom P3.x) tet = 256:=by decide +kernel
theorem tet_y : sumT (mom P3.y) tet = 256:=by decide +kernel
theorem tet_z : sumT (mom P3.z) tet = 256:=by decide +kernel
theorem cq_one : cq 256 64 = 1:=by decide +kernel
theorem sanity_c  : Pure Tryd.prog 4 [] (.bool true):=by
 intro w
 refine ⟨en_4,?_⟩
 have m:=Mem.refl w
 go_enter Tryd.func4,Tryd.ntmps4
 refine c_seq fun K1 k1=>wp_region_lit (n_val (r_assign) (n_nil (k1 _ _ ?_)))
 refine c_seq fun K2 k2=>wp_region_lit (n_val (r_build_23_) ?_)
 simp only [ev,zD,zE,zF,zG]
 refine malloc m zero_23 rfl ?_
 clear m; intro g1 u m
 simp only [ev,zD,zE,zF,zG]
 refine mstoreA m 0 rfl rfl rfl cells_23 (leT rfl) rfl ?_
 clear m; intro u m; simp only [over,zH,zI,zJ,zK,zL,zM,zN,zO,zP,zF,zG,Nat.reduceAdd] at m
 refine n_nil (k2 _ _ ?_)
 refine c_seq fun K3 k3=>wp_region_lit (n_val (r_build_23_0 rfl) ?_)
 simp only [ev,zD,zE,zF,zG]
 refine malloc m zero_23 rfl ?_
 clear m; intro g2 u m
 simp only [ev,zD,zE,zF,zG]
 refine mstoreA m 0 rfl rfl rfl cells_23 (leT rfl) rfl ?_
 clear m; intro u m; simp only [over,zH,zI,zJ,zK,zL,zM,zN,zO,zP,zF,zG,Nat.reduceAdd] at m
 refine n_nil (k3 _ _ ?_)
 refine c_seq fun K4 k4=>wp_region_lit (n_val (r_build_23_1 rfl) ?_)
 simp only [ev,zD,zE,zF,zG]
 refine malloc m zero_23 rfl ?_
 clear m; intro g3 u m
 simp only [ev,zD,zE,zF,zG]
 refine mstoreA m 0 rfl rfl rfl cells_23 (leT rfl) rfl ?_
 clear m; intro u m; simp only [over,zH,zI,zJ,zK,zL,zM,zN,zO,zP,zF,zG,Nat.reduceAdd] at m
 refine n_nil (k4 _ _ ?_)
 refine c_seq fun K5 k5=>wp_region_lit (n_val (r_build_23_2 rfl) ?_)
 simp only [ev,zD,zE,zF,zG]
 refine malloc m zero_23 rfl ?_
 clear m; intro g4 u m
 simp only [ev,zD,zE,zF,zG]
 refine mstoreA m 0 rfl rfl rfl cells_23 (leT rfl) rfl ?_
 clear m; intro u m; simp only [over,zH,zI,zJ,zK,zL,zM,zN,zO,zP,zF,zG,Nat.reduceAdd] at m
 refine n_nil (k5 _ _ ?_)
 refine c_seq fun K6 k6=>wp_region_lit (n_load rfl ((m.b 3 rfl).full agg_23 cells_23) ?_)
 simp only [ev,zD,zE,zF,zG]
 refine n_load rfl ((m.b 2 rfl).full agg_23 cells_23) ?_
 simp only [ev,zD,zE,zF,zG]
 refine n_load rfl ((m.b 1 rfl).full agg_23 cells_23) ?_
 simp only [ev,zD,zE,zF,zG]
 refine n_val (r_build_25_0_1_2 rfl rfl rfl) ?_
 simp only [ev,zD,zE,zF,zG]
 refine malloc m zero_25 rfl ?_
 clear m; intro g5 u m
 simp only [ev,zD,zE,zF,zG]
 refine mstoreA m 0 rfl rfl rfl cells_25 (leT rfl) rfl ?_
 clear m; intro u m; simp only [over,zH,zI,zJ,zK,zL,zM,zN,zO,zP,zF,zG,Nat.reduceAdd] at m
 refine n_nil (k6 _ _ ?_)
 refine c_seq fun K7 k7=>wp_region_lit (n_load rfl ((m.b 4 rfl).full agg_23 cells_23) ?_)
 simp only [ev,zD,zE,zF,zG]
 refine n_load rfl ((m.b 2 rfl).full agg_23 cells_23) ?_
 simp only [ev,zD,zE,zF,zG]
 refine n_load rfl ((m.b 3 rfl).full agg_23 cells_23) ?_
 simp only [ev,zD,zE,zF,zG]
 refine n_val (r_build_25_0_1_2 rfl rfl rfl) ?_
 simp only [ev,zD,zE,zF,zG]
 refine n_load rfl ((m.b 4 rfl).full agg_23 cells_23) ?_
 simp only [ev,zD,zE,zF,zG]
 refine n_load rfl ((m.b 3 rfl).full agg_23 cells_23) ?_
 simp only [ev,zD,zE,zF,zG]
 refine n_load rfl ((m.b 1 rfl).full agg_23 cells_23) ?_
 simp only [ev,zD,zE,zF,zG]
 refine n_val (r_build_25_0_1_2 rfl rfl rfl) ?_
 simp only [ev,zD,zE,zF,zG]
 refine n_load rfl ((m.b 3 rfl).full agg_23 cells_23) ?_
 simp only [ev,zD,zE,zF,zG]
 refine n_load rfl ((m.b 2 rfl).full agg_23 cells_23) ?_
 simp only [ev,zD,zE,zF,zG]
 refine n_load rfl ((m.b 1 rfl).full agg_23 cells_23) ?_
 simp only [ev,zD,zE,zF,zG]
 refine n_val (r_build_25_0_1_2 rfl rfl rfl) ?_
 simp only [ev,zD,zE,zF,zG]
 refine n_load rfl ((m.b 2 rfl).full agg_23 cells_23) ?_
 simp only [ev,zD,zE,zF,zG]
 refine n_load rfl ((m.b 4 rfl).full agg_23 cells_23) ?_
 simp only [ev,zD,zE,zF,zG]
 refine n_load rfl ((m.b 1 rfl).full agg_23 cells_23) ?_
 simp only [ev,zD,zE,zF,zG]
 refine n_val (r_build_25_0_1_2 rfl rfl rfl) ?_
 simp only [ev,zD,zE,zF,zG]
 refine n_bs_28_4 rfl rfl rfl rfl ?_
 intro u g6 e hg hB; replace m:=m.newB e hg hB; clear e hg hB
 refine n_val (r_assign) (n_nil (k7 _ _ ?_))
 refine c_seq fun K8 k8=>wp_region_lit (n_val (r_build_23_0_1_2 rfl rfl rfl) ?_)
 simp only [ev,zD,zE,zF,zG]
 refine n_load rfl ((m.b 1 rfl).full agg_25 cells_25) ?_
 simp only [ev,zD,zE,zF,zG]
 refine mcallP m rfl rfl (far_c (x:=⟨1,1,3⟩) (t:=⟨⟨0,0,0⟩,⟨4,0,0⟩,⟨0,4,0⟩⟩) (k:=9) (by decide +kernel)) ?_
 clear m; intro u m
 refine n_val (r_move) (n_want rfl (n_val (r_build_23_0_1 rfl rfl) (n_want rfl ?_)))
 simp only [ev,zD,zE,zF,zG]
 refine n_load rfl ((m.b 1 rfl).full agg_25 cells_25) ?_
 simp only [ev,zD,zE,zF,zG]
 refine n_want rfl (mcallP m rfl rfl (far_c (x:=⟨5,-1,0⟩) (t:=⟨⟨0,0,0⟩,⟨4,0,0⟩,⟨0,4,0⟩⟩) (k:=2) (by decide +kernel)) ?_)
 clear m; intro u m
 refine n_val (r_pickT rfl) (n_val (r_move) (n_want rfl (n_val (r_build_23_0_1 rfl rfl) ?_)))
 simp only [ev,zD,zE,zF,zG]
 refine n_want rfl (n_load rfl ((m.b 1 rfl).full agg_25 cells_25) ?_)
 simp only [ev,zD,zE,zF,zG]
 refine n_want rfl (mcallP m rfl rfl (far_c (x:=⟨3,3,0⟩) (t:=⟨⟨0,0,0⟩,⟨4,0,0⟩,⟨0,4,0⟩⟩) (k:=2) (by decide +kernel)) ?_)
 clear m; intro u m
 refine n_val (r_pickT rfl) (n_val (r_assign) (n_nil (k8 _ _ ?_)))
 refine c_seq fun K9 k9=>wp_region_lit (n_val (r_build_23_2 rfl) ?_)
 simp only [ev,zD,zE,zF,zG]
 refine n_val (r_build_23_0_1 rfl rfl) (n_val (r_build_23_0_1 rfl rfl) (n_val (r_build_23_0_1 rfl rfl) (n_val (r_build_25_0_1_2 rfl rfl rfl) ?_)))
 simp only [ev,zD,zE,zF,zG]
 refine mcallP m rfl rfl (far_c (x:=⟨0,0,1⟩) (t:=⟨⟨1,1,0⟩,⟨3,1,0⟩,⟨2,1,0⟩⟩) (k:=3) (by decide +kernel)) ?_
 clear m; intro u m
 refine n_val (r_assign) (n_nil (k9 _ _ ?_))
 refine c_seq fun K10 k10=>wp_region_lit ?_
 simp only [ev,zD,zE,zF,zG]
 refine n_load rfl ((m.b 1 rfl).full agg_25 cells_25) ?_
 simp only [ev,zD,zE,zF,zG]
 refine n_bs_28_1 rfl ?_
 intro u g7 e hg hB; replace m:=m.newB e hg hB; clear e hg hB
 simp only [ev,zD,zE,zF,zG]
 refine mcall m rfl rfl (Area_c (ts:=[T0]) _ (TrisAt.one (t:=T0) (m.b 0 rfl)) (by decide)) ?_
 clear m; rintro v u m rfl
 simp only [ev,zD,zE,zF,zG]
 rw [low0,high0]
 refine n_val (r_move) (n_val (r_extract rfl rfl) (n_val (r_extract rfl rfl) ?_))
 simp only [ev,zD,zE,zF,zG]
 refine malloc m zero_30 rfl ?_
 clear m; intro g8 u m
 simp only [ev,zD,zE,zF,zG]
 refine malloc m zero_30 rfl ?_
 clear m; intro g9 u m
 simp only [ev,zD,zE,zF,zG]
 refine mstoreA m 1 rfl rfl rfl cells_30 (leT rfl) rfl ?_
 clear m; intro u m; simp only [over,zH,zI,zJ,zK,zL,zM,zN,zO,zP,zF,zG,Nat.reduceAdd] at m
 refine mstoreA m 0 rfl rfl rfl cells_30 (leT rfl) rfl ?_
 clear m; intro u m; simp only [over,zH,zI,zJ,zK,zL,zM,zN,zO,zP,zF,zG,Nat.reduceAdd] at m
 refine n_nil (k10 _ _ ?_)
 refine c_seq fun K11 k11=>wp_region_lit (n_load rfl ((m.b 8 rfl).full agg_23 cells_23) ?_)
 simp only [ev,zD,zE,zF,zG]
 refine n_val (r_build_23_0 rfl) (n_val (r_build_23_1_2 rfl rfl) (n_val (r_build_25_0_1_2 rfl rfl rfl) ?_))
 simp only [ev,zD,zE,zF,zG]
 refine n_bs_28_1 rfl ?_
 intro u g10 e hg hB; replace m:=m.newB e hg hB; clear e hg hB
 simp only [ev,zD,zE,zF,zG]
 refine mcall m rfl rfl (Area_c (ts:=[T1]) _ (TrisAt.one (t:=T1) (m.b 0 rfl)) (by decide)) ?_
 clear m; rintro v u m rfl
 simp only [ev,zD,zE,zF,zG]
 rw [low1,high1]
 refine n_val (r_move) (n_val (r_extract rfl rfl) (n_val (r_extract rfl rfl) ?_))
 simp only [ev,zD,zE,zF,zG]
 refine malloc m zero_30 rfl ?_
 clear m; intro g11 u m
 simp only [ev,zD,zE,zF,zG]
 refine malloc m zero_30 rfl ?_
 clear m; intro g12 u m
 simp only [ev,zD,zE,zF,zG]
 refine mstoreA m 1 rfl rfl rfl cells_30 (leT rfl) rfl ?_
 clear m; intro u m; simp only [over,zH,zI,zJ,zK,zL,zM,zN,zO,zP,zF,zG,Nat.reduceAdd] at m
 refine mstoreA m 0 rfl rfl rfl cells_30 (leT rfl) rfl ?_
 clear m; intro u m; simp only [over,zH,zI,zJ,zK,zL,zM,zN,zO,zP,zF,zG,Nat.reduceAdd] at m
 refine n_nil (k11 _ _ ?_)
 refine c_seq fun K12 k12=>wp_region_lit (n_val (r_move) ?_)
 simp only [ev,zD,zE,zF,zG]
 refine mcall m rfl rfl (Centre_c (ts:=tet) _ (TrisAt.of_cells (ts:=tet) (m.b 6 rfl) rfl rfl tet_it) (by decide)) ?_
 clear m; rintro v u m rfl
 simp only [ev,zD,zE,zF,zG]
 rw [tet_vol,tet_x,tet_y,tet_z,cq_one,show decide ((64 : Int) ≠ 0) = true from rfl]
 refine n_val (r_move) (n_val (r_extract rfl rfl) (n_val (r_extract rfl rfl) ?_))
 simp only [ev,zD,zE,zF,zG]
 refine malloc m zero_42 rfl ?_
 clear m; intro g13 u m
 simp only [ev,zD,zE,zF,zG]
 refine mstoreA m 0 rfl rfl rfl cells_42 (leT rfl) rfl ?_
 clear m; intro u m; simp only [over,zH,zI,zJ,zK,zL,zM,zN,zO,zP,zF,zG,Nat.reduceAdd] at m
 refine n_val (r_assign) (n_nil (k12 _ _ ?_))
 refine c_seq fun K13 k13=>?_
 simp only [ev,zD,zE,zF,zG]
 refine mq m follows_mixed (by kernel_rfl) (ql rfl (fun u m=>((m.b 5 rfl).full agg_30 cells_30)) ?_)
 simp only [ev,zD,zE,zF,zG]
 refine qcP rfl rfl (rFrom_c Iw.h) (q_val (r_as (eq_eql_30 rfl rfl) (bool_as (decide_eq_true ⟨rfl,rfl⟩))) (q_val (r_move) (q_want rfl ?_)))
 simp only [ev,zD,zE,zF,zG]
 refine ql rfl (fun u m=>((m.b 4 rfl).full agg_30 cells_30)) ?_
 simp only [ev,zD,zE,zF,zG]
 refine q_want rfl (ql rfl (fun u m=>((m.b 5 rfl).full agg_30 cells_30)) ?_)
 simp only [ev,zD,zE,zF,zG]
 refine q_want rfl (q_val (r_as (eq_eql_30 rfl rfl) (bool_as (decide_eq_true ⟨rfl,rfl⟩))) (q_val (r_pickT rfl) (q_val (r_move) (q_want rfl ?_))))
 simp only [ev,zD,zE,zF,zG]
 refine ql rfl (fun u m=>((m.b 2 rfl).full agg_30 cells_30)) ?_
 simp only [ev,zD,zE,zF,zG]
 refine q_want rfl (qcP rfl rfl (rFrom_c Iw.h) (q_want rfl (q_val (r_as (eq_eql_30 rfl rfl) (bool_as (decide_eq_true ⟨rfl,rfl⟩))) (q_val (r_pickT rfl) (q_val (r_move) ?_)))))
 simp only [ev,zD,zE,zF,zG]
 refine q_want rfl (ql rfl (fun u m=>((m.b 1 rfl).full agg_30 cells_30)) ?_)
 simp only [ev,zD,zE,zF,zG]
 refine q_want rfl (qcP rfl rfl (rFrom_c Iw.h) (q_want rfl (q_val (r_as (eq_eql_30 rfl rfl) (bool_as (decide_eq_true ⟨rfl,rfl⟩))) (q_val (r_pickT rfl) (q_val (r_assign) ?_)))))
 simp only [ev,zD,zE,zF,zG]
 refine q_nil ?_
 clear m; intro u m
 refine k13 _ _ ?_
 refine c_seq fun K14 k14=>mq m follows_mixed (by kernel_rfl) (q_val (r_move) (q_val (r_move) (q_want rfl (q_val (r_move) (q_val (r_pickT rfl) ?_)))))
 simp only [ev,zD,zE,zF,zG]
 refine q_val (r_move) (q_want rfl (q_val (r_move) (q_val (r_pickT rfl) (q_val (r_move) ?_))))
 simp only [ev,zD,zE,zF,zG]
 refine q_want rfl (q_val (r_move) (q_val (r_pickT rfl) (q_val (r_move) (q_want rfl (q_val (r_move) ?_)))))
 simp only [ev,zD,zE,zF,zG]
 refine q_want rfl (qc rfl rfl (fun u m=>Volume_c (ts:=tet) _ (TrisAt.of_cells (ts:=tet) ((m.b 7 rfl)) rfl rfl tet_it) (by decide)) (q_want rfl ?_))
 simp only [ev,zD,zE,zF,zG]
 refine qcP rfl rfl (lfrac_c) (q_want rfl (q_val (r_as (eq_eql_32 rfl rfl) (bool_as (decide_eq_true ⟨rfl,rfl,rfl,rfl⟩))) (q_val (r_pickT rfl) (q_val (r_move) ?_))))
 simp only [ev,zD,zE,zF,zG]
 refine q_want rfl (ql rfl (fun u m=>((m.b 0 rfl).full agg_42 cells_42)) ?_)
 simp only [ev,zD,zE,zF,zG]
 refine q_want rfl (qcP rfl rfl (lfrac_c) (q_want rfl ?_))
 simp only [ev,zD,zE,zF,zG]
 refine qcP rfl rfl (lfrac_c) (q_want rfl ?_)
 simp only [ev,zD,zE,zF,zG]
 refine qcP rfl rfl (lfrac_c) (q_want rfl (q_val (r_build_42_0_1_2 rfl rfl rfl) (q_want rfl (q_val (r_as (eq_eql_42 rfl rfl) (bool_as (decide_eq_true ⟨rfl,rfl,rfl,rfl,rfl,rfl,rfl,rfl,rfl,rfl,rfl,rfl⟩))) (q_val (r_pickT rfl) ?_)))))
 simp only [ev,zD,zE,zF,zG]
 refine q_val (r_assign) (q_nil ?_)
 clear m; intro u m
 refine k14 _ _ ?_
 refine wp_ret ?_
 simp only [ev,zD,zE,zF,zG]
 try simp only [Exit.inBlock,Exit.then,if_true]
 refine fin1 rfl rfl ?_
 try simp only [zD,zE]
 exact ⟨_,rfl,m.ext,rfl⟩
end Go.Proofs.YtmcgcnpgkkfkoaaDoor
namespace Go.Lith
open Go.RowKit
structure GX (w w' : World) : Prop where
  ext : Ext w w'
  dr : w.drawn ≤ w'.drawn
theorem GX.trans {a b c : World} (h : GX a b) (k : GX b c) : GX a c:=⟨h.ext.trans k.ext,Nat.le_trans h.dr k.dr⟩
structure MemG (w0 w : World) (is : List It) : Prop where
  ext : GX w0 w
  mem : Mem w0 w is
def GPure (P : Program) (f : FuncId) (args : List Value) (v : Value) : Prop:=∀ w,Enters P f ∧ Calls P f args.toArray w fun e w'=>∃ u,e = .returned u ∧ GX w w' ∧ u = v
theorem GPure.pure {P : Program} {f : FuncId} {args : List Value} {v : Value} (h : GPure P f args v) : Pure P f args v:=fun w=>⟨(h w).1,(h w).2.mono fun _ _ ⟨u,he,hX,hv⟩=>⟨u,he,hX.ext,hv⟩⟩
section
variable {w0 w w' : World} {is : List It}
theorem MemG.refl (w : World) : MemG w w []:=⟨⟨Ext.refl w,Nat.le_refl _⟩,Mem.refl w⟩
theorem MemG.go (m : MemG w0 w is) {js : List It} (h : Mem w0 w' js) (d : w.drawn ≤ w'.drawn) : MemG w0 w' js:=⟨⟨h.ext,Nat.le_trans m.ext.dr d⟩,h⟩
theorem MemG.ext' (m : MemG w0 w is) (e : GX w w') : MemG w0 w' is:=m.go (m.mem.ext' e.ext) e.dr
theorem MemG.b (m : MemG w0 w is) (k : Nat) {g : Nat} {cs : List Value} {t : TypeId} (hk : is[k]? = some (bI g cs t)) : Blk w g cs t:=m.mem.b k hk
theorem MemG.sel (m : MemG w0 w is) (bs : List Bool) : MemG w0 w (selB bs is):=⟨m.ext,m.mem.sel bs⟩
end
section
variable {P : Program} {ds : List Deferred} {l : List Value} {x y : Operand} {T ty : TypeId}
variable {ops : Array Oper} {Q : Exit → Act → World → Prop} {rest : List Oper} {d : Nat} {pos : String} {after : Array Edge} {w w0 : World} {is : List It} {v : Value}
theorem MemG.drew (m : MemG w0 w is) : MemG w0 { w with drawn:=w.drawn + 1 } is:=m.ext' ⟨(Ext.refl w).drawn,Nat.le_succ _⟩
end
section
variable {P : Program} {w0 : World} {is : List It} {l : List Value} {x y : Operand} {T ty : TypeId}
variable {ops : Array Oper} {Q : Act → Prop} {rest : List Oper} {d : Nat} {pos : String} {after : Array Edge} {v : Value} {ds : List Deferred}
end
end Go.Lith
namespace Go.Lith
open Go.RowKit
def P3.Lt (p q : P3) : Prop:=p.x < q.x ∨ p.x = q.x ∧ (p.y < q.y ∨ p.y = q.y ∧ p.z < q.z)
instance (p q : P3) : Decidable (p.Lt q):=by unfold P3.Lt; infer_instance
theorem P3.eq {p q : P3} (h1 : p.x = q.x) (h2 : p.y = q.y) (h3 : p.z = q.z) : p = q:=by
  cases p; cases q; simp_all
instance : DecidableEq P3:=fun p q=>if h : p.x = q.x ∧ p.y = q.y ∧ p.z = q.z then isTrue (P3.eq h.1 h.2.1 h.2.2) else isFalse fun e=>h (by subst e; exact ⟨rfl,rfl,rfl⟩)
theorem P3.lt_irrefl (p : P3) : ¬ p.Lt p:=by unfold P3.Lt; omega
theorem P3.lt_trans {p q r : P3} (h : p.Lt q) (k : q.Lt r) : p.Lt r:=by unfold P3.Lt at *; omega
theorem P3.lt_tri (p q : P3) : p.Lt q ∨ p = q ∨ q.Lt p:=by
  by_cases h1 : p.x = q.x
  · by_cases h2 : p.y = q.y
    · by_cases h3 : p.z = q.z
      · exact .inr (.inl (P3.eq h1 h2 h3))
      · unfold P3.Lt; omega
    · unfold P3.Lt; omega
  · unfold P3.Lt; omega
end Go.Lith
namespace Go.Lith
open Go.RowKit
theorem sub_self' (p : P3) : p.sub p = ⟨0,0,0⟩:=by simp only [P3.sub,Int.sub_self]
theorem dot_zero (u : P3) : u.dot ⟨0,0,0⟩ = 0:=by simp [P3.dot]
theorem zero_dot (u : P3) : P3.dot ⟨0,0,0⟩ u = 0:=by simp [P3.dot]
theorem cross_zero (u : P3) : u.cross ⟨0,0,0⟩ = ⟨0,0,0⟩:=by simp [P3.cross]
theorem seg_deg (x p : P3) : segq x p p = Rat.divInt ((x.sub p).dot (x.sub p)) 1:=by
  rw [segq,if_pos (by rw [sub_self',zero_dot]; exact Int.le_refl _)]
end Go.Lith
namespace Go.Lith
open Go.RowKit
section
variable {P : Program} {ds : List Deferred} {l : List Value} {x y : Operand} {T ty : TypeId} {b c : Bool} {v : Value}
end
section
variable {P : Program} {ops : Array Oper} {Q : Exit → Act → World → Prop} {rest : List Oper} {d j : Nat} {op : Op} {ty : TypeId} {pos : String} {after : Array Edge} {v : Value} {b : Bool} {ds : List Deferred} {l : List Value} {w w0 : World} {is : List It}
end
section
variable {P : Program} {ops : Array Oper} {Q : Act → Prop} {C : World → Prop} {rest : List Oper} {d j : Nat} {op : Op} {ty : TypeId} {pos : String} {after : Array Edge} {v : Value} {b : Bool} {ds : List Deferred} {l : List Value} {w0 : World} {is : List It}
end
section
variable {P : Program} {ops : Array Oper} {S : World → Prop} {Q : Exit → Act → World → Prop} {rest : List (Oper × Bool)} {d j : Nat} {op : Op} {ty : TypeId} {pos : String} {after : Array Edge} {v : Value} {b : Bool} {ds : List Deferred} {l : List Value} {w : World}
end
end Go.Lith
namespace Go.Lith
open Go.RowKit Go.ChangeShapes
variable {H : Type} {enc : TypeId × Value → H} {P : Program} {w : World} {base : Nat} {spare : Nat → Bool} {held : Bool}
def intsOnly (P : Program) : Nat → TypeId → Bool
  | 0,_=>false
  | n + 1,t=>match P.underlying t with
    | some (.int .i64)=>decide (P.cellsOf t = 1)
    | some (.struct fs)=>(fs.toList.all fun f=>intsOnly P n f.type) && (List.range (P.cellsOf t)).all fun i=>fs.toList.any fun f=>decide (f.offset ≤ i) && decide (i < f.offset + P.cellsOf f.type)
    | some (.array m e)=>intsOnly P n e && decide (P.cellsOf t = m * P.cellsOf e)
    | _=>false
theorem i64_of {n : Int} (h : (Lit.int .i64 n).wf = true) : I64 n:=by
  have:=bounds_i64 h
  exact ⟨by omega,by omega⟩
theorem ints_of_trod : ∀ (n : Nat) (t : TypeId) (m : Nat) (cs : List Value) (x : DataW H × List MemPlace),intsOnly P n t = true → DataW.trod enc P w base spare held m t cs = some x →
    cs.length = P.cellsOf t ∧ ∀ v ∈ cs,∃ z,v = .int .i64 z ∧ I64 z
  | 0,t,m,cs,x,h,_=>by cases h
  | n + 1,t,m,cs,x,h,hx=>by
    unfold intsOnly at h
    split at h
    · rename_i hu
      obtain ⟨z,rfl,_,hz⟩:=DataW.trod_int hu hx
      refine ⟨by rw [of_decide_eq_true h]; rfl,fun v hv=>⟨z,by simpa using hv,i64_of hz⟩⟩
    · rename_i fs hu
      simp only [Bool.and_eq_true,List.all_eq_true,List.any_eq_true,decide_eq_true_eq,List.mem_range] at h
      obtain ⟨ys,k,_,_,hl,hlen,hf⟩:=DataW.trod_struct hu hx
      refine ⟨hl,fun v hv=>?_⟩
      obtain ⟨i,hi,rfl⟩:=List.getElem_of_mem hv
      obtain ⟨f,hfm,h1,h2⟩:=h.2 i (by rw [← hl]; exact hi)
      obtain ⟨j,hj,rfl⟩:=List.getElem_of_mem hfm
      have hj' : j < fs.size:=by simpa using hj
      have:=hf j fs[j] (Array.getElem?_eq_getElem hj')
      rw [List.getElem?_eq_getElem (by rw [hlen]; exact hj')] at this
      have hr:=(ints_of_trod n _ _ _ _ (h.1 _ (List.getElem_mem hj)) this).2
      refine hr _ ?_
      simp only [Array.getElem_toList] at h1 h2
      refine List.mem_of_getElem? (i:=i - fs[j].offset) ?_
      rw [List.getElem?_take,if_pos (by omega),List.getElem?_drop,show fs[j].offset + (i - fs[j].offset) = i by omega]
      exact List.getElem?_eq_getElem hi
    · rename_i q e hu
      simp only [Bool.and_eq_true,decide_eq_true_eq] at h
      obtain ⟨ys,k,_,_,hl,hlen,hf⟩:=DataW.trod_array hu hx
      refine ⟨hl,fun v hv=>?_⟩
      obtain ⟨i,hi,rfl⟩:=List.getElem_of_mem hv
      rw [hl,h.2] at hi
      have hc : 0 < P.cellsOf e:=by
        rcases Nat.eq_zero_or_pos (P.cellsOf e) with h0 | h0
        · rw [h0] at hi; omega
        · exact h0
      have hq : i / P.cellsOf e < q:=Nat.div_lt_of_lt_mul (by rw [Nat.mul_comm]; exact hi)
      have:=hf _ hq
      rw [List.getElem?_eq_getElem (by rw [hlen]; exact hq)] at this
      have hr:=(ints_of_trod n _ _ _ _ h.1 this).2
      refine hr _ (List.mem_of_getElem? (i:=i % P.cellsOf e) ?_)
      rw [List.getElem?_take,if_pos (Nat.mod_lt _ hc),List.getElem?_drop,Nat.mul_comm,Nat.div_add_mod]
      exact List.getElem?_eq_getElem _
    · cases h
theorem ints_list : ∀ (n : Nat) (cs : List Value),cs.length = n → (∀ v ∈ cs,∃ z,v = .int .i64 z ∧ I64 z) → ∃ zs : List Int,zs.length = n ∧ cs = zs.map (.int .i64 ·) ∧ ∀ z ∈ zs,I64 z
  | 0,[],_,_=>⟨[],rfl,rfl,fun _ h=>by cases h⟩
  | n + 1,v :: vs,h,hv=>by
    obtain ⟨zs,h1,h2,h3⟩:=ints_list n vs (by simpa using h) (fun u hu=>hv u (by simp [hu]))
    obtain ⟨z,rfl,hz⟩:=hv v (by simp)
    exact ⟨z :: zs,by simp [h1],by simp [h2],fun u hu=>by rcases List.mem_cons.1 hu with rfl | hu; exact hz; exact h3 _ hu⟩
theorem open_ints {r : Reach} {b0 n m : Nat} {t : TypeId} {v : Value} {d : DataW H} {p : List MemPlace} (ha : IsAgg P t true) (hi : intsOnly P n t = true) (hc : P.cellsOf t = m) (hv : Value.okWide P w r b0 t v) (h : DataW.Trod enc P w base spare held t v d p) :
    ∃ zs : List Int,zs.length = m ∧ v = .agg (zs.map (.int .i64 ·)).toArray ∧ ∀ z ∈ zs,I64 z:=by
  obtain ⟨dd,hu,hd⟩:=ha
  obtain ⟨fuel,hf⟩:=h
  unfold Value.okWide at hv
  rw [hu] at hv
  have : ∃ cs,v = .agg cs:=by
    cases dd <;> first | (obtain ⟨cs,rfl,_⟩:=hv; exact ⟨cs,rfl⟩) | (cases hd)
  obtain ⟨cs,rfl⟩:=this
  obtain ⟨h1,h2⟩:=ints_of_trod n t fuel _ _ hi hf
  obtain ⟨zs,h3,h4,h5⟩:=ints_list m cs.toList (by rw [← hc]; exact h1) h2
  exact ⟨zs,h3,by rw [← h4],h5⟩
theorem three {zs : List Int} (h : zs.length = 3) : ∃ a b c,zs = [a,b,c]:=by
  match zs,h with
  | [a,b,c],_=>exact ⟨a,b,c,rfl⟩
theorem nine {zs : List Int} (h : zs.length = 9) : ∃ a b c d e f g i j,zs = [a,b,c,d,e,f,g,i,j]:=by
  match zs,h with
  | [a,b,c,d,e,f,g,i,j],_=>exact ⟨a,b,c,d,e,f,g,i,j,rfl⟩
theorem open_pt {r : Reach} {b0 n : Nat} {t : TypeId} {v : Value} {d : DataW H} {p : List MemPlace} (ha : IsAgg P t true) (hi : intsOnly P n t = true) (hc : P.cellsOf t = 3) (hv : Value.okWide P w r b0 t v) (h : DataW.Trod enc P w base spare held t v d p) : ∃ q : P3,I3 q ∧ v = pt q:=by
  obtain ⟨zs,h1,rfl,h2⟩:=open_ints ha hi hc hv h
  obtain ⟨a,b,c,rfl⟩:=three h1
  exact ⟨⟨a,b,c⟩,⟨h2 _ (by simp),h2 _ (by simp),h2 _ (by simp)⟩,rfl⟩
theorem open_tr {r : Reach} {b0 n : Nat} {t : TypeId} {v : Value} {d : DataW H} {p : List MemPlace} (ha : IsAgg P t true) (hi : intsOnly P n t = true) (hc : P.cellsOf t = 9) (hv : Value.okWide P w r b0 t v) (h : DataW.Trod enc P w base spare held t v d p) : ∃ q : T3,IT q ∧ v = tr q:=by
  obtain ⟨zs,h1,rfl,h2⟩:=open_ints ha hi hc hv h
  obtain ⟨x1,x2,x3,y1,y2,y3,z1,z2,z3,rfl⟩:=nine h1
  exact ⟨⟨⟨x1,x2,x3⟩,⟨y1,y2,y3⟩,⟨z1,z2,z3⟩⟩,⟨⟨h2 _ (by simp),h2 _ (by simp),h2 _ (by simp)⟩,⟨h2 _ (by simp),h2 _ (by simp),h2 _ (by simp)⟩,⟨h2 _ (by simp),h2 _ (by simp),h2 _ (by simp)⟩⟩,rfl⟩
structure IntsAt (w : World) (A : Option Addr) (n : Nat) (zs : List Int) : Prop where
  len : zs.length = n
  it : ∀ z ∈ zs,I64 z
  row : ∀ i z,zs[i]? = some z → ∃ a,A = some a ∧ w.cell? (a.add i) = some (.int .i64 z)
theorem IntsAt.ext {w' : World} {A : Option Addr} {n : Nat} {zs : List Int} (h : IntsAt w A n zs) (hE : Ext w w') : IntsAt w' A n zs :=
  ⟨h.len,h.it,fun i z hi=>let ⟨a,e,hr⟩:=h.row i z hi; ⟨a,e,hE.cell hr⟩⟩
theorem IntsAt.get {A : Option Addr} {n : Nat} {zs : List Int} (h : IntsAt w A n zs) {i : Nat} (hi : i < n) : ∃ z,zs[i]? = some z ∧ Iw z ∧ ∃ a,A = some a ∧ w.cell? (a.add i) = some (.int .i64 z):=by
  have hl : i < zs.length:=by rw [h.len]; exact hi
  exact ⟨zs[i],List.getElem?_eq_getElem hl,⟨h.it _ (List.getElem_mem hl)⟩,h.row i _ (List.getElem?_eq_getElem hl)⟩
end Go.Lith
namespace Go.Lith
open Go.RowKit
/-! ### Hills -/
def hgt (zs : List Int) (x y : Nat) : Int:=(zs[(y * 7 + x) % zs.length]?.getD 0) % 64
def Sm (k : Int) (p : P3) : Prop:=(0 ≤ p.x ∧ p.x ≤ k) ∧ (0 ≤ p.y ∧ p.y ≤ k) ∧ (0 ≤ p.z ∧ p.z ≤ k)
def SmT (k : Int) (t : T3) : Prop:=Sm k t.a ∧ Sm k t.b ∧ Sm k t.c
theorem Sm.i3 {k : Int} {p : P3} (h : Sm k p) (hk : k < 9223372036854775808) : I3 p:=⟨⟨by have:=h.1; omega,by have:=h.1; omega⟩,⟨by have:=h.2.1; omega,by have:=h.2.1; omega⟩,⟨by have:=h.2.2; omega,by have:=h.2.2; omega⟩⟩
theorem SmT.it {k : Int} {t : T3} (h : SmT k t) (hk : k < 9223372036854775808) : IT t:=⟨h.1.i3 hk,h.2.1.i3 hk,h.2.2.i3 hk⟩
/-! ### Cubes -/
/-! ### What the walks ask for -/
end Go.Lith
namespace Go.Lith
open Go.RowKit
def Pts (ts : List T3) (p : P3) : Prop:=∃ u ∈ ts,p = u.a ∨ p = u.b ∨ p = u.c
def SubT (us ts : List T3) : Prop:=∀ p,Pts us p → Pts ts p
theorem SubT.refl (ts : List T3) : SubT ts ts:=fun _ h=>h
theorem SubT.trans {a b c : List T3} (h : SubT a b) (k : SubT b c) : SubT a c:=fun p hp=>k p (h p hp)
theorem SubT.one {ts : List T3} {a b c : P3} (ha : Pts ts a) (hb : Pts ts b) (hc : Pts ts c) : SubT [⟨a,b,c⟩] ts:=fun p ⟨u,hu,hp⟩=>by
  obtain rfl:=List.mem_singleton.1 hu
  rcases hp with rfl | rfl | rfl
  · exact ha
  · exact hb
  · exact hc
theorem SubT.set {us ts : List T3} {k : Nat} {a b c : P3} (h : SubT us ts) (ha : Pts ts a) (hb : Pts ts b) (hc : Pts ts c) : SubT (us.set k ⟨a,b,c⟩) ts:=fun p ⟨u,hu,hp⟩=>by
  rcases List.mem_or_eq_of_mem_set hu with hu | rfl
  · exact h p ⟨u,hu,hp⟩
  · rcases hp with rfl | rfl | rfl
    · exact ha
    · exact hb
    · exact hc
theorem SubT.it {us ts : List T3} (h : SubT us ts) (hs : ∀ t ∈ ts,IT t) : ∀ t ∈ us,IT t:=fun t ht=>by
  have p : ∀ p,Pts us p → I3 p:=fun p hp=>by
    obtain ⟨u,hu,hp⟩:=h p hp
    have:=hs u hu
    rcases hp with rfl | rfl | rfl
    · exact this.a
    · exact this.b
    · exact this.c
  exact ⟨p _ ⟨t,ht,.inl rfl⟩,p _ ⟨t,ht,.inr (.inl rfl)⟩,p _ ⟨t,ht,.inr (.inr rfl)⟩⟩
section
variable {w0 w : World} {S : List (Option Nat)} {E : TypeId} {n cap : Nat} {A : Option Addr} {ts : List T3}
theorem TrisAt.take {N k : Nat} (h : TrisAt w A N ts) (hk : k ≤ N) : TrisAt w A k (ts.take k) :=
  ⟨by rw [List.length_take,h.len]; omega,fun t ht=>h.it t (List.mem_of_mem_take ht),fun i t ht=>h.row i t (by rw [List.getElem?_take] at ht; split at ht; exact ht; cases ht)⟩
end
end Go.Lith
namespace Go.Lith
open Go.RowKit
theorem rat_div_le {a b c d : Int} (hb : 0 < b) (hd : 0 < d) : Rat.divInt a b ≤ Rat.divInt c d ↔ a * d ≤ c * b:=by
  rw [Rat.le_iff_sub_nonneg,Rat.divInt_sub_divInt _ _ (by omega) (by omega),Rat.divInt_nonneg_iff_of_pos_right (Int.mul_pos hd hb)]
  omega
theorem div_0 {a b : Int} (hb : 0 < b) : Rat.divInt a b = 0 ↔ a = 0:=by
  rw [← Rat.zero_divInt 1,Rat.divInt_eq_divInt_iff (by omega) (by decide)]
  omega
def Z3 (u : P3) : Prop:=u.x = 0 ∧ u.y = 0 ∧ u.z = 0
instance (u : P3) : Decidable (Z3 u):=inferInstanceAs (Decidable (_ ∧ _ ∧ _))
theorem z3_dot {u : P3} : u.dot u = 0 ↔ Z3 u:=by
  have h1:=dot_nn u
  have h2:=@dot_pos u
  unfold Z3
  constructor
  · intro h
    exact Decidable.byContradiction fun k=>by have:=h2.2 k; omega
  · intro h
    exact Decidable.byContradiction fun k=>h2.1 (by omega) h
theorem lagrange (d v : P3) : (d.cross v).dot (d.cross v) = v.dot v * d.dot d - d.dot v * d.dot v:=by
  simp only [P3.dot,P3.cross]; grind
theorem scal {a w t L : Int} (ha : a ≠ 0) (hL : 0 < L) (h : L * w = t * a) : ((0 ≤ w ∧ w ≤ a) ∨ (w ≤ 0 ∧ a ≤ w)) ↔ 0 ≤ t ∧ t ≤ L:=by
  have m1 : ∀ {x y : Int},L * x ≤ L * y ↔ x ≤ y:=fun {x y}=>⟨fun k=>Int.le_of_mul_le_mul_left k hL,fun k=>Int.mul_le_mul_of_nonneg_left k (Int.le_of_lt hL)⟩
  rcases Int.lt_or_gt_of_ne ha with hn | hp
  · have hb : 0 < -a:=by omega
    have m2 : ∀ {x y : Int},x * a ≤ y * a ↔ y ≤ x:=fun {x y}=>by
      have k : (x * a ≤ y * a) ↔ (y * (-a) ≤ x * (-a)):=by rw [Int.mul_neg,Int.mul_neg]; omega
      rw [k]
      exact ⟨fun k=>Int.le_of_mul_le_mul_right k hb,fun k=>Int.mul_le_mul_of_nonneg_right k (Int.le_of_lt hb)⟩
    have k1:=m1 (x:=w) (y:=0)
    have k2:=m2 (x:=t) (y:=0)
    rw [h,Int.mul_zero] at k1
    rw [Int.zero_mul] at k2
    have e1 : w ≤ 0 ↔ 0 ≤ t:=k1.symm.trans k2
    have e2 : a ≤ w ↔ t ≤ L:=by rw [← m1 (x:=a) (y:=w),h,m2]
    omega
  · have m2 : ∀ {x y : Int},x * a ≤ y * a ↔ x ≤ y:=fun {x y}=>⟨fun k=>Int.le_of_mul_le_mul_right k hp,fun k=>Int.mul_le_mul_of_nonneg_right k (Int.le_of_lt hp)⟩
    have k1:=m1 (x:=0) (y:=w)
    have k2:=m2 (x:=0) (y:=t)
    rw [h,Int.mul_zero] at k1
    rw [Int.zero_mul] at k2
    have e1 : 0 ≤ w ↔ 0 ≤ t:=k1.symm.trans k2
    have e2 : w ≤ a ↔ t ≤ L:=by rw [← m1 (x:=w) (y:=a),h,m2]
    omega
theorem canc {a b : Int} (ha : a ≠ 0) (h : b * a = 0) : b = 0:=(Int.mul_eq_zero.1 h).resolve_right ha
theorem canc2 {a b c : Int} (ha : a ≠ 0) (h : b * a = c * a) : b = c:=Int.eq_of_mul_eq_mul_right ha h
def Btw (p q x : P3) : Prop:=(¬ x.Lt p ∧ ¬ q.Lt x) ∨ (¬ x.Lt q ∧ ¬ p.Lt x)
theorem btw_scal {p q x : P3} (hd : ¬ Z3 (q.sub p)) (hc : Z3 ((q.sub p).cross (x.sub p))) : Btw p q x ↔ 0 ≤ (q.sub p).dot (x.sub p) ∧ (q.sub p).dot (x.sub p) ≤ (q.sub p).dot (q.sub p):=by
  have hL:=dot_pos.2 hd
  obtain ⟨c1,c2,c3⟩:=hc
  simp only [P3.cross] at c1 c2 c3
  by_cases h1 : (q.sub p).x = 0
  · by_cases h2 : (q.sub p).y = 0
    · have h3 : (q.sub p).z ≠ 0:=fun h3=>hd ⟨h1,h2,h3⟩
      have v1 : (x.sub p).x = 0:=canc h3 (by rw [h1] at c2; grind)
      have v2 : (x.sub p).y = 0:=canc h3 (by rw [h2] at c1; grind)
      have e : (q.sub p).dot (q.sub p) * (x.sub p).z = (q.sub p).dot (x.sub p) * (q.sub p).z:=by simp only [P3.dot,h1,h2,v1,v2]; grind
      rw [← scal h3 hL e]
      simp only [P3.sub] at h1 h2 h3 v1 v2 ⊢
      unfold Btw P3.Lt
      omega
    · have v1 : (x.sub p).x = 0:=canc h2 (by rw [h1] at c3; grind)
      have e : (q.sub p).dot (q.sub p) * (x.sub p).y = (q.sub p).dot (x.sub p) * (q.sub p).y:=by simp only [P3.dot,h1,v1]; grind
      have z1 : (x.sub p).y = 0 → (x.sub p).z = 0:=fun h=>canc h2 (by rw [h] at c1; grind)
      have z2 : (x.sub p).y = (q.sub p).y → (x.sub p).z = (q.sub p).z:=fun h=>canc2 h2 (by rw [h] at c1; grind)
      rw [← scal h2 hL e]
      simp only [P3.sub] at h1 h2 v1 z1 z2 ⊢
      unfold Btw P3.Lt
      omega
  · have e : (q.sub p).dot (q.sub p) * (x.sub p).x = (q.sub p).dot (x.sub p) * (q.sub p).x:=by simp only [P3.dot]; grind
    have y1 : (x.sub p).x = 0 → (x.sub p).y = 0:=fun h=>canc h1 (by rw [h] at c3; grind)
    have y2 : (x.sub p).x = (q.sub p).x → (x.sub p).y = (q.sub p).y:=fun h=>canc2 h1 (by rw [h] at c3; grind)
    have z1 : (x.sub p).x = 0 → (x.sub p).z = 0:=fun h=>canc h1 (by rw [h] at c2; grind)
    have z2 : (x.sub p).x = (q.sub p).x → (x.sub p).z = (q.sub p).z:=fun h=>canc2 h1 (by rw [h] at c2; grind)
    rw [← scal h1 hL e]
    simp only [P3.sub] at h1 y1 y2 z1 z2 ⊢
    unfold Btw P3.Lt
    omega
def OnS (p q x : P3) : Prop:=Z3 ((q.sub p).cross (x.sub p)) ∧ Btw p q x
theorem sub_z3 {p q : P3} : Z3 (q.sub p) ↔ q = p:=by
  unfold Z3
  simp only [P3.sub]
  constructor
  · intro h
    exact P3.eq (by omega) (by omega) (by omega)
  · rintro rfl
    omega
theorem btw_self {p x : P3} : Btw p p x ↔ x = p:=by
  constructor
  · intro h
    rcases P3.lt_tri x p with k | k | k
    · unfold Btw at h; exact absurd k (by rcases h with h | h; exact h.1; exact h.1)
    · exact k
    · unfold Btw at h; exact absurd k (by rcases h with h | h; exact h.2; exact h.2)
  · rintro rfl
    exact .inl ⟨P3.lt_irrefl _,P3.lt_irrefl _⟩
theorem seg_on {p q x : P3} : segq x p q = 0 ↔ OnS p q x:=by
  unfold OnS
  have hL0:=dot_nn (q.sub p)
  have lg:=lagrange (q.sub p) (x.sub p)
  have zc:=@z3_dot ((q.sub p).cross (x.sub p))
  by_cases hd : Z3 (q.sub p)
  · obtain rfl:=sub_z3.1 hd
    rw [seg_deg,div_0 (by decide),z3_dot,sub_z3,btw_self,and_iff_right]
    rw [sub_self']
    simp [Z3,P3.cross]
  · have hL:=dot_pos.2 hd
    have two : (q.sub x).dot (q.sub x) = (x.sub p).dot (x.sub p) - 2 * (q.sub p).dot (x.sub p) + (q.sub p).dot (q.sub p):=by simp only [P3.dot,P3.sub]; grind
    have hv:=dot_nn (x.sub p)
    unfold segq
    constructor
    · intro h
      have hc : Z3 ((q.sub p).cross (x.sub p)) ∧ 0 ≤ (q.sub p).dot (x.sub p) ∧ (q.sub p).dot (x.sub p) ≤ (q.sub p).dot (q.sub p):=by
        split at h
        · rw [div_0 (by decide)] at h
          obtain rfl:=sub_z3.1 (z3_dot.1 h)
          rw [sub_self',cross_zero,dot_zero]
          exact ⟨⟨rfl,rfl,rfl⟩,Int.le_refl _,hL0⟩
        · split at h
          · rw [div_0 (by decide)] at h
            obtain rfl:=sub_z3.1 (z3_dot.1 h)
            refine ⟨?_,hL0,Int.le_refl _⟩
            simp only [Z3,P3.cross]; grind
          · rw [div_0 hL] at h
            exact ⟨zc.1 (by rw [lg]; exact h),by omega,by omega⟩
      exact ⟨hc.1,(btw_scal hd hc.1).2 hc.2⟩
    · rintro ⟨hc,hb⟩
      obtain ⟨h0,h1⟩:=(btw_scal hd hc).1 hb
      have e:=zc.2 hc
      rw [lg] at e
      split
      · have ht : (q.sub p).dot (x.sub p) = 0:=by omega
        rw [ht] at e
        rw [div_0 (by decide)]
        exact canc (a:=(q.sub p).dot (q.sub p)) (by omega) (by omega)
      · split
        · have ht : (q.sub p).dot (x.sub p) = (q.sub p).dot (q.sub p):=by omega
          rw [ht] at e
          have hvv : (x.sub p).dot (x.sub p) = (q.sub p).dot (q.sub p):=canc2 (a:=(q.sub p).dot (q.sub p)) (by omega) (by omega)
          rw [div_0 (by decide),two,ht,hvv]
          omega
        · rw [div_0 hL]
          exact e
theorem seg_nn {p q x : P3} : 0 ≤ segq x p q:=by
  unfold segq
  have lg:=lagrange (q.sub p) (x.sub p)
  split
  · exact Rat.divInt_nonneg (dot_nn _) (by decide)
  · split
    · exact Rat.divInt_nonneg (dot_nn _) (by decide)
    · refine Rat.divInt_nonneg ?_ (dot_nn _)
      rw [← lg]
      exact dot_nn _
theorem minq_0 {p q : Rat} (hp : 0 ≤ p) (hq : 0 ≤ q) : minq p q = 0 ↔ p = 0 ∨ q = 0:=by unfold minq; grind
theorem minq_nn {p q : Rat} (hp : 0 ≤ p) (hq : 0 ≤ q) : 0 ≤ minq p q:=by unfold minq; grind
theorem minq_l {p q : Rat} : minq p q ≤ p:=by unfold minq; grind
theorem minq_r {p q : Rat} : minq p q ≤ q:=by unfold minq; grind
theorem edge_nn {x : P3} {t : T3} : 0 ≤ edgeq x t:=minq_nn (minq_nn seg_nn seg_nn) seg_nn
theorem edge_0 {x : P3} {t : T3} : edgeq x t = 0 ↔ OnS t.a t.b x ∨ OnS t.b t.c x ∨ OnS t.c t.a x:=by
  unfold edgeq
  rw [minq_0 (minq_nn seg_nn seg_nn) seg_nn,minq_0 seg_nn seg_nn,seg_on,seg_on,seg_on,or_assoc]
theorem face_nn {x : P3} {t : T3} : 0 ≤ faceq x t:=Rat.divInt_nonneg (sq_nn _) (dot_nn _)
theorem tri_nn {x : P3} {t : T3} : 0 ≤ triq x t:=by
  unfold triq
  split
  · exact face_nn
  · exact edge_nn
end Go.Lith
namespace Go.Lith
open Go.RowKit
/-! ### Corners -/
theorem cauchy (n v : P3) : n.dot v * n.dot v ≤ v.dot v * n.dot n:=by
  have:=lagrange n v
  have:=dot_nn (n.cross v)
  omega
end Go.Lith
namespace Go.Lith
open Go.RowKit
def vs (x : P3) (s : Int) (u : P3) : P3:=⟨s * x.x - u.x,s * x.y - u.y,s * x.z - u.z⟩
def D2 (x u : P3) (s : Int) : Rat:=Rat.divInt ((vs x s u).dot (vs x s u)) (s * s)
def wsum (p q : P3) (a b : Int) : P3:=⟨a * p.x + b * q.x,a * p.y + b * q.y,a * p.z + b * q.z⟩
def bary (t : T3) (a b c : Int) : P3:=⟨a * t.a.x + b * t.b.x + c * t.c.x,a * t.a.y + b * t.b.y + c * t.c.y,a * t.a.z + b * t.b.z + c * t.c.z⟩
structure OnE (p q u : P3) (s : Int) : Prop where
  h : ∃ a b : Int,0 ≤ a ∧ 0 ≤ b ∧ 0 < s ∧ a + b = s ∧ u = wsum p q a b
structure InT (t : T3) (u : P3) (s : Int) : Prop where
  h : ∃ a b c : Int,0 ≤ a ∧ 0 ≤ b ∧ 0 ≤ c ∧ 0 < s ∧ a + b + c = s ∧ u = bary t a b c
theorem vs_seg {x p q : P3} {a b : Int} : (vs x (a + b) (wsum p q a b)).dot (vs x (a + b) (wsum p q a b)) = (a + b) * (a + b) * (x.sub p).dot (x.sub p) - 2 * (a + b) * b * (q.sub p).dot (x.sub p) + b * b * (q.sub p).dot (q.sub p):=by
  simp only [vs,wsum,P3.dot,P3.sub]; grind
theorem seg_lb {x p q u : P3} {s : Int} (h : OnE p q u s) : segq x p q ≤ D2 x u s:=by
  obtain ⟨a,b,ha,hb,hs,rfl,rfl⟩:=h.h
  have hss : 0 < (a + b) * (a + b):=Int.mul_pos hs hs
  have hL0:=dot_nn (q.sub p)
  have two : (q.sub x).dot (q.sub x) = (x.sub p).dot (x.sub p) - 2 * (q.sub p).dot (x.sub p) + (q.sub p).dot (q.sub p):=by simp only [P3.dot,P3.sub]; grind
  unfold D2
  rw [vs_seg]
  unfold segq
  generalize (q.sub p).dot (x.sub p) = t at *
  generalize (q.sub p).dot (q.sub p) = L at *
  generalize (x.sub p).dot (x.sub p) = F at *
  split
  · rename_i h1
    rw [rat_div_le (by decide) hss]
    have e1 : 0 ≤ (a + b) * b * (-t):=Int.mul_nonneg (Int.mul_nonneg (by omega) hb) (by omega)
    have e2 : 0 ≤ b * b * L:=Int.mul_nonneg (Int.mul_nonneg hb hb) hL0
    grind
  · split
    · rename_i h1 h2
      rw [rat_div_le (by decide) hss,two]
      have e1 : 0 ≤ a * (a + b) * (t - L):=Int.mul_nonneg (Int.mul_nonneg ha (by omega)) (by omega)
      have e2 : 0 ≤ a * a * L:=Int.mul_nonneg (Int.mul_nonneg ha ha) hL0
      grind
    · rename_i h1 h2
      rw [rat_div_le (by omega) hss]
      have e1:=sq_nn ((a + b) * t - b * L)
      grind
theorem seg_at {x p q : P3} : ∃ u s,OnE p q u s ∧ segq x p q = D2 x u s:=by
  have two : (q.sub x).dot (q.sub x) = (x.sub p).dot (x.sub p) - 2 * (q.sub p).dot (x.sub p) + (q.sub p).dot (q.sub p):=by simp only [P3.dot,P3.sub]; grind
  unfold segq
  split
  · refine ⟨_,1,⟨1,0,by decide,by decide,by decide,rfl,rfl⟩,?_⟩
    have e:=vs_seg (x:=x) (p:=p) (q:=q) (a:=1) (b:=0)
    simp only [D2]
    rw [show (1 : Int) + 0 = 1 from rfl] at e
    rw [e]
    congr 1
    grind
  · split
    · refine ⟨_,1,⟨0,1,by decide,by decide,by decide,rfl,rfl⟩,?_⟩
      have e:=vs_seg (x:=x) (p:=p) (q:=q) (a:=0) (b:=1)
      simp only [D2]
      rw [show (0 : Int) + 1 = 1 from rfl] at e
      rw [e,two]
      congr 1
      grind
    · rename_i h1 h2
      refine ⟨_,(q.sub p).dot (q.sub p),⟨(q.sub p).dot (q.sub p) - (q.sub p).dot (x.sub p),(q.sub p).dot (x.sub p),by omega,by omega,by omega,by omega,rfl⟩,?_⟩
      have e:=vs_seg (x:=x) (p:=p) (q:=q) (a:=(q.sub p).dot (q.sub p) - (q.sub p).dot (x.sub p)) (b:=(q.sub p).dot (x.sub p))
      rw [Int.sub_add_cancel] at e
      simp only [D2]
      rw [e]
      refine (Eq.trans (Rat.divInt_mul_left (a:=(q.sub p).dot (q.sub p)) (by omega)).symm ?_)
      congr 1
      grind
theorem D2_scale {x u : P3} {s k : Int} (hk : k ≠ 0) : D2 x ⟨k * u.x,k * u.y,k * u.z⟩ (k * s) = D2 x u s:=by
  unfold D2
  have e : (vs x (k * s) ⟨k * u.x,k * u.y,k * u.z⟩).dot (vs x (k * s) ⟨k * u.x,k * u.y,k * u.z⟩) = k * k * (vs x s u).dot (vs x s u):=by simp only [vs,P3.dot]; grind
  rw [e,show k * s * (k * s) = k * k * (s * s) by grind]
  exact Rat.divInt_mul_left (fun h=>hk ((Int.mul_eq_zero.1 h).elim id id))
theorem OnE.ab {t : T3} {u : P3} {s : Int} (h : OnE t.a t.b u s) : InT t u s:=by
  obtain ⟨a,b,ha,hb,hs,e,rfl⟩:=h.h
  exact ⟨a,b,0,ha,hb,Int.le_refl _,hs,by omega,by simp [wsum,bary]⟩
theorem OnE.bc {t : T3} {u : P3} {s : Int} (h : OnE t.b t.c u s) : InT t u s:=by
  obtain ⟨a,b,ha,hb,hs,e,rfl⟩:=h.h
  exact ⟨0,a,b,Int.le_refl _,ha,hb,hs,by omega,by simp [wsum,bary]⟩
theorem OnE.ca {t : T3} {u : P3} {s : Int} (h : OnE t.c t.a u s) : InT t u s:=by
  obtain ⟨a,b,ha,hb,hs,e,rfl⟩:=h.h
  exact ⟨b,0,a,hb,Int.le_refl _,ha,hs,by omega,by simp only [wsum,bary,P3.mk.injEq]; omega⟩
/-! ### The face -/
theorem vs_nrm {x : P3} {t : T3} {a b c : Int} : t.normal.dot (vs x (a + b + c) (bary t a b c)) = (a + b + c) * t.normal.dot (x.sub t.a):=by
  have e1 : t.normal.dot (t.b.sub t.a) = 0:=by simp only [T3.normal,P3.dot,P3.cross,P3.sub]; grind
  have e2 : t.normal.dot (t.c.sub t.a) = 0:=by simp only [T3.normal,P3.dot,P3.cross,P3.sub]; grind
  generalize t.normal = n at *
  simp only [P3.dot,P3.sub,vs,bary] at *
  grind
theorem face_lb {x u : P3} {t : T3} {s : Int} (hf : ¬ t.flat) (h : InT t u s) : faceq x t ≤ D2 x u s:=by
  obtain ⟨a,b,c,_,_,_,hs,rfl,rfl⟩:=h.h
  unfold faceq D2
  rw [rat_div_le (flat_dot.2 hf) (Int.mul_pos hs hs)]
  have h1:=cauchy t.normal (vs x (a + b + c) (bary t a b c))
  rw [vs_nrm] at h1
  grind
theorem three_x (e g f : P3) : (e.cross g).dot (e.cross g) * f.x - (-((e.cross g).dot (g.cross f))) * e.x - (e.cross g).dot (e.cross f) * g.x = (e.cross g).dot f * (e.cross g).x:=by
  simp only [P3.dot,P3.cross]; grind
theorem three_y (e g f : P3) : (e.cross g).dot (e.cross g) * f.y - (-((e.cross g).dot (g.cross f))) * e.y - (e.cross g).dot (e.cross f) * g.y = (e.cross g).dot f * (e.cross g).y:=by
  simp only [P3.dot,P3.cross]; grind
theorem three_z (e g f : P3) : (e.cross g).dot (e.cross g) * f.z - (-((e.cross g).dot (g.cross f))) * e.z - (e.cross g).dot (e.cross f) * g.z = (e.cross g).dot f * (e.cross g).z:=by
  simp only [P3.dot,P3.cross]; grind
theorem side_sum (t : T3) (x : P3) : side t.normal t.b t.c x + side t.normal t.c t.a x + side t.normal t.a t.b x = t.normal.dot t.normal:=by
  have h : (t.c.sub t.b).cross (x.sub t.b) = ⟨t.normal.x - ((t.a.sub t.c).cross (x.sub t.c)).x - ((t.b.sub t.a).cross (x.sub t.a)).x,t.normal.y - ((t.a.sub t.c).cross (x.sub t.c)).y - ((t.b.sub t.a).cross (x.sub t.a)).y,t.normal.z - ((t.a.sub t.c).cross (x.sub t.c)).z - ((t.b.sub t.a).cross (x.sub t.a)).z⟩:=by
    simp only [T3.normal,P3.cross,P3.sub,P3.mk.injEq]; grind
  unfold side
  rw [h]
  simp only [P3.dot]
  grind
theorem foot (t : T3) (x : P3) : vs x (t.normal.dot t.normal) (bary t (side t.normal t.b t.c x) (side t.normal t.c t.a x) (side t.normal t.a t.b x)) = ⟨t.normal.dot (x.sub t.a) * t.normal.x,t.normal.dot (x.sub t.a) * t.normal.y,t.normal.dot (x.sub t.a) * t.normal.z⟩:=by
  have hs:=side_sum t x
  have e1 : side t.normal t.c t.a x = -((t.normal).dot ((t.c.sub t.a).cross (x.sub t.a))):=by
    have h : (t.a.sub t.c).cross (x.sub t.c) = ⟨-((t.c.sub t.a).cross (x.sub t.a)).x,-((t.c.sub t.a).cross (x.sub t.a)).y,-((t.c.sub t.a).cross (x.sub t.a)).z⟩:=by
      simp only [P3.cross,P3.sub,P3.mk.injEq]; grind
    unfold side
    rw [h]
    simp only [P3.dot]
    grind
  have e2 : side t.normal t.a t.b x = t.normal.dot ((t.b.sub t.a).cross (x.sub t.a)):=rfl
  have x1:=three_x (t.b.sub t.a) (t.c.sub t.a) (x.sub t.a)
  have x2:=three_y (t.b.sub t.a) (t.c.sub t.a) (x.sub t.a)
  have x3:=three_z (t.b.sub t.a) (t.c.sub t.a) (x.sub t.a)
  rw [show (t.b.sub t.a).cross (t.c.sub t.a) = t.normal from rfl,← e1,← e2] at x1 x2 x3
  generalize side t.normal t.b t.c x = A at *
  generalize side t.normal t.c t.a x = B at *
  generalize side t.normal t.a t.b x = C at *
  generalize t.normal.dot (x.sub t.a) = h at *
  rw [← hs] at x1 x2 x3 ⊢
  generalize t.normal = n at *
  simp only [vs,bary,P3.mk.injEq,P3.sub] at *
  refine ⟨?_,?_,?_⟩ <;> grind
theorem face_at {x : P3} {t : T3} (hf : ¬ t.flat) (hi : ins x t) : ∃ u s,InT t u s ∧ faceq x t = D2 x u s:=by
  have hN:=flat_dot.2 hf
  refine ⟨_,t.normal.dot t.normal,⟨side t.normal t.b t.c x,side t.normal t.c t.a x,side t.normal t.a t.b x,hi.2.1,hi.2.2,hi.1,hN,side_sum t x,rfl⟩,?_⟩
  unfold faceq D2
  rw [foot]
  refine (Rat.divInt_mul_left (a:=t.normal.dot t.normal) (by omega)).symm.trans ?_
  congr 1
  simp only [P3.dot]
  grind
/-! ### Outside -/
theorem pick3 {a b c A B C : Int} (ha : 0 ≤ a) (hb : 0 ≤ b) (hc : 0 ≤ c) (hS : 0 < A + B + C) (hn : A < 0 ∨ B < 0 ∨ C < 0) :
    (A < 0 ∧ 0 ≤ (-A) * b + a * B ∧ 0 ≤ (-A) * c + a * C) ∨ (B < 0 ∧ 0 ≤ (-B) * a + b * A ∧ 0 ≤ (-B) * c + b * C) ∨ (C < 0 ∧ 0 ≤ (-C) * a + c * A ∧ 0 ≤ (-C) * b + c * B):=by
  have pos : ∀ {y z Y Z : Int},0 ≤ y → 0 ≤ z → Y < 0 → 0 ≤ Z → 0 ≤ (-Y) * z + y * Z:=fun {y z Y Z} h1 h2 h3 h4=>by
    have:=Int.mul_nonneg (show 0 ≤ -Y by omega) h2
    have:=Int.mul_nonneg h1 h4
    omega
  have tot : ∀ {y z Y Z : Int},0 ≤ (-Y) * z + y * Z ∨ 0 ≤ (-Z) * y + z * Y:=fun {y z Y Z}=>by
    have e : (-Z) * y + z * Y = -((-Y) * z + y * Z):=by grind
    omega
  by_cases h1 : A < 0
  · by_cases h2 : B < 0
    · have h3 : 0 ≤ C:=by omega
      rcases tot (y:=a) (z:=b) (Y:=A) (Z:=B) with h | h
      · exact .inl ⟨h1,h,pos ha hc h1 h3⟩
      · exact .inr (.inl ⟨h2,h,pos hb hc h2 h3⟩)
    · by_cases h3 : C < 0
      · rcases tot (y:=a) (z:=c) (Y:=A) (Z:=C) with h | h
        · exact .inl ⟨h1,pos ha hb h1 (by omega),h⟩
        · exact .inr (.inr ⟨h3,h,pos hc hb h3 (by omega)⟩)
      · exact .inl ⟨h1,pos ha hb h1 (by omega),pos ha hc h1 (by omega)⟩
  · by_cases h2 : B < 0
    · by_cases h3 : C < 0
      · rcases tot (y:=b) (z:=c) (Y:=B) (Z:=C) with h | h
        · exact .inr (.inl ⟨h2,pos hb ha h2 (by omega),h⟩)
        · exact .inr (.inr ⟨h3,pos hc ha h3 (by omega),h⟩)
      · exact .inr (.inl ⟨h2,pos hb ha h2 (by omega),pos hb hc h2 (by omega)⟩)
    · have h3 : C < 0:=by omega
      exact .inr (.inr ⟨h3,pos hc ha h3 (by omega),pos hc hb h3 (by omega)⟩)
theorem near_foot {x : P3} {t : T3} {a b c A B C l k : Int} (hf : ¬ t.flat) (hs : 0 < a + b + c) (hF : vs x (A + B + C) (bary t A B C) = ⟨t.normal.dot (x.sub t.a) * t.normal.x,t.normal.dot (x.sub t.a) * t.normal.y,t.normal.dot (x.sub t.a) * t.normal.z⟩)
    (hN : A + B + C = t.normal.dot t.normal) (hl : 0 < l) (hk : 0 ≤ k) : D2 x (bary t (l * a + k * A) (l * b + k * B) (l * c + k * C)) ((l * a + k * A) + (l * b + k * B) + (l * c + k * C)) ≤ D2 x (bary t a b c) (a + b + c):=by
  have hNp:=flat_dot.2 hf
  have hW : 0 < (l * a + k * A) + (l * b + k * B) + (l * c + k * C):=by
    have h1:=Int.mul_pos hl hs
    have h2:=Int.mul_nonneg hk (show 0 ≤ A + B + C by omega)
    grind
  unfold D2
  rw [rat_div_le (Int.mul_pos hW hW) (Int.mul_pos hs hs)]
  have hv:=vs_nrm (x:=x) (t:=t) (a:=a) (b:=b) (c:=c)
  have hc:=cauchy t.normal (vs x (a + b + c) (bary t a b c))
  rw [hv] at hc
  have ev : vs x ((l * a + k * A) + (l * b + k * B) + (l * c + k * C)) (bary t (l * a + k * A) (l * b + k * B) (l * c + k * C)) = wsum (vs x (a + b + c) (bary t a b c)) (vs x (A + B + C) (bary t A B C)) l k:=by
    simp only [vs,bary,wsum,P3.mk.injEq]; refine ⟨?_,?_,?_⟩ <;> grind
  rw [ev,hF]
  rw [show (l * a + k * A) + (l * b + k * B) + (l * c + k * C) = l * (a + b + c) + k * (A + B + C) by grind,hN]
  generalize t.normal.dot (x.sub t.a) = h at *
  generalize hV : vs x (a + b + c) (bary t a b c) = V at *
  generalize a + b + c = s at *
  generalize hNN : t.normal.dot t.normal = N at *
  have eP : (wsum V ⟨h * t.normal.x,h * t.normal.y,h * t.normal.z⟩ l k).dot (wsum V ⟨h * t.normal.x,h * t.normal.y,h * t.normal.z⟩ l k) = l * l * V.dot V + 2 * (l * k) * (h * (s * h)) + k * k * (h * h * N):=by
    rw [← hv,← hNN]
    simp only [wsum,P3.dot]; grind
  rw [eP]
  generalize V.dot V = P at *
  have q1 : 0 ≤ (l * k * s) * (P * N - s * h * (s * h)):=Int.mul_nonneg (Int.mul_nonneg (Int.mul_nonneg (Int.le_of_lt hl) hk) (Int.le_of_lt hs)) (by omega)
  have q2 : 0 ≤ (k * k * N) * (P * N - s * h * (s * h)):=Int.mul_nonneg (Int.mul_nonneg (Int.mul_nonneg hk hk) (Int.le_of_lt hNp)) (by omega)
  grind
theorem edge_l {x : P3} {t : T3} : edgeq x t ≤ segq x t.a t.b:=Rat.le_trans minq_l minq_l
theorem edge_m {x : P3} {t : T3} : edgeq x t ≤ segq x t.b t.c:=Rat.le_trans minq_l minq_r
theorem edge_r {x : P3} {t : T3} : edgeq x t ≤ segq x t.c t.a:=minq_r
theorem out_lb {x u : P3} {t : T3} {s : Int} (hf : ¬ t.flat) (hi : ¬ ins x t) (h : InT t u s) : edgeq x t ≤ D2 x u s:=by
  obtain ⟨a,b,c,ha,hb,hc,hs,rfl,rfl⟩:=h.h
  have hN:=flat_dot.2 hf
  have hS:=side_sum t x
  have hF:=foot t x
  rw [← hS] at hF
  have hn : side t.normal t.b t.c x < 0 ∨ side t.normal t.c t.a x < 0 ∨ side t.normal t.a t.b x < 0:=by
    unfold ins at hi
    omega
  generalize side t.normal t.b t.c x = A at *
  generalize side t.normal t.c t.a x = B at *
  generalize side t.normal t.a t.b x = C at *
  have sum : ∀ {l k : Int},0 < l → 0 ≤ k → 0 < (l * a + k * A) + (l * b + k * B) + (l * c + k * C):=fun {l k} h1 h2=>by
    have e1:=Int.mul_pos h1 hs
    have e2:=Int.mul_nonneg h2 (show 0 ≤ A + B + C by omega)
    grind
  rcases pick3 ha hb hc (by omega) hn with ⟨h1,h2,h3⟩ | ⟨h1,h2,h3⟩ | ⟨h1,h2,h3⟩
  · refine Rat.le_trans edge_m (Rat.le_trans (seg_lb ⟨(-A) * b + a * B,(-A) * c + a * C,h2,h3,sum (l:=-A) (k:=a) (by omega) ha,?_,?_⟩) (near_foot hf hs hF hS (l:=-A) (k:=a) (by omega) ha))
    · grind
    · simp only [bary,wsum,P3.mk.injEq]; refine ⟨?_,?_,?_⟩ <;> grind
  · refine Rat.le_trans edge_r (Rat.le_trans (seg_lb ⟨(-B) * c + b * C,(-B) * a + b * A,h3,h2,sum (l:=-B) (k:=b) (by omega) hb,?_,?_⟩) (near_foot hf hs hF hS (l:=-B) (k:=b) (by omega) hb))
    · grind
    · simp only [bary,wsum,P3.mk.injEq]; refine ⟨?_,?_,?_⟩ <;> grind
  · refine Rat.le_trans edge_l (Rat.le_trans (seg_lb ⟨(-C) * a + c * A,(-C) * b + c * B,h2,h3,sum (l:=-C) (k:=c) (by omega) hc,?_,?_⟩) (near_foot hf hs hF hS (l:=-C) (k:=c) (by omega) hc))
    · grind
    · simp only [bary,wsum,P3.mk.injEq]; refine ⟨?_,?_,?_⟩ <;> grind
end Go.Lith
namespace Go.Lith
open Go.RowKit
end Go.Lith
namespace Go.Lith
open Go.RowKit
/-! ### Flat triangles -/
theorem lt_geI (a b : Int) : a < b ∨ b ≤ a:=by omega
theorem minq_or (p q : Rat) : minq p q = p ∨ minq p q = q:=by unfold minq; split <;> simp
def OnX (p q u : P3) (s : Int) : Prop:=∃ k : Int,0 < k ∧ OnE p q ⟨k * u.x,k * u.y,k * u.z⟩ (k * s)
theorem OnX.lb {x p q u : P3} {s : Int} (h : OnX p q u s) : segq x p q ≤ D2 x u s:=by
  obtain ⟨k,hk,h⟩:=h
  rw [← D2_scale (x:=x) (u:=u) (s:=s) (k:=k) (by omega)]
  exact seg_lb h
theorem flat_in {t : T3} {u : P3} {s : Int} (hf : t.flat) (h : InT t u s) : OnX t.a t.b u s ∨ OnX t.b t.c u s ∨ OnX t.c t.a u s:=by
  obtain ⟨a,b,c,ha,hb,hc,hs,rfl,rfl⟩:=h.h
  obtain ⟨f1,f2,f3⟩:=hf
  have f1' : (t.b.sub t.a).y * (t.c.sub t.a).z = (t.b.sub t.a).z * (t.c.sub t.a).y:=by simp only [T3.normal,P3.cross] at f1; omega
  have f2' : (t.b.sub t.a).z * (t.c.sub t.a).x = (t.b.sub t.a).x * (t.c.sub t.a).z:=by simp only [T3.normal,P3.cross] at f2; omega
  have f3' : (t.b.sub t.a).x * (t.c.sub t.a).y = (t.b.sub t.a).y * (t.c.sub t.a).x:=by simp only [T3.normal,P3.cross] at f3; omega
  clear f1 f2 f3
  -- e = b - a,g = c - a; L = e e,K = g g,k = e g
  obtain ⟨L,hL⟩ : ∃ L,L = (t.b.sub t.a).dot (t.b.sub t.a):=⟨_,rfl⟩
  obtain ⟨K,hK⟩ : ∃ K,K = (t.c.sub t.a).dot (t.c.sub t.a):=⟨_,rfl⟩
  obtain ⟨k,hk⟩ : ∃ k,k = (t.b.sub t.a).dot (t.c.sub t.a):=⟨_,rfl⟩
  have gx : L * (t.c.sub t.a).x = k * (t.b.sub t.a).x:=by rw [hL,hk]; simp only [P3.dot]; grind
  have gy : L * (t.c.sub t.a).y = k * (t.b.sub t.a).y:=by rw [hL,hk]; simp only [P3.dot]; grind
  have gz : L * (t.c.sub t.a).z = k * (t.b.sub t.a).z:=by rw [hL,hk]; simp only [P3.dot]; grind
  have ex : K * (t.b.sub t.a).x = k * (t.c.sub t.a).x:=by rw [hK,hk]; simp only [P3.dot]; grind
  have ey : K * (t.b.sub t.a).y = k * (t.c.sub t.a).y:=by rw [hK,hk]; simp only [P3.dot]; grind
  have ez : K * (t.b.sub t.a).z = k * (t.c.sub t.a).z:=by rw [hK,hk]; simp only [P3.dot]; grind
  have kl : K * L = k * k:=by rw [hK,hL,hk]; simp only [P3.dot]; grind
  have L0 : 0 ≤ L:=hL ▸ dot_nn _
  have K0 : 0 ≤ K:=hK ▸ dot_nn _
  have eL : L = 0 → Z3 (t.b.sub t.a):=fun h=>z3_dot.1 (by rw [← hL]; exact h)
  have eK : K = 0 → Z3 (t.c.sub t.a):=fun h=>z3_dot.1 (by rw [← hK]; exact h)
  clear hL hK hk f1' f2' f3'
  simp only [P3.sub] at gx gy gz ex ey ez eL eK
  -- on the side a b,on the side c a
  have AB : 0 < L → 0 ≤ b * L + c * k → b * L + c * k ≤ (a + b + c) * L → OnX t.a t.b (bary t a b c) (a + b + c):=fun h0 h1 h2 =>
    ⟨L,h0,⟨(a + b + c) * L - (b * L + c * k),b * L + c * k,by omega,h1,Int.mul_pos h0 hs,by rw [Int.mul_comm L]; omega,by
      simp only [bary,wsum,P3.mk.injEq]; refine ⟨?_,?_,?_⟩ <;> grind⟩⟩
  have CA : 0 < K → 0 ≤ c * K + b * k → c * K + b * k ≤ (a + b + c) * K → OnX t.c t.a (bary t a b c) (a + b + c):=fun h0 h1 h2 =>
    ⟨K,h0,⟨c * K + b * k,(a + b + c) * K - (c * K + b * k),h1,by omega,Int.mul_pos h0 hs,by rw [Int.mul_comm K]; omega,by
      simp only [bary,wsum,P3.mk.injEq]; refine ⟨?_,?_,?_⟩ <;> grind⟩⟩
  have m1:=Int.mul_nonneg hb L0
  have m2:=Int.mul_nonneg hc L0
  have m3:=Int.mul_nonneg ha L0
  have n1:=Int.mul_nonneg hb K0
  have n2:=Int.mul_nonneg hc K0
  have n3:=Int.mul_nonneg ha K0
  rcases Int.lt_or_eq_of_le L0 with hL | hL
  · rcases lt_geI k 0 with hk | hk
    · have p1 : c * k ≤ 0:=Int.mul_nonpos_of_nonneg_of_nonpos hc (by omega)
      rcases lt_geI (b * L + c * k) 0 with h | h
      · right; right
        have hKp : 0 < K:=by
          rcases Int.lt_or_eq_of_le K0 with h' | h'
          · exact h'
          · exfalso
            rw [← h',Int.zero_mul] at kl
            have:=Int.mul_pos_of_neg_of_neg hk hk
            omega
        have q : L * (c * K + b * k) = k * (b * L + c * k):=by grind
        have q2 : 0 < L * (c * K + b * k):=by rw [q]; exact Int.mul_pos_of_neg_of_neg hk h
        have q3 : 0 < c * K + b * k:=by
          rcases lt_geI 0 (c * K + b * k) with h' | h'
          · exact h'
          · exfalso
            have:=Int.mul_nonpos_of_nonneg_of_nonpos (Int.le_of_lt hL) h'
            omega
        have p2 : b * k ≤ 0:=Int.mul_nonpos_of_nonneg_of_nonpos hb (by omega)
        exact CA hKp (by omega) (by grind)
      · left
        exact AB hL h (by grind)
    · rcases Int.le_total k L with h | h
      · left
        have p1:=Int.mul_nonneg hc (show 0 ≤ L - k by omega)
        have p2:=Int.mul_nonneg hc hk
        exact AB hL (by omega) (by grind)
      · right; right
        have hkK : k ≤ K:=by
          have e1 : 0 ≤ k * (k - L):=Int.mul_nonneg hk (by omega)
          have e2 : L * (K - k) = k * (k - L):=by grind
          rcases lt_geI K k with h' | h'
          · exfalso
            have:=Int.mul_pos hL (show 0 < k - K by omega)
            grind
          · exact h'
        have p1:=Int.mul_nonneg hb (show 0 ≤ K - k by omega)
        have p2:=Int.mul_nonneg hb hk
        exact CA (by omega) (by omega) (by grind)
  · right; right
    obtain ⟨z1,z2,z3⟩:=eL hL.symm
    refine ⟨1,by decide,⟨c,a + b,hc,by omega,by omega,by omega,?_⟩⟩
    simp only [bary,wsum,P3.mk.injEq]
    refine ⟨?_,?_,?_⟩ <;> grind
theorem flat_lb {x u : P3} {t : T3} {s : Int} (hf : t.flat) (h : InT t u s) : edgeq x t ≤ D2 x u s:=by
  rcases flat_in hf h with h | h | h
  · exact Rat.le_trans edge_l h.lb
  · exact Rat.le_trans edge_m h.lb
  · exact Rat.le_trans edge_r h.lb
theorem tri_lb {x u : P3} {t : T3} {s : Int} (h : InT t u s) : triq x t ≤ D2 x u s:=by
  unfold triq
  split
  · rename_i hi
    exact face_lb hi.1 h
  · rename_i hi
    by_cases hf : t.flat
    · exact flat_lb hf h
    · exact out_lb hf (fun k=>hi ⟨hf,k⟩) h
theorem tri_at (x : P3) (t : T3) : ∃ u s,InT t u s ∧ triq x t = D2 x u s:=by
  unfold triq
  split
  · rename_i hi
    exact face_at hi.1 hi.2
  · obtain ⟨u1,s1,h1,e1⟩:=seg_at (x:=x) (p:=t.a) (q:=t.b)
    obtain ⟨u2,s2,h2,e2⟩:=seg_at (x:=x) (p:=t.b) (q:=t.c)
    obtain ⟨u3,s3,h3,e3⟩:=seg_at (x:=x) (p:=t.c) (q:=t.a)
    unfold edgeq
    rcases minq_or (minq (segq x t.a t.b) (segq x t.b t.c)) (segq x t.c t.a) with h | h
    · rcases minq_or (segq x t.a t.b) (segq x t.b t.c) with k | k
      · exact ⟨u1,s1,h1.ab,by rw [h,k]; exact e1⟩
      · exact ⟨u2,s2,h2.bc,by rw [h,k]; exact e2⟩
    · exact ⟨u3,s3,h3.ca,by rw [h]; exact e3⟩
/-! ### A triangle divided by a point of it -/
structure Cut (t : T3) (m : P3) (n a b c : Int) : Prop where
  a0 : 0 ≤ a
  b0 : 0 ≤ b
  c0 : 0 < c
  n0 : a + b + c = n
  m : (⟨n * m.x,n * m.y,n * m.z⟩ : P3) = bary t a b c
def part1 (t : T3) (m : P3) : T3:=⟨t.a,t.b,m⟩
def part2 (t : T3) (m : P3) : T3:=⟨t.b,t.c,m⟩
def part3 (t : T3) (m : P3) : T3:=⟨t.c,t.a,m⟩
section
variable {t : T3} {m x u : P3} {n a b c s : Int}
theorem Cut.xyz (h : Cut t m n a b c) : n * m.x = a * t.a.x + b * t.b.x + c * t.c.x ∧ n * m.y = a * t.a.y + b * t.b.y + c * t.c.y ∧ n * m.z = a * t.a.z + b * t.b.z + c * t.c.z:=by
  have:=h.m
  simp only [bary,P3.mk.injEq] at this
  exact this
theorem Cut.pos (h : Cut t m n a b c) : 0 < n:=by have:=h.a0; have:=h.b0; have:=h.c0; have:=h.n0; omega
theorem Cut.sub1 (h : Cut t m n a b c) (k : InT (part1 t m) u s) : InT t ⟨n * u.x,n * u.y,n * u.z⟩ (n * s):=by
  obtain ⟨p,q,r,hp,hq,hr,hs,e,rfl⟩:=k.h
  obtain ⟨h1,h2,h3⟩:=h.xyz
  have hn:=h.pos
  refine ⟨n * p + r * a,n * q + r * b,r * c,?_,?_,Int.mul_nonneg hr (Int.le_of_lt h.c0),Int.mul_pos hn hs,?_,?_⟩
  · have:=Int.mul_nonneg (Int.le_of_lt hn) hp; have:=Int.mul_nonneg hr h.a0; omega
  · have:=Int.mul_nonneg (Int.le_of_lt hn) hq; have:=Int.mul_nonneg hr h.b0; omega
  · rw [← e,← h.n0]; grind
  · simp only [bary,part1,P3.mk.injEq]; refine ⟨?_,?_,?_⟩ <;> grind
theorem Cut.sub2 (h : Cut t m n a b c) (k : InT (part2 t m) u s) : InT t ⟨n * u.x,n * u.y,n * u.z⟩ (n * s):=by
  obtain ⟨p,q,r,hp,hq,hr,hs,e,rfl⟩:=k.h
  obtain ⟨h1,h2,h3⟩:=h.xyz
  have hn:=h.pos
  refine ⟨r * a,n * p + r * b,n * q + r * c,Int.mul_nonneg hr h.a0,?_,?_,Int.mul_pos hn hs,?_,?_⟩
  · have:=Int.mul_nonneg (Int.le_of_lt hn) hp; have:=Int.mul_nonneg hr h.b0; omega
  · have:=Int.mul_nonneg (Int.le_of_lt hn) hq; have:=Int.mul_nonneg hr (Int.le_of_lt h.c0); omega
  · rw [← e,← h.n0]; grind
  · simp only [bary,part2,P3.mk.injEq]; refine ⟨?_,?_,?_⟩ <;> grind
theorem Cut.sub3 (h : Cut t m n a b c) (k : InT (part3 t m) u s) : InT t ⟨n * u.x,n * u.y,n * u.z⟩ (n * s):=by
  obtain ⟨p,q,r,hp,hq,hr,hs,e,rfl⟩:=k.h
  obtain ⟨h1,h2,h3⟩:=h.xyz
  have hn:=h.pos
  refine ⟨n * q + r * a,r * b,n * p + r * c,?_,Int.mul_nonneg hr h.b0,?_,Int.mul_pos hn hs,?_,?_⟩
  · have:=Int.mul_nonneg (Int.le_of_lt hn) hq; have:=Int.mul_nonneg hr h.a0; omega
  · have:=Int.mul_nonneg (Int.le_of_lt hn) hp; have:=Int.mul_nonneg hr (Int.le_of_lt h.c0); omega
  · rw [← e,← h.n0]; grind
  · simp only [bary,part3,P3.mk.injEq]; refine ⟨?_,?_,?_⟩ <;> grind
theorem Cut.cover (h : Cut t m n a b c) (k : InT t u s) : ∃ l : Int,0 < l ∧ (InT (part1 t m) ⟨l * u.x,l * u.y,l * u.z⟩ (l * s) ∨ InT (part2 t m) ⟨l * u.x,l * u.y,l * u.z⟩ (l * s) ∨ InT (part3 t m) ⟨l * u.x,l * u.y,l * u.z⟩ (l * s)):=by
  obtain ⟨p,q,r,hp,hq,hr,hs,e,rfl⟩:=k.h
  obtain ⟨h1,h2,h3⟩:=h.xyz
  have hn:=h.pos
  have ha:=h.a0
  have hb:=h.b0
  have hc:=h.c0
  have en:=h.n0
  have C1 : 0 ≤ c * p - r * a → 0 ≤ c * q - r * b → InT (part1 t m) ⟨c * (bary t p q r).x,c * (bary t p q r).y,c * (bary t p q r).z⟩ (c * s):=fun k1 k2 =>
    ⟨c * p - r * a,c * q - r * b,r * n,k1,k2,Int.mul_nonneg hr (Int.le_of_lt hn),Int.mul_pos hc hs,by rw [← e,← en]; grind,by
      simp only [bary,part1,P3.mk.injEq]; refine ⟨?_,?_,?_⟩ <;> grind⟩
  have A1 : 0 < a → 0 ≤ a * q - p * b → 0 ≤ a * r - p * c → InT (part2 t m) ⟨a * (bary t p q r).x,a * (bary t p q r).y,a * (bary t p q r).z⟩ (a * s):=fun k0 k1 k2 =>
    ⟨a * q - p * b,a * r - p * c,p * n,k1,k2,Int.mul_nonneg hp (Int.le_of_lt hn),Int.mul_pos k0 hs,by rw [← e,← en]; grind,by
      simp only [bary,part2,P3.mk.injEq]; refine ⟨?_,?_,?_⟩ <;> grind⟩
  have B1 : 0 < b → 0 ≤ b * r - q * c → 0 ≤ b * p - q * a → InT (part3 t m) ⟨b * (bary t p q r).x,b * (bary t p q r).y,b * (bary t p q r).z⟩ (b * s):=fun k0 k1 k2 =>
    ⟨b * r - q * c,b * p - q * a,q * n,k1,k2,Int.mul_nonneg hq (Int.le_of_lt hn),Int.mul_pos k0 hs,by rw [← e,← en]; grind,by
      simp only [bary,part3,P3.mk.injEq]; refine ⟨?_,?_,?_⟩ <;> grind⟩
  have pos : ∀ {y z : Int},0 ≤ y → 0 < z * y → 0 < z:=fun {y z} hy hz=>by
    rcases lt_geI 0 z with h' | h'
    · exact h'
    · have:=Int.mul_nonpos_of_nonpos_of_nonneg h' hy
      omega
  by_cases k1 : 0 ≤ c * p - r * a
  · by_cases k2 : 0 ≤ c * q - r * b
    · exact ⟨c,hc,.inl (C1 k1 k2)⟩
    · have cq:=Int.mul_nonneg (Int.le_of_lt hc) hq
      have hb1 : 0 < b:=pos hr (by rw [Int.mul_comm]; omega)
      by_cases k3 : 0 ≤ b * p - q * a
      · exact ⟨b,hb1,.inr (.inr (B1 hb1 (by grind) k3))⟩
      · -- then a is the one
        have bp:=Int.mul_nonneg hb hp
        have ha1 : 0 < a:=pos hq (by rw [Int.mul_comm]; omega)
        exfalso
        have e1 : 0 ≤ b * (c * p - r * a):=Int.mul_nonneg hb k1
        have e2 : 0 < a * (r * b - c * q):=Int.mul_pos ha1 (by omega)
        have e3 : 0 < c * (q * a - b * p):=Int.mul_pos hc (by omega)
        grind
  · have cp:=Int.mul_nonneg (Int.le_of_lt hc) hp
    have ha1 : 0 < a:=pos hr (by rw [Int.mul_comm]; omega)
    by_cases k3 : 0 ≤ a * q - p * b
    · exact ⟨a,ha1,.inr (.inl (A1 ha1 k3 (by grind)))⟩
    · have aq:=Int.mul_nonneg ha hq
      have hb1 : 0 < b:=pos hp (by rw [Int.mul_comm]; omega)
      refine ⟨b,hb1,.inr (.inr (B1 hb1 ?_ (by grind)))⟩
      -- q c a < p b c < r a b
      have e1 : 0 < c * (p * b - a * q):=Int.mul_pos hc (by omega)
      have e2 : 0 < b * (r * a - c * p):=Int.mul_pos hb1 (by omega)
      have e3 : 0 < a * (b * r - q * c):=by grind
      exact Int.le_of_lt (pos (Int.le_of_lt ha1) (by rw [Int.mul_comm]; exact e3))
theorem scale_le {k : Int} (hk : 0 < k) {T : T3} (h : InT T ⟨k * u.x,k * u.y,k * u.z⟩ (k * s)) : triq x T ≤ D2 x u s:=by
  rw [← D2_scale (x:=x) (u:=u) (s:=s) (k:=k) (by omega)]
  exact tri_lb h
theorem Cut.far (h : Cut t m n a b c) : farq x [part1 t m,part2 t m,part3 t m] = farq x [t]:=by
  have hn:=h.pos
  have l1 : triq x t ≤ triq x (part1 t m):=by
    obtain ⟨u,s,hu,e⟩:=tri_at x (part1 t m)
    rw [e]
    exact scale_le hn (h.sub1 hu)
  have l2 : triq x t ≤ triq x (part2 t m):=by
    obtain ⟨u,s,hu,e⟩:=tri_at x (part2 t m)
    rw [e]
    exact scale_le hn (h.sub2 hu)
  have l3 : triq x t ≤ triq x (part3 t m):=by
    obtain ⟨u,s,hu,e⟩:=tri_at x (part3 t m)
    rw [e]
    exact scale_le hn (h.sub3 hu)
  have up : triq x (part1 t m) ≤ triq x t ∨ triq x (part2 t m) ≤ triq x t ∨ triq x (part3 t m) ≤ triq x t:=by
    obtain ⟨u,s,hu,e⟩:=tri_at x t
    rw [e]
    obtain ⟨l,hl,h1 | h1 | h1⟩:=h.cover hu
    · exact .inl (scale_le hl h1)
    · exact .inr (.inl (scale_le hl h1))
    · exact .inr (.inr (scale_le hl h1))
  show minq (minq (triq x (part1 t m)) (triq x (part2 t m))) (triq x (part3 t m)) = triq x t
  unfold minq
  grind
theorem Cut.zero (h : Cut t m n a b c) : farq m [t] = 0:=by
  have hn:=h.pos
  have k : InT t ⟨n * m.x,n * m.y,n * m.z⟩ n:=⟨a,b,c,h.a0,h.b0,Int.le_of_lt h.c0,hn,h.n0,h.m⟩
  have h1:=tri_lb (x:=m) k
  have h2 : D2 m ⟨n * m.x,n * m.y,n * m.z⟩ n = 0:=by
    unfold D2
    rw [div_0 (Int.mul_pos hn hn)]
    simp [vs,P3.dot]
  rw [h2] at h1
  exact Rat.le_antisymm h1 tri_nn
theorem Cut.vol (h : Cut t m n a b c) : sumT det [part1 t m,part2 t m,part3 t m] = sumT det [t]:=by
  obtain ⟨h1,h2,h3⟩:=h.xyz
  have hn:=h.pos
  have en:=h.n0
  have d1 : n * det (part1 t m) = c * det t:=by simp only [det,part1,P3.dot,P3.cross]; grind
  have d2 : n * det (part2 t m) = a * det t:=by simp only [det,part2,P3.dot,P3.cross]; grind
  have d3 : n * det (part3 t m) = b * det t:=by simp only [det,part3,P3.dot,P3.cross]; grind
  have e : n * (det (part1 t m) + det (part2 t m) + det (part3 t m)) = n * det t:=by
    rw [Int.mul_add,Int.mul_add,d1,d2,d3]
    grind
  have e2:=Int.eq_of_mul_eq_mul_left (by omega) e
  simp only [sumT,List.map_cons,List.map_nil,List.sum_cons,List.sum_nil]
  omega
/-! ### Areas -/
theorem low_sq (t : T3) : lowA t * lowA t ≤ nn t ∧ 0 ≤ lowA t:=by
  have h:=(isqrt_spec (nn t).natAbs).1
  have h0:=nn_nn t
  unfold lowA
  refine ⟨?_,by omega⟩
  have : ((isqrt (nn t).natAbs * isqrt (nn t).natAbs : Nat) : Int) ≤ ((nn t).natAbs : Int):=by omega
  rw [Int.natCast_mul] at this
  omega
theorem low_max {t : T3} {r : Int} (hr : 0 ≤ r) (h : r * r ≤ nn t) : r ≤ lowA t:=by
  have h2:=(isqrt_spec (nn t).natAbs).2
  have h0:=nn_nn t
  unfold lowA
  rcases lt_geI (isqrt (nn t).natAbs : Int) r with k | k
  · exfalso
    have e : ((isqrt (nn t).natAbs : Int) + 1) * ((isqrt (nn t).natAbs : Int) + 1) ≤ r * r:=Int.mul_le_mul (by omega) (by omega) (by omega) hr
    have e2 : (((nn t).natAbs : Nat) : Int) < (((isqrt (nn t).natAbs + 1) * (isqrt (nn t).natAbs + 1) : Nat) : Int):=by omega
    rw [Int.natCast_mul,Int.natCast_add] at e2
    simp only [Int.natCast_one] at e2
    omega
  · exact k
theorem low_next (t : T3) : nn t < (lowA t + 1) * (lowA t + 1):=by
  have h2:=(isqrt_spec (nn t).natAbs).2
  have h0:=nn_nn t
  have e2 : (((nn t).natAbs : Nat) : Int) < (((isqrt (nn t).natAbs + 1) * (isqrt (nn t).natAbs + 1) : Nat) : Int):=by omega
  rw [Int.natCast_mul,Int.natCast_add] at e2
  simp only [Int.natCast_one] at e2
  unfold lowA
  omega
theorem high_sq (t : T3) : nn t ≤ highA t * highA t ∧ 0 ≤ highA t:=by
  have h1:=low_sq t
  have h2:=low_next t
  unfold highA
  split
  · rename_i h
    rw [Int.add_zero]
    exact ⟨Int.le_of_eq h.symm,h1.2⟩
  · exact ⟨Int.le_of_lt h2,by omega⟩
theorem high_min {t : T3} {r : Int} (hr : 0 ≤ r) (h : nn t ≤ r * r) : highA t ≤ r:=by
  have h1:=low_sq t
  unfold highA
  split
  · rename_i h2
    rcases lt_geI r (lowA t) with k | k
    · exfalso
      have e : r * r ≤ r * lowA t:=Int.mul_le_mul_of_nonneg_left (by omega) hr
      have e2 : (r + 1) * lowA t ≤ lowA t * lowA t:=Int.mul_le_mul_of_nonneg_right (by omega) h1.2
      have : 0 < lowA t:=by omega
      grind
    · omega
  · rename_i h2
    rcases lt_geI r (lowA t + 1) with k | k
    · exfalso
      have e : r * r ≤ lowA t * lowA t:=Int.mul_le_mul (by omega) (by omega) hr h1.2
      omega
    · omega
theorem sq_lt {x y : Int} (hx : 0 ≤ x) (h : x * x ≤ y * y) (hy : 0 ≤ y) : x ≤ y:=by
  rcases lt_geI y x with k | k
  · exfalso
    have e : (y + 1) * (y + 1) ≤ x * x:=Int.mul_le_mul (by omega) (by omega) (by omega) hx
    grind
  · exact k
theorem cross_le {x y k l N : Int} (hx : 0 ≤ x) (hy : 0 ≤ y) (hk : 0 ≤ k) (hl : 0 ≤ l) (hN : 0 ≤ N) (h1 : x * x ≤ k * k * N) (h2 : y * y ≤ l * l * N) : x * y ≤ k * l * N:=by
  refine sq_lt (Int.mul_nonneg hx hy) ?_ (Int.mul_nonneg (Int.mul_nonneg hk hl) hN)
  have e:=Int.mul_le_mul h1 h2 (sq_nn y) (Int.mul_nonneg (sq_nn k) hN)
  grind
theorem cross_ge {x y k l N : Int} (hx : 0 ≤ x) (hy : 0 ≤ y) (hk : 0 ≤ k) (hl : 0 ≤ l) (hN : 0 ≤ N) (h1 : k * k * N ≤ x * x) (h2 : l * l * N ≤ y * y) : k * l * N ≤ x * y:=by
  refine sq_lt (Int.mul_nonneg (Int.mul_nonneg hk hl) hN) ?_ (Int.mul_nonneg hx hy)
  have e:=Int.mul_le_mul h1 h2 (Int.mul_nonneg (sq_nn l) hN) (sq_nn x)
  grind
theorem Cut.nn1 (h : Cut t m n a b c) : n * n * nn (part1 t m) = c * c * nn t ∧ n * n * nn (part2 t m) = a * a * nn t ∧ n * n * nn (part3 t m) = b * b * nn t:=by
  obtain ⟨h1,h2,h3⟩:=h.xyz
  have en:=h.n0
  have e : ∀ {T : T3} {k : Int},n * T.normal.x = k * t.normal.x → n * T.normal.y = k * t.normal.y → n * T.normal.z = k * t.normal.z → n * n * nn T = k * k * nn t:=fun {T k} e1 e2 e3=>by
    have : n * n * nn T = (n * T.normal.x) * (n * T.normal.x) + (n * T.normal.y) * (n * T.normal.y) + (n * T.normal.z) * (n * T.normal.z):=by simp only [nn,P3.dot]; grind
    rw [this,e1,e2,e3]
    simp only [nn,P3.dot]
    grind
  refine ⟨e ?_ ?_ ?_,e ?_ ?_ ?_,e ?_ ?_ ?_⟩ <;> (simp only [part1,part2,part3,T3.normal,P3.cross,P3.sub]; grind)
theorem Cut.low (h : Cut t m n a b c) : sumT lowA [part1 t m,part2 t m,part3 t m] ≤ sumT lowA [t]:=by
  obtain ⟨e1,e2,e3⟩:=h.nn1
  have hn:=h.pos
  have ha:=h.a0
  have hb:=h.b0
  have hc:=h.c0
  have en:=h.n0
  have hN:=nn_nn t
  obtain ⟨q1,p1⟩:=low_sq (part1 t m)
  obtain ⟨q2,p2⟩:=low_sq (part2 t m)
  obtain ⟨q3,p3⟩:=low_sq (part3 t m)
  simp only [sumT,List.map_cons,List.map_nil,List.sum_cons,List.sum_nil,Int.add_zero]
  refine low_max (by omega) ?_
  generalize lowA (part1 t m) = r1 at *
  generalize lowA (part2 t m) = r2 at *
  generalize lowA (part3 t m) = r3 at *
  have sq : ∀ {r M k : Int},r * r ≤ M → n * n * M = k * k * nn t → (n * r) * (n * r) ≤ k * k * nn t:=fun {r M k} h1 h2=>by
    have:=Int.mul_le_mul_of_nonneg_left h1 (sq_nn n)
    grind
  have x1:=sq q1 e1
  have x2:=sq q2 e2
  have x3:=sq q3 e3
  have n1:=Int.mul_nonneg (Int.le_of_lt hn) p1
  have n2:=Int.mul_nonneg (Int.le_of_lt hn) p2
  have n3:=Int.mul_nonneg (Int.le_of_lt hn) p3
  have c12:=cross_le n1 n2 (Int.le_of_lt hc) ha hN x1 x2
  have c13:=cross_le n1 n3 (Int.le_of_lt hc) hb hN x1 x3
  have c23:=cross_le n2 n3 ha hb hN x2 x3
  have tot : n * n * ((r1 + (r2 + r3)) * (r1 + (r2 + r3))) ≤ n * n * nn t:=by
    have : n * n * nn t = (a + b + c) * (a + b + c) * nn t:=by rw [en]
    rw [this]
    grind
  exact Int.le_of_mul_le_mul_left tot (Int.mul_pos hn hn)
theorem Cut.high (h : Cut t m n a b c) : sumT highA [t] ≤ sumT highA [part1 t m,part2 t m,part3 t m]:=by
  obtain ⟨e1,e2,e3⟩:=h.nn1
  have hn:=h.pos
  have ha:=h.a0
  have hb:=h.b0
  have hc:=h.c0
  have en:=h.n0
  have hN:=nn_nn t
  obtain ⟨q1,p1⟩:=high_sq (part1 t m)
  obtain ⟨q2,p2⟩:=high_sq (part2 t m)
  obtain ⟨q3,p3⟩:=high_sq (part3 t m)
  simp only [sumT,List.map_cons,List.map_nil,List.sum_cons,List.sum_nil,Int.add_zero]
  refine high_min (by omega) ?_
  generalize highA (part1 t m) = r1 at *
  generalize highA (part2 t m) = r2 at *
  generalize highA (part3 t m) = r3 at *
  have sq : ∀ {r M k : Int},M ≤ r * r → n * n * M = k * k * nn t → k * k * nn t ≤ (n * r) * (n * r):=fun {r M k} h1 h2=>by
    have:=Int.mul_le_mul_of_nonneg_left h1 (sq_nn n)
    grind
  have x1:=sq q1 e1
  have x2:=sq q2 e2
  have x3:=sq q3 e3
  have n1:=Int.mul_nonneg (Int.le_of_lt hn) p1
  have n2:=Int.mul_nonneg (Int.le_of_lt hn) p2
  have n3:=Int.mul_nonneg (Int.le_of_lt hn) p3
  have c12:=cross_ge n1 n2 (Int.le_of_lt hc) ha hN x1 x2
  have c13:=cross_ge n1 n3 (Int.le_of_lt hc) hb hN x1 x3
  have c23:=cross_ge n2 n3 ha hb hN x2 x3
  have tot : n * n * nn t ≤ n * n * ((r1 + (r2 + r3)) * (r1 + (r2 + r3))):=by
    have : n * n * nn t = (a + b + c) * (a + b + c) * nn t:=by rw [en]
    rw [this]
    grind
  exact Int.le_of_mul_le_mul_left tot (Int.mul_pos hn hn)
end
end Go.Lith
namespace Go.Lith
open Go.RowKit
def mulT (n : Int) (X : T3) : T3:=⟨⟨n * X.a.x,n * X.a.y,n * X.a.z⟩,⟨n * X.b.x,n * X.b.y,n * X.b.z⟩,⟨n * X.c.x,n * X.c.y,n * X.c.z⟩⟩
theorem cut_of {X : T3} {n a b c : Int} (ha : 0 ≤ a) (hb : 0 ≤ b) (hc : 0 < c) (hn : a + b + c = n) : Cut (mulT n X) (bary X a b c) n a b c :=
  ⟨ha,hb,hc,hn,by simp only [bary,mulT,P3.mk.injEq]; refine ⟨?_,?_,?_⟩ <;> grind⟩
def K3 (z : Int) : Prop:=-1000 < z ∧ z < 1000
structure Rd (t X : T3) : Prop where
  ax : t.a.x.tmod 1000 = X.a.x
  ay : t.a.y.tmod 1000 = X.a.y
  az : t.a.z.tmod 1000 = X.a.z
  bx : t.b.x.tmod 1000 = X.b.x
  by' : t.b.y.tmod 1000 = X.b.y
  bz : t.b.z.tmod 1000 = X.b.z
  cx : t.c.x.tmod 1000 = X.c.x
  cy : t.c.y.tmod 1000 = X.c.y
  cz : t.c.z.tmod 1000 = X.c.z
  kax : K3 X.a.x
  kay : K3 X.a.y
  kaz : K3 X.a.z
  kbx : K3 X.b.x
  kby : K3 X.b.y
  kbz : K3 X.b.z
  kcx : K3 X.c.x
  kcy : K3 X.c.y
  kcz : K3 X.c.z
theorem rd (t : T3) : ∃ X,Rd t X:=by
  have k : ∀ z : Int,K3 (z.tmod 1000):=fun z=>by
    have h1:=Int.tmod_lt_of_pos z (show (0 : Int) < 1000 by decide)
    have h2:=Int.lt_tmod_of_pos z (show (0 : Int) < 1000 by decide)
    exact ⟨by omega,h1⟩
  exact ⟨⟨⟨_,_,_⟩,⟨_,_,_⟩,⟨_,_,_⟩⟩,rfl,rfl,rfl,rfl,rfl,rfl,rfl,rfl,rfl,k _,k _,k _,k _,k _,k _,k _,k _,k _⟩
def N58 (n : Int) : Prop:=1 ≤ n ∧ n ≤ 58
def N20 (a : Int) : Prop:=0 ≤ a ∧ a ≤ 20
theorem nz_bd {n z : Int} (hn : N58 n) (hz : K3 z) : -58000 < n * z ∧ n * z < 58000:=by
  obtain ⟨n1,n2⟩:=hn
  obtain ⟨z1,z2⟩:=hz
  have h : (n * z).natAbs ≤ 58 * 999:=by rw [Int.natAbs_mul]; exact Nat.mul_le_mul (by omega) (by omega)
  omega
theorem az_bd {a z : Int} (ha : N20 a) (hz : K3 z) : -20000 < a * z ∧ a * z < 20000:=by
  obtain ⟨n1,n2⟩:=ha
  obtain ⟨z1,z2⟩:=hz
  have h : (a * z).natAbs ≤ 20 * 999:=by rw [Int.natAbs_mul]; exact Nat.mul_le_mul (by omega) (by omega)
  omega
theorem anz_bd {a n z : Int} (ha : N20 a) (hn : N58 n) (hz : K3 z) : -1160000 < a * (n * z) ∧ a * (n * z) < 1160000:=by
  obtain ⟨n1,n2⟩:=ha
  have hh:=nz_bd hn hz
  have h : (a * (n * z)).natAbs ≤ 20 * 57999:=by rw [Int.natAbs_mul]; exact Nat.mul_le_mul (by omega) (by omega)
  omega
theorem wr_nz {n z : Int} (hn : N58 n) (hz : K3 z) : IntKind.i64.wrap (n * z) = n * z:=by
  have:=nz_bd hn hz
  exact wrap_i64 (by omega) (by omega)
theorem wr_anz {a n z : Int} (ha : N20 a) (hn : N58 n) (hz : K3 z) : IntKind.i64.wrap (a * (n * z)) = a * (n * z):=by
  have:=anz_bd ha hn hz
  exact wrap_i64 (by omega) (by omega)
theorem wr_two {a b n x y : Int} (ha : N20 a) (hb : N20 b) (hn : N58 n) (hx : K3 x) (hy : K3 y) : IntKind.i64.wrap (a * (n * x) + b * (n * y)) = a * (n * x) + b * (n * y):=by
  have:=anz_bd ha hn hx
  have:=anz_bd hb hn hy
  exact wrap_i64 (by omega) (by omega)
theorem wr_three {a b c n x y z : Int} (ha : N20 a) (hb : N20 b) (hc : N20 c) (hn : N58 n) (hx : K3 x) (hy : K3 y) (hz : K3 z) : IntKind.i64.wrap (a * (n * x) + b * (n * y) + c * (n * z)) = a * (n * x) + b * (n * y) + c * (n * z):=by
  have:=anz_bd ha hn hx
  have:=anz_bd hb hn hy
  have:=anz_bd hc hn hz
  exact wrap_i64 (by omega) (by omega)
theorem wr_quo {a b c n x y z : Int} (ha : N20 a) (hb : N20 b) (hc : N20 c) (hn : N58 n) (hx : K3 x) (hy : K3 y) (hz : K3 z) : IntKind.i64.wrap ((a * (n * x) + b * (n * y) + c * (n * z)).tdiv n) = a * x + b * y + c * z:=by
  have e : a * (n * x) + b * (n * y) + c * (n * z) = n * (a * x + b * y + c * z):=by grind
  have:=az_bd ha hx
  have:=az_bd hb hy
  have:=az_bd hc hz
  rw [e,Int.mul_tdiv_cancel_left _ (by have:=hn.1; omega)]
  exact wrap_i64 (by omega) (by omega)
theorem mulT_it {t X : T3} {n : Int} (h : Rd t X) (hn : N58 n) : IT (mulT n X):=by
  have i : ∀ {z : Int},K3 z → I64 (n * z):=fun hz=>by have:=nz_bd hn hz; exact ⟨by omega,by omega⟩
  exact ⟨⟨i h.kax,i h.kay,i h.kaz⟩,⟨i h.kbx,i h.kby,i h.kbz⟩,⟨i h.kcx,i h.kcy,i h.kcz⟩⟩
theorem bary_i3 {t X : T3} {a b c : Int} (h : Rd t X) (ha : N20 a) (hb : N20 b) (hc : N20 c) : I3 (bary X a b c):=by
  have i : ∀ {x y z : Int},K3 x → K3 y → K3 z → I64 (a * x + b * y + c * z):=fun hx hy hz=>by
    have:=az_bd ha hx
    have:=az_bd hb hy
    have:=az_bd hc hz
    exact ⟨by omega,by omega⟩
  exact ⟨i h.kax h.kbx h.kcx,i h.kay h.kby h.kcy,i h.kaz h.kbz h.kcz⟩
theorem part_it {t : T3} {m : P3} [h : IT t] [k : I3 m] : ∀ u ∈ [part1 t m,part2 t m,part3 t m],IT u:=fun u hu=>by
  simp only [List.mem_cons,List.not_mem_nil,or_false] at hu
  rcases hu with rfl | rfl | rfl
  · exact ⟨h.a,h.b,k⟩
  · exact ⟨h.b,h.c,k⟩
  · exact ⟨h.c,h.a,k⟩
theorem one_it {t : T3} [h : IT t] : ∀ u ∈ [t],IT u:=fun u hu=>by rw [List.mem_singleton.1 hu]; exact h
end Go.Lith
namespace Go.Proofs.YtmcgcnpgkkfkoaaDoor
open Go.RowKit Go.Lith
set_option maxRecDepth 100000
attribute [local irreducible] wpList wpQuiet wpMix wpMixH wpTree Code.wp
theorem MeasureDivided_c {t : T3} [IT t] {w0 w1 w2 : Nat} {p : P3} [I3 p] (hw0 : w0 < 256) (hw1 : w1 < 256) (hw2 : w2 < 256) : Pure Tryd.prog 3 [tr t,.agg #[.int .u8 (w0 : Int),.int .u8 (w1 : Int),.int .u8 (w2 : Int)],pt p] (.bool true):=by
 intro w
 refine ⟨en_3,?_⟩
 have m:=Mem.refl w
 go_enter Tryd.func3,Tryd.ntmps3
 refine c_seq fun K1 k1=>wp_region_lit (mboxA m rfl ?_)
 clear m; intro g1 u m
 simp only [ev,zD,zE,zF,zG]
 refine mboxA m rfl ?_
 clear m; intro g2 u m
 simp only [ev,zD,zE,zF,zG]
 refine mboxA m rfl ?_
 clear m; intro g3 u m
 refine n_val (r_assign) (n_nil (k1 _ _ ?_))
 refine c_seq fun K2 k2=>wp_region_lit ?_
 simp only [ev,zD,zE,zF,zG]
 refine mcallP m rfl rfl (sanity_c) ?_
 clear m; intro u m
 refine n_val (r_assign) (n_nil (k2 _ _ ?_))
 refine c_seq fun K3 k3=>wp_region_lit (n_val (r_indexAddrA Tryd.underlying26 cells_5 rfl rfl (by decide) (by decide) rfl) ?_)
 simp only [ev,zD,zE,zF,zG]
 refine n_load rfl ((m.b 1 rfl).lies1 agg_5 rfl) ?_
 simp only [ev,zD,zE,zF,zG]
 refine n_val (r_rem rfl rfl (by omega) (show (w0 : Int).tmod 20 = ((w0 % 20 : Nat) : Int) from rfl)) (n_val (r_conv Tryd.underlying3 Tryd.underlying5 rfl (wrap_i64 (by omega) (by omega))) (n_val (r_assign) (n_nil (k3 _ _ ?_))))
 refine c_seq fun K4 k4=>wp_region_lit (n_val (r_indexAddrA Tryd.underlying26 cells_5 rfl rfl (by decide) (by decide) rfl) ?_)
 simp only [ev,zD,zE,zF,zG]
 refine n_load rfl ((m.b 1 rfl).lies1 agg_5 rfl) ?_
 simp only [ev,zD,zE,zF,zG]
 refine n_val (r_rem rfl rfl (by omega) (show (w1 : Int).tmod 20 = ((w1 % 20 : Nat) : Int) from rfl)) (n_val (r_conv Tryd.underlying3 Tryd.underlying5 rfl (wrap_i64 (by omega) (by omega))) (n_val (r_assign) (n_nil (k4 _ _ ?_))))
 refine c_seq fun K5 k5=>wp_region_lit (n_val (r_indexAddrA Tryd.underlying26 cells_5 rfl rfl (by decide) (by decide) rfl) ?_)
 simp only [ev,zD,zE,zF,zG]
 refine n_load rfl ((m.b 1 rfl).lies1 agg_5 rfl) ?_
 simp only [ev,zD,zE,zF,zG]
 refine n_val (r_rem rfl rfl (by omega) (show (w2 : Int).tmod 20 = ((w2 % 20 : Nat) : Int) from rfl)) (n_val (r_conv Tryd.underlying3 Tryd.underlying5 rfl (wrap_i64 (by omega) (by omega))) ?_)
 simp only [ev,zD,zE,zF,zG]
 refine n_val (r_add rfl rfl (wrap_i64 (by omega) (by omega))) (n_val (r_assign) (n_nil (k5 _ _ ?_)))
 refine c_seq fun K6 k6=>wp_region_lit (n_val (r_move) (n_val (r_move) ?_))
 simp only [ev,zD,zE,zF,zG]
 refine n_val (r_add rfl rfl (wrap_i64 (by omega) (by omega))) (n_val (r_move) ?_)
 simp only [ev,zD,zE,zF,zG]
 refine n_val (r_add rfl rfl (wrap_i64 (by omega) (by omega))) (n_val (r_assign) (n_nil (k6 _ _ ?_)))
 refine c_seq fun K7 k7=>c_seq fun K8 k8=>?_
 simp only [ev,zD,zE,zF,zG]
 obtain ⟨X,hr⟩:=rd t
 obtain ⟨a,ea⟩ : ∃ a : Int,a = ((w0 % 20 : Nat) : Int):=⟨_,rfl⟩
 obtain ⟨b,eb⟩ : ∃ b : Int,b = ((w1 % 20 : Nat) : Int):=⟨_,rfl⟩
 obtain ⟨c,ec⟩ : ∃ c : Int,c = 1 + ((w2 % 20 : Nat) : Int):=⟨_,rfl⟩
 obtain ⟨n,en⟩ : ∃ n : Int,n = a + b + c:=⟨_,rfl⟩
 rw [← ea,← eb,← ec,← en]
 have ha : N20 a:=⟨by omega,by omega⟩
 have hb : N20 b:=⟨by omega,by omega⟩
 have hc : N20 c:=⟨by omega,by omega⟩
 have hn : N58 n:=⟨by omega,by omega⟩
 have hn0 : n ≠ 0:=by omega
 have hcut : Cut (mulT n X) (bary X a b c) n a b c:=cut_of ha.1 hb.1 (by omega) en.symm
 clear ea eb ec en
 haveI:=mulT_it hr hn
 haveI:=bary_i3 hr ha hb hc
 refine wp_region_lit (n_val (r_assign) (n_nil (k8 _ _ ?_)))
 refine wp_block (wp_loop_rounds 4 (rounds_step (c_seq fun K9 k9=>c_seq fun K10 k10=>wp_region_lit (n_val (r_move) (n_val (r_lssT (m:=0) (n:=3) rfl rfl (by decide)) (n_nil (k10 _ _ ?_)))))))
 refine c_yes rfl (wp_skip (k9 _ _ ?_))
 refine c_seq fun K11 k11=>wp_block ?_
 simp only [ev,zD,zE,zF,zG]
 refine mq_tail m 24 follows_mixed (by kernel_rfl) ?_
 simp only [zH,zI,zJ,zK]
 refine q_val (r_move) (q_val (r_move) (q_val (r_move) (q_val (r_indexAddrA Tryd.underlying25 cells_23 rfl rfl (by decide) (by decide) rfl) ?_)))
 simp only [ev,zD,zE,zF,zG]
 refine q_val (r_fieldAddr (c:=0) Tryd.underlying23 rfl cells_3 rfl rfl) ?_
 simp only [ev,zD,zE,zF,zG]
 refine ql rfl (fun u m=>((m.b 2 rfl).lies1 agg_3 rfl)) ?_
 simp only [ev,zD,zE,zF,zG]
 refine q_val (r_rem rfl rfl (by omega) (hr.ax)) (q_val (r_mul rfl rfl (wr_nz hn hr.kax)) (q_val (r_move) (q_val (r_move) ?_)))
 simp only [ev,zD,zE,zF,zG]
 refine q_val (r_indexAddrA Tryd.underlying25 cells_23 rfl rfl (by decide) (by decide) rfl) (q_val (r_fieldAddr (c:=0) Tryd.underlying23 rfl cells_3 rfl rfl) ?_)
 simp only [ev,zD,zE,zF,zG]
 refine ql rfl (fun u m=>((m.b 2 rfl).lies1 agg_3 rfl)) ?_
 simp only [ev,zD,zE,zF,zG]
 refine q_val (r_rem rfl rfl (by omega) (hr.ay)) (q_val (r_mul rfl rfl (wr_nz hn hr.kay)) (q_val (r_move) (q_val (r_move) ?_)))
 simp only [ev,zD,zE,zF,zG]
 refine q_val (r_indexAddrA Tryd.underlying25 cells_23 rfl rfl (by decide) (by decide) rfl) (q_val (r_fieldAddr (c:=0) Tryd.underlying23 rfl cells_3 rfl rfl) ?_)
 simp only [ev,zD,zE,zF,zG]
 refine ql rfl (fun u m=>((m.b 2 rfl).lies1 agg_3 rfl)) ?_
 simp only [ev,zD,zE,zF,zG]
 refine q_val (r_rem rfl rfl (by omega) (hr.az)) (q_val (r_mul rfl rfl (wr_nz hn hr.kaz)) (q_val (r_build_23_0_1_2 rfl rfl rfl) (q_val (r_indexAddrA Tryd.underlying25 cells_23 rfl rfl (by decide) (by decide) rfl) ?_)))
 simp only [ev,zD,zE,zF,zG]
 refine q_nil ?_
 clear m; intro u m
 refine mstoreA m 2 rfl rfl rfl cells_23 (leT rfl) rfl ?_
 clear m; intro u m; simp only [over,zH,zI,zJ,zK,zL,zM,zN,zO,zP,zF,zG,Nat.reduceAdd] at m
 refine n_nil (k11 _ _ ?_)
 refine wp_region_lit (n_val (r_move) (n_val (r_add (m:=0) (n:=1) (r:=1) rfl rfl (by decide)) (n_val (r_assign) (n_nil (then_rounds (c_seq fun K12 k12=>c_seq fun K13 k13=>wp_region_lit (n_val (r_move) ?_)))))))
 simp only [ev,zD,zE,zF,zG]
 refine n_val (r_lssT (m:=1) (n:=3) rfl rfl (by decide)) (n_nil (k13 _ _ ?_))
 refine c_yes rfl (wp_skip (k12 _ _ ?_))
 refine c_seq fun K14 k14=>wp_block ?_
 simp only [ev,zD,zE,zF,zG]
 refine mq_tail m 24 follows_mixed (by kernel_rfl) ?_
 simp only [zH,zI,zJ,zK]
 refine q_val (r_move) (q_val (r_move) (q_val (r_move) (q_val (r_indexAddrA Tryd.underlying25 cells_23 rfl rfl (by decide) (by decide) rfl) ?_)))
 simp only [ev,zD,zE,zF,zG]
 refine q_val (r_fieldAddr (c:=0) Tryd.underlying23 rfl cells_3 rfl rfl) ?_
 simp only [ev,zD,zE,zF,zG]
 refine ql rfl (fun u m=>((m.b 2 rfl).lies1 agg_3 rfl)) ?_
 simp only [ev,zD,zE,zF,zG]
 refine q_val (r_rem rfl rfl (by omega) (hr.bx)) (q_val (r_mul rfl rfl (wr_nz hn hr.kbx)) (q_val (r_move) (q_val (r_move) ?_)))
 simp only [ev,zD,zE,zF,zG]
 refine q_val (r_indexAddrA Tryd.underlying25 cells_23 rfl rfl (by decide) (by decide) rfl) (q_val (r_fieldAddr (c:=0) Tryd.underlying23 rfl cells_3 rfl rfl) ?_)
 simp only [ev,zD,zE,zF,zG]
 refine ql rfl (fun u m=>((m.b 2 rfl).lies1 agg_3 rfl)) ?_
 simp only [ev,zD,zE,zF,zG]
 refine q_val (r_rem rfl rfl (by omega) (hr.by')) (q_val (r_mul rfl rfl (wr_nz hn hr.kby)) (q_val (r_move) (q_val (r_move) ?_)))
 simp only [ev,zD,zE,zF,zG]
 refine q_val (r_indexAddrA Tryd.underlying25 cells_23 rfl rfl (by decide) (by decide) rfl) (q_val (r_fieldAddr (c:=0) Tryd.underlying23 rfl cells_3 rfl rfl) ?_)
 simp only [ev,zD,zE,zF,zG]
 refine ql rfl (fun u m=>((m.b 2 rfl).lies1 agg_3 rfl)) ?_
 simp only [ev,zD,zE,zF,zG]
 refine q_val (r_rem rfl rfl (by omega) (hr.bz)) (q_val (r_mul rfl rfl (wr_nz hn hr.kbz)) (q_val (r_build_23_0_1_2 rfl rfl rfl) (q_val (r_indexAddrA Tryd.underlying25 cells_23 rfl rfl (by decide) (by decide) rfl) ?_)))
 simp only [ev,zD,zE,zF,zG]
 refine q_nil ?_
 clear m; intro u m
 refine mstoreA m 2 rfl rfl rfl cells_23 (leT rfl) rfl ?_
 clear m; intro u m; simp only [over,zH,zI,zJ,zK,zL,zM,zN,zO,zP,zF,zG,Nat.reduceAdd] at m
 refine n_nil (k14 _ _ ?_)
 refine wp_region_lit (n_val (r_move) (n_val (r_add (m:=1) (n:=1) (r:=2) rfl rfl (by decide)) (n_val (r_assign) (n_nil (then_rounds (c_seq fun K15 k15=>c_seq fun K16 k16=>wp_region_lit (n_val (r_move) ?_)))))))
 simp only [ev,zD,zE,zF,zG]
 refine n_val (r_lssT (m:=2) (n:=3) rfl rfl (by decide)) (n_nil (k16 _ _ ?_))
 refine c_yes rfl (wp_skip (k15 _ _ ?_))
 refine c_seq fun K17 k17=>wp_block ?_
 simp only [ev,zD,zE,zF,zG]
 refine mq_tail m 24 follows_mixed (by kernel_rfl) ?_
 simp only [zH,zI,zJ,zK]
 refine q_val (r_move) (q_val (r_move) (q_val (r_move) (q_val (r_indexAddrA Tryd.underlying25 cells_23 rfl rfl (by decide) (by decide) rfl) ?_)))
 simp only [ev,zD,zE,zF,zG]
 refine q_val (r_fieldAddr (c:=0) Tryd.underlying23 rfl cells_3 rfl rfl) ?_
 simp only [ev,zD,zE,zF,zG]
 refine ql rfl (fun u m=>((m.b 2 rfl).lies1 agg_3 rfl)) ?_
 simp only [ev,zD,zE,zF,zG]
 refine q_val (r_rem rfl rfl (by omega) (hr.cx)) (q_val (r_mul rfl rfl (wr_nz hn hr.kcx)) (q_val (r_move) (q_val (r_move) ?_)))
 simp only [ev,zD,zE,zF,zG]
 refine q_val (r_indexAddrA Tryd.underlying25 cells_23 rfl rfl (by decide) (by decide) rfl) (q_val (r_fieldAddr (c:=0) Tryd.underlying23 rfl cells_3 rfl rfl) ?_)
 simp only [ev,zD,zE,zF,zG]
 refine ql rfl (fun u m=>((m.b 2 rfl).lies1 agg_3 rfl)) ?_
 simp only [ev,zD,zE,zF,zG]
 refine q_val (r_rem rfl rfl (by omega) (hr.cy)) (q_val (r_mul rfl rfl (wr_nz hn hr.kcy)) (q_val (r_move) (q_val (r_move) ?_)))
 simp only [ev,zD,zE,zF,zG]
 refine q_val (r_indexAddrA Tryd.underlying25 cells_23 rfl rfl (by decide) (by decide) rfl) (q_val (r_fieldAddr (c:=0) Tryd.underlying23 rfl cells_3 rfl rfl) ?_)
 simp only [ev,zD,zE,zF,zG]
 refine ql rfl (fun u m=>((m.b 2 rfl).lies1 agg_3 rfl)) ?_
 simp only [ev,zD,zE,zF,zG]
 refine q_val (r_rem rfl rfl (by omega) (hr.cz)) (q_val (r_mul rfl rfl (wr_nz hn hr.kcz)) (q_val (r_build_23_0_1_2 rfl rfl rfl) (q_val (r_indexAddrA Tryd.underlying25 cells_23 rfl rfl (by decide) (by decide) rfl) ?_)))
 simp only [ev,zD,zE,zF,zG]
 refine q_nil ?_
 clear m; intro u m
 refine mstoreA m 2 rfl rfl rfl cells_23 (leT rfl) rfl ?_
 clear m; intro u m; simp only [over,zH,zI,zJ,zK,zL,zM,zN,zO,zP,zF,zG,Nat.reduceAdd] at m
 refine n_nil (k17 _ _ ?_)
 refine wp_region_lit (n_val (r_move) (n_val (r_add (m:=2) (n:=1) (r:=3) rfl rfl (by decide)) (n_val (r_assign) (n_nil (then_rounds (c_seq fun K18 k18=>c_seq fun K19 k19=>wp_region_lit (n_val (r_move) ?_)))))))
 simp only [ev,zD,zE,zF,zG]
 refine n_val (r_lssF (m:=3) (n:=3) rfl rfl (by decide)) (n_nil (k19 _ _ ?_))
 refine c_no rfl (wp_exit (k7 _ _ ?_))
 refine c_seq fun K20 k20=>?_
 simp only [ev,zD,zE,zF,zG]
 refine wp_region_fresh 59 [0,1,2,3,4,5,6,7,8,9,10,11,12,13,14,15,16,17,18,19,20,21,22,23,24,25,26,27,28,29,30,31,32,33,34,35,36,37,38,39,40,41,42,43,44,45,46,47,48,49,50,51,52,53,54,55,56,57] [⟨58,13,23,[.int .i64 0,.int .i64 0,.int .i64 0]⟩] follows_mixed (by kernel_rfl) (al1 ⟨_,_,_,rfl,by kernel_rfl,_,zero_23,rfl⟩) (ol:=?_) ?hol ?_
 case hol=>simp only [zQ,zR,zS,zT,zU,zV]; try rfl
 intro u e; replace m:=m.ext' e; clear e
 refine e_val (r_move) (e_val (r_indexAddrA Tryd.underlying25 cells_23 rfl rfl (by decide) (by decide) rfl) (e_val (r_fieldAddr (c:=0) Tryd.underlying23 rfl cells_3 rfl rfl) ?_))
 simp only [ev,zD,zE,zF,zG]
 refine e_load rfl (fun u e=>(((m.ext' e).b 2 rfl).lies1 agg_3 rfl)) ?_
 simp only [ev,zD,zE,zF,zG]
 refine e_val (r_mul rfl rfl (wr_anz ha hn hr.kax)) (e_val (r_move) (e_val (r_indexAddrA Tryd.underlying25 cells_23 rfl rfl (by decide) (by decide) rfl) (e_val (r_fieldAddr (c:=0) Tryd.underlying23 rfl cells_3 rfl rfl) ?_)))
 simp only [ev,zD,zE,zF,zG]
 refine e_load rfl (fun u e=>(((m.ext' e).b 2 rfl).lies1 agg_3 rfl)) ?_
 simp only [ev,zD,zE,zF,zG]
 refine e_val (r_mul rfl rfl (wr_anz hb hn hr.kbx)) (e_val (r_add rfl rfl (wr_two ha hb hn hr.kax hr.kbx)) (e_val (r_move) (e_val (r_indexAddrA Tryd.underlying25 cells_23 rfl rfl (by decide) (by decide) rfl) ?_)))
 simp only [ev,zD,zE,zF,zG]
 refine e_val (r_fieldAddr (c:=0) Tryd.underlying23 rfl cells_3 rfl rfl) ?_
 simp only [ev,zD,zE,zF,zG]
 refine e_load rfl (fun u e=>(((m.ext' e).b 2 rfl).lies1 agg_3 rfl)) ?_
 simp only [ev,zD,zE,zF,zG]
 refine e_val (r_mul rfl rfl (wr_anz hc hn hr.kcx)) (e_val (r_add rfl rfl (wr_three ha hb hc hn hr.kax hr.kbx hr.kcx)) (e_val (r_move) ?_))
 simp only [ev,zD,zE,zF,zG]
 refine e_val (r_quo rfl rfl (by omega) (wr_quo ha hb hc hn hr.kax hr.kbx hr.kcx)) (e_val (r_move) (e_val (r_indexAddrA Tryd.underlying25 cells_23 rfl rfl (by decide) (by decide) rfl) (e_val (r_fieldAddr (c:=0) Tryd.underlying23 rfl cells_3 rfl rfl) ?_)))
 simp only [ev,zD,zE,zF,zG]
 refine e_load rfl (fun u e=>(((m.ext' e).b 2 rfl).lies1 agg_3 rfl)) ?_
 simp only [ev,zD,zE,zF,zG]
 refine e_val (r_mul rfl rfl (wr_anz ha hn hr.kay)) (e_val (r_move) (e_val (r_indexAddrA Tryd.underlying25 cells_23 rfl rfl (by decide) (by decide) rfl) (e_val (r_fieldAddr (c:=0) Tryd.underlying23 rfl cells_3 rfl rfl) ?_)))
 simp only [ev,zD,zE,zF,zG]
 refine e_load rfl (fun u e=>(((m.ext' e).b 2 rfl).lies1 agg_3 rfl)) ?_
 simp only [ev,zD,zE,zF,zG]
 refine e_val (r_mul rfl rfl (wr_anz hb hn hr.kby)) (e_val (r_add rfl rfl (wr_two ha hb hn hr.kay hr.kby)) (e_val (r_move) (e_val (r_indexAddrA Tryd.underlying25 cells_23 rfl rfl (by decide) (by decide) rfl) ?_)))
 simp only [ev,zD,zE,zF,zG]
 refine e_val (r_fieldAddr (c:=0) Tryd.underlying23 rfl cells_3 rfl rfl) ?_
 simp only [ev,zD,zE,zF,zG]
 refine e_load rfl (fun u e=>(((m.ext' e).b 2 rfl).lies1 agg_3 rfl)) ?_
 simp only [ev,zD,zE,zF,zG]
 refine e_val (r_mul rfl rfl (wr_anz hc hn hr.kcy)) (e_val (r_add rfl rfl (wr_three ha hb hc hn hr.kay hr.kby hr.kcy)) (e_val (r_move) ?_))
 simp only [ev,zD,zE,zF,zG]
 refine e_val (r_quo rfl rfl (by omega) (wr_quo ha hb hc hn hr.kay hr.kby hr.kcy)) (e_val (r_move) (e_val (r_indexAddrA Tryd.underlying25 cells_23 rfl rfl (by decide) (by decide) rfl) (e_val (r_fieldAddr (c:=0) Tryd.underlying23 rfl cells_3 rfl rfl) ?_)))
 simp only [ev,zD,zE,zF,zG]
 refine e_load rfl (fun u e=>(((m.ext' e).b 2 rfl).lies1 agg_3 rfl)) ?_
 simp only [ev,zD,zE,zF,zG]
 refine e_val (r_mul rfl rfl (wr_anz ha hn hr.kaz)) (e_val (r_move) (e_val (r_indexAddrA Tryd.underlying25 cells_23 rfl rfl (by decide) (by decide) rfl) (e_val (r_fieldAddr (c:=0) Tryd.underlying23 rfl cells_3 rfl rfl) ?_)))
 simp only [ev,zD,zE,zF,zG]
 refine e_load rfl (fun u e=>(((m.ext' e).b 2 rfl).lies1 agg_3 rfl)) ?_
 simp only [ev,zD,zE,zF,zG]
 refine e_val (r_mul rfl rfl (wr_anz hb hn hr.kbz)) (e_val (r_add rfl rfl (wr_two ha hb hn hr.kaz hr.kbz)) (e_val (r_move) (e_val (r_indexAddrA Tryd.underlying25 cells_23 rfl rfl (by decide) (by decide) rfl) ?_)))
 simp only [ev,zD,zE,zF,zG]
 refine e_val (r_fieldAddr (c:=0) Tryd.underlying23 rfl cells_3 rfl rfl) ?_
 simp only [ev,zD,zE,zF,zG]
 refine e_load rfl (fun u e=>(((m.ext' e).b 2 rfl).lies1 agg_3 rfl)) ?_
 simp only [ev,zD,zE,zF,zG]
 refine e_val (r_mul rfl rfl (wr_anz hc hn hr.kcz)) (e_val (r_add rfl rfl (wr_three ha hb hc hn hr.kaz hr.kbz hr.kcz)) (e_val (r_move) ?_))
 simp only [ev,zD,zE,zF,zG]
 refine e_val (r_quo rfl rfl (by omega) (wr_quo ha hb hc hn hr.kaz hr.kbz hr.kcz)) (e_val (r_build_23_0_1_2 rfl rfl rfl) (e_nil ?_))
 simp only [ev,zD,zE,zF,zG]
 refine mf1 m ?_
 clear m; intro g4 u m
 simp only [zJ,zK,zF,zG]
 refine mstoreA m 0 rfl rfl rfl cells_23 (leT rfl) rfl ?_
 clear m; intro u m; simp only [over,zH,zI,zJ,zK,zL,zM,zN,zO,zP,zF,zG,Nat.reduceAdd] at m
 refine n_nil (k20 _ _ ?_)
 refine c_seq fun K21 k21=>wp_region_lit (n_load rfl ((m.b 3 rfl).full agg_25 cells_25) ?_)
 simp only [ev,zD,zE,zF,zG]
 refine n_bs_28_1 rfl ?_
 intro u g5 e hg hB; replace m:=m.newB e hg hB; clear e hg hB
 refine n_val (r_assign) (n_nil (k21 _ _ ?_))
 refine c_seq fun K22 k22=>wp_region_lit (n_val (r_indexAddrA Tryd.underlying25 cells_23 rfl rfl (by decide) (by decide) rfl) ?_)
 simp only [ev,zD,zE,zF,zG]
 refine n_load rfl ((m.b 4 rfl).lies agg_23 cells_23 rfl rfl) ?_
 simp only [ev,zD,zE,zF,zG,zH,zI,zJ,zK,Nat.zero_add,Nat.reduceAdd,Nat.reduceMul,Int.reduceToNat]
 refine n_val (r_indexAddrA Tryd.underlying25 cells_23 rfl rfl (by decide) (by decide) rfl) ?_
 simp only [ev,zD,zE,zF,zG]
 refine n_load rfl ((m.b 4 rfl).lies agg_23 cells_23 rfl rfl) ?_
 simp only [ev,zD,zE,zF,zG,zH,zI,zJ,zK,Nat.zero_add,Nat.reduceAdd,Nat.reduceMul,Int.reduceToNat]
 refine n_load rfl ((m.b 1 rfl).full agg_23 cells_23) ?_
 simp only [ev,zD,zE,zF,zG]
 refine n_val (r_build_25_0_1_2 rfl rfl rfl) (n_val (r_indexAddrA Tryd.underlying25 cells_23 rfl rfl (by decide) (by decide) rfl) ?_)
 simp only [ev,zD,zE,zF,zG]
 refine n_load rfl ((m.b 4 rfl).lies agg_23 cells_23 rfl rfl) ?_
 simp only [ev,zD,zE,zF,zG,zH,zI,zJ,zK,Nat.zero_add,Nat.reduceAdd,Nat.reduceMul,Int.reduceToNat]
 refine n_val (r_indexAddrA Tryd.underlying25 cells_23 rfl rfl (by decide) (by decide) rfl) ?_
 simp only [ev,zD,zE,zF,zG]
 refine n_load rfl ((m.b 4 rfl).lies agg_23 cells_23 rfl rfl) ?_
 simp only [ev,zD,zE,zF,zG,zH,zI,zJ,zK,Nat.zero_add,Nat.reduceAdd,Nat.reduceMul,Int.reduceToNat]
 refine n_load rfl ((m.b 1 rfl).full agg_23 cells_23) ?_
 simp only [ev,zD,zE,zF,zG]
 refine n_val (r_build_25_0_1_2 rfl rfl rfl) (n_val (r_indexAddrA Tryd.underlying25 cells_23 rfl rfl (by decide) (by decide) rfl) ?_)
 simp only [ev,zD,zE,zF,zG]
 refine n_load rfl ((m.b 4 rfl).lies agg_23 cells_23 rfl rfl) ?_
 simp only [ev,zD,zE,zF,zG,zH,zI,zJ,zK,Nat.zero_add,Nat.reduceAdd,Nat.reduceMul,Int.reduceToNat]
 refine n_val (r_indexAddrA Tryd.underlying25 cells_23 rfl rfl (by decide) (by decide) rfl) ?_
 simp only [ev,zD,zE,zF,zG]
 refine n_load rfl ((m.b 4 rfl).lies agg_23 cells_23 rfl rfl) ?_
 simp only [ev,zD,zE,zF,zG,zH,zI,zJ,zK,Nat.zero_add,Nat.reduceAdd,Nat.reduceMul,Int.reduceToNat]
 refine n_load rfl ((m.b 1 rfl).full agg_23 cells_23) ?_
 simp only [ev,zD,zE,zF,zG]
 refine n_val (r_build_25_0_1_2 rfl rfl rfl) ?_
 simp only [ev,zD,zE,zF,zG]
 refine n_bs_28_3 rfl rfl rfl ?_
 intro u g6 e hg hB; replace m:=m.newB e hg hB; clear e hg hB
 refine n_val (r_assign) (n_nil (k22 _ _ ?_))
 refine c_seq fun K23 k23=>wp_region_lit ?_
 simp only [ev,zD,zE,zF,zG]
 refine n_load rfl ((m.b 3 rfl).full agg_23 cells_23) ?_
 simp only [ev,zD,zE,zF,zG]
 refine n_val (r_move) ?_
 simp only [ev,zD,zE,zF,zG]
 refine mcall m rfl rfl (Far2_c (x:=p) _ (TrisAt.of_cells (ts:=[mulT n X]) (m.b 1 rfl) rfl rfl one_it) (by decide)) ?_
 clear m; rintro v u m rfl
 refine n_val (r_move) (n_val (r_extract rfl rfl) (n_val (r_extract rfl rfl) ?_))
 simp only [ev,zD,zE,zF,zG]
 refine malloc m zero_32 rfl ?_
 clear m; intro g7 u m
 simp only [ev,zD,zE,zF,zG]
 refine mstoreA m 0 rfl rfl rfl cells_32 (leT rfl) rfl ?_
 clear m; intro u m; simp only [over,zH,zI,zJ,zK,zL,zM,zN,zO,zP,zF,zG,Nat.reduceAdd] at m
 refine n_val (r_assign) (n_nil (k23 _ _ ?_))
 refine c_seq fun K24 k24=>wp_region_lit ?_
 simp only [ev,zD,zE,zF,zG]
 refine n_load rfl ((m.b 4 rfl).full agg_23 cells_23) ?_
 simp only [ev,zD,zE,zF,zG]
 refine n_val (r_move) ?_
 simp only [ev,zD,zE,zF,zG]
 refine mcall m rfl rfl (Far2_c (x:=p) _ (TrisAt.of_cells (ts:=[part1 (mulT n X) (bary X a b c),part2 (mulT n X) (bary X a b c),part3 (mulT n X) (bary X a b c)]) (m.b 1 rfl) rfl rfl part_it) (by decide)) ?_
 clear m; rintro v u m rfl
 simp only [ev,zD,zE,zF,zG]
 rw [hcut.far]
 refine n_val (r_move) (n_val (r_extract rfl rfl) (n_val (r_extract rfl rfl) ?_))
 simp only [ev,zD,zE,zF,zG]
 refine malloc m zero_32 rfl ?_
 clear m; intro g8 u m
 simp only [ev,zD,zE,zF,zG]
 refine mstoreA m 0 rfl rfl rfl cells_32 (leT rfl) rfl ?_
 clear m; intro u m; simp only [over,zH,zI,zJ,zK,zL,zM,zN,zO,zP,zF,zG,Nat.reduceAdd] at m
 refine n_val (r_assign) (n_nil (k24 _ _ ?_))
 refine c_seq fun K25 k25=>wp_region_lit ?_
 simp only [ev,zD,zE,zF,zG]
 refine n_load rfl ((m.b 4 rfl).full agg_23 cells_23) ?_
 simp only [ev,zD,zE,zF,zG]
 refine n_val (r_move) ?_
 simp only [ev,zD,zE,zF,zG]
 refine mcall m rfl rfl (Far2_c (x:=bary X a b c) _ (TrisAt.of_cells (ts:=[mulT n X]) (m.b 3 rfl) rfl rfl one_it) (by decide)) ?_
 clear m; rintro v u m rfl
 simp only [ev,zD,zE,zF,zG]
 rw [hcut.zero]
 refine n_val (r_move) (n_val (r_extract rfl rfl) (n_val (r_extract rfl rfl) ?_))
 simp only [ev,zD,zE,zF,zG]
 refine malloc m zero_32 rfl ?_
 clear m; intro g9 u m
 simp only [ev,zD,zE,zF,zG]
 refine mstoreA m 0 rfl rfl rfl cells_32 (leT rfl) rfl ?_
 clear m; intro u m; simp only [over,zH,zI,zJ,zK,zL,zM,zN,zO,zP,zF,zG,Nat.reduceAdd] at m
 refine n_val (r_assign) (n_nil (k25 _ _ ?_))
 refine c_seq fun K26 k26=>?_
 simp only [ev,zD,zE,zF,zG]
 have hbl1 : Bd 364 (sumT lowA [mulT n X]):=sumT_bd (m:=300) (fun u hu=>by haveI:=one_it u hu; exact lowA_bd) (show 1 < 2 ^ 64 by decide)
 have hbh1 : Bd 365 (sumT highA [mulT n X]):=sumT_bd (m:=301) (fun u hu=>by haveI:=one_it u hu; exact highA_bd) (show 1 < 2 ^ 64 by decide)
 have hbl3 : Bd 364 (sumT lowA [part1 (mulT n X) (bary X a b c),part2 (mulT n X) (bary X a b c),part3 (mulT n X) (bary X a b c)]):=sumT_bd (m:=300) (fun u hu=>by haveI:=part_it u hu; exact lowA_bd) (show 3 < 2 ^ 64 by decide)
 have hbh3 : Bd 365 (sumT highA [part1 (mulT n X) (bary X a b c),part2 (mulT n X) (bary X a b c),part3 (mulT n X) (bary X a b c)]):=sumT_bd (m:=301) (fun u hu=>by haveI:=part_it u hu; exact highA_bd) (show 3 < 2 ^ 64 by decide)
 refine wp_region_lit (n_val (r_move) ?_)
 simp only [ev,zD,zE,zF,zG]
 refine mcall m rfl rfl (Area_c _ (TrisAt.of_cells (ts:=[mulT n X]) (m.b 4 rfl) rfl rfl one_it) (by decide)) ?_
 clear m; rintro v u m rfl
 refine n_val (r_move) (n_val (r_extract rfl rfl) (n_val (r_extract rfl rfl) ?_))
 simp only [ev,zD,zE,zF,zG]
 refine malloc m zero_30 rfl ?_
 clear m; intro g10 u m
 simp only [ev,zD,zE,zF,zG]
 refine malloc m zero_30 rfl ?_
 clear m; intro g11 u m
 simp only [ev,zD,zE,zF,zG]
 refine mstoreA m 1 rfl rfl rfl cells_30 (leT rfl) rfl ?_
 clear m; intro u m; simp only [over,zH,zI,zJ,zK,zL,zM,zN,zO,zP,zF,zG,Nat.reduceAdd] at m
 refine mstoreA m 0 rfl rfl rfl cells_30 (leT rfl) rfl ?_
 clear m; intro u m; simp only [over,zH,zI,zJ,zK,zL,zM,zN,zO,zP,zF,zG,Nat.reduceAdd] at m
 refine n_nil (k26 _ _ ?_)
 refine c_seq fun K27 k27=>wp_region_lit (n_val (r_move) ?_)
 simp only [ev,zD,zE,zF,zG]
 refine mcall m rfl rfl (Area_c _ (TrisAt.of_cells (ts:=[part1 (mulT n X) (bary X a b c),part2 (mulT n X) (bary X a b c),part3 (mulT n X) (bary X a b c)]) (m.b 5 rfl) rfl rfl part_it) (by decide)) ?_
 clear m; rintro v u m rfl
 refine n_val (r_move) (n_val (r_extract rfl rfl) (n_val (r_extract rfl rfl) ?_))
 simp only [ev,zD,zE,zF,zG]
 refine malloc m zero_30 rfl ?_
 clear m; intro g12 u m
 simp only [ev,zD,zE,zF,zG]
 refine malloc m zero_30 rfl ?_
 clear m; intro g13 u m
 simp only [ev,zD,zE,zF,zG]
 refine mstoreA m 1 rfl rfl rfl cells_30 (leT rfl) rfl ?_
 clear m; intro u m; simp only [over,zH,zI,zJ,zK,zL,zM,zN,zO,zP,zF,zG,Nat.reduceAdd] at m
 refine mstoreA m 0 rfl rfl rfl cells_30 (leT rfl) rfl ?_
 clear m; intro u m; simp only [over,zH,zI,zJ,zK,zL,zM,zN,zO,zP,zF,zG,Nat.reduceAdd] at m
 refine n_nil (k27 _ _ ?_)
 refine c_seq fun K28 k28=>wp_region_lit (n_val (r_move) (n_val (r_move) (n_want rfl ?_)))
 simp only [ev,zD,zE,zF,zG]
 refine n_load rfl ((m.b 6 rfl).full agg_32 cells_32) ?_
 simp only [ev,zD,zE,zF,zG]
 refine n_want rfl (n_load rfl ((m.b 5 rfl).full agg_32 cells_32) ?_)
 simp only [ev,zD,zE,zF,zG]
 refine n_want rfl (n_val (r_as (eq_eql_32 rfl rfl) (bool_as (decide_eq_true ⟨rfl,rfl,rfl,rfl⟩))) (n_val (r_pickT rfl) (n_val (r_move) (n_want rfl (n_val (r_fieldAddr (c:=1) Tryd.underlying32 rfl cells_30 rfl rfl) ?_)))))
 simp only [ev,zD,zE,zF,zG]
 refine n_want rfl (n_load rfl ((m.b 4 rfl).lies agg_30 cells_30 rfl rfl) ?_)
 simp only [ev,zD,zE,zF,zG,zH,zI,zJ,zK,Nat.zero_add,Nat.reduceAdd,Nat.reduceMul,Int.reduceToNat]
 refine n_want rfl (mcallP m rfl rfl (Sign_c (a:=0) (bd_zero _)) ?_)
 clear m; intro u m
 refine n_want rfl (n_val (r_eqlT rfl rfl (rfl)) (n_val (r_pickT rfl) (n_val (r_move) ?_)))
 simp only [ev,zD,zE,zF,zG]
 refine n_want rfl (n_val (r_move) (n_want rfl ?_))
 simp only [ev,zD,zE,zF,zG]
 refine mcall m rfl rfl (Volume_c _ (TrisAt.of_cells (ts:=[mulT n X]) (m.b 8 rfl) rfl rfl one_it) (by decide)) ?_
 clear m; rintro v u m rfl
 refine n_want rfl (n_val (r_move) (n_want rfl ?_))
 simp only [ev,zD,zE,zF,zG]
 refine mcall m rfl rfl (Volume_c _ (TrisAt.of_cells (ts:=[part1 (mulT n X) (bary X a b c),part2 (mulT n X) (bary X a b c),part3 (mulT n X) (bary X a b c)]) (m.b 7 rfl) rfl rfl part_it) (by decide)) ?_
 clear m; rintro v u m rfl
 simp only [ev,zD,zE,zF,zG]
 rw [hcut.vol]
 refine n_want rfl (n_val (r_as (eq_eql_32 rfl rfl) (bool_as (decide_eq_true ⟨rfl,rfl,rfl,rfl⟩))) (n_val (r_pickT rfl) (n_val (r_move) (n_want rfl ?_))))
 simp only [ev,zD,zE,zF,zG]
 refine n_load rfl ((m.b 1 rfl).full agg_30 cells_30) ?_
 simp only [ev,zD,zE,zF,zG]
 refine n_want rfl (n_load rfl ((m.b 3 rfl).full agg_30 cells_30) ?_)
 simp only [ev,zD,zE,zF,zG]
 refine n_want rfl (mcallP m rfl rfl (Cmp_c (a:=sumT lowA [part1 (mulT n X) (bary X a b c),part2 (mulT n X) (bary X a b c),part3 (mulT n X) (bary X a b c)]) (b:=sumT lowA [mulT n X]) (hbl3.mono (by decide)) (hbl1.mono (by decide))) ?_)
 clear m; intro u m
 refine n_want rfl (n_val (r_leqT rfl rfl (isign_le.2 (by have:=hcut.low; omega))) (n_val (r_pickT rfl) (n_val (r_move) ?_)))
 simp only [ev,zD,zE,zF,zG]
 refine n_want rfl (n_load rfl ((m.b 0 rfl).full agg_30 cells_30) ?_)
 simp only [ev,zD,zE,zF,zG]
 refine n_want rfl (n_load rfl ((m.b 2 rfl).full agg_30 cells_30) ?_)
 simp only [ev,zD,zE,zF,zG]
 refine n_want rfl (mcallP m rfl rfl (Cmp_c (a:=sumT highA [part1 (mulT n X) (bary X a b c),part2 (mulT n X) (bary X a b c),part3 (mulT n X) (bary X a b c)]) (b:=sumT highA [mulT n X]) (hbh3.mono (by decide)) (hbh1.mono (by decide))) ?_)
 clear m; intro u m
 refine n_want rfl (n_val (r_geqT rfl rfl (isign_nn.2 (by have:=hcut.high; omega))) (n_val (r_pickT rfl) (n_val (r_assign) ?_)))
 simp only [ev,zD,zE,zF,zG]
 refine n_nil (k28 _ _ ?_)
 refine wp_ret ?_
 try simp only [Exit.inBlock,Exit.then,if_true]
 refine fin1 rfl rfl ?_
 try simp only [zD,zE]
 exact ⟨_,rfl,m.ext,rfl⟩
end Go.Proofs.YtmcgcnpgkkfkoaaDoor
namespace Go.Lith
open Go.RowKit Go.ChangeShapes
variable {H : Type} {enc : TypeId × Value → H} {P : Program}
theorem trodAll_ext (hl : laidOutB P = true) {W W' : World} (hb : Ext W W') {sp : Nat → Bool} :
    ∀ {ts : List TypeId} {vs : List Value} {ds : List (DataW H)} {ps : List MemPlace},(ts.all fun t=>P.readableRec t && decide (t < P.types.size)) = true → DataW.TrodAll enc P W 0 (fun _=>true) true ts vs ds ps → (∀ p ∈ ps,sp p.block = true) → DataW.TrodAll enc P W' 0 sp true ts vs ds ps
  | [],[],[],_,_,h,_=>h
  | [],[],_ :: _,_,_,h,_=>h.elim
  | [],_ :: _,_,_,_,h,_=>h.elim
  | _ :: _,[],_,_,_,h,_=>h.elim
  | _ :: _,_ :: _,[],_,_,h,_=>h.elim
  | t :: ts,v :: vs,d :: ds,ps,hv,h,hs=>by
    obtain ⟨p,q,⟨n,h1⟩,h2,e⟩:=h
    subst e
    simp only [List.all_cons,Bool.and_eq_true,decide_eq_true_eq] at hv
    have hlt:=DataW.trod_lt n _ _ _ h1
    exact ⟨p,q,⟨n,DataW.trod_stays (kids_book hl hv.1.1) (book_sized hv.1.1) (fun h=>by cases h) ⟨hv.1.2,book_self t⟩ h1 (fun x hx=>Below.same hb (hlt x hx)) (fun x hx=>hs x (by simp [hx]))⟩,
      trodAll_ext hl hb (by simpa using hv.2) h2 (fun x hx=>hs x (by simp [hx])),rfl⟩
theorem post_of_ext {f : Func} {s : ChangeSpec} {apart fresh handsOn again : Bool} {W W' : World} {args : Array Value} {t : TypeId} {ds gs : List (DataW H)} {before : List MemPlace}
    (hl : laidOutB P = true) (hps : (f.params.toList.all fun t=>P.readableRec t && decide (t < P.types.size)) = true) (hv : s.vars = []) (hr : f.resultTypes = #[t]) (hu : P.underlying t = some .bool)
    (hW : DataW.Whole enc P f.params.toList s.vars apart W args.toList ds gs before) (hfn : (s.fn H (ds ++ gs)).results = [.lit (.bool true)] ∧ (s.fn H (ds ++ gs)).args = ds ∧ (s.fn H (ds ++ gs)).vars = []) (hb : Ext W W') :
    s.post enc P f apart fresh handsOn again W args (.bool true) W':=by
  have hW0:=hW
  obtain ⟨p,q,hA,hV,rfl,hz,hn⟩:=hW0
  rw [hv] at hV
  obtain ⟨rfl,rfl⟩:=trodVars_none hV
  have hargs : ∀ sp : Nat → Bool,(∀ x ∈ p ++ [],sp x.block = true) → DataW.TrodAll enc P W' 0 sp true f.params.toList args.toList (s.fn H (ds ++ [])).args p:=fun sp hsp=>by
    rw [hfn.2.1]
    exact trodAll_ext hl hb hps hA (fun x hx=>hsp x (by simp [hx]))
  have hvars : ∀ sp : Nat → Bool,DataW.TrodVars enc P W' sp s.vars (s.fn H (ds ++ [])).vars []:=fun sp=>by
    rw [hv,hfn.2.2]
    exact rfl
  have hres : ∀ (b : Nat) (sp : Nat → Bool) (hd : Bool),DataW.TrodAll enc P W' b sp hd f.resultTypes.toList ((Value.bool true).resultList f.resultTypes.size) (s.fn H (ds ++ [])).results []:=fun b sp hd=>by
    rw [hr,hfn.1]
    exact trodAll_cons_mk (shut_bool hu true) trodAll_mk0
  have hok : ∀ (j : Nat) (t : TypeId) (r : Value),f.resultTypes[j]? = some t → ((Value.bool true).resultList f.resultTypes.size)[j]? = some r → Value.okWide P W' .any 0 t r:=ok_one hr rfl (okWide_bool_mk hu _)
  have hlt : ∀ x ∈ p ++ [],x.block < W.heap.size:=hW.lt
  have hold : ∀ x ∈ p ++ [],(fun b=>decide (b < W.heap.size)) x.block = true:=fun x hx=>by simpa using hlt x hx
  refine ⟨ds,[],p ++ [],[],p,[],hW,hres _ _ _,hargs _ hold,hvars _,Below.frame hb _,fun _=>?_⟩
  refine ⟨hok,_,_,([] ++ p) ++ [],⟨[] ++ p,[],trodAll_append (hargs _ (fun _ _=>rfl)) (hres _ _ _),hvars _,rfl,?_,?_⟩,?_⟩
  · intro b off hp
    have h1 : MemPlace.cell b off ∈ p ++ []:=by simpa using hp
    rw [Below.frozen hb (p:=⟨b,off,none⟩) (hlt _ h1)]
    exact hz b off h1
  · intro ha
    simpa using hn ha
  · intro x hp _
    simpa using hp
end Go.Lith
namespace Go.Lith
open Go.RowKit Go.ChangeShapes
variable {H : Type} {enc : TypeId × Value → H} {P : Program} {w : World} {base : Nat} {spare : Nat → Bool} {held : Bool}
theorem open_u8x3 {r : Reach} {b0 : Nat} {t e : TypeId} {v : Value} {d : DataW H} {p : List MemPlace} (ha : IsAgg P t true) (hut : P.underlying t = some (.array 3 e)) (hue : P.underlying e = some (.int .u8)) (hce : P.cellsOf e = 1) (hct : P.cellsOf t = 3)
    (hv : Value.okWide P w r b0 t v) (h : DataW.Trod enc P w base spare held t v d p) : ∃ a b c : Nat,a < 256 ∧ b < 256 ∧ c < 256 ∧ v = .agg #[.int .u8 (a : Int),.int .u8 (b : Int),.int .u8 (c : Int)]:=by
  obtain ⟨dd,hu,hd⟩:=ha
  obtain ⟨fuel,hf⟩:=h
  unfold Value.okWide at hv
  rw [hu] at hv
  have : ∃ cs,v = .agg cs:=by
    cases dd <;> first | (obtain ⟨cs,rfl,_⟩:=hv; exact ⟨cs,rfl⟩) | (cases hd)
  obtain ⟨cs,rfl⟩:=this
  obtain ⟨ys,k,_,_,hl,hlen,hx⟩:=DataW.trod_array hut hf
  obtain ⟨l,rfl⟩ : ∃ l : List Value,cs = l.toArray:=⟨cs.toList,rfl⟩
  simp only [Value.cells] at hl hx
  rw [hct] at hl
  match l,hl with
  | [u0,u1,u2],_ =>
    have one : ∀ i,i < 3 → ∃ a : Nat,a < 256 ∧ (([u0,u1,u2].drop (i * 1)).take 1) = [.int .u8 (a : Int)]:=fun i hi=>by
      have hq:=hx i hi
      rw [List.getElem?_eq_getElem (by rw [hlen]; exact hi),hce] at hq
      obtain ⟨z,e1,_,hz⟩:=DataW.trod_int hue hq
      have hb:=bounds_u8 hz
      exact ⟨z.toNat,by omega,by rw [e1,Int.toNat_of_nonneg hb.1]⟩
    obtain ⟨a,ha,e0⟩:=one 0 (by decide)
    obtain ⟨b,hb,e1⟩:=one 1 (by decide)
    obtain ⟨c,hc,e2⟩:=one 2 (by decide)
    have q0 : u0 = .int .u8 (a : Int):=by simpa using e0
    have q1 : u1 = .int .u8 (b : Int):=by simpa using e1
    have q2 : u2 = .int .u8 (c : Int):=by simpa using e2
    exact ⟨a,b,c,ha,hb,hc,by rw [q0,q1,q2]⟩
end Go.Lith
