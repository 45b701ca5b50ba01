/-
  Texts of one claim, laid together: Meas1, Meas2, Meas3, Meas4, Meas5, RefG1, RefG2, RefG3, Sane, Grow, Pts, Map0, Map.
-/
import Derived.Sort.Grow
import Derived.Deep.Draws
import Derived.Maps.RangeRun
import Derived.Test.YtmcgcnpgkkfkoaaGreatDoorS4
set_option maxHeartbeats 8000000
set_option linter.unusedSimpArgs false
set_option linter.unusedVariables false
set_option linter.unusedSectionVars false
namespace Go.Proofs.YtmcgcnpgkkfkoaaGreatDoor
open Go.RowKit Go.Lith
set_option maxRecDepth 100000
attribute [local irreducible] wpList wpQuiet wpMix wpMixH wpTree Code.wp
instance : Iw 1:=⟨by unfold I64; decide⟩
instance : Iw 3:=⟨by unfold I64; decide⟩
instance : Iw 4:=⟨by unfold I64; decide⟩
instance : Iw 6:=⟨by unfold I64; decide⟩
theorem me_x {p : P3} : Pure Tryz.prog 126 [pt p] (.int .i64 p.x):=by
 intro w
 refine ⟨en_126,?_⟩
 have m:=Mem.refl w
 go_enter Tryz.func126,Tryz.ntmps126
 refine c_seq fun K1 k1=>wp_region_lit (mboxA m rfl ?_)
 clear m; intro g1 u m
 refine n_val (r_assign) (n_nil (k1 _ _ ?_))
 refine c_seq fun K2 k2=>wp_region_lit (n_val (r_fieldAddr (c:=0) Tryz.underlying97 rfl cells_3 rfl rfl) ?_)
 simp only [ev,zD,zE,zF,zG]
 refine n_load rfl ((m.b 0 rfl).lies1 agg_3 rfl) ?_
 simp only [ev,zD,zE,zF,zG]
 refine n_val (r_assign) (n_nil (k2 _ _ ?_))
 refine wp_ret ?_
 simp only [ev,zD,zE,zF,zG]
 try simp only [Exit.inBlock,Exit.then,if_true]
 refine fin1 rfl rfl ?_
 try simp only [zD,zE]
 exact ⟨_,rfl,m.ext,rfl⟩
theorem me_y {p : P3} : Pure Tryz.prog 127 [pt p] (.int .i64 p.y):=by
 intro w
 refine ⟨en_127,?_⟩
 have m:=Mem.refl w
 go_enter Tryz.func127,Tryz.ntmps127
 refine c_seq fun K1 k1=>wp_region_lit (mboxA m rfl ?_)
 clear m; intro g1 u m
 refine n_val (r_assign) (n_nil (k1 _ _ ?_))
 refine c_seq fun K2 k2=>wp_region_lit (n_val (r_fieldAddr (c:=0) Tryz.underlying97 rfl cells_3 rfl rfl) ?_)
 simp only [ev,zD,zE,zF,zG]
 refine n_load rfl ((m.b 0 rfl).lies1 agg_3 rfl) ?_
 simp only [ev,zD,zE,zF,zG]
 refine n_val (r_assign) (n_nil (k2 _ _ ?_))
 refine wp_ret ?_
 simp only [ev,zD,zE,zF,zG]
 try simp only [Exit.inBlock,Exit.then,if_true]
 refine fin1 rfl rfl ?_
 try simp only [zD,zE]
 exact ⟨_,rfl,m.ext,rfl⟩
theorem me_z {p : P3} : Pure Tryz.prog 128 [pt p] (.int .i64 p.z):=by
 intro w
 refine ⟨en_128,?_⟩
 have m:=Mem.refl w
 go_enter Tryz.func128,Tryz.ntmps128
 refine c_seq fun K1 k1=>wp_region_lit (mboxA m rfl ?_)
 clear m; intro g1 u m
 refine n_val (r_assign) (n_nil (k1 _ _ ?_))
 refine c_seq fun K2 k2=>wp_region_lit (n_val (r_fieldAddr (c:=0) Tryz.underlying97 rfl cells_3 rfl rfl) ?_)
 simp only [ev,zD,zE,zF,zG]
 refine n_load rfl ((m.b 0 rfl).lies1 agg_3 rfl) ?_
 simp only [ev,zD,zE,zF,zG]
 refine n_val (r_assign) (n_nil (k2 _ _ ?_))
 refine wp_ret ?_
 simp only [ev,zD,zE,zF,zG]
 try simp only [Exit.inBlock,Exit.then,if_true]
 refine fin1 rfl rfl ?_
 try simp only [zD,zE]
 exact ⟨_,rfl,m.ext,rfl⟩
theorem readers_c  : Pure Tryz.prog 65 [] (.agg #[.func (.func 126) #[] #[],.func (.func 127) #[] #[],.func (.func 128) #[] #[]]):=by
 intro w
 refine ⟨en_65,?_⟩
 have m:=Mem.refl w
 go_enter Tryz.func65,Tryz.ntmps65
 refine c_seq fun K1 k1=>wp_region_lit (malloc m zero_95 rfl ?_)
 clear m; intro g1 u m
 refine n_nil (k1 _ _ ?_)
 refine c_seq fun K2 k2=>wp_region_lit (n_val (r_build_95_0_1_2 rfl rfl rfl) ?_)
 simp only [ev,zD,zE,zF,zG]
 refine mstoreA m 0 rfl rfl rfl cells_95 (leT rfl) rfl ?_
 clear m; intro u m; simp only [over,zH,zI,zJ,zK,zL,zM,zN,zO,zP,zF,zG,Nat.reduceAdd] at m
 refine n_nil (k2 _ _ ?_)
 refine wp_ret ?_
 try simp only [Exit.inBlock,Exit.then,if_true]
 refine fin1 rfl ⟨_,rfl,((m.b 0 rfl).full agg_95 cells_95)⟩ ?_
 try simp only [zD,zE]
 exact ⟨_,rfl,m.ext,rfl⟩
theorem from_c {p q : P3} [I3 p] [I3 q] : Pure Tryz.prog 95 [pt p,pt q] (wv (q.sub p)):=by
 intro w
 refine ⟨en_95,?_⟩
 have m:=Mem.refl w
 go_enter Tryz.func95,Tryz.ntmps95
 refine c_seq fun K1 k1=>wp_region_lit (mboxA m rfl ?_)
 clear m; intro g1 u m
 simp only [ev,zD,zE,zF,zG]
 refine mboxA m rfl ?_
 clear m; intro g2 u m
 simp only [ev,zD,zE,zF,zG]
 refine malloc m zero_76 rfl ?_
 clear m; intro g3 u m
 refine n_nil (k1 _ _ ?_)
 refine c_seq fun K2 k2=>wp_region_lit ?_
 simp only [ev,zD,zE,zF,zG]
 refine malloc m zero_76 rfl ?_
 clear m; intro g4 u m
 refine n_nil (k2 _ _ ?_)
 refine c_seq fun K3 k3=>c_seq fun K4 k4=>wp_region_lit ?_
 simp only [ev,zD,zE,zF,zG]
 refine mcallP m rfl rfl (readers_c) ?_
 clear m; intro u m
 refine n_val (r_move) (n_nil (k4 _ _ ?_))
 refine wp_block (wp_loop_rounds 4 (rounds_step (c_seq fun K5 k5=>wp_region_lit (n_val (r_lssT (m:=0) (n:=3) rfl rfl (by decide)) (n_nil (k5 _ _ ?_))))))
 refine c_seq fun K6 k6=>c_yes rfl (wp_skip (k6 _ _ ?_))
 refine c_seq fun K7 k7=>wp_block (c_seq fun K8 k8=>wp_region_lit (n_val (r_move) ?_))
 simp only [ev,zD,zE,zF,zG]
 refine n_val (r_index_95_0 rfl rfl) (n_val (r_assign) (n_val (r_assign) (n_nil (k8 _ _ ?_))))
 simp only [ev,zD,zE,zF,zG]
 refine mq_tail m 11 follows_mixed (by kernel_rfl) ?_
 simp only [zH,zI,zJ,zK]
 refine q_val (r_move) (q_val (r_move) ?_)
 simp only [ev,zD,zE,zF,zG]
 refine ql rfl (fun u m=>((m.b 2 rfl).full agg_28 cells_28)) ?_
 simp only [ev,zD,zE,zF,zG]
 refine qcP rfl rfl (me_x) ?_
 simp only [ev,zD,zE,zF,zG]
 refine qcP rfl rfl (From_c Iw.h) (q_val (r_move) ?_)
 simp only [ev,zD,zE,zF,zG]
 refine ql rfl (fun u m=>((m.b 3 rfl).full agg_28 cells_28)) ?_
 simp only [ev,zD,zE,zF,zG]
 refine qcP rfl rfl (me_x) ?_
 simp only [ev,zD,zE,zF,zG]
 refine qcP rfl rfl (From_c Iw.h) ?_
 simp only [ev,zD,zE,zF,zG]
 refine qcP rfl rfl (Sub_c Bw.up Bw.up) (q_val (r_indexAddrA Tryz.underlying76 cells_32 rfl rfl (by decide) (by decide) rfl) (q_nil ?_))
 clear m; intro u m
 simp only [ev,zD,zE,zF,zG]
 refine mstoreA m 0 rfl rfl rfl cells_32 (leT rfl) rfl ?_
 clear m; intro u m; simp only [over,zH,zI,zJ,zK,zL,zM,zN,zO,zP,zF,zG,Nat.reduceAdd] at m
 refine n_nil (k7 _ _ ?_)
 refine wp_region_lit (n_val (r_add (m:=0) (n:=1) (r:=1) rfl rfl (by decide)) (n_val (r_move) (n_nil (then_rounds (c_seq fun K9 k9=>wp_region_lit (n_val (r_lssT (m:=1) (n:=3) rfl rfl (by decide)) (n_nil (k9 _ _ ?_))))))))
 refine c_seq fun K10 k10=>c_yes rfl (wp_skip (k10 _ _ ?_))
 refine c_seq fun K11 k11=>wp_block (c_seq fun K12 k12=>wp_region_lit (n_val (r_move) ?_))
 simp only [ev,zD,zE,zF,zG]
 refine n_val (r_index_95_1 rfl rfl) (n_val (r_assign) (n_val (r_assign) (n_nil (k12 _ _ ?_))))
 simp only [ev,zD,zE,zF,zG]
 refine mq_tail m 11 follows_mixed (by kernel_rfl) ?_
 simp only [zH,zI,zJ,zK]
 refine q_val (r_move) (q_val (r_move) ?_)
 simp only [ev,zD,zE,zF,zG]
 refine ql rfl (fun u m=>((m.b 2 rfl).full agg_28 cells_28)) ?_
 simp only [ev,zD,zE,zF,zG]
 refine qcP rfl rfl (me_y) ?_
 simp only [ev,zD,zE,zF,zG]
 refine qcP rfl rfl (From_c Iw.h) (q_val (r_move) ?_)
 simp only [ev,zD,zE,zF,zG]
 refine ql rfl (fun u m=>((m.b 3 rfl).full agg_28 cells_28)) ?_
 simp only [ev,zD,zE,zF,zG]
 refine qcP rfl rfl (me_y) ?_
 simp only [ev,zD,zE,zF,zG]
 refine qcP rfl rfl (From_c Iw.h) ?_
 simp only [ev,zD,zE,zF,zG]
 refine qcP rfl rfl (Sub_c Bw.up Bw.up) (q_val (r_indexAddrA Tryz.underlying76 cells_32 rfl rfl (by decide) (by decide) rfl) (q_nil ?_))
 clear m; intro u m
 simp only [ev,zD,zE,zF,zG]
 refine mstoreA m 0 rfl rfl rfl cells_32 (leT rfl) rfl ?_
 clear m; intro u m; simp only [over,zH,zI,zJ,zK,zL,zM,zN,zO,zP,zF,zG,Nat.reduceAdd] at m
 refine n_nil (k11 _ _ ?_)
 refine wp_region_lit (n_val (r_add (m:=1) (n:=1) (r:=2) rfl rfl (by decide)) (n_val (r_move) (n_nil (then_rounds (c_seq fun K13 k13=>wp_region_lit (n_val (r_lssT (m:=2) (n:=3) rfl rfl (by decide)) (n_nil (k13 _ _ ?_))))))))
 refine c_seq fun K14 k14=>c_yes rfl (wp_skip (k14 _ _ ?_))
 refine c_seq fun K15 k15=>wp_block (c_seq fun K16 k16=>wp_region_lit (n_val (r_move) ?_))
 simp only [ev,zD,zE,zF,zG]
 refine n_val (r_index_95_2 rfl rfl) (n_val (r_assign) (n_val (r_assign) (n_nil (k16 _ _ ?_))))
 simp only [ev,zD,zE,zF,zG]
 refine mq_tail m 11 follows_mixed (by kernel_rfl) ?_
 simp only [zH,zI,zJ,zK]
 refine q_val (r_move) (q_val (r_move) ?_)
 simp only [ev,zD,zE,zF,zG]
 refine ql rfl (fun u m=>((m.b 2 rfl).full agg_28 cells_28)) ?_
 simp only [ev,zD,zE,zF,zG]
 refine qcP rfl rfl (me_z) ?_
 simp only [ev,zD,zE,zF,zG]
 refine qcP rfl rfl (From_c Iw.h) (q_val (r_move) ?_)
 simp only [ev,zD,zE,zF,zG]
 refine ql rfl (fun u m=>((m.b 3 rfl).full agg_28 cells_28)) ?_
 simp only [ev,zD,zE,zF,zG]
 refine qcP rfl rfl (me_z) ?_
 simp only [ev,zD,zE,zF,zG]
 refine qcP rfl rfl (From_c Iw.h) ?_
 simp only [ev,zD,zE,zF,zG]
 refine qcP rfl rfl (Sub_c Bw.up Bw.up) (q_val (r_indexAddrA Tryz.underlying76 cells_32 rfl rfl (by decide) (by decide) rfl) (q_nil ?_))
 clear m; intro u m
 simp only [ev,zD,zE,zF,zG]
 refine mstoreA m 0 rfl rfl rfl cells_32 (leT rfl) rfl ?_
 clear m; intro u m; simp only [over,zH,zI,zJ,zK,zL,zM,zN,zO,zP,zF,zG,Nat.reduceAdd] at m
 refine n_nil (k15 _ _ ?_)
 refine wp_region_lit (n_val (r_add (m:=2) (n:=1) (r:=3) rfl rfl (by decide)) (n_val (r_move) (n_nil (then_rounds (c_seq fun K17 k17=>wp_region_lit (n_val (r_lssF (m:=3) (n:=3) rfl rfl (by decide)) (n_nil (k17 _ _ ?_))))))))
 refine c_seq fun K18 k18=>c_no rfl (wp_exit (k3 _ _ ?_))
 refine c_seq fun K19 k19=>wp_region_lit ?_
 simp only [ev,zD,zE,zF,zG]
 refine n_load rfl ((m.b 0 rfl).full agg_76 cells_76) ?_
 simp only [ev,zD,zE,zF,zG]
 refine mstoreA m 1 rfl rfl rfl cells_76 (leT rfl) rfl ?_
 clear m; intro u m; simp only [over,zH,zI,zJ,zK,zL,zM,zN,zO,zP,zF,zG,Nat.reduceAdd] at m
 refine n_nil (k19 _ _ ?_)
 refine wp_ret ?_
 try simp only [Exit.inBlock,Exit.then,if_true]
 refine fin1 rfl ⟨_,rfl,((m.b 1 rfl).full agg_76 cells_76)⟩ ?_
 try simp only [zD,zE]
 exact ⟨_,rfl,m.ext,rfl⟩
theorem mDot_c {u v : P3} (hu : Bv 400000 u) (hv : Bv 400000 v) : Pure Tryz.prog 48 [wv u,wv v] (W (u.dot v)):=by
 intro w
 refine ⟨en_48,?_⟩
 have m:=Mem.refl w
 go_enter Tryz.func48,Tryz.ntmps48
 refine c_seq fun K1 k1=>wp_region_lit (mboxA m rfl ?_)
 clear m; intro g1 u m
 simp only [ev,zD,zE,zF,zG]
 refine mboxA m rfl ?_
 clear m; intro g2 u m
 simp only [ev,zD,zE,zF,zG]
 refine malloc m zero_32 rfl ?_
 clear m; intro g3 u m
 refine n_nil (k1 _ _ ?_)
 refine c_seq fun K2 k2=>wp_region_lit ?_
 simp only [ev,zD,zE,zF,zG]
 refine malloc m zero_32 rfl ?_
 clear m; intro g4 u m
 refine n_nil (k2 _ _ ?_)
 refine c_seq fun K3 k3=>c_seq fun K4 k4=>wp_region_lit (n_val (r_move) (n_nil (k4 _ _ ?_)))
 refine wp_block (wp_loop_rounds 4 (rounds_step (c_seq fun K5 k5=>wp_region_lit (n_val (r_lssT (m:=0) (n:=3) rfl rfl (by decide)) (n_nil (k5 _ _ ?_))))))
 refine c_seq fun K6 k6=>c_yes rfl (wp_skip (k6 _ _ ?_))
 refine c_seq fun K7 k7=>wp_block (c_seq fun K8 k8=>wp_region_lit (n_val (r_move) ?_))
 simp only [ev,zD,zE,zF,zG]
 refine n_val (r_assign) (n_nil (k8 _ _ ?_))
 simp only [ev,zD,zE,zF,zG]
 refine mq_tail m 9 follows_mixed (by kernel_rfl) ?_
 simp only [zH,zI,zJ,zK]
 refine ql rfl (fun u m=>((m.b 0 rfl).full agg_32 cells_32)) ?_
 simp only [ev,zD,zE,zF,zG]
 refine q_val (r_move) (q_val (r_indexAddrA Tryz.underlying76 cells_32 rfl rfl (by decide) (by decide) rfl) ?_)
 simp only [ev,zD,zE,zF,zG]
 refine ql rfl (fun u m=>((m.b 3 rfl).lies agg_32 cells_32 rfl rfl)) ?_
 simp only [ev,zD,zE,zF,zG,zH,zI,zJ,zK,Nat.zero_add,Nat.reduceAdd,Nat.reduceMul,Int.reduceToNat]
 refine q_val (r_move) (q_val (r_indexAddrA Tryz.underlying76 cells_32 rfl rfl (by decide) (by decide) rfl) ?_)
 simp only [ev,zD,zE,zF,zG]
 refine ql rfl (fun u m=>((m.b 2 rfl).lies agg_32 cells_32 rfl rfl)) ?_
 simp only [ev,zD,zE,zF,zG,zH,zI,zJ,zK,Nat.zero_add,Nat.reduceAdd,Nat.reduceMul,Int.reduceToNat]
 refine qcP rfl rfl (Mul_c Bw.up Bw.up) ?_
 simp only [ev,zD,zE,zF,zG]
 refine qcP rfl rfl (Add0_c Bw.up) (q_nil ?_)
 clear m; intro u m
 simp only [ev,zD,zE,zF,zG]
 refine mstoreA m 0 rfl rfl rfl cells_32 (leT rfl) rfl ?_
 clear m; intro u m; simp only [over,zH,zI,zJ,zK,zL,zM,zN,zO,zP,zF,zG,Nat.reduceAdd] at m
 refine n_nil (k7 _ _ ?_)
 refine wp_region_lit (n_val (r_add (m:=0) (n:=1) (r:=1) rfl rfl (by decide)) (n_val (r_move) (n_nil (then_rounds (c_seq fun K9 k9=>wp_region_lit (n_val (r_lssT (m:=1) (n:=3) rfl rfl (by decide)) (n_nil (k9 _ _ ?_))))))))
 refine c_seq fun K10 k10=>c_yes rfl (wp_skip (k10 _ _ ?_))
 refine c_seq fun K11 k11=>wp_block (c_seq fun K12 k12=>wp_region_lit (n_val (r_move) ?_))
 simp only [ev,zD,zE,zF,zG]
 refine n_val (r_assign) (n_nil (k12 _ _ ?_))
 simp only [ev,zD,zE,zF,zG]
 refine mq_tail m 9 follows_mixed (by kernel_rfl) ?_
 simp only [zH,zI,zJ,zK]
 refine ql rfl (fun u m=>((m.b 0 rfl).full agg_32 cells_32)) ?_
 simp only [ev,zD,zE,zF,zG]
 refine q_val (r_move) (q_val (r_indexAddrA Tryz.underlying76 cells_32 rfl rfl (by decide) (by decide) rfl) ?_)
 simp only [ev,zD,zE,zF,zG]
 refine ql rfl (fun u m=>((m.b 3 rfl).lies agg_32 cells_32 rfl rfl)) ?_
 simp only [ev,zD,zE,zF,zG,zH,zI,zJ,zK,Nat.zero_add,Nat.reduceAdd,Nat.reduceMul,Int.reduceToNat]
 refine q_val (r_move) (q_val (r_indexAddrA Tryz.underlying76 cells_32 rfl rfl (by decide) (by decide) rfl) ?_)
 simp only [ev,zD,zE,zF,zG]
 refine ql rfl (fun u m=>((m.b 2 rfl).lies agg_32 cells_32 rfl rfl)) ?_
 simp only [ev,zD,zE,zF,zG,zH,zI,zJ,zK,Nat.zero_add,Nat.reduceAdd,Nat.reduceMul,Int.reduceToNat]
 refine qcP rfl rfl (Mul_c Bw.up Bw.up) ?_
 simp only [ev,zD,zE,zF,zG]
 refine qcP rfl rfl (Add_c Bw.up Bw.up) (q_nil ?_)
 clear m; intro u m
 simp only [ev,zD,zE,zF,zG]
 refine mstoreA m 0 rfl rfl rfl cells_32 (leT rfl) rfl ?_
 clear m; intro u m; simp only [over,zH,zI,zJ,zK,zL,zM,zN,zO,zP,zF,zG,Nat.reduceAdd] at m
 refine n_nil (k11 _ _ ?_)
 refine wp_region_lit (n_val (r_add (m:=1) (n:=1) (r:=2) rfl rfl (by decide)) (n_val (r_move) (n_nil (then_rounds (c_seq fun K13 k13=>wp_region_lit (n_val (r_lssT (m:=2) (n:=3) rfl rfl (by decide)) (n_nil (k13 _ _ ?_))))))))
 refine c_seq fun K14 k14=>c_yes rfl (wp_skip (k14 _ _ ?_))
 refine c_seq fun K15 k15=>wp_block (c_seq fun K16 k16=>wp_region_lit (n_val (r_move) ?_))
 simp only [ev,zD,zE,zF,zG]
 refine n_val (r_assign) (n_nil (k16 _ _ ?_))
 simp only [ev,zD,zE,zF,zG]
 refine mq_tail m 9 follows_mixed (by kernel_rfl) ?_
 simp only [zH,zI,zJ,zK]
 refine ql rfl (fun u m=>((m.b 0 rfl).full agg_32 cells_32)) ?_
 simp only [ev,zD,zE,zF,zG]
 refine q_val (r_move) (q_val (r_indexAddrA Tryz.underlying76 cells_32 rfl rfl (by decide) (by decide) rfl) ?_)
 simp only [ev,zD,zE,zF,zG]
 refine ql rfl (fun u m=>((m.b 3 rfl).lies agg_32 cells_32 rfl rfl)) ?_
 simp only [ev,zD,zE,zF,zG,zH,zI,zJ,zK,Nat.zero_add,Nat.reduceAdd,Nat.reduceMul,Int.reduceToNat]
 refine q_val (r_move) (q_val (r_indexAddrA Tryz.underlying76 cells_32 rfl rfl (by decide) (by decide) rfl) ?_)
 simp only [ev,zD,zE,zF,zG]
 refine ql rfl (fun u m=>((m.b 2 rfl).lies agg_32 cells_32 rfl rfl)) ?_
 simp only [ev,zD,zE,zF,zG,zH,zI,zJ,zK,Nat.zero_add,Nat.reduceAdd,Nat.reduceMul,Int.reduceToNat]
 refine qcP rfl rfl (Mul_c Bw.up Bw.up) ?_
 simp only [ev,zD,zE,zF,zG]
 refine qcP rfl rfl (Add_c Bw.up Bw.up) (q_nil ?_)
 clear m; intro u m
 simp only [ev,zD,zE,zF,zG]
 refine mstoreA m 0 rfl rfl rfl cells_32 (leT rfl) rfl ?_
 clear m; intro u m; simp only [over,zH,zI,zJ,zK,zL,zM,zN,zO,zP,zF,zG,Nat.reduceAdd] at m
 refine n_nil (k15 _ _ ?_)
 refine wp_region_lit (n_val (r_add (m:=2) (n:=1) (r:=3) rfl rfl (by decide)) (n_val (r_move) (n_nil (then_rounds (c_seq fun K17 k17=>wp_region_lit (n_val (r_lssF (m:=3) (n:=3) rfl rfl (by decide)) (n_nil (k17 _ _ ?_))))))))
 refine c_seq fun K18 k18=>c_no rfl (wp_exit (k3 _ _ ?_))
 refine c_seq fun K19 k19=>wp_region_lit ?_
 simp only [ev,zD,zE,zF,zG]
 refine n_load rfl ((m.b 0 rfl).full agg_32 cells_32) ?_
 simp only [ev,zD,zE,zF,zG]
 refine mstoreA m 1 rfl rfl rfl cells_32 (leT rfl) rfl ?_
 clear m; intro u m; simp only [over,zH,zI,zJ,zK,zL,zM,zN,zO,zP,zF,zG,Nat.reduceAdd] at m
 refine n_nil (k19 _ _ ?_)
 refine wp_ret ?_
 try simp only [Exit.inBlock,Exit.then,if_true]
 refine fin1 rfl ⟨_,rfl,((m.b 1 rfl).full agg_32 cells_32)⟩ ?_
 try simp only [zD,zE]
 exact ⟨_,rfl,m.ext,by rw [← P3.dot0]; rfl⟩
theorem mCross_c {u v : P3} (hu : Bv 400000 u) (hv : Bv 400000 v) : Pure Tryz.prog 96 [wv u,wv v] (wv (u.cross v)):=by
 intro w
 refine ⟨en_96,?_⟩
 have m:=Mem.refl w
 go_enter Tryz.func96,Tryz.ntmps96
 refine c_seq fun K1 k1=>wp_region_lit (mboxA m rfl ?_)
 clear m; intro g1 u m
 simp only [ev,zD,zE,zF,zG]
 refine mboxA m rfl ?_
 clear m; intro g2 u m
 simp only [ev,zD,zE,zF,zG]
 refine malloc m zero_76 rfl ?_
 clear m; intro g3 u m
 refine n_nil (k1 _ _ ?_)
 refine c_seq fun K2 k2=>wp_region_lit ?_
 simp only [ev,zD,zE,zF,zG]
 refine malloc m zero_76 rfl ?_
 clear m; intro g4 u m
 refine n_nil (k2 _ _ ?_)
 refine c_seq fun K3 k3=>c_seq fun K4 k4=>wp_region_lit (n_val (r_move) (n_nil (k4 _ _ ?_)))
 refine wp_block (wp_loop_rounds 4 (rounds_step (c_seq fun K5 k5=>wp_region_lit (n_val (r_lssT (m:=0) (n:=3) rfl rfl (by decide)) (n_nil (k5 _ _ ?_))))))
 refine c_seq fun K6 k6=>c_yes rfl (wp_skip (k6 _ _ ?_))
 refine c_seq fun K7 k7=>wp_block (c_seq fun K8 k8=>wp_region_lit (n_val (r_move) ?_))
 simp only [ev,zD,zE,zF,zG]
 refine n_val (r_assign) (n_nil (k8 _ _ ?_))
 refine c_seq fun K9 k9=>wp_region_lit (n_val (r_move) (n_val (r_add (m:=0) (n:=1) (r:=1) rfl rfl (by decide)) (n_val (r_rem (m:=1) (n:=3) (r:=1) rfl rfl (by decide) (by decide)) ?_)))
 simp only [ev,zD,zE,zF,zG]
 refine n_val (r_move) (n_val (r_add (m:=0) (n:=2) (r:=2) rfl rfl (by decide)) (n_val (r_rem (m:=2) (n:=3) (r:=2) rfl rfl (by decide) (by decide)) (n_val (r_assign) ?_)))
 simp only [ev,zD,zE,zF,zG]
 refine n_val (r_assign) (n_nil (k9 _ _ ?_))
 simp only [ev,zD,zE,zF,zG]
 refine mq_tail m 17 follows_mixed (by kernel_rfl) ?_
 simp only [zH,zI,zJ,zK]
 refine q_val (r_move) (q_val (r_move) (q_val (r_indexAddrA Tryz.underlying76 cells_32 rfl rfl (by decide) (by decide) rfl) ?_))
 simp only [ev,zD,zE,zF,zG]
 refine ql rfl (fun u m=>((m.b 3 rfl).lies agg_32 cells_32 rfl rfl)) ?_
 simp only [ev,zD,zE,zF,zG,zH,zI,zJ,zK,Nat.zero_add,Nat.reduceAdd,Nat.reduceMul,Int.reduceToNat]
 refine q_val (r_move) (q_val (r_indexAddrA Tryz.underlying76 cells_32 rfl rfl (by decide) (by decide) rfl) ?_)
 simp only [ev,zD,zE,zF,zG]
 refine ql rfl (fun u m=>((m.b 2 rfl).lies agg_32 cells_32 rfl rfl)) ?_
 simp only [ev,zD,zE,zF,zG,zH,zI,zJ,zK,Nat.zero_add,Nat.reduceAdd,Nat.reduceMul,Int.reduceToNat]
 refine qcP rfl rfl (Mul_c Bw.up Bw.up) (q_val (r_move) (q_val (r_indexAddrA Tryz.underlying76 cells_32 rfl rfl (by decide) (by decide) rfl) ?_))
 simp only [ev,zD,zE,zF,zG]
 refine ql rfl (fun u m=>((m.b 3 rfl).lies agg_32 cells_32 rfl rfl)) ?_
 simp only [ev,zD,zE,zF,zG,zH,zI,zJ,zK,Nat.zero_add,Nat.reduceAdd,Nat.reduceMul,Int.reduceToNat]
 refine q_val (r_move) (q_val (r_indexAddrA Tryz.underlying76 cells_32 rfl rfl (by decide) (by decide) rfl) ?_)
 simp only [ev,zD,zE,zF,zG]
 refine ql rfl (fun u m=>((m.b 2 rfl).lies agg_32 cells_32 rfl rfl)) ?_
 simp only [ev,zD,zE,zF,zG,zH,zI,zJ,zK,Nat.zero_add,Nat.reduceAdd,Nat.reduceMul,Int.reduceToNat]
 refine qcP rfl rfl (Mul_c Bw.up Bw.up) ?_
 simp only [ev,zD,zE,zF,zG]
 refine qcP rfl rfl (Sub_c Bw.up Bw.up) (q_val (r_indexAddrA Tryz.underlying76 cells_32 rfl rfl (by decide) (by decide) rfl) (q_nil ?_))
 clear m; intro u m
 simp only [ev,zD,zE,zF,zG]
 refine mstoreA m 0 rfl rfl rfl cells_32 (leT rfl) rfl ?_
 clear m; intro u m; simp only [over,zH,zI,zJ,zK,zL,zM,zN,zO,zP,zF,zG,Nat.reduceAdd] at m
 refine n_nil (k7 _ _ ?_)
 refine wp_region_lit (n_val (r_add (m:=0) (n:=1) (r:=1) rfl rfl (by decide)) (n_val (r_move) (n_nil (then_rounds (c_seq fun K10 k10=>wp_region_lit (n_val (r_lssT (m:=1) (n:=3) rfl rfl (by decide)) (n_nil (k10 _ _ ?_))))))))
 refine c_seq fun K11 k11=>c_yes rfl (wp_skip (k11 _ _ ?_))
 refine c_seq fun K12 k12=>wp_block (c_seq fun K13 k13=>wp_region_lit (n_val (r_move) ?_))
 simp only [ev,zD,zE,zF,zG]
 refine n_val (r_assign) (n_nil (k13 _ _ ?_))
 refine c_seq fun K14 k14=>wp_region_lit (n_val (r_move) (n_val (r_add (m:=1) (n:=1) (r:=2) rfl rfl (by decide)) (n_val (r_rem (m:=2) (n:=3) (r:=2) rfl rfl (by decide) (by decide)) ?_)))
 simp only [ev,zD,zE,zF,zG]
 refine n_val (r_move) (n_val (r_add (m:=1) (n:=2) (r:=3) rfl rfl (by decide)) (n_val (r_rem (m:=3) (n:=3) (r:=0) rfl rfl (by decide) (by decide)) (n_val (r_assign) ?_)))
 simp only [ev,zD,zE,zF,zG]
 refine n_val (r_assign) (n_nil (k14 _ _ ?_))
 simp only [ev,zD,zE,zF,zG]
 refine mq_tail m 17 follows_mixed (by kernel_rfl) ?_
 simp only [zH,zI,zJ,zK]
 refine q_val (r_move) (q_val (r_move) (q_val (r_indexAddrA Tryz.underlying76 cells_32 rfl rfl (by decide) (by decide) rfl) ?_))
 simp only [ev,zD,zE,zF,zG]
 refine ql rfl (fun u m=>((m.b 3 rfl).lies agg_32 cells_32 rfl rfl)) ?_
 simp only [ev,zD,zE,zF,zG,zH,zI,zJ,zK,Nat.zero_add,Nat.reduceAdd,Nat.reduceMul,Int.reduceToNat]
 refine q_val (r_move) (q_val (r_indexAddrA Tryz.underlying76 cells_32 rfl rfl (by decide) (by decide) rfl) ?_)
 simp only [ev,zD,zE,zF,zG]
 refine ql rfl (fun u m=>((m.b 2 rfl).lies agg_32 cells_32 rfl rfl)) ?_
 simp only [ev,zD,zE,zF,zG,zH,zI,zJ,zK,Nat.zero_add,Nat.reduceAdd,Nat.reduceMul,Int.reduceToNat]
 refine qcP rfl rfl (Mul_c Bw.up Bw.up) (q_val (r_move) (q_val (r_indexAddrA Tryz.underlying76 cells_32 rfl rfl (by decide) (by decide) rfl) ?_))
 simp only [ev,zD,zE,zF,zG]
 refine ql rfl (fun u m=>((m.b 3 rfl).lies agg_32 cells_32 rfl rfl)) ?_
 simp only [ev,zD,zE,zF,zG,zH,zI,zJ,zK,Nat.zero_add,Nat.reduceAdd,Nat.reduceMul,Int.reduceToNat]
 refine q_val (r_move) (q_val (r_indexAddrA Tryz.underlying76 cells_32 rfl rfl (by decide) (by decide) rfl) ?_)
 simp only [ev,zD,zE,zF,zG]
 refine ql rfl (fun u m=>((m.b 2 rfl).lies agg_32 cells_32 rfl rfl)) ?_
 simp only [ev,zD,zE,zF,zG,zH,zI,zJ,zK,Nat.zero_add,Nat.reduceAdd,Nat.reduceMul,Int.reduceToNat]
 refine qcP rfl rfl (Mul_c Bw.up Bw.up) ?_
 simp only [ev,zD,zE,zF,zG]
 refine qcP rfl rfl (Sub_c Bw.up Bw.up) (q_val (r_indexAddrA Tryz.underlying76 cells_32 rfl rfl (by decide) (by decide) rfl) (q_nil ?_))
 clear m; intro u m
 simp only [ev,zD,zE,zF,zG]
 refine mstoreA m 0 rfl rfl rfl cells_32 (leT rfl) rfl ?_
 clear m; intro u m; simp only [over,zH,zI,zJ,zK,zL,zM,zN,zO,zP,zF,zG,Nat.reduceAdd] at m
 refine n_nil (k12 _ _ ?_)
 refine wp_region_lit (n_val (r_add (m:=1) (n:=1) (r:=2) rfl rfl (by decide)) (n_val (r_move) (n_nil (then_rounds (c_seq fun K15 k15=>wp_region_lit (n_val (r_lssT (m:=2) (n:=3) rfl rfl (by decide)) (n_nil (k15 _ _ ?_))))))))
 refine c_seq fun K16 k16=>c_yes rfl (wp_skip (k16 _ _ ?_))
 refine c_seq fun K17 k17=>wp_block (c_seq fun K18 k18=>wp_region_lit (n_val (r_move) ?_))
 simp only [ev,zD,zE,zF,zG]
 refine n_val (r_assign) (n_nil (k18 _ _ ?_))
 refine c_seq fun K19 k19=>wp_region_lit (n_val (r_move) (n_val (r_add (m:=2) (n:=1) (r:=3) rfl rfl (by decide)) (n_val (r_rem (m:=3) (n:=3) (r:=0) rfl rfl (by decide) (by decide)) ?_)))
 simp only [ev,zD,zE,zF,zG]
 refine n_val (r_move) (n_val (r_add (m:=2) (n:=2) (r:=4) rfl rfl (by decide)) (n_val (r_rem (m:=4) (n:=3) (r:=1) rfl rfl (by decide) (by decide)) (n_val (r_assign) ?_)))
 simp only [ev,zD,zE,zF,zG]
 refine n_val (r_assign) (n_nil (k19 _ _ ?_))
 simp only [ev,zD,zE,zF,zG]
 refine mq_tail m 17 follows_mixed (by kernel_rfl) ?_
 simp only [zH,zI,zJ,zK]
 refine q_val (r_move) (q_val (r_move) (q_val (r_indexAddrA Tryz.underlying76 cells_32 rfl rfl (by decide) (by decide) rfl) ?_))
 simp only [ev,zD,zE,zF,zG]
 refine ql rfl (fun u m=>((m.b 3 rfl).lies agg_32 cells_32 rfl rfl)) ?_
 simp only [ev,zD,zE,zF,zG,zH,zI,zJ,zK,Nat.zero_add,Nat.reduceAdd,Nat.reduceMul,Int.reduceToNat]
 refine q_val (r_move) (q_val (r_indexAddrA Tryz.underlying76 cells_32 rfl rfl (by decide) (by decide) rfl) ?_)
 simp only [ev,zD,zE,zF,zG]
 refine ql rfl (fun u m=>((m.b 2 rfl).lies agg_32 cells_32 rfl rfl)) ?_
 simp only [ev,zD,zE,zF,zG,zH,zI,zJ,zK,Nat.zero_add,Nat.reduceAdd,Nat.reduceMul,Int.reduceToNat]
 refine qcP rfl rfl (Mul_c Bw.up Bw.up) (q_val (r_move) (q_val (r_indexAddrA Tryz.underlying76 cells_32 rfl rfl (by decide) (by decide) rfl) ?_))
 simp only [ev,zD,zE,zF,zG]
 refine ql rfl (fun u m=>((m.b 3 rfl).lies agg_32 cells_32 rfl rfl)) ?_
 simp only [ev,zD,zE,zF,zG,zH,zI,zJ,zK,Nat.zero_add,Nat.reduceAdd,Nat.reduceMul,Int.reduceToNat]
 refine q_val (r_move) (q_val (r_indexAddrA Tryz.underlying76 cells_32 rfl rfl (by decide) (by decide) rfl) ?_)
 simp only [ev,zD,zE,zF,zG]
 refine ql rfl (fun u m=>((m.b 2 rfl).lies agg_32 cells_32 rfl rfl)) ?_
 simp only [ev,zD,zE,zF,zG,zH,zI,zJ,zK,Nat.zero_add,Nat.reduceAdd,Nat.reduceMul,Int.reduceToNat]
 refine qcP rfl rfl (Mul_c Bw.up Bw.up) ?_
 simp only [ev,zD,zE,zF,zG]
 refine qcP rfl rfl (Sub_c Bw.up Bw.up) (q_val (r_indexAddrA Tryz.underlying76 cells_32 rfl rfl (by decide) (by decide) rfl) (q_nil ?_))
 clear m; intro u m
 simp only [ev,zD,zE,zF,zG]
 refine mstoreA m 0 rfl rfl rfl cells_32 (leT rfl) rfl ?_
 clear m; intro u m; simp only [over,zH,zI,zJ,zK,zL,zM,zN,zO,zP,zF,zG,Nat.reduceAdd] at m
 refine n_nil (k17 _ _ ?_)
 refine wp_region_lit (n_val (r_add (m:=2) (n:=1) (r:=3) rfl rfl (by decide)) (n_val (r_move) (n_nil (then_rounds (c_seq fun K20 k20=>wp_region_lit (n_val (r_lssF (m:=3) (n:=3) rfl rfl (by decide)) (n_nil (k20 _ _ ?_))))))))
 refine c_seq fun K21 k21=>c_no rfl (wp_exit (k3 _ _ ?_))
 refine c_seq fun K22 k22=>wp_region_lit ?_
 simp only [ev,zD,zE,zF,zG]
 refine n_load rfl ((m.b 0 rfl).full agg_76 cells_76) ?_
 simp only [ev,zD,zE,zF,zG]
 refine mstoreA m 1 rfl rfl rfl cells_76 (leT rfl) rfl ?_
 clear m; intro u m; simp only [over,zH,zI,zJ,zK,zL,zM,zN,zO,zP,zF,zG,Nat.reduceAdd] at m
 refine n_nil (k22 _ _ ?_)
 refine wp_ret ?_
 try simp only [Exit.inBlock,Exit.then,if_true]
 refine fin1 rfl ⟨_,rfl,((m.b 1 rfl).full agg_76 cells_76)⟩ ?_
 try simp only [zD,zE]
 exact ⟨_,rfl,m.ext,rfl⟩
theorem mFrac_c {n d : Int} (hn : Bd 400000 n) (hd : Bd 400000 d) (h0 : d ≠ 0) : Pure Tryz.prog 67 [W n,W d] (Q (Rat.divInt n d)):=by
 intro w
 refine ⟨en_67,?_⟩
 have m:=Mem.refl w
 go_enter Tryz.func67,Tryz.ntmps67
 refine c_seq fun K1 k1=>wp_region_lit (mboxA m rfl ?_)
 clear m; intro g1 u m
 simp only [ev,zD,zE,zF,zG]
 refine mboxA m rfl ?_
 clear m; intro g2 u m
 simp only [ev,zD,zE,zF,zG]
 refine malloc m zero_34 rfl ?_
 clear m; intro g3 u m
 refine n_nil (k1 _ _ ?_)
 refine c_seq fun K2 k2=>wp_region_lit ?_
 simp only [ev,zD,zE,zF,zG]
 refine n_load rfl ((m.b 2 rfl).full agg_32 cells_32) ?_
 simp only [ev,zD,zE,zF,zG]
 refine n_load rfl ((m.b 1 rfl).full agg_32 cells_32) ?_
 simp only [ev,zD,zE,zF,zG]
 refine mcallP m rfl rfl (Frac_c hn hd h0) ?_
 clear m; intro u m
 refine n_val (r_move) (n_val (r_extract rfl rfl) (n_val (r_extract rfl rfl) ?_))
 simp only [ev,zD,zE,zF,zG]
 refine malloc m zero_34 rfl ?_
 clear m; intro g4 u m
 simp only [ev,zD,zE,zF,zG]
 refine mstoreA m 0 rfl rfl rfl cells_34 (leT rfl) rfl ?_
 clear m; intro u m; simp only [over,zH,zI,zJ,zK,zL,zM,zN,zO,zP,zF,zG,Nat.reduceAdd] at m
 refine n_val (r_assign) (n_nil (k2 _ _ ?_))
 refine c_seq fun K3 k3=>wp_region_lit ?_
 simp only [ev,zD,zE,zF,zG]
 refine n_load rfl ((m.b 0 rfl).full agg_34 cells_34) ?_
 simp only [ev,zD,zE,zF,zG]
 refine mstoreA m 1 rfl rfl rfl cells_34 (leT rfl) rfl ?_
 clear m; intro u m; simp only [over,zH,zI,zJ,zK,zL,zM,zN,zO,zP,zF,zG,Nat.reduceAdd] at m
 refine n_nil (k3 _ _ ?_)
 refine wp_ret ?_
 try simp only [Exit.inBlock,Exit.then,if_true]
 refine fin1 rfl ⟨_,rfl,((m.b 1 rfl).full agg_34 cells_34)⟩ ?_
 try simp only [zD,zE]
 exact ⟨_,rfl,m.ext,rfl⟩
theorem whole_c {n : Int} (hn : Bd 400000 n) : Pure Tryz.prog 66 [W n] (Q (Rat.divInt n 1)):=by
 intro w
 refine ⟨en_66,?_⟩
 have m:=Mem.refl w
 go_enter Tryz.func66,Tryz.ntmps66
 refine c_seq fun K1 k1=>wp_region_lit (mboxA m rfl ?_)
 clear m; intro g1 u m
 simp only [ev,zD,zE,zF,zG]
 refine malloc m zero_34 rfl ?_
 clear m; intro g2 u m
 refine n_nil (k1 _ _ ?_)
 refine c_seq fun K2 k2=>?_
 simp only [ev,zD,zE,zF,zG]
 refine mq_tail m 3 follows_mixed (by kernel_rfl) ?_
 simp only [zH,zI,zJ,zK]
 refine ql rfl (fun u m=>((m.b 1 rfl).full agg_32 cells_32)) ?_
 simp only [ev,zD,zE,zF,zG]
 refine qcP rfl rfl (From_c Iw.h) ?_
 simp only [ev,zD,zE,zF,zG]
 refine qcP rfl rfl (mFrac_c (d:=1) hn Bw.up (by decide)) (q_nil ?_)
 clear m; intro u m
 simp only [ev,zD,zE,zF,zG]
 refine mstoreA m 0 rfl rfl rfl cells_34 (leT rfl) rfl ?_
 clear m; intro u m; simp only [over,zH,zI,zJ,zK,zL,zM,zN,zO,zP,zF,zG,Nat.reduceAdd] at m
 refine n_nil (k2 _ _ ?_)
 refine wp_ret ?_
 try simp only [Exit.inBlock,Exit.then,if_true]
 refine fin1 rfl ⟨_,rfl,((m.b 0 rfl).full agg_34 cells_34)⟩ ?_
 try simp only [zD,zE]
 exact ⟨_,rfl,m.ext,rfl⟩
theorem whole0_c : Pure Tryz.prog 66 [.agg #[.bool false,.string ⟨#[]⟩]] (Q 0):=by
 rw [← W_zero]
 exact whole_c (bd_zero _)
theorem segment_c {x p q : P3} [I3 x] [I3 p] [I3 q] : Pure Tryz.prog 99 [pt x,pt p,pt q] (Q (segq x p q)):=by
 intro w
 refine ⟨en_99,?_⟩
 have m:=Mem.refl w
 go_enter Tryz.func99,Tryz.ntmps99
 refine c_seq fun K1 k1=>wp_region_lit (mboxA m rfl ?_)
 clear m; intro g1 u m
 simp only [ev,zD,zE,zF,zG]
 refine mboxA m rfl ?_
 clear m; intro g2 u m
 simp only [ev,zD,zE,zF,zG]
 refine mboxA m rfl ?_
 clear m; intro g3 u m
 simp only [ev,zD,zE,zF,zG]
 refine malloc m zero_34 rfl ?_
 clear m; intro g4 u m
 refine n_nil (k1 _ _ ?_)
 refine c_seq fun K2 k2=>?_
 simp only [ev,zD,zE,zF,zG]
 refine wp_region_fresh 8 [0,1,2,3,4,5] [⟨6,7,76,[.bool false,.string ⟨#[]⟩,.bool false,.string ⟨#[]⟩,.bool false,.string ⟨#[]⟩]⟩,⟨7,8,76,[.bool false,.string ⟨#[]⟩,.bool false,.string ⟨#[]⟩,.bool false,.string ⟨#[]⟩]⟩] follows_mixed (by kernel_rfl) (al2 ⟨_,_,_,rfl,by kernel_rfl,_,zero_76,rfl⟩ ⟨_,_,_,rfl,by kernel_rfl,_,zero_76,rfl⟩) (ol:=?_) ?hol ?_
 case hol=>simp only [zQ,zR,zS,zT,zU,zV]; try rfl
 intro u e; replace m:=m.ext' e; clear e
 refine e_load rfl (fun u e=>(((m.ext' e).b 2 rfl).full agg_28 cells_28)) ?_
 simp only [ev,zD,zE,zF,zG]
 refine e_load rfl (fun u e=>(((m.ext' e).b 1 rfl).full agg_28 cells_28)) ?_
 simp only [ev,zD,zE,zF,zG]
 refine e_callP rfl rfl (from_c) ?_
 simp only [ev,zD,zE,zF,zG]
 refine e_load rfl (fun u e=>(((m.ext' e).b 2 rfl).full agg_28 cells_28)) ?_
 simp only [ev,zD,zE,zF,zG]
 refine e_load rfl (fun u e=>(((m.ext' e).b 3 rfl).full agg_28 cells_28)) ?_
 simp only [ev,zD,zE,zF,zG]
 refine e_callP rfl rfl (from_c) (e_nil ?_)
 simp only [ev,zD,zE,zF,zG]
 refine mf2 m (by decide) ?_
 clear m; intro g5 g6 u m
 simp only [zJ,zK,zF,zG]
 refine mstoreA m 1 rfl rfl rfl cells_76 (leT rfl) rfl ?_
 clear m; intro u m; simp only [over,zH,zI,zJ,zK,zL,zM,zN,zO,zP,zF,zG,Nat.reduceAdd] at m
 refine mstoreA m 0 rfl rfl rfl cells_76 (leT rfl) rfl ?_
 clear m; intro u m; simp only [over,zH,zI,zJ,zK,zL,zM,zN,zO,zP,zF,zG,Nat.reduceAdd] at m
 refine n_nil (k2 _ _ ?_)
 refine c_seq fun K3 k3=>?_
 refine wp_region_fresh 8 [0,1,2,3,4,5] [⟨6,9,32,[.bool false,.string ⟨#[]⟩]⟩,⟨7,10,32,[.bool false,.string ⟨#[]⟩]⟩] follows_mixed (by kernel_rfl) (al2 ⟨_,_,_,rfl,by kernel_rfl,_,zero_32,rfl⟩ ⟨_,_,_,rfl,by kernel_rfl,_,zero_32,rfl⟩) (ol:=?_) ?hol ?_
 case hol=>simp only [zQ,zR,zS,zT,zU,zV]; try rfl
 intro u e; replace m:=m.ext' e; clear e
 refine e_load rfl (fun u e=>(((m.ext' e).b 1 rfl).full agg_76 cells_76)) ?_
 simp only [ev,zD,zE,zF,zG]
 refine e_load rfl (fun u e=>(((m.ext' e).b 0 rfl).full agg_76 cells_76)) ?_
 simp only [ev,zD,zE,zF,zG]
 refine e_callP rfl rfl (mDot_c Bv.of Bv.of) ?_
 simp only [ev,zD,zE,zF,zG]
 refine e_load rfl (fun u e=>(((m.ext' e).b 1 rfl).full agg_76 cells_76)) ?_
 simp only [ev,zD,zE,zF,zG]
 refine e_load rfl (fun u e=>(((m.ext' e).b 1 rfl).full agg_76 cells_76)) ?_
 simp only [ev,zD,zE,zF,zG]
 refine e_callP rfl rfl (mDot_c Bv.of Bv.of) (e_nil ?_)
 simp only [ev,zD,zE,zF,zG]
 refine mf2 m (by decide) ?_
 clear m; intro g7 g8 u m
 simp only [zJ,zK,zF,zG]
 refine mstoreA m 1 rfl rfl rfl cells_32 (leT rfl) rfl ?_
 clear m; intro u m; simp only [over,zH,zI,zJ,zK,zL,zM,zN,zO,zP,zF,zG,Nat.reduceAdd] at m
 refine mstoreA m 0 rfl rfl rfl cells_32 (leT rfl) rfl ?_
 clear m; intro u m; simp only [over,zH,zI,zJ,zK,zL,zM,zN,zO,zP,zF,zG,Nat.reduceAdd] at m
 refine n_nil (k3 _ _ ?_)
 refine c_seq fun K4 k4=>wp_block (c_seq fun K5 k5=>wp_region_lit (n_load rfl ((m.b 1 rfl).full agg_32 cells_32) ?_))
 simp only [ev,zD,zE,zF,zG]
 refine mcallP m rfl rfl (Sign_c Bw.up) ?_
 clear m; intro u m
 refine n_val (r_leq rfl rfl) (n_val (r_assign) (n_nil (k5 _ _ ?_)))
 simp only [ev,zD,zE,zF,zG]
 refine c_if rfl (fun hc1=>?_) (fun hc1=>?_)
 ·
  refine c_seq fun K6 k6=>wp_region_lit (n_load rfl ((m.b 2 rfl).full agg_76 cells_76) ?_)
  simp only [ev,zD,zE,zF,zG]
  refine n_load rfl ((m.b 2 rfl).full agg_76 cells_76) ?_
  simp only [ev,zD,zE,zF,zG]
  refine mcallP m rfl rfl (mDot_c Bv.of Bv.of) ?_
  clear m; intro u m
  simp only [ev,zD,zE,zF,zG]
  refine mcallP m rfl rfl (whole_c Bw.up) ?_
  clear m; intro u m
  simp only [ev,zD,zE,zF,zG]
  refine mstoreA m 4 rfl rfl rfl cells_34 (leT rfl) rfl ?_
  clear m; intro u m; simp only [over,zH,zI,zJ,zK,zL,zM,zN,zO,zP,zF,zG,Nat.reduceAdd] at m
  refine n_nil (k6 _ _ ?_)
  refine wp_ret ?_
  try simp only [Exit.inBlock,Exit.then,if_true]
  refine fin1 rfl ⟨_,rfl,((m.b 4 rfl).full agg_34 cells_34)⟩ ?_
  try simp only [zD,zE]
  exact ⟨_,rfl,m.ext,by rw [segq,if_pos (isign_le.1 hc1)]; rfl⟩
 ·
  refine c_seq fun K7 k7=>wp_region_lit (n_load rfl ((m.b 1 rfl).full agg_32 cells_32) ?_)
  simp only [ev,zD,zE,zF,zG]
  refine n_load rfl ((m.b 0 rfl).full agg_32 cells_32) ?_
  simp only [ev,zD,zE,zF,zG]
  refine mcallP m rfl rfl (Cmp_c Bw.up Bw.up) ?_
  clear m; intro u m
  refine n_val (r_geq rfl rfl) (n_val (r_assign) (n_nil (k7 _ _ ?_)))
  simp only [ev,zD,zE,zF,zG]
  refine c_if rfl (fun hc2=>?_) (fun hc2=>?_)
  ·
   refine c_seq fun K8 k8=>wp_region_lit (n_load rfl ((m.b 7 rfl).full agg_28 cells_28) ?_)
   simp only [ev,zD,zE,zF,zG]
   refine n_load rfl ((m.b 5 rfl).full agg_28 cells_28) ?_
   simp only [ev,zD,zE,zF,zG]
   refine mcallP m rfl rfl (Dist2_c) ?_
   clear m; intro u m
   simp only [ev,zD,zE,zF,zG]
   refine mcallP m rfl rfl (whole_c Bw.up) ?_
   clear m; intro u m
   simp only [ev,zD,zE,zF,zG]
   refine mstoreA m 4 rfl rfl rfl cells_34 (leT rfl) rfl ?_
   clear m; intro u m; simp only [over,zH,zI,zJ,zK,zL,zM,zN,zO,zP,zF,zG,Nat.reduceAdd] at m
   refine n_nil (k8 _ _ ?_)
   refine wp_ret ?_
   try simp only [Exit.inBlock,Exit.then,if_true]
   refine fin1 rfl ⟨_,rfl,((m.b 4 rfl).full agg_34 cells_34)⟩ ?_
   try simp only [zD,zE]
   exact ⟨_,rfl,m.ext,by rw [segq,if_neg (mt isign_le.2 hc1),if_pos (by have:=isign_nn.1 hc2; omega)]; rfl⟩
  ·
   refine wp_skip (k4 _ _ ?_)
   refine c_seq fun K9 k9=>?_
   refine mq_tail m 11 follows_mixed (by kernel_rfl) ?_
   simp only [zH,zI,zJ,zK]
   refine ql rfl (fun u m=>((m.b 2 rfl).full agg_76 cells_76)) ?_
   simp only [ev,zD,zE,zF,zG]
   refine ql rfl (fun u m=>((m.b 2 rfl).full agg_76 cells_76)) ?_
   simp only [ev,zD,zE,zF,zG]
   refine qcP rfl rfl (mDot_c Bv.of Bv.of) ?_
   simp only [ev,zD,zE,zF,zG]
   refine ql rfl (fun u m=>((m.b 0 rfl).full agg_32 cells_32)) ?_
   simp only [ev,zD,zE,zF,zG]
   refine qcP rfl rfl (Mul_c Bw.up Bw.up) ?_
   simp only [ev,zD,zE,zF,zG]
   refine ql rfl (fun u m=>((m.b 1 rfl).full agg_32 cells_32)) ?_
   simp only [ev,zD,zE,zF,zG]
   refine ql rfl (fun u m=>((m.b 1 rfl).full agg_32 cells_32)) ?_
   simp only [ev,zD,zE,zF,zG]
   refine qcP rfl rfl (Mul_c Bw.up Bw.up) ?_
   simp only [ev,zD,zE,zF,zG]
   refine qcP rfl rfl (Sub_c Bw.up Bw.up) ?_
   simp only [ev,zD,zE,zF,zG]
   refine ql rfl (fun u m=>((m.b 0 rfl).full agg_32 cells_32)) ?_
   simp only [ev,zD,zE,zF,zG]
   refine qcP rfl rfl (mFrac_c Bw.up Bw.up (by have h1:=mt isign_le.2 hc1; have h2:=mt isign_nn.2 hc2; omega)) (q_nil ?_)
   clear m; intro u m
   simp only [ev,zD,zE,zF,zG]
   refine mstoreA m 4 rfl rfl rfl cells_34 (leT rfl) rfl ?_
   clear m; intro u m; simp only [over,zH,zI,zJ,zK,zL,zM,zN,zO,zP,zF,zG,Nat.reduceAdd] at m
   refine n_nil (k9 _ _ ?_)
   refine wp_ret ?_
   try simp only [Exit.inBlock,Exit.then,if_true]
   refine fin1 rfl ⟨_,rfl,((m.b 4 rfl).full agg_34 cells_34)⟩ ?_
   try simp only [zD,zE]
   exact ⟨_,rfl,m.ext,by rw [segq,if_neg (mt isign_le.2 hc1),if_neg (by have:=mt isign_nn.2 hc2; omega)]; rfl⟩
end Go.Proofs.YtmcgcnpgkkfkoaaGreatDoor
namespace Go.Proofs.YtmcgcnpgkkfkoaaGreatDoor
open Go.RowKit Go.Lith
set_option maxRecDepth 100000
attribute [local irreducible] wpList wpQuiet wpMix wpMixH wpTree Code.wp
theorem edge_0 {x : P3} {t : T3} [I3 x] [IT t] {g1 g2 : Nat} (w : World) (hB1 : Blk w g1 [.int .i64 x.x,.int .i64 x.y,.int .i64 x.z] 28) (hB2 : Blk w g2 [.int .i64 t.a.x,.int .i64 t.a.y,.int .i64 t.a.z,.int .i64 t.b.x,.int .i64 t.b.y,.int .i64 t.b.z,.int .i64 t.c.x,.int .i64 t.c.y,.int .i64 t.c.z] 59) : Does Tryz.prog 98 [.int .i64 0,.pointer (some ⟨g1,0,none⟩),.pointer (some ⟨g2,0,none⟩)] w (fun v _=>v = Q (segq x t.a t.b)):=by
 refine ⟨en_98,?_⟩
 have m:=Mem.refl w
 go_enter Tryz.func98,Tryz.ntmps98
 refine c_seq fun K1 k1=>wp_region_lit (malloc m zero_34 rfl ?_)
 clear m; intro g3 u m
 refine n_nil (k1 _ _ ?_)
 refine c_seq fun K2 k2=>?_
 simp only [ev,zD,zE,zF,zG]
 refine mq_tail m 10 follows_mixed (by kernel_rfl) ?_
 simp only [zH,zI,zJ,zK]
 refine ql rfl (fun u m=>((hB1.ext m.ext).lies agg_28 cells_28 rfl rfl)) ?_
 simp only [ev,zD,zE,zF,zG,zH,zI,zJ,zK,Nat.zero_add,Nat.reduceAdd,Nat.reduceMul,Int.reduceToNat]
 refine q_val (r_move) (q_val (r_indexAddrA Tryz.underlying59 cells_28 rfl rfl (by decide) (by decide) rfl) ?_)
 simp only [ev,zD,zE,zF,zG]
 refine ql rfl (fun u m=>((hB2.ext m.ext).lies agg_28 cells_28 rfl rfl)) ?_
 simp only [ev,zD,zE,zF,zG,zH,zI,zJ,zK,Nat.zero_add,Nat.reduceAdd,Nat.reduceMul,Int.reduceToNat]
 refine q_val (r_move) (q_val (r_add (m:=0) (n:=1) (r:=1) rfl rfl (by decide)) (q_val (r_rem (m:=1) (n:=3) (r:=1) rfl rfl (by decide) (by decide)) (q_val (r_indexAddrA Tryz.underlying59 cells_28 rfl rfl (by decide) (by decide) rfl) ?_)))
 simp only [ev,zD,zE,zF,zG]
 refine ql rfl (fun u m=>((hB2.ext m.ext).lies agg_28 cells_28 rfl rfl)) ?_
 simp only [ev,zD,zE,zF,zG,zH,zI,zJ,zK,Nat.zero_add,Nat.reduceAdd,Nat.reduceMul,Int.reduceToNat]
 refine qcP rfl rfl (segment_c) (q_nil ?_)
 clear m; intro u m
 simp only [ev,zD,zE,zF,zG]
 refine mstoreA m 0 rfl rfl rfl cells_34 (leT rfl) rfl ?_
 clear m; intro u m; simp only [over,zH,zI,zJ,zK,zL,zM,zN,zO,zP,zF,zG,Nat.reduceAdd] at m
 refine n_nil (k2 _ _ ?_)
 refine wp_ret ?_
 try simp only [Exit.inBlock,Exit.then,if_true]
 refine fin1 rfl ⟨_,rfl,((m.b 0 rfl).full agg_34 cells_34)⟩ ?_
 try simp only [zD,zE]
 exact ⟨_,rfl,m.ext,rfl⟩
theorem edge_1 {x : P3} {t : T3} [I3 x] [IT t] {g1 g2 : Nat} (w : World) (hB1 : Blk w g1 [.int .i64 x.x,.int .i64 x.y,.int .i64 x.z] 28) (hB2 : Blk w g2 [.int .i64 t.a.x,.int .i64 t.a.y,.int .i64 t.a.z,.int .i64 t.b.x,.int .i64 t.b.y,.int .i64 t.b.z,.int .i64 t.c.x,.int .i64 t.c.y,.int .i64 t.c.z] 59) : Does Tryz.prog 98 [.int .i64 1,.pointer (some ⟨g1,0,none⟩),.pointer (some ⟨g2,0,none⟩)] w (fun v _=>v = Q (segq x t.b t.c)):=by
 refine ⟨en_98,?_⟩
 have m:=Mem.refl w
 go_enter Tryz.func98,Tryz.ntmps98
 refine c_seq fun K1 k1=>wp_region_lit (malloc m zero_34 rfl ?_)
 clear m; intro g3 u m
 refine n_nil (k1 _ _ ?_)
 refine c_seq fun K2 k2=>?_
 simp only [ev,zD,zE,zF,zG]
 refine mq_tail m 10 follows_mixed (by kernel_rfl) ?_
 simp only [zH,zI,zJ,zK]
 refine ql rfl (fun u m=>((hB1.ext m.ext).lies agg_28 cells_28 rfl rfl)) ?_
 simp only [ev,zD,zE,zF,zG,zH,zI,zJ,zK,Nat.zero_add,Nat.reduceAdd,Nat.reduceMul,Int.reduceToNat]
 refine q_val (r_move) (q_val (r_indexAddrA Tryz.underlying59 cells_28 rfl rfl (by decide) (by decide) rfl) ?_)
 simp only [ev,zD,zE,zF,zG]
 refine ql rfl (fun u m=>((hB2.ext m.ext).lies agg_28 cells_28 rfl rfl)) ?_
 simp only [ev,zD,zE,zF,zG,zH,zI,zJ,zK,Nat.zero_add,Nat.reduceAdd,Nat.reduceMul,Int.reduceToNat]
 refine q_val (r_move) (q_val (r_add (m:=1) (n:=1) (r:=2) rfl rfl (by decide)) (q_val (r_rem (m:=2) (n:=3) (r:=2) rfl rfl (by decide) (by decide)) (q_val (r_indexAddrA Tryz.underlying59 cells_28 rfl rfl (by decide) (by decide) rfl) ?_)))
 simp only [ev,zD,zE,zF,zG]
 refine ql rfl (fun u m=>((hB2.ext m.ext).lies agg_28 cells_28 rfl rfl)) ?_
 simp only [ev,zD,zE,zF,zG,zH,zI,zJ,zK,Nat.zero_add,Nat.reduceAdd,Nat.reduceMul,Int.reduceToNat]
 refine qcP rfl rfl (segment_c) (q_nil ?_)
 clear m; intro u m
 simp only [ev,zD,zE,zF,zG]
 refine mstoreA m 0 rfl rfl rfl cells_34 (leT rfl) rfl ?_
 clear m; intro u m; simp only [over,zH,zI,zJ,zK,zL,zM,zN,zO,zP,zF,zG,Nat.reduceAdd] at m
 refine n_nil (k2 _ _ ?_)
 refine wp_ret ?_
 try simp only [Exit.inBlock,Exit.then,if_true]
 refine fin1 rfl ⟨_,rfl,((m.b 0 rfl).full agg_34 cells_34)⟩ ?_
 try simp only [zD,zE]
 exact ⟨_,rfl,m.ext,rfl⟩
theorem edge_2 {x : P3} {t : T3} [I3 x] [IT t] {g1 g2 : Nat} (w : World) (hB1 : Blk w g1 [.int .i64 x.x,.int .i64 x.y,.int .i64 x.z] 28) (hB2 : Blk w g2 [.int .i64 t.a.x,.int .i64 t.a.y,.int .i64 t.a.z,.int .i64 t.b.x,.int .i64 t.b.y,.int .i64 t.b.z,.int .i64 t.c.x,.int .i64 t.c.y,.int .i64 t.c.z] 59) : Does Tryz.prog 98 [.int .i64 2,.pointer (some ⟨g1,0,none⟩),.pointer (some ⟨g2,0,none⟩)] w (fun v _=>v = Q (segq x t.c t.a)):=by
 refine ⟨en_98,?_⟩
 have m:=Mem.refl w
 go_enter Tryz.func98,Tryz.ntmps98
 refine c_seq fun K1 k1=>wp_region_lit (malloc m zero_34 rfl ?_)
 clear m; intro g3 u m
 refine n_nil (k1 _ _ ?_)
 refine c_seq fun K2 k2=>?_
 simp only [ev,zD,zE,zF,zG]
 refine mq_tail m 10 follows_mixed (by kernel_rfl) ?_
 simp only [zH,zI,zJ,zK]
 refine ql rfl (fun u m=>((hB1.ext m.ext).lies agg_28 cells_28 rfl rfl)) ?_
 simp only [ev,zD,zE,zF,zG,zH,zI,zJ,zK,Nat.zero_add,Nat.reduceAdd,Nat.reduceMul,Int.reduceToNat]
 refine q_val (r_move) (q_val (r_indexAddrA Tryz.underlying59 cells_28 rfl rfl (by decide) (by decide) rfl) ?_)
 simp only [ev,zD,zE,zF,zG]
 refine ql rfl (fun u m=>((hB2.ext m.ext).lies agg_28 cells_28 rfl rfl)) ?_
 simp only [ev,zD,zE,zF,zG,zH,zI,zJ,zK,Nat.zero_add,Nat.reduceAdd,Nat.reduceMul,Int.reduceToNat]
 refine q_val (r_move) (q_val (r_add (m:=2) (n:=1) (r:=3) rfl rfl (by decide)) (q_val (r_rem (m:=3) (n:=3) (r:=0) rfl rfl (by decide) (by decide)) (q_val (r_indexAddrA Tryz.underlying59 cells_28 rfl rfl (by decide) (by decide) rfl) ?_)))
 simp only [ev,zD,zE,zF,zG]
 refine ql rfl (fun u m=>((hB2.ext m.ext).lies agg_28 cells_28 rfl rfl)) ?_
 simp only [ev,zD,zE,zF,zG,zH,zI,zJ,zK,Nat.zero_add,Nat.reduceAdd,Nat.reduceMul,Int.reduceToNat]
 refine qcP rfl rfl (segment_c) (q_nil ?_)
 clear m; intro u m
 simp only [ev,zD,zE,zF,zG]
 refine mstoreA m 0 rfl rfl rfl cells_34 (leT rfl) rfl ?_
 clear m; intro u m; simp only [over,zH,zI,zJ,zK,zL,zM,zN,zO,zP,zF,zG,Nat.reduceAdd] at m
 refine n_nil (k2 _ _ ?_)
 refine wp_ret ?_
 try simp only [Exit.inBlock,Exit.then,if_true]
 refine fin1 rfl ⟨_,rfl,((m.b 0 rfl).full agg_34 cells_34)⟩ ?_
 try simp only [zD,zE]
 exact ⟨_,rfl,m.ext,rfl⟩
theorem least3_c {x : P3} {t : T3} [I3 x] [IT t] {g0 g1 g2 : Nat} (w : World) (hB0 : Blk w g0 [.int .i64 0,.int .i64 1,.int .i64 2] 3) (hB1 : Blk w g1 [.int .i64 x.x,.int .i64 x.y,.int .i64 x.z] 28) (hB2 : Blk w g2 [.int .i64 t.a.x,.int .i64 t.a.y,.int .i64 t.a.z,.int .i64 t.b.x,.int .i64 t.b.y,.int .i64 t.b.z,.int .i64 t.c.x,.int .i64 t.c.y,.int .i64 t.c.z] 59) : Does Tryz.prog 97 [.slice (some ⟨g0,0,none⟩) 3 3,.func (.func 98) #[] #[.pointer (some ⟨g1,0,none⟩),.pointer (some ⟨g2,0,none⟩)]] w (fun v _=>v = .tuple #[Q (edgeq x t),.bool true]):=by
 refine ⟨en_97,?_⟩
 have m:=Mem.refl w
 go_enter Tryz.func97,Tryz.ntmps97
 refine c_seq fun K1 k1=>wp_region_lit (malloc m zero_34 rfl ?_)
 clear m; intro g3 u m
 refine n_val (r_assign) (n_nil (k1 _ _ ?_))
 refine c_seq fun K2 k2=>wp_region_lit (n_val (r_build_32_) ?_)
 simp only [ev,zD,zE,zF,zG]
 refine mcallP m rfl rfl (whole0_c) ?_
 clear m; intro u m
 simp only [ev,zD,zE,zF,zG]
 refine malloc m zero_34 rfl ?_
 clear m; intro g4 u m
 simp only [ev,zD,zE,zF,zG]
 refine mstoreA m 0 rfl rfl rfl cells_34 (leT rfl) rfl ?_
 clear m; intro u m; simp only [over,zH,zI,zJ,zK,zL,zM,zN,zO,zP,zF,zG,Nat.reduceAdd] at m
 refine n_nil (k2 _ _ ?_)
 refine c_seq fun K3 k3=>c_seq fun K4 k4=>wp_region_lit (n_val (r_move) (n_val (r_lenS rfl Tryz.underlying22 rfl) (n_val (r_move) (n_nil (k4 _ _ ?_)))))
 refine wp_block (wp_loop_rounds 4 (rounds_step (c_seq fun K5 k5=>wp_region_lit (n_val (r_lssT (m:=0) (n:=3) rfl rfl (by decide)) ?_))))
 simp only [ev,zD,zE,zF,zG]
 refine n_nil (k5 _ _ ?_)
 refine c_seq fun K6 k6=>c_yes rfl (wp_skip (k6 _ _ ?_))
 refine c_seq fun K7 k7=>wp_block (c_seq fun K8 k8=>wp_region_lit (n_val (r_move) (n_val (r_indexAddrS Tryz.underlying22 cells_3 rfl rfl (by decide) (by decide) rfl) ?_)))
 simp only [ev,zD,zE,zF,zG]
 refine n_load rfl ((hB0.ext m.ext).lies1 agg_3 rfl) ?_
 simp only [ev,zD,zE,zF,zG]
 refine n_val (r_assign) (n_val (r_assign) (n_nil (k8 _ _ ?_)))
 refine c_seq fun K9 k9=>wp_region_lit (n_val (r_move) (n_val (r_move) ?_))
 simp only [ev,zD,zE,zF,zG]
 refine mcall m rfl rfl (edge_0 _ (hB1.ext m.ext) (hB2.ext m.ext)) ?_
 clear m; rintro v u m rfl
 simp only [ev,zD,zE,zF,zG]
 refine malloc m zero_34 rfl ?_
 clear m; intro g5 u m
 simp only [ev,zD,zE,zF,zG]
 refine mstoreA m 0 rfl rfl rfl cells_34 (leT rfl) rfl ?_
 clear m; intro u m; simp only [over,zH,zI,zJ,zK,zL,zM,zN,zO,zP,zF,zG,Nat.reduceAdd] at m
 refine n_nil (k9 _ _ ?_)
 refine c_seq fun K10 k10=>wp_region_lit (n_val (r_move) (n_val (r_eqlT (m:=0) (n:=0) rfl rfl (by decide)) (n_val (r_move) (n_skipF rfl ?_))))
 simp only [ev,zD,zE,zF,zG]
 refine n_skipF rfl (n_skipF rfl (n_skipF rfl (n_val (r_pickT rfl) ?_)))
 simp only [ev,zD,zE,zF,zG]
 refine n_nil (k10 _ _ ?_)
 refine c_yes rfl (wp_region_lit (n_load rfl ((m.b 0 rfl).full agg_34 cells_34) ?_))
 simp only [ev,zD,zE,zF,zG]
 refine mstoreA m 1 rfl rfl rfl cells_34 (leT rfl) rfl ?_
 clear m; intro u m; simp only [over,zH,zI,zJ,zK,zL,zM,zN,zO,zP,zF,zG,Nat.reduceAdd] at m
 refine n_nil (k7 _ _ ?_)
 refine wp_region_lit (n_val (r_add (m:=0) (n:=1) (r:=1) rfl rfl (by decide)) (n_val (r_move) (n_nil (then_rounds (c_seq fun K11 k11=>wp_region_lit (n_val (r_lssT (m:=1) (n:=3) rfl rfl (by decide)) (n_nil (k11 _ _ ?_))))))))
 refine c_seq fun K12 k12=>c_yes rfl (wp_skip (k12 _ _ ?_))
 refine c_seq fun K13 k13=>wp_block (c_seq fun K14 k14=>wp_region_lit (n_val (r_move) ?_))
 simp only [ev,zD,zE,zF,zG]
 refine n_val (r_indexAddrS Tryz.underlying22 cells_3 rfl rfl (by decide) (by decide) rfl) ?_
 simp only [ev,zD,zE,zF,zG]
 refine n_load rfl ((hB0.ext m.ext).lies1 agg_3 rfl) ?_
 simp only [ev,zD,zE,zF,zG]
 refine n_val (r_assign) (n_val (r_assign) (n_nil (k14 _ _ ?_)))
 refine c_seq fun K15 k15=>wp_region_lit (n_val (r_move) (n_val (r_move) ?_))
 simp only [ev,zD,zE,zF,zG]
 refine mcall m rfl rfl (edge_1 _ (hB1.ext m.ext) (hB2.ext m.ext)) ?_
 clear m; rintro v u m rfl
 simp only [ev,zD,zE,zF,zG]
 refine malloc m zero_34 rfl ?_
 clear m; intro g6 u m
 simp only [ev,zD,zE,zF,zG]
 refine mstoreA m 0 rfl rfl rfl cells_34 (leT rfl) rfl ?_
 clear m; intro u m; simp only [over,zH,zI,zJ,zK,zL,zM,zN,zO,zP,zF,zG,Nat.reduceAdd] at m
 refine n_nil (k15 _ _ ?_)
 refine c_seq fun K16 k16=>wp_region_lit (n_val (r_move) (n_val (r_eqlF (m:=1) (n:=0) rfl rfl (by decide)) (n_val (r_move) (n_want rfl ?_))))
 simp only [ev,zD,zE,zF,zG]
 refine n_load rfl ((m.b 0 rfl).full agg_34 cells_34) ?_
 simp only [ev,zD,zE,zF,zG]
 refine n_want rfl (n_load rfl ((m.b 2 rfl).full agg_34 cells_34) ?_)
 simp only [ev,zD,zE,zF,zG]
 refine n_want rfl (mcallP m rfl rfl (CmpFrac_c Bq.up Bq.up) ?_)
 clear m; intro u m
 refine n_want rfl (n_val (r_lss rfl rfl) (n_val (r_pickF rfl) (n_nil (k16 _ _ ?_))))
 simp only [ev,zD,zE,zF,zG]
 refine c_if rfl (fun hc2=>?_) (fun hc2=>?_)
 ·
  have h1:=qcmp_lt.1 hc2
  refine wp_region_lit (n_load rfl ((m.b 0 rfl).full agg_34 cells_34) ?_)
  simp only [ev,zD,zE,zF,zG]
  refine mstoreA m 2 rfl rfl rfl cells_34 (leT rfl) rfl ?_
  clear m; intro u m; simp only [over,zH,zI,zJ,zK,zL,zM,zN,zO,zP,zF,zG,Nat.reduceAdd] at m
  refine n_nil (k13 _ _ ?_)
  refine wp_region_lit (n_val (r_add (m:=1) (n:=1) (r:=2) rfl rfl (by decide)) (n_val (r_move) (n_nil (then_rounds (c_seq fun K17 k17=>wp_region_lit (n_val (r_lssT (m:=2) (n:=3) rfl rfl (by decide)) (n_nil (k17 _ _ ?_))))))))
  refine c_seq fun K18 k18=>c_yes rfl (wp_skip (k18 _ _ ?_))
  refine c_seq fun K19 k19=>wp_block (c_seq fun K20 k20=>wp_region_lit (n_val (r_move) ?_))
  simp only [ev,zD,zE,zF,zG]
  refine n_val (r_indexAddrS Tryz.underlying22 cells_3 rfl rfl (by decide) (by decide) rfl) ?_
  simp only [ev,zD,zE,zF,zG]
  refine n_load rfl ((hB0.ext m.ext).lies1 agg_3 rfl) ?_
  simp only [ev,zD,zE,zF,zG]
  refine n_val (r_assign) (n_val (r_assign) (n_nil (k20 _ _ ?_)))
  refine c_seq fun K21 k21=>wp_region_lit (n_val (r_move) (n_val (r_move) ?_))
  simp only [ev,zD,zE,zF,zG]
  refine mcall m rfl rfl (edge_2 _ (hB1.ext m.ext) (hB2.ext m.ext)) ?_
  clear m; rintro v u m rfl
  simp only [ev,zD,zE,zF,zG]
  refine malloc m zero_34 rfl ?_
  clear m; intro g7 u m
  simp only [ev,zD,zE,zF,zG]
  refine mstoreA m 0 rfl rfl rfl cells_34 (leT rfl) rfl ?_
  clear m; intro u m; simp only [over,zH,zI,zJ,zK,zL,zM,zN,zO,zP,zF,zG,Nat.reduceAdd] at m
  refine n_nil (k21 _ _ ?_)
  refine c_seq fun K22 k22=>wp_region_lit (n_val (r_move) (n_val (r_eqlF (m:=2) (n:=0) rfl rfl (by decide)) (n_val (r_move) (n_want rfl ?_))))
  simp only [ev,zD,zE,zF,zG]
  refine n_load rfl ((m.b 0 rfl).full agg_34 cells_34) ?_
  simp only [ev,zD,zE,zF,zG]
  refine n_want rfl (n_load rfl ((m.b 3 rfl).full agg_34 cells_34) ?_)
  simp only [ev,zD,zE,zF,zG]
  refine n_want rfl (mcallP m rfl rfl (CmpFrac_c Bq.up Bq.up) ?_)
  clear m; intro u m
  refine n_want rfl (n_val (r_lss rfl rfl) (n_val (r_pickF rfl) (n_nil (k22 _ _ ?_))))
  simp only [ev,zD,zE,zF,zG]
  refine c_if rfl (fun hc2=>?_) (fun hc2=>?_)
  ·
   have h2:=qcmp_lt.1 hc2
   refine wp_region_lit (n_load rfl ((m.b 0 rfl).full agg_34 cells_34) ?_)
   simp only [ev,zD,zE,zF,zG]
   refine mstoreA m 3 rfl rfl rfl cells_34 (leT rfl) rfl ?_
   clear m; intro u m; simp only [over,zH,zI,zJ,zK,zL,zM,zN,zO,zP,zF,zG,Nat.reduceAdd] at m
   refine n_nil (k19 _ _ ?_)
   refine wp_region_lit (n_val (r_add (m:=2) (n:=1) (r:=3) rfl rfl (by decide)) (n_val (r_move) (n_nil (then_rounds (c_seq fun K23 k23=>wp_region_lit (n_val (r_lssF (m:=3) (n:=3) rfl rfl (by decide)) (n_nil (k23 _ _ ?_))))))))
   refine c_seq fun K24 k24=>c_no rfl (wp_exit (k3 _ _ ?_))
   refine c_seq fun K25 k25=>wp_region_lit ?_
   simp only [ev,zD,zE,zF,zG]
   refine n_load rfl ((m.b 3 rfl).full agg_34 cells_34) ?_
   simp only [ev,zD,zE,zF,zG]
   refine n_val (r_move) (n_val (r_lenS rfl Tryz.underlying22 rfl) (n_val (r_gtrT (m:=3) (n:=0) rfl rfl (by decide)) ?_))
   simp only [ev,zD,zE,zF,zG]
   refine mstoreA m 4 rfl rfl rfl cells_34 (leT rfl) rfl ?_
   clear m; intro u m; simp only [over,zH,zI,zJ,zK,zL,zM,zN,zO,zP,zF,zG,Nat.reduceAdd] at m
   refine n_val (r_assign) (n_nil (k25 _ _ ?_))
   refine wp_ret ?_
   simp only [ev,zD,zE,zF,zG]
   try simp only [Exit.inBlock,Exit.then,if_true]
   refine fin2 rfl ⟨_,rfl,((m.b 4 rfl).full agg_34 cells_34)⟩ rfl ?_
   try simp only [zD,zE]
   exact ⟨_,rfl,m.ext,by simp only [edgeq,minq,h1,h2,if_true,if_false]; rfl⟩
  ·
   have h2:=mt qcmp_lt.2 hc2
   refine wp_skip (k19 _ _ ?_)
   refine wp_region_lit (n_val (r_add (m:=2) (n:=1) (r:=3) rfl rfl (by decide)) (n_val (r_move) (n_nil (then_rounds (c_seq fun K26 k26=>wp_region_lit (n_val (r_lssF (m:=3) (n:=3) rfl rfl (by decide)) (n_nil (k26 _ _ ?_))))))))
   refine c_seq fun K27 k27=>c_no rfl (wp_exit (k3 _ _ ?_))
   refine c_seq fun K28 k28=>wp_region_lit ?_
   simp only [ev,zD,zE,zF,zG]
   refine n_load rfl ((m.b 3 rfl).full agg_34 cells_34) ?_
   simp only [ev,zD,zE,zF,zG]
   refine n_val (r_move) (n_val (r_lenS rfl Tryz.underlying22 rfl) (n_val (r_gtrT (m:=3) (n:=0) rfl rfl (by decide)) ?_))
   simp only [ev,zD,zE,zF,zG]
   refine mstoreA m 4 rfl rfl rfl cells_34 (leT rfl) rfl ?_
   clear m; intro u m; simp only [over,zH,zI,zJ,zK,zL,zM,zN,zO,zP,zF,zG,Nat.reduceAdd] at m
   refine n_val (r_assign) (n_nil (k28 _ _ ?_))
   refine wp_ret ?_
   simp only [ev,zD,zE,zF,zG]
   try simp only [Exit.inBlock,Exit.then,if_true]
   refine fin2 rfl ⟨_,rfl,((m.b 4 rfl).full agg_34 cells_34)⟩ rfl ?_
   try simp only [zD,zE]
   exact ⟨_,rfl,m.ext,by simp only [edgeq,minq,h1,h2,if_true,if_false]; rfl⟩
 ·
  have h1:=mt qcmp_lt.2 hc2
  refine wp_skip (k13 _ _ ?_)
  refine wp_region_lit (n_val (r_add (m:=1) (n:=1) (r:=2) rfl rfl (by decide)) (n_val (r_move) (n_nil (then_rounds (c_seq fun K29 k29=>wp_region_lit (n_val (r_lssT (m:=2) (n:=3) rfl rfl (by decide)) (n_nil (k29 _ _ ?_))))))))
  refine c_seq fun K30 k30=>c_yes rfl (wp_skip (k30 _ _ ?_))
  refine c_seq fun K31 k31=>wp_block (c_seq fun K32 k32=>wp_region_lit (n_val (r_move) ?_))
  simp only [ev,zD,zE,zF,zG]
  refine n_val (r_indexAddrS Tryz.underlying22 cells_3 rfl rfl (by decide) (by decide) rfl) ?_
  simp only [ev,zD,zE,zF,zG]
  refine n_load rfl ((hB0.ext m.ext).lies1 agg_3 rfl) ?_
  simp only [ev,zD,zE,zF,zG]
  refine n_val (r_assign) (n_val (r_assign) (n_nil (k32 _ _ ?_)))
  refine c_seq fun K33 k33=>wp_region_lit (n_val (r_move) (n_val (r_move) ?_))
  simp only [ev,zD,zE,zF,zG]
  refine mcall m rfl rfl (edge_2 _ (hB1.ext m.ext) (hB2.ext m.ext)) ?_
  clear m; rintro v u m rfl
  simp only [ev,zD,zE,zF,zG]
  refine malloc m zero_34 rfl ?_
  clear m; intro g7 u m
  simp only [ev,zD,zE,zF,zG]
  refine mstoreA m 0 rfl rfl rfl cells_34 (leT rfl) rfl ?_
  clear m; intro u m; simp only [over,zH,zI,zJ,zK,zL,zM,zN,zO,zP,zF,zG,Nat.reduceAdd] at m
  refine n_nil (k33 _ _ ?_)
  refine c_seq fun K34 k34=>wp_region_lit (n_val (r_move) (n_val (r_eqlF (m:=2) (n:=0) rfl rfl (by decide)) (n_val (r_move) (n_want rfl ?_))))
  simp only [ev,zD,zE,zF,zG]
  refine n_load rfl ((m.b 0 rfl).full agg_34 cells_34) ?_
  simp only [ev,zD,zE,zF,zG]
  refine n_want rfl (n_load rfl ((m.b 3 rfl).full agg_34 cells_34) ?_)
  simp only [ev,zD,zE,zF,zG]
  refine n_want rfl (mcallP m rfl rfl (CmpFrac_c Bq.up Bq.up) ?_)
  clear m; intro u m
  refine n_want rfl (n_val (r_lss rfl rfl) (n_val (r_pickF rfl) (n_nil (k34 _ _ ?_))))
  simp only [ev,zD,zE,zF,zG]
  refine c_if rfl (fun hc2=>?_) (fun hc2=>?_)
  ·
   have h2:=qcmp_lt.1 hc2
   refine wp_region_lit (n_load rfl ((m.b 0 rfl).full agg_34 cells_34) ?_)
   simp only [ev,zD,zE,zF,zG]
   refine mstoreA m 3 rfl rfl rfl cells_34 (leT rfl) rfl ?_
   clear m; intro u m; simp only [over,zH,zI,zJ,zK,zL,zM,zN,zO,zP,zF,zG,Nat.reduceAdd] at m
   refine n_nil (k31 _ _ ?_)
   refine wp_region_lit (n_val (r_add (m:=2) (n:=1) (r:=3) rfl rfl (by decide)) (n_val (r_move) (n_nil (then_rounds (c_seq fun K35 k35=>wp_region_lit (n_val (r_lssF (m:=3) (n:=3) rfl rfl (by decide)) (n_nil (k35 _ _ ?_))))))))
   refine c_seq fun K36 k36=>c_no rfl (wp_exit (k3 _ _ ?_))
   refine c_seq fun K37 k37=>wp_region_lit ?_
   simp only [ev,zD,zE,zF,zG]
   refine n_load rfl ((m.b 3 rfl).full agg_34 cells_34) ?_
   simp only [ev,zD,zE,zF,zG]
   refine n_val (r_move) (n_val (r_lenS rfl Tryz.underlying22 rfl) (n_val (r_gtrT (m:=3) (n:=0) rfl rfl (by decide)) ?_))
   simp only [ev,zD,zE,zF,zG]
   refine mstoreA m 4 rfl rfl rfl cells_34 (leT rfl) rfl ?_
   clear m; intro u m; simp only [over,zH,zI,zJ,zK,zL,zM,zN,zO,zP,zF,zG,Nat.reduceAdd] at m
   refine n_val (r_assign) (n_nil (k37 _ _ ?_))
   refine wp_ret ?_
   simp only [ev,zD,zE,zF,zG]
   try simp only [Exit.inBlock,Exit.then,if_true]
   refine fin2 rfl ⟨_,rfl,((m.b 4 rfl).full agg_34 cells_34)⟩ rfl ?_
   try simp only [zD,zE]
   exact ⟨_,rfl,m.ext,by simp only [edgeq,minq,h1,h2,if_true,if_false]; rfl⟩
  ·
   have h2:=mt qcmp_lt.2 hc2
   refine wp_skip (k31 _ _ ?_)
   refine wp_region_lit (n_val (r_add (m:=2) (n:=1) (r:=3) rfl rfl (by decide)) (n_val (r_move) (n_nil (then_rounds (c_seq fun K38 k38=>wp_region_lit (n_val (r_lssF (m:=3) (n:=3) rfl rfl (by decide)) (n_nil (k38 _ _ ?_))))))))
   refine c_seq fun K39 k39=>c_no rfl (wp_exit (k3 _ _ ?_))
   refine c_seq fun K40 k40=>wp_region_lit ?_
   simp only [ev,zD,zE,zF,zG]
   refine n_load rfl ((m.b 3 rfl).full agg_34 cells_34) ?_
   simp only [ev,zD,zE,zF,zG]
   refine n_val (r_move) (n_val (r_lenS rfl Tryz.underlying22 rfl) (n_val (r_gtrT (m:=3) (n:=0) rfl rfl (by decide)) ?_))
   simp only [ev,zD,zE,zF,zG]
   refine mstoreA m 4 rfl rfl rfl cells_34 (leT rfl) rfl ?_
   clear m; intro u m; simp only [over,zH,zI,zJ,zK,zL,zM,zN,zO,zP,zF,zG,Nat.reduceAdd] at m
   refine n_val (r_assign) (n_nil (k40 _ _ ?_))
   refine wp_ret ?_
   simp only [ev,zD,zE,zF,zG]
   try simp only [Exit.inBlock,Exit.then,if_true]
   refine fin2 rfl ⟨_,rfl,((m.b 4 rfl).full agg_34 cells_34)⟩ rfl ?_
   try simp only [zD,zE]
   exact ⟨_,rfl,m.ext,by simp only [edgeq,minq,h1,h2,if_true,if_false]; rfl⟩
theorem triangle_c {x : P3} {t : T3} [I3 x] [IT t] : Pure Tryz.prog 44 [pt x,tr t] (Q (triq x t)):=by
 intro w
 refine ⟨en_44,?_⟩
 have m:=Mem.refl w
 go_enter Tryz.func44,Tryz.ntmps44
 refine c_seq fun K1 k1=>wp_region_lit (mboxA m rfl ?_)
 clear m; intro g1 u m
 simp only [ev,zD,zE,zF,zG]
 refine mboxA m rfl ?_
 clear m; intro g2 u m
 simp only [ev,zD,zE,zF,zG]
 refine malloc m zero_34 rfl ?_
 clear m; intro g3 u m
 refine n_nil (k1 _ _ ?_)
 refine c_seq fun K2 k2=>wp_region_lit ?_
 simp only [ev,zD,zE,zF,zG]
 refine n_load rfl ((m.b 1 rfl).full agg_59 cells_59) ?_
 simp only [ev,zD,zE,zF,zG]
 refine mcallP m rfl rfl (Normal_c) ?_
 clear m; intro u m
 simp only [ev,zD,zE,zF,zG]
 refine malloc m zero_76 rfl ?_
 clear m; intro g4 u m
 simp only [ev,zD,zE,zF,zG]
 refine mstoreA m 0 rfl rfl rfl cells_76 (leT rfl) rfl ?_
 clear m; intro u m; simp only [over,zH,zI,zJ,zK,zL,zM,zN,zO,zP,zF,zG,Nat.reduceAdd] at m
 refine n_nil (k2 _ _ ?_)
 refine c_seq fun K3 k3=>wp_region_lit (n_load rfl ((m.b 2 rfl).full agg_59 cells_59) ?_)
 simp only [ev,zD,zE,zF,zG]
 refine mcallP m rfl rfl (Flat_c) ?_
 clear m; intro u m
 refine n_val (r_not rfl) (n_val (r_assign) (n_nil ?_))
 simp only [ev,zD,zE,zF,zG]
 obtain ⟨b0,hb0⟩ : ∃ b : Bool,b = !(decide (isign t.normal.x = 0 ∧ isign t.normal.y = 0 ∧ isign t.normal.z = 0)):=⟨_,rfl⟩
 rw [← hb0]
 refine k3 _ _ ?_
 refine c_seq fun K4 k4=>c_seq fun K5 k5=>wp_region_lit (n_load rfl ((m.b 2 rfl).full agg_59 cells_59) ?_)
 simp only [ev,zD,zE,zF,zG]
 refine n_val (r_move) (n_nil (k5 _ _ ?_))
 refine wp_block (wp_loop_rounds 4 (rounds_step (c_seq fun K6 k6=>wp_region_lit (n_val (r_lssT (m:=0) (n:=3) rfl rfl (by decide)) (n_nil (k6 _ _ ?_))))))
 refine c_seq fun K7 k7=>c_yes rfl (wp_skip (k7 _ _ ?_))
 refine c_seq fun K8 k8=>wp_block (c_seq fun K9 k9=>wp_region_lit (n_val (r_move) (n_val (r_index_59_0 rfl rfl) ?_)))
 simp only [ev,zD,zE,zF,zG]
 refine malloc m zero_28 rfl ?_
 clear m; intro g5 u m
 refine n_val (r_assign) ?_
 simp only [ev,zD,zE,zF,zG]
 refine mstoreA m 0 rfl rfl rfl cells_28 (leT rfl) rfl ?_
 clear m; intro u m; simp only [over,zH,zI,zJ,zK,zL,zM,zN,zO,zP,zF,zG,Nat.reduceAdd] at m
 refine n_nil (k9 _ _ ?_)
 rcases b0 with _ | _
 ·
  have hno : ¬ (¬ t.flat ∧ ins x t):=no0 hb0
  refine mq m follows_mixed (by kernel_rfl) (q_val (r_move) (q_val (r_move) (q_skipT rfl (q_skipT rfl ?_))))
  simp only [ev,zD,zE,zF,zG]
  refine q_skipT rfl (q_skipT rfl (q_skipT rfl (q_skipT rfl ?_)))
  simp only [ev,zD,zE,zF,zG]
  refine q_skipT rfl (q_skipT rfl (q_skipT rfl (q_skipT rfl ?_)))
  simp only [ev,zD,zE,zF,zG]
  refine q_skipT rfl (q_skipT rfl (q_skipT rfl (q_skipT rfl ?_)))
  simp only [ev,zD,zE,zF,zG]
  refine q_skipT rfl (q_val (r_pickF rfl) (q_val (r_assign) (q_nil ?_)))
  clear m; intro u m
  refine k8 _ _ ?_
  refine wp_region_lit (n_val (r_add (m:=0) (n:=1) (r:=1) rfl rfl (by decide)) ?_)
  simp only [ev,zD,zE,zF,zG]
  refine n_val (r_move) (n_nil (then_rounds (c_seq fun K10 k10=>wp_region_lit (n_val (r_lssT (m:=1) (n:=3) rfl rfl (by decide)) (n_nil (k10 _ _ ?_))))))
  refine c_seq fun K11 k11=>c_yes rfl (wp_skip (k11 _ _ ?_))
  refine c_seq fun K12 k12=>wp_block (c_seq fun K13 k13=>wp_region_lit (n_val (r_move) (n_val (r_index_59_1 rfl rfl) ?_)))
  simp only [ev,zD,zE,zF,zG]
  refine malloc m zero_28 rfl ?_
  clear m; intro g6 u m
  refine n_val (r_assign) ?_
  simp only [ev,zD,zE,zF,zG]
  refine mstoreA m 0 rfl rfl rfl cells_28 (leT rfl) rfl ?_
  clear m; intro u m; simp only [over,zH,zI,zJ,zK,zL,zM,zN,zO,zP,zF,zG,Nat.reduceAdd] at m
  refine n_nil (k13 _ _ ?_)
  refine mq m follows_mixed (by kernel_rfl) (q_val (r_move) (q_val (r_move) (q_skipT rfl (q_skipT rfl ?_))))
  simp only [ev,zD,zE,zF,zG]
  refine q_skipT rfl (q_skipT rfl (q_skipT rfl (q_skipT rfl ?_)))
  simp only [ev,zD,zE,zF,zG]
  refine q_skipT rfl (q_skipT rfl (q_skipT rfl (q_skipT rfl ?_)))
  simp only [ev,zD,zE,zF,zG]
  refine q_skipT rfl (q_skipT rfl (q_skipT rfl (q_skipT rfl ?_)))
  simp only [ev,zD,zE,zF,zG]
  refine q_skipT rfl (q_val (r_pickF rfl) (q_val (r_assign) (q_nil ?_)))
  clear m; intro u m
  refine k12 _ _ ?_
  refine wp_region_lit (n_val (r_add (m:=1) (n:=1) (r:=2) rfl rfl (by decide)) ?_)
  simp only [ev,zD,zE,zF,zG]
  refine n_val (r_move) (n_nil (then_rounds (c_seq fun K14 k14=>wp_region_lit (n_val (r_lssT (m:=2) (n:=3) rfl rfl (by decide)) (n_nil (k14 _ _ ?_))))))
  refine c_seq fun K15 k15=>c_yes rfl (wp_skip (k15 _ _ ?_))
  refine c_seq fun K16 k16=>wp_block (c_seq fun K17 k17=>wp_region_lit (n_val (r_move) (n_val (r_index_59_2 rfl rfl) ?_)))
  simp only [ev,zD,zE,zF,zG]
  refine malloc m zero_28 rfl ?_
  clear m; intro g7 u m
  refine n_val (r_assign) ?_
  simp only [ev,zD,zE,zF,zG]
  refine mstoreA m 0 rfl rfl rfl cells_28 (leT rfl) rfl ?_
  clear m; intro u m; simp only [over,zH,zI,zJ,zK,zL,zM,zN,zO,zP,zF,zG,Nat.reduceAdd] at m
  refine n_nil (k17 _ _ ?_)
  refine mq m follows_mixed (by kernel_rfl) (q_val (r_move) (q_val (r_move) (q_skipT rfl (q_skipT rfl ?_))))
  simp only [ev,zD,zE,zF,zG]
  refine q_skipT rfl (q_skipT rfl (q_skipT rfl (q_skipT rfl ?_)))
  simp only [ev,zD,zE,zF,zG]
  refine q_skipT rfl (q_skipT rfl (q_skipT rfl (q_skipT rfl ?_)))
  simp only [ev,zD,zE,zF,zG]
  refine q_skipT rfl (q_skipT rfl (q_skipT rfl (q_skipT rfl ?_)))
  simp only [ev,zD,zE,zF,zG]
  refine q_skipT rfl (q_val (r_pickF rfl) (q_val (r_assign) (q_nil ?_)))
  clear m; intro u m
  refine k16 _ _ ?_
  refine wp_region_lit (n_val (r_add (m:=2) (n:=1) (r:=3) rfl rfl (by decide)) ?_)
  simp only [ev,zD,zE,zF,zG]
  refine n_val (r_move) (n_nil (then_rounds (c_seq fun K18 k18=>wp_region_lit (n_val (r_lssF (m:=3) (n:=3) rfl rfl (by decide)) (n_nil (k18 _ _ ?_))))))
  refine c_seq fun K19 k19=>c_no rfl (wp_exit (k4 _ _ ?_))
  refine c_seq fun K20 k20=>c_seq fun K21 k21=>wp_region_lit (n_val (r_move) (n_nil (k21 _ _ ?_)))
  refine c_no rfl (wp_skip (k20 _ _ ?_))
  refine c_seq fun K22 k22=>wp_region_lit ?_
  simp only [ev,zD,zE,zF,zG]
  refine n_bs_22_3 rfl rfl rfl ?_
  intro u g8 e hg hB; replace m:=m.newB e hg hB; clear e hg hB
  simp only [ev,zD,zE,zF,zG]
  refine n_val (r_makeFunc) ?_
  simp only [ev,zD,zE,zF,zG,List.map_toArray,List.map_cons,List.map_nil]
  refine mcall m rfl rfl (least3_c _ (m.b 0 rfl) (m.b 7 rfl) (m.b 6 rfl)) ?_
  clear m; rintro v u m rfl
  refine n_val (r_move) (n_val (r_extract rfl rfl) (n_val (r_extract rfl rfl) ?_))
  simp only [ev,zD,zE,zF,zG]
  refine malloc m zero_34 rfl ?_
  clear m; intro g9 u m
  simp only [ev,zD,zE,zF,zG]
  refine mstoreA m 0 rfl rfl rfl cells_34 (leT rfl) rfl ?_
  clear m; intro u m; simp only [over,zH,zI,zJ,zK,zL,zM,zN,zO,zP,zF,zG,Nat.reduceAdd] at m
  refine n_val (r_assign) (n_nil (k22 _ _ ?_))
  refine c_seq fun K23 k23=>wp_region_lit ?_
  simp only [ev,zD,zE,zF,zG]
  refine n_load rfl ((m.b 0 rfl).full agg_34 cells_34) ?_
  simp only [ev,zD,zE,zF,zG]
  refine mstoreA m 6 rfl rfl rfl cells_34 (leT rfl) rfl ?_
  clear m; intro u m; simp only [over,zH,zI,zJ,zK,zL,zM,zN,zO,zP,zF,zG,Nat.reduceAdd] at m
  refine n_nil (k23 _ _ ?_)
  refine wp_ret ?_
  try simp only [Exit.inBlock,Exit.then,if_true]
  refine fin1 rfl ⟨_,rfl,((m.b 6 rfl).full agg_34 cells_34)⟩ ?_
  try simp only [zD,zE]
  exact ⟨_,rfl,m.ext,by first | exact triq_face ⟨hy0,hy1,hy2,hy3⟩ ▸ rfl | exact triq_edge hno ▸ rfl⟩
 ·
  have hy0:=yes0 hb0
  refine mq m follows_mixed (by kernel_rfl) (q_val (r_move) (q_val (r_move) (q_want rfl ?_)))
  simp only [ev,zD,zE,zF,zG]
  refine ql rfl (fun u m=>((m.b 1 rfl).full agg_76 cells_76)) ?_
  simp only [ev,zD,zE,zF,zG]
  refine q_want rfl (ql rfl (fun u m=>((m.b 0 rfl).full agg_28 cells_28)) ?_)
  simp only [ev,zD,zE,zF,zG]
  refine q_want rfl (q_val (r_move) (q_want rfl (q_val (r_add (m:=0) (n:=1) (r:=1) rfl rfl (by decide)) (q_want rfl (q_val (r_rem (m:=1) (n:=3) (r:=1) rfl rfl (by decide) (by decide)) (q_want rfl (q_val (r_indexAddrA Tryz.underlying59 cells_28 rfl rfl (by decide) (by decide) rfl) ?_)))))))
  simp only [ev,zD,zE,zF,zG]
  refine q_want rfl (ql rfl (fun u m=>((m.b 3 rfl).lies agg_28 cells_28 rfl rfl)) ?_)
  simp only [ev,zD,zE,zF,zG,zH,zI,zJ,zK,Nat.zero_add,Nat.reduceAdd,Nat.reduceMul,Int.reduceToNat]
  refine q_want rfl (qcP rfl rfl (from_c) (q_want rfl ?_))
  simp only [ev,zD,zE,zF,zG]
  refine ql rfl (fun u m=>((m.b 0 rfl).full agg_28 cells_28)) ?_
  simp only [ev,zD,zE,zF,zG]
  refine q_want rfl (ql rfl (fun u m=>((m.b 4 rfl).full agg_28 cells_28)) ?_)
  simp only [ev,zD,zE,zF,zG]
  refine q_want rfl (qcP rfl rfl (from_c) (q_want rfl ?_))
  simp only [ev,zD,zE,zF,zG]
  refine qcP rfl rfl (mCross_c Bv.of Bv.of) (q_want rfl ?_)
  simp only [ev,zD,zE,zF,zG]
  refine qcP rfl rfl (mDot_c Bv.of Bv.of) (q_want rfl ?_)
  simp only [ev,zD,zE,zF,zG]
  refine qcP rfl rfl (Sign_c Bw.up) (q_want rfl (q_val (r_geq rfl rfl) (q_val (r_pickT rfl) (q_val (r_assign) ?_))))
  simp only [ev,zD,zE,zF,zG]
  refine q_nil ?_
  clear m; intro u m
  obtain ⟨b1,hb1⟩ : ∃ b : Bool,b = decide (0 ≤ isign (t.normal.dot ((t.b.sub t.a).cross (x.sub t.a)))):=⟨_,rfl⟩
  rw [← hb1]
  refine k8 _ _ ?_
  refine wp_region_lit (n_val (r_add (m:=0) (n:=1) (r:=1) rfl rfl (by decide)) (n_val (r_move) (n_nil (then_rounds (c_seq fun K24 k24=>wp_region_lit (n_val (r_lssT (m:=1) (n:=3) rfl rfl (by decide)) (n_nil (k24 _ _ ?_))))))))
  refine c_seq fun K25 k25=>c_yes rfl (wp_skip (k25 _ _ ?_))
  refine c_seq fun K26 k26=>wp_block (c_seq fun K27 k27=>wp_region_lit (n_val (r_move) ?_))
  simp only [ev,zD,zE,zF,zG]
  refine n_val (r_index_59_1 rfl rfl) ?_
  simp only [ev,zD,zE,zF,zG]
  refine malloc m zero_28 rfl ?_
  clear m; intro g6 u m
  refine n_val (r_assign) ?_
  simp only [ev,zD,zE,zF,zG]
  refine mstoreA m 0 rfl rfl rfl cells_28 (leT rfl) rfl ?_
  clear m; intro u m; simp only [over,zH,zI,zJ,zK,zL,zM,zN,zO,zP,zF,zG,Nat.reduceAdd] at m
  refine n_nil (k27 _ _ ?_)
  rcases b1 with _ | _
  ·
   have hno : ¬ (¬ t.flat ∧ ins x t):=fun h=>no_side hb1 h.2.1
   refine mq m follows_mixed (by kernel_rfl) (q_val (r_move) (q_val (r_move) (q_skipT rfl (q_skipT rfl ?_))))
   simp only [ev,zD,zE,zF,zG]
   refine q_skipT rfl (q_skipT rfl (q_skipT rfl (q_skipT rfl ?_)))
   simp only [ev,zD,zE,zF,zG]
   refine q_skipT rfl (q_skipT rfl (q_skipT rfl (q_skipT rfl ?_)))
   simp only [ev,zD,zE,zF,zG]
   refine q_skipT rfl (q_skipT rfl (q_skipT rfl (q_skipT rfl ?_)))
   simp only [ev,zD,zE,zF,zG]
   refine q_skipT rfl (q_val (r_pickF rfl) (q_val (r_assign) (q_nil ?_)))
   clear m; intro u m
   refine k26 _ _ ?_
   refine wp_region_lit (n_val (r_add (m:=1) (n:=1) (r:=2) rfl rfl (by decide)) ?_)
   simp only [ev,zD,zE,zF,zG]
   refine n_val (r_move) (n_nil (then_rounds (c_seq fun K28 k28=>wp_region_lit (n_val (r_lssT (m:=2) (n:=3) rfl rfl (by decide)) (n_nil (k28 _ _ ?_))))))
   refine c_seq fun K29 k29=>c_yes rfl (wp_skip (k29 _ _ ?_))
   refine c_seq fun K30 k30=>wp_block (c_seq fun K31 k31=>wp_region_lit (n_val (r_move) (n_val (r_index_59_2 rfl rfl) ?_)))
   simp only [ev,zD,zE,zF,zG]
   refine malloc m zero_28 rfl ?_
   clear m; intro g7 u m
   refine n_val (r_assign) ?_
   simp only [ev,zD,zE,zF,zG]
   refine mstoreA m 0 rfl rfl rfl cells_28 (leT rfl) rfl ?_
   clear m; intro u m; simp only [over,zH,zI,zJ,zK,zL,zM,zN,zO,zP,zF,zG,Nat.reduceAdd] at m
   refine n_nil (k31 _ _ ?_)
   refine mq m follows_mixed (by kernel_rfl) (q_val (r_move) (q_val (r_move) (q_skipT rfl (q_skipT rfl ?_))))
   simp only [ev,zD,zE,zF,zG]
   refine q_skipT rfl (q_skipT rfl (q_skipT rfl (q_skipT rfl ?_)))
   simp only [ev,zD,zE,zF,zG]
   refine q_skipT rfl (q_skipT rfl (q_skipT rfl (q_skipT rfl ?_)))
   simp only [ev,zD,zE,zF,zG]
   refine q_skipT rfl (q_skipT rfl (q_skipT rfl (q_skipT rfl ?_)))
   simp only [ev,zD,zE,zF,zG]
   refine q_skipT rfl (q_val (r_pickF rfl) (q_val (r_assign) (q_nil ?_)))
   clear m; intro u m
   refine k30 _ _ ?_
   refine wp_region_lit (n_val (r_add (m:=2) (n:=1) (r:=3) rfl rfl (by decide)) ?_)
   simp only [ev,zD,zE,zF,zG]
   refine n_val (r_move) (n_nil (then_rounds (c_seq fun K32 k32=>wp_region_lit (n_val (r_lssF (m:=3) (n:=3) rfl rfl (by decide)) (n_nil (k32 _ _ ?_))))))
   refine c_seq fun K33 k33=>c_no rfl (wp_exit (k4 _ _ ?_))
   refine c_seq fun K34 k34=>c_seq fun K35 k35=>wp_region_lit (n_val (r_move) (n_nil (k35 _ _ ?_)))
   refine c_no rfl (wp_skip (k34 _ _ ?_))
   refine c_seq fun K36 k36=>wp_region_lit ?_
   simp only [ev,zD,zE,zF,zG]
   refine n_bs_22_3 rfl rfl rfl ?_
   intro u g8 e hg hB; replace m:=m.newB e hg hB; clear e hg hB
   simp only [ev,zD,zE,zF,zG]
   refine n_val (r_makeFunc) ?_
   simp only [ev,zD,zE,zF,zG,List.map_toArray,List.map_cons,List.map_nil]
   refine mcall m rfl rfl (least3_c _ (m.b 0 rfl) (m.b 7 rfl) (m.b 6 rfl)) ?_
   clear m; rintro v u m rfl
   refine n_val (r_move) (n_val (r_extract rfl rfl) (n_val (r_extract rfl rfl) ?_))
   simp only [ev,zD,zE,zF,zG]
   refine malloc m zero_34 rfl ?_
   clear m; intro g9 u m
   simp only [ev,zD,zE,zF,zG]
   refine mstoreA m 0 rfl rfl rfl cells_34 (leT rfl) rfl ?_
   clear m; intro u m; simp only [over,zH,zI,zJ,zK,zL,zM,zN,zO,zP,zF,zG,Nat.reduceAdd] at m
   refine n_val (r_assign) (n_nil (k36 _ _ ?_))
   refine c_seq fun K37 k37=>wp_region_lit ?_
   simp only [ev,zD,zE,zF,zG]
   refine n_load rfl ((m.b 0 rfl).full agg_34 cells_34) ?_
   simp only [ev,zD,zE,zF,zG]
   refine mstoreA m 6 rfl rfl rfl cells_34 (leT rfl) rfl ?_
   clear m; intro u m; simp only [over,zH,zI,zJ,zK,zL,zM,zN,zO,zP,zF,zG,Nat.reduceAdd] at m
   refine n_nil (k37 _ _ ?_)
   refine wp_ret ?_
   try simp only [Exit.inBlock,Exit.then,if_true]
   refine fin1 rfl ⟨_,rfl,((m.b 6 rfl).full agg_34 cells_34)⟩ ?_
   try simp only [zD,zE]
   exact ⟨_,rfl,m.ext,by first | exact triq_face ⟨hy0,hy1,hy2,hy3⟩ ▸ rfl | exact triq_edge hno ▸ rfl⟩
  ·
   have hy1:=yes_side hb1
   refine mq m follows_mixed (by kernel_rfl) (q_val (r_move) (q_val (r_move) (q_want rfl ?_)))
   simp only [ev,zD,zE,zF,zG]
   refine ql rfl (fun u m=>((m.b 2 rfl).full agg_76 cells_76)) ?_
   simp only [ev,zD,zE,zF,zG]
   refine q_want rfl (ql rfl (fun u m=>((m.b 0 rfl).full agg_28 cells_28)) ?_)
   simp only [ev,zD,zE,zF,zG]
   refine q_want rfl (q_val (r_move) (q_want rfl (q_val (r_add (m:=1) (n:=1) (r:=2) rfl rfl (by decide)) (q_want rfl (q_val (r_rem (m:=2) (n:=3) (r:=2) rfl rfl (by decide) (by decide)) (q_want rfl (q_val (r_indexAddrA Tryz.underlying59 cells_28 rfl rfl (by decide) (by decide) rfl) ?_)))))))
   simp only [ev,zD,zE,zF,zG]
   refine q_want rfl (ql rfl (fun u m=>((m.b 4 rfl).lies agg_28 cells_28 rfl rfl)) ?_)
   simp only [ev,zD,zE,zF,zG,zH,zI,zJ,zK,Nat.zero_add,Nat.reduceAdd,Nat.reduceMul,Int.reduceToNat]
   refine q_want rfl (qcP rfl rfl (from_c) (q_want rfl ?_))
   simp only [ev,zD,zE,zF,zG]
   refine ql rfl (fun u m=>((m.b 0 rfl).full agg_28 cells_28)) ?_
   simp only [ev,zD,zE,zF,zG]
   refine q_want rfl (ql rfl (fun u m=>((m.b 5 rfl).full agg_28 cells_28)) ?_)
   simp only [ev,zD,zE,zF,zG]
   refine q_want rfl (qcP rfl rfl (from_c) (q_want rfl ?_))
   simp only [ev,zD,zE,zF,zG]
   refine qcP rfl rfl (mCross_c Bv.of Bv.of) (q_want rfl ?_)
   simp only [ev,zD,zE,zF,zG]
   refine qcP rfl rfl (mDot_c Bv.of Bv.of) (q_want rfl ?_)
   simp only [ev,zD,zE,zF,zG]
   refine qcP rfl rfl (Sign_c Bw.up) (q_want rfl (q_val (r_geq rfl rfl) (q_val (r_pickT rfl) (q_val (r_assign) ?_))))
   simp only [ev,zD,zE,zF,zG]
   refine q_nil ?_
   clear m; intro u m
   obtain ⟨b2,hb2⟩ : ∃ b : Bool,b = decide (0 ≤ isign (t.normal.dot ((t.c.sub t.b).cross (x.sub t.b)))):=⟨_,rfl⟩
   rw [← hb2]
   refine k26 _ _ ?_
   refine wp_region_lit (n_val (r_add (m:=1) (n:=1) (r:=2) rfl rfl (by decide)) (n_val (r_move) (n_nil (then_rounds (c_seq fun K38 k38=>wp_region_lit (n_val (r_lssT (m:=2) (n:=3) rfl rfl (by decide)) (n_nil (k38 _ _ ?_))))))))
   refine c_seq fun K39 k39=>c_yes rfl (wp_skip (k39 _ _ ?_))
   refine c_seq fun K40 k40=>wp_block (c_seq fun K41 k41=>wp_region_lit (n_val (r_move) ?_))
   simp only [ev,zD,zE,zF,zG]
   refine n_val (r_index_59_2 rfl rfl) ?_
   simp only [ev,zD,zE,zF,zG]
   refine malloc m zero_28 rfl ?_
   clear m; intro g7 u m
   refine n_val (r_assign) ?_
   simp only [ev,zD,zE,zF,zG]
   refine mstoreA m 0 rfl rfl rfl cells_28 (leT rfl) rfl ?_
   clear m; intro u m; simp only [over,zH,zI,zJ,zK,zL,zM,zN,zO,zP,zF,zG,Nat.reduceAdd] at m
   refine n_nil (k41 _ _ ?_)
   rcases b2 with _ | _
   ·
    have hno : ¬ (¬ t.flat ∧ ins x t):=fun h=>no_side hb2 h.2.2.1
    refine mq m follows_mixed (by kernel_rfl) (q_val (r_move) (q_val (r_move) (q_skipT rfl (q_skipT rfl ?_))))
    simp only [ev,zD,zE,zF,zG]
    refine q_skipT rfl (q_skipT rfl (q_skipT rfl (q_skipT rfl ?_)))
    simp only [ev,zD,zE,zF,zG]
    refine q_skipT rfl (q_skipT rfl (q_skipT rfl (q_skipT rfl ?_)))
    simp only [ev,zD,zE,zF,zG]
    refine q_skipT rfl (q_skipT rfl (q_skipT rfl (q_skipT rfl ?_)))
    simp only [ev,zD,zE,zF,zG]
    refine q_skipT rfl (q_val (r_pickF rfl) (q_val (r_assign) (q_nil ?_)))
    clear m; intro u m
    refine k40 _ _ ?_
    refine wp_region_lit (n_val (r_add (m:=2) (n:=1) (r:=3) rfl rfl (by decide)) ?_)
    simp only [ev,zD,zE,zF,zG]
    refine n_val (r_move) (n_nil (then_rounds (c_seq fun K42 k42=>wp_region_lit (n_val (r_lssF (m:=3) (n:=3) rfl rfl (by decide)) (n_nil (k42 _ _ ?_))))))
    refine c_seq fun K43 k43=>c_no rfl (wp_exit (k4 _ _ ?_))
    refine c_seq fun K44 k44=>c_seq fun K45 k45=>wp_region_lit (n_val (r_move) (n_nil (k45 _ _ ?_)))
    refine c_no rfl (wp_skip (k44 _ _ ?_))
    refine c_seq fun K46 k46=>wp_region_lit ?_
    simp only [ev,zD,zE,zF,zG]
    refine n_bs_22_3 rfl rfl rfl ?_
    intro u g8 e hg hB; replace m:=m.newB e hg hB; clear e hg hB
    simp only [ev,zD,zE,zF,zG]
    refine n_val (r_makeFunc) ?_
    simp only [ev,zD,zE,zF,zG,List.map_toArray,List.map_cons,List.map_nil]
    refine mcall m rfl rfl (least3_c _ (m.b 0 rfl) (m.b 7 rfl) (m.b 6 rfl)) ?_
    clear m; rintro v u m rfl
    refine n_val (r_move) (n_val (r_extract rfl rfl) (n_val (r_extract rfl rfl) ?_))
    simp only [ev,zD,zE,zF,zG]
    refine malloc m zero_34 rfl ?_
    clear m; intro g9 u m
    simp only [ev,zD,zE,zF,zG]
    refine mstoreA m 0 rfl rfl rfl cells_34 (leT rfl) rfl ?_
    clear m; intro u m; simp only [over,zH,zI,zJ,zK,zL,zM,zN,zO,zP,zF,zG,Nat.reduceAdd] at m
    refine n_val (r_assign) (n_nil (k46 _ _ ?_))
    refine c_seq fun K47 k47=>wp_region_lit ?_
    simp only [ev,zD,zE,zF,zG]
    refine n_load rfl ((m.b 0 rfl).full agg_34 cells_34) ?_
    simp only [ev,zD,zE,zF,zG]
    refine mstoreA m 6 rfl rfl rfl cells_34 (leT rfl) rfl ?_
    clear m; intro u m; simp only [over,zH,zI,zJ,zK,zL,zM,zN,zO,zP,zF,zG,Nat.reduceAdd] at m
    refine n_nil (k47 _ _ ?_)
    refine wp_ret ?_
    try simp only [Exit.inBlock,Exit.then,if_true]
    refine fin1 rfl ⟨_,rfl,((m.b 6 rfl).full agg_34 cells_34)⟩ ?_
    try simp only [zD,zE]
    exact ⟨_,rfl,m.ext,by first | exact triq_face ⟨hy0,hy1,hy2,hy3⟩ ▸ rfl | exact triq_edge hno ▸ rfl⟩
   ·
    have hy2:=yes_side hb2
    refine mq m follows_mixed (by kernel_rfl) (q_val (r_move) (q_val (r_move) (q_want rfl ?_)))
    simp only [ev,zD,zE,zF,zG]
    refine ql rfl (fun u m=>((m.b 3 rfl).full agg_76 cells_76)) ?_
    simp only [ev,zD,zE,zF,zG]
    refine q_want rfl (ql rfl (fun u m=>((m.b 0 rfl).full agg_28 cells_28)) ?_)
    simp only [ev,zD,zE,zF,zG]
    refine q_want rfl (q_val (r_move) (q_want rfl (q_val (r_add (m:=2) (n:=1) (r:=3) rfl rfl (by decide)) (q_want rfl (q_val (r_rem (m:=3) (n:=3) (r:=0) rfl rfl (by decide) (by decide)) (q_want rfl (q_val (r_indexAddrA Tryz.underlying59 cells_28 rfl rfl (by decide) (by decide) rfl) ?_)))))))
    simp only [ev,zD,zE,zF,zG]
    refine q_want rfl (ql rfl (fun u m=>((m.b 5 rfl).lies agg_28 cells_28 rfl rfl)) ?_)
    simp only [ev,zD,zE,zF,zG,zH,zI,zJ,zK,Nat.zero_add,Nat.reduceAdd,Nat.reduceMul,Int.reduceToNat]
    refine q_want rfl (qcP rfl rfl (from_c) (q_want rfl ?_))
    simp only [ev,zD,zE,zF,zG]
    refine ql rfl (fun u m=>((m.b 0 rfl).full agg_28 cells_28)) ?_
    simp only [ev,zD,zE,zF,zG]
    refine q_want rfl (ql rfl (fun u m=>((m.b 6 rfl).full agg_28 cells_28)) ?_)
    simp only [ev,zD,zE,zF,zG]
    refine q_want rfl (qcP rfl rfl (from_c) (q_want rfl ?_))
    simp only [ev,zD,zE,zF,zG]
    refine qcP rfl rfl (mCross_c Bv.of Bv.of) (q_want rfl ?_)
    simp only [ev,zD,zE,zF,zG]
    refine qcP rfl rfl (mDot_c Bv.of Bv.of) (q_want rfl ?_)
    simp only [ev,zD,zE,zF,zG]
    refine qcP rfl rfl (Sign_c Bw.up) (q_want rfl (q_val (r_geq rfl rfl) (q_val (r_pickT rfl) (q_val (r_assign) ?_))))
    simp only [ev,zD,zE,zF,zG]
    refine q_nil ?_
    clear m; intro u m
    obtain ⟨b3,hb3⟩ : ∃ b : Bool,b = decide (0 ≤ isign (t.normal.dot ((t.a.sub t.c).cross (x.sub t.c)))):=⟨_,rfl⟩
    rw [← hb3]
    refine k40 _ _ ?_
    refine wp_region_lit (n_val (r_add (m:=2) (n:=1) (r:=3) rfl rfl (by decide)) (n_val (r_move) (n_nil (then_rounds (c_seq fun K48 k48=>wp_region_lit (n_val (r_lssF (m:=3) (n:=3) rfl rfl (by decide)) (n_nil (k48 _ _ ?_))))))))
    refine c_seq fun K49 k49=>c_no rfl (wp_exit (k4 _ _ ?_))
    refine c_seq fun K50 k50=>c_seq fun K51 k51=>wp_region_lit (n_val (r_move) ?_)
    simp only [ev,zD,zE,zF,zG]
    refine n_nil (k51 _ _ ?_)
    refine c_cond rfl (fun hc2=>?_) (fun hc2=>?_)
    ·
     have hy3:=yes_side (hb3.symm.trans hc2).symm
     refine c_seq fun K52 k52=>?_
     refine wp_region_fresh 7 [0,1,2,3,4,5] [⟨6,9,32,[.bool false,.string ⟨#[]⟩]⟩] follows_mixed (by kernel_rfl) (al1 ⟨_,_,_,rfl,by kernel_rfl,_,zero_32,rfl⟩) (ol:=?_) ?hol ?_
     case hol=>simp only [zQ,zR,zS,zT,zU,zV]; try rfl
     intro u e; replace m:=m.ext' e; clear e
     refine e_load rfl (fun u e=>(((m.ext' e).b 3 rfl).full agg_76 cells_76)) ?_
     simp only [ev,zD,zE,zF,zG]
     refine e_val (r_indexAddrA Tryz.underlying59 cells_28 rfl rfl (by decide) (by decide) rfl) ?_
     simp only [ev,zD,zE,zF,zG]
     refine e_load rfl (fun u e=>(((m.ext' e).b 5 rfl).lies agg_28 cells_28 rfl rfl)) ?_
     simp only [ev,zD,zE,zF,zG,zH,zI,zJ,zK,Nat.zero_add,Nat.reduceAdd,Nat.reduceMul,Int.reduceToNat]
     refine e_load rfl (fun u e=>(((m.ext' e).b 6 rfl).full agg_28 cells_28)) ?_
     simp only [ev,zD,zE,zF,zG]
     refine e_callP rfl rfl (from_c) ?_
     simp only [ev,zD,zE,zF,zG]
     refine e_callP rfl rfl (mDot_c Bv.of Bv.of) (e_nil ?_)
     simp only [ev,zD,zE,zF,zG]
     refine mf1 m ?_
     clear m; intro g8 u m
     simp only [zJ,zK,zF,zG]
     refine mstoreA m 0 rfl rfl rfl cells_32 (leT rfl) rfl ?_
     clear m; intro u m; simp only [over,zH,zI,zJ,zK,zL,zM,zN,zO,zP,zF,zG,Nat.reduceAdd] at m
     refine n_nil (k52 _ _ ?_)
     refine c_seq fun K53 k53=>?_
     refine mq_tail m 7 follows_mixed (by kernel_rfl) ?_
     simp only [zH,zI,zJ,zK]
     refine ql rfl (fun u m=>((m.b 0 rfl).full agg_32 cells_32)) ?_
     simp only [ev,zD,zE,zF,zG]
     refine ql rfl (fun u m=>((m.b 0 rfl).full agg_32 cells_32)) ?_
     simp only [ev,zD,zE,zF,zG]
     refine qcP rfl rfl (Mul_c Bw.up Bw.up) ?_
     simp only [ev,zD,zE,zF,zG]
     refine ql rfl (fun u m=>((m.b 4 rfl).full agg_76 cells_76)) ?_
     simp only [ev,zD,zE,zF,zG]
     refine ql rfl (fun u m=>((m.b 4 rfl).full agg_76 cells_76)) ?_
     simp only [ev,zD,zE,zF,zG]
     refine qcP rfl rfl (mDot_c Bv.of Bv.of) ?_
     simp only [ev,zD,zE,zF,zG]
     refine qcP rfl rfl (mFrac_c Bw.up Bw.up (by have:=flat_dot.2 hy0; omega)) (q_nil ?_)
     clear m; intro u m
     simp only [ev,zD,zE,zF,zG]
     refine mstoreA m 5 rfl rfl rfl cells_34 (leT rfl) rfl ?_
     clear m; intro u m; simp only [over,zH,zI,zJ,zK,zL,zM,zN,zO,zP,zF,zG,Nat.reduceAdd] at m
     refine n_nil (k53 _ _ ?_)
     refine wp_ret ?_
     try simp only [Exit.inBlock,Exit.then,if_true]
     refine fin1 rfl ⟨_,rfl,((m.b 5 rfl).full agg_34 cells_34)⟩ ?_
     try simp only [zD,zE]
     exact ⟨_,rfl,m.ext,by first | exact triq_face ⟨hy0,hy1,hy2,hy3⟩ ▸ rfl | exact triq_edge hno ▸ rfl⟩
    ·
     have hno : ¬ (¬ t.flat ∧ ins x t):=fun h=>no_side (hb3.symm.trans hc2).symm h.2.2.2
     refine wp_skip (k50 _ _ ?_)
     refine c_seq fun K54 k54=>wp_region_lit (n_bs_22_3 rfl rfl rfl ?_)
     intro u g8 e hg hB; replace m:=m.newB e hg hB; clear e hg hB
     simp only [ev,zD,zE,zF,zG]
     refine n_val (r_makeFunc) ?_
     simp only [ev,zD,zE,zF,zG,List.map_toArray,List.map_cons,List.map_nil]
     refine mcall m rfl rfl (least3_c _ (m.b 0 rfl) (m.b 7 rfl) (m.b 6 rfl)) ?_
     clear m; rintro v u m rfl
     refine n_val (r_move) (n_val (r_extract rfl rfl) (n_val (r_extract rfl rfl) ?_))
     simp only [ev,zD,zE,zF,zG]
     refine malloc m zero_34 rfl ?_
     clear m; intro g9 u m
     simp only [ev,zD,zE,zF,zG]
     refine mstoreA m 0 rfl rfl rfl cells_34 (leT rfl) rfl ?_
     clear m; intro u m; simp only [over,zH,zI,zJ,zK,zL,zM,zN,zO,zP,zF,zG,Nat.reduceAdd] at m
     refine n_val (r_assign) (n_nil (k54 _ _ ?_))
     refine c_seq fun K55 k55=>wp_region_lit ?_
     simp only [ev,zD,zE,zF,zG]
     refine n_load rfl ((m.b 0 rfl).full agg_34 cells_34) ?_
     simp only [ev,zD,zE,zF,zG]
     refine mstoreA m 6 rfl rfl rfl cells_34 (leT rfl) rfl ?_
     clear m; intro u m; simp only [over,zH,zI,zJ,zK,zL,zM,zN,zO,zP,zF,zG,Nat.reduceAdd] at m
     refine n_nil (k55 _ _ ?_)
     refine wp_ret ?_
     try simp only [Exit.inBlock,Exit.then,if_true]
     refine fin1 rfl ⟨_,rfl,((m.b 6 rfl).full agg_34 cells_34)⟩ ?_
     try simp only [zD,zE]
     exact ⟨_,rfl,m.ext,by first | exact triq_face ⟨hy0,hy1,hy2,hy3⟩ ▸ rfl | exact triq_edge hno ▸ rfl⟩
end Go.Proofs.YtmcgcnpgkkfkoaaGreatDoor
namespace Go.Proofs.YtmcgcnpgkkfkoaaGreatDoor
open Go.RowKit Go.Lith
set_option maxRecDepth 100000
attribute [local irreducible] wpList wpQuiet wpMix wpMixH wpTree Code.wp
theorem far1_c {x : P3} {t : T3} [I3 x] [IT t] {g1 : Nat} (w : World) (hB1 : Blk w g1 [.int .i64 x.x,.int .i64 x.y,.int .i64 x.z] 28) : Does Tryz.prog 43 [tr t,.pointer (some ⟨g1,0,none⟩)] w (fun v _=>v = Q (triq x t)):=by
 refine ⟨en_43,?_⟩
 have m:=Mem.refl w
 go_enter Tryz.func43,Tryz.ntmps43
 refine c_seq fun K1 k1=>wp_region_lit (mboxA m rfl ?_)
 clear m; intro g2 u m
 simp only [ev,zD,zE,zF,zG]
 refine malloc m zero_34 rfl ?_
 clear m; intro g3 u m
 refine n_nil (k1 _ _ ?_)
 refine c_seq fun K2 k2=>wp_region_lit ?_
 simp only [ev,zD,zE,zF,zG]
 refine n_load rfl ((hB1.ext m.ext).lies agg_28 cells_28 rfl rfl) ?_
 simp only [ev,zD,zE,zF,zG,zH,zI,zJ,zK,Nat.zero_add,Nat.reduceAdd,Nat.reduceMul,Int.reduceToNat]
 refine n_load rfl ((m.b 1 rfl).full agg_59 cells_59) ?_
 simp only [ev,zD,zE,zF,zG]
 refine mcallP m rfl rfl (triangle_c) ?_
 clear m; intro u m
 simp only [ev,zD,zE,zF,zG]
 refine mstoreA m 0 rfl rfl rfl cells_34 (leT rfl) rfl ?_
 clear m; intro u m; simp only [over,zH,zI,zJ,zK,zL,zM,zN,zO,zP,zF,zG,Nat.reduceAdd] at m
 refine n_nil (k2 _ _ ?_)
 refine wp_ret ?_
 try simp only [Exit.inBlock,Exit.then,if_true]
 refine fin1 rfl ⟨_,rfl,((m.b 0 rfl).full agg_34 cells_34)⟩ ?_
 try simp only [zD,zE]
 exact ⟨_,rfl,m.ext,rfl⟩
theorem least_c {x : P3} {ts : List T3} [I3 x] {g1 N cap : Nat} {A : Option Addr} (w : World) (hB1 : Blk w g1 [.int .i64 x.x,.int .i64 x.y,.int .i64 x.z] 28) (hT : TrisAt w A N ts) (hN : N < 4611686018427387904) : Does Tryz.prog 42 [.slice A N cap,.func (.func 43) #[] #[.pointer (some ⟨g1,0,none⟩)]] w (fun v _=>v = .tuple #[Q (farq x ts),.bool (decide ((0 : Int) < (N : Int)))]):=by
 refine ⟨en_42,?_⟩
 have m:=Mem.refl w
 go_enter Tryz.func42,Tryz.ntmps42
 refine c_seq fun K1 k1=>wp_region_lit (malloc m zero_34 rfl ?_)
 clear m; intro g2 u m
 refine n_val (r_assign) (n_nil (k1 _ _ ?_))
 refine c_seq fun K2 k2=>wp_region_lit (n_val (r_build_32_) ?_)
 simp only [ev,zD,zE,zF,zG]
 refine mcallP m rfl rfl (whole0_c) ?_
 clear m; intro u m
 simp only [ev,zD,zE,zF,zG]
 refine malloc m zero_34 rfl ?_
 clear m; intro g3 u m
 simp only [ev,zD,zE,zF,zG]
 refine mstoreA m 0 rfl rfl rfl cells_34 (leT rfl) rfl ?_
 clear m; intro u m; simp only [over,zH,zI,zJ,zK,zL,zM,zN,zO,zP,zF,zG,Nat.reduceAdd] at m
 refine n_nil (k2 _ _ ?_)
 refine c_seq fun K3 k3=>c_seq fun K4 k4=>wp_region_lit (n_val (r_move) (n_val (r_lenS rfl Tryz.underlying24 rfl) (n_val (r_move) (n_nil (k4 _ _ ?_)))))
 refine wp_block ?_
 simp only [ev,zD,zE,zF,zG]
 try simp only [Nat.zero_add,Nat.reduceAdd,Nat.reduceMul,Int.reduceToNat]
 refine c_loopg [14] [7,8,9,15,16,17,18,19,20,21,22,23,24,25,26,27,28,29,30,31] (fun n vs wl=>∃ (k : Nat),vs = [.int .i64 (k:Int)] ∧ Mem w wl [bI g3 [.bool (wneg (farq x (ts.take k)).num),.string (wmag (farq x (ts.take k)).num),.bool (wneg ((farq x (ts.take k)).den : Int)),.string (wmag ((farq x (ts.take k)).den : Int))] 34,bI g2 [.bool false,.string ⟨#[]⟩,.bool false,.string ⟨#[]⟩] 34] ∧ (k ≤ N) ∧ (n = N - k)) ?_ ?_
 ·
  apply Exists.intro
  simp only [zQ,zR,zD,zE]
  exact ⟨0,rfl,m,Nat.zero_le _,rfl⟩
 ·
  intro n vs wr hI u
  clear m
  obtain ⟨k,rfl,m,hk,hn⟩:=hI
  simp only [setG_cons,setG_nil,setMany_cons,setMany_nil,zF,zG]
  refine c_seq fun K5 k5=>wp_region_lit (n_val (r_lss rfl rfl) (n_nil (k5 _ _ ?_)))
  refine c_seq fun K6 k6=>?_
  simp only [ev,zD,zE,zF,zG]
  refine c_if rfl (fun hc1=>?_) (fun hc1=>?_)
  ·
   obtain ⟨t,ht,_,a,rfl,hrow⟩:=hT.get (i:=k) (by omega)
   refine wp_skip (k6 _ _ ?_)
   refine c_seq fun K7 k7=>wp_block (c_seq fun K8 k8=>wp_region_lit (n_val (r_move) ?_))
   simp only [ev,zD,zE,zF,zG]
   refine n_val (r_indexAddrS Tryz.underlying24 cells_59 rfl rfl (by omega) (by omega) (addrN (Int.toNat_natCast _))) ?_
   simp only [ev,zD,zE,zF,zG]
   refine n_load rfl ((hrow.ext m.ext).lies agg_59 cells_59) ?_
   simp only [ev,zD,zE,zF,zG]
   refine malloc m zero_59 rfl ?_
   clear m; intro g4 u m
   refine n_val (r_assign) ?_
   simp only [ev,zD,zE,zF,zG]
   refine mstoreA m 0 rfl rfl rfl cells_59 (leT rfl) rfl ?_
   clear m; intro u m; simp only [over,zH,zI,zJ,zK,zL,zM,zN,zO,zP,zF,zG,Nat.reduceAdd] at m
   refine n_nil (k8 _ _ ?_)
   refine c_seq fun K9 k9=>wp_region_lit (n_val (r_move) ?_)
   simp only [ev,zD,zE,zF,zG]
   refine n_load rfl ((m.b 0 rfl).full agg_59 cells_59) ?_
   simp only [ev,zD,zE,zF,zG]
   refine mcall m rfl rfl (far1_c (t:=t) _ (hB1.ext m.ext)) ?_
   clear m; rintro v u m rfl
   simp only [ev,zD,zE,zF,zG]
   refine malloc m zero_34 rfl ?_
   clear m; intro g5 u m
   simp only [ev,zD,zE,zF,zG]
   refine mstoreA m 0 rfl rfl rfl cells_34 (leT rfl) rfl ?_
   clear m; intro u m; simp only [over,zH,zI,zJ,zK,zL,zM,zN,zO,zP,zF,zG,Nat.reduceAdd] at m
   refine n_nil (k9 _ _ ?_)
   refine c_seq fun K10 k10=>?_
   rcases Nat.eq_zero_or_pos k with hk0 | hk0
   ·
    have hq : farq x (ts.take (k + 1)) = triq x t:=by subst hk0; exact farq_one ht
    refine wp_region_lit (n_val (r_move) ?_)
    simp only [ev,zD,zE,zF,zG]
    refine n_val (r_eqlT rfl rfl (by omega)) (n_val (r_move) (n_skipF rfl (n_skipF rfl ?_)))
    simp only [ev,zD,zE,zF,zG]
    refine n_skipF rfl (n_skipF rfl (n_val (r_pickT rfl) (n_nil (k10 _ _ ?_))))
    refine c_yes rfl (wp_region_lit ?_)
    simp only [ev,zD,zE,zF,zG]
    refine n_load rfl ((m.b 0 rfl).full agg_34 cells_34) ?_
    simp only [ev,zD,zE,zF,zG]
    refine mstoreA m 2 rfl rfl rfl cells_34 (leT rfl) rfl ?_
    clear m; intro u m; simp only [over,zH,zI,zJ,zK,zL,zM,zN,zO,zP,zF,zG,Nat.reduceAdd] at m
    refine n_nil (k7 _ _ ?_)
    refine wp_region_lit (n_val (r_add rfl rfl (wrap_i64 (by omega) (by omega))) (n_val (r_move) (n_nil ?_)))
    simp only [ev,zD,zE,zF,zG]
    simp only [Exit.inBlock,Exit.then]
    refine ⟨N - (k + 1),_,?_,rfl,?_,?_⟩
    · omega
    · simp only [zQ,zR,zD,zE,setG_cons,setG_nil,setMany_cons,setMany_nil,zF,zG]
    ·
     simp only [zQ,zR,zD,zE]
     exact ⟨k + 1,rfl,((m.re 2 rfl (by rw [hq]; exact (m.b 2 rfl))).sel [false,false,true,true]),by omega,rfl⟩
   ·
    refine wp_region_lit (n_val (r_move) ?_)
    simp only [ev,zD,zE,zF,zG]
    refine n_val (r_eqlF rfl rfl (by omega)) (n_val (r_move) (n_want rfl ?_))
    simp only [ev,zD,zE,zF,zG]
    refine n_load rfl ((m.b 0 rfl).full agg_34 cells_34) ?_
    simp only [ev,zD,zE,zF,zG]
    refine n_want rfl (n_load rfl ((m.b 2 rfl).full agg_34 cells_34) ?_)
    simp only [ev,zD,zE,zF,zG]
    refine n_want rfl (mcallP m rfl rfl (CmpFrac_c Bq.up (Bq.mono (farq_bq (fun u hu=>hT.it u (List.mem_of_mem_take hu))) (by decide))) ?_)
    clear m; intro u m
    refine n_want rfl (n_val (r_lss rfl rfl) (n_val (r_pickF rfl) (n_nil (k10 _ _ ?_))))
    simp only [ev,zD,zE,zF,zG]
    refine c_if rfl (fun hc2=>?_) (fun hc2=>?_)
    ·
     have hq:=(farq_step (x:=x) (by omega) ht).trans (if_pos (qcmp_lt.1 hc2))
     refine wp_region_lit (n_load rfl ((m.b 0 rfl).full agg_34 cells_34) ?_)
     simp only [ev,zD,zE,zF,zG]
     refine mstoreA m 2 rfl rfl rfl cells_34 (leT rfl) rfl ?_
     clear m; intro u m; simp only [over,zH,zI,zJ,zK,zL,zM,zN,zO,zP,zF,zG,Nat.reduceAdd] at m
     refine n_nil (k7 _ _ ?_)
     refine wp_region_lit (n_val (r_add rfl rfl (wrap_i64 (by omega) (by omega))) (n_val (r_move) (n_nil ?_)))
     simp only [ev,zD,zE,zF,zG]
     simp only [Exit.inBlock,Exit.then]
     refine ⟨N - (k + 1),_,?_,rfl,?_,?_⟩
     · omega
     · simp only [zQ,zR,zD,zE,setG_cons,setG_nil,setMany_cons,setMany_nil,zF,zG]
     ·
      simp only [zQ,zR,zD,zE]
      exact ⟨k + 1,rfl,((m.re 2 rfl (by rw [hq]; exact (m.b 2 rfl))).sel [false,false,true,true]),by omega,rfl⟩
    ·
     have hq:=(farq_step (x:=x) (by omega) ht).trans (if_neg (mt qcmp_lt.2 hc2))
     refine wp_skip (k7 _ _ ?_)
     refine wp_region_lit (n_val (r_add rfl rfl (wrap_i64 (by omega) (by omega))) (n_val (r_move) (n_nil ?_)))
     simp only [ev,zD,zE,zF,zG]
     simp only [Exit.inBlock,Exit.then]
     refine ⟨N - (k + 1),_,?_,rfl,?_,?_⟩
     · omega
     · simp only [zQ,zR,zD,zE,setG_cons,setG_nil,setMany_cons,setMany_nil,zF,zG]
     ·
      simp only [zQ,zR,zD,zE]
      exact ⟨k + 1,rfl,((m.re 2 rfl (by rw [hq]; exact (m.b 2 rfl))).sel [false,false,true,true]),by omega,rfl⟩
  ·
   have hkN : k = N:=by omega
   rw [hkN,show ts.take N = ts from List.take_of_length_le (by rw [hT.len]; exact Nat.le_refl _)] at m
   refine wp_exit (k3 _ _ ?_)
   refine c_seq fun K11 k11=>wp_region_lit (n_load rfl ((m.b 0 rfl).full agg_34 cells_34) ?_)
   simp only [ev,zD,zE,zF,zG]
   refine n_val (r_move) (n_val (r_lenS rfl Tryz.underlying24 rfl) (n_val (r_gtr rfl rfl) ?_))
   simp only [ev,zD,zE,zF,zG]
   refine mstoreA m 1 rfl rfl rfl cells_34 (leT rfl) rfl ?_
   clear m; intro u m; simp only [over,zH,zI,zJ,zK,zL,zM,zN,zO,zP,zF,zG,Nat.reduceAdd] at m
   refine n_val (r_assign) (n_nil (k11 _ _ ?_))
   refine wp_ret ?_
   simp only [ev,zD,zE,zF,zG]
   try simp only [Exit.inBlock,Exit.then,if_true]
   refine fin2 rfl ⟨_,rfl,((m.b 1 rfl).full agg_34 cells_34)⟩ rfl ?_
   try simp only [zD,zE]
   exact ⟨_,rfl,m.ext,rfl⟩
theorem Far2_c {x : P3} {ts : List T3} [I3 x] {N cap : Nat} {A : Option Addr} (w : World) (hT : TrisAt w A N ts) (hN : N < 4611686018427387904) : Does Tryz.prog 12 [pt x,.slice A N cap] w (fun v _=>v = .tuple #[Q (farq x ts),.bool (decide ((0 : Int) < (N : Int)))]):=by
 refine ⟨en_12,?_⟩
 have m:=Mem.refl w
 go_enter Tryz.func12,Tryz.ntmps12
 refine c_seq fun K1 k1=>wp_region_lit (mboxA m rfl ?_)
 clear m; intro g1 u m
 simp only [ev,zD,zE,zF,zG]
 refine malloc m zero_34 rfl ?_
 clear m; intro g2 u m
 refine n_val (r_assign) (n_nil (k1 _ _ ?_))
 refine c_seq fun K2 k2=>wp_region_lit (n_val (r_move) ?_)
 simp only [ev,zD,zE,zF,zG]
 refine n_val (r_makeFunc) ?_
 simp only [ev,zD,zE,zF,zG,List.map_toArray,List.map_cons,List.map_nil]
 refine mcall m rfl rfl (least_c _ (m.b 1 rfl) (hT.ext m.ext) hN) ?_
 clear m; rintro v u m rfl
 refine n_val (r_extract rfl rfl) (n_val (r_extract rfl rfl) ?_)
 simp only [ev,zD,zE,zF,zG]
 refine mstoreA m 0 rfl rfl rfl cells_34 (leT rfl) rfl ?_
 clear m; intro u m; simp only [over,zH,zI,zJ,zK,zL,zM,zN,zO,zP,zF,zG,Nat.reduceAdd] at m
 refine n_val (r_assign) (n_nil (k2 _ _ ?_))
 refine wp_ret ?_
 simp only [ev,zD,zE,zF,zG]
 try simp only [Exit.inBlock,Exit.then,if_true]
 refine fin2 rfl ⟨_,rfl,((m.b 0 rfl).full agg_34 cells_34)⟩ rfl ?_
 try simp only [zD,zE]
 exact ⟨_,rfl,m.ext,rfl⟩
end Go.Proofs.YtmcgcnpgkkfkoaaGreatDoor
namespace Go.Proofs.YtmcgcnpgkkfkoaaGreatDoor
open Go.RowKit Go.Lith
set_option maxRecDepth 100000
attribute [local irreducible] wpList wpQuiet wpMix wpMixH wpTree Code.wp
theorem Area_c {ts : List T3} {N cap : Nat} {A : Option Addr} (w : World) (hT : TrisAt w A N ts) (hN : N < 4611686018427387904) : Does Tryz.prog 14 [.slice A N cap] w (fun v _=>v = .tuple #[W (sumT lowA ts),W (sumT highA ts)]):=by
 refine ⟨en_14,?_⟩
 have m:=Mem.refl w
 go_enter Tryz.func14,Tryz.ntmps14
 refine c_seq fun K1 k1=>wp_region_lit (malloc m zero_32 rfl ?_)
 clear m; intro g1 u m
 simp only [ev,zD,zE,zF,zG]
 refine malloc m zero_32 rfl ?_
 clear m; intro g2 u m
 refine n_nil (k1 _ _ ?_)
 refine c_seq fun K2 k2=>c_seq fun K3 k3=>wp_region_lit (n_val (r_move) (n_val (r_lenS rfl Tryz.underlying24 rfl) (n_val (r_move) ?_)))
 simp only [ev,zD,zE,zF,zG]
 refine n_nil (k3 _ _ ?_)
 refine wp_block ?_
 try simp only [Nat.zero_add,Nat.reduceAdd,Nat.reduceMul,Int.reduceToNat]
 refine c_loopg [12] [5,6,7,8,9,13,14,15,16,17,18,19,20,21,22,23,24,25,26,27,28,29,30,31,32,33,34,35,36,37,38,39,40] (fun n vs wl=>∃ (k : Nat),vs = [.int .i64 (k:Int)] ∧ Mem w wl [bI g2 [.bool (wneg (sumT highA (ts.take k))),.string (wmag (sumT highA (ts.take k)))] 32,bI g1 [.bool (wneg (sumT lowA (ts.take k))),.string (wmag (sumT lowA (ts.take k)))] 32] ∧ (k ≤ N) ∧ (n = N - k)) ?_ ?_
 ·
  apply Exists.intro
  simp only [zQ,zR,zD,zE]
  exact ⟨0,rfl,m,Nat.zero_le _,rfl⟩
 ·
  intro n vs wr hI u
  clear m
  obtain ⟨k,rfl,m,hk,hn⟩:=hI
  simp only [setG_cons,setG_nil,setMany_cons,setMany_nil,zF,zG]
  refine c_seq fun K4 k4=>wp_region_lit (n_val (r_lss rfl rfl) (n_nil (k4 _ _ ?_)))
  refine c_seq fun K5 k5=>?_
  simp only [ev,zD,zE,zF,zG]
  refine c_if rfl (fun hc1=>?_) (fun hc1=>?_)
  ·
   obtain ⟨t,ht,_,a,rfl,hrow⟩:=hT.get (i:=k) (by omega)
   haveI : Bw 364 (sumT lowA (ts.take k)):=⟨sumT_bdt (m:=300) (fun u hu=>by haveI:=hT.it u hu; exact lowA_bd) (by rw [hT.len]; omega)⟩
   haveI : Bw 365 (sumT highA (ts.take k)):=⟨sumT_bdt (m:=301) (fun u hu=>by haveI:=hT.it u hu; exact highA_bd) (by rw [hT.len]; omega)⟩
   refine wp_skip (k5 _ _ ?_)
   refine c_seq fun K6 k6=>wp_block (c_seq fun K7 k7=>wp_region_lit (n_val (r_indexAddrS Tryz.underlying24 cells_59 rfl rfl (by omega) (by omega) (addrN (Int.toNat_natCast _))) ?_))
   simp only [ev,zD,zE,zF,zG]
   refine n_load rfl ((hrow.ext m.ext).lies agg_59 cells_59) ?_
   simp only [ev,zD,zE,zF,zG]
   refine malloc m zero_59 rfl ?_
   clear m; intro g3 u m
   simp only [ev,zD,zE,zF,zG]
   refine mstoreA m 0 rfl rfl rfl cells_59 (leT rfl) rfl ?_
   clear m; intro u m; simp only [over,zH,zI,zJ,zK,zL,zM,zN,zO,zP,zF,zG,Nat.reduceAdd] at m
   refine n_nil (k7 _ _ ?_)
   refine c_seq fun K8 k8=>wp_region_lit (n_load rfl ((m.b 0 rfl).full agg_59 cells_59) ?_)
   simp only [ev,zD,zE,zF,zG]
   refine mcallP m rfl rfl (Normal_c (t:=t)) ?_
   clear m; intro u m
   simp only [ev,zD,zE,zF,zG]
   refine malloc m zero_76 rfl ?_
   clear m; intro g4 u m
   simp only [ev,zD,zE,zF,zG]
   refine mstoreA m 0 rfl rfl rfl cells_76 (leT rfl) rfl ?_
   clear m; intro u m; simp only [over,zH,zI,zJ,zK,zL,zM,zN,zO,zP,zF,zG,Nat.reduceAdd] at m
   refine n_nil (k8 _ _ ?_)
   refine c_seq fun K9 k9=>wp_region_lit (n_load rfl ((m.b 0 rfl).full agg_76 cells_76) ?_)
   simp only [ev,zD,zE,zF,zG]
   refine n_load rfl ((m.b 0 rfl).full agg_76 cells_76) ?_
   simp only [ev,zD,zE,zF,zG]
   refine mcallP m rfl rfl (mDot_c Bv.of Bv.of) ?_
   clear m; intro u m
   simp only [ev,zD,zE,zF,zG]
   refine malloc m zero_32 rfl ?_
   clear m; intro g5 u m
   simp only [ev,zD,zE,zF,zG]
   refine mstoreA m 0 rfl rfl rfl cells_32 (leT rfl) rfl ?_
   clear m; intro u m; simp only [over,zH,zI,zJ,zK,zL,zM,zN,zO,zP,zF,zG,Nat.reduceAdd] at m
   refine n_nil (k9 _ _ ?_)
   refine c_seq fun K10 k10=>wp_region_lit (n_load rfl ((m.b 0 rfl).full agg_32 cells_32) ?_)
   simp only [ev,zD,zE,zF,zG]
   refine mcallP m rfl rfl (Root_c Bw.up (dot_nn _)) ?_
   clear m; intro u m
   refine n_val (r_move) (n_val (r_extract rfl rfl) (n_val (r_extract rfl rfl) ?_))
   simp only [ev,zD,zE,zF,zG]
   refine malloc m zero_32 rfl ?_
   clear m; intro g6 u m
   simp only [ev,zD,zE,zF,zG]
   refine mstoreA m 0 rfl rfl rfl cells_32 (leT rfl) rfl ?_
   clear m; intro u m; simp only [over,zH,zI,zJ,zK,zL,zM,zN,zO,zP,zF,zG,Nat.reduceAdd] at m
   refine n_val (r_assign) (n_nil ?_)
   simp only [ev,zD,zE,zF,zG]
   rw [show ((isqrt (t.normal.dot t.normal).natAbs : Nat) : Int) = lowA t from rfl] at m ⊢
   refine k10 _ _ ?_
   refine c_seq fun K11 k11=>?_
   refine mq_tail m 6 follows_mixed (by kernel_rfl) ?_
   simp only [zH,zI,zJ,zK]
   refine ql rfl (fun u m=>((m.b 5 rfl).full agg_32 cells_32)) ?_
   simp only [ev,zD,zE,zF,zG]
   refine ql rfl (fun u m=>((m.b 0 rfl).full agg_32 cells_32)) ?_
   simp only [ev,zD,zE,zF,zG]
   refine qcP rfl rfl (Add_c Bw.up Bw.up) ?_
   simp only [ev,zD,zE,zF,zG]
   refine ql rfl (fun u m=>((m.b 4 rfl).full agg_32 cells_32)) ?_
   simp only [ev,zD,zE,zF,zG]
   refine ql rfl (fun u m=>((m.b 0 rfl).full agg_32 cells_32)) ?_
   simp only [ev,zD,zE,zF,zG]
   refine qcP rfl rfl (Add_c Bw.up Bw.up) (q_nil ?_)
   clear m; intro u m
   simp only [ev,zD,zE,zF,zG]
   refine mstoreA m 5 rfl rfl rfl cells_32 (leT rfl) rfl ?_
   clear m; intro u m; simp only [over,zH,zI,zJ,zK,zL,zM,zN,zO,zP,zF,zG,Nat.reduceAdd] at m
   refine mstoreA m 4 rfl rfl rfl cells_32 (leT rfl) rfl ?_
   clear m; intro u m; simp only [over,zH,zI,zJ,zK,zL,zM,zN,zO,zP,zF,zG,Nat.reduceAdd] at m
   refine n_nil (k11 _ _ ?_)
   refine c_seq fun K12 k12=>mq m follows_mixed (by kernel_rfl) (ql rfl (fun u m=>((m.b 0 rfl).full agg_32 cells_32)) ?_)
   simp only [ev,zD,zE,zF,zG]
   refine ql rfl (fun u m=>((m.b 0 rfl).full agg_32 cells_32)) ?_
   simp only [ev,zD,zE,zF,zG]
   refine qcP rfl rfl (Mul_c Bw.up Bw.up) ?_
   simp only [ev,zD,zE,zF,zG]
   refine ql rfl (fun u m=>((m.b 1 rfl).full agg_32 cells_32)) ?_
   simp only [ev,zD,zE,zF,zG]
   refine q_val (eq_neq_32 rfl rfl) (q_nil ?_)
   clear m; intro u m
   refine k12 _ _ ?_
   simp only [ev,zD,zE,zF,zG]
   refine c_if rfl (fun hc2=>?_) (fun hc2=>?_)
   ·
    have hh:=(sumT_step (f:=highA) ht).trans (highA_ne fun e=>hc2 (W_eq_iff.2 e))
    refine mq_tail m 3 follows_mixed (by kernel_rfl) ?_
    simp only [zH,zI,zJ,zK]
    refine ql rfl (fun u m=>((m.b 4 rfl).full agg_32 cells_32)) ?_
    simp only [ev,zD,zE,zF,zG]
    refine qcP rfl rfl (From_c Iw.h) ?_
    simp only [ev,zD,zE,zF,zG]
    refine qcP rfl rfl (Add_c Bw.up Bw.up) (q_nil ?_)
    clear m; intro u m
    simp only [ev,zD,zE,zF,zG]
    refine mstoreA m 4 rfl rfl rfl cells_32 (leT rfl) rfl ?_
    clear m; intro u m; simp only [over,zH,zI,zJ,zK,zL,zM,zN,zO,zP,zF,zG,Nat.reduceAdd] at m
    refine n_nil (k6 _ _ ?_)
    refine wp_region_lit (n_val (r_add rfl rfl (wrap_i64 (by omega) (by omega))) (n_val (r_move) (n_nil ?_)))
    simp only [ev,zD,zE,zF,zG]
    simp only [Exit.inBlock,Exit.then]
    refine ⟨N - (k + 1),_,?_,rfl,?_,?_⟩
    · omega
    · simp only [zQ,zR,zD,zE,setG_cons,setG_nil,setMany_cons,setMany_nil,zF,zG]
    ·
     simp only [zQ,zR,zD,zE]
     exact ⟨k + 1,rfl,(((m.re 5 rfl (by rw [sumT_step ht]; exact (m.b 5 rfl))).re 4 rfl (by rw [hh]; exact (m.b 4 rfl))).sel [false,false,false,false,true,true]),by omega,rfl⟩
   ·
    have hh:=(sumT_step (f:=highA) ht).trans (highA_eq (W_eq_iff.1 (Decidable.of_not_not hc2)))
    refine wp_skip (k6 _ _ ?_)
    refine wp_region_lit (n_val (r_add rfl rfl (wrap_i64 (by omega) (by omega))) (n_val (r_move) (n_nil ?_)))
    simp only [ev,zD,zE,zF,zG]
    simp only [Exit.inBlock,Exit.then]
    refine ⟨N - (k + 1),_,?_,rfl,?_,?_⟩
    · omega
    · simp only [zQ,zR,zD,zE,setG_cons,setG_nil,setMany_cons,setMany_nil,zF,zG]
    ·
     simp only [zQ,zR,zD,zE]
     exact ⟨k + 1,rfl,(((m.re 5 rfl (by rw [sumT_step ht]; exact (m.b 5 rfl))).re 4 rfl (by rw [hh]; exact (m.b 4 rfl))).sel [false,false,false,false,true,true]),by omega,rfl⟩
  ·
   have hkN : k = N:=by omega
   rw [hkN,show ts.take N = ts from List.take_of_length_le (by rw [hT.len]; exact Nat.le_refl _)] at m
   refine wp_exit (k2 _ _ ?_)
   refine c_seq fun K13 k13=>?_
   refine mtree m [false,false] (.two 0 (.two 1 (.one 2 (.one 3 .nil)) 2 (.one 1 (.one 3 .nil))) 1 (.one 0 (.one 2 (.one 3 .nil)))) follows_mixed (by kernel_rfl) (panic_put (fun _ _ _ _ _ h=>h)) ?_
   clear m; intro u m
   refine t_two (by simp only [zS,zT,zU,zV]; rfl) (by simp only [zS,zT,zU,zV]; rfl) ?_ ?_
   ·
    refine n_load rfl ((m.b 1 rfl).full agg_32 cells_32) ?_
    simp only [ev,zD,zE,zF,zG]
    refine n_nil ?_
    refine ⟨m.sel [false,false],?_⟩
    refine t_two (by simp only [zS,zT,zU,zV]; rfl) (by simp only [zS,zT,zU,zV]; rfl) ?_ ?_
    ·
     refine n_load rfl ((m.b 0 rfl).full agg_32 cells_32) ?_
     simp only [ev,zD,zE,zF,zG]
     refine n_nil ?_
     refine ⟨m.sel [false,false],?_⟩
     refine t_one (by simp only [zS,zT,zU,zV]; rfl) (mstoreA m 1 rfl rfl rfl cells_32 (leT rfl) rfl ?_)
     clear m; intro u m; simp only [over,zH,zI,zJ,zK,zL,zM,zN,zO,zP,zF,zG,Nat.reduceAdd] at m
     refine n_nil ?_
     refine ⟨m.sel [false,false],?_⟩
     refine t_one (by simp only [zS,zT,zU,zV]; rfl) (mstoreA m 0 rfl rfl rfl cells_32 (leT rfl) rfl ?_)
     clear m; intro u m; simp only [over,zH,zI,zJ,zK,zL,zM,zN,zO,zP,zF,zG,Nat.reduceAdd] at m
     refine n_nil ?_
     refine ⟨m.sel [false,false],?_⟩
     refine t_nil (k13 _ _ ?_)
     refine wp_ret ?_
     try simp only [Exit.inBlock,Exit.then,if_true]
     refine fin2 rfl ⟨_,rfl,((m.b 1 rfl).full agg_32 cells_32)⟩ ⟨_,rfl,((m.b 0 rfl).full agg_32 cells_32)⟩ ?_
     try simp only [zD,zE]
     exact ⟨_,rfl,m.ext,rfl⟩
    ·
     refine mstoreA m 1 rfl rfl rfl cells_32 (leT rfl) rfl ?_
     clear m; intro u m; simp only [over,zH,zI,zJ,zK,zL,zM,zN,zO,zP,zF,zG,Nat.reduceAdd] at m
     refine n_nil ?_
     refine ⟨m.sel [false,false],?_⟩
     refine t_one (by simp only [zS,zT,zU,zV]; rfl) (n_load rfl ((m.b 0 rfl).full agg_32 cells_32) ?_)
     simp only [ev,zD,zE,zF,zG]
     refine n_nil ?_
     refine ⟨m.sel [false,false],?_⟩
     refine t_one (by simp only [zS,zT,zU,zV]; rfl) (mstoreA m 0 rfl rfl rfl cells_32 (leT rfl) rfl ?_)
     clear m; intro u m; simp only [over,zH,zI,zJ,zK,zL,zM,zN,zO,zP,zF,zG,Nat.reduceAdd] at m
     refine n_nil ?_
     refine ⟨m.sel [false,false],?_⟩
     refine t_nil (k13 _ _ ?_)
     refine wp_ret ?_
     try simp only [Exit.inBlock,Exit.then,if_true]
     refine fin2 rfl ⟨_,rfl,((m.b 1 rfl).full agg_32 cells_32)⟩ ⟨_,rfl,((m.b 0 rfl).full agg_32 cells_32)⟩ ?_
     try simp only [zD,zE]
     exact ⟨_,rfl,m.ext,rfl⟩
   ·
    refine n_load rfl ((m.b 0 rfl).full agg_32 cells_32) ?_
    simp only [ev,zD,zE,zF,zG]
    refine n_nil ?_
    refine ⟨m.sel [false,false],?_⟩
    refine t_one (by simp only [zS,zT,zU,zV]; rfl) (n_load rfl ((m.b 1 rfl).full agg_32 cells_32) ?_)
    simp only [ev,zD,zE,zF,zG]
    refine n_nil ?_
    refine ⟨m.sel [false,false],?_⟩
    refine t_one (by simp only [zS,zT,zU,zV]; rfl) (mstoreA m 1 rfl rfl rfl cells_32 (leT rfl) rfl ?_)
    clear m; intro u m; simp only [over,zH,zI,zJ,zK,zL,zM,zN,zO,zP,zF,zG,Nat.reduceAdd] at m
    refine n_nil ?_
    refine ⟨m.sel [false,false],?_⟩
    refine t_one (by simp only [zS,zT,zU,zV]; rfl) (mstoreA m 0 rfl rfl rfl cells_32 (leT rfl) rfl ?_)
    clear m; intro u m; simp only [over,zH,zI,zJ,zK,zL,zM,zN,zO,zP,zF,zG,Nat.reduceAdd] at m
    refine n_nil ?_
    refine ⟨m.sel [false,false],?_⟩
    refine t_nil (k13 _ _ ?_)
    refine wp_ret ?_
    try simp only [Exit.inBlock,Exit.then,if_true]
    refine fin2 rfl ⟨_,rfl,((m.b 1 rfl).full agg_32 cells_32)⟩ ⟨_,rfl,((m.b 0 rfl).full agg_32 cells_32)⟩ ?_
    try simp only [zD,zE]
    exact ⟨_,rfl,m.ext,rfl⟩
theorem prod3_c {x y z : Int} [Iw x] [Iw y] [Iw z] : Pure Tryz.prog 125 [.int .i64 x,.int .i64 y,.int .i64 z] (W (x * (y * z))):=by
 intro w
 refine ⟨en_125,?_⟩
 have m:=Mem.refl w
 go_enter Tryz.func125,Tryz.ntmps125
 refine c_seq fun K1 k1=>wp_region_lit (malloc m zero_32 rfl ?_)
 clear m; intro g1 u m
 refine n_nil (k1 _ _ ?_)
 refine c_seq fun K2 k2=>wp_region_lit (n_val (r_move) ?_)
 simp only [ev,zD,zE,zF,zG]
 refine mcallP m rfl rfl (From_c Iw.h) ?_
 clear m; intro u m
 refine n_val (r_move) ?_
 simp only [ev,zD,zE,zF,zG]
 refine mcallP m rfl rfl (From_c Iw.h) ?_
 clear m; intro u m
 refine n_val (r_move) ?_
 simp only [ev,zD,zE,zF,zG]
 refine mcallP m rfl rfl (From_c Iw.h) ?_
 clear m; intro u m
 simp only [ev,zD,zE,zF,zG]
 refine mcallP m rfl rfl (Mul_c Bw.up Bw.up) ?_
 clear m; intro u m
 simp only [ev,zD,zE,zF,zG]
 refine mcallP m rfl rfl (Mul_c Bw.up Bw.up) ?_
 clear m; intro u m
 simp only [ev,zD,zE,zF,zG]
 refine mstoreA m 0 rfl rfl rfl cells_32 (leT rfl) rfl ?_
 clear m; intro u m; simp only [over,zH,zI,zJ,zK,zL,zM,zN,zO,zP,zF,zG,Nat.reduceAdd] at m
 refine n_nil (k2 _ _ ?_)
 refine wp_ret ?_
 try simp only [Exit.inBlock,Exit.then,if_true]
 refine fin1 rfl ⟨_,rfl,((m.b 0 rfl).full agg_32 cells_32)⟩ ?_
 try simp only [zD,zE]
 exact ⟨_,rfl,m.ext,rfl⟩
theorem Volume6_c {ts : List T3} {N cap : Nat} {A : Option Addr} (w : World) (hT : TrisAt w A N ts) (hN : N < 4611686018427387904) : Does Tryz.prog 64 [.slice A N cap] w (fun v _=>v = W (sumT det ts)):=by
 refine ⟨en_64,?_⟩
 have m:=Mem.refl w
 go_enter Tryz.func64,Tryz.ntmps64
 refine c_seq fun K1 k1=>wp_region_lit (malloc m zero_32 rfl ?_)
 clear m; intro g1 u m
 refine n_nil (k1 _ _ ?_)
 refine c_seq fun K2 k2=>wp_region_lit ?_
 simp only [ev,zD,zE,zF,zG]
 refine malloc m zero_32 rfl ?_
 clear m; intro g2 u m
 refine n_nil (k2 _ _ ?_)
 refine c_seq fun K3 k3=>wp_region_lit (n_val (r_assign) (n_nil (k3 _ _ ?_)))
 refine c_seq fun K4 k4=>c_seq fun K5 k5=>wp_region_lit (n_val (r_move) (n_val (r_lenS rfl Tryz.underlying24 rfl) ?_))
 simp only [ev,zD,zE,zF,zG]
 refine n_val (r_move) (n_nil (k5 _ _ ?_))
 refine wp_block ?_
 simp only [ev,zD,zE,zF,zG]
 try simp only [Nat.zero_add,Nat.reduceAdd,Nat.reduceMul,Int.reduceToNat]
 refine c_loopg [16] [6,7,8,9,11,13,17,18,19,20,21,22,23,24,25,26,27,28,29,30,31,32,33,34,35,36,37,38,39,40,41,42,43,44,45,46,47,48,49,50,51,52,53,54,55,56,57,58,59,60,61,62,63,64,65,66,67,68,69,70,71,72,73,74,75,76,77,78,79,80,81,82,83,84,85,86,87,88,89,90,91,92,93,94] (fun n vs wl=>∃ (k : Nat),vs = [.int .i64 (k:Int)] ∧ Mem w wl [bI g2 [.bool (wneg (sumT det (ts.take k))),.string (wmag (sumT det (ts.take k)))] 32,bI g1 [.bool false,.string ⟨#[]⟩] 32] ∧ (k ≤ N) ∧ (n = N - k)) ?_ ?_
 ·
  apply Exists.intro
  simp only [zQ,zR,zD,zE]
  exact ⟨0,rfl,m,Nat.zero_le _,rfl⟩
 ·
  intro n vs wr hI u
  clear m
  obtain ⟨k,rfl,m,hk,hn⟩:=hI
  simp only [setG_cons,setG_nil,setMany_cons,setMany_nil,zF,zG]
  refine c_seq fun K6 k6=>wp_region_lit (n_val (r_lss rfl rfl) (n_nil (k6 _ _ ?_)))
  refine c_seq fun K7 k7=>?_
  simp only [ev,zD,zE,zF,zG]
  refine c_if rfl (fun hc1=>?_) (fun hc1=>?_)
  ·
   obtain ⟨t,ht,_,a,rfl,hrow⟩:=hT.get (i:=k) (by omega)
   haveI : Bw 264 (sumT det (ts.take k)):=⟨sumT_bdt (m:=200) (fun u hu=>by haveI:=hT.it u hu; exact det_bd) (by rw [hT.len]; omega)⟩
   refine wp_skip (k7 _ _ ?_)
   refine c_seq fun K8 k8=>wp_block (c_seq fun K9 k9=>wp_region_lit (n_val (r_indexAddrS Tryz.underlying24 cells_59 rfl rfl (by omega) (by omega) (addrN (Int.toNat_natCast _))) ?_))
   simp only [ev,zD,zE,zF,zG]
   refine n_load rfl ((hrow.ext m.ext).lies agg_59 cells_59) ?_
   simp only [ev,zD,zE,zF,zG]
   refine malloc m zero_59 rfl ?_
   clear m; intro g3 u m
   simp only [ev,zD,zE,zF,zG]
   refine mstoreA m 0 rfl rfl rfl cells_59 (leT rfl) rfl ?_
   clear m; intro u m; simp only [over,zH,zI,zJ,zK,zL,zM,zN,zO,zP,zF,zG,Nat.reduceAdd] at m
   refine n_nil (k9 _ _ ?_)
   refine c_seq fun K10 k10=>?_
   apply mcut3 m (T1:=28) (T2:=28) (T3:=28)
   ·
    refine mtree m [true,true,true] (.take 0 (.take 1 (.take 2 (.take 3 (.take 4 (.take 5 (.three 6 (.two 7 (.one 8 (.one 9 (.one 10 (.one 11 .nil)))) 8 (.one 7 (.one 9 (.one 10 (.one 11 .nil))))) 7 (.two 6 (.one 8 (.one 9 (.one 10 (.one 11 .nil)))) 8 (.one 6 (.one 9 (.one 10 (.one 11 .nil))))) 8 (.two 6 (.one 7 (.one 9 (.one 10 (.one 11 .nil)))) 7 (.one 6 (.one 9 (.one 10 (.one 11 .nil)))))))))))) follows_mixed (by kernel_rfl) (fun _ _ _ _ _ h=>by cases h.1) ?_
    intro u m
    refine t_take (by simp only [zS,zT,zU,zV]; rfl) (h_val (r_indexAddrA Tryz.underlying59 cells_28 rfl rfl (by decide) (by decide) rfl) (h_nil (t_take (by simp only [zS,zT,zU,zV]; rfl) ?_)))
    simp only [ev,zD,zE,zF,zG]
    refine h_load rfl (fun u m=>((m.b 0 rfl).lies agg_28 cells_28 rfl rfl)) ?_
    simp only [ev,zD,zE,zF,zG,zH,zI,zJ,zK,Nat.zero_add,Nat.reduceAdd,Nat.reduceMul,Int.reduceToNat]
    refine h_nil (t_take (by simp only [zS,zT,zU,zV]; rfl) (h_val (r_indexAddrA Tryz.underlying59 cells_28 rfl rfl (by decide) (by decide) rfl) (h_nil (t_take (by simp only [zS,zT,zU,zV]; rfl) ?_))))
    simp only [ev,zD,zE,zF,zG]
    refine h_load rfl (fun u m=>((m.b 0 rfl).lies agg_28 cells_28 rfl rfl)) ?_
    simp only [ev,zD,zE,zF,zG,zH,zI,zJ,zK,Nat.zero_add,Nat.reduceAdd,Nat.reduceMul,Int.reduceToNat]
    refine h_nil (t_take (by simp only [zS,zT,zU,zV]; rfl) (h_val (r_indexAddrA Tryz.underlying59 cells_28 rfl rfl (by decide) (by decide) rfl) (h_nil (t_take (by simp only [zS,zT,zU,zV]; rfl) ?_))))
    simp only [ev,zD,zE,zF,zG]
    refine h_load rfl (fun u m=>((m.b 0 rfl).lies agg_28 cells_28 rfl rfl)) ?_
    simp only [ev,zD,zE,zF,zG,zH,zI,zJ,zK,Nat.zero_add,Nat.reduceAdd,Nat.reduceMul,Int.reduceToNat]
    refine h_nil ?_
    refine t_three (by simp only [zS,zT,zU,zV]; rfl) (by simp only [zS,zT,zU,zV]; rfl) (by simp only [zS,zT,zU,zV]; rfl) ?_ ?_ ?_
    ·
     refine malloc m zero_28 rfl ?_
     clear m; intro g4 u m
     refine n_nil ?_
     refine ⟨m.sel [false,true,true,true],?_⟩
     simp only [ev,zD,zE,zF,zG]
     refine t_two (by simp only [zS,zT,zU,zV]; rfl) (by simp only [zS,zT,zU,zV]; rfl) ?_ ?_
     ·
      refine malloc m zero_28 rfl ?_
      clear m; intro g5 u m
      refine n_nil ?_
      refine ⟨m.sel [false,false,true,true,true],?_⟩
      refine t_one (by simp only [zS,zT,zU,zV]; rfl) ?_
      simp only [ev,zD,zE,zF,zG]
      refine malloc m zero_28 rfl ?_
      clear m; intro g6 u m
      refine n_nil ?_
      refine ⟨m.sel [false,false,false,true,true,true],?_⟩
      refine t_one (by simp only [zS,zT,zU,zV]; rfl) ?_
      simp only [ev,zD,zE,zF,zG]
      refine mstoreA m 2 rfl rfl rfl cells_28 (leT rfl) rfl ?_
      clear m; intro u m; simp only [over,zH,zI,zJ,zK,zL,zM,zN,zO,zP,zF,zG,Nat.reduceAdd] at m
      refine n_nil ?_
      refine ⟨m.sel [false,false,false,true,true,true],?_⟩
      refine t_one (by simp only [zS,zT,zU,zV]; rfl) (mstoreA m 1 rfl rfl rfl cells_28 (leT rfl) rfl ?_)
      clear m; intro u m; simp only [over,zH,zI,zJ,zK,zL,zM,zN,zO,zP,zF,zG,Nat.reduceAdd] at m
      refine n_nil ?_
      refine ⟨m.sel [false,false,false,true,true,true],?_⟩
      refine t_one (by simp only [zS,zT,zU,zV]; rfl) (mstoreA m 0 rfl rfl rfl cells_28 (leT rfl) rfl ?_)
      clear m; intro u m; simp only [over,zH,zI,zJ,zK,zL,zM,zN,zO,zP,zF,zG,Nat.reduceAdd] at m
      refine n_nil ?_
      refine ⟨m.sel [false,false,false,true,true,true],?_⟩
      refine t_nil ?_
      exact ⟨rfl,g4,g5,g6,rfl,m⟩
     ·
      refine malloc m zero_28 rfl ?_
      clear m; intro g5 u m
      refine n_nil ?_
      refine ⟨m.sel [false,false,true,true,true],?_⟩
      refine t_one (by simp only [zS,zT,zU,zV]; rfl) ?_
      simp only [ev,zD,zE,zF,zG]
      refine malloc m zero_28 rfl ?_
      clear m; intro g6 u m
      refine n_nil ?_
      refine ⟨m.sel [false,false,false,true,true,true],?_⟩
      refine t_one (by simp only [zS,zT,zU,zV]; rfl) ?_
      simp only [ev,zD,zE,zF,zG]
      refine mstoreA m 2 rfl rfl rfl cells_28 (leT rfl) rfl ?_
      clear m; intro u m; simp only [over,zH,zI,zJ,zK,zL,zM,zN,zO,zP,zF,zG,Nat.reduceAdd] at m
      refine n_nil ?_
      refine ⟨m.sel [false,false,false,true,true,true],?_⟩
      refine t_one (by simp only [zS,zT,zU,zV]; rfl) (mstoreA m 0 rfl rfl rfl cells_28 (leT rfl) rfl ?_)
      clear m; intro u m; simp only [over,zH,zI,zJ,zK,zL,zM,zN,zO,zP,zF,zG,Nat.reduceAdd] at m
      refine n_nil ?_
      refine ⟨m.sel [false,false,false,true,true,true],?_⟩
      refine t_one (by simp only [zS,zT,zU,zV]; rfl) (mstoreA m 1 rfl rfl rfl cells_28 (leT rfl) rfl ?_)
      clear m; intro u m; simp only [over,zH,zI,zJ,zK,zL,zM,zN,zO,zP,zF,zG,Nat.reduceAdd] at m
      refine n_nil ?_
      refine ⟨m.sel [false,false,false,true,true,true],?_⟩
      refine t_nil ?_
      exact ⟨rfl,g4,g6,g5,rfl,m.s01⟩
    ·
     refine malloc m zero_28 rfl ?_
     clear m; intro g4 u m
     refine n_nil ?_
     refine ⟨m.sel [false,true,true,true],?_⟩
     simp only [ev,zD,zE,zF,zG]
     refine t_two (by simp only [zS,zT,zU,zV]; rfl) (by simp only [zS,zT,zU,zV]; rfl) ?_ ?_
     ·
      refine malloc m zero_28 rfl ?_
      clear m; intro g5 u m
      refine n_nil ?_
      refine ⟨m.sel [false,false,true,true,true],?_⟩
      refine t_one (by simp only [zS,zT,zU,zV]; rfl) ?_
      simp only [ev,zD,zE,zF,zG]
      refine malloc m zero_28 rfl ?_
      clear m; intro g6 u m
      refine n_nil ?_
      refine ⟨m.sel [false,false,false,true,true,true],?_⟩
      refine t_one (by simp only [zS,zT,zU,zV]; rfl) ?_
      simp only [ev,zD,zE,zF,zG]
      refine mstoreA m 1 rfl rfl rfl cells_28 (leT rfl) rfl ?_
      clear m; intro u m; simp only [over,zH,zI,zJ,zK,zL,zM,zN,zO,zP,zF,zG,Nat.reduceAdd] at m
      refine n_nil ?_
      refine ⟨m.sel [false,false,false,true,true,true],?_⟩
      refine t_one (by simp only [zS,zT,zU,zV]; rfl) (mstoreA m 2 rfl rfl rfl cells_28 (leT rfl) rfl ?_)
      clear m; intro u m; simp only [over,zH,zI,zJ,zK,zL,zM,zN,zO,zP,zF,zG,Nat.reduceAdd] at m
      refine n_nil ?_
      refine ⟨m.sel [false,false,false,true,true,true],?_⟩
      refine t_one (by simp only [zS,zT,zU,zV]; rfl) (mstoreA m 0 rfl rfl rfl cells_28 (leT rfl) rfl ?_)
      clear m; intro u m; simp only [over,zH,zI,zJ,zK,zL,zM,zN,zO,zP,zF,zG,Nat.reduceAdd] at m
      refine n_nil ?_
      refine ⟨m.sel [false,false,false,true,true,true],?_⟩
      refine t_nil ?_
      exact ⟨rfl,g5,g4,g6,rfl,m.s12⟩
     ·
      refine malloc m zero_28 rfl ?_
      clear m; intro g5 u m
      refine n_nil ?_
      refine ⟨m.sel [false,false,true,true,true],?_⟩
      refine t_one (by simp only [zS,zT,zU,zV]; rfl) ?_
      simp only [ev,zD,zE,zF,zG]
      refine malloc m zero_28 rfl ?_
      clear m; intro g6 u m
      refine n_nil ?_
      refine ⟨m.sel [false,false,false,true,true,true],?_⟩
      refine t_one (by simp only [zS,zT,zU,zV]; rfl) ?_
      simp only [ev,zD,zE,zF,zG]
      refine mstoreA m 0 rfl rfl rfl cells_28 (leT rfl) rfl ?_
      clear m; intro u m; simp only [over,zH,zI,zJ,zK,zL,zM,zN,zO,zP,zF,zG,Nat.reduceAdd] at m
      refine n_nil ?_
      refine ⟨m.sel [false,false,false,true,true,true],?_⟩
      refine t_one (by simp only [zS,zT,zU,zV]; rfl) (mstoreA m 2 rfl rfl rfl cells_28 (leT rfl) rfl ?_)
      clear m; intro u m; simp only [over,zH,zI,zJ,zK,zL,zM,zN,zO,zP,zF,zG,Nat.reduceAdd] at m
      refine n_nil ?_
      refine ⟨m.sel [false,false,false,true,true,true],?_⟩
      refine t_one (by simp only [zS,zT,zU,zV]; rfl) (mstoreA m 1 rfl rfl rfl cells_28 (leT rfl) rfl ?_)
      clear m; intro u m; simp only [over,zH,zI,zJ,zK,zL,zM,zN,zO,zP,zF,zG,Nat.reduceAdd] at m
      refine n_nil ?_
      refine ⟨m.sel [false,false,false,true,true,true],?_⟩
      refine t_nil ?_
      exact ⟨rfl,g6,g4,g5,rfl,m.s01.s12⟩
    ·
     refine malloc m zero_28 rfl ?_
     clear m; intro g4 u m
     refine n_nil ?_
     refine ⟨m.sel [false,true,true,true],?_⟩
     simp only [ev,zD,zE,zF,zG]
     refine t_two (by simp only [zS,zT,zU,zV]; rfl) (by simp only [zS,zT,zU,zV]; rfl) ?_ ?_
     ·
      refine malloc m zero_28 rfl ?_
      clear m; intro g5 u m
      refine n_nil ?_
      refine ⟨m.sel [false,false,true,true,true],?_⟩
      refine t_one (by simp only [zS,zT,zU,zV]; rfl) ?_
      simp only [ev,zD,zE,zF,zG]
      refine malloc m zero_28 rfl ?_
      clear m; intro g6 u m
      refine n_nil ?_
      refine ⟨m.sel [false,false,false,true,true,true],?_⟩
      refine t_one (by simp only [zS,zT,zU,zV]; rfl) ?_
      simp only [ev,zD,zE,zF,zG]
      refine mstoreA m 1 rfl rfl rfl cells_28 (leT rfl) rfl ?_
      clear m; intro u m; simp only [over,zH,zI,zJ,zK,zL,zM,zN,zO,zP,zF,zG,Nat.reduceAdd] at m
      refine n_nil ?_
      refine ⟨m.sel [false,false,false,true,true,true],?_⟩
      refine t_one (by simp only [zS,zT,zU,zV]; rfl) (mstoreA m 0 rfl rfl rfl cells_28 (leT rfl) rfl ?_)
      clear m; intro u m; simp only [over,zH,zI,zJ,zK,zL,zM,zN,zO,zP,zF,zG,Nat.reduceAdd] at m
      refine n_nil ?_
      refine ⟨m.sel [false,false,false,true,true,true],?_⟩
      refine t_one (by simp only [zS,zT,zU,zV]; rfl) (mstoreA m 2 rfl rfl rfl cells_28 (leT rfl) rfl ?_)
      clear m; intro u m; simp only [over,zH,zI,zJ,zK,zL,zM,zN,zO,zP,zF,zG,Nat.reduceAdd] at m
      refine n_nil ?_
      refine ⟨m.sel [false,false,false,true,true,true],?_⟩
      refine t_nil ?_
      exact ⟨rfl,g5,g6,g4,rfl,m.s12.s01⟩
     ·
      refine malloc m zero_28 rfl ?_
      clear m; intro g5 u m
      refine n_nil ?_
      refine ⟨m.sel [false,false,true,true,true],?_⟩
      refine t_one (by simp only [zS,zT,zU,zV]; rfl) ?_
      simp only [ev,zD,zE,zF,zG]
      refine malloc m zero_28 rfl ?_
      clear m; intro g6 u m
      refine n_nil ?_
      refine ⟨m.sel [false,false,false,true,true,true],?_⟩
      refine t_one (by simp only [zS,zT,zU,zV]; rfl) ?_
      simp only [ev,zD,zE,zF,zG]
      refine mstoreA m 0 rfl rfl rfl cells_28 (leT rfl) rfl ?_
      clear m; intro u m; simp only [over,zH,zI,zJ,zK,zL,zM,zN,zO,zP,zF,zG,Nat.reduceAdd] at m
      refine n_nil ?_
      refine ⟨m.sel [false,false,false,true,true,true],?_⟩
      refine t_one (by simp only [zS,zT,zU,zV]; rfl) (mstoreA m 1 rfl rfl rfl cells_28 (leT rfl) rfl ?_)
      clear m; intro u m; simp only [over,zH,zI,zJ,zK,zL,zM,zN,zO,zP,zF,zG,Nat.reduceAdd] at m
      refine n_nil ?_
      refine ⟨m.sel [false,false,false,true,true,true],?_⟩
      refine t_one (by simp only [zS,zT,zU,zV]; rfl) (mstoreA m 2 rfl rfl rfl cells_28 (leT rfl) rfl ?_)
      clear m; intro u m; simp only [over,zH,zI,zJ,zK,zL,zM,zN,zO,zP,zF,zG,Nat.reduceAdd] at m
      refine n_nil ?_
      refine ⟨m.sel [false,false,false,true,true,true],?_⟩
      refine t_nil ?_
      exact ⟨rfl,g6,g5,g4,rfl,m.s01.s12.s01⟩
   intro g4 g5 g6 u m
   try dsimp only
   refine k10 _ _ ?_
   refine c_seq fun K11 k11=>c_seq fun K12 k12=>?_
   refine mh m [true,true,true,true,true,true] [(0,true),(1,true),(3,true),(5,true),(8,true),(9,true),(11,true),(13,true),(16,true),(17,true),(19,true),(21,true),(26,true),(2,true),(4,true),(6,true),(10,true),(12,true),(14,true),(18,true),(20,true),(22,true),(7,false),(15,false),(23,false),(24,false),(25,true)] follows_mixed (by kernel_rfl) (panic_put (fun _ _ _ _ _ h=>h)) (ol:=?_) ?hol ?_
   case hol=>simp only [zQ,zR,zS,zT,zU,zV]; try rfl
   clear m; intro u m
   refine h_val (r_move) (h_val (r_fieldAddr (c:=0) Tryz.underlying28 rfl cells_3 rfl rfl) (h_val (r_fieldAddr (c:=0) Tryz.underlying28 rfl cells_3 rfl rfl) (h_val (r_fieldAddr (c:=0) Tryz.underlying28 rfl cells_3 rfl rfl) ?_)))
   simp only [ev,zD,zE,zF,zG]
   refine h_val (r_move) (h_val (r_fieldAddr (c:=0) Tryz.underlying28 rfl cells_3 rfl rfl) (h_val (r_fieldAddr (c:=0) Tryz.underlying28 rfl cells_3 rfl rfl) (h_val (r_fieldAddr (c:=0) Tryz.underlying28 rfl cells_3 rfl rfl) ?_)))
   simp only [ev,zD,zE,zF,zG]
   refine h_val (r_move) (h_val (r_fieldAddr (c:=0) Tryz.underlying28 rfl cells_3 rfl rfl) (h_val (r_fieldAddr (c:=0) Tryz.underlying28 rfl cells_3 rfl rfl) (h_val (r_fieldAddr (c:=0) Tryz.underlying28 rfl cells_3 rfl rfl) ?_)))
   simp only [ev,zD,zE,zF,zG]
   refine h_val (r_move) ?_
   simp only [ev,zD,zE,zF,zG]
   refine h_load rfl (fun u m=>((m.b 2 rfl).lies1 agg_3 rfl)) ?_
   simp only [ev,zD,zE,zF,zG]
   refine h_load rfl (fun u m=>((m.b 1 rfl).lies1 agg_3 rfl)) ?_
   simp only [ev,zD,zE,zF,zG]
   refine h_load rfl (fun u m=>((m.b 0 rfl).lies1 agg_3 rfl)) ?_
   simp only [ev,zD,zE,zF,zG]
   refine h_load rfl (fun u m=>((m.b 2 rfl).lies1 agg_3 rfl)) ?_
   simp only [ev,zD,zE,zF,zG]
   refine h_load rfl (fun u m=>((m.b 1 rfl).lies1 agg_3 rfl)) ?_
   simp only [ev,zD,zE,zF,zG]
   refine h_load rfl (fun u m=>((m.b 0 rfl).lies1 agg_3 rfl)) ?_
   simp only [ev,zD,zE,zF,zG]
   refine h_load rfl (fun u m=>((m.b 2 rfl).lies1 agg_3 rfl)) ?_
   simp only [ev,zD,zE,zF,zG]
   refine h_load rfl (fun u m=>((m.b 1 rfl).lies1 agg_3 rfl)) ?_
   simp only [ev,zD,zE,zF,zG]
   refine h_load rfl (fun u m=>((m.b 0 rfl).lies1 agg_3 rfl)) ?_
   simp only [ev,zD,zE,zF,zG]
   refine h_step (mcallP m rfl rfl (prod3_c) ?_)
   clear m; intro u m
   refine n_nil ?_
   refine ⟨m,?_⟩
   refine h_step ?_
   simp only [ev,zD,zE,zF,zG]
   refine mcallP m rfl rfl (prod3_c) ?_
   clear m; intro u m
   refine n_nil ?_
   refine ⟨m,?_⟩
   refine h_step ?_
   simp only [ev,zD,zE,zF,zG]
   refine mcallP m rfl rfl (prod3_c) ?_
   clear m; intro u m
   refine n_nil ?_
   refine ⟨m,?_⟩
   refine h_step ?_
   simp only [ev,zD,zE,zF,zG]
   refine n_bs_156_3 rfl rfl rfl ?_
   intro u g7 e hg hB; replace m:=m.newB e hg hB; clear e hg hB
   refine n_nil ?_
   refine ⟨m.sel [false,true,true,true,true,true,true],?_⟩
   refine h_val (r_lenS rfl Tryz.underlying156 rfl) (h_nil (k12 _ _ ?_))
   refine wp_block (wp_loop_rounds 4 (rounds_step (c_seq fun K13 k13=>wp_region_lit (n_val (r_lssT (m:=0) (n:=3) rfl rfl (by decide)) (n_nil (k13 _ _ ?_))))))
   refine c_seq fun K14 k14=>c_yes rfl (wp_skip (k14 _ _ ?_))
   refine c_seq fun K15 k15=>wp_block (c_seq fun K16 k16=>wp_region_lit ?_)
   simp only [ev,zD,zE,zF,zG]
   refine n_val (r_indexAddrS Tryz.underlying156 cells_32 rfl rfl (by decide) (by omega) rfl) ?_
   simp only [ev,zD,zE,zF,zG]
   refine n_load rfl ((m.b 0 rfl).lies agg_32 cells_32 rfl rfl) ?_
   simp only [ev,zD,zE,zF,zG,zH,zI,zJ,zK,Nat.zero_add,Nat.reduceAdd,Nat.reduceMul,Int.reduceToNat]
   refine malloc m zero_32 rfl ?_
   clear m; intro g8 u m
   simp only [ev,zD,zE,zF,zG]
   refine mstoreA m 0 rfl rfl rfl cells_32 (leT rfl) rfl ?_
   clear m; intro u m; simp only [over,zH,zI,zJ,zK,zL,zM,zN,zO,zP,zF,zG,Nat.reduceAdd] at m
   refine n_nil (k16 _ _ ?_)
   refine wp_region_lit (n_load rfl ((m.b 6 rfl).full agg_32 cells_32) ?_)
   simp only [ev,zD,zE,zF,zG]
   refine n_load rfl ((m.b 0 rfl).full agg_32 cells_32) ?_
   simp only [ev,zD,zE,zF,zG]
   refine mcallP m rfl rfl (Add_c Bw.up Bw.up) ?_
   clear m; intro u m
   simp only [ev,zD,zE,zF,zG]
   refine mstoreA m 6 rfl rfl rfl cells_32 (leT rfl) rfl ?_
   clear m; intro u m; simp only [over,zH,zI,zJ,zK,zL,zM,zN,zO,zP,zF,zG,Nat.reduceAdd] at m
   refine n_nil (k15 _ _ ?_)
   refine wp_region_lit (n_val (r_add (m:=0) (n:=1) (r:=1) rfl rfl (by decide)) (n_val (r_move) (n_nil (then_rounds (c_seq fun K17 k17=>wp_region_lit (n_val (r_lssT (m:=1) (n:=3) rfl rfl (by decide)) (n_nil (k17 _ _ ?_))))))))
   refine c_seq fun K18 k18=>c_yes rfl (wp_skip (k18 _ _ ?_))
   refine c_seq fun K19 k19=>wp_block (c_seq fun K20 k20=>wp_region_lit ?_)
   simp only [ev,zD,zE,zF,zG]
   refine n_val (r_indexAddrS Tryz.underlying156 cells_32 rfl rfl (by decide) (by omega) rfl) ?_
   simp only [ev,zD,zE,zF,zG]
   refine n_load rfl ((m.b 1 rfl).lies agg_32 cells_32 rfl rfl) ?_
   simp only [ev,zD,zE,zF,zG,zH,zI,zJ,zK,Nat.zero_add,Nat.reduceAdd,Nat.reduceMul,Int.reduceToNat]
   refine malloc m zero_32 rfl ?_
   clear m; intro g9 u m
   simp only [ev,zD,zE,zF,zG]
   refine mstoreA m 0 rfl rfl rfl cells_32 (leT rfl) rfl ?_
   clear m; intro u m; simp only [over,zH,zI,zJ,zK,zL,zM,zN,zO,zP,zF,zG,Nat.reduceAdd] at m
   refine n_nil (k20 _ _ ?_)
   refine wp_region_lit (n_load rfl ((m.b 7 rfl).full agg_32 cells_32) ?_)
   simp only [ev,zD,zE,zF,zG]
   refine n_load rfl ((m.b 0 rfl).full agg_32 cells_32) ?_
   simp only [ev,zD,zE,zF,zG]
   refine mcallP m rfl rfl (Add_c Bw.up Bw.up) ?_
   clear m; intro u m
   simp only [ev,zD,zE,zF,zG]
   refine mstoreA m 7 rfl rfl rfl cells_32 (leT rfl) rfl ?_
   clear m; intro u m; simp only [over,zH,zI,zJ,zK,zL,zM,zN,zO,zP,zF,zG,Nat.reduceAdd] at m
   refine n_nil (k19 _ _ ?_)
   refine wp_region_lit (n_val (r_add (m:=1) (n:=1) (r:=2) rfl rfl (by decide)) (n_val (r_move) (n_nil (then_rounds (c_seq fun K21 k21=>wp_region_lit (n_val (r_lssT (m:=2) (n:=3) rfl rfl (by decide)) (n_nil (k21 _ _ ?_))))))))
   refine c_seq fun K22 k22=>c_yes rfl (wp_skip (k22 _ _ ?_))
   refine c_seq fun K23 k23=>wp_block (c_seq fun K24 k24=>wp_region_lit ?_)
   simp only [ev,zD,zE,zF,zG]
   refine n_val (r_indexAddrS Tryz.underlying156 cells_32 rfl rfl (by decide) (by omega) rfl) ?_
   simp only [ev,zD,zE,zF,zG]
   refine n_load rfl ((m.b 2 rfl).lies agg_32 cells_32 rfl rfl) ?_
   simp only [ev,zD,zE,zF,zG,zH,zI,zJ,zK,Nat.zero_add,Nat.reduceAdd,Nat.reduceMul,Int.reduceToNat]
   refine malloc m zero_32 rfl ?_
   clear m; intro g10 u m
   simp only [ev,zD,zE,zF,zG]
   refine mstoreA m 0 rfl rfl rfl cells_32 (leT rfl) rfl ?_
   clear m; intro u m; simp only [over,zH,zI,zJ,zK,zL,zM,zN,zO,zP,zF,zG,Nat.reduceAdd] at m
   refine n_nil (k24 _ _ ?_)
   refine wp_region_lit (n_load rfl ((m.b 8 rfl).full agg_32 cells_32) ?_)
   simp only [ev,zD,zE,zF,zG]
   refine n_load rfl ((m.b 0 rfl).full agg_32 cells_32) ?_
   simp only [ev,zD,zE,zF,zG]
   refine mcallP m rfl rfl (Add_c Bw.up Bw.up) ?_
   clear m; intro u m
   simp only [ev,zD,zE,zF,zG]
   refine mstoreA m 8 rfl rfl rfl cells_32 (leT rfl) rfl ?_
   clear m; intro u m; simp only [over,zH,zI,zJ,zK,zL,zM,zN,zO,zP,zF,zG,Nat.reduceAdd] at m
   refine n_nil (k23 _ _ ?_)
   refine wp_region_lit (n_val (r_add (m:=2) (n:=1) (r:=3) rfl rfl (by decide)) (n_val (r_move) (n_nil (then_rounds (c_seq fun K25 k25=>wp_region_lit (n_val (r_lssF (m:=3) (n:=3) rfl rfl (by decide)) (n_nil (k25 _ _ ?_))))))))
   refine c_seq fun K26 k26=>c_no rfl (wp_exit (k11 _ _ ?_))
   refine c_seq fun K27 k27=>?_
   simp only [ev,zD,zE,zF,zG]
   refine mh m [true,true,true,true,true,true,true,true,true,true] [(0,true),(1,true),(3,true),(5,true),(8,true),(9,true),(11,true),(13,true),(16,true),(17,true),(19,true),(21,true),(26,true),(2,true),(4,true),(6,true),(10,true),(12,true),(14,true),(18,true),(20,true),(22,true),(7,false),(15,false),(23,false),(24,false),(25,true)] follows_mixed (by kernel_rfl) (panic_put (fun _ _ _ _ _ h=>h)) (ol:=?_) ?hol ?_
   case hol=>simp only [zQ,zR,zS,zT,zU,zV]; try rfl
   clear m; intro u m
   refine h_val (r_move) (h_val (r_fieldAddr (c:=0) Tryz.underlying28 rfl cells_3 rfl rfl) (h_val (r_fieldAddr (c:=0) Tryz.underlying28 rfl cells_3 rfl rfl) (h_val (r_fieldAddr (c:=0) Tryz.underlying28 rfl cells_3 rfl rfl) ?_)))
   simp only [ev,zD,zE,zF,zG]
   refine h_val (r_move) (h_val (r_fieldAddr (c:=0) Tryz.underlying28 rfl cells_3 rfl rfl) (h_val (r_fieldAddr (c:=0) Tryz.underlying28 rfl cells_3 rfl rfl) (h_val (r_fieldAddr (c:=0) Tryz.underlying28 rfl cells_3 rfl rfl) ?_)))
   simp only [ev,zD,zE,zF,zG]
   refine h_val (r_move) (h_val (r_fieldAddr (c:=0) Tryz.underlying28 rfl cells_3 rfl rfl) (h_val (r_fieldAddr (c:=0) Tryz.underlying28 rfl cells_3 rfl rfl) (h_val (r_fieldAddr (c:=0) Tryz.underlying28 rfl cells_3 rfl rfl) ?_)))
   simp only [ev,zD,zE,zF,zG]
   refine h_val (r_move) ?_
   simp only [ev,zD,zE,zF,zG]
   refine h_load rfl (fun u m=>((m.b 6 rfl).lies1 agg_3 rfl)) ?_
   simp only [ev,zD,zE,zF,zG]
   refine h_load rfl (fun u m=>((m.b 5 rfl).lies1 agg_3 rfl)) ?_
   simp only [ev,zD,zE,zF,zG]
   refine h_load rfl (fun u m=>((m.b 4 rfl).lies1 agg_3 rfl)) ?_
   simp only [ev,zD,zE,zF,zG]
   refine h_load rfl (fun u m=>((m.b 6 rfl).lies1 agg_3 rfl)) ?_
   simp only [ev,zD,zE,zF,zG]
   refine h_load rfl (fun u m=>((m.b 5 rfl).lies1 agg_3 rfl)) ?_
   simp only [ev,zD,zE,zF,zG]
   refine h_load rfl (fun u m=>((m.b 4 rfl).lies1 agg_3 rfl)) ?_
   simp only [ev,zD,zE,zF,zG]
   refine h_load rfl (fun u m=>((m.b 6 rfl).lies1 agg_3 rfl)) ?_
   simp only [ev,zD,zE,zF,zG]
   refine h_load rfl (fun u m=>((m.b 5 rfl).lies1 agg_3 rfl)) ?_
   simp only [ev,zD,zE,zF,zG]
   refine h_load rfl (fun u m=>((m.b 4 rfl).lies1 agg_3 rfl)) ?_
   simp only [ev,zD,zE,zF,zG]
   refine h_step (mcallP m rfl rfl (prod3_c) ?_)
   clear m; intro u m
   refine n_nil ?_
   refine ⟨m,?_⟩
   refine h_step ?_
   simp only [ev,zD,zE,zF,zG]
   refine mcallP m rfl rfl (prod3_c) ?_
   clear m; intro u m
   refine n_nil ?_
   refine ⟨m,?_⟩
   refine h_step ?_
   simp only [ev,zD,zE,zF,zG]
   refine mcallP m rfl rfl (prod3_c) ?_
   clear m; intro u m
   refine n_nil ?_
   refine ⟨m,?_⟩
   refine h_step ?_
   simp only [ev,zD,zE,zF,zG]
   refine n_bs_156_3 rfl rfl rfl ?_
   intro u g11 e hg hB; replace m:=m.newB e hg hB; clear e hg hB
   refine n_nil ?_
   refine ⟨m.sel [false,true,true,true,true,true,true,true,true,true,true],?_⟩
   refine h_val (r_lenS rfl Tryz.underlying156 rfl) (h_nil (k27 _ _ ?_))
   refine wp_block (wp_loop_rounds 4 (rounds_step (c_seq fun K28 k28=>wp_region_lit (n_val (r_lssT (m:=0) (n:=3) rfl rfl (by decide)) (n_nil (k28 _ _ ?_))))))
   refine c_seq fun K29 k29=>c_yes rfl (wp_skip (k29 _ _ ?_))
   refine c_seq fun K30 k30=>wp_block (c_seq fun K31 k31=>wp_region_lit ?_)
   simp only [ev,zD,zE,zF,zG]
   refine n_val (r_indexAddrS Tryz.underlying156 cells_32 rfl rfl (by decide) (by omega) rfl) ?_
   simp only [ev,zD,zE,zF,zG]
   refine n_load rfl ((m.b 0 rfl).lies agg_32 cells_32 rfl rfl) ?_
   simp only [ev,zD,zE,zF,zG,zH,zI,zJ,zK,Nat.zero_add,Nat.reduceAdd,Nat.reduceMul,Int.reduceToNat]
   refine malloc m zero_32 rfl ?_
   clear m; intro g12 u m
   simp only [ev,zD,zE,zF,zG]
   refine mstoreA m 0 rfl rfl rfl cells_32 (leT rfl) rfl ?_
   clear m; intro u m; simp only [over,zH,zI,zJ,zK,zL,zM,zN,zO,zP,zF,zG,Nat.reduceAdd] at m
   refine n_nil (k31 _ _ ?_)
   refine wp_region_lit (n_load rfl ((m.b 10 rfl).full agg_32 cells_32) ?_)
   simp only [ev,zD,zE,zF,zG]
   refine n_load rfl ((m.b 0 rfl).full agg_32 cells_32) ?_
   simp only [ev,zD,zE,zF,zG]
   refine mcallP m rfl rfl (Sub_c Bw.up Bw.up) ?_
   clear m; intro u m
   simp only [ev,zD,zE,zF,zG]
   refine mstoreA m 10 rfl rfl rfl cells_32 (leT rfl) rfl ?_
   clear m; intro u m; simp only [over,zH,zI,zJ,zK,zL,zM,zN,zO,zP,zF,zG,Nat.reduceAdd] at m
   refine n_nil (k30 _ _ ?_)
   refine wp_region_lit (n_val (r_add (m:=0) (n:=1) (r:=1) rfl rfl (by decide)) (n_val (r_move) (n_nil (then_rounds (c_seq fun K32 k32=>wp_region_lit (n_val (r_lssT (m:=1) (n:=3) rfl rfl (by decide)) (n_nil (k32 _ _ ?_))))))))
   refine c_seq fun K33 k33=>c_yes rfl (wp_skip (k33 _ _ ?_))
   refine c_seq fun K34 k34=>wp_block (c_seq fun K35 k35=>wp_region_lit ?_)
   simp only [ev,zD,zE,zF,zG]
   refine n_val (r_indexAddrS Tryz.underlying156 cells_32 rfl rfl (by decide) (by omega) rfl) ?_
   simp only [ev,zD,zE,zF,zG]
   refine n_load rfl ((m.b 1 rfl).lies agg_32 cells_32 rfl rfl) ?_
   simp only [ev,zD,zE,zF,zG,zH,zI,zJ,zK,Nat.zero_add,Nat.reduceAdd,Nat.reduceMul,Int.reduceToNat]
   refine malloc m zero_32 rfl ?_
   clear m; intro g13 u m
   simp only [ev,zD,zE,zF,zG]
   refine mstoreA m 0 rfl rfl rfl cells_32 (leT rfl) rfl ?_
   clear m; intro u m; simp only [over,zH,zI,zJ,zK,zL,zM,zN,zO,zP,zF,zG,Nat.reduceAdd] at m
   refine n_nil (k35 _ _ ?_)
   refine wp_region_lit (n_load rfl ((m.b 11 rfl).full agg_32 cells_32) ?_)
   simp only [ev,zD,zE,zF,zG]
   refine n_load rfl ((m.b 0 rfl).full agg_32 cells_32) ?_
   simp only [ev,zD,zE,zF,zG]
   refine mcallP m rfl rfl (Sub_c Bw.up Bw.up) ?_
   clear m; intro u m
   simp only [ev,zD,zE,zF,zG]
   refine mstoreA m 11 rfl rfl rfl cells_32 (leT rfl) rfl ?_
   clear m; intro u m; simp only [over,zH,zI,zJ,zK,zL,zM,zN,zO,zP,zF,zG,Nat.reduceAdd] at m
   refine n_nil (k34 _ _ ?_)
   refine wp_region_lit (n_val (r_add (m:=1) (n:=1) (r:=2) rfl rfl (by decide)) (n_val (r_move) (n_nil (then_rounds (c_seq fun K36 k36=>wp_region_lit (n_val (r_lssT (m:=2) (n:=3) rfl rfl (by decide)) (n_nil (k36 _ _ ?_))))))))
   refine c_seq fun K37 k37=>c_yes rfl (wp_skip (k37 _ _ ?_))
   refine c_seq fun K38 k38=>wp_block (c_seq fun K39 k39=>wp_region_lit ?_)
   simp only [ev,zD,zE,zF,zG]
   refine n_val (r_indexAddrS Tryz.underlying156 cells_32 rfl rfl (by decide) (by omega) rfl) ?_
   simp only [ev,zD,zE,zF,zG]
   refine n_load rfl ((m.b 2 rfl).lies agg_32 cells_32 rfl rfl) ?_
   simp only [ev,zD,zE,zF,zG,zH,zI,zJ,zK,Nat.zero_add,Nat.reduceAdd,Nat.reduceMul,Int.reduceToNat]
   refine malloc m zero_32 rfl ?_
   clear m; intro g14 u m
   simp only [ev,zD,zE,zF,zG]
   refine mstoreA m 0 rfl rfl rfl cells_32 (leT rfl) rfl ?_
   clear m; intro u m; simp only [over,zH,zI,zJ,zK,zL,zM,zN,zO,zP,zF,zG,Nat.reduceAdd] at m
   refine n_nil (k39 _ _ ?_)
   refine wp_region_lit (n_load rfl ((m.b 12 rfl).full agg_32 cells_32) ?_)
   simp only [ev,zD,zE,zF,zG]
   refine n_load rfl ((m.b 0 rfl).full agg_32 cells_32) ?_
   simp only [ev,zD,zE,zF,zG]
   refine mcallP m rfl rfl (Sub_c Bw.up Bw.up) ?_
   clear m; intro u m
   simp only [ev,zD,zE,zF,zG]
   refine mstoreA m 12 rfl rfl rfl cells_32 (leT rfl) rfl ?_
   clear m; intro u m; simp only [over,zH,zI,zJ,zK,zL,zM,zN,zO,zP,zF,zG,Nat.reduceAdd] at m
   refine n_nil (k38 _ _ ?_)
   refine wp_region_lit (n_val (r_add (m:=2) (n:=1) (r:=3) rfl rfl (by decide)) (n_val (r_move) (n_nil (then_rounds (c_seq fun K40 k40=>wp_region_lit (n_val (r_lssF (m:=3) (n:=3) rfl rfl (by decide)) (n_nil (k40 _ _ ?_))))))))
   refine c_seq fun K41 k41=>c_no rfl (wp_exit (k8 _ _ ?_))
   refine wp_region_lit ?_
   simp only [ev,zD,zE,zF,zG]
   refine n_val (r_add rfl rfl (wrap_i64 (by omega) (by omega))) (n_val (r_move) (n_nil ?_))
   simp only [ev,zD,zE,zF,zG]
   simp only [Exit.inBlock,Exit.then]
   refine ⟨N - (k + 1),_,?_,rfl,?_,?_⟩
   · omega
   · simp only [zQ,zR,zD,zE,setG_cons,setG_nil,setMany_cons,setMany_nil,zF,zG]
   ·
    simp only [zQ,zR,zD,zE]
    exact ⟨k + 1,rfl,((m.re 12 rfl (by rw [sumT_step ht,← det_step]; exact (m.b 12 rfl))).sel [false,false,false,false,false,false,false,false,false,false,false,false,true,true]),by omega,rfl⟩
  ·
   have hkN : k = N:=by omega
   rw [hkN,show ts.take N = ts from List.take_of_length_le (by rw [hT.len]; exact Nat.le_refl _)] at m
   refine wp_exit (k4 _ _ ?_)
   refine c_seq fun K42 k42=>wp_region_lit (n_load rfl ((m.b 0 rfl).full agg_32 cells_32) ?_)
   simp only [ev,zD,zE,zF,zG]
   refine mstoreA m 1 rfl rfl rfl cells_32 (leT rfl) rfl ?_
   clear m; intro u m; simp only [over,zH,zI,zJ,zK,zL,zM,zN,zO,zP,zF,zG,Nat.reduceAdd] at m
   refine n_nil (k42 _ _ ?_)
   refine wp_ret ?_
   try simp only [Exit.inBlock,Exit.then,if_true]
   refine fin1 rfl ⟨_,rfl,((m.b 1 rfl).full agg_32 cells_32)⟩ ?_
   try simp only [zD,zE]
   exact ⟨_,rfl,m.ext,rfl⟩
end Go.Proofs.YtmcgcnpgkkfkoaaGreatDoor
namespace Go.Proofs.YtmcgcnpgkkfkoaaGreatDoor
open Go.RowKit Go.Lith
set_option maxRecDepth 100000
attribute [local irreducible] wpList wpQuiet wpMix wpMixH wpTree Code.wp
theorem Volume_c {ts : List T3} {N cap : Nat} {A : Option Addr} (w : World) (hT : TrisAt w A N ts) (hN : N < 4611686018427387904) : Does Tryz.prog 25 [.slice A N cap] w (fun v _=>v = Q (Rat.divInt (sumT det ts) 6)):=by
 refine ⟨en_25,?_⟩
 have m:=Mem.refl w
 haveI : Bw 264 (sumT det ts):=⟨sumT_bd (m:=200) (fun u hu=>by haveI:=hT.it u hu; exact det_bd) (by rw [hT.len]; omega)⟩
 go_enter Tryz.func25,Tryz.ntmps25
 refine c_seq fun K1 k1=>wp_region_lit (malloc m zero_34 rfl ?_)
 clear m; intro g1 u m
 refine n_nil (k1 _ _ ?_)
 refine c_seq fun K2 k2=>wp_region_lit (n_val (r_move) ?_)
 simp only [ev,zD,zE,zF,zG]
 refine mcall m rfl rfl (Volume6_c _ (hT.ext m.ext) hN) ?_
 clear m; rintro v u m rfl
 simp only [ev,zD,zE,zF,zG]
 refine mcallP m rfl rfl (From_c Iw.h) ?_
 clear m; intro u m
 simp only [ev,zD,zE,zF,zG]
 refine mcallP m rfl rfl (mFrac_c (n:=sumT det ts) (d:=6) Bw.up Bw.up (by decide)) ?_
 clear m; intro u m
 simp only [ev,zD,zE,zF,zG]
 refine mstoreA m 0 rfl rfl rfl cells_34 (leT rfl) rfl ?_
 clear m; intro u m; simp only [over,zH,zI,zJ,zK,zL,zM,zN,zO,zP,zF,zG,Nat.reduceAdd] at m
 refine n_nil (k2 _ _ ?_)
 refine wp_ret ?_
 try simp only [Exit.inBlock,Exit.then,if_true]
 refine fin1 rfl ⟨_,rfl,((m.b 0 rfl).full agg_34 cells_34)⟩ ?_
 try simp only [zD,zE]
 exact ⟨_,rfl,m.ext,rfl⟩
theorem Centre_c {ts : List T3} {N cap : Nat} {A : Option Addr} (w : World) (hT : TrisAt w A N ts) (hN : N < 4611686018427387904) : Does Tryz.prog 22 [.slice A N cap] w (fun v _=>v = .tuple #[fv (cq (sumT (mom P3.x) ts) (sumT det ts)) (cq (sumT (mom P3.y) ts) (sumT det ts)) (cq (sumT (mom P3.z) ts) (sumT det ts)),.bool (decide (sumT det ts ≠ 0))]):=by
 refine ⟨en_22,?_⟩
 have m:=Mem.refl w
 go_enter Tryz.func22,Tryz.ntmps22
 refine c_seq fun K1 k1=>wp_region_lit (malloc m zero_49 rfl ?_)
 clear m; intro g1 u m
 refine n_val (r_assign) (n_nil (k1 _ _ ?_))
 refine c_seq fun K2 k2=>wp_region_lit ?_
 simp only [ev,zD,zE,zF,zG]
 refine malloc m zero_32 rfl ?_
 clear m; intro g2 u m
 refine n_nil (k2 _ _ ?_)
 refine c_seq fun K3 k3=>wp_region_lit ?_
 simp only [ev,zD,zE,zF,zG]
 refine malloc m zero_76 rfl ?_
 clear m; intro g3 u m
 refine n_nil (k3 _ _ ?_)
 refine c_seq fun K4 k4=>c_seq fun K5 k5=>wp_region_lit (n_val (r_move) (n_val (r_lenS rfl Tryz.underlying24 rfl) (n_val (r_move) ?_)))
 simp only [ev,zD,zE,zF,zG]
 refine n_nil (k5 _ _ ?_)
 refine wp_block ?_
 try simp only [Nat.zero_add,Nat.reduceAdd,Nat.reduceMul,Int.reduceToNat]
 refine c_loopg [18] [7,8,9,10,12,19,20,21,22,23,24,25,26,27,28,29,30,31,32,33,34,35,36,37,38,39,40,41,42,43,44,45,46,47,48,49,50,51] (fun n vs wl=>∃ (k : Nat),vs = [.int .i64 (k:Int)] ∧ Mem w wl [bI g3 [.bool (wneg (sumT (mom P3.x) (ts.take k))),.string (wmag (sumT (mom P3.x) (ts.take k))),.bool (wneg (sumT (mom P3.y) (ts.take k))),.string (wmag (sumT (mom P3.y) (ts.take k))),.bool (wneg (sumT (mom P3.z) (ts.take k))),.string (wmag (sumT (mom P3.z) (ts.take k)))] 76,bI g2 [.bool (wneg (sumT det (ts.take k))),.string (wmag (sumT det (ts.take k)))] 32,bI g1 [.bool false,.string ⟨#[]⟩,.bool false,.string ⟨#[]⟩,.bool false,.string ⟨#[]⟩,.bool false,.string ⟨#[]⟩,.bool false,.string ⟨#[]⟩,.bool false,.string ⟨#[]⟩] 49] ∧ (k ≤ N) ∧ (n = N - k)) ?_ ?_
 ·
  apply Exists.intro
  simp only [zQ,zR,zD,zE]
  exact ⟨0,rfl,m,Nat.zero_le _,rfl⟩
 ·
  intro n vs wr hI u
  clear m
  obtain ⟨k,rfl,m,hk,hn⟩:=hI
  simp only [setG_cons,setG_nil,setMany_cons,setMany_nil,zF,zG]
  refine c_seq fun K6 k6=>wp_region_lit (n_val (r_lss rfl rfl) (n_nil (k6 _ _ ?_)))
  refine c_seq fun K7 k7=>?_
  simp only [ev,zD,zE,zF,zG]
  refine c_if rfl (fun hc1=>?_) (fun hc1=>?_)
  ·
   obtain ⟨t,ht,_,a,rfl,hrow⟩:=hT.get (i:=k) (by omega)
   haveI : Bw 264 (sumT det (ts.take k)):=⟨sumT_bdt (m:=200) (fun u hu=>by haveI:=hT.it u hu; exact det_bd) (by rw [hT.len]; omega)⟩
   haveI : Bw 364 (sumT (mom P3.x) (ts.take k)):=⟨sumT_bdt (m:=300) (fun u hu=>by haveI:=hT.it u hu; exact mom_bd Iw.h.bd Iw.h.bd Iw.h.bd) (by rw [hT.len]; omega)⟩
   haveI : Bw 364 (sumT (mom P3.y) (ts.take k)):=⟨sumT_bdt (m:=300) (fun u hu=>by haveI:=hT.it u hu; exact mom_bd Iw.h.bd Iw.h.bd Iw.h.bd) (by rw [hT.len]; omega)⟩
   haveI : Bw 364 (sumT (mom P3.z) (ts.take k)):=⟨sumT_bdt (m:=300) (fun u hu=>by haveI:=hT.it u hu; exact mom_bd Iw.h.bd Iw.h.bd Iw.h.bd) (by rw [hT.len]; omega)⟩
   refine wp_skip (k7 _ _ ?_)
   refine c_seq fun K8 k8=>wp_block (c_seq fun K9 k9=>wp_region_lit (n_val (r_indexAddrS Tryz.underlying24 cells_59 rfl rfl (by omega) (by omega) (addrN (Int.toNat_natCast _))) ?_))
   simp only [ev,zD,zE,zF,zG]
   refine n_load rfl ((hrow.ext m.ext).lies agg_59 cells_59) ?_
   simp only [ev,zD,zE,zF,zG]
   refine malloc m zero_59 rfl ?_
   clear m; intro g4 u m
   simp only [ev,zD,zE,zF,zG]
   refine mstoreA m 0 rfl rfl rfl cells_59 (leT rfl) rfl ?_
   clear m; intro u m; simp only [over,zH,zI,zJ,zK,zL,zM,zN,zO,zP,zF,zG,Nat.reduceAdd] at m
   refine n_nil (k9 _ _ ?_)
   refine c_seq fun K10 k10=>wp_region_lit (n_load rfl ((m.b 0 rfl).full agg_59 cells_59) ?_)
   simp only [ev,zD,zE,zF,zG]
   refine n_bs_24_1 rfl ?_
   intro u g5 e hg hB; replace m:=m.newB e hg hB; clear e hg hB
   simp only [ev,zD,zE,zF,zG]
   refine mcall m rfl rfl (Volume6_c _ (TrisAt.one (m.b 0 rfl)) (by decide)) ?_
   clear m; rintro v u m rfl
   simp only [ev,zD,zE,zF,zG]
   rw [sumT_one]
   refine malloc m zero_32 rfl ?_
   clear m; intro g6 u m
   simp only [ev,zD,zE,zF,zG]
   refine mstoreA m 0 rfl rfl rfl cells_32 (leT rfl) rfl ?_
   clear m; intro u m; simp only [over,zH,zI,zJ,zK,zL,zM,zN,zO,zP,zF,zG,Nat.reduceAdd] at m
   refine n_nil (k10 _ _ ?_)
   refine c_seq fun K11 k11=>wp_region_lit (n_load rfl ((m.b 4 rfl).full agg_32 cells_32) ?_)
   simp only [ev,zD,zE,zF,zG]
   refine n_load rfl ((m.b 0 rfl).full agg_32 cells_32) ?_
   simp only [ev,zD,zE,zF,zG]
   refine mcallP m rfl rfl (Add_c Bw.up Bw.up) ?_
   clear m; intro u m
   simp only [ev,zD,zE,zF,zG]
   refine mstoreA m 4 rfl rfl rfl cells_32 (leT rfl) rfl ?_
   clear m; intro u m; simp only [over,zH,zI,zJ,zK,zL,zM,zN,zO,zP,zF,zG,Nat.reduceAdd] at m
   refine n_nil (k11 _ _ ?_)
   refine c_seq fun K12 k12=>wp_region_lit (mcallP m rfl rfl (readers_c) ?_)
   clear m; intro u m
   refine n_val (r_move) (n_nil (k12 _ _ ?_))
   refine wp_block (wp_loop_rounds 4 (rounds_step (c_seq fun K13 k13=>wp_region_lit (n_val (r_lssT (m:=0) (n:=3) rfl rfl (by decide)) (n_nil (k13 _ _ ?_))))))
   refine c_seq fun K14 k14=>c_yes rfl (wp_skip (k14 _ _ ?_))
   refine c_seq fun K15 k15=>wp_block (c_seq fun K16 k16=>wp_region_lit (n_val (r_move) ?_))
   simp only [ev,zD,zE,zF,zG]
   refine n_val (r_index_95_0 rfl rfl) (n_val (r_assign) (n_val (r_assign) (n_nil (k16 _ _ ?_))))
   refine c_seq fun K17 k17=>wp_region_lit ?_
   simp only [ev,zD,zE,zF,zG]
   refine n_load rfl ((m.b 2 rfl).full agg_59 cells_59) ?_
   simp only [ev,zD,zE,zF,zG]
   refine n_val (r_move) (n_nil (k17 _ _ ?_))
   refine wp_block (wp_loop_rounds 4 (rounds_step (c_seq fun K18 k18=>wp_region_lit (n_val (r_lssT (m:=0) (n:=3) rfl rfl (by decide)) (n_nil (k18 _ _ ?_))))))
   refine c_seq fun K19 k19=>c_yes rfl (wp_skip (k19 _ _ ?_))
   refine c_seq fun K20 k20=>wp_block (c_seq fun K21 k21=>wp_region_lit (n_val (r_index_59_0 rfl rfl) ?_))
   simp only [ev,zD,zE,zF,zG]
   refine malloc m zero_28 rfl ?_
   clear m; intro g7 u m
   simp only [ev,zD,zE,zF,zG]
   refine mstoreA m 0 rfl rfl rfl cells_28 (leT rfl) rfl ?_
   clear m; intro u m; simp only [over,zH,zI,zJ,zK,zL,zM,zN,zO,zP,zF,zG,Nat.reduceAdd] at m
   refine n_nil (k21 _ _ ?_)
   refine mq_tail m 12 follows_mixed (by kernel_rfl) ?_
   simp only [zH,zI,zJ,zK]
   refine q_val (r_move) (q_val (r_move) (q_val (r_indexAddrA Tryz.underlying76 cells_32 rfl rfl (by decide) (by decide) rfl) ?_))
   simp only [ev,zD,zE,zF,zG]
   refine ql rfl (fun u m=>((m.b 4 rfl).lies agg_32 cells_32 rfl rfl)) ?_
   simp only [ev,zD,zE,zF,zG,zH,zI,zJ,zK,Nat.zero_add,Nat.reduceAdd,Nat.reduceMul,Int.reduceToNat]
   refine ql rfl (fun u m=>((m.b 1 rfl).full agg_32 cells_32)) ?_
   simp only [ev,zD,zE,zF,zG]
   refine q_val (r_move) ?_
   simp only [ev,zD,zE,zF,zG]
   refine ql rfl (fun u m=>((m.b 0 rfl).full agg_28 cells_28)) ?_
   simp only [ev,zD,zE,zF,zG]
   refine qcP rfl rfl (me_x) ?_
   simp only [ev,zD,zE,zF,zG]
   refine qcP rfl rfl (From_c Iw.h) ?_
   simp only [ev,zD,zE,zF,zG]
   refine qcP rfl rfl (Mul_c Bw.up Bw.up) ?_
   simp only [ev,zD,zE,zF,zG]
   refine qcP rfl rfl (Add_c Bw.up Bw.up) (q_val (r_indexAddrA Tryz.underlying76 cells_32 rfl rfl (by decide) (by decide) rfl) (q_nil ?_))
   clear m; intro u m
   simp only [ev,zD,zE,zF,zG]
   refine mstoreA m 4 rfl rfl rfl cells_32 (leT rfl) rfl ?_
   clear m; intro u m; simp only [over,zH,zI,zJ,zK,zL,zM,zN,zO,zP,zF,zG,Nat.reduceAdd] at m
   refine n_nil (k20 _ _ ?_)
   refine wp_region_lit (n_val (r_add (m:=0) (n:=1) (r:=1) rfl rfl (by decide)) (n_val (r_move) (n_nil (then_rounds (c_seq fun K22 k22=>wp_region_lit (n_val (r_lssT (m:=1) (n:=3) rfl rfl (by decide)) (n_nil (k22 _ _ ?_))))))))
   refine c_seq fun K23 k23=>c_yes rfl (wp_skip (k23 _ _ ?_))
   refine c_seq fun K24 k24=>wp_block (c_seq fun K25 k25=>wp_region_lit (n_val (r_index_59_1 rfl rfl) ?_))
   simp only [ev,zD,zE,zF,zG]
   refine malloc m zero_28 rfl ?_
   clear m; intro g8 u m
   simp only [ev,zD,zE,zF,zG]
   refine mstoreA m 0 rfl rfl rfl cells_28 (leT rfl) rfl ?_
   clear m; intro u m; simp only [over,zH,zI,zJ,zK,zL,zM,zN,zO,zP,zF,zG,Nat.reduceAdd] at m
   refine n_nil (k25 _ _ ?_)
   refine mq_tail m 12 follows_mixed (by kernel_rfl) ?_
   simp only [zH,zI,zJ,zK]
   refine q_val (r_move) (q_val (r_move) (q_val (r_indexAddrA Tryz.underlying76 cells_32 rfl rfl (by decide) (by decide) rfl) ?_))
   simp only [ev,zD,zE,zF,zG]
   refine ql rfl (fun u m=>((m.b 5 rfl).lies agg_32 cells_32 rfl rfl)) ?_
   simp only [ev,zD,zE,zF,zG,zH,zI,zJ,zK,Nat.zero_add,Nat.reduceAdd,Nat.reduceMul,Int.reduceToNat]
   refine ql rfl (fun u m=>((m.b 2 rfl).full agg_32 cells_32)) ?_
   simp only [ev,zD,zE,zF,zG]
   refine q_val (r_move) ?_
   simp only [ev,zD,zE,zF,zG]
   refine ql rfl (fun u m=>((m.b 0 rfl).full agg_28 cells_28)) ?_
   simp only [ev,zD,zE,zF,zG]
   refine qcP rfl rfl (me_x) ?_
   simp only [ev,zD,zE,zF,zG]
   refine qcP rfl rfl (From_c Iw.h) ?_
   simp only [ev,zD,zE,zF,zG]
   refine qcP rfl rfl (Mul_c Bw.up Bw.up) ?_
   simp only [ev,zD,zE,zF,zG]
   refine qcP rfl rfl (Add_c Bw.up Bw.up) (q_val (r_indexAddrA Tryz.underlying76 cells_32 rfl rfl (by decide) (by decide) rfl) (q_nil ?_))
   clear m; intro u m
   simp only [ev,zD,zE,zF,zG]
   refine mstoreA m 5 rfl rfl rfl cells_32 (leT rfl) rfl ?_
   clear m; intro u m; simp only [over,zH,zI,zJ,zK,zL,zM,zN,zO,zP,zF,zG,Nat.reduceAdd] at m
   refine n_nil (k24 _ _ ?_)
   refine wp_region_lit (n_val (r_add (m:=1) (n:=1) (r:=2) rfl rfl (by decide)) (n_val (r_move) (n_nil (then_rounds (c_seq fun K26 k26=>wp_region_lit (n_val (r_lssT (m:=2) (n:=3) rfl rfl (by decide)) (n_nil (k26 _ _ ?_))))))))
   refine c_seq fun K27 k27=>c_yes rfl (wp_skip (k27 _ _ ?_))
   refine c_seq fun K28 k28=>wp_block (c_seq fun K29 k29=>wp_region_lit (n_val (r_index_59_2 rfl rfl) ?_))
   simp only [ev,zD,zE,zF,zG]
   refine malloc m zero_28 rfl ?_
   clear m; intro g9 u m
   simp only [ev,zD,zE,zF,zG]
   refine mstoreA m 0 rfl rfl rfl cells_28 (leT rfl) rfl ?_
   clear m; intro u m; simp only [over,zH,zI,zJ,zK,zL,zM,zN,zO,zP,zF,zG,Nat.reduceAdd] at m
   refine n_nil (k29 _ _ ?_)
   refine mq_tail m 12 follows_mixed (by kernel_rfl) ?_
   simp only [zH,zI,zJ,zK]
   refine q_val (r_move) (q_val (r_move) (q_val (r_indexAddrA Tryz.underlying76 cells_32 rfl rfl (by decide) (by decide) rfl) ?_))
   simp only [ev,zD,zE,zF,zG]
   refine ql rfl (fun u m=>((m.b 6 rfl).lies agg_32 cells_32 rfl rfl)) ?_
   simp only [ev,zD,zE,zF,zG,zH,zI,zJ,zK,Nat.zero_add,Nat.reduceAdd,Nat.reduceMul,Int.reduceToNat]
   refine ql rfl (fun u m=>((m.b 3 rfl).full agg_32 cells_32)) ?_
   simp only [ev,zD,zE,zF,zG]
   refine q_val (r_move) ?_
   simp only [ev,zD,zE,zF,zG]
   refine ql rfl (fun u m=>((m.b 0 rfl).full agg_28 cells_28)) ?_
   simp only [ev,zD,zE,zF,zG]
   refine qcP rfl rfl (me_x) ?_
   simp only [ev,zD,zE,zF,zG]
   refine qcP rfl rfl (From_c Iw.h) ?_
   simp only [ev,zD,zE,zF,zG]
   refine qcP rfl rfl (Mul_c Bw.up Bw.up) ?_
   simp only [ev,zD,zE,zF,zG]
   refine qcP rfl rfl (Add_c Bw.up Bw.up) (q_val (r_indexAddrA Tryz.underlying76 cells_32 rfl rfl (by decide) (by decide) rfl) (q_nil ?_))
   clear m; intro u m
   simp only [ev,zD,zE,zF,zG]
   refine mstoreA m 6 rfl rfl rfl cells_32 (leT rfl) rfl ?_
   clear m; intro u m; simp only [over,zH,zI,zJ,zK,zL,zM,zN,zO,zP,zF,zG,Nat.reduceAdd] at m
   refine n_nil (k28 _ _ ?_)
   refine wp_region_lit (n_val (r_add (m:=2) (n:=1) (r:=3) rfl rfl (by decide)) (n_val (r_move) (n_nil (then_rounds (c_seq fun K30 k30=>wp_region_lit (n_val (r_lssF (m:=3) (n:=3) rfl rfl (by decide)) (n_nil (k30 _ _ ?_))))))))
   refine c_seq fun K31 k31=>c_no rfl (wp_exit (k15 _ _ ?_))
   refine wp_region_lit (n_val (r_add (m:=0) (n:=1) (r:=1) rfl rfl (by decide)) ?_)
   simp only [ev,zD,zE,zF,zG]
   refine n_val (r_move) (n_nil (then_rounds (c_seq fun K32 k32=>wp_region_lit (n_val (r_lssT (m:=1) (n:=3) rfl rfl (by decide)) (n_nil (k32 _ _ ?_))))))
   refine c_seq fun K33 k33=>c_yes rfl (wp_skip (k33 _ _ ?_))
   refine c_seq fun K34 k34=>wp_block (c_seq fun K35 k35=>wp_region_lit (n_val (r_move) (n_val (r_index_95_1 rfl rfl) ?_)))
   simp only [ev,zD,zE,zF,zG]
   refine n_val (r_assign) (n_val (r_assign) (n_nil (k35 _ _ ?_)))
   refine c_seq fun K36 k36=>wp_region_lit ?_
   simp only [ev,zD,zE,zF,zG]
   refine n_load rfl ((m.b 5 rfl).full agg_59 cells_59) ?_
   simp only [ev,zD,zE,zF,zG]
   refine n_val (r_move) (n_nil (k36 _ _ ?_))
   refine wp_block (wp_loop_rounds 4 (rounds_step (c_seq fun K37 k37=>wp_region_lit (n_val (r_lssT (m:=0) (n:=3) rfl rfl (by decide)) (n_nil (k37 _ _ ?_))))))
   refine c_seq fun K38 k38=>c_yes rfl (wp_skip (k38 _ _ ?_))
   refine c_seq fun K39 k39=>wp_block (c_seq fun K40 k40=>wp_region_lit (n_val (r_index_59_0 rfl rfl) ?_))
   simp only [ev,zD,zE,zF,zG]
   refine malloc m zero_28 rfl ?_
   clear m; intro g10 u m
   simp only [ev,zD,zE,zF,zG]
   refine mstoreA m 0 rfl rfl rfl cells_28 (leT rfl) rfl ?_
   clear m; intro u m; simp only [over,zH,zI,zJ,zK,zL,zM,zN,zO,zP,zF,zG,Nat.reduceAdd] at m
   refine n_nil (k40 _ _ ?_)
   refine mq_tail m 12 follows_mixed (by kernel_rfl) ?_
   simp only [zH,zI,zJ,zK]
   refine q_val (r_move) (q_val (r_move) (q_val (r_indexAddrA Tryz.underlying76 cells_32 rfl rfl (by decide) (by decide) rfl) ?_))
   simp only [ev,zD,zE,zF,zG]
   refine ql rfl (fun u m=>((m.b 7 rfl).lies agg_32 cells_32 rfl rfl)) ?_
   simp only [ev,zD,zE,zF,zG,zH,zI,zJ,zK,Nat.zero_add,Nat.reduceAdd,Nat.reduceMul,Int.reduceToNat]
   refine ql rfl (fun u m=>((m.b 4 rfl).full agg_32 cells_32)) ?_
   simp only [ev,zD,zE,zF,zG]
   refine q_val (r_move) ?_
   simp only [ev,zD,zE,zF,zG]
   refine ql rfl (fun u m=>((m.b 0 rfl).full agg_28 cells_28)) ?_
   simp only [ev,zD,zE,zF,zG]
   refine qcP rfl rfl (me_y) ?_
   simp only [ev,zD,zE,zF,zG]
   refine qcP rfl rfl (From_c Iw.h) ?_
   simp only [ev,zD,zE,zF,zG]
   refine qcP rfl rfl (Mul_c Bw.up Bw.up) ?_
   simp only [ev,zD,zE,zF,zG]
   refine qcP rfl rfl (Add_c Bw.up Bw.up) (q_val (r_indexAddrA Tryz.underlying76 cells_32 rfl rfl (by decide) (by decide) rfl) (q_nil ?_))
   clear m; intro u m
   simp only [ev,zD,zE,zF,zG]
   refine mstoreA m 7 rfl rfl rfl cells_32 (leT rfl) rfl ?_
   clear m; intro u m; simp only [over,zH,zI,zJ,zK,zL,zM,zN,zO,zP,zF,zG,Nat.reduceAdd] at m
   refine n_nil (k39 _ _ ?_)
   refine wp_region_lit (n_val (r_add (m:=0) (n:=1) (r:=1) rfl rfl (by decide)) (n_val (r_move) (n_nil (then_rounds (c_seq fun K41 k41=>wp_region_lit (n_val (r_lssT (m:=1) (n:=3) rfl rfl (by decide)) (n_nil (k41 _ _ ?_))))))))
   refine c_seq fun K42 k42=>c_yes rfl (wp_skip (k42 _ _ ?_))
   refine c_seq fun K43 k43=>wp_block (c_seq fun K44 k44=>wp_region_lit (n_val (r_index_59_1 rfl rfl) ?_))
   simp only [ev,zD,zE,zF,zG]
   refine malloc m zero_28 rfl ?_
   clear m; intro g11 u m
   simp only [ev,zD,zE,zF,zG]
   refine mstoreA m 0 rfl rfl rfl cells_28 (leT rfl) rfl ?_
   clear m; intro u m; simp only [over,zH,zI,zJ,zK,zL,zM,zN,zO,zP,zF,zG,Nat.reduceAdd] at m
   refine n_nil (k44 _ _ ?_)
   refine mq_tail m 12 follows_mixed (by kernel_rfl) ?_
   simp only [zH,zI,zJ,zK]
   refine q_val (r_move) (q_val (r_move) (q_val (r_indexAddrA Tryz.underlying76 cells_32 rfl rfl (by decide) (by decide) rfl) ?_))
   simp only [ev,zD,zE,zF,zG]
   refine ql rfl (fun u m=>((m.b 8 rfl).lies agg_32 cells_32 rfl rfl)) ?_
   simp only [ev,zD,zE,zF,zG,zH,zI,zJ,zK,Nat.zero_add,Nat.reduceAdd,Nat.reduceMul,Int.reduceToNat]
   refine ql rfl (fun u m=>((m.b 5 rfl).full agg_32 cells_32)) ?_
   simp only [ev,zD,zE,zF,zG]
   refine q_val (r_move) ?_
   simp only [ev,zD,zE,zF,zG]
   refine ql rfl (fun u m=>((m.b 0 rfl).full agg_28 cells_28)) ?_
   simp only [ev,zD,zE,zF,zG]
   refine qcP rfl rfl (me_y) ?_
   simp only [ev,zD,zE,zF,zG]
   refine qcP rfl rfl (From_c Iw.h) ?_
   simp only [ev,zD,zE,zF,zG]
   refine qcP rfl rfl (Mul_c Bw.up Bw.up) ?_
   simp only [ev,zD,zE,zF,zG]
   refine qcP rfl rfl (Add_c Bw.up Bw.up) (q_val (r_indexAddrA Tryz.underlying76 cells_32 rfl rfl (by decide) (by decide) rfl) (q_nil ?_))
   clear m; intro u m
   simp only [ev,zD,zE,zF,zG]
   refine mstoreA m 8 rfl rfl rfl cells_32 (leT rfl) rfl ?_
   clear m; intro u m; simp only [over,zH,zI,zJ,zK,zL,zM,zN,zO,zP,zF,zG,Nat.reduceAdd] at m
   refine n_nil (k43 _ _ ?_)
   refine wp_region_lit (n_val (r_add (m:=1) (n:=1) (r:=2) rfl rfl (by decide)) (n_val (r_move) (n_nil (then_rounds (c_seq fun K45 k45=>wp_region_lit (n_val (r_lssT (m:=2) (n:=3) rfl rfl (by decide)) (n_nil (k45 _ _ ?_))))))))
   refine c_seq fun K46 k46=>c_yes rfl (wp_skip (k46 _ _ ?_))
   refine c_seq fun K47 k47=>wp_block (c_seq fun K48 k48=>wp_region_lit (n_val (r_index_59_2 rfl rfl) ?_))
   simp only [ev,zD,zE,zF,zG]
   refine malloc m zero_28 rfl ?_
   clear m; intro g12 u m
   simp only [ev,zD,zE,zF,zG]
   refine mstoreA m 0 rfl rfl rfl cells_28 (leT rfl) rfl ?_
   clear m; intro u m; simp only [over,zH,zI,zJ,zK,zL,zM,zN,zO,zP,zF,zG,Nat.reduceAdd] at m
   refine n_nil (k48 _ _ ?_)
   refine mq_tail m 12 follows_mixed (by kernel_rfl) ?_
   simp only [zH,zI,zJ,zK]
   refine q_val (r_move) (q_val (r_move) (q_val (r_indexAddrA Tryz.underlying76 cells_32 rfl rfl (by decide) (by decide) rfl) ?_))
   simp only [ev,zD,zE,zF,zG]
   refine ql rfl (fun u m=>((m.b 9 rfl).lies agg_32 cells_32 rfl rfl)) ?_
   simp only [ev,zD,zE,zF,zG,zH,zI,zJ,zK,Nat.zero_add,Nat.reduceAdd,Nat.reduceMul,Int.reduceToNat]
   refine ql rfl (fun u m=>((m.b 6 rfl).full agg_32 cells_32)) ?_
   simp only [ev,zD,zE,zF,zG]
   refine q_val (r_move) ?_
   simp only [ev,zD,zE,zF,zG]
   refine ql rfl (fun u m=>((m.b 0 rfl).full agg_28 cells_28)) ?_
   simp only [ev,zD,zE,zF,zG]
   refine qcP rfl rfl (me_y) ?_
   simp only [ev,zD,zE,zF,zG]
   refine qcP rfl rfl (From_c Iw.h) ?_
   simp only [ev,zD,zE,zF,zG]
   refine qcP rfl rfl (Mul_c Bw.up Bw.up) ?_
   simp only [ev,zD,zE,zF,zG]
   refine qcP rfl rfl (Add_c Bw.up Bw.up) (q_val (r_indexAddrA Tryz.underlying76 cells_32 rfl rfl (by decide) (by decide) rfl) (q_nil ?_))
   clear m; intro u m
   simp only [ev,zD,zE,zF,zG]
   refine mstoreA m 9 rfl rfl rfl cells_32 (leT rfl) rfl ?_
   clear m; intro u m; simp only [over,zH,zI,zJ,zK,zL,zM,zN,zO,zP,zF,zG,Nat.reduceAdd] at m
   refine n_nil (k47 _ _ ?_)
   refine wp_region_lit (n_val (r_add (m:=2) (n:=1) (r:=3) rfl rfl (by decide)) (n_val (r_move) (n_nil (then_rounds (c_seq fun K49 k49=>wp_region_lit (n_val (r_lssF (m:=3) (n:=3) rfl rfl (by decide)) (n_nil (k49 _ _ ?_))))))))
   refine c_seq fun K50 k50=>c_no rfl (wp_exit (k34 _ _ ?_))
   refine wp_region_lit (n_val (r_add (m:=1) (n:=1) (r:=2) rfl rfl (by decide)) ?_)
   simp only [ev,zD,zE,zF,zG]
   refine n_val (r_move) (n_nil (then_rounds (c_seq fun K51 k51=>wp_region_lit (n_val (r_lssT (m:=2) (n:=3) rfl rfl (by decide)) (n_nil (k51 _ _ ?_))))))
   refine c_seq fun K52 k52=>c_yes rfl (wp_skip (k52 _ _ ?_))
   refine c_seq fun K53 k53=>wp_block (c_seq fun K54 k54=>wp_region_lit (n_val (r_move) (n_val (r_index_95_2 rfl rfl) ?_)))
   simp only [ev,zD,zE,zF,zG]
   refine n_val (r_assign) (n_val (r_assign) (n_nil (k54 _ _ ?_)))
   refine c_seq fun K55 k55=>wp_region_lit ?_
   simp only [ev,zD,zE,zF,zG]
   refine n_load rfl ((m.b 8 rfl).full agg_59 cells_59) ?_
   simp only [ev,zD,zE,zF,zG]
   refine n_val (r_move) (n_nil (k55 _ _ ?_))
   refine wp_block (wp_loop_rounds 4 (rounds_step (c_seq fun K56 k56=>wp_region_lit (n_val (r_lssT (m:=0) (n:=3) rfl rfl (by decide)) (n_nil (k56 _ _ ?_))))))
   refine c_seq fun K57 k57=>c_yes rfl (wp_skip (k57 _ _ ?_))
   refine c_seq fun K58 k58=>wp_block (c_seq fun K59 k59=>wp_region_lit (n_val (r_index_59_0 rfl rfl) ?_))
   simp only [ev,zD,zE,zF,zG]
   refine malloc m zero_28 rfl ?_
   clear m; intro g13 u m
   simp only [ev,zD,zE,zF,zG]
   refine mstoreA m 0 rfl rfl rfl cells_28 (leT rfl) rfl ?_
   clear m; intro u m; simp only [over,zH,zI,zJ,zK,zL,zM,zN,zO,zP,zF,zG,Nat.reduceAdd] at m
   refine n_nil (k59 _ _ ?_)
   refine mq_tail m 12 follows_mixed (by kernel_rfl) ?_
   simp only [zH,zI,zJ,zK]
   refine q_val (r_move) (q_val (r_move) (q_val (r_indexAddrA Tryz.underlying76 cells_32 rfl rfl (by decide) (by decide) rfl) ?_))
   simp only [ev,zD,zE,zF,zG]
   refine ql rfl (fun u m=>((m.b 10 rfl).lies agg_32 cells_32 rfl rfl)) ?_
   simp only [ev,zD,zE,zF,zG,zH,zI,zJ,zK,Nat.zero_add,Nat.reduceAdd,Nat.reduceMul,Int.reduceToNat]
   refine ql rfl (fun u m=>((m.b 7 rfl).full agg_32 cells_32)) ?_
   simp only [ev,zD,zE,zF,zG]
   refine q_val (r_move) ?_
   simp only [ev,zD,zE,zF,zG]
   refine ql rfl (fun u m=>((m.b 0 rfl).full agg_28 cells_28)) ?_
   simp only [ev,zD,zE,zF,zG]
   refine qcP rfl rfl (me_z) ?_
   simp only [ev,zD,zE,zF,zG]
   refine qcP rfl rfl (From_c Iw.h) ?_
   simp only [ev,zD,zE,zF,zG]
   refine qcP rfl rfl (Mul_c Bw.up Bw.up) ?_
   simp only [ev,zD,zE,zF,zG]
   refine qcP rfl rfl (Add_c Bw.up Bw.up) (q_val (r_indexAddrA Tryz.underlying76 cells_32 rfl rfl (by decide) (by decide) rfl) (q_nil ?_))
   clear m; intro u m
   simp only [ev,zD,zE,zF,zG]
   refine mstoreA m 10 rfl rfl rfl cells_32 (leT rfl) rfl ?_
   clear m; intro u m; simp only [over,zH,zI,zJ,zK,zL,zM,zN,zO,zP,zF,zG,Nat.reduceAdd] at m
   refine n_nil (k58 _ _ ?_)
   refine wp_region_lit (n_val (r_add (m:=0) (n:=1) (r:=1) rfl rfl (by decide)) (n_val (r_move) (n_nil (then_rounds (c_seq fun K60 k60=>wp_region_lit (n_val (r_lssT (m:=1) (n:=3) rfl rfl (by decide)) (n_nil (k60 _ _ ?_))))))))
   refine c_seq fun K61 k61=>c_yes rfl (wp_skip (k61 _ _ ?_))
   refine c_seq fun K62 k62=>wp_block (c_seq fun K63 k63=>wp_region_lit (n_val (r_index_59_1 rfl rfl) ?_))
   simp only [ev,zD,zE,zF,zG]
   refine malloc m zero_28 rfl ?_
   clear m; intro g14 u m
   simp only [ev,zD,zE,zF,zG]
   refine mstoreA m 0 rfl rfl rfl cells_28 (leT rfl) rfl ?_
   clear m; intro u m; simp only [over,zH,zI,zJ,zK,zL,zM,zN,zO,zP,zF,zG,Nat.reduceAdd] at m
   refine n_nil (k63 _ _ ?_)
   refine mq_tail m 12 follows_mixed (by kernel_rfl) ?_
   simp only [zH,zI,zJ,zK]
   refine q_val (r_move) (q_val (r_move) (q_val (r_indexAddrA Tryz.underlying76 cells_32 rfl rfl (by decide) (by decide) rfl) ?_))
   simp only [ev,zD,zE,zF,zG]
   refine ql rfl (fun u m=>((m.b 11 rfl).lies agg_32 cells_32 rfl rfl)) ?_
   simp only [ev,zD,zE,zF,zG,zH,zI,zJ,zK,Nat.zero_add,Nat.reduceAdd,Nat.reduceMul,Int.reduceToNat]
   refine ql rfl (fun u m=>((m.b 8 rfl).full agg_32 cells_32)) ?_
   simp only [ev,zD,zE,zF,zG]
   refine q_val (r_move) ?_
   simp only [ev,zD,zE,zF,zG]
   refine ql rfl (fun u m=>((m.b 0 rfl).full agg_28 cells_28)) ?_
   simp only [ev,zD,zE,zF,zG]
   refine qcP rfl rfl (me_z) ?_
   simp only [ev,zD,zE,zF,zG]
   refine qcP rfl rfl (From_c Iw.h) ?_
   simp only [ev,zD,zE,zF,zG]
   refine qcP rfl rfl (Mul_c Bw.up Bw.up) ?_
   simp only [ev,zD,zE,zF,zG]
   refine qcP rfl rfl (Add_c Bw.up Bw.up) (q_val (r_indexAddrA Tryz.underlying76 cells_32 rfl rfl (by decide) (by decide) rfl) (q_nil ?_))
   clear m; intro u m
   simp only [ev,zD,zE,zF,zG]
   refine mstoreA m 11 rfl rfl rfl cells_32 (leT rfl) rfl ?_
   clear m; intro u m; simp only [over,zH,zI,zJ,zK,zL,zM,zN,zO,zP,zF,zG,Nat.reduceAdd] at m
   refine n_nil (k62 _ _ ?_)
   refine wp_region_lit (n_val (r_add (m:=1) (n:=1) (r:=2) rfl rfl (by decide)) (n_val (r_move) (n_nil (then_rounds (c_seq fun K64 k64=>wp_region_lit (n_val (r_lssT (m:=2) (n:=3) rfl rfl (by decide)) (n_nil (k64 _ _ ?_))))))))
   refine c_seq fun K65 k65=>c_yes rfl (wp_skip (k65 _ _ ?_))
   refine c_seq fun K66 k66=>wp_block (c_seq fun K67 k67=>wp_region_lit (n_val (r_index_59_2 rfl rfl) ?_))
   simp only [ev,zD,zE,zF,zG]
   refine malloc m zero_28 rfl ?_
   clear m; intro g15 u m
   simp only [ev,zD,zE,zF,zG]
   refine mstoreA m 0 rfl rfl rfl cells_28 (leT rfl) rfl ?_
   clear m; intro u m; simp only [over,zH,zI,zJ,zK,zL,zM,zN,zO,zP,zF,zG,Nat.reduceAdd] at m
   refine n_nil (k67 _ _ ?_)
   refine mq_tail m 12 follows_mixed (by kernel_rfl) ?_
   simp only [zH,zI,zJ,zK]
   refine q_val (r_move) (q_val (r_move) (q_val (r_indexAddrA Tryz.underlying76 cells_32 rfl rfl (by decide) (by decide) rfl) ?_))
   simp only [ev,zD,zE,zF,zG]
   refine ql rfl (fun u m=>((m.b 12 rfl).lies agg_32 cells_32 rfl rfl)) ?_
   simp only [ev,zD,zE,zF,zG,zH,zI,zJ,zK,Nat.zero_add,Nat.reduceAdd,Nat.reduceMul,Int.reduceToNat]
   refine ql rfl (fun u m=>((m.b 9 rfl).full agg_32 cells_32)) ?_
   simp only [ev,zD,zE,zF,zG]
   refine q_val (r_move) ?_
   simp only [ev,zD,zE,zF,zG]
   refine ql rfl (fun u m=>((m.b 0 rfl).full agg_28 cells_28)) ?_
   simp only [ev,zD,zE,zF,zG]
   refine qcP rfl rfl (me_z) ?_
   simp only [ev,zD,zE,zF,zG]
   refine qcP rfl rfl (From_c Iw.h) ?_
   simp only [ev,zD,zE,zF,zG]
   refine qcP rfl rfl (Mul_c Bw.up Bw.up) ?_
   simp only [ev,zD,zE,zF,zG]
   refine qcP rfl rfl (Add_c Bw.up Bw.up) (q_val (r_indexAddrA Tryz.underlying76 cells_32 rfl rfl (by decide) (by decide) rfl) (q_nil ?_))
   clear m; intro u m
   simp only [ev,zD,zE,zF,zG]
   refine mstoreA m 12 rfl rfl rfl cells_32 (leT rfl) rfl ?_
   clear m; intro u m; simp only [over,zH,zI,zJ,zK,zL,zM,zN,zO,zP,zF,zG,Nat.reduceAdd] at m
   refine n_nil (k66 _ _ ?_)
   refine wp_region_lit (n_val (r_add (m:=2) (n:=1) (r:=3) rfl rfl (by decide)) (n_val (r_move) (n_nil (then_rounds (c_seq fun K68 k68=>wp_region_lit (n_val (r_lssF (m:=3) (n:=3) rfl rfl (by decide)) (n_nil (k68 _ _ ?_))))))))
   refine c_seq fun K69 k69=>c_no rfl (wp_exit (k53 _ _ ?_))
   refine wp_region_lit (n_val (r_add (m:=2) (n:=1) (r:=3) rfl rfl (by decide)) ?_)
   simp only [ev,zD,zE,zF,zG]
   refine n_val (r_move) (n_nil (then_rounds (c_seq fun K70 k70=>wp_region_lit (n_val (r_lssF (m:=3) (n:=3) rfl rfl (by decide)) (n_nil (k70 _ _ ?_))))))
   refine c_seq fun K71 k71=>c_no rfl (wp_exit (k8 _ _ ?_))
   refine wp_region_lit ?_
   simp only [ev,zD,zE,zF,zG]
   refine n_val (r_add rfl rfl (wrap_i64 (by omega) (by omega))) (n_val (r_move) (n_nil ?_))
   simp only [ev,zD,zE,zF,zG]
   simp only [Exit.inBlock,Exit.then]
   refine ⟨N - (k + 1),_,?_,rfl,?_,?_⟩
   · omega
   · simp only [zQ,zR,zD,zE,setG_cons,setG_nil,setMany_cons,setMany_nil,zF,zG]
   ·
    simp only [zQ,zR,zD,zE]
    exact ⟨k + 1,rfl,(((m.re 13 rfl (by rw [sumT_step ht]; exact (m.b 13 rfl))).re 12 rfl (by rw [sumT_step (f:=(mom P3.x)) ht,sumT_step (f:=(mom P3.y)) ht,sumT_step (f:=(mom P3.z)) ht,← mom_step,← mom_step,← mom_step]; exact (m.b 12 rfl))).sel [false,false,false,false,false,false,false,false,false,false,false,false,true,true,true]),by omega,rfl⟩
  ·
   have hkN : k = N:=by omega
   rw [hkN,show ts.take N = ts from List.take_of_length_le (by rw [hT.len]; exact Nat.le_refl _)] at m
   haveI : Bw 264 (sumT det ts):=⟨sumT_bd (m:=200) (fun u hu=>by haveI:=hT.it u hu; exact det_bd) (by rw [hT.len]; omega)⟩
   haveI : Bw 364 (sumT (mom P3.x) ts):=⟨sumT_bd (m:=300) (fun u hu=>by haveI:=hT.it u hu; exact mom_bd Iw.h.bd Iw.h.bd Iw.h.bd) (by rw [hT.len]; omega)⟩
   haveI : Bw 364 (sumT (mom P3.y) ts):=⟨sumT_bd (m:=300) (fun u hu=>by haveI:=hT.it u hu; exact mom_bd Iw.h.bd Iw.h.bd Iw.h.bd) (by rw [hT.len]; omega)⟩
   haveI : Bw 364 (sumT (mom P3.z) ts):=⟨sumT_bd (m:=300) (fun u hu=>by haveI:=hT.it u hu; exact mom_bd Iw.h.bd Iw.h.bd Iw.h.bd) (by rw [hT.len]; omega)⟩
   refine wp_exit (k4 _ _ ?_)
   refine c_seq fun K72 k72=>wp_region_lit (n_load rfl ((m.b 1 rfl).full agg_32 cells_32) ?_)
   simp only [ev,zD,zE,zF,zG]
   refine mcallP m rfl rfl (Sign_c Bw.up) ?_
   clear m; intro u m
   refine n_val (r_neq rfl rfl) (n_val (r_assign) (n_nil (k72 _ _ ?_)))
   refine c_seq fun K73 k73=>?_
   simp only [ev,zD,zE,zF,zG]
   rcases Decidable.em (isign (sumT det ts) ≠ 0) with hV | hV
   ·
    rw [decide_eq_true hV]
    have hV0:=mt isign_zero_iff.2 hV
    refine wp_region_lit (malloc m zero_49 rfl ?_)
    clear m; intro g4 u m
    refine n_nil (k73 _ _ ?_)
    refine c_seq fun K74 k74=>c_seq fun K75 k75=>wp_region_lit (n_val (r_move) (n_nil (k75 _ _ ?_)))
    refine wp_block (wp_loop_rounds 4 (rounds_step (c_seq fun K76 k76=>wp_region_lit (n_val (r_lssT (m:=0) (n:=3) rfl rfl (by decide)) (n_nil (k76 _ _ ?_))))))
    refine c_seq fun K77 k77=>c_yes rfl (wp_skip (k77 _ _ ?_))
    refine c_seq fun K78 k78=>wp_block (c_seq fun K79 k79=>wp_region_lit (n_val (r_move) ?_))
    simp only [ev,zD,zE,zF,zG]
    refine n_val (r_assign) (n_nil (k79 _ _ ?_))
    refine c_seq fun K80 k80=>wp_region_lit (n_val (r_move) (n_val (r_build_32_) ?_))
    simp only [ev,zD,zE,zF,zG]
    refine mcallP m rfl rfl (whole0_c) ?_
    clear m; intro u m
    refine n_val (r_indexAddrA Tryz.underlying49 cells_34 rfl rfl (by decide) (by decide) rfl) ?_
    simp only [ev,zD,zE,zF,zG]
    refine mstoreA m 0 rfl rfl rfl cells_34 (leT rfl) rfl ?_
    clear m; intro u m; simp only [over,zH,zI,zJ,zK,zL,zM,zN,zO,zP,zF,zG,Nat.reduceAdd] at m
    refine n_nil (k80 _ _ ?_)
    refine c_seq fun K81 k81=>wp_region_lit (n_val (r_move) (n_nil (k81 _ _ ?_)))
    refine c_yes rfl ?_
    simp only [ev,zD,zE,zF,zG]
    refine mq_tail m 9 follows_mixed (by kernel_rfl) ?_
    simp only [zH,zI,zJ,zK]
    refine q_val (r_move) (q_val (r_move) (q_val (r_indexAddrA Tryz.underlying76 cells_32 rfl rfl (by decide) (by decide) rfl) ?_))
    simp only [ev,zD,zE,zF,zG]
    refine ql rfl (fun u m=>((m.b 1 rfl).lies agg_32 cells_32 rfl rfl)) ?_
    simp only [ev,zD,zE,zF,zG,zH,zI,zJ,zK,Nat.zero_add,Nat.reduceAdd,Nat.reduceMul,Int.reduceToNat]
    refine ql rfl (fun u m=>((m.b 2 rfl).full agg_32 cells_32)) ?_
    simp only [ev,zD,zE,zF,zG]
    refine qcP rfl rfl (From_c Iw.h) ?_
    simp only [ev,zD,zE,zF,zG]
    refine qcP rfl rfl (Mul_c Bw.up Bw.up) ?_
    simp only [ev,zD,zE,zF,zG]
    refine qcP rfl rfl (mFrac_c Bw.up Bw.up (by have:=mt isign_zero_iff.2 hV; omega)) (q_val (r_indexAddrA Tryz.underlying49 cells_34 rfl rfl (by decide) (by decide) rfl) (q_nil ?_))
    clear m; intro u m
    simp only [ev,zD,zE,zF,zG]
    refine mstoreA m 0 rfl rfl rfl cells_34 (leT rfl) rfl ?_
    clear m; intro u m; simp only [over,zH,zI,zJ,zK,zL,zM,zN,zO,zP,zF,zG,Nat.reduceAdd] at m
    refine n_nil (k78 _ _ ?_)
    refine wp_region_lit (n_val (r_add (m:=0) (n:=1) (r:=1) rfl rfl (by decide)) (n_val (r_move) (n_nil (then_rounds (c_seq fun K82 k82=>wp_region_lit (n_val (r_lssT (m:=1) (n:=3) rfl rfl (by decide)) (n_nil (k82 _ _ ?_))))))))
    refine c_seq fun K83 k83=>c_yes rfl (wp_skip (k83 _ _ ?_))
    refine c_seq fun K84 k84=>wp_block (c_seq fun K85 k85=>wp_region_lit (n_val (r_move) ?_))
    simp only [ev,zD,zE,zF,zG]
    refine n_val (r_assign) (n_nil (k85 _ _ ?_))
    refine c_seq fun K86 k86=>wp_region_lit (n_val (r_move) (n_val (r_build_32_) ?_))
    simp only [ev,zD,zE,zF,zG]
    refine mcallP m rfl rfl (whole0_c) ?_
    clear m; intro u m
    refine n_val (r_indexAddrA Tryz.underlying49 cells_34 rfl rfl (by decide) (by decide) rfl) ?_
    simp only [ev,zD,zE,zF,zG]
    refine mstoreA m 0 rfl rfl rfl cells_34 (leT rfl) rfl ?_
    clear m; intro u m; simp only [over,zH,zI,zJ,zK,zL,zM,zN,zO,zP,zF,zG,Nat.reduceAdd] at m
    refine n_nil (k86 _ _ ?_)
    refine c_seq fun K87 k87=>wp_region_lit (n_val (r_move) (n_nil (k87 _ _ ?_)))
    refine c_yes rfl ?_
    simp only [ev,zD,zE,zF,zG]
    refine mq_tail m 9 follows_mixed (by kernel_rfl) ?_
    simp only [zH,zI,zJ,zK]
    refine q_val (r_move) (q_val (r_move) (q_val (r_indexAddrA Tryz.underlying76 cells_32 rfl rfl (by decide) (by decide) rfl) ?_))
    simp only [ev,zD,zE,zF,zG]
    refine ql rfl (fun u m=>((m.b 1 rfl).lies agg_32 cells_32 rfl rfl)) ?_
    simp only [ev,zD,zE,zF,zG,zH,zI,zJ,zK,Nat.zero_add,Nat.reduceAdd,Nat.reduceMul,Int.reduceToNat]
    refine ql rfl (fun u m=>((m.b 2 rfl).full agg_32 cells_32)) ?_
    simp only [ev,zD,zE,zF,zG]
    refine qcP rfl rfl (From_c Iw.h) ?_
    simp only [ev,zD,zE,zF,zG]
    refine qcP rfl rfl (Mul_c Bw.up Bw.up) ?_
    simp only [ev,zD,zE,zF,zG]
    refine qcP rfl rfl (mFrac_c Bw.up Bw.up (by have:=mt isign_zero_iff.2 hV; omega)) (q_val (r_indexAddrA Tryz.underlying49 cells_34 rfl rfl (by decide) (by decide) rfl) (q_nil ?_))
    clear m; intro u m
    simp only [ev,zD,zE,zF,zG]
    refine mstoreA m 0 rfl rfl rfl cells_34 (leT rfl) rfl ?_
    clear m; intro u m; simp only [over,zH,zI,zJ,zK,zL,zM,zN,zO,zP,zF,zG,Nat.reduceAdd] at m
    refine n_nil (k84 _ _ ?_)
    refine wp_region_lit (n_val (r_add (m:=1) (n:=1) (r:=2) rfl rfl (by decide)) (n_val (r_move) (n_nil (then_rounds (c_seq fun K88 k88=>wp_region_lit (n_val (r_lssT (m:=2) (n:=3) rfl rfl (by decide)) (n_nil (k88 _ _ ?_))))))))
    refine c_seq fun K89 k89=>c_yes rfl (wp_skip (k89 _ _ ?_))
    refine c_seq fun K90 k90=>wp_block (c_seq fun K91 k91=>wp_region_lit (n_val (r_move) ?_))
    simp only [ev,zD,zE,zF,zG]
    refine n_val (r_assign) (n_nil (k91 _ _ ?_))
    refine c_seq fun K92 k92=>wp_region_lit (n_val (r_move) (n_val (r_build_32_) ?_))
    simp only [ev,zD,zE,zF,zG]
    refine mcallP m rfl rfl (whole0_c) ?_
    clear m; intro u m
    refine n_val (r_indexAddrA Tryz.underlying49 cells_34 rfl rfl (by decide) (by decide) rfl) ?_
    simp only [ev,zD,zE,zF,zG]
    refine mstoreA m 0 rfl rfl rfl cells_34 (leT rfl) rfl ?_
    clear m; intro u m; simp only [over,zH,zI,zJ,zK,zL,zM,zN,zO,zP,zF,zG,Nat.reduceAdd] at m
    refine n_nil (k92 _ _ ?_)
    refine c_seq fun K93 k93=>wp_region_lit (n_val (r_move) (n_nil (k93 _ _ ?_)))
    refine c_yes rfl ?_
    simp only [ev,zD,zE,zF,zG]
    refine mq_tail m 9 follows_mixed (by kernel_rfl) ?_
    simp only [zH,zI,zJ,zK]
    refine q_val (r_move) (q_val (r_move) (q_val (r_indexAddrA Tryz.underlying76 cells_32 rfl rfl (by decide) (by decide) rfl) ?_))
    simp only [ev,zD,zE,zF,zG]
    refine ql rfl (fun u m=>((m.b 1 rfl).lies agg_32 cells_32 rfl rfl)) ?_
    simp only [ev,zD,zE,zF,zG,zH,zI,zJ,zK,Nat.zero_add,Nat.reduceAdd,Nat.reduceMul,Int.reduceToNat]
    refine ql rfl (fun u m=>((m.b 2 rfl).full agg_32 cells_32)) ?_
    simp only [ev,zD,zE,zF,zG]
    refine qcP rfl rfl (From_c Iw.h) ?_
    simp only [ev,zD,zE,zF,zG]
    refine qcP rfl rfl (Mul_c Bw.up Bw.up) ?_
    simp only [ev,zD,zE,zF,zG]
    refine qcP rfl rfl (mFrac_c Bw.up Bw.up (by have:=mt isign_zero_iff.2 hV; omega)) (q_val (r_indexAddrA Tryz.underlying49 cells_34 rfl rfl (by decide) (by decide) rfl) (q_nil ?_))
    clear m; intro u m
    simp only [ev,zD,zE,zF,zG]
    refine mstoreA m 0 rfl rfl rfl cells_34 (leT rfl) rfl ?_
    clear m; intro u m; simp only [over,zH,zI,zJ,zK,zL,zM,zN,zO,zP,zF,zG,Nat.reduceAdd] at m
    refine n_nil (k90 _ _ ?_)
    refine wp_region_lit (n_val (r_add (m:=2) (n:=1) (r:=3) rfl rfl (by decide)) (n_val (r_move) (n_nil (then_rounds (c_seq fun K94 k94=>wp_region_lit (n_val (r_lssF (m:=3) (n:=3) rfl rfl (by decide)) (n_nil (k94 _ _ ?_))))))))
    refine c_seq fun K95 k95=>c_no rfl (wp_exit (k74 _ _ ?_))
    refine c_seq fun K96 k96=>wp_region_lit ?_
    simp only [ev,zD,zE,zF,zG]
    refine n_load rfl ((m.b 0 rfl).full agg_49 cells_49) ?_
    simp only [ev,zD,zE,zF,zG]
    refine n_val (r_move) ?_
    simp only [ev,zD,zE,zF,zG]
    refine mstoreA m 3 rfl rfl rfl cells_49 (leT rfl) rfl ?_
    clear m; intro u m; simp only [over,zH,zI,zJ,zK,zL,zM,zN,zO,zP,zF,zG,Nat.reduceAdd] at m
    refine n_val (r_assign) (n_nil (k96 _ _ ?_))
    refine wp_ret ?_
    simp only [ev,zD,zE,zF,zG]
    try simp only [Exit.inBlock,Exit.then,if_true]
    refine fin2 rfl ⟨_,rfl,((m.b 3 rfl).full agg_49 cells_49)⟩ rfl ?_
    try simp only [zD,zE]
    exact ⟨_,rfl,m.ext,by first | (simp only [cq,if_neg hV0,decide_eq_true hV0]; rfl) | (simp only [cq,if_pos hV0,decide_eq_false (not_not_intro hV0)]; rfl)⟩
   ·
    rw [decide_eq_false hV]
    have hV0:=isign_zero_iff.1 (Decidable.of_not_not hV)
    refine wp_region_lit (malloc m zero_49 rfl ?_)
    clear m; intro g4 u m
    refine n_nil (k73 _ _ ?_)
    refine c_seq fun K97 k97=>c_seq fun K98 k98=>wp_region_lit (n_val (r_move) (n_nil (k98 _ _ ?_)))
    refine wp_block (wp_loop_rounds 4 (rounds_step (c_seq fun K99 k99=>wp_region_lit (n_val (r_lssT (m:=0) (n:=3) rfl rfl (by decide)) (n_nil (k99 _ _ ?_))))))
    refine c_seq fun K100 k100=>c_yes rfl (wp_skip (k100 _ _ ?_))
    refine c_seq fun K101 k101=>wp_block (c_seq fun K102 k102=>wp_region_lit (n_val (r_move) ?_))
    simp only [ev,zD,zE,zF,zG]
    refine n_val (r_assign) (n_nil (k102 _ _ ?_))
    refine c_seq fun K103 k103=>wp_region_lit (n_val (r_move) (n_val (r_build_32_) ?_))
    simp only [ev,zD,zE,zF,zG]
    refine mcallP m rfl rfl (whole0_c) ?_
    clear m; intro u m
    refine n_val (r_indexAddrA Tryz.underlying49 cells_34 rfl rfl (by decide) (by decide) rfl) ?_
    simp only [ev,zD,zE,zF,zG]
    refine mstoreA m 0 rfl rfl rfl cells_34 (leT rfl) rfl ?_
    clear m; intro u m; simp only [over,zH,zI,zJ,zK,zL,zM,zN,zO,zP,zF,zG,Nat.reduceAdd] at m
    refine n_nil (k103 _ _ ?_)
    refine c_seq fun K104 k104=>wp_region_lit (n_val (r_move) (n_nil (k104 _ _ ?_)))
    refine c_no rfl (wp_skip (k101 _ _ ?_))
    refine wp_region_lit (n_val (r_add (m:=0) (n:=1) (r:=1) rfl rfl (by decide)) (n_val (r_move) (n_nil (then_rounds (c_seq fun K105 k105=>wp_region_lit (n_val (r_lssT (m:=1) (n:=3) rfl rfl (by decide)) ?_))))))
    simp only [ev,zD,zE,zF,zG]
    refine n_nil (k105 _ _ ?_)
    refine c_seq fun K106 k106=>c_yes rfl (wp_skip (k106 _ _ ?_))
    refine c_seq fun K107 k107=>wp_block (c_seq fun K108 k108=>wp_region_lit (n_val (r_move) (n_val (r_assign) (n_nil (k108 _ _ ?_)))))
    refine c_seq fun K109 k109=>wp_region_lit (n_val (r_move) (n_val (r_build_32_) ?_))
    simp only [ev,zD,zE,zF,zG]
    refine mcallP m rfl rfl (whole0_c) ?_
    clear m; intro u m
    refine n_val (r_indexAddrA Tryz.underlying49 cells_34 rfl rfl (by decide) (by decide) rfl) ?_
    simp only [ev,zD,zE,zF,zG]
    refine mstoreA m 0 rfl rfl rfl cells_34 (leT rfl) rfl ?_
    clear m; intro u m; simp only [over,zH,zI,zJ,zK,zL,zM,zN,zO,zP,zF,zG,Nat.reduceAdd] at m
    refine n_nil (k109 _ _ ?_)
    refine c_seq fun K110 k110=>wp_region_lit (n_val (r_move) (n_nil (k110 _ _ ?_)))
    refine c_no rfl (wp_skip (k107 _ _ ?_))
    refine wp_region_lit (n_val (r_add (m:=1) (n:=1) (r:=2) rfl rfl (by decide)) (n_val (r_move) (n_nil (then_rounds (c_seq fun K111 k111=>wp_region_lit (n_val (r_lssT (m:=2) (n:=3) rfl rfl (by decide)) ?_))))))
    simp only [ev,zD,zE,zF,zG]
    refine n_nil (k111 _ _ ?_)
    refine c_seq fun K112 k112=>c_yes rfl (wp_skip (k112 _ _ ?_))
    refine c_seq fun K113 k113=>wp_block (c_seq fun K114 k114=>wp_region_lit (n_val (r_move) (n_val (r_assign) (n_nil (k114 _ _ ?_)))))
    refine c_seq fun K115 k115=>wp_region_lit (n_val (r_move) (n_val (r_build_32_) ?_))
    simp only [ev,zD,zE,zF,zG]
    refine mcallP m rfl rfl (whole0_c) ?_
    clear m; intro u m
    refine n_val (r_indexAddrA Tryz.underlying49 cells_34 rfl rfl (by decide) (by decide) rfl) ?_
    simp only [ev,zD,zE,zF,zG]
    refine mstoreA m 0 rfl rfl rfl cells_34 (leT rfl) rfl ?_
    clear m; intro u m; simp only [over,zH,zI,zJ,zK,zL,zM,zN,zO,zP,zF,zG,Nat.reduceAdd] at m
    refine n_nil (k115 _ _ ?_)
    refine c_seq fun K116 k116=>wp_region_lit (n_val (r_move) (n_nil (k116 _ _ ?_)))
    refine c_no rfl (wp_skip (k113 _ _ ?_))
    refine wp_region_lit (n_val (r_add (m:=2) (n:=1) (r:=3) rfl rfl (by decide)) (n_val (r_move) (n_nil (then_rounds (c_seq fun K117 k117=>wp_region_lit (n_val (r_lssF (m:=3) (n:=3) rfl rfl (by decide)) ?_))))))
    simp only [ev,zD,zE,zF,zG]
    refine n_nil (k117 _ _ ?_)
    refine c_seq fun K118 k118=>c_no rfl (wp_exit (k97 _ _ ?_))
    refine c_seq fun K119 k119=>wp_region_lit (n_load rfl ((m.b 0 rfl).full agg_49 cells_49) ?_)
    simp only [ev,zD,zE,zF,zG]
    refine n_val (r_move) ?_
    simp only [ev,zD,zE,zF,zG]
    refine mstoreA m 3 rfl rfl rfl cells_49 (leT rfl) rfl ?_
    clear m; intro u m; simp only [over,zH,zI,zJ,zK,zL,zM,zN,zO,zP,zF,zG,Nat.reduceAdd] at m
    refine n_val (r_assign) (n_nil (k119 _ _ ?_))
    refine wp_ret ?_
    simp only [ev,zD,zE,zF,zG]
    try simp only [Exit.inBlock,Exit.then,if_true]
    refine fin2 rfl ⟨_,rfl,((m.b 3 rfl).full agg_49 cells_49)⟩ rfl ?_
    try simp only [zD,zE]
    exact ⟨_,rfl,m.ext,by first | (simp only [cq,if_neg hV0,decide_eq_true hV0]; rfl) | (simp only [cq,if_pos hV0,decide_eq_false (not_not_intro hV0)]; rfl)⟩
end Go.Proofs.YtmcgcnpgkkfkoaaGreatDoor
namespace Go.Proofs.YtmcgcnpgkkfkoaaGreatDoor
open Go.RowKit Go.Lith
set_option maxRecDepth 100000
attribute [local irreducible] wpList wpQuiet wpMix wpMixH wpTree Code.wp
end Go.Proofs.YtmcgcnpgkkfkoaaGreatDoor
namespace Go.Proofs.YtmcgcnpgkkfkoaaGreatDoor
open Go.RowKit Go.Lith
set_option maxRecDepth 100000
attribute [local irreducible] wpList wpQuiet wpMix wpMixH wpTree Code.wp
end Go.Proofs.YtmcgcnpgkkfkoaaGreatDoor
namespace Go.Proofs.YtmcgcnpgkkfkoaaGreatDoor
open Go.RowKit Go.Lith
set_option maxRecDepth 100000
attribute [local irreducible] wpList wpQuiet wpMix wpMixH wpTree Code.wp
end Go.Proofs.YtmcgcnpgkkfkoaaGreatDoor
namespace Go.Proofs.YtmcgcnpgkkfkoaaGreatDoor
open Go.RowKit Go.Lith
set_option maxRecDepth 100000
attribute [local irreducible] wpList wpQuiet wpMix wpMixH wpTree Code.wp
instance : Iw 0:=⟨by unfold I64; decide⟩
instance : Iw 2:=⟨by unfold I64; decide⟩
instance : Iw 5:=⟨by unfold I64; decide⟩
instance : Iw 9:=⟨by unfold I64; decide⟩
instance : Iw 16:=⟨by unfold I64; decide⟩
instance : Iw 32:=⟨by unfold I64; decide⟩
instance : Iw (-1):=⟨by unfold I64; decide⟩
theorem lfrac_c {n d : Int} [Iw n] [Iw d] : Pure Tryz.prog 24 [.int .i64 n,.int .i64 d] (Qc n d):=by
 intro w
 refine ⟨en_24,?_⟩
 have m:=Mem.refl w
 go_enter Tryz.func24,Tryz.ntmps24
 refine c_seq fun K1 k1=>wp_region_lit (malloc m zero_34 rfl ?_)
 clear m; intro g1 u m
 refine n_nil (k1 _ _ ?_)
 refine c_seq fun K2 k2=>wp_region_lit (n_val (r_move) ?_)
 simp only [ev,zD,zE,zF,zG]
 refine mcallP m rfl rfl (rFrom_c Iw.h) ?_
 clear m; intro u m
 refine n_val (r_move) ?_
 simp only [ev,zD,zE,zF,zG]
 refine mcallP m rfl rfl (rFrom_c Iw.h) ?_
 clear m; intro u m
 refine n_val (r_build_34_0_1 rfl rfl) ?_
 simp only [ev,zD,zE,zF,zG]
 refine mstoreA m 0 rfl rfl rfl cells_34 (leT rfl) rfl ?_
 clear m; intro u m; simp only [over,zH,zI,zJ,zK,zL,zM,zN,zO,zP,zF,zG,Nat.reduceAdd] at m
 refine n_nil (k2 _ _ ?_)
 refine wp_ret ?_
 try simp only [Exit.inBlock,Exit.then,if_true]
 refine fin1 rfl ⟨_,rfl,((m.b 0 rfl).full agg_34 cells_34)⟩ ?_
 try simp only [zD,zE]
 exact ⟨_,rfl,m.ext,rfl⟩
theorem far_c {x : P3} {t : T3} [I3 x] [IT t] {k : Int} [Iw k] (h : triq x t = (k : Rat)) : Pure Tryz.prog 39 [pt x,tr t,.int .i64 k] (.bool true):=by
 intro w
 refine ⟨en_39,?_⟩
 have m:=Mem.refl w
 go_enter Tryz.func39,Tryz.ntmps39
 refine c_seq fun K1 k1=>wp_region_lit (mboxA m rfl ?_)
 clear m; intro g1 u m
 simp only [ev,zD,zE,zF,zG]
 refine mboxA m rfl ?_
 clear m; intro g2 u m
 refine n_val (r_assign) (n_nil (k1 _ _ ?_))
 refine c_seq fun K2 k2=>wp_region_lit ?_
 simp only [ev,zD,zE,zF,zG]
 refine n_load rfl ((m.b 1 rfl).full agg_28 cells_28) ?_
 simp only [ev,zD,zE,zF,zG]
 refine n_load rfl ((m.b 0 rfl).full agg_59 cells_59) ?_
 simp only [ev,zD,zE,zF,zG]
 refine n_bs_24_1 rfl ?_
 intro u g3 e hg hB; replace m:=m.newB e hg hB; clear e hg hB
 simp only [ev,zD,zE,zF,zG]
 refine mcall m rfl rfl (Far2_c (ts:=[t]) _ (TrisAt.one (m.b 0 rfl)) (by decide)) ?_
 clear m; rintro v u m rfl
 simp only [ev,zD,zE,zF,zG]
 rw [show farq x [t] = (k : Rat) from h,show decide ((0 : Int) < ((1 : Nat) : Int)) = true from rfl]
 refine n_val (r_move) (n_val (r_extract rfl rfl) (n_val (r_extract rfl rfl) ?_))
 simp only [ev,zD,zE,zF,zG]
 refine malloc m zero_34 rfl ?_
 clear m; intro g4 u m
 simp only [ev,zD,zE,zF,zG]
 refine mstoreA m 0 rfl rfl rfl cells_34 (leT rfl) rfl ?_
 clear m; intro u m; simp only [over,zH,zI,zJ,zK,zL,zM,zN,zO,zP,zF,zG,Nat.reduceAdd] at m
 refine n_val (r_assign) (n_nil (k2 _ _ ?_))
 refine c_seq fun K3 k3=>?_
 simp only [ev,zD,zE,zF,zG]
 refine mq m follows_mixed (by kernel_rfl) (q_val (r_move) (q_val (r_move) (q_want rfl ?_)))
 simp only [ev,zD,zE,zF,zG]
 refine ql rfl (fun u m=>((m.b 0 rfl).full agg_34 cells_34)) ?_
 simp only [ev,zD,zE,zF,zG]
 refine q_want rfl (q_val (r_move) (q_want rfl ?_))
 simp only [ev,zD,zE,zF,zG]
 refine qcP rfl rfl (lfrac_c) (q_want rfl (q_val (r_as (eq_eql_34 rfl rfl) (bool_as (decide_eq_true ⟨rfl,rfl,rfl,rfl⟩))) (q_val (r_pickT rfl) (q_val (r_assign) ?_))))
 simp only [ev,zD,zE,zF,zG]
 refine q_nil ?_
 clear m; intro u m
 refine k3 _ _ ?_
 refine wp_ret ?_
 try simp only [Exit.inBlock,Exit.then,if_true]
 refine fin1 rfl rfl ?_
 try simp only [zD,zE]
 exact ⟨_,rfl,m.ext,rfl⟩
def T0 : T3:=⟨⟨0,0,0⟩,⟨4,0,0⟩,⟨0,4,0⟩⟩
instance : IT T0:=inferInstanceAs (IT ⟨⟨0,0,0⟩,⟨4,0,0⟩,⟨0,4,0⟩⟩)
def T1 : T3:=⟨⟨0,0,0⟩,⟨1,0,0⟩,⟨0,1,1⟩⟩
instance : IT T1:=inferInstanceAs (IT ⟨⟨0,0,0⟩,⟨1,0,0⟩,⟨0,1,1⟩⟩)
def tet : List T3:=[⟨⟨0,0,0⟩,⟨0,4,0⟩,⟨4,0,0⟩⟩,⟨⟨0,0,0⟩,⟨4,0,0⟩,⟨0,0,4⟩⟩,⟨⟨4,0,0⟩,⟨0,4,0⟩,⟨0,0,4⟩⟩,⟨⟨0,4,0⟩,⟨0,0,0⟩,⟨0,0,4⟩⟩]
theorem tet_it : ∀ t ∈ tet,IT t:=fun t ht=>by
 simp only [tet,List.mem_cons,List.not_mem_nil,or_false] at ht
 rcases ht with rfl | rfl | rfl | rfl <;> infer_instance
theorem isq {n r : Nat} (h1 : r * r ≤ n) (h2 : n < (r + 1) * (r + 1)) : isqrt n = r:=(isqrt_unique h1 h2).symm
theorem low0 : sumT lowA [T0] = 16:=by rw [sumT_one]; show ((isqrt 256 : Nat) : Int) = 16; rw [isq (r:=16) (by decide) (by decide)]; rfl
theorem high0 : sumT highA [T0] = 16:=by
 have h : lowA T0 = 16:=by have:=low0; rwa [sumT_one] at this
 rw [sumT_one,highA,h]; rfl
theorem low1 : sumT lowA [T1] = 1:=by rw [sumT_one]; show ((isqrt 2 : Nat) : Int) = 1; rw [isq (r:=1) (by decide) (by decide)]; rfl
theorem high1 : sumT highA [T1] = 2:=by
 have h : lowA T1 = 1:=by have:=low1; rwa [sumT_one] at this
 rw [sumT_one,highA,h]; rfl
theorem tet_vol : sumT det tet = 64:=by decide +kernel
theorem tet_x : sumT (mom P3.x) tet = 256:=by decide +kernel
theorem tet_y : sumT (mom P3.y) tet = 256:=by decide +kernel
theorem tet_z : sumT (mom P3.z) tet = 256:=by decide +kernel
theorem cq_one : cq 256 64 = 1:=by decide +kernel
theorem sanity_c  : Pure Tryz.prog 10 [] (.bool true):=by
 intro w
 refine ⟨en_10,?_⟩
 have m:=Mem.refl w
 go_enter Tryz.func10,Tryz.ntmps10
 refine c_seq fun K1 k1=>wp_region_lit (n_val (r_assign) (n_nil (k1 _ _ ?_)))
 refine c_seq fun K2 k2=>wp_region_lit (n_val (r_build_28_) ?_)
 simp only [ev,zD,zE,zF,zG]
 refine malloc m zero_28 rfl ?_
 clear m; intro g1 u m
 simp only [ev,zD,zE,zF,zG]
 refine mstoreA m 0 rfl rfl rfl cells_28 (leT rfl) rfl ?_
 clear m; intro u m; simp only [over,zH,zI,zJ,zK,zL,zM,zN,zO,zP,zF,zG,Nat.reduceAdd] at m
 refine n_nil (k2 _ _ ?_)
 refine c_seq fun K3 k3=>wp_region_lit (n_val (r_build_28_0 rfl) ?_)
 simp only [ev,zD,zE,zF,zG]
 refine malloc m zero_28 rfl ?_
 clear m; intro g2 u m
 simp only [ev,zD,zE,zF,zG]
 refine mstoreA m 0 rfl rfl rfl cells_28 (leT rfl) rfl ?_
 clear m; intro u m; simp only [over,zH,zI,zJ,zK,zL,zM,zN,zO,zP,zF,zG,Nat.reduceAdd] at m
 refine n_nil (k3 _ _ ?_)
 refine c_seq fun K4 k4=>wp_region_lit (n_val (r_build_28_1 rfl) ?_)
 simp only [ev,zD,zE,zF,zG]
 refine malloc m zero_28 rfl ?_
 clear m; intro g3 u m
 simp only [ev,zD,zE,zF,zG]
 refine mstoreA m 0 rfl rfl rfl cells_28 (leT rfl) rfl ?_
 clear m; intro u m; simp only [over,zH,zI,zJ,zK,zL,zM,zN,zO,zP,zF,zG,Nat.reduceAdd] at m
 refine n_nil (k4 _ _ ?_)
 refine c_seq fun K5 k5=>wp_region_lit (n_val (r_build_28_2 rfl) ?_)
 simp only [ev,zD,zE,zF,zG]
 refine malloc m zero_28 rfl ?_
 clear m; intro g4 u m
 simp only [ev,zD,zE,zF,zG]
 refine mstoreA m 0 rfl rfl rfl cells_28 (leT rfl) rfl ?_
 clear m; intro u m; simp only [over,zH,zI,zJ,zK,zL,zM,zN,zO,zP,zF,zG,Nat.reduceAdd] at m
 refine n_nil (k5 _ _ ?_)
 refine c_seq fun K6 k6=>wp_region_lit (n_load rfl ((m.b 3 rfl).full agg_28 cells_28) ?_)
 simp only [ev,zD,zE,zF,zG]
 refine n_load rfl ((m.b 2 rfl).full agg_28 cells_28) ?_
 simp only [ev,zD,zE,zF,zG]
 refine n_load rfl ((m.b 1 rfl).full agg_28 cells_28) ?_
 simp only [ev,zD,zE,zF,zG]
 refine n_val (r_build_59_0_1_2 rfl rfl rfl) ?_
 simp only [ev,zD,zE,zF,zG]
 refine malloc m zero_59 rfl ?_
 clear m; intro g5 u m
 simp only [ev,zD,zE,zF,zG]
 refine mstoreA m 0 rfl rfl rfl cells_59 (leT rfl) rfl ?_
 clear m; intro u m; simp only [over,zH,zI,zJ,zK,zL,zM,zN,zO,zP,zF,zG,Nat.reduceAdd] at m
 refine n_nil (k6 _ _ ?_)
 refine c_seq fun K7 k7=>wp_region_lit (n_load rfl ((m.b 4 rfl).full agg_28 cells_28) ?_)
 simp only [ev,zD,zE,zF,zG]
 refine n_load rfl ((m.b 2 rfl).full agg_28 cells_28) ?_
 simp only [ev,zD,zE,zF,zG]
 refine n_load rfl ((m.b 3 rfl).full agg_28 cells_28) ?_
 simp only [ev,zD,zE,zF,zG]
 refine n_val (r_build_59_0_1_2 rfl rfl rfl) ?_
 simp only [ev,zD,zE,zF,zG]
 refine n_load rfl ((m.b 4 rfl).full agg_28 cells_28) ?_
 simp only [ev,zD,zE,zF,zG]
 refine n_load rfl ((m.b 3 rfl).full agg_28 cells_28) ?_
 simp only [ev,zD,zE,zF,zG]
 refine n_load rfl ((m.b 1 rfl).full agg_28 cells_28) ?_
 simp only [ev,zD,zE,zF,zG]
 refine n_val (r_build_59_0_1_2 rfl rfl rfl) ?_
 simp only [ev,zD,zE,zF,zG]
 refine n_load rfl ((m.b 3 rfl).full agg_28 cells_28) ?_
 simp only [ev,zD,zE,zF,zG]
 refine n_load rfl ((m.b 2 rfl).full agg_28 cells_28) ?_
 simp only [ev,zD,zE,zF,zG]
 refine n_load rfl ((m.b 1 rfl).full agg_28 cells_28) ?_
 simp only [ev,zD,zE,zF,zG]
 refine n_val (r_build_59_0_1_2 rfl rfl rfl) ?_
 simp only [ev,zD,zE,zF,zG]
 refine n_load rfl ((m.b 2 rfl).full agg_28 cells_28) ?_
 simp only [ev,zD,zE,zF,zG]
 refine n_load rfl ((m.b 4 rfl).full agg_28 cells_28) ?_
 simp only [ev,zD,zE,zF,zG]
 refine n_load rfl ((m.b 1 rfl).full agg_28 cells_28) ?_
 simp only [ev,zD,zE,zF,zG]
 refine n_val (r_build_59_0_1_2 rfl rfl rfl) ?_
 simp only [ev,zD,zE,zF,zG]
 refine n_bs_24_4 rfl rfl rfl rfl ?_
 intro u g6 e hg hB; replace m:=m.newB e hg hB; clear e hg hB
 refine n_val (r_assign) (n_nil (k7 _ _ ?_))
 refine c_seq fun K8 k8=>wp_region_lit (n_val (r_build_28_0_1_2 rfl rfl rfl) ?_)
 simp only [ev,zD,zE,zF,zG]
 refine n_load rfl ((m.b 1 rfl).full agg_59 cells_59) ?_
 simp only [ev,zD,zE,zF,zG]
 refine mcallP m rfl rfl (far_c (x:=⟨1,1,3⟩) (t:=⟨⟨0,0,0⟩,⟨4,0,0⟩,⟨0,4,0⟩⟩) (k:=9) (by decide +kernel)) ?_
 clear m; intro u m
 refine n_val (r_move) (n_want rfl (n_val (r_build_28_0_1 rfl rfl) (n_want rfl ?_)))
 simp only [ev,zD,zE,zF,zG]
 refine n_load rfl ((m.b 1 rfl).full agg_59 cells_59) ?_
 simp only [ev,zD,zE,zF,zG]
 refine n_want rfl (mcallP m rfl rfl (far_c (x:=⟨5,-1,0⟩) (t:=⟨⟨0,0,0⟩,⟨4,0,0⟩,⟨0,4,0⟩⟩) (k:=2) (by decide +kernel)) ?_)
 clear m; intro u m
 refine n_val (r_pickT rfl) (n_val (r_move) (n_want rfl (n_val (r_build_28_0_1 rfl rfl) ?_)))
 simp only [ev,zD,zE,zF,zG]
 refine n_want rfl (n_load rfl ((m.b 1 rfl).full agg_59 cells_59) ?_)
 simp only [ev,zD,zE,zF,zG]
 refine n_want rfl (mcallP m rfl rfl (far_c (x:=⟨3,3,0⟩) (t:=⟨⟨0,0,0⟩,⟨4,0,0⟩,⟨0,4,0⟩⟩) (k:=2) (by decide +kernel)) ?_)
 clear m; intro u m
 refine n_val (r_pickT rfl) (n_val (r_assign) (n_nil (k8 _ _ ?_)))
 refine c_seq fun K9 k9=>wp_region_lit (n_val (r_build_28_2 rfl) ?_)
 simp only [ev,zD,zE,zF,zG]
 refine n_val (r_build_28_0_1 rfl rfl) (n_val (r_build_28_0_1 rfl rfl) (n_val (r_build_28_0_1 rfl rfl) (n_val (r_build_59_0_1_2 rfl rfl rfl) ?_)))
 simp only [ev,zD,zE,zF,zG]
 refine mcallP m rfl rfl (far_c (x:=⟨0,0,1⟩) (t:=⟨⟨1,1,0⟩,⟨3,1,0⟩,⟨2,1,0⟩⟩) (k:=3) (by decide +kernel)) ?_
 clear m; intro u m
 refine n_val (r_assign) (n_nil (k9 _ _ ?_))
 refine c_seq fun K10 k10=>wp_region_lit ?_
 simp only [ev,zD,zE,zF,zG]
 refine n_load rfl ((m.b 1 rfl).full agg_59 cells_59) ?_
 simp only [ev,zD,zE,zF,zG]
 refine n_bs_24_1 rfl ?_
 intro u g7 e hg hB; replace m:=m.newB e hg hB; clear e hg hB
 simp only [ev,zD,zE,zF,zG]
 refine mcall m rfl rfl (Area_c (ts:=[T0]) _ (TrisAt.one (t:=T0) (m.b 0 rfl)) (by decide)) ?_
 clear m; rintro v u m rfl
 simp only [ev,zD,zE,zF,zG]
 rw [low0,high0]
 refine n_val (r_move) (n_val (r_extract rfl rfl) (n_val (r_extract rfl rfl) ?_))
 simp only [ev,zD,zE,zF,zG]
 refine malloc m zero_32 rfl ?_
 clear m; intro g8 u m
 simp only [ev,zD,zE,zF,zG]
 refine malloc m zero_32 rfl ?_
 clear m; intro g9 u m
 simp only [ev,zD,zE,zF,zG]
 refine mstoreA m 1 rfl rfl rfl cells_32 (leT rfl) rfl ?_
 clear m; intro u m; simp only [over,zH,zI,zJ,zK,zL,zM,zN,zO,zP,zF,zG,Nat.reduceAdd] at m
 refine mstoreA m 0 rfl rfl rfl cells_32 (leT rfl) rfl ?_
 clear m; intro u m; simp only [over,zH,zI,zJ,zK,zL,zM,zN,zO,zP,zF,zG,Nat.reduceAdd] at m
 refine n_nil (k10 _ _ ?_)
 refine c_seq fun K11 k11=>wp_region_lit (n_load rfl ((m.b 8 rfl).full agg_28 cells_28) ?_)
 simp only [ev,zD,zE,zF,zG]
 refine n_val (r_build_28_0 rfl) (n_val (r_build_28_1_2 rfl rfl) (n_val (r_build_59_0_1_2 rfl rfl rfl) ?_))
 simp only [ev,zD,zE,zF,zG]
 refine n_bs_24_1 rfl ?_
 intro u g10 e hg hB; replace m:=m.newB e hg hB; clear e hg hB
 simp only [ev,zD,zE,zF,zG]
 refine mcall m rfl rfl (Area_c (ts:=[T1]) _ (TrisAt.one (t:=T1) (m.b 0 rfl)) (by decide)) ?_
 clear m; rintro v u m rfl
 simp only [ev,zD,zE,zF,zG]
 rw [low1,high1]
 refine n_val (r_move) (n_val (r_extract rfl rfl) (n_val (r_extract rfl rfl) ?_))
 simp only [ev,zD,zE,zF,zG]
 refine malloc m zero_32 rfl ?_
 clear m; intro g11 u m
 simp only [ev,zD,zE,zF,zG]
 refine malloc m zero_32 rfl ?_
 clear m; intro g12 u m
 simp only [ev,zD,zE,zF,zG]
 refine mstoreA m 1 rfl rfl rfl cells_32 (leT rfl) rfl ?_
 clear m; intro u m; simp only [over,zH,zI,zJ,zK,zL,zM,zN,zO,zP,zF,zG,Nat.reduceAdd] at m
 refine mstoreA m 0 rfl rfl rfl cells_32 (leT rfl) rfl ?_
 clear m; intro u m; simp only [over,zH,zI,zJ,zK,zL,zM,zN,zO,zP,zF,zG,Nat.reduceAdd] at m
 refine n_nil (k11 _ _ ?_)
 refine c_seq fun K12 k12=>wp_region_lit (n_val (r_move) ?_)
 simp only [ev,zD,zE,zF,zG]
 refine mcall m rfl rfl (Centre_c (ts:=tet) _ (TrisAt.of_cells (ts:=tet) (m.b 6 rfl) rfl rfl tet_it) (by decide)) ?_
 clear m; rintro v u m rfl
 simp only [ev,zD,zE,zF,zG]
 rw [tet_vol,tet_x,tet_y,tet_z,cq_one,show decide ((64 : Int) ≠ 0) = true from rfl]
 refine n_val (r_move) (n_val (r_extract rfl rfl) (n_val (r_extract rfl rfl) ?_))
 simp only [ev,zD,zE,zF,zG]
 refine malloc m zero_49 rfl ?_
 clear m; intro g13 u m
 simp only [ev,zD,zE,zF,zG]
 refine mstoreA m 0 rfl rfl rfl cells_49 (leT rfl) rfl ?_
 clear m; intro u m; simp only [over,zH,zI,zJ,zK,zL,zM,zN,zO,zP,zF,zG,Nat.reduceAdd] at m
 refine n_val (r_assign) (n_nil (k12 _ _ ?_))
 refine c_seq fun K13 k13=>?_
 simp only [ev,zD,zE,zF,zG]
 refine mq m follows_mixed (by kernel_rfl) (ql rfl (fun u m=>((m.b 5 rfl).full agg_32 cells_32)) ?_)
 simp only [ev,zD,zE,zF,zG]
 refine qcP rfl rfl (rFrom_c Iw.h) (q_val (r_as (eq_eql_32 rfl rfl) (bool_as (decide_eq_true ⟨rfl,rfl⟩))) (q_val (r_move) (q_want rfl ?_)))
 simp only [ev,zD,zE,zF,zG]
 refine ql rfl (fun u m=>((m.b 4 rfl).full agg_32 cells_32)) ?_
 simp only [ev,zD,zE,zF,zG]
 refine q_want rfl (ql rfl (fun u m=>((m.b 5 rfl).full agg_32 cells_32)) ?_)
 simp only [ev,zD,zE,zF,zG]
 refine q_want rfl (q_val (r_as (eq_eql_32 rfl rfl) (bool_as (decide_eq_true ⟨rfl,rfl⟩))) (q_val (r_pickT rfl) (q_val (r_move) (q_want rfl ?_))))
 simp only [ev,zD,zE,zF,zG]
 refine ql rfl (fun u m=>((m.b 2 rfl).full agg_32 cells_32)) ?_
 simp only [ev,zD,zE,zF,zG]
 refine q_want rfl (qcP rfl rfl (rFrom_c Iw.h) (q_want rfl (q_val (r_as (eq_eql_32 rfl rfl) (bool_as (decide_eq_true ⟨rfl,rfl⟩))) (q_val (r_pickT rfl) (q_val (r_move) ?_)))))
 simp only [ev,zD,zE,zF,zG]
 refine q_want rfl (ql rfl (fun u m=>((m.b 1 rfl).full agg_32 cells_32)) ?_)
 simp only [ev,zD,zE,zF,zG]
 refine q_want rfl (qcP rfl rfl (rFrom_c Iw.h) (q_want rfl (q_val (r_as (eq_eql_32 rfl rfl) (bool_as (decide_eq_true ⟨rfl,rfl⟩))) (q_val (r_pickT rfl) (q_val (r_assign) ?_)))))
 simp only [ev,zD,zE,zF,zG]
 refine q_nil ?_
 clear m; intro u m
 refine k13 _ _ ?_
 refine c_seq fun K14 k14=>mq m follows_mixed (by kernel_rfl) (q_val (r_move) (q_val (r_move) (q_want rfl (q_val (r_move) (q_val (r_pickT rfl) ?_)))))
 simp only [ev,zD,zE,zF,zG]
 refine q_val (r_move) (q_want rfl (q_val (r_move) (q_val (r_pickT rfl) (q_val (r_move) ?_))))
 simp only [ev,zD,zE,zF,zG]
 refine q_want rfl (q_val (r_move) (q_val (r_pickT rfl) (q_val (r_move) (q_want rfl (q_val (r_move) ?_)))))
 simp only [ev,zD,zE,zF,zG]
 refine q_want rfl (qc rfl rfl (fun u m=>Volume_c (ts:=tet) _ (TrisAt.of_cells (ts:=tet) ((m.b 7 rfl)) rfl rfl tet_it) (by decide)) (q_want rfl ?_))
 simp only [ev,zD,zE,zF,zG]
 refine qcP rfl rfl (lfrac_c) (q_want rfl (q_val (r_as (eq_eql_34 rfl rfl) (bool_as (decide_eq_true ⟨rfl,rfl,rfl,rfl⟩))) (q_val (r_pickT rfl) (q_val (r_move) ?_))))
 simp only [ev,zD,zE,zF,zG]
 refine q_want rfl (ql rfl (fun u m=>((m.b 0 rfl).full agg_49 cells_49)) ?_)
 simp only [ev,zD,zE,zF,zG]
 refine q_want rfl (qcP rfl rfl (lfrac_c) (q_want rfl ?_))
 simp only [ev,zD,zE,zF,zG]
 refine qcP rfl rfl (lfrac_c) (q_want rfl ?_)
 simp only [ev,zD,zE,zF,zG]
 refine qcP rfl rfl (lfrac_c) (q_want rfl (q_val (r_build_49_0_1_2 rfl rfl rfl) (q_want rfl (q_val (r_as (eq_eql_49 rfl rfl) (bool_as (decide_eq_true ⟨rfl,rfl,rfl,rfl,rfl,rfl,rfl,rfl,rfl,rfl,rfl,rfl⟩))) (q_val (r_pickT rfl) ?_)))))
 simp only [ev,zD,zE,zF,zG]
 refine q_val (r_assign) (q_nil ?_)
 clear m; intro u m
 refine k14 _ _ ?_
 refine wp_ret ?_
 simp only [ev,zD,zE,zF,zG]
 try simp only [Exit.inBlock,Exit.then,if_true]
 refine fin1 rfl rfl ?_
 try simp only [zD,zE]
 exact ⟨_,rfl,m.ext,rfl⟩
end Go.Proofs.YtmcgcnpgkkfkoaaGreatDoor
namespace Go.Lith
open Go.RowKit
structure GX (w w' : World) : Prop where
  ext : Ext w w'
  dr : w.drawn ≤ w'.drawn
theorem GX.trans {a b c : World} (h : GX a b) (k : GX b c) : GX a c:=⟨h.ext.trans k.ext,Nat.le_trans h.dr k.dr⟩
theorem GX.grow {w w' : World} (h : GX w w') : ∃ q os,w' = Sort.grow (w.drewN q) os:=by
  refine ⟨w'.drawn - w.drawn,w'.heap.extract w.heap.size w'.heap.size,?_⟩
  have e1 : w.heap ++ w'.heap.extract w.heap.size w'.heap.size = w'.heap:=by
    apply Array.ext_getElem?
    intro i
    rw [Array.getElem?_append]
    split
    · rename_i hi
      exact (Below.block h.ext i hi).symm
    · rename_i hi
      rw [Array.getElem?_extract]
      have:=h.ext.size
      split
      · congr 1; omega
      · rw [Array.getElem?_eq_none (by omega)]
  have e2 : w.drawn + (w'.drawn - w.drawn) = w'.drawn:=by have:=h.dr; omega
  have h1:=h.ext.os
  have h2:=h.ext.tape
  have h3:=h.ext.output
  cases w
  cases w'
  simp only [Sort.grow,World.drewN] at *
  subst h1 h2 h3
  rw [e1,e2]
structure MemG (w0 w : World) (is : List It) : Prop where
  ext : GX w0 w
  mem : Mem w0 w is
def GPure (P : Program) (f : FuncId) (args : List Value) (v : Value) : Prop:=∀ w,Enters P f ∧ Calls P f args.toArray w fun e w'=>∃ u,e = .returned u ∧ GX w w' ∧ u = v
theorem GPure.pure {P : Program} {f : FuncId} {args : List Value} {v : Value} (h : GPure P f args v) : Pure P f args v:=fun w=>⟨(h w).1,(h w).2.mono fun _ _ ⟨u,he,hX,hv⟩=>⟨u,he,hX.ext,hv⟩⟩
section
variable {w0 w w' : World} {is : List It}
theorem MemG.refl (w : World) : MemG w w []:=⟨⟨Ext.refl w,Nat.le_refl _⟩,Mem.refl w⟩
theorem MemG.go (m : MemG w0 w is) {js : List It} (h : Mem w0 w' js) (d : w.drawn ≤ w'.drawn) : MemG w0 w' js:=⟨⟨h.ext,Nat.le_trans m.ext.dr d⟩,h⟩
theorem MemG.ext' (m : MemG w0 w is) (e : GX w w') : MemG w0 w' is:=m.go (m.mem.ext' e.ext) e.dr
theorem MemG.b (m : MemG w0 w is) (k : Nat) {g : Nat} {cs : List Value} {t : TypeId} (hk : is[k]? = some (bI g cs t)) : Blk w g cs t:=m.mem.b k hk
theorem MemG.sel (m : MemG w0 w is) (bs : List Bool) : MemG w0 w (selB bs is):=⟨m.ext,m.mem.sel bs⟩
end
section
variable {P : Program} {ds : List Deferred} {l : List Value} {x y : Operand} {T ty : TypeId}
variable {ops : Array Oper} {Q : Exit → Act → World → Prop} {rest : List Oper} {d : Nat} {pos : String} {after : Array Edge} {w w0 : World} {is : List It} {v : Value}
theorem Gmbox {cs : List Value} (m : MemG w0 w is) (hv : (ev l x).cells = cs.toArray) (h : ∀ g u,MemG w0 u (bI g cs T :: is) → wpList P ops Q rest (Fr (l.set d (.pointer (some ⟨g,0,none⟩))) ds) u) :
    wpList P ops Q (Oper.mk (some d) (.box T x) ty pos after none :: rest) (Fr l ds) w :=
  n_newW (w':=w.alloc (.cells cs.toArray T)) (v:=.pointer (some ⟨w.heap.size,0,none⟩)) (fun o ho _=>by simp [execOp,ho,ev_eq,Instr.box,newVar,newRow,hv,newObj,Sem.run]) (h _ _ (m.go (m.mem.newB ((Ext.refl w).alloc _) (Nat.le_refl _) (blk_alloc w cs T)) (Nat.le_refl _)))
theorem GmboxA {cs : List Value} (m : MemG w0 w is) (hv : ev l x = .agg cs.toArray) (h : ∀ g u,MemG w0 u (bI g cs T :: is) → wpList P ops Q rest (Fr (l.set d (.pointer (some ⟨g,0,none⟩))) ds) u) :
    wpList P ops Q (Oper.mk (some d) (.box T x) ty pos after none :: rest) (Fr l ds) w:=Gmbox m (by rw [hv]; rfl) h
theorem Gmalloc {cs : List Value} {z : Value} (m : MemG w0 w is) (hZ : Zero P T z) (hv : z.cells = cs.toArray) (h : ∀ g u,MemG w0 u (bI g cs T :: is) → wpList P ops Q rest (Fr (l.set d (.pointer (some ⟨g,0,none⟩))) ds) u) :
    wpList P ops Q (Oper.mk (some d) (.alloc T) ty pos after none :: rest) (Fr l ds) w:=by
  obtain ⟨inf,hi,hz⟩:=hZ
  exact n_newW (w':=w.alloc (.cells cs.toArray T)) (v:=.pointer (some ⟨w.heap.size,0,none⟩)) (fun o ho _=>by simp [execOp,ho,Instr.alloc,zeroValue,typeInfo,hi,hz,newVar,newRow,hv,newObj,Sem.run]) (h _ _ (m.go (m.mem.newB ((Ext.refl w).alloc _) (Nat.le_refl _) (blk_alloc w cs T)) (Nat.le_refl _)))
theorem Gmstore {g off : Nat} {cs us : List Value} {t : TypeId} (m : MemG w0 w is) (k : Nat) (hk : is[k]? = some (bI g cs t)) (hx : ev l x = .pointer (some ⟨g,off,none⟩)) (hv : (ev l y).cells = us.toArray) (hc : Cells P T us.length) (hfit : off + us.length ≤ cs.length) (h1 : (us.all (·.oneCell')) = true)
    (h : ∀ u,MemG w0 u (is.set k (bI g (over cs off us) t)) → wpList P ops Q rest (Fr l ds) u) : wpList P ops Q (Oper.mk none (.store T x y) ty pos after none :: rest) (Fr l ds) w:=by
  have hB:=m.b k hk
  have hC:=chg_setRow w g (over cs off us).toArray
  exact n_skipW (w':=w.setRow g (over cs off us).toArray) (fun o ho=>by simp [execOp,ho,ev_eq,hx,Instr.storeAt,Instr.sureAddr,run_storeVar hc hv hB hfit (allT h1)])
    (h _ (m.go (m.mem.put k hk hC.os hC.tape hC.output (by rw [hC.size]; exact Nat.le_refl _) (fun b _ hne=>hC.block b fun e=>hne (by rw [e]; rfl)) (setRow_heap w g cs.toArray _ t _ hB) (.inl rfl)) (Nat.le_refl _)))
theorem GmstoreA {g off : Nat} {cs us : List Value} {t : TypeId} (m : MemG w0 w is) (k : Nat) (hk : is[k]? = some (bI g cs t)) (hx : ev l x = .pointer (some ⟨g,off,none⟩)) (hv : ev l y = .agg us.toArray) (hc : Cells P T us.length) (hfit : off + us.length ≤ cs.length) (h1 : (us.all (·.oneCell')) = true)
    (h : ∀ u,MemG w0 u (is.set k (bI g (over cs off us) t)) → wpList P ops Q rest (Fr l ds) u) : wpList P ops Q (Oper.mk none (.store T x y) ty pos after none :: rest) (Fr l ds) w:=Gmstore m k hk hx (by rw [hv]; rfl) hc hfit h1 h
theorem GmcallP {f : FuncId} {fo : Operand} {xs : Array Operand} {args : List Value} {first cap : Array Value} {a0 : Array TypeId} (m : MemG w0 w is) (hf : ev l fo = .func (.func f) first cap) (hxs : first.toList ++ xs.toList.map (ev l) ++ cap.toList = args) (hc : GPure P f args v)
    (h : ∀ u,MemG w0 u is → wpList P ops Q rest (Fr (l.set d v) ds) u) : wpList P ops Q (Oper.mk (some d) (.call { callee:=.value fo,args:=xs,argTypes:=a0 }) ty pos after none :: rest) (Fr l ds) w:=by
  refine wpList_plain rfl fun K hK=>?_
  unfold Oper.wp
  rw [fr_eval,run_call (hc w).1 hf hxs _ rfl]
  refine (hc w).2.mono ?_
  rintro e w' ⟨u,rfl,hE,rfl⟩
  show K ((Fr l ds).put (some d) u) w'
  rw [fr_put]
  exact hK _ _ (h w' (m.ext' hE))
theorem MemG.drew (m : MemG w0 w is) : MemG w0 { w with drawn:=w.drawn + 1 } is:=m.ext' ⟨(Ext.refl w).drawn,Nat.le_succ _⟩
theorem Gmq {id : Nat} {a : Act} {l : List Oper} (m : MemG w0 w is) (hm : P.follows .mixedOrders = true) (hB : Region.lexB .any l.toArray = true)
    (h : wpQuiet P l.toArray (fun u=>MemG w0 u is) (fun a'=>∀ u,MemG w0 u is → Q .normal a' u) l a) : (Code.region id l.toArray true).wp P Q a w :=
  wp_region_quiet (C:=fun u=>MemG w0 u is) hm hB m.drew (by simpa using h)
end
section
variable {P : Program} {w0 : World} {is : List It} {l : List Value} {x y : Operand} {T ty : TypeId}
variable {ops : Array Oper} {Q : Act → Prop} {rest : List Oper} {d : Nat} {pos : String} {after : Array Edge} {v : Value} {ds : List Deferred}
theorem Gql {a : Addr} (hx : ev l x = .pointer (some a)) (hv : ∀ u,MemG w0 u is → Lies P u T a v) (h : wpQuiet P ops (fun u=>MemG w0 u is) Q rest (Fr (l.set d v) ds)) : wpQuiet P ops (fun u=>MemG w0 u is) Q (Oper.mk (some d) (.load T x) ty pos after none :: rest) (Fr l ds) :=
  q_valW (fun u m=>r_load hx (hv u m)) h
theorem GqcP {f : FuncId} {fo : Operand} {xs : Array Operand} {args : List Value} {first cap : Array Value} {a0 : Array TypeId} (hf : ev l fo = .func (.func f) first cap) (hxs : first.toList ++ xs.toList.map (ev l) ++ cap.toList = args) (hc : GPure P f args v)
    (h : wpQuiet P ops (fun u=>MemG w0 u is) Q rest (Fr (l.set d v) ds)) : wpQuiet P ops (fun u=>MemG w0 u is) Q (Oper.mk (some d) (.call { callee:=.value fo,args:=xs,argTypes:=a0 }) ty pos after none :: rest) (Fr l ds):=by
  refine wpQuiet_step fun K hK=>?_
  rw [if_pos (by simp [Region.wanted])]
  refine ⟨v,fun w' hw=>?_,?_⟩
  · unfold Oper.quietAt
    rw [fr_eval,run_call (hc w').1 hf hxs _ rfl]
    refine ⟨rfl,(hc w').2.mono ?_⟩
    rintro e w'' ⟨u,rfl,hE,rfl⟩
    exact ⟨rfl,hw.ext' hE⟩
  · show K ((Fr l ds).put (some d) v)
    rw [fr_put]
    exact hK _ h
end
end Go.Lith
namespace Go.Lith
open Go.RowKit
def P3.Lt (p q : P3) : Prop:=p.x < q.x ∨ p.x = q.x ∧ (p.y < q.y ∨ p.y = q.y ∧ p.z < q.z)
instance (p q : P3) : Decidable (p.Lt q):=by unfold P3.Lt; infer_instance
def cmpP (p q : P3) : Int:=if p.Lt q then -1 else if q.Lt p then 1 else 0
theorem P3.eq {p q : P3} (h1 : p.x = q.x) (h2 : p.y = q.y) (h3 : p.z = q.z) : p = q:=by
  cases p; cases q; simp_all
instance : DecidableEq P3:=fun p q=>if h : p.x = q.x ∧ p.y = q.y ∧ p.z = q.z then isTrue (P3.eq h.1 h.2.1 h.2.2) else isFalse fun e=>h (by subst e; exact ⟨rfl,rfl,rfl⟩)
theorem P3.lt_irrefl (p : P3) : ¬ p.Lt p:=by unfold P3.Lt; omega
theorem P3.lt_trans {p q r : P3} (h : p.Lt q) (k : q.Lt r) : p.Lt r:=by unfold P3.Lt at *; omega
theorem P3.lt_tri (p q : P3) : p.Lt q ∨ p = q ∨ q.Lt p:=by
  by_cases h1 : p.x = q.x
  · by_cases h2 : p.y = q.y
    · by_cases h3 : p.z = q.z
      · exact .inr (.inl (P3.eq h1 h2 h3))
      · unfold P3.Lt; omega
    · unfold P3.Lt; omega
  · unfold P3.Lt; omega
theorem P3.lt_x {p q : P3} (h : ¬ p.x = q.x) : p.Lt q ↔ p.x < q.x:=by unfold P3.Lt; omega
theorem P3.lt_y {p q : P3} (h : p.x = q.x) (h2 : ¬ p.y = q.y) : p.Lt q ↔ p.y < q.y:=by unfold P3.Lt; omega
theorem P3.lt_z {p q : P3} (h : p.x = q.x) (h2 : p.y = q.y) : p.Lt q ↔ p.z < q.z:=by unfold P3.Lt; omega
end Go.Lith
namespace Go.Lith
open Go.RowKit
def MapB (w : World) (g : Nat) (es : Array MapEntry) (c : Nat) : Prop:=w.heap[g]? = some (.map es c)
def IterB (w : World) (r g s : Nat) (seen : Array Nat) (c : Nat) : Prop:=w.heap[r]? = some (.mapIter (some g) s seen c)
theorem MapB.ext {w w' : World} {g c : Nat} {es : Array MapEntry} (h : MapB w g es c) (hE : Ext w w') : MapB w' g es c:=hE.block h
theorem IterB.ext {w w' : World} {r g s c : Nat} {seen : Array Nat} (h : IterB w r g s seen c) (hE : Ext w w') : IterB w' r g s seen c:=hE.block h
theorem MapB.chg {w w' : World} {g c k : Nat} {es : Array MapEntry} (h : MapB w g es c) (hC : Chg w w' k) (hne : g ≠ k) : MapB w' g es c:=(hC.block g hne).trans h
theorem IterB.chg {w w' : World} {r g s c k : Nat} {seen : Array Nat} (h : IterB w r g s seen c) (hC : Chg w w' k) (hne : r ≠ k) : IterB w' r g s seen c:=(hC.block r hne).trans h
theorem MapB.lt {w : World} {g c : Nat} {es : Array MapEntry} (h : MapB w g es c) : g < w.heap.size:=(Array.getElem?_eq_some_iff.1 h).1
theorem IterB.lt {w : World} {r g s c : Nat} {seen : Array Nat} (h : IterB w r g s seen c) : r < w.heap.size:=(Array.getElem?_eq_some_iff.1 h).1
section
variable {P : Program} {ds : List Deferred} {l : List Value} {x : Operand} {T ty : TypeId} {ops : Array Oper} {Q : Exit → Act → World → Prop} {rest : List Oper} {d : Nat} {pos : String} {after : Array Edge} {w : World}
theorem n_makeMap (h : ∀ w' g,Ext w w' → w.heap.size ≤ g → MapB w' g #[] 0 → wpList P ops Q rest (Fr (l.set d (.map (some g))) ds) w') : wpList P ops Q (Oper.mk (some d) (.makeMap T none) ty pos after none :: rest) (Fr l ds) w :=
  n_newW (w':=w.alloc (.map #[] 0)) (v:=.map (some w.heap.size)) (fun o ho _=>by simp [execOp,ho,Instr.makeMap,newObj,Sem.run]) (h _ _ ((Ext.refl w).alloc _) (Nat.le_refl _) (heap_alloc_new w _))
theorem n_range {k e : TypeId} {g c : Nat} {es : Array MapEntry} (hu : P.underlying T = some (.map k e)) (hx : ev l x = .map (some g)) (hM : MapB w g es c) (h : ∀ w' r,Ext w w' → w.heap.size ≤ r → IterB w' r g c #[] c → wpList P ops Q rest (Fr (l.set d (.pointer (some ⟨r,0,none⟩))) ds) w') :
    wpList P ops Q (Oper.mk (some d) (.range T x) ty pos after none :: rest) (Fr l ds) w :=
  n_newW (w':=w.alloc (.mapIter (some g) c #[] c)) (v:=.pointer (some ⟨w.heap.size,0,none⟩)) (fun o ho _=>by
    unfold MapB at hM
    simp [execOp,ho,ev_eq,hx,Instr.range,run_underlying hu,getObj,hM,newObj,Sem.run]) (h _ _ ((Ext.refl w).alloc _) (Nat.le_refl _) (heap_alloc_new w _))
end
end Go.Lith
namespace Go.Lith
open Go.RowKit Go.ChangeMaps Go.MapKept
/-! ### Lists of pairs -/
section
variable {K V : Type} [DecidableEq K]
def mput : List (K × V) → K → V → List (K × V)
  | [],k,v=>[(k,v)]
  | x :: D,k,v=>if x.1 = k then (k,v) :: D else x :: mput D k v
def mget : List (K × V) → K → Option V
  | [],_=>none
  | x :: D,k=>if x.1 = k then some x.2 else mget D k
def mdel : List (K × V) → K → List (K × V)
  | [],_=>[]
  | x :: D,k=>if x.1 = k then D else x :: mdel D k
def mfind : List (K × V) → K → Nat → Option (Nat × V)
  | [],_,_=>none
  | x :: D,k,i=>if x.1 = k then some (i,x.2) else mfind D k (i + 1)
theorem mfind_none : ∀ (D : List (K × V)) (k : K) (i : Nat),mfind D k i = none → mget D k = none ∧ (∀ u,mput D k u = D ++ [(k,u)]) ∧ mdel D k = D
  | [],_,_,_=>⟨rfl,fun _=>rfl,rfl⟩
  | x :: D,k,i,h=>by
    unfold mfind at h
    by_cases e : x.1 = k
    · rw [if_pos e] at h; cases h
    · rw [if_neg e] at h
      obtain ⟨h1,h2,h3⟩:=mfind_none D k (i + 1) h
      exact ⟨by simp [mget,e,h1],fun u=>by simp [mput,e,h2],by simp [mdel,e,h3]⟩
theorem mfind_some : ∀ (D : List (K × V)) (k : K) (i j : Nat) (v : V),mfind D k i = some (j,v) → ∃ p,j = i + p ∧ D[p]? = some (k,v) ∧ mget D k = some v ∧ (∀ u,mput D k u = D.set p (k,u)) ∧ mdel D k = D.eraseIdx p
  | [],_,_,_,_,h=>by cases h
  | x :: D,k,i,j,v,h=>by
    unfold mfind at h
    by_cases e : x.1 = k
    · rw [if_pos e] at h
      cases h
      obtain ⟨a,b⟩:=x
      obtain rfl : a = k:=e
      exact ⟨0,rfl,rfl,by simp [mget],fun u=>by simp [mput],by simp [mdel]⟩
    · rw [if_neg e] at h
      obtain ⟨p,h1,h2,h3,h4,h5⟩:=mfind_some D k (i + 1) j v h
      exact ⟨p + 1,by omega,by simpa using h2,by simp [mget,e,h3],fun u=>by simp [mput,e,h4],by simp [mdel,e,h5]⟩
theorem mput_keys : ∀ (D : List (K × V)) (k : K) (v : V),(mput D k v).map (·.1) = if k ∈ D.map (·.1) then D.map (·.1) else D.map (·.1) ++ [k]
  | [],k,v=>by simp [mput]
  | x :: D,k,v=>by
    unfold mput
    by_cases e : x.1 = k
    · simp [e]
    · have e' : ¬ k = x.1:=fun h=>e h.symm
      simp only [if_neg e,List.map_cons,mput_keys D k v,List.mem_cons,e',false_or]
      split <;> simp
theorem mput_nodup {D : List (K × V)} (h : (D.map (·.1)).Nodup) (k : K) (v : V) : ((mput D k v).map (·.1)).Nodup:=by
  rw [mput_keys]
  split
  · exact h
  · rename_i hk
    exact List.nodup_append.2 ⟨h,by simp,fun a ha b hb e=>by rw [List.mem_singleton.1 hb] at e; exact hk (e ▸ ha)⟩
end
/-! ### A map's entries -/
def mpr (e : MapEntry) : Value × Value:=(e.key,e.val)
structure MapOf {K V : Type} (ek : K → Value) (ev : V → Value) (D : List (K × V)) (es : Array MapEntry) (c : Nat) : Prop where
  cells : es.toList.map mpr = D.map fun x=>(ek x.1,ev x.2)
  born : ∀ e ∈ es.toList,e.born < c
  nd : (es.toList.map (·.born)).Nodup
theorem MapOf.nil {K V : Type} (ek : K → Value) (ev : V → Value) : MapOf ek ev ([] : List (K × V)) #[] 0:=⟨rfl,fun _ h=>by simp at h,by simp⟩
theorem MapOf.len {K V : Type} {ek : K → Value} {ev : V → Value} {D : List (K × V)} {es : Array MapEntry} {c : Nat} (h : MapOf ek ev D es c) : es.size = D.length:=by
  have:=congrArg List.length h.cells
  simpa using this
structure KeyT {K : Type} [DecidableEq K] (P : Program) (T : TypeId) (ek : K → Value) : Prop where
  chk : ∀ e k w,(Instr.checkKey e 10000 T (ek k)).run P w = .ok () w
  now : ∃ t,P.underlying T = some t ∧ ∀ a b,Instr.sameNow t (ek a) (ek b) = none ∨ Instr.sameNow t (ek a) (ek b) = some (decide (a = b))
  eq : ∀ a b w,(Op.equal T (ek a) (ek b)).run P w = .ok (decide (a = b)) w
  bits : ∀ a,Instr.sameBits 10000 (ek a) (ek a) = true
section
variable {K V : Type} [DecidableEq K] {P : Program} {T : TypeId} {ek : K → Value} {ev : V → Value}
theorem find_asking (kt : KeyT P T ek) (k : K) (w : World) : ∀ (L : List MapEntry) (D : List (K × V)) (i : Nat),L.map mpr = D.map (fun x=>(ek x.1,ev x.2)) →
    (Instr.findAsking T (ek k) L i).run P w = .ok ((mfind D k i).map fun p=>(p.1,ev p.2)) w
  | [],D,i,h=>by
    obtain rfl : D = []:=by simpa using h.symm
    simp [Instr.findAsking,mfind]
  | e :: L,[],i,h=>by simp at h
  | e :: L,x :: D,i,h=>by
    simp only [List.map_cons,List.cons.injEq,mpr,Prod.mk.injEq] at h
    obtain ⟨⟨h1,h2⟩,h3⟩:=h
    have ih:=find_asking kt k w L D (i + 1) h3
    unfold Instr.findAsking mfind
    rw [h1,h2]
    simp only [Sem.run_bind,kt.eq,Result.andThen]
    by_cases e' : x.1 = k
    · rw [if_pos (decide_eq_true e'.symm),if_pos e']
      rfl
    · rw [if_neg (by rw [decide_eq_false (Ne.symm e')]; exact Bool.false_ne_true),if_neg e']
      exact ih
theorem find_now (t : TypeDesc) (k : K) (hn : ∀ a b : K,Instr.sameNow t (ek a) (ek b) = none ∨ Instr.sameNow t (ek a) (ek b) = some (decide (a = b))) : ∀ (L : List MapEntry) (D : List (K × V)) (i : Nat),L.map mpr = D.map (fun x=>(ek x.1,ev x.2)) →
    Instr.findNow t (ek k) L i = none ∨ Instr.findNow t (ek k) L i = some ((mfind D k i).map fun p=>(p.1,ev p.2))
  | [],D,i,h=>by
    obtain rfl : D = []:=by simpa using h.symm
    simp [Instr.findNow,mfind]
  | e :: L,[],i,h=>by simp at h
  | e :: L,x :: D,i,h=>by
    simp only [List.map_cons,List.cons.injEq,mpr,Prod.mk.injEq] at h
    obtain ⟨⟨h1,h2⟩,h3⟩:=h
    have ih:=find_now t k hn L D (i + 1) h3
    unfold Instr.findNow mfind
    rw [h1,h2]
    rcases hn k x.1 with e0 | e0
    · left; rw [e0]
    · rw [e0]
      by_cases e' : x.1 = k
      · right; simp [e']
      · rw [show decide (k = x.1) = false from decide_eq_false (Ne.symm e')]
        simpa [e'] using ih
theorem find_key (kt : KeyT P T ek) (k : K) (w : World) {es : Array MapEntry} {D : List (K × V)} {c : Nat} (h : MapOf ek ev D es c) : (Instr.findKey T (ek k) es.toList).run P w = .ok ((mfind D k 0).map fun p=>(p.1,ev p.2)) w:=by
  obtain ⟨t,ht,hn⟩:=kt.now
  unfold Instr.findKey
  simp only [Sem.run_bind,run_underlying ht,Result.andThen]
  rcases find_now t k hn es.toList D 0 h.cells with e | e
  · rw [e]
    exact find_asking kt k w es.toList D 0 h.cells
  · rw [e]
    rfl
end
section
variable {K V : Type} [DecidableEq K] {P : Program} {T M E ty : TypeId} {ek : K → Value} {ev : V → Value} {w w0 : World} {g c : Nat} {es : Array MapEntry} {D : List (K × V)}
theorem run_lookupM {v0 : V} (hu : P.underlying M = some (.map T E)) (kt : KeyT P T ek) (hM : MapB w g es c) (hD : MapOf ek ev D es c) (hz : Zero P E (ev v0)) (k : K) (b : Bool) :
    (Instr.lookup M (.map (some g)) (ek k) b).run P w = .ok (if b then .tuple #[ev ((mget D k).getD v0),.bool (mget D k).isSome] else ev ((mget D k).getD v0)) w:=by
  unfold MapB at hM
  obtain ⟨inf,hi,hz⟩:=hz
  have hzv : (zeroValue E).run P w = .ok (ev v0) w:=by simp [zeroValue,typeInfo,program,Sem.run,hi,hz]
  simp only [Instr.lookup,Sem.run_bind,run_underlying hu,Result.andThen,getObj,Sem.run,hM,Sem.run_pure,kt.chk,find_key kt k w hD]
  cases hf : mfind D k 0 with
  | none =>
    obtain ⟨h1,_⟩:=mfind_none D k 0 hf
    rw [h1]
    simp only [Option.map_none,Sem.run_bind,hzv,Result.andThen,Sem.run_pure]
    cases b <;> rfl
  | some p =>
    obtain ⟨j,v⟩:=p
    obtain ⟨_,_,_,h1,_⟩:=mfind_some D k 0 j v hf
    rw [h1]
    simp only [Option.map_some,Sem.run_pure,Result.andThen]
    cases b <;> rfl
theorem heap_setBlock {g : Nat} {o o' : Obj} (hM : w.heap[g]? = some o) : (setBlock w g o').heap[g]? = some o':=by
  have:=(Array.getElem?_eq_some_iff.1 hM).1
  simp [setBlock,this]
theorem chg_setBlock {g : Nat} (o : Obj) : Chg w (setBlock w g o) g:=⟨rfl,rfl,rfl,by simp [setBlock],fun k hk=>by simp [setBlock,Array.getElem?_setIfInBounds_ne (Ne.symm hk)]⟩
theorem map_set_of {α β : Type} (f : α → β) (L : List α) (i : Nat) (x : α) (g : α → α) (hi : L[i]? = some x) : (L.modify i g).map f = (L.map f).set i (f (g x)):=by
  apply List.ext_getElem?
  intro j
  simp only [List.getElem?_map,List.getElem?_modify,List.getElem?_set,List.length_map]
  by_cases e : i = j
  · subst e
    rw [hi]
    have:=(List.getElem?_eq_some_iff.1 hi).1
    simp [this]
  · simp [e]
theorem MapOf.set (hD : MapOf ek ev D es c) {p : Nat} {k : K} {v : V} (hp : D[p]? = some (k,v)) (u : V) : MapOf ek ev (D.set p (k,u)) (es.modify p fun e=>{ e with key:=ek k,val:=ev u }) c:=by
  have hl : es.toList.length = D.length:=by have:=congrArg List.length hD.cells; simpa using this
  have hlt : p < es.toList.length:=by rw [hl]; exact (List.getElem?_eq_some_iff.1 hp).1
  have hx : es.toList[p]? = some es.toList[p]:=List.getElem?_eq_getElem hlt
  have hb : (es.modify p fun e=>{ e with key:=ek k,val:=ev u }).toList.map (·.born) = es.toList.map (·.born):=by
    rw [Array.toList_modify,map_set_of _ _ _ _ _ hx]
    apply List.ext_getElem?
    intro j
    rw [List.getElem?_set]
    split
    · rename_i e; subst e; rw [if_pos (by simpa using hlt),List.getElem?_map,hx]; rfl
    · rfl
  refine ⟨?_,fun e he=>?_,by rw [hb]; exact hD.nd⟩
  · rw [Array.toList_modify,map_set_of _ _ _ _ _ hx,hD.cells,List.map_set]
    rfl
  · have : e.born ∈ (es.modify p fun e=>{ e with key:=ek k,val:=ev u }).toList.map (·.born):=List.mem_map.2 ⟨e,he,rfl⟩
    rw [hb] at this
    obtain ⟨e',he',hh⟩:=List.mem_map.1 this
    rw [← hh]
    exact hD.born e' he'
theorem MapOf.push (hD : MapOf ek ev D es c) (k : K) (u : V) : MapOf ek ev (D ++ [(k,u)]) (es.push { key:=ek k,val:=ev u,born:=c }) (c + 1):=by
  refine ⟨by simp [hD.cells,mpr],fun e he=>?_,?_⟩
  · rw [Array.toList_push] at he
    rcases List.mem_append.1 he with he | he
    · exact Nat.lt_succ_of_lt (hD.born e he)
    · rw [List.mem_singleton.1 he]; exact Nat.lt_succ_self _
  · rw [Array.toList_push,List.map_append]
    refine List.nodup_append.2 ⟨hD.nd,by simp,fun a ha b hb e=>?_⟩
    obtain ⟨e',he',rfl⟩:=List.mem_map.1 ha
    have : b = c:=by simpa using hb
    have:=hD.born e' he'
    omega
theorem run_updateM (hu : P.underlying M = some (.map T E)) (kt : KeyT P T ek) (hM : MapB w g es c) (hD : MapOf ek ev D es c) (k : K) (u : V) :
    ∃ es' c',(Instr.mapUpdate M (.map (some g)) (ek k) (ev u)).run P w = .ok () (setBlock w g (.map es' c')) ∧ MapOf ek ev (mput D k u) es' c':=by
  unfold MapB at hM
  cases hf : mfind D k 0 with
  | none =>
    obtain ⟨_,h1,_⟩:=mfind_none D k 0 hf
    refine ⟨_,_,?_,h1 u ▸ hD.push k u⟩
    simp only [Instr.mapUpdate,Sem.run_bind,run_underlying hu,Result.andThen,getObj,Sem.run,hM,Sem.run_pure,kt.chk,find_key kt k w hD,hf,Option.map_none]
    exact run_setObj_map _ hM
  | some p =>
    obtain ⟨j,v⟩:=p
    obtain ⟨p,rfl,hp,_,h1,_⟩:=mfind_some D k 0 j v hf
    rw [Nat.zero_add] at hf
    have hl : es.toList.length = D.length:=by have:=congrArg List.length hD.cells; simpa using this
    have hlt : p < es.toList.length:=by rw [hl]; exact (List.getElem?_eq_some_iff.1 hp).1
    have hk : ((es[p]?).map (·.key)).getD (ek k) = ek k:=by
      have h2:=congrArg (fun L=>L[p]?) hD.cells
      simp only [List.getElem?_map,hp,Option.map_some] at h2
      rw [Array.getElem?_toList] at h2
      cases h3 : es[p]? with
      | none=>rfl
      | some x =>
        rw [h3] at h2
        simp only [Option.map_some,Option.some.injEq,mpr,Prod.mk.injEq] at h2
        simpa using h2.1
    refine ⟨_,_,?_,h1 u ▸ hD.set hp u⟩
    simp only [Instr.mapUpdate,Sem.run_bind,run_underlying hu,Result.andThen,getObj,Sem.run,hM,Sem.run_pure,kt.chk,find_key kt k w hD,hf,Option.map_some,hk,Instr.keyThatStays,kt.bits,if_true]
    exact run_setObj_map _ hM
/-! ### Ranges -/
def Trav (ek : K → Value) (ev : V → Value) (D : List (K × V)) (es : Array MapEntry) (seen : Array Nat) (dn rs : List (K × V)) : Prop :=
  (dn ++ rs).Perm D ∧ ∃ dE rE : List MapEntry,seen.toList = dE.map (·.born) ∧ (dE ++ rE).Perm es.toList ∧ dE.map mpr = dn.map (fun x=>(ek x.1,ev x.2)) ∧ rE.map mpr = rs.map (fun x=>(ek x.1,ev x.2))
theorem Trav.start (hD : MapOf ek ev D es c) : Trav ek ev D es #[] [] D:=⟨List.Perm.refl _,[],es.toList,rfl,List.Perm.refl _,rfl,hD.cells⟩
theorem Trav.done {seen : Array Nat} {dn : List (K × V)} (h : Trav ek ev D es seen dn []) : dn.Perm D:=by simpa using h.1
def Nxt (ek : K → Value) (ev : V → Value) (D : List (K × V)) (es : Array MapEntry) (dn rs : List (K × V)) (b : Bool) (kv vv : Value) (seen' : Array Nat) : Prop :=
  (b = false ∧ rs = []) ∨ (b = true ∧ ∃ k v rs',rs.Perm ((k,v) :: rs') ∧ kv = ek k ∧ vv = ev v ∧ Trav ek ev D es seen' (dn ++ [(k,v)]) rs')
def nextV (b : Bool) (k v : Value) : Value:=.tuple (if b then #[.bool true,k,v] else #[.bool false])
theorem run_nextM {r s : Nat} {seen : Array Nat} {dn rs : List (K × V)} (hI : IterB w r g c seen c) (hM : MapB w g es c) (hD : MapOf ek ev D es c) (hT : Trav ek ev D es seen dn rs) :
    ∃ b kv vv seen' w1,(w1 = w ∨ w1 = w.drew) ∧ (Instr.next (.pointer (some ⟨r,0,none⟩)) false ty).run P w = .ok (nextV b kv vv) (setBlock w1 r (.mapIter (some g) c seen' c)) ∧ Nxt ek ev D es dn rs b kv vv seen':=by
  obtain ⟨hp,dE,rE,h1,h2,h3,h4⟩:=hT
  have hnd : ((dE ++ rE).map (·.born)).Nodup:=(h2.map (·.born)).nodup_iff.2 hD.nd
  rw [List.map_append,List.nodup_append] at hnd
  have hleft : ∀ e,e ∈ (leftOf es seen).toList ↔ e ∈ rE:=fun e=>by
    unfold leftOf
    simp only [Array.toList_filter,List.mem_filter,Bool.not_eq_true',Array.contains_eq_mem,decide_eq_false_iff_not]
    rw [← Array.mem_toList_iff (xs:=seen),h1,← h2.mem_iff,List.mem_append]
    constructor
    · rintro ⟨h | h,hn⟩
      · exact absurd (List.mem_map.2 ⟨e,h,rfl⟩) hn
      · exact h
    · intro h
      exact ⟨.inr h,fun hm=>hnd.2.2 _ hm _ (List.mem_map.2 ⟨e,h,rfl⟩) rfl⟩
  rcases run_next_at (P:=P) w ty r g c c seen es c hI hM hD.born (Nat.le_refl _) with ⟨h0,hr⟩ | ⟨e,he,w1,hw1,hr⟩
  · refine ⟨false,default,default,seen,w,.inl rfl,?_,.inl ⟨rfl,?_⟩⟩
    · rw [hr]
      have : setBlock w r (.mapIter (some g) c seen c) = w:=by
        unfold setBlock
        have hlt:=(Array.getElem?_eq_some_iff.1 hI).1
        have : w.heap.setIfInBounds r (.mapIter (some g) c seen c) = w.heap:=by
          apply Array.ext_getElem?
          intro i
          rw [Array.getElem?_setIfInBounds]
          split
          · rename_i e; subst e; exact hI.symm
          · rfl
        rw [this]
      rw [this]
      rfl
    · cases rs with
      | nil=>rfl
      | cons x rs =>
        cases rE with
        | nil=>simp at h4
        | cons e rE =>
          have:=(hleft e).2 (List.mem_cons_self ..)
          rw [Array.eq_empty_of_size_eq_zero h0] at this
          simp at this
  · obtain ⟨s,t,rfl⟩:=List.append_of_mem ((hleft e).1 he)
    rw [List.map_append,List.map_cons] at h4
    obtain ⟨rs1,rs2,rfl,e1,e2⟩:=List.map_eq_append_iff.1 h4.symm
    obtain ⟨x,rs3,rfl,e3,e4⟩:=List.map_eq_cons_iff.1 e2
    obtain ⟨k,v⟩:=x
    simp only [mpr,Prod.mk.injEq] at e3
    refine ⟨true,e.key,e.val,seen.push e.born,w1,hw1,hr,.inr ⟨rfl,k,v,rs1 ++ rs3,List.perm_middle,e3.1.symm,e3.2.symm,?_,dE ++ [e],s ++ t,?_,?_,?_,?_⟩⟩
    · refine List.Perm.trans ?_ hp
      simp only [List.append_assoc,List.cons_append,List.nil_append]
      exact List.Perm.append_left _ List.perm_middle.symm
    · simp [h1]
    · refine List.Perm.trans ?_ h2
      simp only [List.append_assoc,List.cons_append,List.nil_append]
      exact List.Perm.append_left _ List.perm_middle.symm
    · simp [h3,mpr,e3]
    · simp [e1,e4]
theorem run_entryM {r : Nat} {seen : Array Nat} {dn rs : List (K × V)} {k : K} {v : V} (hI : IterB w r g c seen c) (hM : MapB w g es c) (hD : MapOf ek ev D es c) (hT : Trav ek ev D es seen (dn ++ [(k,v)]) rs) :
    (Instr.entry (.pointer (some ⟨r,0,none⟩))).run P w = .ok (.tuple #[ek k,ev v]) w:=by
  obtain ⟨hp,dE,rE,h1,h2,h3,h4⟩:=hT
  rw [List.map_append,List.map_cons,List.map_nil] at h3
  obtain ⟨d1,d2,rfl,e1,e2⟩:=List.map_eq_append_iff.1 h3
  obtain ⟨e,d3,rfl,e3,e4⟩:=List.map_eq_cons_iff.1 e2
  obtain rfl : d3 = []:=by simpa using e4
  simp only [mpr,Prod.mk.injEq] at e3
  have hs : seen = (d1.map (·.born)).toArray.push e.born:=by
    apply Array.toList_inj.1
    rw [h1]
    simp
  have hm : e ∈ es.toList:=h2.mem_iff.1 (by simp)
  rw [hs] at hI
  have:=run_entry_at (P:=P) w r g c _ es c e hI hM hm hD.nd
  rw [this,e3.1,e3.2]
end
/-! ### Things in memory -/
def mI (g : Nat) (es : Array MapEntry) (c : Nat) : It where
  id:=some g
  P w:=MapB w g es c
  lt w b h e:=by cases e; exact h.lt
  st w w' h _ k:=(k g rfl).trans h
def iI (r g c : Nat) (seen : Array Nat) : It where
  id:=some r
  P w:=IterB w r g c seen c
  lt w b h e:=by cases e; exact h.lt
  st w w' h _ k:=(k r rfl).trans h
theorem Mem.p {w0 w : World} {is : List It} (m : Mem w0 w is) (k : Nat) {g c : Nat} {es : Array MapEntry} (hk : is[k]? = some (mI g es c)) : MapB w g es c:=m.get k hk
theorem Mem.r {w0 w : World} {is : List It} (m : Mem w0 w is) (k : Nat) {r g c : Nat} {seen : Array Nat} (hk : is[k]? = some (iI r g c seen)) : IterB w r g c seen c:=m.get k hk
section
variable {K V : Type} [DecidableEq K] {P : Program} {T M E ty : TypeId} {ek : K → Value} {ev : V → Value} {w w0 : World} {g c : Nat} {es : Array MapEntry} {D : List (K × V)} {is : List It}
variable {ds : List Deferred} {l : List Value} {x y z : Operand} {ops : Array Oper} {Q : Exit → Act → World → Prop} {rest : List Oper} {d : Nat} {pos : String} {after : Array Edge}
theorem mmakeMap (m : Mem w0 w is) (h : ∀ g u,Mem w0 u (mI g #[] 0 :: is) → wpList P ops Q rest (Fr (l.set d (.map (some g))) ds) u) : wpList P ops Q (Oper.mk (some d) (.makeMap M none) ty pos after none :: rest) (Fr l ds) w :=
  n_makeMap fun u g e hg hM=>h g u (m.new (i:=mI g #[] 0) e hM fun b h=>by cases h; exact hg)
theorem mrange (m : Mem w0 w is) (hu : P.underlying M = some (.map T E)) (hx : Go.Lith.ev l x = .map (some g)) (hM : MapB w g es c) (h : ∀ r u,Mem w0 u (iI r g c #[] :: is) → wpList P ops Q rest (Fr (l.set d (.pointer (some ⟨r,0,none⟩))) ds) u) :
    wpList P ops Q (Oper.mk (some d) (.range M x) ty pos after none :: rest) (Fr l ds) w :=
  n_range hu hx hM fun u r e hr hI=>h r u (m.new (i:=iI r g c #[]) e hI fun b h=>by cases h; exact hr)
end
end Go.Lith
