/-
  Texts of one claim, laid together: Meas1, Meas2, Meas3, Meas4, Meas5, RefG1, RefG2, RefG3, Sane, Grow, Pts, Near, Near2.
-/
import Derived.Sort.Grow
import Derived.Deep.Draws
import Derived.Test.YtmcgcnpgkkfkoaaGreatDoorN4
set_option maxHeartbeats 8000000
set_option linter.unusedSimpArgs false
set_option linter.unusedVariables false
set_option linter.unusedSectionVars false
namespace Go.Proofs.YtmcgcnpgkkfkoaaGreatDoor
open Go.RowKit Go.Lith
set_option maxRecDepth 100000
attribute [local irreducible] wpList wpQuiet wpMix wpMixH wpTree Code.wp
instance : Iw 1:=⟨by unfold I64; decide⟩
instance : Iw 3:=⟨by unfold I64; decide⟩
instance : Iw 4:=⟨by unfold I64; decide⟩
instance : Iw 6:=⟨by unfold I64; decide⟩
theorem me_x {p : P3} : Pure Tryz.prog 126 [pt p] (.int .i64 p.x):=by
 intro w
 refine ⟨en_126,?_⟩
 have m:=Mem.refl w
 go_enter Tryz.func126,Tryz.ntmps126
 refine c_seq fun K1 k1=>wp_region_lit (mboxA m rfl ?_)
 clear m; intro g1 u m
 refine n_val (r_assign) (n_nil (k1 _ _ ?_))
 refine c_seq fun K2 k2=>wp_region_lit (n_val (r_fieldAddr (c:=0) Tryz.underlying97 rfl cells_3 rfl rfl) ?_)
 simp only [ev,zD,zE,zF,zG]
 refine n_load rfl ((m.b 0 rfl).lies1 agg_3 rfl) ?_
 simp only [ev,zD,zE,zF,zG]
 refine n_val (r_assign) (n_nil (k2 _ _ ?_))
 refine wp_ret ?_
 simp only [ev,zD,zE,zF,zG]
 try simp only [Exit.inBlock,Exit.then,if_true]
 refine fin1 rfl rfl ?_
 try simp only [zD,zE]
 exact ⟨_,rfl,m.ext,rfl⟩
theorem me_y {p : P3} : Pure Tryz.prog 127 [pt p] (.int .i64 p.y):=by
 intro w
 refine ⟨en_127,?_⟩
 have m:=Mem.refl w
 go_enter Tryz.func127,Tryz.ntmps127
 refine c_seq fun K1 k1=>wp_region_lit (mboxA m rfl ?_)
 clear m; intro g1 u m
 refine n_val (r_assign) (n_nil (k1 _ _ ?_))
 refine c_seq fun K2 k2=>wp_region_lit (n_val (r_fieldAddr (c:=0) Tryz.underlying97 rfl cells_3 rfl rfl) ?_)
 simp only [ev,zD,zE,zF,zG]
 refine n_load rfl ((m.b 0 rfl).lies1 agg_3 rfl) ?_
 simp only [ev,zD,zE,zF,zG]
 refine n_val (r_assign) (n_nil (k2 _ _ ?_))
 refine wp_ret ?_
 simp only [ev,zD,zE,zF,zG]
 try simp only [Exit.inBlock,Exit.then,if_true]
 refine fin1 rfl rfl ?_
 try simp only [zD,zE]
 exact ⟨_,rfl,m.ext,rfl⟩
theorem me_z {p : P3} : Pure Tryz.prog 128 [pt p] (.int .i64 p.z):=by
 intro w
 refine ⟨en_128,?_⟩
 have m:=Mem.refl w
 go_enter Tryz.func128,Tryz.ntmps128
 refine c_seq fun K1 k1=>wp_region_lit (mboxA m rfl ?_)
 clear m; intro g1 u m
 refine n_val (r_assign) (n_nil (k1 _ _ ?_))
 refine c_seq fun K2 k2=>wp_region_lit (n_val (r_fieldAddr (c:=0) Tryz.underlying97 rfl cells_3 rfl rfl) ?_)
 simp only [ev,zD,zE,zF,zG]
 refine n_load rfl ((m.b 0 rfl).lies1 agg_3 rfl) ?_
 simp only [ev,zD,zE,zF,zG]
 refine n_val (r_assign) (n_nil (k2 _ _ ?_))
 refine wp_ret ?_
 simp only [ev,zD,zE,zF,zG]
 try simp only [Exit.inBlock,Exit.then,if_true]
 refine fin1 rfl rfl ?_
 try simp only [zD,zE]
 exact ⟨_,rfl,m.ext,rfl⟩
theorem readers_c  : Pure Tryz.prog 65 [] (.agg #[.func (.func 126) #[] #[],.func (.func 127) #[] #[],.func (.func 128) #[] #[]]):=by
 intro w
 refine ⟨en_65,?_⟩
 have m:=Mem.refl w
 go_enter Tryz.func65,Tryz.ntmps65
 refine c_seq fun K1 k1=>wp_region_lit (malloc m zero_95 rfl ?_)
 clear m; intro g1 u m
 refine n_nil (k1 _ _ ?_)
 refine c_seq fun K2 k2=>wp_region_lit (n_val (r_build_95_0_1_2 rfl rfl rfl) ?_)
 simp only [ev,zD,zE,zF,zG]
 refine mstoreA m 0 rfl rfl rfl cells_95 (leT rfl) rfl ?_
 clear m; intro u m; simp only [over,zH,zI,zJ,zK,zL,zM,zN,zO,zP,zF,zG,Nat.reduceAdd] at m
 refine n_nil (k2 _ _ ?_)
 refine wp_ret ?_
 try simp only [Exit.inBlock,Exit.then,if_true]
 refine fin1 rfl ⟨_,rfl,((m.b 0 rfl).full agg_95 cells_95)⟩ ?_
 try simp only [zD,zE]
 exact ⟨_,rfl,m.ext,rfl⟩
theorem from_c {p q : P3} [I3 p] [I3 q] : Pure Tryz.prog 95 [pt p,pt q] (wv (q.sub p)):=by
 intro w
 refine ⟨en_95,?_⟩
 have m:=Mem.refl w
 go_enter Tryz.func95,Tryz.ntmps95
 refine c_seq fun K1 k1=>wp_region_lit (mboxA m rfl ?_)
 clear m; intro g1 u m
 simp only [ev,zD,zE,zF,zG]
 refine mboxA m rfl ?_
 clear m; intro g2 u m
 simp only [ev,zD,zE,zF,zG]
 refine malloc m zero_76 rfl ?_
 clear m; intro g3 u m
 refine n_nil (k1 _ _ ?_)
 refine c_seq fun K2 k2=>wp_region_lit ?_
 simp only [ev,zD,zE,zF,zG]
 refine malloc m zero_76 rfl ?_
 clear m; intro g4 u m
 refine n_nil (k2 _ _ ?_)
 refine c_seq fun K3 k3=>c_seq fun K4 k4=>wp_region_lit ?_
 simp only [ev,zD,zE,zF,zG]
 refine mcallP m rfl rfl (readers_c) ?_
 clear m; intro u m
 refine n_val (r_move) (n_nil (k4 _ _ ?_))
 refine wp_block (wp_loop_rounds 4 (rounds_step (c_seq fun K5 k5=>wp_region_lit (n_val (r_lssT (m:=0) (n:=3) rfl rfl (by decide)) (n_nil (k5 _ _ ?_))))))
 refine c_seq fun K6 k6=>c_yes rfl (wp_skip (k6 _ _ ?_))
 refine c_seq fun K7 k7=>wp_block (c_seq fun K8 k8=>wp_region_lit (n_val (r_move) ?_))
 simp only [ev,zD,zE,zF,zG]
 refine n_val (r_index_95_0 rfl rfl) (n_val (r_assign) (n_val (r_assign) (n_nil (k8 _ _ ?_))))
 simp only [ev,zD,zE,zF,zG]
 refine mq_tail m 11 follows_mixed (by kernel_rfl) ?_
 simp only [zH,zI,zJ,zK]
 refine q_val (r_move) (q_val (r_move) ?_)
 simp only [ev,zD,zE,zF,zG]
 refine ql rfl (fun u m=>((m.b 2 rfl).full agg_28 cells_28)) ?_
 simp only [ev,zD,zE,zF,zG]
 refine qcP rfl rfl (me_x) ?_
 simp only [ev,zD,zE,zF,zG]
 refine qcP rfl rfl (From_c Iw.h) (q_val (r_move) ?_)
 simp only [ev,zD,zE,zF,zG]
 refine ql rfl (fun u m=>((m.b 3 rfl).full agg_28 cells_28)) ?_
 simp only [ev,zD,zE,zF,zG]
 refine qcP rfl rfl (me_x) ?_
 simp only [ev,zD,zE,zF,zG]
 refine qcP rfl rfl (From_c Iw.h) ?_
 simp only [ev,zD,zE,zF,zG]
 refine qcP rfl rfl (Sub_c Bw.up Bw.up) (q_val (r_indexAddrA Tryz.underlying76 cells_32 rfl rfl (by decide) (by decide) rfl) (q_nil ?_))
 clear m; intro u m
 simp only [ev,zD,zE,zF,zG]
 refine mstoreA m 0 rfl rfl rfl cells_32 (leT rfl) rfl ?_
 clear m; intro u m; simp only [over,zH,zI,zJ,zK,zL,zM,zN,zO,zP,zF,zG,Nat.reduceAdd] at m
 refine n_nil (k7 _ _ ?_)
 refine wp_region_lit (n_val (r_add (m:=0) (n:=1) (r:=1) rfl rfl (by decide)) (n_val (r_move) (n_nil (then_rounds (c_seq fun K9 k9=>wp_region_lit (n_val (r_lssT (m:=1) (n:=3) rfl rfl (by decide)) (n_nil (k9 _ _ ?_))))))))
 refine c_seq fun K10 k10=>c_yes rfl (wp_skip (k10 _ _ ?_))
 refine c_seq fun K11 k11=>wp_block (c_seq fun K12 k12=>wp_region_lit (n_val (r_move) ?_))
 simp only [ev,zD,zE,zF,zG]
 refine n_val (r_index_95_1 rfl rfl) (n_val (r_assign) (n_val (r_assign) (n_nil (k12 _ _ ?_))))
 simp only [ev,zD,zE,zF,zG]
 refine mq_tail m 11 follows_mixed (by kernel_rfl) ?_
 simp only [zH,zI,zJ,zK]
 refine q_val (r_move) (q_val (r_move) ?_)
 simp only [ev,zD,zE,zF,zG]
 refine ql rfl (fun u m=>((m.b 2 rfl).full agg_28 cells_28)) ?_
 simp only [ev,zD,zE,zF,zG]
 refine qcP rfl rfl (me_y) ?_
 simp only [ev,zD,zE,zF,zG]
 refine qcP rfl rfl (From_c Iw.h) (q_val (r_move) ?_)
 simp only [ev,zD,zE,zF,zG]
 refine ql rfl (fun u m=>((m.b 3 rfl).full agg_28 cells_28)) ?_
 simp only [ev,zD,zE,zF,zG]
 refine qcP rfl rfl (me_y) ?_
 simp only [ev,zD,zE,zF,zG]
 refine qcP rfl rfl (From_c Iw.h) ?_
 simp only [ev,zD,zE,zF,zG]
 refine qcP rfl rfl (Sub_c Bw.up Bw.up) (q_val (r_indexAddrA Tryz.underlying76 cells_32 rfl rfl (by decide) (by decide) rfl) (q_nil ?_))
 clear m; intro u m
 simp only [ev,zD,zE,zF,zG]
 refine mstoreA m 0 rfl rfl rfl cells_32 (leT rfl) rfl ?_
 clear m; intro u m; simp only [over,zH,zI,zJ,zK,zL,zM,zN,zO,zP,zF,zG,Nat.reduceAdd] at m
 refine n_nil (k11 _ _ ?_)
 refine wp_region_lit (n_val (r_add (m:=1) (n:=1) (r:=2) rfl rfl (by decide)) (n_val (r_move) (n_nil (then_rounds (c_seq fun K13 k13=>wp_region_lit (n_val (r_lssT (m:=2) (n:=3) rfl rfl (by decide)) (n_nil (k13 _ _ ?_))))))))
 refine c_seq fun K14 k14=>c_yes rfl (wp_skip (k14 _ _ ?_))
 refine c_seq fun K15 k15=>wp_block (c_seq fun K16 k16=>wp_region_lit (n_val (r_move) ?_))
 simp only [ev,zD,zE,zF,zG]
 refine n_val (r_index_95_2 rfl rfl) (n_val (r_assign) (n_val (r_assign) (n_nil (k16 _ _ ?_))))
 simp only [ev,zD,zE,zF,zG]
 refine mq_tail m 11 follows_mixed (by kernel_rfl) ?_
 simp only [zH,zI,zJ,zK]
 refine q_val (r_move) (q_val (r_move) ?_)
 simp only [ev,zD,zE,zF,zG]
 refine ql rfl (fun u m=>((m.b 2 rfl).full agg_28 cells_28)) ?_
 simp only [ev,zD,zE,zF,zG]
 refine qcP rfl rfl (me_z) ?_
 simp only [ev,zD,zE,zF,zG]
 refine qcP rfl rfl (From_c Iw.h) (q_val (r_move) ?_)
 simp only [ev,zD,zE,zF,zG]
 refine ql rfl (fun u m=>((m.b 3 rfl).full agg_28 cells_28)) ?_
 simp only [ev,zD,zE,zF,zG]
 refine qcP rfl rfl (me_z) ?_
 simp only [ev,zD,zE,zF,zG]
 refine qcP rfl rfl (From_c Iw.h) ?_
 simp only [ev,zD,zE,zF,zG]
 refine qcP rfl rfl (Sub_c Bw.up Bw.up) (q_val (r_indexAddrA Tryz.underlying76 cells_32 rfl rfl (by decide) (by decide) rfl) (q_nil ?_))
 clear m; intro u m
 simp only [ev,zD,zE,zF,zG]
 refine mstoreA m 0 rfl rfl rfl cells_32 (leT rfl) rfl ?_
 clear m; intro u m; simp only [over,zH,zI,zJ,zK,zL,zM,zN,zO,zP,zF,zG,Nat.reduceAdd] at m
 refine n_nil (k15 _ _ ?_)
 refine wp_region_lit (n_val (r_add (m:=2) (n:=1) (r:=3) rfl rfl (by decide)) (n_val (r_move) (n_nil (then_rounds (c_seq fun K17 k17=>wp_region_lit (n_val (r_lssF (m:=3) (n:=3) rfl rfl (by decide)) (n_nil (k17 _ _ ?_))))))))
 refine c_seq fun K18 k18=>c_no rfl (wp_exit (k3 _ _ ?_))
 refine c_seq fun K19 k19=>wp_region_lit ?_
 simp only [ev,zD,zE,zF,zG]
 refine n_load rfl ((m.b 0 rfl).full agg_76 cells_76) ?_
 simp only [ev,zD,zE,zF,zG]
 refine mstoreA m 1 rfl rfl rfl cells_76 (leT rfl) rfl ?_
 clear m; intro u m; simp only [over,zH,zI,zJ,zK,zL,zM,zN,zO,zP,zF,zG,Nat.reduceAdd] at m
 refine n_nil (k19 _ _ ?_)
 refine wp_ret ?_
 try simp only [Exit.inBlock,Exit.then,if_true]
 refine fin1 rfl ⟨_,rfl,((m.b 1 rfl).full agg_76 cells_76)⟩ ?_
 try simp only [zD,zE]
 exact ⟨_,rfl,m.ext,rfl⟩
theorem mDot_c {u v : P3} (hu : Bv 400000 u) (hv : Bv 400000 v) : Pure Tryz.prog 48 [wv u,wv v] (W (u.dot v)):=by
 intro w
 refine ⟨en_48,?_⟩
 have m:=Mem.refl w
 go_enter Tryz.func48,Tryz.ntmps48
 refine c_seq fun K1 k1=>wp_region_lit (mboxA m rfl ?_)
 clear m; intro g1 u m
 simp only [ev,zD,zE,zF,zG]
 refine mboxA m rfl ?_
 clear m; intro g2 u m
 simp only [ev,zD,zE,zF,zG]
 refine malloc m zero_32 rfl ?_
 clear m; intro g3 u m
 refine n_nil (k1 _ _ ?_)
 refine c_seq fun K2 k2=>wp_region_lit ?_
 simp only [ev,zD,zE,zF,zG]
 refine malloc m zero_32 rfl ?_
 clear m; intro g4 u m
 refine n_nil (k2 _ _ ?_)
 refine c_seq fun K3 k3=>c_seq fun K4 k4=>wp_region_lit (n_val (r_move) (n_nil (k4 _ _ ?_)))
 refine wp_block (wp_loop_rounds 4 (rounds_step (c_seq fun K5 k5=>wp_region_lit (n_val (r_lssT (m:=0) (n:=3) rfl rfl (by decide)) (n_nil (k5 _ _ ?_))))))
 refine c_seq fun K6 k6=>c_yes rfl (wp_skip (k6 _ _ ?_))
 refine c_seq fun K7 k7=>wp_block (c_seq fun K8 k8=>wp_region_lit (n_val (r_move) ?_))
 simp only [ev,zD,zE,zF,zG]
 refine n_val (r_assign) (n_nil (k8 _ _ ?_))
 simp only [ev,zD,zE,zF,zG]
 refine mq_tail m 9 follows_mixed (by kernel_rfl) ?_
 simp only [zH,zI,zJ,zK]
 refine ql rfl (fun u m=>((m.b 0 rfl).full agg_32 cells_32)) ?_
 simp only [ev,zD,zE,zF,zG]
 refine q_val (r_move) (q_val (r_indexAddrA Tryz.underlying76 cells_32 rfl rfl (by decide) (by decide) rfl) ?_)
 simp only [ev,zD,zE,zF,zG]
 refine ql rfl (fun u m=>((m.b 3 rfl).lies agg_32 cells_32 rfl rfl)) ?_
 simp only [ev,zD,zE,zF,zG,zH,zI,zJ,zK,Nat.zero_add,Nat.reduceAdd,Nat.reduceMul,Int.reduceToNat]
 refine q_val (r_move) (q_val (r_indexAddrA Tryz.underlying76 cells_32 rfl rfl (by decide) (by decide) rfl) ?_)
 simp only [ev,zD,zE,zF,zG]
 refine ql rfl (fun u m=>((m.b 2 rfl).lies agg_32 cells_32 rfl rfl)) ?_
 simp only [ev,zD,zE,zF,zG,zH,zI,zJ,zK,Nat.zero_add,Nat.reduceAdd,Nat.reduceMul,Int.reduceToNat]
 refine qcP rfl rfl (Mul_c Bw.up Bw.up) ?_
 simp only [ev,zD,zE,zF,zG]
 refine qcP rfl rfl (Add0_c Bw.up) (q_nil ?_)
 clear m; intro u m
 simp only [ev,zD,zE,zF,zG]
 refine mstoreA m 0 rfl rfl rfl cells_32 (leT rfl) rfl ?_
 clear m; intro u m; simp only [over,zH,zI,zJ,zK,zL,zM,zN,zO,zP,zF,zG,Nat.reduceAdd] at m
 refine n_nil (k7 _ _ ?_)
 refine wp_region_lit (n_val (r_add (m:=0) (n:=1) (r:=1) rfl rfl (by decide)) (n_val (r_move) (n_nil (then_rounds (c_seq fun K9 k9=>wp_region_lit (n_val (r_lssT (m:=1) (n:=3) rfl rfl (by decide)) (n_nil (k9 _ _ ?_))))))))
 refine c_seq fun K10 k10=>c_yes rfl (wp_skip (k10 _ _ ?_))
 refine c_seq fun K11 k11=>wp_block (c_seq fun K12 k12=>wp_region_lit (n_val (r_move) ?_))
 simp only [ev,zD,zE,zF,zG]
 refine n_val (r_assign) (n_nil (k12 _ _ ?_))
 simp only [ev,zD,zE,zF,zG]
 refine mq_tail m 9 follows_mixed (by kernel_rfl) ?_
 simp only [zH,zI,zJ,zK]
 refine ql rfl (fun u m=>((m.b 0 rfl).full agg_32 cells_32)) ?_
 simp only [ev,zD,zE,zF,zG]
 refine q_val (r_move) (q_val (r_indexAddrA Tryz.underlying76 cells_32 rfl rfl (by decide) (by decide) rfl) ?_)
 simp only [ev,zD,zE,zF,zG]
 refine ql rfl (fun u m=>((m.b 3 rfl).lies agg_32 cells_32 rfl rfl)) ?_
 simp only [ev,zD,zE,zF,zG,zH,zI,zJ,zK,Nat.zero_add,Nat.reduceAdd,Nat.reduceMul,Int.reduceToNat]
 refine q_val (r_move) (q_val (r_indexAddrA Tryz.underlying76 cells_32 rfl rfl (by decide) (by decide) rfl) ?_)
 simp only [ev,zD,zE,zF,zG]
 refine ql rfl (fun u m=>((m.b 2 rfl).lies agg_32 cells_32 rfl rfl)) ?_
 simp only [ev,zD,zE,zF,zG,zH,zI,zJ,zK,Nat.zero_add,Nat.reduceAdd,Nat.reduceMul,Int.reduceToNat]
 refine qcP rfl rfl (Mul_c Bw.up Bw.up) ?_
 simp only [ev,zD,zE,zF,zG]
 refine qcP rfl rfl (Add_c Bw.up Bw.up) (q_nil ?_)
 clear m; intro u m
 simp only [ev,zD,zE,zF,zG]
 refine mstoreA m 0 rfl rfl rfl cells_32 (leT rfl) rfl ?_
 clear m; intro u m; simp only [over,zH,zI,zJ,zK,zL,zM,zN,zO,zP,zF,zG,Nat.reduceAdd] at m
 refine n_nil (k11 _ _ ?_)
 refine wp_region_lit (n_val (r_add (m:=1) (n:=1) (r:=2) rfl rfl (by decide)) (n_val (r_move) (n_nil (then_rounds (c_seq fun K13 k13=>wp_region_lit (n_val (r_lssT (m:=2) (n:=3) rfl rfl (by decide)) (n_nil (k13 _ _ ?_))))))))
 refine c_seq fun K14 k14=>c_yes rfl (wp_skip (k14 _ _ ?_))
 refine c_seq fun K15 k15=>wp_block (c_seq fun K16 k16=>wp_region_lit (n_val (r_move) ?_))
 simp only [ev,zD,zE,zF,zG]
 refine n_val (r_assign) (n_nil (k16 _ _ ?_))
 simp only [ev,zD,zE,zF,zG]
 refine mq_tail m 9 follows_mixed (by kernel_rfl) ?_
 simp only [zH,zI,zJ,zK]
 refine ql rfl (fun u m=>((m.b 0 rfl).full agg_32 cells_32)) ?_
 simp only [ev,zD,zE,zF,zG]
 refine q_val (r_move) (q_val (r_indexAddrA Tryz.underlying76 cells_32 rfl rfl (by decide) (by decide) rfl) ?_)
 simp only [ev,zD,zE,zF,zG]
 refine ql rfl (fun u m=>((m.b 3 rfl).lies agg_32 cells_32 rfl rfl)) ?_
 simp only [ev,zD,zE,zF,zG,zH,zI,zJ,zK,Nat.zero_add,Nat.reduceAdd,Nat.reduceMul,Int.reduceToNat]
 refine q_val (r_move) (q_val (r_indexAddrA Tryz.underlying76 cells_32 rfl rfl (by decide) (by decide) rfl) ?_)
 simp only [ev,zD,zE,zF,zG]
 refine ql rfl (fun u m=>((m.b 2 rfl).lies agg_32 cells_32 rfl rfl)) ?_
 simp only [ev,zD,zE,zF,zG,zH,zI,zJ,zK,Nat.zero_add,Nat.reduceAdd,Nat.reduceMul,Int.reduceToNat]
 refine qcP rfl rfl (Mul_c Bw.up Bw.up) ?_
 simp only [ev,zD,zE,zF,zG]
 refine qcP rfl rfl (Add_c Bw.up Bw.up) (q_nil ?_)
 clear m; intro u m
 simp only [ev,zD,zE,zF,zG]
 refine mstoreA m 0 rfl rfl rfl cells_32 (leT rfl) rfl ?_
 clear m; intro u m; simp only [over,zH,zI,zJ,zK,zL,zM,zN,zO,zP,zF,zG,Nat.reduceAdd] at m
 refine n_nil (k15 _ _ ?_)
 refine wp_region_lit (n_val (r_add (m:=2) (n:=1) (r:=3) rfl rfl (by decide)) (n_val (r_move) (n_nil (then_rounds (c_seq fun K17 k17=>wp_region_lit (n_val (r_lssF (m:=3) (n:=3) rfl rfl (by decide)) (n_nil (k17 _ _ ?_))))))))
 refine c_seq fun K18 k18=>c_no rfl (wp_exit (k3 _ _ ?_))
 refine c_seq fun K19 k19=>wp_region_lit ?_
 simp only [ev,zD,zE,zF,zG]
 refine n_load rfl ((m.b 0 rfl).full agg_32 cells_32) ?_
 simp only [ev,zD,zE,zF,zG]
 refine mstoreA m 1 rfl rfl rfl cells_32 (leT rfl) rfl ?_
 clear m; intro u m; simp only [over,zH,zI,zJ,zK,zL,zM,zN,zO,zP,zF,zG,Nat.reduceAdd] at m
 refine n_nil (k19 _ _ ?_)
 refine wp_ret ?_
 try simp only [Exit.inBlock,Exit.then,if_true]
 refine fin1 rfl ⟨_,rfl,((m.b 1 rfl).full agg_32 cells_32)⟩ ?_
 try simp only [zD,zE]
 exact ⟨_,rfl,m.ext,by rw [← P3.dot0]; rfl⟩
theorem mCross_c {u v : P3} (hu : Bv 400000 u) (hv : Bv 400000 v) : Pure Tryz.prog 96 [wv u,wv v] (wv (u.cross v)):=by
 intro w
 refine ⟨en_96,?_⟩
 have m:=Mem.refl w
 go_enter Tryz.func96,Tryz.ntmps96
 refine c_seq fun K1 k1=>wp_region_lit (mboxA m rfl ?_)
 clear m; intro g1 u m
 simp only [ev,zD,zE,zF,zG]
 refine mboxA m rfl ?_
 clear m; intro g2 u m
 simp only [ev,zD,zE,zF,zG]
 refine malloc m zero_76 rfl ?_
 clear m; intro g3 u m
 refine n_nil (k1 _ _ ?_)
 refine c_seq fun K2 k2=>wp_region_lit ?_
 simp only [ev,zD,zE,zF,zG]
 refine malloc m zero_76 rfl ?_
 clear m; intro g4 u m
 refine n_nil (k2 _ _ ?_)
 refine c_seq fun K3 k3=>c_seq fun K4 k4=>wp_region_lit (n_val (r_move) (n_nil (k4 _ _ ?_)))
 refine wp_block (wp_loop_rounds 4 (rounds_step (c_seq fun K5 k5=>wp_region_lit (n_val (r_lssT (m:=0) (n:=3) rfl rfl (by decide)) (n_nil (k5 _ _ ?_))))))
 refine c_seq fun K6 k6=>c_yes rfl (wp_skip (k6 _ _ ?_))
 refine c_seq fun K7 k7=>wp_block (c_seq fun K8 k8=>wp_region_lit (n_val (r_move) ?_))
 simp only [ev,zD,zE,zF,zG]
 refine n_val (r_assign) (n_nil (k8 _ _ ?_))
 refine c_seq fun K9 k9=>wp_region_lit (n_val (r_move) (n_val (r_add (m:=0) (n:=1) (r:=1) rfl rfl (by decide)) (n_val (r_rem (m:=1) (n:=3) (r:=1) rfl rfl (by decide) (by decide)) ?_)))
 simp only [ev,zD,zE,zF,zG]
 refine n_val (r_move) (n_val (r_add (m:=0) (n:=2) (r:=2) rfl rfl (by decide)) (n_val (r_rem (m:=2) (n:=3) (r:=2) rfl rfl (by decide) (by decide)) (n_val (r_assign) ?_)))
 simp only [ev,zD,zE,zF,zG]
 refine n_val (r_assign) (n_nil (k9 _ _ ?_))
 simp only [ev,zD,zE,zF,zG]
 refine mq_tail m 17 follows_mixed (by kernel_rfl) ?_
 simp only [zH,zI,zJ,zK]
 refine q_val (r_move) (q_val (r_move) (q_val (r_indexAddrA Tryz.underlying76 cells_32 rfl rfl (by decide) (by decide) rfl) ?_))
 simp only [ev,zD,zE,zF,zG]
 refine ql rfl (fun u m=>((m.b 3 rfl).lies agg_32 cells_32 rfl rfl)) ?_
 simp only [ev,zD,zE,zF,zG,zH,zI,zJ,zK,Nat.zero_add,Nat.reduceAdd,Nat.reduceMul,Int.reduceToNat]
 refine q_val (r_move) (q_val (r_indexAddrA Tryz.underlying76 cells_32 rfl rfl (by decide) (by decide) rfl) ?_)
 simp only [ev,zD,zE,zF,zG]
 refine ql rfl (fun u m=>((m.b 2 rfl).lies agg_32 cells_32 rfl rfl)) ?_
 simp only [ev,zD,zE,zF,zG,zH,zI,zJ,zK,Nat.zero_add,Nat.reduceAdd,Nat.reduceMul,Int.reduceToNat]
 refine qcP rfl rfl (Mul_c Bw.up Bw.up) (q_val (r_move) (q_val (r_indexAddrA Tryz.underlying76 cells_32 rfl rfl (by decide) (by decide) rfl) ?_))
 simp only [ev,zD,zE,zF,zG]
 refine ql rfl (fun u m=>((m.b 3 rfl).lies agg_32 cells_32 rfl rfl)) ?_
 simp only [ev,zD,zE,zF,zG,zH,zI,zJ,zK,Nat.zero_add,Nat.reduceAdd,Nat.reduceMul,Int.reduceToNat]
 refine q_val (r_move) (q_val (r_indexAddrA Tryz.underlying76 cells_32 rfl rfl (by decide) (by decide) rfl) ?_)
 simp only [ev,zD,zE,zF,zG]
 refine ql rfl (fun u m=>((m.b 2 rfl).lies agg_32 cells_32 rfl rfl)) ?_
 simp only [ev,zD,zE,zF,zG,zH,zI,zJ,zK,Nat.zero_add,Nat.reduceAdd,Nat.reduceMul,Int.reduceToNat]
 refine qcP rfl rfl (Mul_c Bw.up Bw.up) ?_
 simp only [ev,zD,zE,zF,zG]
 refine qcP rfl rfl (Sub_c Bw.up Bw.up) (q_val (r_indexAddrA Tryz.underlying76 cells_32 rfl rfl (by decide) (by decide) rfl) (q_nil ?_))
 clear m; intro u m
 simp only [ev,zD,zE,zF,zG]
 refine mstoreA m 0 rfl rfl rfl cells_32 (leT rfl) rfl ?_
 clear m; intro u m; simp only [over,zH,zI,zJ,zK,zL,zM,zN,zO,zP,zF,zG,Nat.reduceAdd] at m
 refine n_nil (k7 _ _ ?_)
 refine wp_region_lit (n_val (r_add (m:=0) (n:=1) (r:=1) rfl rfl (by decide)) (n_val (r_move) (n_nil (then_rounds (c_seq fun K10 k10=>wp_region_lit (n_val (r_lssT (m:=1) (n:=3) rfl rfl (by decide)) (n_nil (k10 _ _ ?_))))))))
 refine c_seq fun K11 k11=>c_yes rfl (wp_skip (k11 _ _ ?_))
 refine c_seq fun K12 k12=>wp_block (c_seq fun K13 k13=>wp_region_lit (n_val (r_move) ?_))
 simp only [ev,zD,zE,zF,zG]
 refine n_val (r_assign) (n_nil (k13 _ _ ?_))
 refine c_seq fun K14 k14=>wp_region_lit (n_val (r_move) (n_val (r_add (m:=1) (n:=1) (r:=2) rfl rfl (by decide)) (n_val (r_rem (m:=2) (n:=3) (r:=2) rfl rfl (by decide) (by decide)) ?_)))
 simp only [ev,zD,zE,zF,zG]
 refine n_val (r_move) (n_val (r_add (m:=1) (n:=2) (r:=3) rfl rfl (by decide)) (n_val (r_rem (m:=3) (n:=3) (r:=0) rfl rfl (by decide) (by decide)) (n_val (r_assign) ?_)))
 simp only [ev,zD,zE,zF,zG]
 refine n_val (r_assign) (n_nil (k14 _ _ ?_))
 simp only [ev,zD,zE,zF,zG]
 refine mq_tail m 17 follows_mixed (by kernel_rfl) ?_
 simp only [zH,zI,zJ,zK]
 refine q_val (r_move) (q_val (r_move) (q_val (r_indexAddrA Tryz.underlying76 cells_32 rfl rfl (by decide) (by decide) rfl) ?_))
 simp only [ev,zD,zE,zF,zG]
 refine ql rfl (fun u m=>((m.b 3 rfl).lies agg_32 cells_32 rfl rfl)) ?_
 simp only [ev,zD,zE,zF,zG,zH,zI,zJ,zK,Nat.zero_add,Nat.reduceAdd,Nat.reduceMul,Int.reduceToNat]
 refine q_val (r_move) (q_val (r_indexAddrA Tryz.underlying76 cells_32 rfl rfl (by decide) (by decide) rfl) ?_)
 simp only [ev,zD,zE,zF,zG]
 refine ql rfl (fun u m=>((m.b 2 rfl).lies agg_32 cells_32 rfl rfl)) ?_
 simp only [ev,zD,zE,zF,zG,zH,zI,zJ,zK,Nat.zero_add,Nat.reduceAdd,Nat.reduceMul,Int.reduceToNat]
 refine qcP rfl rfl (Mul_c Bw.up Bw.up) (q_val (r_move) (q_val (r_indexAddrA Tryz.underlying76 cells_32 rfl rfl (by decide) (by decide) rfl) ?_))
 simp only [ev,zD,zE,zF,zG]
 refine ql rfl (fun u m=>((m.b 3 rfl).lies agg_32 cells_32 rfl rfl)) ?_
 simp only [ev,zD,zE,zF,zG,zH,zI,zJ,zK,Nat.zero_add,Nat.reduceAdd,Nat.reduceMul,Int.reduceToNat]
 refine q_val (r_move) (q_val (r_indexAddrA Tryz.underlying76 cells_32 rfl rfl (by decide) (by decide) rfl) ?_)
 simp only [ev,zD,zE,zF,zG]
 refine ql rfl (fun u m=>((m.b 2 rfl).lies agg_32 cells_32 rfl rfl)) ?_
 simp only [ev,zD,zE,zF,zG,zH,zI,zJ,zK,Nat.zero_add,Nat.reduceAdd,Nat.reduceMul,Int.reduceToNat]
 refine qcP rfl rfl (Mul_c Bw.up Bw.up) ?_
 simp only [ev,zD,zE,zF,zG]
 refine qcP rfl rfl (Sub_c Bw.up Bw.up) (q_val (r_indexAddrA Tryz.underlying76 cells_32 rfl rfl (by decide) (by decide) rfl) (q_nil ?_))
 clear m; intro u m
 simp only [ev,zD,zE,zF,zG]
 refine mstoreA m 0 rfl rfl rfl cells_32 (leT rfl) rfl ?_
 clear m; intro u m; simp only [over,zH,zI,zJ,zK,zL,zM,zN,zO,zP,zF,zG,Nat.reduceAdd] at m
 refine n_nil (k12 _ _ ?_)
 refine wp_region_lit (n_val (r_add (m:=1) (n:=1) (r:=2) rfl rfl (by decide)) (n_val (r_move) (n_nil (then_rounds (c_seq fun K15 k15=>wp_region_lit (n_val (r_lssT (m:=2) (n:=3) rfl rfl (by decide)) (n_nil (k15 _ _ ?_))))))))
 refine c_seq fun K16 k16=>c_yes rfl (wp_skip (k16 _ _ ?_))
 refine c_seq fun K17 k17=>wp_block (c_seq fun K18 k18=>wp_region_lit (n_val (r_move) ?_))
 simp only [ev,zD,zE,zF,zG]
 refine n_val (r_assign) (n_nil (k18 _ _ ?_))
 refine c_seq fun K19 k19=>wp_region_lit (n_val (r_move) (n_val (r_add (m:=2) (n:=1) (r:=3) rfl rfl (by decide)) (n_val (r_rem (m:=3) (n:=3) (r:=0) rfl rfl (by decide) (by decide)) ?_)))
 simp only [ev,zD,zE,zF,zG]
 refine n_val (r_move) (n_val (r_add (m:=2) (n:=2) (r:=4) rfl rfl (by decide)) (n_val (r_rem (m:=4) (n:=3) (r:=1) rfl rfl (by decide) (by decide)) (n_val (r_assign) ?_)))
 simp only [ev,zD,zE,zF,zG]
 refine n_val (r_assign) (n_nil (k19 _ _ ?_))
 simp only [ev,zD,zE,zF,zG]
 refine mq_tail m 17 follows_mixed (by kernel_rfl) ?_
 simp only [zH,zI,zJ,zK]
 refine q_val (r_move) (q_val (r_move) (q_val (r_indexAddrA Tryz.underlying76 cells_32 rfl rfl (by decide) (by decide) rfl) ?_))
 simp only [ev,zD,zE,zF,zG]
 refine ql rfl (fun u m=>((m.b 3 rfl).lies agg_32 cells_32 rfl rfl)) ?_
 simp only [ev,zD,zE,zF,zG,zH,zI,zJ,zK,Nat.zero_add,Nat.reduceAdd,Nat.reduceMul,Int.reduceToNat]
 refine q_val (r_move) (q_val (r_indexAddrA Tryz.underlying76 cells_32 rfl rfl (by decide) (by decide) rfl) ?_)
 simp only [ev,zD,zE,zF,zG]
 refine ql rfl (fun u m=>((m.b 2 rfl).lies agg_32 cells_32 rfl rfl)) ?_
 simp only [ev,zD,zE,zF,zG,zH,zI,zJ,zK,Nat.zero_add,Nat.reduceAdd,Nat.reduceMul,Int.reduceToNat]
 refine qcP rfl rfl (Mul_c Bw.up Bw.up) (q_val (r_move) (q_val (r_indexAddrA Tryz.underlying76 cells_32 rfl rfl (by decide) (by decide) rfl) ?_))
 simp only [ev,zD,zE,zF,zG]
 refine ql rfl (fun u m=>((m.b 3 rfl).lies agg_32 cells_32 rfl rfl)) ?_
 simp only [ev,zD,zE,zF,zG,zH,zI,zJ,zK,Nat.zero_add,Nat.reduceAdd,Nat.reduceMul,Int.reduceToNat]
 refine q_val (r_move) (q_val (r_indexAddrA Tryz.underlying76 cells_32 rfl rfl (by decide) (by decide) rfl) ?_)
 simp only [ev,zD,zE,zF,zG]
 refine ql rfl (fun u m=>((m.b 2 rfl).lies agg_32 cells_32 rfl rfl)) ?_
 simp only [ev,zD,zE,zF,zG,zH,zI,zJ,zK,Nat.zero_add,Nat.reduceAdd,Nat.reduceMul,Int.reduceToNat]
 refine qcP rfl rfl (Mul_c Bw.up Bw.up) ?_
 simp only [ev,zD,zE,zF,zG]
 refine qcP rfl rfl (Sub_c Bw.up Bw.up) (q_val (r_indexAddrA Tryz.underlying76 cells_32 rfl rfl (by decide) (by decide) rfl) (q_nil ?_))
 clear m; intro u m
 simp only [ev,zD,zE,zF,zG]
 refine mstoreA m 0 rfl rfl rfl cells_32 (leT rfl) rfl ?_
 clear m; intro u m; simp only [over,zH,zI,zJ,zK,zL,zM,zN,zO,zP,zF,zG,Nat.reduceAdd] at m
 refine n_nil (k17 _ _ ?_)
 refine wp_region_lit (n_val (r_add (m:=2) (n:=1) (r:=3) rfl rfl (by decide)) (n_val (r_move) (n_nil (then_rounds (c_seq fun K20 k20=>wp_region_lit (n_val (r_lssF (m:=3) (n:=3) rfl rfl (by decide)) (n_nil (k20 _ _ ?_))))))))
 refine c_seq fun K21 k21=>c_no rfl (wp_exit (k3 _ _ ?_))
 refine c_seq fun K22 k22=>wp_region_lit ?_
 simp only [ev,zD,zE,zF,zG]
 refine n_load rfl ((m.b 0 rfl).full agg_76 cells_76) ?_
 simp only [ev,zD,zE,zF,zG]
 refine mstoreA m 1 rfl rfl rfl cells_76 (leT rfl) rfl ?_
 clear m; intro u m; simp only [over,zH,zI,zJ,zK,zL,zM,zN,zO,zP,zF,zG,Nat.reduceAdd] at m
 refine n_nil (k22 _ _ ?_)
 refine wp_ret ?_
 try simp only [Exit.inBlock,Exit.then,if_true]
 refine fin1 rfl ⟨_,rfl,((m.b 1 rfl).full agg_76 cells_76)⟩ ?_
 try simp only [zD,zE]
 exact ⟨_,rfl,m.ext,rfl⟩
theorem mFrac_c {n d : Int} (hn : Bd 400000 n) (hd : Bd 400000 d) (h0 : d ≠ 0) : Pure Tryz.prog 67 [W n,W d] (Q (Rat.divInt n d)):=by
 intro w
 refine ⟨en_67,?_⟩
 have m:=Mem.refl w
 go_enter Tryz.func67,Tryz.ntmps67
 refine c_seq fun K1 k1=>wp_region_lit (mboxA m rfl ?_)
 clear m; intro g1 u m
 simp only [ev,zD,zE,zF,zG]
 refine mboxA m rfl ?_
 clear m; intro g2 u m
 simp only [ev,zD,zE,zF,zG]
 refine malloc m zero_34 rfl ?_
 clear m; intro g3 u m
 refine n_nil (k1 _ _ ?_)
 refine c_seq fun K2 k2=>wp_region_lit ?_
 simp only [ev,zD,zE,zF,zG]
 refine n_load rfl ((m.b 2 rfl).full agg_32 cells_32) ?_
 simp only [ev,zD,zE,zF,zG]
 refine n_load rfl ((m.b 1 rfl).full agg_32 cells_32) ?_
 simp only [ev,zD,zE,zF,zG]
 refine mcallP m rfl rfl (Frac_c hn hd h0) ?_
 clear m; intro u m
 refine n_val (r_move) (n_val (r_extract rfl rfl) (n_val (r_extract rfl rfl) ?_))
 simp only [ev,zD,zE,zF,zG]
 refine malloc m zero_34 rfl ?_
 clear m; intro g4 u m
 simp only [ev,zD,zE,zF,zG]
 refine mstoreA m 0 rfl rfl rfl cells_34 (leT rfl) rfl ?_
 clear m; intro u m; simp only [over,zH,zI,zJ,zK,zL,zM,zN,zO,zP,zF,zG,Nat.reduceAdd] at m
 refine n_val (r_assign) (n_nil (k2 _ _ ?_))
 refine c_seq fun K3 k3=>wp_region_lit ?_
 simp only [ev,zD,zE,zF,zG]
 refine n_load rfl ((m.b 0 rfl).full agg_34 cells_34) ?_
 simp only [ev,zD,zE,zF,zG]
 refine mstoreA m 1 rfl rfl rfl cells_34 (leT rfl) rfl ?_
 clear m; intro u m; simp only [over,zH,zI,zJ,zK,zL,zM,zN,zO,zP,zF,zG,Nat.reduceAdd] at m
 refine n_nil (k3 _ _ ?_)
 refine wp_ret ?_
 try simp only [Exit.inBlock,Exit.then,if_true]
 refine fin1 rfl ⟨_,rfl,((m.b 1 rfl).full agg_34 cells_34)⟩ ?_
 try simp only [zD,zE]
 exact ⟨_,rfl,m.ext,rfl⟩
theorem whole_c {n : Int} (hn : Bd 400000 n) : Pure Tryz.prog 66 [W n] (Q (Rat.divInt n 1)):=by
 intro w
 refine ⟨en_66,?_⟩
 have m:=Mem.refl w
 go_enter Tryz.func66,Tryz.ntmps66
 refine c_seq fun K1 k1=>wp_region_lit (mboxA m rfl ?_)
 clear m; intro g1 u m
 simp only [ev,zD,zE,zF,zG]
 refine malloc m zero_34 rfl ?_
 clear m; intro g2 u m
 refine n_nil (k1 _ _ ?_)
 refine c_seq fun K2 k2=>?_
 simp only [ev,zD,zE,zF,zG]
 refine mq_tail m 3 follows_mixed (by kernel_rfl) ?_
 simp only [zH,zI,zJ,zK]
 refine ql rfl (fun u m=>((m.b 1 rfl).full agg_32 cells_32)) ?_
 simp only [ev,zD,zE,zF,zG]
 refine qcP rfl rfl (From_c Iw.h) ?_
 simp only [ev,zD,zE,zF,zG]
 refine qcP rfl rfl (mFrac_c (d:=1) hn Bw.up (by decide)) (q_nil ?_)
 clear m; intro u m
 simp only [ev,zD,zE,zF,zG]
 refine mstoreA m 0 rfl rfl rfl cells_34 (leT rfl) rfl ?_
 clear m; intro u m; simp only [over,zH,zI,zJ,zK,zL,zM,zN,zO,zP,zF,zG,Nat.reduceAdd] at m
 refine n_nil (k2 _ _ ?_)
 refine wp_ret ?_
 try simp only [Exit.inBlock,Exit.then,if_true]
 refine fin1 rfl ⟨_,rfl,((m.b 0 rfl).full agg_34 cells_34)⟩ ?_
 try simp only [zD,zE]
 exact ⟨_,rfl,m.ext,rfl⟩
theorem whole0_c : Pure Tryz.prog 66 [.agg #[.bool false,.string ⟨#[]⟩]] (Q 0):=by
 rw [← W_zero]
 exact whole_c (bd_zero _)
theorem segment_c {x p q : P3} [I3 x] [I3 p] [I3 q] : Pure Tryz.prog 99 [pt x,pt p,pt q] (Q (segq x p q)):=by
 intro w
 refine ⟨en_99,?_⟩
 have m:=Mem.refl w
 go_enter Tryz.func99,Tryz.ntmps99
 refine c_seq fun K1 k1=>wp_region_lit (mboxA m rfl ?_)
 clear m; intro g1 u m
 simp only [ev,zD,zE,zF,zG]
 refine mboxA m rfl ?_
 clear m; intro g2 u m
 simp only [ev,zD,zE,zF,zG]
 refine mboxA m rfl ?_
 clear m; intro g3 u m
 simp only [ev,zD,zE,zF,zG]
 refine malloc m zero_34 rfl ?_
 clear m; intro g4 u m
 refine n_nil (k1 _ _ ?_)
 refine c_seq fun K2 k2=>?_
 simp only [ev,zD,zE,zF,zG]
 refine wp_region_fresh 8 [0,1,2,3,4,5] [⟨6,7,76,[.bool false,.string ⟨#[]⟩,.bool false,.string ⟨#[]⟩,.bool false,.string ⟨#[]⟩]⟩,⟨7,8,76,[.bool false,.string ⟨#[]⟩,.bool false,.string ⟨#[]⟩,.bool false,.string ⟨#[]⟩]⟩] follows_mixed (by kernel_rfl) (al2 ⟨_,_,_,rfl,by kernel_rfl,_,zero_76,rfl⟩ ⟨_,_,_,rfl,by kernel_rfl,_,zero_76,rfl⟩) (ol:=?_) ?hol ?_
 case hol=>simp only [zQ,zR,zS,zT,zU,zV]; try rfl
 intro u e; replace m:=m.ext' e; clear e
 refine e_load rfl (fun u e=>(((m.ext' e).b 2 rfl).full agg_28 cells_28)) ?_
 simp only [ev,zD,zE,zF,zG]
 refine e_load rfl (fun u e=>(((m.ext' e).b 1 rfl).full agg_28 cells_28)) ?_
 simp only [ev,zD,zE,zF,zG]
 refine e_callP rfl rfl (from_c) ?_
 simp only [ev,zD,zE,zF,zG]
 refine e_load rfl (fun u e=>(((m.ext' e).b 2 rfl).full agg_28 cells_28)) ?_
 simp only [ev,zD,zE,zF,zG]
 refine e_load rfl (fun u e=>(((m.ext' e).b 3 rfl).full agg_28 cells_28)) ?_
 simp only [ev,zD,zE,zF,zG]
 refine e_callP rfl rfl (from_c) (e_nil ?_)
 simp only [ev,zD,zE,zF,zG]
 refine mf2 m (by decide) ?_
 clear m; intro g5 g6 u m
 simp only [zJ,zK,zF,zG]
 refine mstoreA m 1 rfl rfl rfl cells_76 (leT rfl) rfl ?_
 clear m; intro u m; simp only [over,zH,zI,zJ,zK,zL,zM,zN,zO,zP,zF,zG,Nat.reduceAdd] at m
 refine mstoreA m 0 rfl rfl rfl cells_76 (leT rfl) rfl ?_
 clear m; intro u m; simp only [over,zH,zI,zJ,zK,zL,zM,zN,zO,zP,zF,zG,Nat.reduceAdd] at m
 refine n_nil (k2 _ _ ?_)
 refine c_seq fun K3 k3=>?_
 refine wp_region_fresh 8 [0,1,2,3,4,5] [⟨6,9,32,[.bool false,.string ⟨#[]⟩]⟩,⟨7,10,32,[.bool false,.string ⟨#[]⟩]⟩] follows_mixed (by kernel_rfl) (al2 ⟨_,_,_,rfl,by kernel_rfl,_,zero_32,rfl⟩ ⟨_,_,_,rfl,by kernel_rfl,_,zero_32,rfl⟩) (ol:=?_) ?hol ?_
 case hol=>simp only [zQ,zR,zS,zT,zU,zV]; try rfl
 intro u e; replace m:=m.ext' e; clear e
 refine e_load rfl (fun u e=>(((m.ext' e).b 1 rfl).full agg_76 cells_76)) ?_
 simp only [ev,zD,zE,zF,zG]
 refine e_load rfl (fun u e=>(((m.ext' e).b 0 rfl).full agg_76 cells_76)) ?_
 simp only [ev,zD,zE,zF,zG]
 refine e_callP rfl rfl (mDot_c Bv.of Bv.of) ?_
 simp only [ev,zD,zE,zF,zG]
 refine e_load rfl (fun u e=>(((m.ext' e).b 1 rfl).full agg_76 cells_76)) ?_
 simp only [ev,zD,zE,zF,zG]
 refine e_load rfl (fun u e=>(((m.ext' e).b 1 rfl).full agg_76 cells_76)) ?_
 simp only [ev,zD,zE,zF,zG]
 refine e_callP rfl rfl (mDot_c Bv.of Bv.of) (e_nil ?_)
 simp only [ev,zD,zE,zF,zG]
 refine mf2 m (by decide) ?_
 clear m; intro g7 g8 u m
 simp only [zJ,zK,zF,zG]
 refine mstoreA m 1 rfl rfl rfl cells_32 (leT rfl) rfl ?_
 clear m; intro u m; simp only [over,zH,zI,zJ,zK,zL,zM,zN,zO,zP,zF,zG,Nat.reduceAdd] at m
 refine mstoreA m 0 rfl rfl rfl cells_32 (leT rfl) rfl ?_
 clear m; intro u m; simp only [over,zH,zI,zJ,zK,zL,zM,zN,zO,zP,zF,zG,Nat.reduceAdd] at m
 refine n_nil (k3 _ _ ?_)
 refine c_seq fun K4 k4=>wp_block (c_seq fun K5 k5=>wp_region_lit (n_load rfl ((m.b 1 rfl).full agg_32 cells_32) ?_))
 simp only [ev,zD,zE,zF,zG]
 refine mcallP m rfl rfl (Sign_c Bw.up) ?_
 clear m; intro u m
 refine n_val (r_leq rfl rfl) (n_val (r_assign) (n_nil (k5 _ _ ?_)))
 simp only [ev,zD,zE,zF,zG]
 refine c_if rfl (fun hc1=>?_) (fun hc1=>?_)
 ·
  refine c_seq fun K6 k6=>wp_region_lit (n_load rfl ((m.b 2 rfl).full agg_76 cells_76) ?_)
  simp only [ev,zD,zE,zF,zG]
  refine n_load rfl ((m.b 2 rfl).full agg_76 cells_76) ?_
  simp only [ev,zD,zE,zF,zG]
  refine mcallP m rfl rfl (mDot_c Bv.of Bv.of) ?_
  clear m; intro u m
  simp only [ev,zD,zE,zF,zG]
  refine mcallP m rfl rfl (whole_c Bw.up) ?_
  clear m; intro u m
  simp only [ev,zD,zE,zF,zG]
  refine mstoreA m 4 rfl rfl rfl cells_34 (leT rfl) rfl ?_
  clear m; intro u m; simp only [over,zH,zI,zJ,zK,zL,zM,zN,zO,zP,zF,zG,Nat.reduceAdd] at m
  refine n_nil (k6 _ _ ?_)
  refine wp_ret ?_
  try simp only [Exit.inBlock,Exit.then,if_true]
  refine fin1 rfl ⟨_,rfl,((m.b 4 rfl).full agg_34 cells_34)⟩ ?_
  try simp only [zD,zE]
  exact ⟨_,rfl,m.ext,by rw [segq,if_pos (isign_le.1 hc1)]; rfl⟩
 ·
  refine c_seq fun K7 k7=>wp_region_lit (n_load rfl ((m.b 1 rfl).full agg_32 cells_32) ?_)
  simp only [ev,zD,zE,zF,zG]
  refine n_load rfl ((m.b 0 rfl).full agg_32 cells_32) ?_
  simp only [ev,zD,zE,zF,zG]
  refine mcallP m rfl rfl (Cmp_c Bw.up Bw.up) ?_
  clear m; intro u m
  refine n_val (r_geq rfl rfl) (n_val (r_assign) (n_nil (k7 _ _ ?_)))
  simp only [ev,zD,zE,zF,zG]
  refine c_if rfl (fun hc2=>?_) (fun hc2=>?_)
  ·
   refine c_seq fun K8 k8=>wp_region_lit (n_load rfl ((m.b 7 rfl).full agg_28 cells_28) ?_)
   simp only [ev,zD,zE,zF,zG]
   refine n_load rfl ((m.b 5 rfl).full agg_28 cells_28) ?_
   simp only [ev,zD,zE,zF,zG]
   refine mcallP m rfl rfl (Dist2_c) ?_
   clear m; intro u m
   simp only [ev,zD,zE,zF,zG]
   refine mcallP m rfl rfl (whole_c Bw.up) ?_
   clear m; intro u m
   simp only [ev,zD,zE,zF,zG]
   refine mstoreA m 4 rfl rfl rfl cells_34 (leT rfl) rfl ?_
   clear m; intro u m; simp only [over,zH,zI,zJ,zK,zL,zM,zN,zO,zP,zF,zG,Nat.reduceAdd] at m
   refine n_nil (k8 _ _ ?_)
   refine wp_ret ?_
   try simp only [Exit.inBlock,Exit.then,if_true]
   refine fin1 rfl ⟨_,rfl,((m.b 4 rfl).full agg_34 cells_34)⟩ ?_
   try simp only [zD,zE]
   exact ⟨_,rfl,m.ext,by rw [segq,if_neg (mt isign_le.2 hc1),if_pos (by have:=isign_nn.1 hc2; omega)]; rfl⟩
  ·
   refine wp_skip (k4 _ _ ?_)
   refine c_seq fun K9 k9=>?_
   refine mq_tail m 11 follows_mixed (by kernel_rfl) ?_
   simp only [zH,zI,zJ,zK]
   refine ql rfl (fun u m=>((m.b 2 rfl).full agg_76 cells_76)) ?_
   simp only [ev,zD,zE,zF,zG]
   refine ql rfl (fun u m=>((m.b 2 rfl).full agg_76 cells_76)) ?_
   simp only [ev,zD,zE,zF,zG]
   refine qcP rfl rfl (mDot_c Bv.of Bv.of) ?_
   simp only [ev,zD,zE,zF,zG]
   refine ql rfl (fun u m=>((m.b 0 rfl).full agg_32 cells_32)) ?_
   simp only [ev,zD,zE,zF,zG]
   refine qcP rfl rfl (Mul_c Bw.up Bw.up) ?_
   simp only [ev,zD,zE,zF,zG]
   refine ql rfl (fun u m=>((m.b 1 rfl).full agg_32 cells_32)) ?_
   simp only [ev,zD,zE,zF,zG]
   refine ql rfl (fun u m=>((m.b 1 rfl).full agg_32 cells_32)) ?_
   simp only [ev,zD,zE,zF,zG]
   refine qcP rfl rfl (Mul_c Bw.up Bw.up) ?_
   simp only [ev,zD,zE,zF,zG]
   refine qcP rfl rfl (Sub_c Bw.up Bw.up) ?_
   simp only [ev,zD,zE,zF,zG]
   refine ql rfl (fun u m=>((m.b 0 rfl).full agg_32 cells_32)) ?_
   simp only [ev,zD,zE,zF,zG]
   refine qcP rfl rfl (mFrac_c Bw.up Bw.up (by have h1:=mt isign_le.2 hc1; have h2:=mt isign_nn.2 hc2; omega)) (q_nil ?_)
   clear m; intro u m
   simp only [ev,zD,zE,zF,zG]
   refine mstoreA m 4 rfl rfl rfl cells_34 (leT rfl) rfl ?_
   clear m; intro u m; simp only [over,zH,zI,zJ,zK,zL,zM,zN,zO,zP,zF,zG,Nat.reduceAdd] at m
   refine n_nil (k9 _ _ ?_)
   refine wp_ret ?_
   try simp only [Exit.inBlock,Exit.then,if_true]
   refine fin1 rfl ⟨_,rfl,((m.b 4 rfl).full agg_34 cells_34)⟩ ?_
   try simp only [zD,zE]
   exact ⟨_,rfl,m.ext,by rw [segq,if_neg (mt isign_le.2 hc1),if_neg (by have:=mt isign_nn.2 hc2; omega)]; rfl⟩
end Go.Proofs.YtmcgcnpgkkfkoaaGreatDoor
namespace Go.Proofs.YtmcgcnpgkkfkoaaGreatDoor
open Go.RowKit Go.Lith
set_option maxRecDepth 100000
attribute [local irreducible] wpList wpQuiet wpMix wpMixH wpTree Code.wp
theorem edge_0 {x : P3} {t : T3} [I3 x] [IT t] {g1 g2 : Nat} (w : World) (hB1 : Blk w g1 [.int .i64 x.x,.int .i64 x.y,.int .i64 x.z] 28) (hB2 : Blk w g2 [.int .i64 t.a.x,.int .i64 t.a.y,.int .i64 t.a.z,.int .i64 t.b.x,.int .i64 t.b.y,.int .i64 t.b.z,.int .i64 t.c.x,.int .i64 t.c.y,.int .i64 t.c.z] 59) : Does Tryz.prog 98 [.int .i64 0,.pointer (some ⟨g1,0,none⟩),.pointer (some ⟨g2,0,none⟩)] w (fun v _=>v = Q (segq x t.a t.b)):=by
 refine ⟨en_98,?_⟩
 have m:=Mem.refl w
 go_enter Tryz.func98,Tryz.ntmps98
 refine c_seq fun K1 k1=>wp_region_lit (malloc m zero_34 rfl ?_)
 clear m; intro g3 u m
 refine n_nil (k1 _ _ ?_)
 refine c_seq fun K2 k2=>?_
 simp only [ev,zD,zE,zF,zG]
 refine mq_tail m 10 follows_mixed (by kernel_rfl) ?_
 simp only [zH,zI,zJ,zK]
 refine ql rfl (fun u m=>((hB1.ext m.ext).lies agg_28 cells_28 rfl rfl)) ?_
 simp only [ev,zD,zE,zF,zG,zH,zI,zJ,zK,Nat.zero_add,Nat.reduceAdd,Nat.reduceMul,Int.reduceToNat]
 refine q_val (r_move) (q_val (r_indexAddrA Tryz.underlying59 cells_28 rfl rfl (by decide) (by decide) rfl) ?_)
 simp only [ev,zD,zE,zF,zG]
 refine ql rfl (fun u m=>((hB2.ext m.ext).lies agg_28 cells_28 rfl rfl)) ?_
 simp only [ev,zD,zE,zF,zG,zH,zI,zJ,zK,Nat.zero_add,Nat.reduceAdd,Nat.reduceMul,Int.reduceToNat]
 refine q_val (r_move) (q_val (r_add (m:=0) (n:=1) (r:=1) rfl rfl (by decide)) (q_val (r_rem (m:=1) (n:=3) (r:=1) rfl rfl (by decide) (by decide)) (q_val (r_indexAddrA Tryz.underlying59 cells_28 rfl rfl (by decide) (by decide) rfl) ?_)))
 simp only [ev,zD,zE,zF,zG]
 refine ql rfl (fun u m=>((hB2.ext m.ext).lies agg_28 cells_28 rfl rfl)) ?_
 simp only [ev,zD,zE,zF,zG,zH,zI,zJ,zK,Nat.zero_add,Nat.reduceAdd,Nat.reduceMul,Int.reduceToNat]
 refine qcP rfl rfl (segment_c) (q_nil ?_)
 clear m; intro u m
 simp only [ev,zD,zE,zF,zG]
 refine mstoreA m 0 rfl rfl rfl cells_34 (leT rfl) rfl ?_
 clear m; intro u m; simp only [over,zH,zI,zJ,zK,zL,zM,zN,zO,zP,zF,zG,Nat.reduceAdd] at m
 refine n_nil (k2 _ _ ?_)
 refine wp_ret ?_
 try simp only [Exit.inBlock,Exit.then,if_true]
 refine fin1 rfl ⟨_,rfl,((m.b 0 rfl).full agg_34 cells_34)⟩ ?_
 try simp only [zD,zE]
 exact ⟨_,rfl,m.ext,rfl⟩
theorem edge_1 {x : P3} {t : T3} [I3 x] [IT t] {g1 g2 : Nat} (w : World) (hB1 : Blk w g1 [.int .i64 x.x,.int .i64 x.y,.int .i64 x.z] 28) (hB2 : Blk w g2 [.int .i64 t.a.x,.int .i64 t.a.y,.int .i64 t.a.z,.int .i64 t.b.x,.int .i64 t.b.y,.int .i64 t.b.z,.int .i64 t.c.x,.int .i64 t.c.y,.int .i64 t.c.z] 59) : Does Tryz.prog 98 [.int .i64 1,.pointer (some ⟨g1,0,none⟩),.pointer (some ⟨g2,0,none⟩)] w (fun v _=>v = Q (segq x t.b t.c)):=by
 refine ⟨en_98,?_⟩
 have m:=Mem.refl w
 go_enter Tryz.func98,Tryz.ntmps98
 refine c_seq fun K1 k1=>wp_region_lit (malloc m zero_34 rfl ?_)
 clear m; intro g3 u m
 refine n_nil (k1 _ _ ?_)
 refine c_seq fun K2 k2=>?_
 simp only [ev,zD,zE,zF,zG]
 refine mq_tail m 10 follows_mixed (by kernel_rfl) ?_
 simp only [zH,zI,zJ,zK]
 refine ql rfl (fun u m=>((hB1.ext m.ext).lies agg_28 cells_28 rfl rfl)) ?_
 simp only [ev,zD,zE,zF,zG,zH,zI,zJ,zK,Nat.zero_add,Nat.reduceAdd,Nat.reduceMul,Int.reduceToNat]
 refine q_val (r_move) (q_val (r_indexAddrA Tryz.underlying59 cells_28 rfl rfl (by decide) (by decide) rfl) ?_)
 simp only [ev,zD,zE,zF,zG]
 refine ql rfl (fun u m=>((hB2.ext m.ext).lies agg_28 cells_28 rfl rfl)) ?_
 simp only [ev,zD,zE,zF,zG,zH,zI,zJ,zK,Nat.zero_add,Nat.reduceAdd,Nat.reduceMul,Int.reduceToNat]
 refine q_val (r_move) (q_val (r_add (m:=1) (n:=1) (r:=2) rfl rfl (by decide)) (q_val (r_rem (m:=2) (n:=3) (r:=2) rfl rfl (by decide) (by decide)) (q_val (r_indexAddrA Tryz.underlying59 cells_28 rfl rfl (by decide) (by decide) rfl) ?_)))
 simp only [ev,zD,zE,zF,zG]
 refine ql rfl (fun u m=>((hB2.ext m.ext).lies agg_28 cells_28 rfl rfl)) ?_
 simp only [ev,zD,zE,zF,zG,zH,zI,zJ,zK,Nat.zero_add,Nat.reduceAdd,Nat.reduceMul,Int.reduceToNat]
 refine qcP rfl rfl (segment_c) (q_nil ?_)
 clear m; intro u m
 simp only [ev,zD,zE,zF,zG]
 refine mstoreA m 0 rfl rfl rfl cells_34 (leT rfl) rfl ?_
 clear m; intro u m; simp only [over,zH,zI,zJ,zK,zL,zM,zN,zO,zP,zF,zG,Nat.reduceAdd] at m
 refine n_nil (k2 _ _ ?_)
 refine wp_ret ?_
 try simp only [Exit.inBlock,Exit.then,if_true]
 refine fin1 rfl ⟨_,rfl,((m.b 0 rfl).full agg_34 cells_34)⟩ ?_
 try simp only [zD,zE]
 exact ⟨_,rfl,m.ext,rfl⟩
theorem edge_2 {x : P3} {t : T3} [I3 x] [IT t] {g1 g2 : Nat} (w : World) (hB1 : Blk w g1 [.int .i64 x.x,.int .i64 x.y,.int .i64 x.z] 28) (hB2 : Blk w g2 [.int .i64 t.a.x,.int .i64 t.a.y,.int .i64 t.a.z,.int .i64 t.b.x,.int .i64 t.b.y,.int .i64 t.b.z,.int .i64 t.c.x,.int .i64 t.c.y,.int .i64 t.c.z] 59) : Does Tryz.prog 98 [.int .i64 2,.pointer (some ⟨g1,0,none⟩),.pointer (some ⟨g2,0,none⟩)] w (fun v _=>v = Q (segq x t.c t.a)):=by
 refine ⟨en_98,?_⟩
 have m:=Mem.refl w
 go_enter Tryz.func98,Tryz.ntmps98
 refine c_seq fun K1 k1=>wp_region_lit (malloc m zero_34 rfl ?_)
 clear m; intro g3 u m
 refine n_nil (k1 _ _ ?_)
 refine c_seq fun K2 k2=>?_
 simp only [ev,zD,zE,zF,zG]
 refine mq_tail m 10 follows_mixed (by kernel_rfl) ?_
 simp only [zH,zI,zJ,zK]
 refine ql rfl (fun u m=>((hB1.ext m.ext).lies agg_28 cells_28 rfl rfl)) ?_
 simp only [ev,zD,zE,zF,zG,zH,zI,zJ,zK,Nat.zero_add,Nat.reduceAdd,Nat.reduceMul,Int.reduceToNat]
 refine q_val (r_move) (q_val (r_indexAddrA Tryz.underlying59 cells_28 rfl rfl (by decide) (by decide) rfl) ?_)
 simp only [ev,zD,zE,zF,zG]
 refine ql rfl (fun u m=>((hB2.ext m.ext).lies agg_28 cells_28 rfl rfl)) ?_
 simp only [ev,zD,zE,zF,zG,zH,zI,zJ,zK,Nat.zero_add,Nat.reduceAdd,Nat.reduceMul,Int.reduceToNat]
 refine q_val (r_move) (q_val (r_add (m:=2) (n:=1) (r:=3) rfl rfl (by decide)) (q_val (r_rem (m:=3) (n:=3) (r:=0) rfl rfl (by decide) (by decide)) (q_val (r_indexAddrA Tryz.underlying59 cells_28 rfl rfl (by decide) (by decide) rfl) ?_)))
 simp only [ev,zD,zE,zF,zG]
 refine ql rfl (fun u m=>((hB2.ext m.ext).lies agg_28 cells_28 rfl rfl)) ?_
 simp only [ev,zD,zE,zF,zG,zH,zI,zJ,zK,Nat.zero_add,Nat.reduceAdd,Nat.reduceMul,Int.reduceToNat]
 refine qcP rfl rfl (segment_c) (q_nil ?_)
 clear m; intro u m
 simp only [ev,zD,zE,zF,zG]
 refine mstoreA m 0 rfl rfl rfl cells_34 (leT rfl) rfl ?_
 clear m; intro u m; simp only [over,zH,zI,zJ,zK,zL,zM,zN,zO,zP,zF,zG,Nat.reduceAdd] at m
 refine n_nil (k2 _ _ ?_)
 refine wp_ret ?_
 try simp only [Exit.inBlock,Exit.then,if_true]
 refine fin1 rfl ⟨_,rfl,((m.b 0 rfl).full agg_34 cells_34)⟩ ?_
 try simp only [zD,zE]
 exact ⟨_,rfl,m.ext,rfl⟩
theorem least3_c {x : P3} {t : T3} [I3 x] [IT t] {g0 g1 g2 : Nat} (w : World) (hB0 : Blk w g0 [.int .i64 0,.int .i64 1,.int .i64 2] 3) (hB1 : Blk w g1 [.int .i64 x.x,.int .i64 x.y,.int .i64 x.z] 28) (hB2 : Blk w g2 [.int .i64 t.a.x,.int .i64 t.a.y,.int .i64 t.a.z,.int .i64 t.b.x,.int .i64 t.b.y,.int .i64 t.b.z,.int .i64 t.c.x,.int .i64 t.c.y,.int .i64 t.c.z] 59) : Does Tryz.prog 97 [.slice (some ⟨g0,0,none⟩) 3 3,.func (.func 98) #[] #[.pointer (some ⟨g1,0,none⟩),.pointer (some ⟨g2,0,none⟩)]] w (fun v _=>v = .tuple #[Q (edgeq x t),.bool true]):=by
 refine ⟨en_97,?_⟩
 have m:=Mem.refl w
 go_enter Tryz.func97,Tryz.ntmps97
 refine c_seq fun K1 k1=>wp_region_lit (malloc m zero_34 rfl ?_)
 clear m; intro g3 u m
 refine n_val (r_assign) (n_nil (k1 _ _ ?_))
 refine c_seq fun K2 k2=>wp_region_lit (n_val (r_build_32_) ?_)
 simp only [ev,zD,zE,zF,zG]
 refine mcallP m rfl rfl (whole0_c) ?_
 clear m; intro u m
 simp only [ev,zD,zE,zF,zG]
 refine malloc m zero_34 rfl ?_
 clear m; intro g4 u m
 simp only [ev,zD,zE,zF,zG]
 refine mstoreA m 0 rfl rfl rfl cells_34 (leT rfl) rfl ?_
 clear m; intro u m; simp only [over,zH,zI,zJ,zK,zL,zM,zN,zO,zP,zF,zG,Nat.reduceAdd] at m
 refine n_nil (k2 _ _ ?_)
 refine c_seq fun K3 k3=>c_seq fun K4 k4=>wp_region_lit (n_val (r_move) (n_val (r_lenS rfl Tryz.underlying22 rfl) (n_val (r_move) (n_nil (k4 _ _ ?_)))))
 refine wp_block (wp_loop_rounds 4 (rounds_step (c_seq fun K5 k5=>wp_region_lit (n_val (r_lssT (m:=0) (n:=3) rfl rfl (by decide)) ?_))))
 simp only [ev,zD,zE,zF,zG]
 refine n_nil (k5 _ _ ?_)
 refine c_seq fun K6 k6=>c_yes rfl (wp_skip (k6 _ _ ?_))
 refine c_seq fun K7 k7=>wp_block (c_seq fun K8 k8=>wp_region_lit (n_val (r_move) (n_val (r_indexAddrS Tryz.underlying22 cells_3 rfl rfl (by decide) (by decide) rfl) ?_)))
 simp only [ev,zD,zE,zF,zG]
 refine n_load rfl ((hB0.ext m.ext).lies1 agg_3 rfl) ?_
 simp only [ev,zD,zE,zF,zG]
 refine n_val (r_assign) (n_val (r_assign) (n_nil (k8 _ _ ?_)))
 refine c_seq fun K9 k9=>wp_region_lit (n_val (r_move) (n_val (r_move) ?_))
 simp only [ev,zD,zE,zF,zG]
 refine mcall m rfl rfl (edge_0 _ (hB1.ext m.ext) (hB2.ext m.ext)) ?_
 clear m; rintro v u m rfl
 simp only [ev,zD,zE,zF,zG]
 refine malloc m zero_34 rfl ?_
 clear m; intro g5 u m
 simp only [ev,zD,zE,zF,zG]
 refine mstoreA m 0 rfl rfl rfl cells_34 (leT rfl) rfl ?_
 clear m; intro u m; simp only [over,zH,zI,zJ,zK,zL,zM,zN,zO,zP,zF,zG,Nat.reduceAdd] at m
 refine n_nil (k9 _ _ ?_)
 refine c_seq fun K10 k10=>wp_region_lit (n_val (r_move) (n_val (r_eqlT (m:=0) (n:=0) rfl rfl (by decide)) (n_val (r_move) (n_skipF rfl ?_))))
 simp only [ev,zD,zE,zF,zG]
 refine n_skipF rfl (n_skipF rfl (n_skipF rfl (n_val (r_pickT rfl) ?_)))
 simp only [ev,zD,zE,zF,zG]
 refine n_nil (k10 _ _ ?_)
 refine c_yes rfl (wp_region_lit (n_load rfl ((m.b 0 rfl).full agg_34 cells_34) ?_))
 simp only [ev,zD,zE,zF,zG]
 refine mstoreA m 1 rfl rfl rfl cells_34 (leT rfl) rfl ?_
 clear m; intro u m; simp only [over,zH,zI,zJ,zK,zL,zM,zN,zO,zP,zF,zG,Nat.reduceAdd] at m
 refine n_nil (k7 _ _ ?_)
 refine wp_region_lit (n_val (r_add (m:=0) (n:=1) (r:=1) rfl rfl (by decide)) (n_val (r_move) (n_nil (then_rounds (c_seq fun K11 k11=>wp_region_lit (n_val (r_lssT (m:=1) (n:=3) rfl rfl (by decide)) (n_nil (k11 _ _ ?_))))))))
 refine c_seq fun K12 k12=>c_yes rfl (wp_skip (k12 _ _ ?_))
 refine c_seq fun K13 k13=>wp_block (c_seq fun K14 k14=>wp_region_lit (n_val (r_move) ?_))
 simp only [ev,zD,zE,zF,zG]
 refine n_val (r_indexAddrS Tryz.underlying22 cells_3 rfl rfl (by decide) (by decide) rfl) ?_
 simp only [ev,zD,zE,zF,zG]
 refine n_load rfl ((hB0.ext m.ext).lies1 agg_3 rfl) ?_
 simp only [ev,zD,zE,zF,zG]
 refine n_val (r_assign) (n_val (r_assign) (n_nil (k14 _ _ ?_)))
 refine c_seq fun K15 k15=>wp_region_lit (n_val (r_move) (n_val (r_move) ?_))
 simp only [ev,zD,zE,zF,zG]
 refine mcall m rfl rfl (edge_1 _ (hB1.ext m.ext) (hB2.ext m.ext)) ?_
 clear m; rintro v u m rfl
 simp only [ev,zD,zE,zF,zG]
 refine malloc m zero_34 rfl ?_
 clear m; intro g6 u m
 simp only [ev,zD,zE,zF,zG]
 refine mstoreA m 0 rfl rfl rfl cells_34 (leT rfl) rfl ?_
 clear m; intro u m; simp only [over,zH,zI,zJ,zK,zL,zM,zN,zO,zP,zF,zG,Nat.reduceAdd] at m
 refine n_nil (k15 _ _ ?_)
 refine c_seq fun K16 k16=>wp_region_lit (n_val (r_move) (n_val (r_eqlF (m:=1) (n:=0) rfl rfl (by decide)) (n_val (r_move) (n_want rfl ?_))))
 simp only [ev,zD,zE,zF,zG]
 refine n_load rfl ((m.b 0 rfl).full agg_34 cells_34) ?_
 simp only [ev,zD,zE,zF,zG]
 refine n_want rfl (n_load rfl ((m.b 2 rfl).full agg_34 cells_34) ?_)
 simp only [ev,zD,zE,zF,zG]
 refine n_want rfl (mcallP m rfl rfl (CmpFrac_c Bq.up Bq.up) ?_)
 clear m; intro u m
 refine n_want rfl (n_val (r_lss rfl rfl) (n_val (r_pickF rfl) (n_nil (k16 _ _ ?_))))
 simp only [ev,zD,zE,zF,zG]
 refine c_if rfl (fun hc2=>?_) (fun hc2=>?_)
 ·
  have h1:=qcmp_lt.1 hc2
  refine wp_region_lit (n_load rfl ((m.b 0 rfl).full agg_34 cells_34) ?_)
  simp only [ev,zD,zE,zF,zG]
  refine mstoreA m 2 rfl rfl rfl cells_34 (leT rfl) rfl ?_
  clear m; intro u m; simp only [over,zH,zI,zJ,zK,zL,zM,zN,zO,zP,zF,zG,Nat.reduceAdd] at m
  refine n_nil (k13 _ _ ?_)
  refine wp_region_lit (n_val (r_add (m:=1) (n:=1) (r:=2) rfl rfl (by decide)) (n_val (r_move) (n_nil (then_rounds (c_seq fun K17 k17=>wp_region_lit (n_val (r_lssT (m:=2) (n:=3) rfl rfl (by decide)) (n_nil (k17 _ _ ?_))))))))
  refine c_seq fun K18 k18=>c_yes rfl (wp_skip (k18 _ _ ?_))
  refine c_seq fun K19 k19=>wp_block (c_seq fun K20 k20=>wp_region_lit (n_val (r_move) ?_))
  simp only [ev,zD,zE,zF,zG]
  refine n_val (r_indexAddrS Tryz.underlying22 cells_3 rfl rfl (by decide) (by decide) rfl) ?_
  simp only [ev,zD,zE,zF,zG]
  refine n_load rfl ((hB0.ext m.ext).lies1 agg_3 rfl) ?_
  simp only [ev,zD,zE,zF,zG]
  refine n_val (r_assign) (n_val (r_assign) (n_nil (k20 _ _ ?_)))
  refine c_seq fun K21 k21=>wp_region_lit (n_val (r_move) (n_val (r_move) ?_))
  simp only [ev,zD,zE,zF,zG]
  refine mcall m rfl rfl (edge_2 _ (hB1.ext m.ext) (hB2.ext m.ext)) ?_
  clear m; rintro v u m rfl
  simp only [ev,zD,zE,zF,zG]
  refine malloc m zero_34 rfl ?_
  clear m; intro g7 u m
  simp only [ev,zD,zE,zF,zG]
  refine mstoreA m 0 rfl rfl rfl cells_34 (leT rfl) rfl ?_
  clear m; intro u m; simp only [over,zH,zI,zJ,zK,zL,zM,zN,zO,zP,zF,zG,Nat.reduceAdd] at m
  refine n_nil (k21 _ _ ?_)
  refine c_seq fun K22 k22=>wp_region_lit (n_val (r_move) (n_val (r_eqlF (m:=2) (n:=0) rfl rfl (by decide)) (n_val (r_move) (n_want rfl ?_))))
  simp only [ev,zD,zE,zF,zG]
  refine n_load rfl ((m.b 0 rfl).full agg_34 cells_34) ?_
  simp only [ev,zD,zE,zF,zG]
  refine n_want rfl (n_load rfl ((m.b 3 rfl).full agg_34 cells_34) ?_)
  simp only [ev,zD,zE,zF,zG]
  refine n_want rfl (mcallP m rfl rfl (CmpFrac_c Bq.up Bq.up) ?_)
  clear m; intro u m
  refine n_want rfl (n_val (r_lss rfl rfl) (n_val (r_pickF rfl) (n_nil (k22 _ _ ?_))))
  simp only [ev,zD,zE,zF,zG]
  refine c_if rfl (fun hc2=>?_) (fun hc2=>?_)
  ·
   have h2:=qcmp_lt.1 hc2
   refine wp_region_lit (n_load rfl ((m.b 0 rfl).full agg_34 cells_34) ?_)
   simp only [ev,zD,zE,zF,zG]
   refine mstoreA m 3 rfl rfl rfl cells_34 (leT rfl) rfl ?_
   clear m; intro u m; simp only [over,zH,zI,zJ,zK,zL,zM,zN,zO,zP,zF,zG,Nat.reduceAdd] at m
   refine n_nil (k19 _ _ ?_)
   refine wp_region_lit (n_val (r_add (m:=2) (n:=1) (r:=3) rfl rfl (by decide)) (n_val (r_move) (n_nil (then_rounds (c_seq fun K23 k23=>wp_region_lit (n_val (r_lssF (m:=3) (n:=3) rfl rfl (by decide)) (n_nil (k23 _ _ ?_))))))))
   refine c_seq fun K24 k24=>c_no rfl (wp_exit (k3 _ _ ?_))
   refine c_seq fun K25 k25=>wp_region_lit ?_
   simp only [ev,zD,zE,zF,zG]
   refine n_load rfl ((m.b 3 rfl).full agg_34 cells_34) ?_
   simp only [ev,zD,zE,zF,zG]
   refine n_val (r_move) (n_val (r_lenS rfl Tryz.underlying22 rfl) (n_val (r_gtrT (m:=3) (n:=0) rfl rfl (by decide)) ?_))
   simp only [ev,zD,zE,zF,zG]
   refine mstoreA m 4 rfl rfl rfl cells_34 (leT rfl) rfl ?_
   clear m; intro u m; simp only [over,zH,zI,zJ,zK,zL,zM,zN,zO,zP,zF,zG,Nat.reduceAdd] at m
   refine n_val (r_assign) (n_nil (k25 _ _ ?_))
   refine wp_ret ?_
   simp only [ev,zD,zE,zF,zG]
   try simp only [Exit.inBlock,Exit.then,if_true]
   refine fin2 rfl ⟨_,rfl,((m.b 4 rfl).full agg_34 cells_34)⟩ rfl ?_
   try simp only [zD,zE]
   exact ⟨_,rfl,m.ext,by simp only [edgeq,minq,h1,h2,if_true,if_false]; rfl⟩
  ·
   have h2:=mt qcmp_lt.2 hc2
   refine wp_skip (k19 _ _ ?_)
   refine wp_region_lit (n_val (r_add (m:=2) (n:=1) (r:=3) rfl rfl (by decide)) (n_val (r_move) (n_nil (then_rounds (c_seq fun K26 k26=>wp_region_lit (n_val (r_lssF (m:=3) (n:=3) rfl rfl (by decide)) (n_nil (k26 _ _ ?_))))))))
   refine c_seq fun K27 k27=>c_no rfl (wp_exit (k3 _ _ ?_))
   refine c_seq fun K28 k28=>wp_region_lit ?_
   simp only [ev,zD,zE,zF,zG]
   refine n_load rfl ((m.b 3 rfl).full agg_34 cells_34) ?_
   simp only [ev,zD,zE,zF,zG]
   refine n_val (r_move) (n_val (r_lenS rfl Tryz.underlying22 rfl) (n_val (r_gtrT (m:=3) (n:=0) rfl rfl (by decide)) ?_))
   simp only [ev,zD,zE,zF,zG]
   refine mstoreA m 4 rfl rfl rfl cells_34 (leT rfl) rfl ?_
   clear m; intro u m; simp only [over,zH,zI,zJ,zK,zL,zM,zN,zO,zP,zF,zG,Nat.reduceAdd] at m
   refine n_val (r_assign) (n_nil (k28 _ _ ?_))
   refine wp_ret ?_
   simp only [ev,zD,zE,zF,zG]
   try simp only [Exit.inBlock,Exit.then,if_true]
   refine fin2 rfl ⟨_,rfl,((m.b 4 rfl).full agg_34 cells_34)⟩ rfl ?_
   try simp only [zD,zE]
   exact ⟨_,rfl,m.ext,by simp only [edgeq,minq,h1,h2,if_true,if_false]; rfl⟩
 ·
  have h1:=mt qcmp_lt.2 hc2
  refine wp_skip (k13 _ _ ?_)
  refine wp_region_lit (n_val (r_add (m:=1) (n:=1) (r:=2) rfl rfl (by decide)) (n_val (r_move) (n_nil (then_rounds (c_seq fun K29 k29=>wp_region_lit (n_val (r_lssT (m:=2) (n:=3) rfl rfl (by decide)) (n_nil (k29 _ _ ?_))))))))
  refine c_seq fun K30 k30=>c_yes rfl (wp_skip (k30 _ _ ?_))
  refine c_seq fun K31 k31=>wp_block (c_seq fun K32 k32=>wp_region_lit (n_val (r_move) ?_))
  simp only [ev,zD,zE,zF,zG]
  refine n_val (r_indexAddrS Tryz.underlying22 cells_3 rfl rfl (by decide) (by decide) rfl) ?_
  simp only [ev,zD,zE,zF,zG]
  refine n_load rfl ((hB0.ext m.ext).lies1 agg_3 rfl) ?_
  simp only [ev,zD,zE,zF,zG]
  refine n_val (r_assign) (n_val (r_assign) (n_nil (k32 _ _ ?_)))
  refine c_seq fun K33 k33=>wp_region_lit (n_val (r_move) (n_val (r_move) ?_))
  simp only [ev,zD,zE,zF,zG]
  refine mcall m rfl rfl (edge_2 _ (hB1.ext m.ext) (hB2.ext m.ext)) ?_
  clear m; rintro v u m rfl
  simp only [ev,zD,zE,zF,zG]
  refine malloc m zero_34 rfl ?_
  clear m; intro g7 u m
  simp only [ev,zD,zE,zF,zG]
  refine mstoreA m 0 rfl rfl rfl cells_34 (leT rfl) rfl ?_
  clear m; intro u m; simp only [over,zH,zI,zJ,zK,zL,zM,zN,zO,zP,zF,zG,Nat.reduceAdd] at m
  refine n_nil (k33 _ _ ?_)
  refine c_seq fun K34 k34=>wp_region_lit (n_val (r_move) (n_val (r_eqlF (m:=2) (n:=0) rfl rfl (by decide)) (n_val (r_move) (n_want rfl ?_))))
  simp only [ev,zD,zE,zF,zG]
  refine n_load rfl ((m.b 0 rfl).full agg_34 cells_34) ?_
  simp only [ev,zD,zE,zF,zG]
  refine n_want rfl (n_load rfl ((m.b 3 rfl).full agg_34 cells_34) ?_)
  simp only [ev,zD,zE,zF,zG]
  refine n_want rfl (mcallP m rfl rfl (CmpFrac_c Bq.up Bq.up) ?_)
  clear m; intro u m
  refine n_want rfl (n_val (r_lss rfl rfl) (n_val (r_pickF rfl) (n_nil (k34 _ _ ?_))))
  simp only [ev,zD,zE,zF,zG]
  refine c_if rfl (fun hc2=>?_) (fun hc2=>?_)
  ·
   have h2:=qcmp_lt.1 hc2
   refine wp_region_lit (n_load rfl ((m.b 0 rfl).full agg_34 cells_34) ?_)
   simp only [ev,zD,zE,zF,zG]
   refine mstoreA m 3 rfl rfl rfl cells_34 (leT rfl) rfl ?_
   clear m; intro u m; simp only [over,zH,zI,zJ,zK,zL,zM,zN,zO,zP,zF,zG,Nat.reduceAdd] at m
   refine n_nil (k31 _ _ ?_)
   refine wp_region_lit (n_val (r_add (m:=2) (n:=1) (r:=3) rfl rfl (by decide)) (n_val (r_move) (n_nil (then_rounds (c_seq fun K35 k35=>wp_region_lit (n_val (r_lssF (m:=3) (n:=3) rfl rfl (by decide)) (n_nil (k35 _ _ ?_))))))))
   refine c_seq fun K36 k36=>c_no rfl (wp_exit (k3 _ _ ?_))
   refine c_seq fun K37 k37=>wp_region_lit ?_
   simp only [ev,zD,zE,zF,zG]
   refine n_load rfl ((m.b 3 rfl).full agg_34 cells_34) ?_
   simp only [ev,zD,zE,zF,zG]
   refine n_val (r_move) (n_val (r_lenS rfl Tryz.underlying22 rfl) (n_val (r_gtrT (m:=3) (n:=0) rfl rfl (by decide)) ?_))
   simp only [ev,zD,zE,zF,zG]
   refine mstoreA m 4 rfl rfl rfl cells_34 (leT rfl) rfl ?_
   clear m; intro u m; simp only [over,zH,zI,zJ,zK,zL,zM,zN,zO,zP,zF,zG,Nat.reduceAdd] at m
   refine n_val (r_assign) (n_nil (k37 _ _ ?_))
   refine wp_ret ?_
   simp only [ev,zD,zE,zF,zG]
   try simp only [Exit.inBlock,Exit.then,if_true]
   refine fin2 rfl ⟨_,rfl,((m.b 4 rfl).full agg_34 cells_34)⟩ rfl ?_
   try simp only [zD,zE]
   exact ⟨_,rfl,m.ext,by simp only [edgeq,minq,h1,h2,if_true,if_false]; rfl⟩
  ·
   have h2:=mt qcmp_lt.2 hc2
   refine wp_skip (k31 _ _ ?_)
   refine wp_region_lit (n_val (r_add (m:=2) (n:=1) (r:=3) rfl rfl (by decide)) (n_val (r_move) (n_nil (then_rounds (c_seq fun K38 k38=>wp_region_lit (n_val (r_lssF (m:=3) (n:=3) rfl rfl (by decide)) (n_nil (k38 _ _ ?_))))))))
   refine c_seq fun K39 k39=>c_no rfl (wp_exit (k3 _ _ ?_))
   refine c_seq fun K40 k40=>wp_region_lit ?_
   simp only [ev,zD,zE,zF,zG]
   refine n_load rfl ((m.b 3 rfl).full agg_34 cells_34) ?_
   simp only [ev,zD,zE,zF,zG]
   refine n_val (r_move) (n_val (r_lenS rfl Tryz.underlying22 rfl) (n_val (r_gtrT (m:=3) (n:=0) rfl rfl (by decide)) ?_))
   simp only [ev,zD,zE,zF,zG]
   refine mstoreA m 4 rfl rfl rfl cells_34 (leT rfl) rfl ?_
   clear m; intro u m; simp only [over,zH,zI,zJ,zK,zL,zM,zN,zO,zP,zF,zG,Nat.reduceAdd] at m
   refine n_val (r_assign) (n_nil (k40 _ _ ?_))
   refine wp_ret ?_
   simp only [ev,zD,zE,zF,zG]
   try simp only [Exit.inBlock,Exit.then,if_true]
   refine fin2 rfl ⟨_,rfl,((m.b 4 rfl).full agg_34 cells_34)⟩ rfl ?_
   try simp only [zD,zE]
   exact ⟨_,rfl,m.ext,by simp only [edgeq,minq,h1,h2,if_true,if_false]; rfl⟩
theorem triangle_c {x : P3} {t : T3} [I3 x] [IT t] : Pure Tryz.prog 44 [pt x,tr t] (Q (triq x t)):=by
 intro w
 refine ⟨en_44,?_⟩
 have m:=Mem.refl w
 go_enter Tryz.func44,Tryz.ntmps44
 refine c_seq fun K1 k1=>wp_region_lit (mboxA m rfl ?_)
 clear m; intro g1 u m
 simp only [ev,zD,zE,zF,zG]
 refine mboxA m rfl ?_
 clear m; intro g2 u m
 simp only [ev,zD,zE,zF,zG]
 refine malloc m zero_34 rfl ?_
 clear m; intro g3 u m
 refine n_nil (k1 _ _ ?_)
 refine c_seq fun K2 k2=>wp_region_lit ?_
 simp only [ev,zD,zE,zF,zG]
 refine n_load rfl ((m.b 1 rfl).full agg_59 cells_59) ?_
 simp only [ev,zD,zE,zF,zG]
 refine mcallP m rfl rfl (Normal_c) ?_
 clear m; intro u m
 simp only [ev,zD,zE,zF,zG]
 refine malloc m zero_76 rfl ?_
 clear m; intro g4 u m
 simp only [ev,zD,zE,zF,zG]
 refine mstoreA m 0 rfl rfl rfl cells_76 (leT rfl) rfl ?_
 clear m; intro u m; simp only [over,zH,zI,zJ,zK,zL,zM,zN,zO,zP,zF,zG,Nat.reduceAdd] at m
 refine n_nil (k2 _ _ ?_)
 refine c_seq fun K3 k3=>wp_region_lit (n_load rfl ((m.b 2 rfl).full agg_59 cells_59) ?_)
 simp only [ev,zD,zE,zF,zG]
 refine mcallP m rfl rfl (Flat_c) ?_
 clear m; intro u m
 refine n_val (r_not rfl) (n_val (r_assign) (n_nil ?_))
 simp only [ev,zD,zE,zF,zG]
 obtain ⟨b0,hb0⟩ : ∃ b : Bool,b = !(decide (isign t.normal.x = 0 ∧ isign t.normal.y = 0 ∧ isign t.normal.z = 0)):=⟨_,rfl⟩
 rw [← hb0]
 refine k3 _ _ ?_
 refine c_seq fun K4 k4=>c_seq fun K5 k5=>wp_region_lit (n_load rfl ((m.b 2 rfl).full agg_59 cells_59) ?_)
 simp only [ev,zD,zE,zF,zG]
 refine n_val (r_move) (n_nil (k5 _ _ ?_))
 refine wp_block (wp_loop_rounds 4 (rounds_step (c_seq fun K6 k6=>wp_region_lit (n_val (r_lssT (m:=0) (n:=3) rfl rfl (by decide)) (n_nil (k6 _ _ ?_))))))
 refine c_seq fun K7 k7=>c_yes rfl (wp_skip (k7 _ _ ?_))
 refine c_seq fun K8 k8=>wp_block (c_seq fun K9 k9=>wp_region_lit (n_val (r_move) (n_val (r_index_59_0 rfl rfl) ?_)))
 simp only [ev,zD,zE,zF,zG]
 refine malloc m zero_28 rfl ?_
 clear m; intro g5 u m
 refine n_val (r_assign) ?_
 simp only [ev,zD,zE,zF,zG]
 refine mstoreA m 0 rfl rfl rfl cells_28 (leT rfl) rfl ?_
 clear m; intro u m; simp only [over,zH,zI,zJ,zK,zL,zM,zN,zO,zP,zF,zG,Nat.reduceAdd] at m
 refine n_nil (k9 _ _ ?_)
 rcases b0 with _ | _
 ·
  have hno : ¬ (¬ t.flat ∧ ins x t):=no0 hb0
  refine mq m follows_mixed (by kernel_rfl) (q_val (r_move) (q_val (r_move) (q_skipT rfl (q_skipT rfl ?_))))
  simp only [ev,zD,zE,zF,zG]
  refine q_skipT rfl (q_skipT rfl (q_skipT rfl (q_skipT rfl ?_)))
  simp only [ev,zD,zE,zF,zG]
  refine q_skipT rfl (q_skipT rfl (q_skipT rfl (q_skipT rfl ?_)))
  simp only [ev,zD,zE,zF,zG]
  refine q_skipT rfl (q_skipT rfl (q_skipT rfl (q_skipT rfl ?_)))
  simp only [ev,zD,zE,zF,zG]
  refine q_skipT rfl (q_val (r_pickF rfl) (q_val (r_assign) (q_nil ?_)))
  clear m; intro u m
  refine k8 _ _ ?_
  refine wp_region_lit (n_val (r_add (m:=0) (n:=1) (r:=1) rfl rfl (by decide)) ?_)
  simp only [ev,zD,zE,zF,zG]
  refine n_val (r_move) (n_nil (then_rounds (c_seq fun K10 k10=>wp_region_lit (n_val (r_lssT (m:=1) (n:=3) rfl rfl (by decide)) (n_nil (k10 _ _ ?_))))))
  refine c_seq fun K11 k11=>c_yes rfl (wp_skip (k11 _ _ ?_))
  refine c_seq fun K12 k12=>wp_block (c_seq fun K13 k13=>wp_region_lit (n_val (r_move) (n_val (r_index_59_1 rfl rfl) ?_)))
  simp only [ev,zD,zE,zF,zG]
  refine malloc m zero_28 rfl ?_
  clear m; intro g6 u m
  refine n_val (r_assign) ?_
  simp only [ev,zD,zE,zF,zG]
  refine mstoreA m 0 rfl rfl rfl cells_28 (leT rfl) rfl ?_
  clear m; intro u m; simp only [over,zH,zI,zJ,zK,zL,zM,zN,zO,zP,zF,zG,Nat.reduceAdd] at m
  refine n_nil (k13 _ _ ?_)
  refine mq m follows_mixed (by kernel_rfl) (q_val (r_move) (q_val (r_move) (q_skipT rfl (q_skipT rfl ?_))))
  simp only [ev,zD,zE,zF,zG]
  refine q_skipT rfl (q_skipT rfl (q_skipT rfl (q_skipT rfl ?_)))
  simp only [ev,zD,zE,zF,zG]
  refine q_skipT rfl (q_skipT rfl (q_skipT rfl (q_skipT rfl ?_)))
  simp only [ev,zD,zE,zF,zG]
  refine q_skipT rfl (q_skipT rfl (q_skipT rfl (q_skipT rfl ?_)))
  simp only [ev,zD,zE,zF,zG]
  refine q_skipT rfl (q_val (r_pickF rfl) (q_val (r_assign) (q_nil ?_)))
  clear m; intro u m
  refine k12 _ _ ?_
  refine wp_region_lit (n_val (r_add (m:=1) (n:=1) (r:=2) rfl rfl (by decide)) ?_)
  simp only [ev,zD,zE,zF,zG]
  refine n_val (r_move) (n_nil (then_rounds (c_seq fun K14 k14=>wp_region_lit (n_val (r_lssT (m:=2) (n:=3) rfl rfl (by decide)) (n_nil (k14 _ _ ?_))))))
  refine c_seq fun K15 k15=>c_yes rfl (wp_skip (k15 _ _ ?_))
  refine c_seq fun K16 k16=>wp_block (c_seq fun K17 k17=>wp_region_lit (n_val (r_move) (n_val (r_index_59_2 rfl rfl) ?_)))
  simp only [ev,zD,zE,zF,zG]
  refine malloc m zero_28 rfl ?_
  clear m; intro g7 u m
  refine n_val (r_assign) ?_
  simp only [ev,zD,zE,zF,zG]
  refine mstoreA m 0 rfl rfl rfl cells_28 (leT rfl) rfl ?_
  clear m; intro u m; simp only [over,zH,zI,zJ,zK,zL,zM,zN,zO,zP,zF,zG,Nat.reduceAdd] at m
  refine n_nil (k17 _ _ ?_)
  refine mq m follows_mixed (by kernel_rfl) (q_val (r_move) (q_val (r_move) (q_skipT rfl (q_skipT rfl ?_))))
  simp only [ev,zD,zE,zF,zG]
  refine q_skipT rfl (q_skipT rfl (q_skipT rfl (q_skipT rfl ?_)))
  simp only [ev,zD,zE,zF,zG]
  refine q_skipT rfl (q_skipT rfl (q_skipT rfl (q_skipT rfl ?_)))
  simp only [ev,zD,zE,zF,zG]
  refine q_skipT rfl (q_skipT rfl (q_skipT rfl (q_skipT rfl ?_)))
  simp only [ev,zD,zE,zF,zG]
  refine q_skipT rfl (q_val (r_pickF rfl) (q_val (r_assign) (q_nil ?_)))
  clear m; intro u m
  refine k16 _ _ ?_
  refine wp_region_lit (n_val (r_add (m:=2) (n:=1) (r:=3) rfl rfl (by decide)) ?_)
  simp only [ev,zD,zE,zF,zG]
  refine n_val (r_move) (n_nil (then_rounds (c_seq fun K18 k18=>wp_region_lit (n_val (r_lssF (m:=3) (n:=3) rfl rfl (by decide)) (n_nil (k18 _ _ ?_))))))
  refine c_seq fun K19 k19=>c_no rfl (wp_exit (k4 _ _ ?_))
  refine c_seq fun K20 k20=>c_seq fun K21 k21=>wp_region_lit (n_val (r_move) (n_nil (k21 _ _ ?_)))
  refine c_no rfl (wp_skip (k20 _ _ ?_))
  refine c_seq fun K22 k22=>wp_region_lit ?_
  simp only [ev,zD,zE,zF,zG]
  refine n_bs_22_3 rfl rfl rfl ?_
  intro u g8 e hg hB; replace m:=m.newB e hg hB; clear e hg hB
  simp only [ev,zD,zE,zF,zG]
  refine n_val (r_makeFunc) ?_
  simp only [ev,zD,zE,zF,zG,List.map_toArray,List.map_cons,List.map_nil]
  refine mcall m rfl rfl (least3_c _ (m.b 0 rfl) (m.b 7 rfl) (m.b 6 rfl)) ?_
  clear m; rintro v u m rfl
  refine n_val (r_move) (n_val (r_extract rfl rfl) (n_val (r_extract rfl rfl) ?_))
  simp only [ev,zD,zE,zF,zG]
  refine malloc m zero_34 rfl ?_
  clear m; intro g9 u m
  simp only [ev,zD,zE,zF,zG]
  refine mstoreA m 0 rfl rfl rfl cells_34 (leT rfl) rfl ?_
  clear m; intro u m; simp only [over,zH,zI,zJ,zK,zL,zM,zN,zO,zP,zF,zG,Nat.reduceAdd] at m
  refine n_val (r_assign) (n_nil (k22 _ _ ?_))
  refine c_seq fun K23 k23=>wp_region_lit ?_
  simp only [ev,zD,zE,zF,zG]
  refine n_load rfl ((m.b 0 rfl).full agg_34 cells_34) ?_
  simp only [ev,zD,zE,zF,zG]
  refine mstoreA m 6 rfl rfl rfl cells_34 (leT rfl) rfl ?_
  clear m; intro u m; simp only [over,zH,zI,zJ,zK,zL,zM,zN,zO,zP,zF,zG,Nat.reduceAdd] at m
  refine n_nil (k23 _ _ ?_)
  refine wp_ret ?_
  try simp only [Exit.inBlock,Exit.then,if_true]
  refine fin1 rfl ⟨_,rfl,((m.b 6 rfl).full agg_34 cells_34)⟩ ?_
  try simp only [zD,zE]
  exact ⟨_,rfl,m.ext,by first | exact triq_face ⟨hy0,hy1,hy2,hy3⟩ ▸ rfl | exact triq_edge hno ▸ rfl⟩
 ·
  have hy0:=yes0 hb0
  refine mq m follows_mixed (by kernel_rfl) (q_val (r_move) (q_val (r_move) (q_want rfl ?_)))
  simp only [ev,zD,zE,zF,zG]
  refine ql rfl (fun u m=>((m.b 1 rfl).full agg_76 cells_76)) ?_
  simp only [ev,zD,zE,zF,zG]
  refine q_want rfl (ql rfl (fun u m=>((m.b 0 rfl).full agg_28 cells_28)) ?_)
  simp only [ev,zD,zE,zF,zG]
  refine q_want rfl (q_val (r_move) (q_want rfl (q_val (r_add (m:=0) (n:=1) (r:=1) rfl rfl (by decide)) (q_want rfl (q_val (r_rem (m:=1) (n:=3) (r:=1) rfl rfl (by decide) (by decide)) (q_want rfl (q_val (r_indexAddrA Tryz.underlying59 cells_28 rfl rfl (by decide) (by decide) rfl) ?_)))))))
  simp only [ev,zD,zE,zF,zG]
  refine q_want rfl (ql rfl (fun u m=>((m.b 3 rfl).lies agg_28 cells_28 rfl rfl)) ?_)
  simp only [ev,zD,zE,zF,zG,zH,zI,zJ,zK,Nat.zero_add,Nat.reduceAdd,Nat.reduceMul,Int.reduceToNat]
  refine q_want rfl (qcP rfl rfl (from_c) (q_want rfl ?_))
  simp only [ev,zD,zE,zF,zG]
  refine ql rfl (fun u m=>((m.b 0 rfl).full agg_28 cells_28)) ?_
  simp only [ev,zD,zE,zF,zG]
  refine q_want rfl (ql rfl (fun u m=>((m.b 4 rfl).full agg_28 cells_28)) ?_)
  simp only [ev,zD,zE,zF,zG]
  refine q_want rfl (qcP rfl rfl (from_c) (q_want rfl ?_))
  simp only [ev,zD,zE,zF,zG]
  refine qcP rfl rfl (mCross_c Bv.of Bv.of) (q_want rfl ?_)
  simp only [ev,zD,zE,zF,zG]
  refine qcP rfl rfl (mDot_c Bv.of Bv.of) (q_want rfl ?_)
  simp only [ev,zD,zE,zF,zG]
  refine qcP rfl rfl (Sign_c Bw.up) (q_want rfl (q_val (r_geq rfl rfl) (q_val (r_pickT rfl) (q_val (r_assign) ?_))))
  simp only [ev,zD,zE,zF,zG]
  refine q_nil ?_
  clear m; intro u m
  obtain ⟨b1,hb1⟩ : ∃ b : Bool,b = decide (0 ≤ isign (t.normal.dot ((t.b.sub t.a).cross (x.sub t.a)))):=⟨_,rfl⟩
  rw [← hb1]
  refine k8 _ _ ?_
  refine wp_region_lit (n_val (r_add (m:=0) (n:=1) (r:=1) rfl rfl (by decide)) (n_val (r_move) (n_nil (then_rounds (c_seq fun K24 k24=>wp_region_lit (n_val (r_lssT (m:=1) (n:=3) rfl rfl (by decide)) (n_nil (k24 _ _ ?_))))))))
  refine c_seq fun K25 k25=>c_yes rfl (wp_skip (k25 _ _ ?_))
  refine c_seq fun K26 k26=>wp_block (c_seq fun K27 k27=>wp_region_lit (n_val (r_move) ?_))
  simp only [ev,zD,zE,zF,zG]
  refine n_val (r_index_59_1 rfl rfl) ?_
  simp only [ev,zD,zE,zF,zG]
  refine malloc m zero_28 rfl ?_
  clear m; intro g6 u m
  refine n_val (r_assign) ?_
  simp only [ev,zD,zE,zF,zG]
  refine mstoreA m 0 rfl rfl rfl cells_28 (leT rfl) rfl ?_
  clear m; intro u m; simp only [over,zH,zI,zJ,zK,zL,zM,zN,zO,zP,zF,zG,Nat.reduceAdd] at m
  refine n_nil (k27 _ _ ?_)
  rcases b1 with _ | _
  ·
   have hno : ¬ (¬ t.flat ∧ ins x t):=fun h=>no_side hb1 h.2.1
   refine mq m follows_mixed (by kernel_rfl) (q_val (r_move) (q_val (r_move) (q_skipT rfl (q_skipT rfl ?_))))
   simp only [ev,zD,zE,zF,zG]
   refine q_skipT rfl (q_skipT rfl (q_skipT rfl (q_skipT rfl ?_)))
   simp only [ev,zD,zE,zF,zG]
   refine q_skipT rfl (q_skipT rfl (q_skipT rfl (q_skipT rfl ?_)))
   simp only [ev,zD,zE,zF,zG]
   refine q_skipT rfl (q_skipT rfl (q_skipT rfl (q_skipT rfl ?_)))
   simp only [ev,zD,zE,zF,zG]
   refine q_skipT rfl (q_val (r_pickF rfl) (q_val (r_assign) (q_nil ?_)))
   clear m; intro u m
   refine k26 _ _ ?_
   refine wp_region_lit (n_val (r_add (m:=1) (n:=1) (r:=2) rfl rfl (by decide)) ?_)
   simp only [ev,zD,zE,zF,zG]
   refine n_val (r_move) (n_nil (then_rounds (c_seq fun K28 k28=>wp_region_lit (n_val (r_lssT (m:=2) (n:=3) rfl rfl (by decide)) (n_nil (k28 _ _ ?_))))))
   refine c_seq fun K29 k29=>c_yes rfl (wp_skip (k29 _ _ ?_))
   refine c_seq fun K30 k30=>wp_block (c_seq fun K31 k31=>wp_region_lit (n_val (r_move) (n_val (r_index_59_2 rfl rfl) ?_)))
   simp only [ev,zD,zE,zF,zG]
   refine malloc m zero_28 rfl ?_
   clear m; intro g7 u m
   refine n_val (r_assign) ?_
   simp only [ev,zD,zE,zF,zG]
   refine mstoreA m 0 rfl rfl rfl cells_28 (leT rfl) rfl ?_
   clear m; intro u m; simp only [over,zH,zI,zJ,zK,zL,zM,zN,zO,zP,zF,zG,Nat.reduceAdd] at m
   refine n_nil (k31 _ _ ?_)
   refine mq m follows_mixed (by kernel_rfl) (q_val (r_move) (q_val (r_move) (q_skipT rfl (q_skipT rfl ?_))))
   simp only [ev,zD,zE,zF,zG]
   refine q_skipT rfl (q_skipT rfl (q_skipT rfl (q_skipT rfl ?_)))
   simp only [ev,zD,zE,zF,zG]
   refine q_skipT rfl (q_skipT rfl (q_skipT rfl (q_skipT rfl ?_)))
   simp only [ev,zD,zE,zF,zG]
   refine q_skipT rfl (q_skipT rfl (q_skipT rfl (q_skipT rfl ?_)))
   simp only [ev,zD,zE,zF,zG]
   refine q_skipT rfl (q_val (r_pickF rfl) (q_val (r_assign) (q_nil ?_)))
   clear m; intro u m
   refine k30 _ _ ?_
   refine wp_region_lit (n_val (r_add (m:=2) (n:=1) (r:=3) rfl rfl (by decide)) ?_)
   simp only [ev,zD,zE,zF,zG]
   refine n_val (r_move) (n_nil (then_rounds (c_seq fun K32 k32=>wp_region_lit (n_val (r_lssF (m:=3) (n:=3) rfl rfl (by decide)) (n_nil (k32 _ _ ?_))))))
   refine c_seq fun K33 k33=>c_no rfl (wp_exit (k4 _ _ ?_))
   refine c_seq fun K34 k34=>c_seq fun K35 k35=>wp_region_lit (n_val (r_move) (n_nil (k35 _ _ ?_)))
   refine c_no rfl (wp_skip (k34 _ _ ?_))
   refine c_seq fun K36 k36=>wp_region_lit ?_
   simp only [ev,zD,zE,zF,zG]
   refine n_bs_22_3 rfl rfl rfl ?_
   intro u g8 e hg hB; replace m:=m.newB e hg hB; clear e hg hB
   simp only [ev,zD,zE,zF,zG]
   refine n_val (r_makeFunc) ?_
   simp only [ev,zD,zE,zF,zG,List.map_toArray,List.map_cons,List.map_nil]
   refine mcall m rfl rfl (least3_c _ (m.b 0 rfl) (m.b 7 rfl) (m.b 6 rfl)) ?_
   clear m; rintro v u m rfl
   refine n_val (r_move) (n_val (r_extract rfl rfl) (n_val (r_extract rfl rfl) ?_))
   simp only [ev,zD,zE,zF,zG]
   refine malloc m zero_34 rfl ?_
   clear m; intro g9 u m
   simp only [ev,zD,zE,zF,zG]
   refine mstoreA m 0 rfl rfl rfl cells_34 (leT rfl) rfl ?_
   clear m; intro u m; simp only [over,zH,zI,zJ,zK,zL,zM,zN,zO,zP,zF,zG,Nat.reduceAdd] at m
   refine n_val (r_assign) (n_nil (k36 _ _ ?_))
   refine c_seq fun K37 k37=>wp_region_lit ?_
   simp only [ev,zD,zE,zF,zG]
   refine n_load rfl ((m.b 0 rfl).full agg_34 cells_34) ?_
   simp only [ev,zD,zE,zF,zG]
   refine mstoreA m 6 rfl rfl rfl cells_34 (leT rfl) rfl ?_
   clear m; intro u m; simp only [over,zH,zI,zJ,zK,zL,zM,zN,zO,zP,zF,zG,Nat.reduceAdd] at m
   refine n_nil (k37 _ _ ?_)
   refine wp_ret ?_
   try simp only [Exit.inBlock,Exit.then,if_true]
   refine fin1 rfl ⟨_,rfl,((m.b 6 rfl).full agg_34 cells_34)⟩ ?_
   try simp only [zD,zE]
   exact ⟨_,rfl,m.ext,by first | exact triq_face ⟨hy0,hy1,hy2,hy3⟩ ▸ rfl | exact triq_edge hno ▸ rfl⟩
  ·
   have hy1:=yes_side hb1
   refine mq m follows_mixed (by kernel_rfl) (q_val (r_move) (q_val (r_move) (q_want rfl ?_)))
   simp only [ev,zD,zE,zF,zG]
   refine ql rfl (fun u m=>((m.b 2 rfl).full agg_76 cells_76)) ?_
   simp only [ev,zD,zE,zF,zG]
   refine q_want rfl (ql rfl (fun u m=>((m.b 0 rfl).full agg_28 cells_28)) ?_)
   simp only [ev,zD,zE,zF,zG]
   refine q_want rfl (q_val (r_move) (q_want rfl (q_val (r_add (m:=1) (n:=1) (r:=2) rfl rfl (by decide)) (q_want rfl (q_val (r_rem (m:=2) (n:=3) (r:=2) rfl rfl (by decide) (by decide)) (q_want rfl (q_val (r_indexAddrA Tryz.underlying59 cells_28 rfl rfl (by decide) (by decide) rfl) ?_)))))))
   simp only [ev,zD,zE,zF,zG]
   refine q_want rfl (ql rfl (fun u m=>((m.b 4 rfl).lies agg_28 cells_28 rfl rfl)) ?_)
   simp only [ev,zD,zE,zF,zG,zH,zI,zJ,zK,Nat.zero_add,Nat.reduceAdd,Nat.reduceMul,Int.reduceToNat]
   refine q_want rfl (qcP rfl rfl (from_c) (q_want rfl ?_))
   simp only [ev,zD,zE,zF,zG]
   refine ql rfl (fun u m=>((m.b 0 rfl).full agg_28 cells_28)) ?_
   simp only [ev,zD,zE,zF,zG]
   refine q_want rfl (ql rfl (fun u m=>((m.b 5 rfl).full agg_28 cells_28)) ?_)
   simp only [ev,zD,zE,zF,zG]
   refine q_want rfl (qcP rfl rfl (from_c) (q_want rfl ?_))
   simp only [ev,zD,zE,zF,zG]
   refine qcP rfl rfl (mCross_c Bv.of Bv.of) (q_want rfl ?_)
   simp only [ev,zD,zE,zF,zG]
   refine qcP rfl rfl (mDot_c Bv.of Bv.of) (q_want rfl ?_)
   simp only [ev,zD,zE,zF,zG]
   refine qcP rfl rfl (Sign_c Bw.up) (q_want rfl (q_val (r_geq rfl rfl) (q_val (r_pickT rfl) (q_val (r_assign) ?_))))
   simp only [ev,zD,zE,zF,zG]
   refine q_nil ?_
   clear m; intro u m
   obtain ⟨b2,hb2⟩ : ∃ b : Bool,b = decide (0 ≤ isign (t.normal.dot ((t.c.sub t.b).cross (x.sub t.b)))):=⟨_,rfl⟩
   rw [← hb2]
   refine k26 _ _ ?_
   refine wp_region_lit (n_val (r_add (m:=1) (n:=1) (r:=2) rfl rfl (by decide)) (n_val (r_move) (n_nil (then_rounds (c_seq fun K38 k38=>wp_region_lit (n_val (r_lssT (m:=2) (n:=3) rfl rfl (by decide)) (n_nil (k38 _ _ ?_))))))))
   refine c_seq fun K39 k39=>c_yes rfl (wp_skip (k39 _ _ ?_))
   refine c_seq fun K40 k40=>wp_block (c_seq fun K41 k41=>wp_region_lit (n_val (r_move) ?_))
   simp only [ev,zD,zE,zF,zG]
   refine n_val (r_index_59_2 rfl rfl) ?_
   simp only [ev,zD,zE,zF,zG]
   refine malloc m zero_28 rfl ?_
   clear m; intro g7 u m
   refine n_val (r_assign) ?_
   simp only [ev,zD,zE,zF,zG]
   refine mstoreA m 0 rfl rfl rfl cells_28 (leT rfl) rfl ?_
   clear m; intro u m; simp only [over,zH,zI,zJ,zK,zL,zM,zN,zO,zP,zF,zG,Nat.reduceAdd] at m
   refine n_nil (k41 _ _ ?_)
   rcases b2 with _ | _
   ·
    have hno : ¬ (¬ t.flat ∧ ins x t):=fun h=>no_side hb2 h.2.2.1
    refine mq m follows_mixed (by kernel_rfl) (q_val (r_move) (q_val (r_move) (q_skipT rfl (q_skipT rfl ?_))))
    simp only [ev,zD,zE,zF,zG]
    refine q_skipT rfl (q_skipT rfl (q_skipT rfl (q_skipT rfl ?_)))
    simp only [ev,zD,zE,zF,zG]
    refine q_skipT rfl (q_skipT rfl (q_skipT rfl (q_skipT rfl ?_)))
    simp only [ev,zD,zE,zF,zG]
    refine q_skipT rfl (q_skipT rfl (q_skipT rfl (q_skipT rfl ?_)))
    simp only [ev,zD,zE,zF,zG]
    refine q_skipT rfl (q_val (r_pickF rfl) (q_val (r_assign) (q_nil ?_)))
    clear m; intro u m
    refine k40 _ _ ?_
    refine wp_region_lit (n_val (r_add (m:=2) (n:=1) (r:=3) rfl rfl (by decide)) ?_)
    simp only [ev,zD,zE,zF,zG]
    refine n_val (r_move) (n_nil (then_rounds (c_seq fun K42 k42=>wp_region_lit (n_val (r_lssF (m:=3) (n:=3) rfl rfl (by decide)) (n_nil (k42 _ _ ?_))))))
    refine c_seq fun K43 k43=>c_no rfl (wp_exit (k4 _ _ ?_))
    refine c_seq fun K44 k44=>c_seq fun K45 k45=>wp_region_lit (n_val (r_move) (n_nil (k45 _ _ ?_)))
    refine c_no rfl (wp_skip (k44 _ _ ?_))
    refine c_seq fun K46 k46=>wp_region_lit ?_
    simp only [ev,zD,zE,zF,zG]
    refine n_bs_22_3 rfl rfl rfl ?_
    intro u g8 e hg hB; replace m:=m.newB e hg hB; clear e hg hB
    simp only [ev,zD,zE,zF,zG]
    refine n_val (r_makeFunc) ?_
    simp only [ev,zD,zE,zF,zG,List.map_toArray,List.map_cons,List.map_nil]
    refine mcall m rfl rfl (least3_c _ (m.b 0 rfl) (m.b 7 rfl) (m.b 6 rfl)) ?_
    clear m; rintro v u m rfl
    refine n_val (r_move) (n_val (r_extract rfl rfl) (n_val (r_extract rfl rfl) ?_))
    simp only [ev,zD,zE,zF,zG]
    refine malloc m zero_34 rfl ?_
    clear m; intro g9 u m
    simp only [ev,zD,zE,zF,zG]
    refine mstoreA m 0 rfl rfl rfl cells_34 (leT rfl) rfl ?_
    clear m; intro u m; simp only [over,zH,zI,zJ,zK,zL,zM,zN,zO,zP,zF,zG,Nat.reduceAdd] at m
    refine n_val (r_assign) (n_nil (k46 _ _ ?_))
    refine c_seq fun K47 k47=>wp_region_lit ?_
    simp only [ev,zD,zE,zF,zG]
    refine n_load rfl ((m.b 0 rfl).full agg_34 cells_34) ?_
    simp only [ev,zD,zE,zF,zG]
    refine mstoreA m 6 rfl rfl rfl cells_34 (leT rfl) rfl ?_
    clear m; intro u m; simp only [over,zH,zI,zJ,zK,zL,zM,zN,zO,zP,zF,zG,Nat.reduceAdd] at m
    refine n_nil (k47 _ _ ?_)
    refine wp_ret ?_
    try simp only [Exit.inBlock,Exit.then,if_true]
    refine fin1 rfl ⟨_,rfl,((m.b 6 rfl).full agg_34 cells_34)⟩ ?_
    try simp only [zD,zE]
    exact ⟨_,rfl,m.ext,by first | exact triq_face ⟨hy0,hy1,hy2,hy3⟩ ▸ rfl | exact triq_edge hno ▸ rfl⟩
   ·
    have hy2:=yes_side hb2
    refine mq m follows_mixed (by kernel_rfl) (q_val (r_move) (q_val (r_move) (q_want rfl ?_)))
    simp only [ev,zD,zE,zF,zG]
    refine ql rfl (fun u m=>((m.b 3 rfl).full agg_76 cells_76)) ?_
    simp only [ev,zD,zE,zF,zG]
    refine q_want rfl (ql rfl (fun u m=>((m.b 0 rfl).full agg_28 cells_28)) ?_)
    simp only [ev,zD,zE,zF,zG]
    refine q_want rfl (q_val (r_move) (q_want rfl (q_val (r_add (m:=2) (n:=1) (r:=3) rfl rfl (by decide)) (q_want rfl (q_val (r_rem (m:=3) (n:=3) (r:=0) rfl rfl (by decide) (by decide)) (q_want rfl (q_val (r_indexAddrA Tryz.underlying59 cells_28 rfl rfl (by decide) (by decide) rfl) ?_)))))))
    simp only [ev,zD,zE,zF,zG]
    refine q_want rfl (ql rfl (fun u m=>((m.b 5 rfl).lies agg_28 cells_28 rfl rfl)) ?_)
    simp only [ev,zD,zE,zF,zG,zH,zI,zJ,zK,Nat.zero_add,Nat.reduceAdd,Nat.reduceMul,Int.reduceToNat]
    refine q_want rfl (qcP rfl rfl (from_c) (q_want rfl ?_))
    simp only [ev,zD,zE,zF,zG]
    refine ql rfl (fun u m=>((m.b 0 rfl).full agg_28 cells_28)) ?_
    simp only [ev,zD,zE,zF,zG]
    refine q_want rfl (ql rfl (fun u m=>((m.b 6 rfl).full agg_28 cells_28)) ?_)
    simp only [ev,zD,zE,zF,zG]
    refine q_want rfl (qcP rfl rfl (from_c) (q_want rfl ?_))
    simp only [ev,zD,zE,zF,zG]
    refine qcP rfl rfl (mCross_c Bv.of Bv.of) (q_want rfl ?_)
    simp only [ev,zD,zE,zF,zG]
    refine qcP rfl rfl (mDot_c Bv.of Bv.of) (q_want rfl ?_)
    simp only [ev,zD,zE,zF,zG]
    refine qcP rfl rfl (Sign_c Bw.up) (q_want rfl (q_val (r_geq rfl rfl) (q_val (r_pickT rfl) (q_val (r_assign) ?_))))
    simp only [ev,zD,zE,zF,zG]
    refine q_nil ?_
    clear m; intro u m
    obtain ⟨b3,hb3⟩ : ∃ b : Bool,b = decide (0 ≤ isign (t.normal.dot ((t.a.sub t.c).cross (x.sub t.c)))):=⟨_,rfl⟩
    rw [← hb3]
    refine k40 _ _ ?_
    refine wp_region_lit (n_val (r_add (m:=2) (n:=1) (r:=3) rfl rfl (by decide)) (n_val (r_move) (n_nil (then_rounds (c_seq fun K48 k48=>wp_region_lit (n_val (r_lssF (m:=3) (n:=3) rfl rfl (by decide)) (n_nil (k48 _ _ ?_))))))))
    refine c_seq fun K49 k49=>c_no rfl (wp_exit (k4 _ _ ?_))
    refine c_seq fun K50 k50=>c_seq fun K51 k51=>wp_region_lit (n_val (r_move) ?_)
    simp only [ev,zD,zE,zF,zG]
    refine n_nil (k51 _ _ ?_)
    refine c_cond rfl (fun hc2=>?_) (fun hc2=>?_)
    ·
     have hy3:=yes_side (hb3.symm.trans hc2).symm
     refine c_seq fun K52 k52=>?_
     refine wp_region_fresh 7 [0,1,2,3,4,5] [⟨6,9,32,[.bool false,.string ⟨#[]⟩]⟩] follows_mixed (by kernel_rfl) (al1 ⟨_,_,_,rfl,by kernel_rfl,_,zero_32,rfl⟩) (ol:=?_) ?hol ?_
     case hol=>simp only [zQ,zR,zS,zT,zU,zV]; try rfl
     intro u e; replace m:=m.ext' e; clear e
     refine e_load rfl (fun u e=>(((m.ext' e).b 3 rfl).full agg_76 cells_76)) ?_
     simp only [ev,zD,zE,zF,zG]
     refine e_val (r_indexAddrA Tryz.underlying59 cells_28 rfl rfl (by decide) (by decide) rfl) ?_
     simp only [ev,zD,zE,zF,zG]
     refine e_load rfl (fun u e=>(((m.ext' e).b 5 rfl).lies agg_28 cells_28 rfl rfl)) ?_
     simp only [ev,zD,zE,zF,zG,zH,zI,zJ,zK,Nat.zero_add,Nat.reduceAdd,Nat.reduceMul,Int.reduceToNat]
     refine e_load rfl (fun u e=>(((m.ext' e).b 6 rfl).full agg_28 cells_28)) ?_
     simp only [ev,zD,zE,zF,zG]
     refine e_callP rfl rfl (from_c) ?_
     simp only [ev,zD,zE,zF,zG]
     refine e_callP rfl rfl (mDot_c Bv.of Bv.of) (e_nil ?_)
     simp only [ev,zD,zE,zF,zG]
     refine mf1 m ?_
     clear m; intro g8 u m
     simp only [zJ,zK,zF,zG]
     refine mstoreA m 0 rfl rfl rfl cells_32 (leT rfl) rfl ?_
     clear m; intro u m; simp only [over,zH,zI,zJ,zK,zL,zM,zN,zO,zP,zF,zG,Nat.reduceAdd] at m
     refine n_nil (k52 _ _ ?_)
     refine c_seq fun K53 k53=>?_
     refine mq_tail m 7 follows_mixed (by kernel_rfl) ?_
     simp only [zH,zI,zJ,zK]
     refine ql rfl (fun u m=>((m.b 0 rfl).full agg_32 cells_32)) ?_
     simp only [ev,zD,zE,zF,zG]
     refine ql rfl (fun u m=>((m.b 0 rfl).full agg_32 cells_32)) ?_
     simp only [ev,zD,zE,zF,zG]
     refine qcP rfl rfl (Mul_c Bw.up Bw.up) ?_
     simp only [ev,zD,zE,zF,zG]
     refine ql rfl (fun u m=>((m.b 4 rfl).full agg_76 cells_76)) ?_
     simp only [ev,zD,zE,zF,zG]
     refine ql rfl (fun u m=>((m.b 4 rfl).full agg_76 cells_76)) ?_
     simp only [ev,zD,zE,zF,zG]
     refine qcP rfl rfl (mDot_c Bv.of Bv.of) ?_
     simp only [ev,zD,zE,zF,zG]
     refine qcP rfl rfl (mFrac_c Bw.up Bw.up (by have:=flat_dot.2 hy0; omega)) (q_nil ?_)
     clear m; intro u m
     simp only [ev,zD,zE,zF,zG]
     refine mstoreA m 5 rfl rfl rfl cells_34 (leT rfl) rfl ?_
     clear m; intro u m; simp only [over,zH,zI,zJ,zK,zL,zM,zN,zO,zP,zF,zG,Nat.reduceAdd] at m
     refine n_nil (k53 _ _ ?_)
     refine wp_ret ?_
     try simp only [Exit.inBlock,Exit.then,if_true]
     refine fin1 rfl ⟨_,rfl,((m.b 5 rfl).full agg_34 cells_34)⟩ ?_
     try simp only [zD,zE]
     exact ⟨_,rfl,m.ext,by first | exact triq_face ⟨hy0,hy1,hy2,hy3⟩ ▸ rfl | exact triq_edge hno ▸ rfl⟩
    ·
     have hno : ¬ (¬ t.flat ∧ ins x t):=fun h=>no_side (hb3.symm.trans hc2).symm h.2.2.2
     refine wp_skip (k50 _ _ ?_)
     refine c_seq fun K54 k54=>wp_region_lit (n_bs_22_3 rfl rfl rfl ?_)
     intro u g8 e hg hB; replace m:=m.newB e hg hB; clear e hg hB
     simp only [ev,zD,zE,zF,zG]
     refine n_val (r_makeFunc) ?_
     simp only [ev,zD,zE,zF,zG,List.map_toArray,List.map_cons,List.map_nil]
     refine mcall m rfl rfl (least3_c _ (m.b 0 rfl) (m.b 7 rfl) (m.b 6 rfl)) ?_
     clear m; rintro v u m rfl
     refine n_val (r_move) (n_val (r_extract rfl rfl) (n_val (r_extract rfl rfl) ?_))
     simp only [ev,zD,zE,zF,zG]
     refine malloc m zero_34 rfl ?_
     clear m; intro g9 u m
     simp only [ev,zD,zE,zF,zG]
     refine mstoreA m 0 rfl rfl rfl cells_34 (leT rfl) rfl ?_
     clear m; intro u m; simp only [over,zH,zI,zJ,zK,zL,zM,zN,zO,zP,zF,zG,Nat.reduceAdd] at m
     refine n_val (r_assign) (n_nil (k54 _ _ ?_))
     refine c_seq fun K55 k55=>wp_region_lit ?_
     simp only [ev,zD,zE,zF,zG]
     refine n_load rfl ((m.b 0 rfl).full agg_34 cells_34) ?_
     simp only [ev,zD,zE,zF,zG]
     refine mstoreA m 6 rfl rfl rfl cells_34 (leT rfl) rfl ?_
     clear m; intro u m; simp only [over,zH,zI,zJ,zK,zL,zM,zN,zO,zP,zF,zG,Nat.reduceAdd] at m
     refine n_nil (k55 _ _ ?_)
     refine wp_ret ?_
     try simp only [Exit.inBlock,Exit.then,if_true]
     refine fin1 rfl ⟨_,rfl,((m.b 6 rfl).full agg_34 cells_34)⟩ ?_
     try simp only [zD,zE]
     exact ⟨_,rfl,m.ext,by first | exact triq_face ⟨hy0,hy1,hy2,hy3⟩ ▸ rfl | exact triq_edge hno ▸ rfl⟩
end Go.Proofs.YtmcgcnpgkkfkoaaGreatDoor
namespace Go.Proofs.YtmcgcnpgkkfkoaaGreatDoor
open Go.RowKit Go.Lith
set_option maxRecDepth 100000
attribute [local irreducible] wpList wpQuiet wpMix wpMixH wpTree Code.wp
theorem far1_c {x : P3} {t : T3} [I3 x] [IT t] {g1 : Nat} (w : World) (hB1 : Blk w g1 [.int .i64 x.x,.int .i64 x.y,.int .i64 x.z] 28) : Does Tryz.prog 43 [tr t,.pointer (some ⟨g1,0,none⟩)] w (fun v _=>v = Q (triq x t)):=by
 refine ⟨en_43,?_⟩
 have m:=Mem.refl w
 go_enter Tryz.func43,Tryz.ntmps43
 refine c_seq fun K1 k1=>wp_region_lit (mboxA m rfl ?_)
 clear m; intro g2 u m
 simp only [ev,zD,zE,zF,zG]
 refine malloc m zero_34 rfl ?_
 clear m; intro g3 u m
 refine n_nil (k1 _ _ ?_)
 refine c_seq fun K2 k2=>wp_region_lit ?_
 simp only [ev,zD,zE,zF,zG]
 refine n_load rfl ((hB1.ext m.ext).lies agg_28 cells_28 rfl rfl) ?_
 simp only [ev,zD,zE,zF,zG,zH,zI,zJ,zK,Nat.zero_add,Nat.reduceAdd,Nat.reduceMul,Int.reduceToNat]
 refine n_load rfl ((m.b 1 rfl).full agg_59 cells_59) ?_
 simp only [ev,zD,zE,zF,zG]
 refine mcallP m rfl rfl (triangle_c) ?_
 clear m; intro u m
 simp only [ev,zD,zE,zF,zG]
 refine mstoreA m 0 rfl rfl rfl cells_34 (leT rfl) rfl ?_
 clear m; intro u m; simp only [over,zH,zI,zJ,zK,zL,zM,zN,zO,zP,zF,zG,Nat.reduceAdd] at m
 refine n_nil (k2 _ _ ?_)
 refine wp_ret ?_
 try simp only [Exit.inBlock,Exit.then,if_true]
 refine fin1 rfl ⟨_,rfl,((m.b 0 rfl).full agg_34 cells_34)⟩ ?_
 try simp only [zD,zE]
 exact ⟨_,rfl,m.ext,rfl⟩
theorem least_c {x : P3} {ts : List T3} [I3 x] {g1 N cap : Nat} {A : Option Addr} (w : World) (hB1 : Blk w g1 [.int .i64 x.x,.int .i64 x.y,.int .i64 x.z] 28) (hT : TrisAt w A N ts) (hN : N < 4611686018427387904) : Does Tryz.prog 42 [.slice A N cap,.func (.func 43) #[] #[.pointer (some ⟨g1,0,none⟩)]] w (fun v _=>v = .tuple #[Q (farq x ts),.bool (decide ((0 : Int) < (N : Int)))]):=by
 refine ⟨en_42,?_⟩
 have m:=Mem.refl w
 go_enter Tryz.func42,Tryz.ntmps42
 refine c_seq fun K1 k1=>wp_region_lit (malloc m zero_34 rfl ?_)
 clear m; intro g2 u m
 refine n_val (r_assign) (n_nil (k1 _ _ ?_))
 refine c_seq fun K2 k2=>wp_region_lit (n_val (r_build_32_) ?_)
 simp only [ev,zD,zE,zF,zG]
 refine mcallP m rfl rfl (whole0_c) ?_
 clear m; intro u m
 simp only [ev,zD,zE,zF,zG]
 refine malloc m zero_34 rfl ?_
 clear m; intro g3 u m
 simp only [ev,zD,zE,zF,zG]
 refine mstoreA m 0 rfl rfl rfl cells_34 (leT rfl) rfl ?_
 clear m; intro u m; simp only [over,zH,zI,zJ,zK,zL,zM,zN,zO,zP,zF,zG,Nat.reduceAdd] at m
 refine n_nil (k2 _ _ ?_)
 refine c_seq fun K3 k3=>c_seq fun K4 k4=>wp_region_lit (n_val (r_move) (n_val (r_lenS rfl Tryz.underlying24 rfl) (n_val (r_move) (n_nil (k4 _ _ ?_)))))
 refine wp_block ?_
 simp only [ev,zD,zE,zF,zG]
 try simp only [Nat.zero_add,Nat.reduceAdd,Nat.reduceMul,Int.reduceToNat]
 refine c_loopg [14] [7,8,9,15,16,17,18,19,20,21,22,23,24,25,26,27,28,29,30,31] (fun n vs wl=>∃ (k : Nat),vs = [.int .i64 (k:Int)] ∧ Mem w wl [bI g3 [.bool (wneg (farq x (ts.take k)).num),.string (wmag (farq x (ts.take k)).num),.bool (wneg ((farq x (ts.take k)).den : Int)),.string (wmag ((farq x (ts.take k)).den : Int))] 34,bI g2 [.bool false,.string ⟨#[]⟩,.bool false,.string ⟨#[]⟩] 34] ∧ (k ≤ N) ∧ (n = N - k)) ?_ ?_
 ·
  apply Exists.intro
  simp only [zQ,zR,zD,zE]
  exact ⟨0,rfl,m,Nat.zero_le _,rfl⟩
 ·
  intro n vs wr hI u
  clear m
  obtain ⟨k,rfl,m,hk,hn⟩:=hI
  simp only [setG_cons,setG_nil,setMany_cons,setMany_nil,zF,zG]
  refine c_seq fun K5 k5=>wp_region_lit (n_val (r_lss rfl rfl) (n_nil (k5 _ _ ?_)))
  refine c_seq fun K6 k6=>?_
  simp only [ev,zD,zE,zF,zG]
  refine c_if rfl (fun hc1=>?_) (fun hc1=>?_)
  ·
   obtain ⟨t,ht,_,a,rfl,hrow⟩:=hT.get (i:=k) (by omega)
   refine wp_skip (k6 _ _ ?_)
   refine c_seq fun K7 k7=>wp_block (c_seq fun K8 k8=>wp_region_lit (n_val (r_move) ?_))
   simp only [ev,zD,zE,zF,zG]
   refine n_val (r_indexAddrS Tryz.underlying24 cells_59 rfl rfl (by omega) (by omega) (addrN (Int.toNat_natCast _))) ?_
   simp only [ev,zD,zE,zF,zG]
   refine n_load rfl ((hrow.ext m.ext).lies agg_59 cells_59) ?_
   simp only [ev,zD,zE,zF,zG]
   refine malloc m zero_59 rfl ?_
   clear m; intro g4 u m
   refine n_val (r_assign) ?_
   simp only [ev,zD,zE,zF,zG]
   refine mstoreA m 0 rfl rfl rfl cells_59 (leT rfl) rfl ?_
   clear m; intro u m; simp only [over,zH,zI,zJ,zK,zL,zM,zN,zO,zP,zF,zG,Nat.reduceAdd] at m
   refine n_nil (k8 _ _ ?_)
   refine c_seq fun K9 k9=>wp_region_lit (n_val (r_move) ?_)
   simp only [ev,zD,zE,zF,zG]
   refine n_load rfl ((m.b 0 rfl).full agg_59 cells_59) ?_
   simp only [ev,zD,zE,zF,zG]
   refine mcall m rfl rfl (far1_c (t:=t) _ (hB1.ext m.ext)) ?_
   clear m; rintro v u m rfl
   simp only [ev,zD,zE,zF,zG]
   refine malloc m zero_34 rfl ?_
   clear m; intro g5 u m
   simp only [ev,zD,zE,zF,zG]
   refine mstoreA m 0 rfl rfl rfl cells_34 (leT rfl) rfl ?_
   clear m; intro u m; simp only [over,zH,zI,zJ,zK,zL,zM,zN,zO,zP,zF,zG,Nat.reduceAdd] at m
   refine n_nil (k9 _ _ ?_)
   refine c_seq fun K10 k10=>?_
   rcases Nat.eq_zero_or_pos k with hk0 | hk0
   ·
    have hq : farq x (ts.take (k + 1)) = triq x t:=by subst hk0; exact farq_one ht
    refine wp_region_lit (n_val (r_move) ?_)
    simp only [ev,zD,zE,zF,zG]
    refine n_val (r_eqlT rfl rfl (by omega)) (n_val (r_move) (n_skipF rfl (n_skipF rfl ?_)))
    simp only [ev,zD,zE,zF,zG]
    refine n_skipF rfl (n_skipF rfl (n_val (r_pickT rfl) (n_nil (k10 _ _ ?_))))
    refine c_yes rfl (wp_region_lit ?_)
    simp only [ev,zD,zE,zF,zG]
    refine n_load rfl ((m.b 0 rfl).full agg_34 cells_34) ?_
    simp only [ev,zD,zE,zF,zG]
    refine mstoreA m 2 rfl rfl rfl cells_34 (leT rfl) rfl ?_
    clear m; intro u m; simp only [over,zH,zI,zJ,zK,zL,zM,zN,zO,zP,zF,zG,Nat.reduceAdd] at m
    refine n_nil (k7 _ _ ?_)
    refine wp_region_lit (n_val (r_add rfl rfl (wrap_i64 (by omega) (by omega))) (n_val (r_move) (n_nil ?_)))
    simp only [ev,zD,zE,zF,zG]
    simp only [Exit.inBlock,Exit.then]
    refine ⟨N - (k + 1),_,?_,rfl,?_,?_⟩
    · omega
    · simp only [zQ,zR,zD,zE,setG_cons,setG_nil,setMany_cons,setMany_nil,zF,zG]
    ·
     simp only [zQ,zR,zD,zE]
     exact ⟨k + 1,rfl,((m.re 2 rfl (by rw [hq]; exact (m.b 2 rfl))).sel [false,false,true,true]),by omega,rfl⟩
   ·
    refine wp_region_lit (n_val (r_move) ?_)
    simp only [ev,zD,zE,zF,zG]
    refine n_val (r_eqlF rfl rfl (by omega)) (n_val (r_move) (n_want rfl ?_))
    simp only [ev,zD,zE,zF,zG]
    refine n_load rfl ((m.b 0 rfl).full agg_34 cells_34) ?_
    simp only [ev,zD,zE,zF,zG]
    refine n_want rfl (n_load rfl ((m.b 2 rfl).full agg_34 cells_34) ?_)
    simp only [ev,zD,zE,zF,zG]
    refine n_want rfl (mcallP m rfl rfl (CmpFrac_c Bq.up (Bq.mono (farq_bq (fun u hu=>hT.it u (List.mem_of_mem_take hu))) (by decide))) ?_)
    clear m; intro u m
    refine n_want rfl (n_val (r_lss rfl rfl) (n_val (r_pickF rfl) (n_nil (k10 _ _ ?_))))
    simp only [ev,zD,zE,zF,zG]
    refine c_if rfl (fun hc2=>?_) (fun hc2=>?_)
    ·
     have hq:=(farq_step (x:=x) (by omega) ht).trans (if_pos (qcmp_lt.1 hc2))
     refine wp_region_lit (n_load rfl ((m.b 0 rfl).full agg_34 cells_34) ?_)
     simp only [ev,zD,zE,zF,zG]
     refine mstoreA m 2 rfl rfl rfl cells_34 (leT rfl) rfl ?_
     clear m; intro u m; simp only [over,zH,zI,zJ,zK,zL,zM,zN,zO,zP,zF,zG,Nat.reduceAdd] at m
     refine n_nil (k7 _ _ ?_)
     refine wp_region_lit (n_val (r_add rfl rfl (wrap_i64 (by omega) (by omega))) (n_val (r_move) (n_nil ?_)))
     simp only [ev,zD,zE,zF,zG]
     simp only [Exit.inBlock,Exit.then]
     refine ⟨N - (k + 1),_,?_,rfl,?_,?_⟩
     · omega
     · simp only [zQ,zR,zD,zE,setG_cons,setG_nil,setMany_cons,setMany_nil,zF,zG]
     ·
      simp only [zQ,zR,zD,zE]
      exact ⟨k + 1,rfl,((m.re 2 rfl (by rw [hq]; exact (m.b 2 rfl))).sel [false,false,true,true]),by omega,rfl⟩
    ·
     have hq:=(farq_step (x:=x) (by omega) ht).trans (if_neg (mt qcmp_lt.2 hc2))
     refine wp_skip (k7 _ _ ?_)
     refine wp_region_lit (n_val (r_add rfl rfl (wrap_i64 (by omega) (by omega))) (n_val (r_move) (n_nil ?_)))
     simp only [ev,zD,zE,zF,zG]
     simp only [Exit.inBlock,Exit.then]
     refine ⟨N - (k + 1),_,?_,rfl,?_,?_⟩
     · omega
     · simp only [zQ,zR,zD,zE,setG_cons,setG_nil,setMany_cons,setMany_nil,zF,zG]
     ·
      simp only [zQ,zR,zD,zE]
      exact ⟨k + 1,rfl,((m.re 2 rfl (by rw [hq]; exact (m.b 2 rfl))).sel [false,false,true,true]),by omega,rfl⟩
  ·
   have hkN : k = N:=by omega
   rw [hkN,show ts.take N = ts from List.take_of_length_le (by rw [hT.len]; exact Nat.le_refl _)] at m
   refine wp_exit (k3 _ _ ?_)
   refine c_seq fun K11 k11=>wp_region_lit (n_load rfl ((m.b 0 rfl).full agg_34 cells_34) ?_)
   simp only [ev,zD,zE,zF,zG]
   refine n_val (r_move) (n_val (r_lenS rfl Tryz.underlying24 rfl) (n_val (r_gtr rfl rfl) ?_))
   simp only [ev,zD,zE,zF,zG]
   refine mstoreA m 1 rfl rfl rfl cells_34 (leT rfl) rfl ?_
   clear m; intro u m; simp only [over,zH,zI,zJ,zK,zL,zM,zN,zO,zP,zF,zG,Nat.reduceAdd] at m
   refine n_val (r_assign) (n_nil (k11 _ _ ?_))
   refine wp_ret ?_
   simp only [ev,zD,zE,zF,zG]
   try simp only [Exit.inBlock,Exit.then,if_true]
   refine fin2 rfl ⟨_,rfl,((m.b 1 rfl).full agg_34 cells_34)⟩ rfl ?_
   try simp only [zD,zE]
   exact ⟨_,rfl,m.ext,rfl⟩
theorem Far2_c {x : P3} {ts : List T3} [I3 x] {N cap : Nat} {A : Option Addr} (w : World) (hT : TrisAt w A N ts) (hN : N < 4611686018427387904) : Does Tryz.prog 12 [pt x,.slice A N cap] w (fun v _=>v = .tuple #[Q (farq x ts),.bool (decide ((0 : Int) < (N : Int)))]):=by
 refine ⟨en_12,?_⟩
 have m:=Mem.refl w
 go_enter Tryz.func12,Tryz.ntmps12
 refine c_seq fun K1 k1=>wp_region_lit (mboxA m rfl ?_)
 clear m; intro g1 u m
 simp only [ev,zD,zE,zF,zG]
 refine malloc m zero_34 rfl ?_
 clear m; intro g2 u m
 refine n_val (r_assign) (n_nil (k1 _ _ ?_))
 refine c_seq fun K2 k2=>wp_region_lit (n_val (r_move) ?_)
 simp only [ev,zD,zE,zF,zG]
 refine n_val (r_makeFunc) ?_
 simp only [ev,zD,zE,zF,zG,List.map_toArray,List.map_cons,List.map_nil]
 refine mcall m rfl rfl (least_c _ (m.b 1 rfl) (hT.ext m.ext) hN) ?_
 clear m; rintro v u m rfl
 refine n_val (r_extract rfl rfl) (n_val (r_extract rfl rfl) ?_)
 simp only [ev,zD,zE,zF,zG]
 refine mstoreA m 0 rfl rfl rfl cells_34 (leT rfl) rfl ?_
 clear m; intro u m; simp only [over,zH,zI,zJ,zK,zL,zM,zN,zO,zP,zF,zG,Nat.reduceAdd] at m
 refine n_val (r_assign) (n_nil (k2 _ _ ?_))
 refine wp_ret ?_
 simp only [ev,zD,zE,zF,zG]
 try simp only [Exit.inBlock,Exit.then,if_true]
 refine fin2 rfl ⟨_,rfl,((m.b 0 rfl).full agg_34 cells_34)⟩ rfl ?_
 try simp only [zD,zE]
 exact ⟨_,rfl,m.ext,rfl⟩
end Go.Proofs.YtmcgcnpgkkfkoaaGreatDoor
namespace Go.Proofs.YtmcgcnpgkkfkoaaGreatDoor
open Go.RowKit Go.Lith
set_option maxRecDepth 100000
attribute [local irreducible] wpList wpQuiet wpMix wpMixH wpTree Code.wp
theorem Area_c {ts : List T3} {N cap : Nat} {A : Option Addr} (w : World) (hT : TrisAt w A N ts) (hN : N < 4611686018427387904) : Does Tryz.prog 14 [.slice A N cap] w (fun v _=>v = .tuple #[W (sumT lowA ts),W (sumT highA ts)]):=by
 refine ⟨en_14,?_⟩
 have m:=Mem.refl w
 go_enter Tryz.func14,Tryz.ntmps14
 refine c_seq fun K1 k1=>wp_region_lit (malloc m zero_32 rfl ?_)
 clear m; intro g1 u m
 simp only [ev,zD,zE,zF,zG]
 refine malloc m zero_32 rfl ?_
 clear m; intro g2 u m
 refine n_nil (k1 _ _ ?_)
 refine c_seq fun K2 k2=>c_seq fun K3 k3=>wp_region_lit (n_val (r_move) (n_val (r_lenS rfl Tryz.underlying24 rfl) (n_val (r_move) ?_)))
 simp only [ev,zD,zE,zF,zG]
 refine n_nil (k3 _ _ ?_)
 refine wp_block ?_
 try simp only [Nat.zero_add,Nat.reduceAdd,Nat.reduceMul,Int.reduceToNat]
 refine c_loopg [12] [5,6,7,8,9,13,14,15,16,17,18,19,20,21,22,23,24,25,26,27,28,29,30,31,32,33,34,35,36,37,38,39,40] (fun n vs wl=>∃ (k : Nat),vs = [.int .i64 (k:Int)] ∧ Mem w wl [bI g2 [.bool (wneg (sumT highA (ts.take k))),.string (wmag (sumT highA (ts.take k)))] 32,bI g1 [.bool (wneg (sumT lowA (ts.take k))),.string (wmag (sumT lowA (ts.take k)))] 32] ∧ (k ≤ N) ∧ (n = N - k)) ?_ ?_
 ·
  apply Exists.intro
  simp only [zQ,zR,zD,zE]
  exact ⟨0,rfl,m,Nat.zero_le _,rfl⟩
 ·
  intro n vs wr hI u
  clear m
  obtain ⟨k,rfl,m,hk,hn⟩:=hI
  simp only [setG_cons,setG_nil,setMany_cons,setMany_nil,zF,zG]
  refine c_seq fun K4 k4=>wp_region_lit (n_val (r_lss rfl rfl) (n_nil (k4 _ _ ?_)))
  refine c_seq fun K5 k5=>?_
  simp only [ev,zD,zE,zF,zG]
  refine c_if rfl (fun hc1=>?_) (fun hc1=>?_)
  ·
   obtain ⟨t,ht,_,a,rfl,hrow⟩:=hT.get (i:=k) (by omega)
   haveI : Bw 364 (sumT lowA (ts.take k)):=⟨sumT_bdt (m:=300) (fun u hu=>by haveI:=hT.it u hu; exact lowA_bd) (by rw [hT.len]; omega)⟩
   haveI : Bw 365 (sumT highA (ts.take k)):=⟨sumT_bdt (m:=301) (fun u hu=>by haveI:=hT.it u hu; exact highA_bd) (by rw [hT.len]; omega)⟩
   refine wp_skip (k5 _ _ ?_)
   refine c_seq fun K6 k6=>wp_block (c_seq fun K7 k7=>wp_region_lit (n_val (r_indexAddrS Tryz.underlying24 cells_59 rfl rfl (by omega) (by omega) (addrN (Int.toNat_natCast _))) ?_))
   simp only [ev,zD,zE,zF,zG]
   refine n_load rfl ((hrow.ext m.ext).lies agg_59 cells_59) ?_
   simp only [ev,zD,zE,zF,zG]
   refine malloc m zero_59 rfl ?_
   clear m; intro g3 u m
   simp only [ev,zD,zE,zF,zG]
   refine mstoreA m 0 rfl rfl rfl cells_59 (leT rfl) rfl ?_
   clear m; intro u m; simp only [over,zH,zI,zJ,zK,zL,zM,zN,zO,zP,zF,zG,Nat.reduceAdd] at m
   refine n_nil (k7 _ _ ?_)
   refine c_seq fun K8 k8=>wp_region_lit (n_load rfl ((m.b 0 rfl).full agg_59 cells_59) ?_)
   simp only [ev,zD,zE,zF,zG]
   refine mcallP m rfl rfl (Normal_c (t:=t)) ?_
   clear m; intro u m
   simp only [ev,zD,zE,zF,zG]
   refine malloc m zero_76 rfl ?_
   clear m; intro g4 u m
   simp only [ev,zD,zE,zF,zG]
   refine mstoreA m 0 rfl rfl rfl cells_76 (leT rfl) rfl ?_
   clear m; intro u m; simp only [over,zH,zI,zJ,zK,zL,zM,zN,zO,zP,zF,zG,Nat.reduceAdd] at m
   refine n_nil (k8 _ _ ?_)
   refine c_seq fun K9 k9=>wp_region_lit (n_load rfl ((m.b 0 rfl).full agg_76 cells_76) ?_)
   simp only [ev,zD,zE,zF,zG]
   refine n_load rfl ((m.b 0 rfl).full agg_76 cells_76) ?_
   simp only [ev,zD,zE,zF,zG]
   refine mcallP m rfl rfl (mDot_c Bv.of Bv.of) ?_
   clear m; intro u m
   simp only [ev,zD,zE,zF,zG]
   refine malloc m zero_32 rfl ?_
   clear m; intro g5 u m
   simp only [ev,zD,zE,zF,zG]
   refine mstoreA m 0 rfl rfl rfl cells_32 (leT rfl) rfl ?_
   clear m; intro u m; simp only [over,zH,zI,zJ,zK,zL,zM,zN,zO,zP,zF,zG,Nat.reduceAdd] at m
   refine n_nil (k9 _ _ ?_)
   refine c_seq fun K10 k10=>wp_region_lit (n_load rfl ((m.b 0 rfl).full agg_32 cells_32) ?_)
   simp only [ev,zD,zE,zF,zG]
   refine mcallP m rfl rfl (Root_c Bw.up (dot_nn _)) ?_
   clear m; intro u m
   refine n_val (r_move) (n_val (r_extract rfl rfl) (n_val (r_extract rfl rfl) ?_))
   simp only [ev,zD,zE,zF,zG]
   refine malloc m zero_32 rfl ?_
   clear m; intro g6 u m
   simp only [ev,zD,zE,zF,zG]
   refine mstoreA m 0 rfl rfl rfl cells_32 (leT rfl) rfl ?_
   clear m; intro u m; simp only [over,zH,zI,zJ,zK,zL,zM,zN,zO,zP,zF,zG,Nat.reduceAdd] at m
   refine n_val (r_assign) (n_nil ?_)
   simp only [ev,zD,zE,zF,zG]
   rw [show ((isqrt (t.normal.dot t.normal).natAbs : Nat) : Int) = lowA t from rfl] at m ⊢
   refine k10 _ _ ?_
   refine c_seq fun K11 k11=>?_
   refine mq_tail m 6 follows_mixed (by kernel_rfl) ?_
   simp only [zH,zI,zJ,zK]
   refine ql rfl (fun u m=>((m.b 5 rfl).full agg_32 cells_32)) ?_
   simp only [ev,zD,zE,zF,zG]
   refine ql rfl (fun u m=>((m.b 0 rfl).full agg_32 cells_32)) ?_
   simp only [ev,zD,zE,zF,zG]
   refine qcP rfl rfl (Add_c Bw.up Bw.up) ?_
   simp only [ev,zD,zE,zF,zG]
   refine ql rfl (fun u m=>((m.b 4 rfl).full agg_32 cells_32)) ?_
   simp only [ev,zD,zE,zF,zG]
   refine ql rfl (fun u m=>((m.b 0 rfl).full agg_32 cells_32)) ?_
   simp only [ev,zD,zE,zF,zG]
   refine qcP rfl rfl (Add_c Bw.up Bw.up) (q_nil ?_)
   clear m; intro u m
   simp only [ev,zD,zE,zF,zG]
   refine mstoreA m 5 rfl rfl rfl cells_32 (leT rfl) rfl ?_
   clear m; intro u m; simp only [over,zH,zI,zJ,zK,zL,zM,zN,zO,zP,zF,zG,Nat.reduceAdd] at m
   refine mstoreA m 4 rfl rfl rfl cells_32 (leT rfl) rfl ?_
   clear m; intro u m; simp only [over,zH,zI,zJ,zK,zL,zM,zN,zO,zP,zF,zG,Nat.reduceAdd] at m
   refine n_nil (k11 _ _ ?_)
   refine c_seq fun K12 k12=>mq m follows_mixed (by kernel_rfl) (ql rfl (fun u m=>((m.b 0 rfl).full agg_32 cells_32)) ?_)
   simp only [ev,zD,zE,zF,zG]
   refine ql rfl (fun u m=>((m.b 0 rfl).full agg_32 cells_32)) ?_
   simp only [ev,zD,zE,zF,zG]
   refine qcP rfl rfl (Mul_c Bw.up Bw.up) ?_
   simp only [ev,zD,zE,zF,zG]
   refine ql rfl (fun u m=>((m.b 1 rfl).full agg_32 cells_32)) ?_
   simp only [ev,zD,zE,zF,zG]
   refine q_val (eq_neq_32 rfl rfl) (q_nil ?_)
   clear m; intro u m
   refine k12 _ _ ?_
   simp only [ev,zD,zE,zF,zG]
   refine c_if rfl (fun hc2=>?_) (fun hc2=>?_)
   ·
    have hh:=(sumT_step (f:=highA) ht).trans (highA_ne fun e=>hc2 (W_eq_iff.2 e))
    refine mq_tail m 3 follows_mixed (by kernel_rfl) ?_
    simp only [zH,zI,zJ,zK]
    refine ql rfl (fun u m=>((m.b 4 rfl).full agg_32 cells_32)) ?_
    simp only [ev,zD,zE,zF,zG]
    refine qcP rfl rfl (From_c Iw.h) ?_
    simp only [ev,zD,zE,zF,zG]
    refine qcP rfl rfl (Add_c Bw.up Bw.up) (q_nil ?_)
    clear m; intro u m
    simp only [ev,zD,zE,zF,zG]
    refine mstoreA m 4 rfl rfl rfl cells_32 (leT rfl) rfl ?_
    clear m; intro u m; simp only [over,zH,zI,zJ,zK,zL,zM,zN,zO,zP,zF,zG,Nat.reduceAdd] at m
    refine n_nil (k6 _ _ ?_)
    refine wp_region_lit (n_val (r_add rfl rfl (wrap_i64 (by omega) (by omega))) (n_val (r_move) (n_nil ?_)))
    simp only [ev,zD,zE,zF,zG]
    simp only [Exit.inBlock,Exit.then]
    refine ⟨N - (k + 1),_,?_,rfl,?_,?_⟩
    · omega
    · simp only [zQ,zR,zD,zE,setG_cons,setG_nil,setMany_cons,setMany_nil,zF,zG]
    ·
     simp only [zQ,zR,zD,zE]
     exact ⟨k + 1,rfl,(((m.re 5 rfl (by rw [sumT_step ht]; exact (m.b 5 rfl))).re 4 rfl (by rw [hh]; exact (m.b 4 rfl))).sel [false,false,false,false,true,true]),by omega,rfl⟩
   ·
    have hh:=(sumT_step (f:=highA) ht).trans (highA_eq (W_eq_iff.1 (Decidable.of_not_not hc2)))
    refine wp_skip (k6 _ _ ?_)
    refine wp_region_lit (n_val (r_add rfl rfl (wrap_i64 (by omega) (by omega))) (n_val (r_move) (n_nil ?_)))
    simp only [ev,zD,zE,zF,zG]
    simp only [Exit.inBlock,Exit.then]
    refine ⟨N - (k + 1),_,?_,rfl,?_,?_⟩
    · omega
    · simp only [zQ,zR,zD,zE,setG_cons,setG_nil,setMany_cons,setMany_nil,zF,zG]
    ·
     simp only [zQ,zR,zD,zE]
     exact ⟨k + 1,rfl,(((m.re 5 rfl (by rw [sumT_step ht]; exact (m.b 5 rfl))).re 4 rfl (by rw [hh]; exact (m.b 4 rfl))).sel [false,false,false,false,true,true]),by omega,rfl⟩
  ·
   have hkN : k = N:=by omega
   rw [hkN,show ts.take N = ts from List.take_of_length_le (by rw [hT.len]; exact Nat.le_refl _)] at m
   refine wp_exit (k2 _ _ ?_)
   refine c_seq fun K13 k13=>?_
   refine mtree m [false,false] (.two 0 (.two 1 (.one 2 (.one 3 .nil)) 2 (.one 1 (.one 3 .nil))) 1 (.one 0 (.one 2 (.one 3 .nil)))) follows_mixed (by kernel_rfl) (panic_put (fun _ _ _ _ _ h=>h)) ?_
   clear m; intro u m
   refine t_two (by simp only [zS,zT,zU,zV]; rfl) (by simp only [zS,zT,zU,zV]; rfl) ?_ ?_
   ·
    refine n_load rfl ((m.b 1 rfl).full agg_32 cells_32) ?_
    simp only [ev,zD,zE,zF,zG]
    refine n_nil ?_
    refine ⟨m.sel [false,false],?_⟩
    refine t_two (by simp only [zS,zT,zU,zV]; rfl) (by simp only [zS,zT,zU,zV]; rfl) ?_ ?_
    ·
     refine n_load rfl ((m.b 0 rfl).full agg_32 cells_32) ?_
     simp only [ev,zD,zE,zF,zG]
     refine n_nil ?_
     refine ⟨m.sel [false,false],?_⟩
     refine t_one (by simp only [zS,zT,zU,zV]; rfl) (mstoreA m 1 rfl rfl rfl cells_32 (leT rfl) rfl ?_)
     clear m; intro u m; simp only [over,zH,zI,zJ,zK,zL,zM,zN,zO,zP,zF,zG,Nat.reduceAdd] at m
     refine n_nil ?_
     refine ⟨m.sel [false,false],?_⟩
     refine t_one (by simp only [zS,zT,zU,zV]; rfl) (mstoreA m 0 rfl rfl rfl cells_32 (leT rfl) rfl ?_)
     clear m; intro u m; simp only [over,zH,zI,zJ,zK,zL,zM,zN,zO,zP,zF,zG,Nat.reduceAdd] at m
     refine n_nil ?_
     refine ⟨m.sel [false,false],?_⟩
     refine t_nil (k13 _ _ ?_)
     refine wp_ret ?_
     try simp only [Exit.inBlock,Exit.then,if_true]
     refine fin2 rfl ⟨_,rfl,((m.b 1 rfl).full agg_32 cells_32)⟩ ⟨_,rfl,((m.b 0 rfl).full agg_32 cells_32)⟩ ?_
     try simp only [zD,zE]
     exact ⟨_,rfl,m.ext,rfl⟩
    ·
     refine mstoreA m 1 rfl rfl rfl cells_32 (leT rfl) rfl ?_
     clear m; intro u m; simp only [over,zH,zI,zJ,zK,zL,zM,zN,zO,zP,zF,zG,Nat.reduceAdd] at m
     refine n_nil ?_
     refine ⟨m.sel [false,false],?_⟩
     refine t_one (by simp only [zS,zT,zU,zV]; rfl) (n_load rfl ((m.b 0 rfl).full agg_32 cells_32) ?_)
     simp only [ev,zD,zE,zF,zG]
     refine n_nil ?_
     refine ⟨m.sel [false,false],?_⟩
     refine t_one (by simp only [zS,zT,zU,zV]; rfl) (mstoreA m 0 rfl rfl rfl cells_32 (leT rfl) rfl ?_)
     clear m; intro u m; simp only [over,zH,zI,zJ,zK,zL,zM,zN,zO,zP,zF,zG,Nat.reduceAdd] at m
     refine n_nil ?_
     refine ⟨m.sel [false,false],?_⟩
     refine t_nil (k13 _ _ ?_)
     refine wp_ret ?_
     try simp only [Exit.inBlock,Exit.then,if_true]
     refine fin2 rfl ⟨_,rfl,((m.b 1 rfl).full agg_32 cells_32)⟩ ⟨_,rfl,((m.b 0 rfl).full agg_32 cells_32)⟩ ?_
     try simp only [zD,zE]
     exact ⟨_,rfl,m.ext,rfl⟩
   ·
    refine n_load rfl ((m.b 0 rfl).full agg_32 cells_32) ?_
    simp only [ev,zD,zE,zF,zG]
    refine n_nil ?_
    refine ⟨m.sel [false,false],?_⟩
    refine t_one (by simp only [zS,zT,zU,zV]; rfl) (n_load rfl ((m.b 1 rfl).full agg_32 cells_32) ?_)
    simp only [ev,zD,zE,zF,zG]
    refine n_nil ?_
    refine ⟨m.sel [false,false],?_⟩
    refine t_one (by simp only [zS,zT,zU,zV]; rfl) (mstoreA m 1 rfl rfl rfl cells_32 (leT rfl) rfl ?_)
    clear m; intro u m; simp only [over,zH,zI,zJ,zK,zL,zM,zN,zO,zP,zF,zG,Nat.reduceAdd] at m
    refine n_nil ?_
    refine ⟨m.sel [false,false],?_⟩
    refine t_one (by simp only [zS,zT,zU,zV]; rfl) (mstoreA m 0 rfl rfl rfl cells_32 (leT rfl) rfl ?_)
    clear m; intro u m; simp only [over,zH,zI,zJ,zK,zL,zM,zN,zO,zP,zF,zG,Nat.reduceAdd] at m
    refine n_nil ?_
    refine ⟨m.sel [false,false],?_⟩
    refine t_nil (k13 _ _ ?_)
    refine wp_ret ?_
    try simp only [Exit.inBlock,Exit.then,if_true]
    refine fin2 rfl ⟨_,rfl,((m.b 1 rfl).full agg_32 cells_32)⟩ ⟨_,rfl,((m.b 0 rfl).full agg_32 cells_32)⟩ ?_
    try simp only [zD,zE]
    exact ⟨_,rfl,m.ext,rfl⟩
theorem prod3_c {x y z : Int} [Iw x] [Iw y] [Iw z] : Pure Tryz.prog 125 [.int .i64 x,.int .i64 y,.int .i64 z] (W (x * (y * z))):=by
 intro w
 refine ⟨en_125,?_⟩
 have m:=Mem.refl w
 go_enter Tryz.func125,Tryz.ntmps125
 refine c_seq fun K1 k1=>wp_region_lit (malloc m zero_32 rfl ?_)
 clear m; intro g1 u m
 refine n_nil (k1 _ _ ?_)
 refine c_seq fun K2 k2=>wp_region_lit (n_val (r_move) ?_)
 simp only [ev,zD,zE,zF,zG]
 refine mcallP m rfl rfl (From_c Iw.h) ?_
 clear m; intro u m
 refine n_val (r_move) ?_
 simp only [ev,zD,zE,zF,zG]
 refine mcallP m rfl rfl (From_c Iw.h) ?_
 clear m; intro u m
 refine n_val (r_move) ?_
 simp only [ev,zD,zE,zF,zG]
 refine mcallP m rfl rfl (From_c Iw.h) ?_
 clear m; intro u m
 simp only [ev,zD,zE,zF,zG]
 refine mcallP m rfl rfl (Mul_c Bw.up Bw.up) ?_
 clear m; intro u m
 simp only [ev,zD,zE,zF,zG]
 refine mcallP m rfl rfl (Mul_c Bw.up Bw.up) ?_
 clear m; intro u m
 simp only [ev,zD,zE,zF,zG]
 refine mstoreA m 0 rfl rfl rfl cells_32 (leT rfl) rfl ?_
 clear m; intro u m; simp only [over,zH,zI,zJ,zK,zL,zM,zN,zO,zP,zF,zG,Nat.reduceAdd] at m
 refine n_nil (k2 _ _ ?_)
 refine wp_ret ?_
 try simp only [Exit.inBlock,Exit.then,if_true]
 refine fin1 rfl ⟨_,rfl,((m.b 0 rfl).full agg_32 cells_32)⟩ ?_
 try simp only [zD,zE]
 exact ⟨_,rfl,m.ext,rfl⟩
theorem Volume6_c {ts : List T3} {N cap : Nat} {A : Option Addr} (w : World) (hT : TrisAt w A N ts) (hN : N < 4611686018427387904) : Does Tryz.prog 64 [.slice A N cap] w (fun v _=>v = W (sumT det ts)):=by
 refine ⟨en_64,?_⟩
 have m:=Mem.refl w
 go_enter Tryz.func64,Tryz.ntmps64
 refine c_seq fun K1 k1=>wp_region_lit (malloc m zero_32 rfl ?_)
 clear m; intro g1 u m
 refine n_nil (k1 _ _ ?_)
 refine c_seq fun K2 k2=>wp_region_lit ?_
 simp only [ev,zD,zE,zF,zG]
 refine malloc m zero_32 rfl ?_
 clear m; intro g2 u m
 refine n_nil (k2 _ _ ?_)
 refine c_seq fun K3 k3=>wp_region_lit (n_val (r_assign) (n_nil (k3 _ _ ?_)))
 refine c_seq fun K4 k4=>c_seq fun K5 k5=>wp_region_lit (n_val (r_move) (n_val (r_lenS rfl Tryz.underlying24 rfl) ?_))
 simp only [ev,zD,zE,zF,zG]
 refine n_val (r_move) (n_nil (k5 _ _ ?_))
 refine wp_block ?_
 simp only [ev,zD,zE,zF,zG]
 try simp only [Nat.zero_add,Nat.reduceAdd,Nat.reduceMul,Int.reduceToNat]
 refine c_loopg [16] [6,7,8,9,11,13,17,18,19,20,21,22,23,24,25,26,27,28,29,30,31,32,33,34,35,36,37,38,39,40,41,42,43,44,45,46,47,48,49,50,51,52,53,54,55,56,57,58,59,60,61,62,63,64,65,66,67,68,69,70,71,72,73,74,75,76,77,78,79,80,81,82,83,84,85,86,87,88,89,90,91,92,93,94] (fun n vs wl=>∃ (k : Nat),vs = [.int .i64 (k:Int)] ∧ Mem w wl [bI g2 [.bool (wneg (sumT det (ts.take k))),.string (wmag (sumT det (ts.take k)))] 32,bI g1 [.bool false,.string ⟨#[]⟩] 32] ∧ (k ≤ N) ∧ (n = N - k)) ?_ ?_
 ·
  apply Exists.intro
  simp only [zQ,zR,zD,zE]
  exact ⟨0,rfl,m,Nat.zero_le _,rfl⟩
 ·
  intro n vs wr hI u
  clear m
  obtain ⟨k,rfl,m,hk,hn⟩:=hI
  simp only [setG_cons,setG_nil,setMany_cons,setMany_nil,zF,zG]
  refine c_seq fun K6 k6=>wp_region_lit (n_val (r_lss rfl rfl) (n_nil (k6 _ _ ?_)))
  refine c_seq fun K7 k7=>?_
  simp only [ev,zD,zE,zF,zG]
  refine c_if rfl (fun hc1=>?_) (fun hc1=>?_)
  ·
   obtain ⟨t,ht,_,a,rfl,hrow⟩:=hT.get (i:=k) (by omega)
   haveI : Bw 264 (sumT det (ts.take k)):=⟨sumT_bdt (m:=200) (fun u hu=>by haveI:=hT.it u hu; exact det_bd) (by rw [hT.len]; omega)⟩
   refine wp_skip (k7 _ _ ?_)
   refine c_seq fun K8 k8=>wp_block (c_seq fun K9 k9=>wp_region_lit (n_val (r_indexAddrS Tryz.underlying24 cells_59 rfl rfl (by omega) (by omega) (addrN (Int.toNat_natCast _))) ?_))
   simp only [ev,zD,zE,zF,zG]
   refine n_load rfl ((hrow.ext m.ext).lies agg_59 cells_59) ?_
   simp only [ev,zD,zE,zF,zG]
   refine malloc m zero_59 rfl ?_
   clear m; intro g3 u m
   simp only [ev,zD,zE,zF,zG]
   refine mstoreA m 0 rfl rfl rfl cells_59 (leT rfl) rfl ?_
   clear m; intro u m; simp only [over,zH,zI,zJ,zK,zL,zM,zN,zO,zP,zF,zG,Nat.reduceAdd] at m
   refine n_nil (k9 _ _ ?_)
   refine c_seq fun K10 k10=>?_
   apply mcut3 m (T1:=28) (T2:=28) (T3:=28)
   ·
    refine mtree m [true,true,true] (.take 0 (.take 1 (.take 2 (.take 3 (.take 4 (.take 5 (.three 6 (.two 7 (.one 8 (.one 9 (.one 10 (.one 11 .nil)))) 8 (.one 7 (.one 9 (.one 10 (.one 11 .nil))))) 7 (.two 6 (.one 8 (.one 9 (.one 10 (.one 11 .nil)))) 8 (.one 6 (.one 9 (.one 10 (.one 11 .nil))))) 8 (.two 6 (.one 7 (.one 9 (.one 10 (.one 11 .nil)))) 7 (.one 6 (.one 9 (.one 10 (.one 11 .nil)))))))))))) follows_mixed (by kernel_rfl) (fun _ _ _ _ _ h=>by cases h.1) ?_
    intro u m
    refine t_take (by simp only [zS,zT,zU,zV]; rfl) (h_val (r_indexAddrA Tryz.underlying59 cells_28 rfl rfl (by decide) (by decide) rfl) (h_nil (t_take (by simp only [zS,zT,zU,zV]; rfl) ?_)))
    simp only [ev,zD,zE,zF,zG]
    refine h_load rfl (fun u m=>((m.b 0 rfl).lies agg_28 cells_28 rfl rfl)) ?_
    simp only [ev,zD,zE,zF,zG,zH,zI,zJ,zK,Nat.zero_add,Nat.reduceAdd,Nat.reduceMul,Int.reduceToNat]
    refine h_nil (t_take (by simp only [zS,zT,zU,zV]; rfl) (h_val (r_indexAddrA Tryz.underlying59 cells_28 rfl rfl (by decide) (by decide) rfl) (h_nil (t_take (by simp only [zS,zT,zU,zV]; rfl) ?_))))
    simp only [ev,zD,zE,zF,zG]
    refine h_load rfl (fun u m=>((m.b 0 rfl).lies agg_28 cells_28 rfl rfl)) ?_
    simp only [ev,zD,zE,zF,zG,zH,zI,zJ,zK,Nat.zero_add,Nat.reduceAdd,Nat.reduceMul,Int.reduceToNat]
    refine h_nil (t_take (by simp only [zS,zT,zU,zV]; rfl) (h_val (r_indexAddrA Tryz.underlying59 cells_28 rfl rfl (by decide) (by decide) rfl) (h_nil (t_take (by simp only [zS,zT,zU,zV]; rfl) ?_))))
    simp only [ev,zD,zE,zF,zG]
    refine h_load rfl (fun u m=>((m.b 0 rfl).lies agg_28 cells_28 rfl rfl)) ?_
    simp only [ev,zD,zE,zF,zG,zH,zI,zJ,zK,Nat.zero_add,Nat.reduceAdd,Nat.reduceMul,Int.reduceToNat]
    refine h_nil ?_
    refine t_three (by simp only [zS,zT,zU,zV]; rfl) (by simp only [zS,zT,zU,zV]; rfl) (by simp only [zS,zT,zU,zV]; rfl) ?_ ?_ ?_
    ·
     refine malloc m zero_28 rfl ?_
     clear m; intro g4 u m
     refine n_nil ?_
     refine ⟨m.sel [false,true,true,true],?_⟩
     simp only [ev,zD,zE,zF,zG]
     refine t_two (by simp only [zS,zT,zU,zV]; rfl) (by simp only [zS,zT,zU,zV]; rfl) ?_ ?_
     ·
      refine malloc m zero_28 rfl ?_
      clear m; intro g5 u m
      refine n_nil ?_
      refine ⟨m.sel [false,false,true,true,true],?_⟩
      refine t_one (by simp only [zS,zT,zU,zV]; rfl) ?_
      simp only [ev,zD,zE,zF,zG]
      refine malloc m zero_28 rfl ?_
      clear m; intro g6 u m
      refine n_nil ?_
      refine ⟨m.sel [false,false,false,true,true,true],?_⟩
      refine t_one (by simp only [zS,zT,zU,zV]; rfl) ?_
      simp only [ev,zD,zE,zF,zG]
      refine mstoreA m 2 rfl rfl rfl cells_28 (leT rfl) rfl ?_
      clear m; intro u m; simp only [over,zH,zI,zJ,zK,zL,zM,zN,zO,zP,zF,zG,Nat.reduceAdd] at m
      refine n_nil ?_
      refine ⟨m.sel [false,false,false,true,true,true],?_⟩
      refine t_one (by simp only [zS,zT,zU,zV]; rfl) (mstoreA m 1 rfl rfl rfl cells_28 (leT rfl) rfl ?_)
      clear m; intro u m; simp only [over,zH,zI,zJ,zK,zL,zM,zN,zO,zP,zF,zG,Nat.reduceAdd] at m
      refine n_nil ?_
      refine ⟨m.sel [false,false,false,true,true,true],?_⟩
      refine t_one (by simp only [zS,zT,zU,zV]; rfl) (mstoreA m 0 rfl rfl rfl cells_28 (leT rfl) rfl ?_)
      clear m; intro u m; simp only [over,zH,zI,zJ,zK,zL,zM,zN,zO,zP,zF,zG,Nat.reduceAdd] at m
      refine n_nil ?_
      refine ⟨m.sel [false,false,false,true,true,true],?_⟩
      refine t_nil ?_
      exact ⟨rfl,g4,g5,g6,rfl,m⟩
     ·
      refine malloc m zero_28 rfl ?_
      clear m; intro g5 u m
      refine n_nil ?_
      refine ⟨m.sel [false,false,true,true,true],?_⟩
      refine t_one (by simp only [zS,zT,zU,zV]; rfl) ?_
      simp only [ev,zD,zE,zF,zG]
      refine malloc m zero_28 rfl ?_
      clear m; intro g6 u m
      refine n_nil ?_
      refine ⟨m.sel [false,false,false,true,true,true],?_⟩
      refine t_one (by simp only [zS,zT,zU,zV]; rfl) ?_
      simp only [ev,zD,zE,zF,zG]
      refine mstoreA m 2 rfl rfl rfl cells_28 (leT rfl) rfl ?_
      clear m; intro u m; simp only [over,zH,zI,zJ,zK,zL,zM,zN,zO,zP,zF,zG,Nat.reduceAdd] at m
      refine n_nil ?_
      refine ⟨m.sel [false,false,false,true,true,true],?_⟩
      refine t_one (by simp only [zS,zT,zU,zV]; rfl) (mstoreA m 0 rfl rfl rfl cells_28 (leT rfl) rfl ?_)
      clear m; intro u m; simp only [over,zH,zI,zJ,zK,zL,zM,zN,zO,zP,zF,zG,Nat.reduceAdd] at m
      refine n_nil ?_
      refine ⟨m.sel [false,false,false,true,true,true],?_⟩
      refine t_one (by simp only [zS,zT,zU,zV]; rfl) (mstoreA m 1 rfl rfl rfl cells_28 (leT rfl) rfl ?_)
      clear m; intro u m; simp only [over,zH,zI,zJ,zK,zL,zM,zN,zO,zP,zF,zG,Nat.reduceAdd] at m
      refine n_nil ?_
      refine ⟨m.sel [false,false,false,true,true,true],?_⟩
      refine t_nil ?_
      exact ⟨rfl,g4,g6,g5,rfl,m.s01⟩
    ·
     refine malloc m zero_28 rfl ?_
     clear m; intro g4 u m
     refine n_nil ?_
     refine ⟨m.sel [false,true,true,true],?_⟩
     simp only [ev,zD,zE,zF,zG]
     refine t_two (by simp only [zS,zT,zU,zV]; rfl) (by simp only [zS,zT,zU,zV]; rfl) ?_ ?_
     ·
      refine malloc m zero_28 rfl ?_
      clear m; intro g5 u m
      refine n_nil ?_
      refine ⟨m.sel [false,false,true,true,true],?_⟩
      refine t_one (by simp only [zS,zT,zU,zV]; rfl) ?_
      simp only [ev,zD,zE,zF,zG]
      refine malloc m zero_28 rfl ?_
      clear m; intro g6 u m
      refine n_nil ?_
      refine ⟨m.sel [false,false,false,true,true,true],?_⟩
      refine t_one (by simp only [zS,zT,zU,zV]; rfl) ?_
      simp only [ev,zD,zE,zF,zG]
      refine mstoreA m 1 rfl rfl rfl cells_28 (leT rfl) rfl ?_
      clear m; intro u m; simp only [over,zH,zI,zJ,zK,zL,zM,zN,zO,zP,zF,zG,Nat.reduceAdd] at m
      refine n_nil ?_
      refine ⟨m.sel [false,false,false,true,true,true],?_⟩
      refine t_one (by simp only [zS,zT,zU,zV]; rfl) (mstoreA m 2 rfl rfl rfl cells_28 (leT rfl) rfl ?_)
      clear m; intro u m; simp only [over,zH,zI,zJ,zK,zL,zM,zN,zO,zP,zF,zG,Nat.reduceAdd] at m
      refine n_nil ?_
      refine ⟨m.sel [false,false,false,true,true,true],?_⟩
      refine t_one (by simp only [zS,zT,zU,zV]; rfl) (mstoreA m 0 rfl rfl rfl cells_28 (leT rfl) rfl ?_)
      clear m; intro u m; simp only [over,zH,zI,zJ,zK,zL,zM,zN,zO,zP,zF,zG,Nat.reduceAdd] at m
      refine n_nil ?_
      refine ⟨m.sel [false,false,false,true,true,true],?_⟩
      refine t_nil ?_
      exact ⟨rfl,g5,g4,g6,rfl,m.s12⟩
     ·
      refine malloc m zero_28 rfl ?_
      clear m; intro g5 u m
      refine n_nil ?_
      refine ⟨m.sel [false,false,true,true,true],?_⟩
      refine t_one (by simp only [zS,zT,zU,zV]; rfl) ?_
      simp only [ev,zD,zE,zF,zG]
      refine malloc m zero_28 rfl ?_
      clear m; intro g6 u m
      refine n_nil ?_
      refine ⟨m.sel [false,false,false,true,true,true],?_⟩
      refine t_one (by simp only [zS,zT,zU,zV]; rfl) ?_
      simp only [ev,zD,zE,zF,zG]
      refine mstoreA m 0 rfl rfl rfl cells_28 (leT rfl) rfl ?_
      clear m; intro u m; simp only [over,zH,zI,zJ,zK,zL,zM,zN,zO,zP,zF,zG,Nat.reduceAdd] at m
      refine n_nil ?_
      refine ⟨m.sel [false,false,false,true,true,true],?_⟩
      refine t_one (by simp only [zS,zT,zU,zV]; rfl) (mstoreA m 2 rfl rfl rfl cells_28 (leT rfl) rfl ?_)
      clear m; intro u m; simp only [over,zH,zI,zJ,zK,zL,zM,zN,zO,zP,zF,zG,Nat.reduceAdd] at m
      refine n_nil ?_
      refine ⟨m.sel [false,false,false,true,true,true],?_⟩
      refine t_one (by simp only [zS,zT,zU,zV]; rfl) (mstoreA m 1 rfl rfl rfl cells_28 (leT rfl) rfl ?_)
      clear m; intro u m; simp only [over,zH,zI,zJ,zK,zL,zM,zN,zO,zP,zF,zG,Nat.reduceAdd] at m
      refine n_nil ?_
      refine ⟨m.sel [false,false,false,true,true,true],?_⟩
      refine t_nil ?_
      exact ⟨rfl,g6,g4,g5,rfl,m.s01.s12⟩
    ·
     refine malloc m zero_28 rfl ?_
     clear m; intro g4 u m
     refine n_nil ?_
     refine ⟨m.sel [false,true,true,true],?_⟩
     simp only [ev,zD,zE,zF,zG]
     refine t_two (by simp only [zS,zT,zU,zV]; rfl) (by simp only [zS,zT,zU,zV]; rfl) ?_ ?_
     ·
      refine malloc m zero_28 rfl ?_
      clear m; intro g5 u m
      refine n_nil ?_
      refine ⟨m.sel [false,false,true,true,true],?_⟩
      refine t_one (by simp only [zS,zT,zU,zV]; rfl) ?_
      simp only [ev,zD,zE,zF,zG]
      refine malloc m zero_28 rfl ?_
      clear m; intro g6 u m
      refine n_nil ?_
      refine ⟨m.sel [false,false,false,true,true,true],?_⟩
      refine t_one (by simp only [zS,zT,zU,zV]; rfl) ?_
      simp only [ev,zD,zE,zF,zG]
      refine mstoreA m 1 rfl rfl rfl cells_28 (leT rfl) rfl ?_
      clear m; intro u m; simp only [over,zH,zI,zJ,zK,zL,zM,zN,zO,zP,zF,zG,Nat.reduceAdd] at m
      refine n_nil ?_
      refine ⟨m.sel [false,false,false,true,true,true],?_⟩
      refine t_one (by simp only [zS,zT,zU,zV]; rfl) (mstoreA m 0 rfl rfl rfl cells_28 (leT rfl) rfl ?_)
      clear m; intro u m; simp only [over,zH,zI,zJ,zK,zL,zM,zN,zO,zP,zF,zG,Nat.reduceAdd] at m
      refine n_nil ?_
      refine ⟨m.sel [false,false,false,true,true,true],?_⟩
      refine t_one (by simp only [zS,zT,zU,zV]; rfl) (mstoreA m 2 rfl rfl rfl cells_28 (leT rfl) rfl ?_)
      clear m; intro u m; simp only [over,zH,zI,zJ,zK,zL,zM,zN,zO,zP,zF,zG,Nat.reduceAdd] at m
      refine n_nil ?_
      refine ⟨m.sel [false,false,false,true,true,true],?_⟩
      refine t_nil ?_
      exact ⟨rfl,g5,g6,g4,rfl,m.s12.s01⟩
     ·
      refine malloc m zero_28 rfl ?_
      clear m; intro g5 u m
      refine n_nil ?_
      refine ⟨m.sel [false,false,true,true,true],?_⟩
      refine t_one (by simp only [zS,zT,zU,zV]; rfl) ?_
      simp only [ev,zD,zE,zF,zG]
      refine malloc m zero_28 rfl ?_
      clear m; intro g6 u m
      refine n_nil ?_
      refine ⟨m.sel [false,false,false,true,true,true],?_⟩
      refine t_one (by simp only [zS,zT,zU,zV]; rfl) ?_
      simp only [ev,zD,zE,zF,zG]
      refine mstoreA m 0 rfl rfl rfl cells_28 (leT rfl) rfl ?_
      clear m; intro u m; simp only [over,zH,zI,zJ,zK,zL,zM,zN,zO,zP,zF,zG,Nat.reduceAdd] at m
      refine n_nil ?_
      refine ⟨m.sel [false,false,false,true,true,true],?_⟩
      refine t_one (by simp only [zS,zT,zU,zV]; rfl) (mstoreA m 1 rfl rfl rfl cells_28 (leT rfl) rfl ?_)
      clear m; intro u m; simp only [over,zH,zI,zJ,zK,zL,zM,zN,zO,zP,zF,zG,Nat.reduceAdd] at m
      refine n_nil ?_
      refine ⟨m.sel [false,false,false,true,true,true],?_⟩
      refine t_one (by simp only [zS,zT,zU,zV]; rfl) (mstoreA m 2 rfl rfl rfl cells_28 (leT rfl) rfl ?_)
      clear m; intro u m; simp only [over,zH,zI,zJ,zK,zL,zM,zN,zO,zP,zF,zG,Nat.reduceAdd] at m
      refine n_nil ?_
      refine ⟨m.sel [false,false,false,true,true,true],?_⟩
      refine t_nil ?_
      exact ⟨rfl,g6,g5,g4,rfl,m.s01.s12.s01⟩
   intro g4 g5 g6 u m
   try dsimp only
   refine k10 _ _ ?_
   refine c_seq fun K11 k11=>c_seq fun K12 k12=>?_
   refine mh m [true,true,true,true,true,true] [(0,true),(1,true),(3,true),(5,true),(8,true),(9,true),(11,true),(13,true),(16,true),(17,true),(19,true),(21,true),(26,true),(2,true),(4,true),(6,true),(10,true),(12,true),(14,true),(18,true),(20,true),(22,true),(7,false),(15,false),(23,false),(24,false),(25,true)] follows_mixed (by kernel_rfl) (panic_put (fun _ _ _ _ _ h=>h)) (ol:=?_) ?hol ?_
   case hol=>simp only [zQ,zR,zS,zT,zU,zV]; try rfl
   clear m; intro u m
   refine h_val (r_move) (h_val (r_fieldAddr (c:=0) Tryz.underlying28 rfl cells_3 rfl rfl) (h_val (r_fieldAddr (c:=0) Tryz.underlying28 rfl cells_3 rfl rfl) (h_val (r_fieldAddr (c:=0) Tryz.underlying28 rfl cells_3 rfl rfl) ?_)))
   simp only [ev,zD,zE,zF,zG]
   refine h_val (r_move) (h_val (r_fieldAddr (c:=0) Tryz.underlying28 rfl cells_3 rfl rfl) (h_val (r_fieldAddr (c:=0) Tryz.underlying28 rfl cells_3 rfl rfl) (h_val (r_fieldAddr (c:=0) Tryz.underlying28 rfl cells_3 rfl rfl) ?_)))
   simp only [ev,zD,zE,zF,zG]
   refine h_val (r_move) (h_val (r_fieldAddr (c:=0) Tryz.underlying28 rfl cells_3 rfl rfl) (h_val (r_fieldAddr (c:=0) Tryz.underlying28 rfl cells_3 rfl rfl) (h_val (r_fieldAddr (c:=0) Tryz.underlying28 rfl cells_3 rfl rfl) ?_)))
   simp only [ev,zD,zE,zF,zG]
   refine h_val (r_move) ?_
   simp only [ev,zD,zE,zF,zG]
   refine h_load rfl (fun u m=>((m.b 2 rfl).lies1 agg_3 rfl)) ?_
   simp only [ev,zD,zE,zF,zG]
   refine h_load rfl (fun u m=>((m.b 1 rfl).lies1 agg_3 rfl)) ?_
   simp only [ev,zD,zE,zF,zG]
   refine h_load rfl (fun u m=>((m.b 0 rfl).lies1 agg_3 rfl)) ?_
   simp only [ev,zD,zE,zF,zG]
   refine h_load rfl (fun u m=>((m.b 2 rfl).lies1 agg_3 rfl)) ?_
   simp only [ev,zD,zE,zF,zG]
   refine h_load rfl (fun u m=>((m.b 1 rfl).lies1 agg_3 rfl)) ?_
   simp only [ev,zD,zE,zF,zG]
   refine h_load rfl (fun u m=>((m.b 0 rfl).lies1 agg_3 rfl)) ?_
   simp only [ev,zD,zE,zF,zG]
   refine h_load rfl (fun u m=>((m.b 2 rfl).lies1 agg_3 rfl)) ?_
   simp only [ev,zD,zE,zF,zG]
   refine h_load rfl (fun u m=>((m.b 1 rfl).lies1 agg_3 rfl)) ?_
   simp only [ev,zD,zE,zF,zG]
   refine h_load rfl (fun u m=>((m.b 0 rfl).lies1 agg_3 rfl)) ?_
   simp only [ev,zD,zE,zF,zG]
   refine h_step (mcallP m rfl rfl (prod3_c) ?_)
   clear m; intro u m
   refine n_nil ?_
   refine ⟨m,?_⟩
   refine h_step ?_
   simp only [ev,zD,zE,zF,zG]
   refine mcallP m rfl rfl (prod3_c) ?_
   clear m; intro u m
   refine n_nil ?_
   refine ⟨m,?_⟩
   refine h_step ?_
   simp only [ev,zD,zE,zF,zG]
   refine mcallP m rfl rfl (prod3_c) ?_
   clear m; intro u m
   refine n_nil ?_
   refine ⟨m,?_⟩
   refine h_step ?_
   simp only [ev,zD,zE,zF,zG]
   refine n_bs_156_3 rfl rfl rfl ?_
   intro u g7 e hg hB; replace m:=m.newB e hg hB; clear e hg hB
   refine n_nil ?_
   refine ⟨m.sel [false,true,true,true,true,true,true],?_⟩
   refine h_val (r_lenS rfl Tryz.underlying156 rfl) (h_nil (k12 _ _ ?_))
   refine wp_block (wp_loop_rounds 4 (rounds_step (c_seq fun K13 k13=>wp_region_lit (n_val (r_lssT (m:=0) (n:=3) rfl rfl (by decide)) (n_nil (k13 _ _ ?_))))))
   refine c_seq fun K14 k14=>c_yes rfl (wp_skip (k14 _ _ ?_))
   refine c_seq fun K15 k15=>wp_block (c_seq fun K16 k16=>wp_region_lit ?_)
   simp only [ev,zD,zE,zF,zG]
   refine n_val (r_indexAddrS Tryz.underlying156 cells_32 rfl rfl (by decide) (by omega) rfl) ?_
   simp only [ev,zD,zE,zF,zG]
   refine n_load rfl ((m.b 0 rfl).lies agg_32 cells_32 rfl rfl) ?_
   simp only [ev,zD,zE,zF,zG,zH,zI,zJ,zK,Nat.zero_add,Nat.reduceAdd,Nat.reduceMul,Int.reduceToNat]
   refine malloc m zero_32 rfl ?_
   clear m; intro g8 u m
   simp only [ev,zD,zE,zF,zG]
   refine mstoreA m 0 rfl rfl rfl cells_32 (leT rfl) rfl ?_
   clear m; intro u m; simp only [over,zH,zI,zJ,zK,zL,zM,zN,zO,zP,zF,zG,Nat.reduceAdd] at m
   refine n_nil (k16 _ _ ?_)
   refine wp_region_lit (n_load rfl ((m.b 6 rfl).full agg_32 cells_32) ?_)
   simp only [ev,zD,zE,zF,zG]
   refine n_load rfl ((m.b 0 rfl).full agg_32 cells_32) ?_
   simp only [ev,zD,zE,zF,zG]
   refine mcallP m rfl rfl (Add_c Bw.up Bw.up) ?_
   clear m; intro u m
   simp only [ev,zD,zE,zF,zG]
   refine mstoreA m 6 rfl rfl rfl cells_32 (leT rfl) rfl ?_
   clear m; intro u m; simp only [over,zH,zI,zJ,zK,zL,zM,zN,zO,zP,zF,zG,Nat.reduceAdd] at m
   refine n_nil (k15 _ _ ?_)
   refine wp_region_lit (n_val (r_add (m:=0) (n:=1) (r:=1) rfl rfl (by decide)) (n_val (r_move) (n_nil (then_rounds (c_seq fun K17 k17=>wp_region_lit (n_val (r_lssT (m:=1) (n:=3) rfl rfl (by decide)) (n_nil (k17 _ _ ?_))))))))
   refine c_seq fun K18 k18=>c_yes rfl (wp_skip (k18 _ _ ?_))
   refine c_seq fun K19 k19=>wp_block (c_seq fun K20 k20=>wp_region_lit ?_)
   simp only [ev,zD,zE,zF,zG]
   refine n_val (r_indexAddrS Tryz.underlying156 cells_32 rfl rfl (by decide) (by omega) rfl) ?_
   simp only [ev,zD,zE,zF,zG]
   refine n_load rfl ((m.b 1 rfl).lies agg_32 cells_32 rfl rfl) ?_
   simp only [ev,zD,zE,zF,zG,zH,zI,zJ,zK,Nat.zero_add,Nat.reduceAdd,Nat.reduceMul,Int.reduceToNat]
   refine malloc m zero_32 rfl ?_
   clear m; intro g9 u m
   simp only [ev,zD,zE,zF,zG]
   refine mstoreA m 0 rfl rfl rfl cells_32 (leT rfl) rfl ?_
   clear m; intro u m; simp only [over,zH,zI,zJ,zK,zL,zM,zN,zO,zP,zF,zG,Nat.reduceAdd] at m
   refine n_nil (k20 _ _ ?_)
   refine wp_region_lit (n_load rfl ((m.b 7 rfl).full agg_32 cells_32) ?_)
   simp only [ev,zD,zE,zF,zG]
   refine n_load rfl ((m.b 0 rfl).full agg_32 cells_32) ?_
   simp only [ev,zD,zE,zF,zG]
   refine mcallP m rfl rfl (Add_c Bw.up Bw.up) ?_
   clear m; intro u m
   simp only [ev,zD,zE,zF,zG]
   refine mstoreA m 7 rfl rfl rfl cells_32 (leT rfl) rfl ?_
   clear m; intro u m; simp only [over,zH,zI,zJ,zK,zL,zM,zN,zO,zP,zF,zG,Nat.reduceAdd] at m
   refine n_nil (k19 _ _ ?_)
   refine wp_region_lit (n_val (r_add (m:=1) (n:=1) (r:=2) rfl rfl (by decide)) (n_val (r_move) (n_nil (then_rounds (c_seq fun K21 k21=>wp_region_lit (n_val (r_lssT (m:=2) (n:=3) rfl rfl (by decide)) (n_nil (k21 _ _ ?_))))))))
   refine c_seq fun K22 k22=>c_yes rfl (wp_skip (k22 _ _ ?_))
   refine c_seq fun K23 k23=>wp_block (c_seq fun K24 k24=>wp_region_lit ?_)
   simp only [ev,zD,zE,zF,zG]
   refine n_val (r_indexAddrS Tryz.underlying156 cells_32 rfl rfl (by decide) (by omega) rfl) ?_
   simp only [ev,zD,zE,zF,zG]
   refine n_load rfl ((m.b 2 rfl).lies agg_32 cells_32 rfl rfl) ?_
   simp only [ev,zD,zE,zF,zG,zH,zI,zJ,zK,Nat.zero_add,Nat.reduceAdd,Nat.reduceMul,Int.reduceToNat]
   refine malloc m zero_32 rfl ?_
   clear m; intro g10 u m
   simp only [ev,zD,zE,zF,zG]
   refine mstoreA m 0 rfl rfl rfl cells_32 (leT rfl) rfl ?_
   clear m; intro u m; simp only [over,zH,zI,zJ,zK,zL,zM,zN,zO,zP,zF,zG,Nat.reduceAdd] at m
   refine n_nil (k24 _ _ ?_)
   refine wp_region_lit (n_load rfl ((m.b 8 rfl).full agg_32 cells_32) ?_)
   simp only [ev,zD,zE,zF,zG]
   refine n_load rfl ((m.b 0 rfl).full agg_32 cells_32) ?_
   simp only [ev,zD,zE,zF,zG]
   refine mcallP m rfl rfl (Add_c Bw.up Bw.up) ?_
   clear m; intro u m
   simp only [ev,zD,zE,zF,zG]
   refine mstoreA m 8 rfl rfl rfl cells_32 (leT rfl) rfl ?_
   clear m; intro u m; simp only [over,zH,zI,zJ,zK,zL,zM,zN,zO,zP,zF,zG,Nat.reduceAdd] at m
   refine n_nil (k23 _ _ ?_)
   refine wp_region_lit (n_val (r_add (m:=2) (n:=1) (r:=3) rfl rfl (by decide)) (n_val (r_move) (n_nil (then_rounds (c_seq fun K25 k25=>wp_region_lit (n_val (r_lssF (m:=3) (n:=3) rfl rfl (by decide)) (n_nil (k25 _ _ ?_))))))))
   refine c_seq fun K26 k26=>c_no rfl (wp_exit (k11 _ _ ?_))
   refine c_seq fun K27 k27=>?_
   simp only [ev,zD,zE,zF,zG]
   refine mh m [true,true,true,true,true,true,true,true,true,true] [(0,true),(1,true),(3,true),(5,true),(8,true),(9,true),(11,true),(13,true),(16,true),(17,true),(19,true),(21,true),(26,true),(2,true),(4,true),(6,true),(10,true),(12,true),(14,true),(18,true),(20,true),(22,true),(7,false),(15,false),(23,false),(24,false),(25,true)] follows_mixed (by kernel_rfl) (panic_put (fun _ _ _ _ _ h=>h)) (ol:=?_) ?hol ?_
   case hol=>simp only [zQ,zR,zS,zT,zU,zV]; try rfl
   clear m; intro u m
   refine h_val (r_move) (h_val (r_fieldAddr (c:=0) Tryz.underlying28 rfl cells_3 rfl rfl) (h_val (r_fieldAddr (c:=0) Tryz.underlying28 rfl cells_3 rfl rfl) (h_val (r_fieldAddr (c:=0) Tryz.underlying28 rfl cells_3 rfl rfl) ?_)))
   simp only [ev,zD,zE,zF,zG]
   refine h_val (r_move) (h_val (r_fieldAddr (c:=0) Tryz.underlying28 rfl cells_3 rfl rfl) (h_val (r_fieldAddr (c:=0) Tryz.underlying28 rfl cells_3 rfl rfl) (h_val (r_fieldAddr (c:=0) Tryz.underlying28 rfl cells_3 rfl rfl) ?_)))
   simp only [ev,zD,zE,zF,zG]
   refine h_val (r_move) (h_val (r_fieldAddr (c:=0) Tryz.underlying28 rfl cells_3 rfl rfl) (h_val (r_fieldAddr (c:=0) Tryz.underlying28 rfl cells_3 rfl rfl) (h_val (r_fieldAddr (c:=0) Tryz.underlying28 rfl cells_3 rfl rfl) ?_)))
   simp only [ev,zD,zE,zF,zG]
   refine h_val (r_move) ?_
   simp only [ev,zD,zE,zF,zG]
   refine h_load rfl (fun u m=>((m.b 6 rfl).lies1 agg_3 rfl)) ?_
   simp only [ev,zD,zE,zF,zG]
   refine h_load rfl (fun u m=>((m.b 5 rfl).lies1 agg_3 rfl)) ?_
   simp only [ev,zD,zE,zF,zG]
   refine h_load rfl (fun u m=>((m.b 4 rfl).lies1 agg_3 rfl)) ?_
   simp only [ev,zD,zE,zF,zG]
   refine h_load rfl (fun u m=>((m.b 6 rfl).lies1 agg_3 rfl)) ?_
   simp only [ev,zD,zE,zF,zG]
   refine h_load rfl (fun u m=>((m.b 5 rfl).lies1 agg_3 rfl)) ?_
   simp only [ev,zD,zE,zF,zG]
   refine h_load rfl (fun u m=>((m.b 4 rfl).lies1 agg_3 rfl)) ?_
   simp only [ev,zD,zE,zF,zG]
   refine h_load rfl (fun u m=>((m.b 6 rfl).lies1 agg_3 rfl)) ?_
   simp only [ev,zD,zE,zF,zG]
   refine h_load rfl (fun u m=>((m.b 5 rfl).lies1 agg_3 rfl)) ?_
   simp only [ev,zD,zE,zF,zG]
   refine h_load rfl (fun u m=>((m.b 4 rfl).lies1 agg_3 rfl)) ?_
   simp only [ev,zD,zE,zF,zG]
   refine h_step (mcallP m rfl rfl (prod3_c) ?_)
   clear m; intro u m
   refine n_nil ?_
   refine ⟨m,?_⟩
   refine h_step ?_
   simp only [ev,zD,zE,zF,zG]
   refine mcallP m rfl rfl (prod3_c) ?_
   clear m; intro u m
   refine n_nil ?_
   refine ⟨m,?_⟩
   refine h_step ?_
   simp only [ev,zD,zE,zF,zG]
   refine mcallP m rfl rfl (prod3_c) ?_
   clear m; intro u m
   refine n_nil ?_
   refine ⟨m,?_⟩
   refine h_step ?_
   simp only [ev,zD,zE,zF,zG]
   refine n_bs_156_3 rfl rfl rfl ?_
   intro u g11 e hg hB; replace m:=m.newB e hg hB; clear e hg hB
   refine n_nil ?_
   refine ⟨m.sel [false,true,true,true,true,true,true,true,true,true,true],?_⟩
   refine h_val (r_lenS rfl Tryz.underlying156 rfl) (h_nil (k27 _ _ ?_))
   refine wp_block (wp_loop_rounds 4 (rounds_step (c_seq fun K28 k28=>wp_region_lit (n_val (r_lssT (m:=0) (n:=3) rfl rfl (by decide)) (n_nil (k28 _ _ ?_))))))
   refine c_seq fun K29 k29=>c_yes rfl (wp_skip (k29 _ _ ?_))
   refine c_seq fun K30 k30=>wp_block (c_seq fun K31 k31=>wp_region_lit ?_)
   simp only [ev,zD,zE,zF,zG]
   refine n_val (r_indexAddrS Tryz.underlying156 cells_32 rfl rfl (by decide) (by omega) rfl) ?_
   simp only [ev,zD,zE,zF,zG]
   refine n_load rfl ((m.b 0 rfl).lies agg_32 cells_32 rfl rfl) ?_
   simp only [ev,zD,zE,zF,zG,zH,zI,zJ,zK,Nat.zero_add,Nat.reduceAdd,Nat.reduceMul,Int.reduceToNat]
   refine malloc m zero_32 rfl ?_
   clear m; intro g12 u m
   simp only [ev,zD,zE,zF,zG]
   refine mstoreA m 0 rfl rfl rfl cells_32 (leT rfl) rfl ?_
   clear m; intro u m; simp only [over,zH,zI,zJ,zK,zL,zM,zN,zO,zP,zF,zG,Nat.reduceAdd] at m
   refine n_nil (k31 _ _ ?_)
   refine wp_region_lit (n_load rfl ((m.b 10 rfl).full agg_32 cells_32) ?_)
   simp only [ev,zD,zE,zF,zG]
   refine n_load rfl ((m.b 0 rfl).full agg_32 cells_32) ?_
   simp only [ev,zD,zE,zF,zG]
   refine mcallP m rfl rfl (Sub_c Bw.up Bw.up) ?_
   clear m; intro u m
   simp only [ev,zD,zE,zF,zG]
   refine mstoreA m 10 rfl rfl rfl cells_32 (leT rfl) rfl ?_
   clear m; intro u m; simp only [over,zH,zI,zJ,zK,zL,zM,zN,zO,zP,zF,zG,Nat.reduceAdd] at m
   refine n_nil (k30 _ _ ?_)
   refine wp_region_lit (n_val (r_add (m:=0) (n:=1) (r:=1) rfl rfl (by decide)) (n_val (r_move) (n_nil (then_rounds (c_seq fun K32 k32=>wp_region_lit (n_val (r_lssT (m:=1) (n:=3) rfl rfl (by decide)) (n_nil (k32 _ _ ?_))))))))
   refine c_seq fun K33 k33=>c_yes rfl (wp_skip (k33 _ _ ?_))
   refine c_seq fun K34 k34=>wp_block (c_seq fun K35 k35=>wp_region_lit ?_)
   simp only [ev,zD,zE,zF,zG]
   refine n_val (r_indexAddrS Tryz.underlying156 cells_32 rfl rfl (by decide) (by omega) rfl) ?_
   simp only [ev,zD,zE,zF,zG]
   refine n_load rfl ((m.b 1 rfl).lies agg_32 cells_32 rfl rfl) ?_
   simp only [ev,zD,zE,zF,zG,zH,zI,zJ,zK,Nat.zero_add,Nat.reduceAdd,Nat.reduceMul,Int.reduceToNat]
   refine malloc m zero_32 rfl ?_
   clear m; intro g13 u m
   simp only [ev,zD,zE,zF,zG]
   refine mstoreA m 0 rfl rfl rfl cells_32 (leT rfl) rfl ?_
   clear m; intro u m; simp only [over,zH,zI,zJ,zK,zL,zM,zN,zO,zP,zF,zG,Nat.reduceAdd] at m
   refine n_nil (k35 _ _ ?_)
   refine wp_region_lit (n_load rfl ((m.b 11 rfl).full agg_32 cells_32) ?_)
   simp only [ev,zD,zE,zF,zG]
   refine n_load rfl ((m.b 0 rfl).full agg_32 cells_32) ?_
   simp only [ev,zD,zE,zF,zG]
   refine mcallP m rfl rfl (Sub_c Bw.up Bw.up) ?_
   clear m; intro u m
   simp only [ev,zD,zE,zF,zG]
   refine mstoreA m 11 rfl rfl rfl cells_32 (leT rfl) rfl ?_
   clear m; intro u m; simp only [over,zH,zI,zJ,zK,zL,zM,zN,zO,zP,zF,zG,Nat.reduceAdd] at m
   refine n_nil (k34 _ _ ?_)
   refine wp_region_lit (n_val (r_add (m:=1) (n:=1) (r:=2) rfl rfl (by decide)) (n_val (r_move) (n_nil (then_rounds (c_seq fun K36 k36=>wp_region_lit (n_val (r_lssT (m:=2) (n:=3) rfl rfl (by decide)) (n_nil (k36 _ _ ?_))))))))
   refine c_seq fun K37 k37=>c_yes rfl (wp_skip (k37 _ _ ?_))
   refine c_seq fun K38 k38=>wp_block (c_seq fun K39 k39=>wp_region_lit ?_)
   simp only [ev,zD,zE,zF,zG]
   refine n_val (r_indexAddrS Tryz.underlying156 cells_32 rfl rfl (by decide) (by omega) rfl) ?_
   simp only [ev,zD,zE,zF,zG]
   refine n_load rfl ((m.b 2 rfl).lies agg_32 cells_32 rfl rfl) ?_
   simp only [ev,zD,zE,zF,zG,zH,zI,zJ,zK,Nat.zero_add,Nat.reduceAdd,Nat.reduceMul,Int.reduceToNat]
   refine malloc m zero_32 rfl ?_
   clear m; intro g14 u m
   simp only [ev,zD,zE,zF,zG]
   refine mstoreA m 0 rfl rfl rfl cells_32 (leT rfl) rfl ?_
   clear m; intro u m; simp only [over,zH,zI,zJ,zK,zL,zM,zN,zO,zP,zF,zG,Nat.reduceAdd] at m
   refine n_nil (k39 _ _ ?_)
   refine wp_region_lit (n_load rfl ((m.b 12 rfl).full agg_32 cells_32) ?_)
   simp only [ev,zD,zE,zF,zG]
   refine n_load rfl ((m.b 0 rfl).full agg_32 cells_32) ?_
   simp only [ev,zD,zE,zF,zG]
   refine mcallP m rfl rfl (Sub_c Bw.up Bw.up) ?_
   clear m; intro u m
   simp only [ev,zD,zE,zF,zG]
   refine mstoreA m 12 rfl rfl rfl cells_32 (leT rfl) rfl ?_
   clear m; intro u m; simp only [over,zH,zI,zJ,zK,zL,zM,zN,zO,zP,zF,zG,Nat.reduceAdd] at m
   refine n_nil (k38 _ _ ?_)
   refine wp_region_lit (n_val (r_add (m:=2) (n:=1) (r:=3) rfl rfl (by decide)) (n_val (r_move) (n_nil (then_rounds (c_seq fun K40 k40=>wp_region_lit (n_val (r_lssF (m:=3) (n:=3) rfl rfl (by decide)) (n_nil (k40 _ _ ?_))))))))
   refine c_seq fun K41 k41=>c_no rfl (wp_exit (k8 _ _ ?_))
   refine wp_region_lit ?_
   simp only [ev,zD,zE,zF,zG]
   refine n_val (r_add rfl rfl (wrap_i64 (by omega) (by omega))) (n_val (r_move) (n_nil ?_))
   simp only [ev,zD,zE,zF,zG]
   simp only [Exit.inBlock,Exit.then]
   refine ⟨N - (k + 1),_,?_,rfl,?_,?_⟩
   · omega
   · simp only [zQ,zR,zD,zE,setG_cons,setG_nil,setMany_cons,setMany_nil,zF,zG]
   ·
    simp only [zQ,zR,zD,zE]
    exact ⟨k + 1,rfl,((m.re 12 rfl (by rw [sumT_step ht,← det_step]; exact (m.b 12 rfl))).sel [false,false,false,false,false,false,false,false,false,false,false,false,true,true]),by omega,rfl⟩
  ·
   have hkN : k = N:=by omega
   rw [hkN,show ts.take N = ts from List.take_of_length_le (by rw [hT.len]; exact Nat.le_refl _)] at m
   refine wp_exit (k4 _ _ ?_)
   refine c_seq fun K42 k42=>wp_region_lit (n_load rfl ((m.b 0 rfl).full agg_32 cells_32) ?_)
   simp only [ev,zD,zE,zF,zG]
   refine mstoreA m 1 rfl rfl rfl cells_32 (leT rfl) rfl ?_
   clear m; intro u m; simp only [over,zH,zI,zJ,zK,zL,zM,zN,zO,zP,zF,zG,Nat.reduceAdd] at m
   refine n_nil (k42 _ _ ?_)
   refine wp_ret ?_
   try simp only [Exit.inBlock,Exit.then,if_true]
   refine fin1 rfl ⟨_,rfl,((m.b 1 rfl).full agg_32 cells_32)⟩ ?_
   try simp only [zD,zE]
   exact ⟨_,rfl,m.ext,rfl⟩
end Go.Proofs.YtmcgcnpgkkfkoaaGreatDoor
namespace Go.Proofs.YtmcgcnpgkkfkoaaGreatDoor
open Go.RowKit Go.Lith
set_option maxRecDepth 100000
attribute [local irreducible] wpList wpQuiet wpMix wpMixH wpTree Code.wp
theorem Volume_c {ts : List T3} {N cap : Nat} {A : Option Addr} (w : World) (hT : TrisAt w A N ts) (hN : N < 4611686018427387904) : Does Tryz.prog 25 [.slice A N cap] w (fun v _=>v = Q (Rat.divInt (sumT det ts) 6)):=by
 refine ⟨en_25,?_⟩
 have m:=Mem.refl w
 haveI : Bw 264 (sumT det ts):=⟨sumT_bd (m:=200) (fun u hu=>by haveI:=hT.it u hu; exact det_bd) (by rw [hT.len]; omega)⟩
 go_enter Tryz.func25,Tryz.ntmps25
 refine c_seq fun K1 k1=>wp_region_lit (malloc m zero_34 rfl ?_)
 clear m; intro g1 u m
 refine n_nil (k1 _ _ ?_)
 refine c_seq fun K2 k2=>wp_region_lit (n_val (r_move) ?_)
 simp only [ev,zD,zE,zF,zG]
 refine mcall m rfl rfl (Volume6_c _ (hT.ext m.ext) hN) ?_
 clear m; rintro v u m rfl
 simp only [ev,zD,zE,zF,zG]
 refine mcallP m rfl rfl (From_c Iw.h) ?_
 clear m; intro u m
 simp only [ev,zD,zE,zF,zG]
 refine mcallP m rfl rfl (mFrac_c (n:=sumT det ts) (d:=6) Bw.up Bw.up (by decide)) ?_
 clear m; intro u m
 simp only [ev,zD,zE,zF,zG]
 refine mstoreA m 0 rfl rfl rfl cells_34 (leT rfl) rfl ?_
 clear m; intro u m; simp only [over,zH,zI,zJ,zK,zL,zM,zN,zO,zP,zF,zG,Nat.reduceAdd] at m
 refine n_nil (k2 _ _ ?_)
 refine wp_ret ?_
 try simp only [Exit.inBlock,Exit.then,if_true]
 refine fin1 rfl ⟨_,rfl,((m.b 0 rfl).full agg_34 cells_34)⟩ ?_
 try simp only [zD,zE]
 exact ⟨_,rfl,m.ext,rfl⟩
theorem Centre_c {ts : List T3} {N cap : Nat} {A : Option Addr} (w : World) (hT : TrisAt w A N ts) (hN : N < 4611686018427387904) : Does Tryz.prog 22 [.slice A N cap] w (fun v _=>v = .tuple #[fv (cq (sumT (mom P3.x) ts) (sumT det ts)) (cq (sumT (mom P3.y) ts) (sumT det ts)) (cq (sumT (mom P3.z) ts) (sumT det ts)),.bool (decide (sumT det ts ≠ 0))]):=by
 refine ⟨en_22,?_⟩
 have m:=Mem.refl w
 go_enter Tryz.func22,Tryz.ntmps22
 refine c_seq fun K1 k1=>wp_region_lit (malloc m zero_49 rfl ?_)
 clear m; intro g1 u m
 refine n_val (r_assign) (n_nil (k1 _ _ ?_))
 refine c_seq fun K2 k2=>wp_region_lit ?_
 simp only [ev,zD,zE,zF,zG]
 refine malloc m zero_32 rfl ?_
 clear m; intro g2 u m
 refine n_nil (k2 _ _ ?_)
 refine c_seq fun K3 k3=>wp_region_lit ?_
 simp only [ev,zD,zE,zF,zG]
 refine malloc m zero_76 rfl ?_
 clear m; intro g3 u m
 refine n_nil (k3 _ _ ?_)
 refine c_seq fun K4 k4=>c_seq fun K5 k5=>wp_region_lit (n_val (r_move) (n_val (r_lenS rfl Tryz.underlying24 rfl) (n_val (r_move) ?_)))
 simp only [ev,zD,zE,zF,zG]
 refine n_nil (k5 _ _ ?_)
 refine wp_block ?_
 try simp only [Nat.zero_add,Nat.reduceAdd,Nat.reduceMul,Int.reduceToNat]
 refine c_loopg [18] [7,8,9,10,12,19,20,21,22,23,24,25,26,27,28,29,30,31,32,33,34,35,36,37,38,39,40,41,42,43,44,45,46,47,48,49,50,51] (fun n vs wl=>∃ (k : Nat),vs = [.int .i64 (k:Int)] ∧ Mem w wl [bI g3 [.bool (wneg (sumT (mom P3.x) (ts.take k))),.string (wmag (sumT (mom P3.x) (ts.take k))),.bool (wneg (sumT (mom P3.y) (ts.take k))),.string (wmag (sumT (mom P3.y) (ts.take k))),.bool (wneg (sumT (mom P3.z) (ts.take k))),.string (wmag (sumT (mom P3.z) (ts.take k)))] 76,bI g2 [.bool (wneg (sumT det (ts.take k))),.string (wmag (sumT det (ts.take k)))] 32,bI g1 [.bool false,.string ⟨#[]⟩,.bool false,.string ⟨#[]⟩,.bool false,.string ⟨#[]⟩,.bool false,.string ⟨#[]⟩,.bool false,.string ⟨#[]⟩,.bool false,.string ⟨#[]⟩] 49] ∧ (k ≤ N) ∧ (n = N - k)) ?_ ?_
 ·
  apply Exists.intro
  simp only [zQ,zR,zD,zE]
  exact ⟨0,rfl,m,Nat.zero_le _,rfl⟩
 ·
  intro n vs wr hI u
  clear m
  obtain ⟨k,rfl,m,hk,hn⟩:=hI
  simp only [setG_cons,setG_nil,setMany_cons,setMany_nil,zF,zG]
  refine c_seq fun K6 k6=>wp_region_lit (n_val (r_lss rfl rfl) (n_nil (k6 _ _ ?_)))
  refine c_seq fun K7 k7=>?_
  simp only [ev,zD,zE,zF,zG]
  refine c_if rfl (fun hc1=>?_) (fun hc1=>?_)
  ·
   obtain ⟨t,ht,_,a,rfl,hrow⟩:=hT.get (i:=k) (by omega)
   haveI : Bw 264 (sumT det (ts.take k)):=⟨sumT_bdt (m:=200) (fun u hu=>by haveI:=hT.it u hu; exact det_bd) (by rw [hT.len]; omega)⟩
   haveI : Bw 364 (sumT (mom P3.x) (ts.take k)):=⟨sumT_bdt (m:=300) (fun u hu=>by haveI:=hT.it u hu; exact mom_bd Iw.h.bd Iw.h.bd Iw.h.bd) (by rw [hT.len]; omega)⟩
   haveI : Bw 364 (sumT (mom P3.y) (ts.take k)):=⟨sumT_bdt (m:=300) (fun u hu=>by haveI:=hT.it u hu; exact mom_bd Iw.h.bd Iw.h.bd Iw.h.bd) (by rw [hT.len]; omega)⟩
   haveI : Bw 364 (sumT (mom P3.z) (ts.take k)):=⟨sumT_bdt (m:=300) (fun u hu=>by haveI:=hT.it u hu; exact mom_bd Iw.h.bd Iw.h.bd Iw.h.bd) (by rw [hT.len]; omega)⟩
   refine wp_skip (k7 _ _ ?_)
   refine c_seq fun K8 k8=>wp_block (c_seq fun K9 k9=>wp_region_lit (n_val (r_indexAddrS Tryz.underlying24 cells_59 rfl rfl (by omega) (by omega) (addrN (Int.toNat_natCast _))) ?_))
   simp only [ev,zD,zE,zF,zG]
   refine n_load rfl ((hrow.ext m.ext).lies agg_59 cells_59) ?_
   simp only [ev,zD,zE,zF,zG]
   refine malloc m zero_59 rfl ?_
   clear m; intro g4 u m
   simp only [ev,zD,zE,zF,zG]
   refine mstoreA m 0 rfl rfl rfl cells_59 (leT rfl) rfl ?_
   clear m; intro u m; simp only [over,zH,zI,zJ,zK,zL,zM,zN,zO,zP,zF,zG,Nat.reduceAdd] at m
   refine n_nil (k9 _ _ ?_)
   refine c_seq fun K10 k10=>wp_region_lit (n_load rfl ((m.b 0 rfl).full agg_59 cells_59) ?_)
   simp only [ev,zD,zE,zF,zG]
   refine n_bs_24_1 rfl ?_
   intro u g5 e hg hB; replace m:=m.newB e hg hB; clear e hg hB
   simp only [ev,zD,zE,zF,zG]
   refine mcall m rfl rfl (Volume6_c _ (TrisAt.one (m.b 0 rfl)) (by decide)) ?_
   clear m; rintro v u m rfl
   simp only [ev,zD,zE,zF,zG]
   rw [sumT_one]
   refine malloc m zero_32 rfl ?_
   clear m; intro g6 u m
   simp only [ev,zD,zE,zF,zG]
   refine mstoreA m 0 rfl rfl rfl cells_32 (leT rfl) rfl ?_
   clear m; intro u m; simp only [over,zH,zI,zJ,zK,zL,zM,zN,zO,zP,zF,zG,Nat.reduceAdd] at m
   refine n_nil (k10 _ _ ?_)
   refine c_seq fun K11 k11=>wp_region_lit (n_load rfl ((m.b 4 rfl).full agg_32 cells_32) ?_)
   simp only [ev,zD,zE,zF,zG]
   refine n_load rfl ((m.b 0 rfl).full agg_32 cells_32) ?_
   simp only [ev,zD,zE,zF,zG]
   refine mcallP m rfl rfl (Add_c Bw.up Bw.up) ?_
   clear m; intro u m
   simp only [ev,zD,zE,zF,zG]
   refine mstoreA m 4 rfl rfl rfl cells_32 (leT rfl) rfl ?_
   clear m; intro u m; simp only [over,zH,zI,zJ,zK,zL,zM,zN,zO,zP,zF,zG,Nat.reduceAdd] at m
   refine n_nil (k11 _ _ ?_)
   refine c_seq fun K12 k12=>wp_region_lit (mcallP m rfl rfl (readers_c) ?_)
   clear m; intro u m
   refine n_val (r_move) (n_nil (k12 _ _ ?_))
   refine wp_block (wp_loop_rounds 4 (rounds_step (c_seq fun K13 k13=>wp_region_lit (n_val (r_lssT (m:=0) (n:=3) rfl rfl (by decide)) (n_nil (k13 _ _ ?_))))))
   refine c_seq fun K14 k14=>c_yes rfl (wp_skip (k14 _ _ ?_))
   refine c_seq fun K15 k15=>wp_block (c_seq fun K16 k16=>wp_region_lit (n_val (r_move) ?_))
   simp only [ev,zD,zE,zF,zG]
   refine n_val (r_index_95_0 rfl rfl) (n_val (r_assign) (n_val (r_assign) (n_nil (k16 _ _ ?_))))
   refine c_seq fun K17 k17=>wp_region_lit ?_
   simp only [ev,zD,zE,zF,zG]
   refine n_load rfl ((m.b 2 rfl).full agg_59 cells_59) ?_
   simp only [ev,zD,zE,zF,zG]
   refine n_val (r_move) (n_nil (k17 _ _ ?_))
   refine wp_block (wp_loop_rounds 4 (rounds_step (c_seq fun K18 k18=>wp_region_lit (n_val (r_lssT (m:=0) (n:=3) rfl rfl (by decide)) (n_nil (k18 _ _ ?_))))))
   refine c_seq fun K19 k19=>c_yes rfl (wp_skip (k19 _ _ ?_))
   refine c_seq fun K20 k20=>wp_block (c_seq fun K21 k21=>wp_region_lit (n_val (r_index_59_0 rfl rfl) ?_))
   simp only [ev,zD,zE,zF,zG]
   refine malloc m zero_28 rfl ?_
   clear m; intro g7 u m
   simp only [ev,zD,zE,zF,zG]
   refine mstoreA m 0 rfl rfl rfl cells_28 (leT rfl) rfl ?_
   clear m; intro u m; simp only [over,zH,zI,zJ,zK,zL,zM,zN,zO,zP,zF,zG,Nat.reduceAdd] at m
   refine n_nil (k21 _ _ ?_)
   refine mq_tail m 12 follows_mixed (by kernel_rfl) ?_
   simp only [zH,zI,zJ,zK]
   refine q_val (r_move) (q_val (r_move) (q_val (r_indexAddrA Tryz.underlying76 cells_32 rfl rfl (by decide) (by decide) rfl) ?_))
   simp only [ev,zD,zE,zF,zG]
   refine ql rfl (fun u m=>((m.b 4 rfl).lies agg_32 cells_32 rfl rfl)) ?_
   simp only [ev,zD,zE,zF,zG,zH,zI,zJ,zK,Nat.zero_add,Nat.reduceAdd,Nat.reduceMul,Int.reduceToNat]
   refine ql rfl (fun u m=>((m.b 1 rfl).full agg_32 cells_32)) ?_
   simp only [ev,zD,zE,zF,zG]
   refine q_val (r_move) ?_
   simp only [ev,zD,zE,zF,zG]
   refine ql rfl (fun u m=>((m.b 0 rfl).full agg_28 cells_28)) ?_
   simp only [ev,zD,zE,zF,zG]
   refine qcP rfl rfl (me_x) ?_
   simp only [ev,zD,zE,zF,zG]
   refine qcP rfl rfl (From_c Iw.h) ?_
   simp only [ev,zD,zE,zF,zG]
   refine qcP rfl rfl (Mul_c Bw.up Bw.up) ?_
   simp only [ev,zD,zE,zF,zG]
   refine qcP rfl rfl (Add_c Bw.up Bw.up) (q_val (r_indexAddrA Tryz.underlying76 cells_32 rfl rfl (by decide) (by decide) rfl) (q_nil ?_))
   clear m; intro u m
   simp only [ev,zD,zE,zF,zG]
   refine mstoreA m 4 rfl rfl rfl cells_32 (leT rfl) rfl ?_
   clear m; intro u m; simp only [over,zH,zI,zJ,zK,zL,zM,zN,zO,zP,zF,zG,Nat.reduceAdd] at m
   refine n_nil (k20 _ _ ?_)
   refine wp_region_lit (n_val (r_add (m:=0) (n:=1) (r:=1) rfl rfl (by decide)) (n_val (r_move) (n_nil (then_rounds (c_seq fun K22 k22=>wp_region_lit (n_val (r_lssT (m:=1) (n:=3) rfl rfl (by decide)) (n_nil (k22 _ _ ?_))))))))
   refine c_seq fun K23 k23=>c_yes rfl (wp_skip (k23 _ _ ?_))
   refine c_seq fun K24 k24=>wp_block (c_seq fun K25 k25=>wp_region_lit (n_val (r_index_59_1 rfl rfl) ?_))
   simp only [ev,zD,zE,zF,zG]
   refine malloc m zero_28 rfl ?_
   clear m; intro g8 u m
   simp only [ev,zD,zE,zF,zG]
   refine mstoreA m 0 rfl rfl rfl cells_28 (leT rfl) rfl ?_
   clear m; intro u m; simp only [over,zH,zI,zJ,zK,zL,zM,zN,zO,zP,zF,zG,Nat.reduceAdd] at m
   refine n_nil (k25 _ _ ?_)
   refine mq_tail m 12 follows_mixed (by kernel_rfl) ?_
   simp only [zH,zI,zJ,zK]
   refine q_val (r_move) (q_val (r_move) (q_val (r_indexAddrA Tryz.underlying76 cells_32 rfl rfl (by decide) (by decide) rfl) ?_))
   simp only [ev,zD,zE,zF,zG]
   refine ql rfl (fun u m=>((m.b 5 rfl).lies agg_32 cells_32 rfl rfl)) ?_
   simp only [ev,zD,zE,zF,zG,zH,zI,zJ,zK,Nat.zero_add,Nat.reduceAdd,Nat.reduceMul,Int.reduceToNat]
   refine ql rfl (fun u m=>((m.b 2 rfl).full agg_32 cells_32)) ?_
   simp only [ev,zD,zE,zF,zG]
   refine q_val (r_move) ?_
   simp only [ev,zD,zE,zF,zG]
   refine ql rfl (fun u m=>((m.b 0 rfl).full agg_28 cells_28)) ?_
   simp only [ev,zD,zE,zF,zG]
   refine qcP rfl rfl (me_x) ?_
   simp only [ev,zD,zE,zF,zG]
   refine qcP rfl rfl (From_c Iw.h) ?_
   simp only [ev,zD,zE,zF,zG]
   refine qcP rfl rfl (Mul_c Bw.up Bw.up) ?_
   simp only [ev,zD,zE,zF,zG]
   refine qcP rfl rfl (Add_c Bw.up Bw.up) (q_val (r_indexAddrA Tryz.underlying76 cells_32 rfl rfl (by decide) (by decide) rfl) (q_nil ?_))
   clear m; intro u m
   simp only [ev,zD,zE,zF,zG]
   refine mstoreA m 5 rfl rfl rfl cells_32 (leT rfl) rfl ?_
   clear m; intro u m; simp only [over,zH,zI,zJ,zK,zL,zM,zN,zO,zP,zF,zG,Nat.reduceAdd] at m
   refine n_nil (k24 _ _ ?_)
   refine wp_region_lit (n_val (r_add (m:=1) (n:=1) (r:=2) rfl rfl (by decide)) (n_val (r_move) (n_nil (then_rounds (c_seq fun K26 k26=>wp_region_lit (n_val (r_lssT (m:=2) (n:=3) rfl rfl (by decide)) (n_nil (k26 _ _ ?_))))))))
   refine c_seq fun K27 k27=>c_yes rfl (wp_skip (k27 _ _ ?_))
   refine c_seq fun K28 k28=>wp_block (c_seq fun K29 k29=>wp_region_lit (n_val (r_index_59_2 rfl rfl) ?_))
   simp only [ev,zD,zE,zF,zG]
   refine malloc m zero_28 rfl ?_
   clear m; intro g9 u m
   simp only [ev,zD,zE,zF,zG]
   refine mstoreA m 0 rfl rfl rfl cells_28 (leT rfl) rfl ?_
   clear m; intro u m; simp only [over,zH,zI,zJ,zK,zL,zM,zN,zO,zP,zF,zG,Nat.reduceAdd] at m
   refine n_nil (k29 _ _ ?_)
   refine mq_tail m 12 follows_mixed (by kernel_rfl) ?_
   simp only [zH,zI,zJ,zK]
   refine q_val (r_move) (q_val (r_move) (q_val (r_indexAddrA Tryz.underlying76 cells_32 rfl rfl (by decide) (by decide) rfl) ?_))
   simp only [ev,zD,zE,zF,zG]
   refine ql rfl (fun u m=>((m.b 6 rfl).lies agg_32 cells_32 rfl rfl)) ?_
   simp only [ev,zD,zE,zF,zG,zH,zI,zJ,zK,Nat.zero_add,Nat.reduceAdd,Nat.reduceMul,Int.reduceToNat]
   refine ql rfl (fun u m=>((m.b 3 rfl).full agg_32 cells_32)) ?_
   simp only [ev,zD,zE,zF,zG]
   refine q_val (r_move) ?_
   simp only [ev,zD,zE,zF,zG]
   refine ql rfl (fun u m=>((m.b 0 rfl).full agg_28 cells_28)) ?_
   simp only [ev,zD,zE,zF,zG]
   refine qcP rfl rfl (me_x) ?_
   simp only [ev,zD,zE,zF,zG]
   refine qcP rfl rfl (From_c Iw.h) ?_
   simp only [ev,zD,zE,zF,zG]
   refine qcP rfl rfl (Mul_c Bw.up Bw.up) ?_
   simp only [ev,zD,zE,zF,zG]
   refine qcP rfl rfl (Add_c Bw.up Bw.up) (q_val (r_indexAddrA Tryz.underlying76 cells_32 rfl rfl (by decide) (by decide) rfl) (q_nil ?_))
   clear m; intro u m
   simp only [ev,zD,zE,zF,zG]
   refine mstoreA m 6 rfl rfl rfl cells_32 (leT rfl) rfl ?_
   clear m; intro u m; simp only [over,zH,zI,zJ,zK,zL,zM,zN,zO,zP,zF,zG,Nat.reduceAdd] at m
   refine n_nil (k28 _ _ ?_)
   refine wp_region_lit (n_val (r_add (m:=2) (n:=1) (r:=3) rfl rfl (by decide)) (n_val (r_move) (n_nil (then_rounds (c_seq fun K30 k30=>wp_region_lit (n_val (r_lssF (m:=3) (n:=3) rfl rfl (by decide)) (n_nil (k30 _ _ ?_))))))))
   refine c_seq fun K31 k31=>c_no rfl (wp_exit (k15 _ _ ?_))
   refine wp_region_lit (n_val (r_add (m:=0) (n:=1) (r:=1) rfl rfl (by decide)) ?_)
   simp only [ev,zD,zE,zF,zG]
   refine n_val (r_move) (n_nil (then_rounds (c_seq fun K32 k32=>wp_region_lit (n_val (r_lssT (m:=1) (n:=3) rfl rfl (by decide)) (n_nil (k32 _ _ ?_))))))
   refine c_seq fun K33 k33=>c_yes rfl (wp_skip (k33 _ _ ?_))
   refine c_seq fun K34 k34=>wp_block (c_seq fun K35 k35=>wp_region_lit (n_val (r_move) (n_val (r_index_95_1 rfl rfl) ?_)))
   simp only [ev,zD,zE,zF,zG]
   refine n_val (r_assign) (n_val (r_assign) (n_nil (k35 _ _ ?_)))
   refine c_seq fun K36 k36=>wp_region_lit ?_
   simp only [ev,zD,zE,zF,zG]
   refine n_load rfl ((m.b 5 rfl).full agg_59 cells_59) ?_
   simp only [ev,zD,zE,zF,zG]
   refine n_val (r_move) (n_nil (k36 _ _ ?_))
   refine wp_block (wp_loop_rounds 4 (rounds_step (c_seq fun K37 k37=>wp_region_lit (n_val (r_lssT (m:=0) (n:=3) rfl rfl (by decide)) (n_nil (k37 _ _ ?_))))))
   refine c_seq fun K38 k38=>c_yes rfl (wp_skip (k38 _ _ ?_))
   refine c_seq fun K39 k39=>wp_block (c_seq fun K40 k40=>wp_region_lit (n_val (r_index_59_0 rfl rfl) ?_))
   simp only [ev,zD,zE,zF,zG]
   refine malloc m zero_28 rfl ?_
   clear m; intro g10 u m
   simp only [ev,zD,zE,zF,zG]
   refine mstoreA m 0 rfl rfl rfl cells_28 (leT rfl) rfl ?_
   clear m; intro u m; simp only [over,zH,zI,zJ,zK,zL,zM,zN,zO,zP,zF,zG,Nat.reduceAdd] at m
   refine n_nil (k40 _ _ ?_)
   refine mq_tail m 12 follows_mixed (by kernel_rfl) ?_
   simp only [zH,zI,zJ,zK]
   refine q_val (r_move) (q_val (r_move) (q_val (r_indexAddrA Tryz.underlying76 cells_32 rfl rfl (by decide) (by decide) rfl) ?_))
   simp only [ev,zD,zE,zF,zG]
   refine ql rfl (fun u m=>((m.b 7 rfl).lies agg_32 cells_32 rfl rfl)) ?_
   simp only [ev,zD,zE,zF,zG,zH,zI,zJ,zK,Nat.zero_add,Nat.reduceAdd,Nat.reduceMul,Int.reduceToNat]
   refine ql rfl (fun u m=>((m.b 4 rfl).full agg_32 cells_32)) ?_
   simp only [ev,zD,zE,zF,zG]
   refine q_val (r_move) ?_
   simp only [ev,zD,zE,zF,zG]
   refine ql rfl (fun u m=>((m.b 0 rfl).full agg_28 cells_28)) ?_
   simp only [ev,zD,zE,zF,zG]
   refine qcP rfl rfl (me_y) ?_
   simp only [ev,zD,zE,zF,zG]
   refine qcP rfl rfl (From_c Iw.h) ?_
   simp only [ev,zD,zE,zF,zG]
   refine qcP rfl rfl (Mul_c Bw.up Bw.up) ?_
   simp only [ev,zD,zE,zF,zG]
   refine qcP rfl rfl (Add_c Bw.up Bw.up) (q_val (r_indexAddrA Tryz.underlying76 cells_32 rfl rfl (by decide) (by decide) rfl) (q_nil ?_))
   clear m; intro u m
   simp only [ev,zD,zE,zF,zG]
   refine mstoreA m 7 rfl rfl rfl cells_32 (leT rfl) rfl ?_
   clear m; intro u m; simp only [over,zH,zI,zJ,zK,zL,zM,zN,zO,zP,zF,zG,Nat.reduceAdd] at m
   refine n_nil (k39 _ _ ?_)
   refine wp_region_lit (n_val (r_add (m:=0) (n:=1) (r:=1) rfl rfl (by decide)) (n_val (r_move) (n_nil (then_rounds (c_seq fun K41 k41=>wp_region_lit (n_val (r_lssT (m:=1) (n:=3) rfl rfl (by decide)) (n_nil (k41 _ _ ?_))))))))
   refine c_seq fun K42 k42=>c_yes rfl (wp_skip (k42 _ _ ?_))
   refine c_seq fun K43 k43=>wp_block (c_seq fun K44 k44=>wp_region_lit (n_val (r_index_59_1 rfl rfl) ?_))
   simp only [ev,zD,zE,zF,zG]
   refine malloc m zero_28 rfl ?_
   clear m; intro g11 u m
   simp only [ev,zD,zE,zF,zG]
   refine mstoreA m 0 rfl rfl rfl cells_28 (leT rfl) rfl ?_
   clear m; intro u m; simp only [over,zH,zI,zJ,zK,zL,zM,zN,zO,zP,zF,zG,Nat.reduceAdd] at m
   refine n_nil (k44 _ _ ?_)
   refine mq_tail m 12 follows_mixed (by kernel_rfl) ?_
   simp only [zH,zI,zJ,zK]
   refine q_val (r_move) (q_val (r_move) (q_val (r_indexAddrA Tryz.underlying76 cells_32 rfl rfl (by decide) (by decide) rfl) ?_))
   simp only [ev,zD,zE,zF,zG]
   refine ql rfl (fun u m=>((m.b 8 rfl).lies agg_32 cells_32 rfl rfl)) ?_
   simp only [ev,zD,zE,zF,zG,zH,zI,zJ,zK,Nat.zero_add,Nat.reduceAdd,Nat.reduceMul,Int.reduceToNat]
   refine ql rfl (fun u m=>((m.b 5 rfl).full agg_32 cells_32)) ?_
   simp only [ev,zD,zE,zF,zG]
   refine q_val (r_move) ?_
   simp only [ev,zD,zE,zF,zG]
   refine ql rfl (fun u m=>((m.b 0 rfl).full agg_28 cells_28)) ?_
   simp only [ev,zD,zE,zF,zG]
   refine qcP rfl rfl (me_y) ?_
   simp only [ev,zD,zE,zF,zG]
   refine qcP rfl rfl (From_c Iw.h) ?_
   simp only [ev,zD,zE,zF,zG]
   refine qcP rfl rfl (Mul_c Bw.up Bw.up) ?_
   simp only [ev,zD,zE,zF,zG]
   refine qcP rfl rfl (Add_c Bw.up Bw.up) (q_val (r_indexAddrA Tryz.underlying76 cells_32 rfl rfl (by decide) (by decide) rfl) (q_nil ?_))
   clear m; intro u m
   simp only [ev,zD,zE,zF,zG]
   refine mstoreA m 8 rfl rfl rfl cells_32 (leT rfl) rfl ?_
   clear m; intro u m; simp only [over,zH,zI,zJ,zK,zL,zM,zN,zO,zP,zF,zG,Nat.reduceAdd] at m
   refine n_nil (k43 _ _ ?_)
   refine wp_region_lit (n_val (r_add (m:=1) (n:=1) (r:=2) rfl rfl (by decide)) (n_val (r_move) (n_nil (then_rounds (c_seq fun K45 k45=>wp_region_lit (n_val (r_lssT (m:=2) (n:=3) rfl rfl (by decide)) (n_nil (k45 _ _ ?_))))))))
   refine c_seq fun K46 k46=>c_yes rfl (wp_skip (k46 _ _ ?_))
   refine c_seq fun K47 k47=>wp_block (c_seq fun K48 k48=>wp_region_lit (n_val (r_index_59_2 rfl rfl) ?_))
   simp only [ev,zD,zE,zF,zG]
   refine malloc m zero_28 rfl ?_
   clear m; intro g12 u m
   simp only [ev,zD,zE,zF,zG]
   refine mstoreA m 0 rfl rfl rfl cells_28 (leT rfl) rfl ?_
   clear m; intro u m; simp only [over,zH,zI,zJ,zK,zL,zM,zN,zO,zP,zF,zG,Nat.reduceAdd] at m
   refine n_nil (k48 _ _ ?_)
   refine mq_tail m 12 follows_mixed (by kernel_rfl) ?_
   simp only [zH,zI,zJ,zK]
   refine q_val (r_move) (q_val (r_move) (q_val (r_indexAddrA Tryz.underlying76 cells_32 rfl rfl (by decide) (by decide) rfl) ?_))
   simp only [ev,zD,zE,zF,zG]
   refine ql rfl (fun u m=>((m.b 9 rfl).lies agg_32 cells_32 rfl rfl)) ?_
   simp only [ev,zD,zE,zF,zG,zH,zI,zJ,zK,Nat.zero_add,Nat.reduceAdd,Nat.reduceMul,Int.reduceToNat]
   refine ql rfl (fun u m=>((m.b 6 rfl).full agg_32 cells_32)) ?_
   simp only [ev,zD,zE,zF,zG]
   refine q_val (r_move) ?_
   simp only [ev,zD,zE,zF,zG]
   refine ql rfl (fun u m=>((m.b 0 rfl).full agg_28 cells_28)) ?_
   simp only [ev,zD,zE,zF,zG]
   refine qcP rfl rfl (me_y) ?_
   simp only [ev,zD,zE,zF,zG]
   refine qcP rfl rfl (From_c Iw.h) ?_
   simp only [ev,zD,zE,zF,zG]
   refine qcP rfl rfl (Mul_c Bw.up Bw.up) ?_
   simp only [ev,zD,zE,zF,zG]
   refine qcP rfl rfl (Add_c Bw.up Bw.up) (q_val (r_indexAddrA Tryz.underlying76 cells_32 rfl rfl (by decide) (by decide) rfl) (q_nil ?_))
   clear m; intro u m
   simp only [ev,zD,zE,zF,zG]
   refine mstoreA m 9 rfl rfl rfl cells_32 (leT rfl) rfl ?_
   clear m; intro u m; simp only [over,zH,zI,zJ,zK,zL,zM,zN,zO,zP,zF,zG,Nat.reduceAdd] at m
   refine n_nil (k47 _ _ ?_)
   refine wp_region_lit (n_val (r_add (m:=2) (n:=1) (r:=3) rfl rfl (by decide)) (n_val (r_move) (n_nil (then_rounds (c_seq fun K49 k49=>wp_region_lit (n_val (r_lssF (m:=3) (n:=3) rfl rfl (by decide)) (n_nil (k49 _ _ ?_))))))))
   refine c_seq fun K50 k50=>c_no rfl (wp_exit (k34 _ _ ?_))
   refine wp_region_lit (n_val (r_add (m:=1) (n:=1) (r:=2) rfl rfl (by decide)) ?_)
   simp only [ev,zD,zE,zF,zG]
   refine n_val (r_move) (n_nil (then_rounds (c_seq fun K51 k51=>wp_region_lit (n_val (r_lssT (m:=2) (n:=3) rfl rfl (by decide)) (n_nil (k51 _ _ ?_))))))
   refine c_seq fun K52 k52=>c_yes rfl (wp_skip (k52 _ _ ?_))
   refine c_seq fun K53 k53=>wp_block (c_seq fun K54 k54=>wp_region_lit (n_val (r_move) (n_val (r_index_95_2 rfl rfl) ?_)))
   simp only [ev,zD,zE,zF,zG]
   refine n_val (r_assign) (n_val (r_assign) (n_nil (k54 _ _ ?_)))
   refine c_seq fun K55 k55=>wp_region_lit ?_
   simp only [ev,zD,zE,zF,zG]
   refine n_load rfl ((m.b 8 rfl).full agg_59 cells_59) ?_
   simp only [ev,zD,zE,zF,zG]
   refine n_val (r_move) (n_nil (k55 _ _ ?_))
   refine wp_block (wp_loop_rounds 4 (rounds_step (c_seq fun K56 k56=>wp_region_lit (n_val (r_lssT (m:=0) (n:=3) rfl rfl (by decide)) (n_nil (k56 _ _ ?_))))))
   refine c_seq fun K57 k57=>c_yes rfl (wp_skip (k57 _ _ ?_))
   refine c_seq fun K58 k58=>wp_block (c_seq fun K59 k59=>wp_region_lit (n_val (r_index_59_0 rfl rfl) ?_))
   simp only [ev,zD,zE,zF,zG]
   refine malloc m zero_28 rfl ?_
   clear m; intro g13 u m
   simp only [ev,zD,zE,zF,zG]
   refine mstoreA m 0 rfl rfl rfl cells_28 (leT rfl) rfl ?_
   clear m; intro u m; simp only [over,zH,zI,zJ,zK,zL,zM,zN,zO,zP,zF,zG,Nat.reduceAdd] at m
   refine n_nil (k59 _ _ ?_)
   refine mq_tail m 12 follows_mixed (by kernel_rfl) ?_
   simp only [zH,zI,zJ,zK]
   refine q_val (r_move) (q_val (r_move) (q_val (r_indexAddrA Tryz.underlying76 cells_32 rfl rfl (by decide) (by decide) rfl) ?_))
   simp only [ev,zD,zE,zF,zG]
   refine ql rfl (fun u m=>((m.b 10 rfl).lies agg_32 cells_32 rfl rfl)) ?_
   simp only [ev,zD,zE,zF,zG,zH,zI,zJ,zK,Nat.zero_add,Nat.reduceAdd,Nat.reduceMul,Int.reduceToNat]
   refine ql rfl (fun u m=>((m.b 7 rfl).full agg_32 cells_32)) ?_
   simp only [ev,zD,zE,zF,zG]
   refine q_val (r_move) ?_
   simp only [ev,zD,zE,zF,zG]
   refine ql rfl (fun u m=>((m.b 0 rfl).full agg_28 cells_28)) ?_
   simp only [ev,zD,zE,zF,zG]
   refine qcP rfl rfl (me_z) ?_
   simp only [ev,zD,zE,zF,zG]
   refine qcP rfl rfl (From_c Iw.h) ?_
   simp only [ev,zD,zE,zF,zG]
   refine qcP rfl rfl (Mul_c Bw.up Bw.up) ?_
   simp only [ev,zD,zE,zF,zG]
   refine qcP rfl rfl (Add_c Bw.up Bw.up) (q_val (r_indexAddrA Tryz.underlying76 cells_32 rfl rfl (by decide) (by decide) rfl) (q_nil ?_))
   clear m; intro u m
   simp only [ev,zD,zE,zF,zG]
   refine mstoreA m 10 rfl rfl rfl cells_32 (leT rfl) rfl ?_
   clear m; intro u m; simp only [over,zH,zI,zJ,zK,zL,zM,zN,zO,zP,zF,zG,Nat.reduceAdd] at m
   refine n_nil (k58 _ _ ?_)
   refine wp_region_lit (n_val (r_add (m:=0) (n:=1) (r:=1) rfl rfl (by decide)) (n_val (r_move) (n_nil (then_rounds (c_seq fun K60 k60=>wp_region_lit (n_val (r_lssT (m:=1) (n:=3) rfl rfl (by decide)) (n_nil (k60 _ _ ?_))))))))
   refine c_seq fun K61 k61=>c_yes rfl (wp_skip (k61 _ _ ?_))
   refine c_seq fun K62 k62=>wp_block (c_seq fun K63 k63=>wp_region_lit (n_val (r_index_59_1 rfl rfl) ?_))
   simp only [ev,zD,zE,zF,zG]
   refine malloc m zero_28 rfl ?_
   clear m; intro g14 u m
   simp only [ev,zD,zE,zF,zG]
   refine mstoreA m 0 rfl rfl rfl cells_28 (leT rfl) rfl ?_
   clear m; intro u m; simp only [over,zH,zI,zJ,zK,zL,zM,zN,zO,zP,zF,zG,Nat.reduceAdd] at m
   refine n_nil (k63 _ _ ?_)
   refine mq_tail m 12 follows_mixed (by kernel_rfl) ?_
   simp only [zH,zI,zJ,zK]
   refine q_val (r_move) (q_val (r_move) (q_val (r_indexAddrA Tryz.underlying76 cells_32 rfl rfl (by decide) (by decide) rfl) ?_))
   simp only [ev,zD,zE,zF,zG]
   refine ql rfl (fun u m=>((m.b 11 rfl).lies agg_32 cells_32 rfl rfl)) ?_
   simp only [ev,zD,zE,zF,zG,zH,zI,zJ,zK,Nat.zero_add,Nat.reduceAdd,Nat.reduceMul,Int.reduceToNat]
   refine ql rfl (fun u m=>((m.b 8 rfl).full agg_32 cells_32)) ?_
   simp only [ev,zD,zE,zF,zG]
   refine q_val (r_move) ?_
   simp only [ev,zD,zE,zF,zG]
   refine ql rfl (fun u m=>((m.b 0 rfl).full agg_28 cells_28)) ?_
   simp only [ev,zD,zE,zF,zG]
   refine qcP rfl rfl (me_z) ?_
   simp only [ev,zD,zE,zF,zG]
   refine qcP rfl rfl (From_c Iw.h) ?_
   simp only [ev,zD,zE,zF,zG]
   refine qcP rfl rfl (Mul_c Bw.up Bw.up) ?_
   simp only [ev,zD,zE,zF,zG]
   refine qcP rfl rfl (Add_c Bw.up Bw.up) (q_val (r_indexAddrA Tryz.underlying76 cells_32 rfl rfl (by decide) (by decide) rfl) (q_nil ?_))
   clear m; intro u m
   simp only [ev,zD,zE,zF,zG]
   refine mstoreA m 11 rfl rfl rfl cells_32 (leT rfl) rfl ?_
   clear m; intro u m; simp only [over,zH,zI,zJ,zK,zL,zM,zN,zO,zP,zF,zG,Nat.reduceAdd] at m
   refine n_nil (k62 _ _ ?_)
   refine wp_region_lit (n_val (r_add (m:=1) (n:=1) (r:=2) rfl rfl (by decide)) (n_val (r_move) (n_nil (then_rounds (c_seq fun K64 k64=>wp_region_lit (n_val (r_lssT (m:=2) (n:=3) rfl rfl (by decide)) (n_nil (k64 _ _ ?_))))))))
   refine c_seq fun K65 k65=>c_yes rfl (wp_skip (k65 _ _ ?_))
   refine c_seq fun K66 k66=>wp_block (c_seq fun K67 k67=>wp_region_lit (n_val (r_index_59_2 rfl rfl) ?_))
   simp only [ev,zD,zE,zF,zG]
   refine malloc m zero_28 rfl ?_
   clear m; intro g15 u m
   simp only [ev,zD,zE,zF,zG]
   refine mstoreA m 0 rfl rfl rfl cells_28 (leT rfl) rfl ?_
   clear m; intro u m; simp only [over,zH,zI,zJ,zK,zL,zM,zN,zO,zP,zF,zG,Nat.reduceAdd] at m
   refine n_nil (k67 _ _ ?_)
   refine mq_tail m 12 follows_mixed (by kernel_rfl) ?_
   simp only [zH,zI,zJ,zK]
   refine q_val (r_move) (q_val (r_move) (q_val (r_indexAddrA Tryz.underlying76 cells_32 rfl rfl (by decide) (by decide) rfl) ?_))
   simp only [ev,zD,zE,zF,zG]
   refine ql rfl (fun u m=>((m.b 12 rfl).lies agg_32 cells_32 rfl rfl)) ?_
   simp only [ev,zD,zE,zF,zG,zH,zI,zJ,zK,Nat.zero_add,Nat.reduceAdd,Nat.reduceMul,Int.reduceToNat]
   refine ql rfl (fun u m=>((m.b 9 rfl).full agg_32 cells_32)) ?_
   simp only [ev,zD,zE,zF,zG]
   refine q_val (r_move) ?_
   simp only [ev,zD,zE,zF,zG]
   refine ql rfl (fun u m=>((m.b 0 rfl).full agg_28 cells_28)) ?_
   simp only [ev,zD,zE,zF,zG]
   refine qcP rfl rfl (me_z) ?_
   simp only [ev,zD,zE,zF,zG]
   refine qcP rfl rfl (From_c Iw.h) ?_
   simp only [ev,zD,zE,zF,zG]
   refine qcP rfl rfl (Mul_c Bw.up Bw.up) ?_
   simp only [ev,zD,zE,zF,zG]
   refine qcP rfl rfl (Add_c Bw.up Bw.up) (q_val (r_indexAddrA Tryz.underlying76 cells_32 rfl rfl (by decide) (by decide) rfl) (q_nil ?_))
   clear m; intro u m
   simp only [ev,zD,zE,zF,zG]
   refine mstoreA m 12 rfl rfl rfl cells_32 (leT rfl) rfl ?_
   clear m; intro u m; simp only [over,zH,zI,zJ,zK,zL,zM,zN,zO,zP,zF,zG,Nat.reduceAdd] at m
   refine n_nil (k66 _ _ ?_)
   refine wp_region_lit (n_val (r_add (m:=2) (n:=1) (r:=3) rfl rfl (by decide)) (n_val (r_move) (n_nil (then_rounds (c_seq fun K68 k68=>wp_region_lit (n_val (r_lssF (m:=3) (n:=3) rfl rfl (by decide)) (n_nil (k68 _ _ ?_))))))))
   refine c_seq fun K69 k69=>c_no rfl (wp_exit (k53 _ _ ?_))
   refine wp_region_lit (n_val (r_add (m:=2) (n:=1) (r:=3) rfl rfl (by decide)) ?_)
   simp only [ev,zD,zE,zF,zG]
   refine n_val (r_move) (n_nil (then_rounds (c_seq fun K70 k70=>wp_region_lit (n_val (r_lssF (m:=3) (n:=3) rfl rfl (by decide)) (n_nil (k70 _ _ ?_))))))
   refine c_seq fun K71 k71=>c_no rfl (wp_exit (k8 _ _ ?_))
   refine wp_region_lit ?_
   simp only [ev,zD,zE,zF,zG]
   refine n_val (r_add rfl rfl (wrap_i64 (by omega) (by omega))) (n_val (r_move) (n_nil ?_))
   simp only [ev,zD,zE,zF,zG]
   simp only [Exit.inBlock,Exit.then]
   refine ⟨N - (k + 1),_,?_,rfl,?_,?_⟩
   · omega
   · simp only [zQ,zR,zD,zE,setG_cons,setG_nil,setMany_cons,setMany_nil,zF,zG]
   ·
    simp only [zQ,zR,zD,zE]
    exact ⟨k + 1,rfl,(((m.re 13 rfl (by rw [sumT_step ht]; exact (m.b 13 rfl))).re 12 rfl (by rw [sumT_step (f:=(mom P3.x)) ht,sumT_step (f:=(mom P3.y)) ht,sumT_step (f:=(mom P3.z)) ht,← mom_step,← mom_step,← mom_step]; exact (m.b 12 rfl))).sel [false,false,false,false,false,false,false,false,false,false,false,false,true,true,true]),by omega,rfl⟩
  ·
   have hkN : k = N:=by omega
   rw [hkN,show ts.take N = ts from List.take_of_length_le (by rw [hT.len]; exact Nat.le_refl _)] at m
   haveI : Bw 264 (sumT det ts):=⟨sumT_bd (m:=200) (fun u hu=>by haveI:=hT.it u hu; exact det_bd) (by rw [hT.len]; omega)⟩
   haveI : Bw 364 (sumT (mom P3.x) ts):=⟨sumT_bd (m:=300) (fun u hu=>by haveI:=hT.it u hu; exact mom_bd Iw.h.bd Iw.h.bd Iw.h.bd) (by rw [hT.len]; omega)⟩
   haveI : Bw 364 (sumT (mom P3.y) ts):=⟨sumT_bd (m:=300) (fun u hu=>by haveI:=hT.it u hu; exact mom_bd Iw.h.bd Iw.h.bd Iw.h.bd) (by rw [hT.len]; omega)⟩
   haveI : Bw 364 (sumT (mom P3.z) ts):=⟨sumT_bd (m:=300) (fun u hu=>by haveI:=hT.it u hu; exact mom_bd Iw.h.bd Iw.h.bd Iw.h.bd) (by rw [hT.len]; omega)⟩
   refine wp_exit (k4 _ _ ?_)
   refine c_seq fun K72 k72=>wp_region_lit (n_load rfl ((m.b 1 rfl).full agg_32 cells_32) ?_)
   simp only [ev,zD,zE,zF,zG]
   refine mcallP m rfl rfl (Sign_c Bw.up) ?_
   clear m; intro u m
   refine n_val (r_neq rfl rfl) (n_val (r_assign) (n_nil (k72 _ _ ?_)))
   refine c_seq fun K73 k73=>?_
   simp only [ev,zD,zE,zF,zG]
   rcases Decidable.em (isign (sumT det ts) ≠ 0) with hV | hV
   ·
    rw [decide_eq_true hV]
    have hV0:=mt isign_zero_iff.2 hV
    refine wp_region_lit (malloc m zero_49 rfl ?_)
    clear m; intro g4 u m
    refine n_nil (k73 _ _ ?_)
    refine c_seq fun K74 k74=>c_seq fun K75 k75=>wp_region_lit (n_val (r_move) (n_nil (k75 _ _ ?_)))
    refine wp_block (wp_loop_rounds 4 (rounds_step (c_seq fun K76 k76=>wp_region_lit (n_val (r_lssT (m:=0) (n:=3) rfl rfl (by decide)) (n_nil (k76 _ _ ?_))))))
    refine c_seq fun K77 k77=>c_yes rfl (wp_skip (k77 _ _ ?_))
    refine c_seq fun K78 k78=>wp_block (c_seq fun K79 k79=>wp_region_lit (n_val (r_move) ?_))
    simp only [ev,zD,zE,zF,zG]
    refine n_val (r_assign) (n_nil (k79 _ _ ?_))
    refine c_seq fun K80 k80=>wp_region_lit (n_val (r_move) (n_val (r_build_32_) ?_))
    simp only [ev,zD,zE,zF,zG]
    refine mcallP m rfl rfl (whole0_c) ?_
    clear m; intro u m
    refine n_val (r_indexAddrA Tryz.underlying49 cells_34 rfl rfl (by decide) (by decide) rfl) ?_
    simp only [ev,zD,zE,zF,zG]
    refine mstoreA m 0 rfl rfl rfl cells_34 (leT rfl) rfl ?_
    clear m; intro u m; simp only [over,zH,zI,zJ,zK,zL,zM,zN,zO,zP,zF,zG,Nat.reduceAdd] at m
    refine n_nil (k80 _ _ ?_)
    refine c_seq fun K81 k81=>wp_region_lit (n_val (r_move) (n_nil (k81 _ _ ?_)))
    refine c_yes rfl ?_
    simp only [ev,zD,zE,zF,zG]
    refine mq_tail m 9 follows_mixed (by kernel_rfl) ?_
    simp only [zH,zI,zJ,zK]
    refine q_val (r_move) (q_val (r_move) (q_val (r_indexAddrA Tryz.underlying76 cells_32 rfl rfl (by decide) (by decide) rfl) ?_))
    simp only [ev,zD,zE,zF,zG]
    refine ql rfl (fun u m=>((m.b 1 rfl).lies agg_32 cells_32 rfl rfl)) ?_
    simp only [ev,zD,zE,zF,zG,zH,zI,zJ,zK,Nat.zero_add,Nat.reduceAdd,Nat.reduceMul,Int.reduceToNat]
    refine ql rfl (fun u m=>((m.b 2 rfl).full agg_32 cells_32)) ?_
    simp only [ev,zD,zE,zF,zG]
    refine qcP rfl rfl (From_c Iw.h) ?_
    simp only [ev,zD,zE,zF,zG]
    refine qcP rfl rfl (Mul_c Bw.up Bw.up) ?_
    simp only [ev,zD,zE,zF,zG]
    refine qcP rfl rfl (mFrac_c Bw.up Bw.up (by have:=mt isign_zero_iff.2 hV; omega)) (q_val (r_indexAddrA Tryz.underlying49 cells_34 rfl rfl (by decide) (by decide) rfl) (q_nil ?_))
    clear m; intro u m
    simp only [ev,zD,zE,zF,zG]
    refine mstoreA m 0 rfl rfl rfl cells_34 (leT rfl) rfl ?_
    clear m; intro u m; simp only [over,zH,zI,zJ,zK,zL,zM,zN,zO,zP,zF,zG,Nat.reduceAdd] at m
    refine n_nil (k78 _ _ ?_)
    refine wp_region_lit (n_val (r_add (m:=0) (n:=1) (r:=1) rfl rfl (by decide)) (n_val (r_move) (n_nil (then_rounds (c_seq fun K82 k82=>wp_region_lit (n_val (r_lssT (m:=1) (n:=3) rfl rfl (by decide)) (n_nil (k82 _ _ ?_))))))))
    refine c_seq fun K83 k83=>c_yes rfl (wp_skip (k83 _ _ ?_))
    refine c_seq fun K84 k84=>wp_block (c_seq fun K85 k85=>wp_region_lit (n_val (r_move) ?_))
    simp only [ev,zD,zE,zF,zG]
    refine n_val (r_assign) (n_nil (k85 _ _ ?_))
    refine c_seq fun K86 k86=>wp_region_lit (n_val (r_move) (n_val (r_build_32_) ?_))
    simp only [ev,zD,zE,zF,zG]
    refine mcallP m rfl rfl (whole0_c) ?_
    clear m; intro u m
    refine n_val (r_indexAddrA Tryz.underlying49 cells_34 rfl rfl (by decide) (by decide) rfl) ?_
    simp only [ev,zD,zE,zF,zG]
    refine mstoreA m 0 rfl rfl rfl cells_34 (leT rfl) rfl ?_
    clear m; intro u m; simp only [over,zH,zI,zJ,zK,zL,zM,zN,zO,zP,zF,zG,Nat.reduceAdd] at m
    refine n_nil (k86 _ _ ?_)
    refine c_seq fun K87 k87=>wp_region_lit (n_val (r_move) (n_nil (k87 _ _ ?_)))
    refine c_yes rfl ?_
    simp only [ev,zD,zE,zF,zG]
    refine mq_tail m 9 follows_mixed (by kernel_rfl) ?_
    simp only [zH,zI,zJ,zK]
    refine q_val (r_move) (q_val (r_move) (q_val (r_indexAddrA Tryz.underlying76 cells_32 rfl rfl (by decide) (by decide) rfl) ?_))
    simp only [ev,zD,zE,zF,zG]
    refine ql rfl (fun u m=>((m.b 1 rfl).lies agg_32 cells_32 rfl rfl)) ?_
    simp only [ev,zD,zE,zF,zG,zH,zI,zJ,zK,Nat.zero_add,Nat.reduceAdd,Nat.reduceMul,Int.reduceToNat]
    refine ql rfl (fun u m=>((m.b 2 rfl).full agg_32 cells_32)) ?_
    simp only [ev,zD,zE,zF,zG]
    refine qcP rfl rfl (From_c Iw.h) ?_
    simp only [ev,zD,zE,zF,zG]
    refine qcP rfl rfl (Mul_c Bw.up Bw.up) ?_
    simp only [ev,zD,zE,zF,zG]
    refine qcP rfl rfl (mFrac_c Bw.up Bw.up (by have:=mt isign_zero_iff.2 hV; omega)) (q_val (r_indexAddrA Tryz.underlying49 cells_34 rfl rfl (by decide) (by decide) rfl) (q_nil ?_))
    clear m; intro u m
    simp only [ev,zD,zE,zF,zG]
    refine mstoreA m 0 rfl rfl rfl cells_34 (leT rfl) rfl ?_
    clear m; intro u m; simp only [over,zH,zI,zJ,zK,zL,zM,zN,zO,zP,zF,zG,Nat.reduceAdd] at m
    refine n_nil (k84 _ _ ?_)
    refine wp_region_lit (n_val (r_add (m:=1) (n:=1) (r:=2) rfl rfl (by decide)) (n_val (r_move) (n_nil (then_rounds (c_seq fun K88 k88=>wp_region_lit (n_val (r_lssT (m:=2) (n:=3) rfl rfl (by decide)) (n_nil (k88 _ _ ?_))))))))
    refine c_seq fun K89 k89=>c_yes rfl (wp_skip (k89 _ _ ?_))
    refine c_seq fun K90 k90=>wp_block (c_seq fun K91 k91=>wp_region_lit (n_val (r_move) ?_))
    simp only [ev,zD,zE,zF,zG]
    refine n_val (r_assign) (n_nil (k91 _ _ ?_))
    refine c_seq fun K92 k92=>wp_region_lit (n_val (r_move) (n_val (r_build_32_) ?_))
    simp only [ev,zD,zE,zF,zG]
    refine mcallP m rfl rfl (whole0_c) ?_
    clear m; intro u m
    refine n_val (r_indexAddrA Tryz.underlying49 cells_34 rfl rfl (by decide) (by decide) rfl) ?_
    simp only [ev,zD,zE,zF,zG]
    refine mstoreA m 0 rfl rfl rfl cells_34 (leT rfl) rfl ?_
    clear m; intro u m; simp only [over,zH,zI,zJ,zK,zL,zM,zN,zO,zP,zF,zG,Nat.reduceAdd] at m
    refine n_nil (k92 _ _ ?_)
    refine c_seq fun K93 k93=>wp_region_lit (n_val (r_move) (n_nil (k93 _ _ ?_)))
    refine c_yes rfl ?_
    simp only [ev,zD,zE,zF,zG]
    refine mq_tail m 9 follows_mixed (by kernel_rfl) ?_
    simp only [zH,zI,zJ,zK]
    refine q_val (r_move) (q_val (r_move) (q_val (r_indexAddrA Tryz.underlying76 cells_32 rfl rfl (by decide) (by decide) rfl) ?_))
    simp only [ev,zD,zE,zF,zG]
    refine ql rfl (fun u m=>((m.b 1 rfl).lies agg_32 cells_32 rfl rfl)) ?_
    simp only [ev,zD,zE,zF,zG,zH,zI,zJ,zK,Nat.zero_add,Nat.reduceAdd,Nat.reduceMul,Int.reduceToNat]
    refine ql rfl (fun u m=>((m.b 2 rfl).full agg_32 cells_32)) ?_
    simp only [ev,zD,zE,zF,zG]
    refine qcP rfl rfl (From_c Iw.h) ?_
    simp only [ev,zD,zE,zF,zG]
    refine qcP rfl rfl (Mul_c Bw.up Bw.up) ?_
    simp only [ev,zD,zE,zF,zG]
    refine qcP rfl rfl (mFrac_c Bw.up Bw.up (by have:=mt isign_zero_iff.2 hV; omega)) (q_val (r_indexAddrA Tryz.underlying49 cells_34 rfl rfl (by decide) (by decide) rfl) (q_nil ?_))
    clear m; intro u m
    simp only [ev,zD,zE,zF,zG]
    refine mstoreA m 0 rfl rfl rfl cells_34 (leT rfl) rfl ?_
    clear m; intro u m; simp only [over,zH,zI,zJ,zK,zL,zM,zN,zO,zP,zF,zG,Nat.reduceAdd] at m
    refine n_nil (k90 _ _ ?_)
    refine wp_region_lit (n_val (r_add (m:=2) (n:=1) (r:=3) rfl rfl (by decide)) (n_val (r_move) (n_nil (then_rounds (c_seq fun K94 k94=>wp_region_lit (n_val (r_lssF (m:=3) (n:=3) rfl rfl (by decide)) (n_nil (k94 _ _ ?_))))))))
    refine c_seq fun K95 k95=>c_no rfl (wp_exit (k74 _ _ ?_))
    refine c_seq fun K96 k96=>wp_region_lit ?_
    simp only [ev,zD,zE,zF,zG]
    refine n_load rfl ((m.b 0 rfl).full agg_49 cells_49) ?_
    simp only [ev,zD,zE,zF,zG]
    refine n_val (r_move) ?_
    simp only [ev,zD,zE,zF,zG]
    refine mstoreA m 3 rfl rfl rfl cells_49 (leT rfl) rfl ?_
    clear m; intro u m; simp only [over,zH,zI,zJ,zK,zL,zM,zN,zO,zP,zF,zG,Nat.reduceAdd] at m
    refine n_val (r_assign) (n_nil (k96 _ _ ?_))
    refine wp_ret ?_
    simp only [ev,zD,zE,zF,zG]
    try simp only [Exit.inBlock,Exit.then,if_true]
    refine fin2 rfl ⟨_,rfl,((m.b 3 rfl).full agg_49 cells_49)⟩ rfl ?_
    try simp only [zD,zE]
    exact ⟨_,rfl,m.ext,by first | (simp only [cq,if_neg hV0,decide_eq_true hV0]; rfl) | (simp only [cq,if_pos hV0,decide_eq_false (not_not_intro hV0)]; rfl)⟩
   ·
    rw [decide_eq_false hV]
    have hV0:=isign_zero_iff.1 (Decidable.of_not_not hV)
    refine wp_region_lit (malloc m zero_49 rfl ?_)
    clear m; intro g4 u m
    refine n_nil (k73 _ _ ?_)
    refine c_seq fun K97 k97=>c_seq fun K98 k98=>wp_region_lit (n_val (r_move) (n_nil (k98 _ _ ?_)))
    refine wp_block (wp_loop_rounds 4 (rounds_step (c_seq fun K99 k99=>wp_region_lit (n_val (r_lssT (m:=0) (n:=3) rfl rfl (by decide)) (n_nil (k99 _ _ ?_))))))
    refine c_seq fun K100 k100=>c_yes rfl (wp_skip (k100 _ _ ?_))
    refine c_seq fun K101 k101=>wp_block (c_seq fun K102 k102=>wp_region_lit (n_val (r_move) ?_))
    simp only [ev,zD,zE,zF,zG]
    refine n_val (r_assign) (n_nil (k102 _ _ ?_))
    refine c_seq fun K103 k103=>wp_region_lit (n_val (r_move) (n_val (r_build_32_) ?_))
    simp only [ev,zD,zE,zF,zG]
    refine mcallP m rfl rfl (whole0_c) ?_
    clear m; intro u m
    refine n_val (r_indexAddrA Tryz.underlying49 cells_34 rfl rfl (by decide) (by decide) rfl) ?_
    simp only [ev,zD,zE,zF,zG]
    refine mstoreA m 0 rfl rfl rfl cells_34 (leT rfl) rfl ?_
    clear m; intro u m; simp only [over,zH,zI,zJ,zK,zL,zM,zN,zO,zP,zF,zG,Nat.reduceAdd] at m
    refine n_nil (k103 _ _ ?_)
    refine c_seq fun K104 k104=>wp_region_lit (n_val (r_move) (n_nil (k104 _ _ ?_)))
    refine c_no rfl (wp_skip (k101 _ _ ?_))
    refine wp_region_lit (n_val (r_add (m:=0) (n:=1) (r:=1) rfl rfl (by decide)) (n_val (r_move) (n_nil (then_rounds (c_seq fun K105 k105=>wp_region_lit (n_val (r_lssT (m:=1) (n:=3) rfl rfl (by decide)) ?_))))))
    simp only [ev,zD,zE,zF,zG]
    refine n_nil (k105 _ _ ?_)
    refine c_seq fun K106 k106=>c_yes rfl (wp_skip (k106 _ _ ?_))
    refine c_seq fun K107 k107=>wp_block (c_seq fun K108 k108=>wp_region_lit (n_val (r_move) (n_val (r_assign) (n_nil (k108 _ _ ?_)))))
    refine c_seq fun K109 k109=>wp_region_lit (n_val (r_move) (n_val (r_build_32_) ?_))
    simp only [ev,zD,zE,zF,zG]
    refine mcallP m rfl rfl (whole0_c) ?_
    clear m; intro u m
    refine n_val (r_indexAddrA Tryz.underlying49 cells_34 rfl rfl (by decide) (by decide) rfl) ?_
    simp only [ev,zD,zE,zF,zG]
    refine mstoreA m 0 rfl rfl rfl cells_34 (leT rfl) rfl ?_
    clear m; intro u m; simp only [over,zH,zI,zJ,zK,zL,zM,zN,zO,zP,zF,zG,Nat.reduceAdd] at m
    refine n_nil (k109 _ _ ?_)
    refine c_seq fun K110 k110=>wp_region_lit (n_val (r_move) (n_nil (k110 _ _ ?_)))
    refine c_no rfl (wp_skip (k107 _ _ ?_))
    refine wp_region_lit (n_val (r_add (m:=1) (n:=1) (r:=2) rfl rfl (by decide)) (n_val (r_move) (n_nil (then_rounds (c_seq fun K111 k111=>wp_region_lit (n_val (r_lssT (m:=2) (n:=3) rfl rfl (by decide)) ?_))))))
    simp only [ev,zD,zE,zF,zG]
    refine n_nil (k111 _ _ ?_)
    refine c_seq fun K112 k112=>c_yes rfl (wp_skip (k112 _ _ ?_))
    refine c_seq fun K113 k113=>wp_block (c_seq fun K114 k114=>wp_region_lit (n_val (r_move) (n_val (r_assign) (n_nil (k114 _ _ ?_)))))
    refine c_seq fun K115 k115=>wp_region_lit (n_val (r_move) (n_val (r_build_32_) ?_))
    simp only [ev,zD,zE,zF,zG]
    refine mcallP m rfl rfl (whole0_c) ?_
    clear m; intro u m
    refine n_val (r_indexAddrA Tryz.underlying49 cells_34 rfl rfl (by decide) (by decide) rfl) ?_
    simp only [ev,zD,zE,zF,zG]
    refine mstoreA m 0 rfl rfl rfl cells_34 (leT rfl) rfl ?_
    clear m; intro u m; simp only [over,zH,zI,zJ,zK,zL,zM,zN,zO,zP,zF,zG,Nat.reduceAdd] at m
    refine n_nil (k115 _ _ ?_)
    refine c_seq fun K116 k116=>wp_region_lit (n_val (r_move) (n_nil (k116 _ _ ?_)))
    refine c_no rfl (wp_skip (k113 _ _ ?_))
    refine wp_region_lit (n_val (r_add (m:=2) (n:=1) (r:=3) rfl rfl (by decide)) (n_val (r_move) (n_nil (then_rounds (c_seq fun K117 k117=>wp_region_lit (n_val (r_lssF (m:=3) (n:=3) rfl rfl (by decide)) ?_))))))
    simp only [ev,zD,zE,zF,zG]
    refine n_nil (k117 _ _ ?_)
    refine c_seq fun K118 k118=>c_no rfl (wp_exit (k97 _ _ ?_))
    refine c_seq fun K119 k119=>wp_region_lit (n_load rfl ((m.b 0 rfl).full agg_49 cells_49) ?_)
    simp only [ev,zD,zE,zF,zG]
    refine n_val (r_move) ?_
    simp only [ev,zD,zE,zF,zG]
    refine mstoreA m 3 rfl rfl rfl cells_49 (leT rfl) rfl ?_
    clear m; intro u m; simp only [over,zH,zI,zJ,zK,zL,zM,zN,zO,zP,zF,zG,Nat.reduceAdd] at m
    refine n_val (r_assign) (n_nil (k119 _ _ ?_))
    refine wp_ret ?_
    simp only [ev,zD,zE,zF,zG]
    try simp only [Exit.inBlock,Exit.then,if_true]
    refine fin2 rfl ⟨_,rfl,((m.b 3 rfl).full agg_49 cells_49)⟩ rfl ?_
    try simp only [zD,zE]
    exact ⟨_,rfl,m.ext,by first | (simp only [cq,if_neg hV0,decide_eq_true hV0]; rfl) | (simp only [cq,if_pos hV0,decide_eq_false (not_not_intro hV0)]; rfl)⟩
end Go.Proofs.YtmcgcnpgkkfkoaaGreatDoor
namespace Go.Proofs.YtmcgcnpgkkfkoaaGreatDoor
open Go.RowKit Go.Lith
set_option maxRecDepth 100000
attribute [local irreducible] wpList wpQuiet wpMix wpMixH wpTree Code.wp
end Go.Proofs.YtmcgcnpgkkfkoaaGreatDoor
namespace Go.Proofs.YtmcgcnpgkkfkoaaGreatDoor
open Go.RowKit Go.Lith
set_option maxRecDepth 100000
attribute [local irreducible] wpList wpQuiet wpMix wpMixH wpTree Code.wp
end Go.Proofs.YtmcgcnpgkkfkoaaGreatDoor
namespace Go.Proofs.YtmcgcnpgkkfkoaaGreatDoor
open Go.RowKit Go.Lith
set_option maxRecDepth 100000
attribute [local irreducible] wpList wpQuiet wpMix wpMixH wpTree Code.wp
end Go.Proofs.YtmcgcnpgkkfkoaaGreatDoor
namespace Go.Proofs.YtmcgcnpgkkfkoaaGreatDoor
open Go.RowKit Go.Lith
set_option maxRecDepth 100000
attribute [local irreducible] wpList wpQuiet wpMix wpMixH wpTree Code.wp
instance : Iw 0:=⟨by unfold I64; decide⟩
instance : Iw 2:=⟨by unfold I64; decide⟩
instance : Iw 5:=⟨by unfold I64; decide⟩
instance : Iw 9:=⟨by unfold I64; decide⟩
instance : Iw 16:=⟨by unfold I64; decide⟩
instance : Iw 32:=⟨by unfold I64; decide⟩
instance : Iw (-1):=⟨by unfold I64; decide⟩
theorem lfrac_c {n d : Int} [Iw n] [Iw d] : Pure Tryz.prog 24 [.int .i64 n,.int .i64 d] (Qc n d):=by
 intro w
 refine ⟨en_24,?_⟩
 have m:=Mem.refl w
 go_enter Tryz.func24,Tryz.ntmps24
 refine c_seq fun K1 k1=>wp_region_lit (malloc m zero_34 rfl ?_)
 clear m; intro g1 u m
 refine n_nil (k1 _ _ ?_)
 refine c_seq fun K2 k2=>wp_region_lit (n_val (r_move) ?_)
 simp only [ev,zD,zE,zF,zG]
 refine mcallP m rfl rfl (rFrom_c Iw.h) ?_
 clear m; intro u m
 refine n_val (r_move) ?_
 simp only [ev,zD,zE,zF,zG]
 refine mcallP m rfl rfl (rFrom_c Iw.h) ?_
 clear m; intro u m
 refine n_val (r_build_34_0_1 rfl rfl) ?_
 simp only [ev,zD,zE,zF,zG]
 refine mstoreA m 0 rfl rfl rfl cells_34 (leT rfl) rfl ?_
 clear m; intro u m; simp only [over,zH,zI,zJ,zK,zL,zM,zN,zO,zP,zF,zG,Nat.reduceAdd] at m
 refine n_nil (k2 _ _ ?_)
 refine wp_ret ?_
 try simp only [Exit.inBlock,Exit.then,if_true]
 refine fin1 rfl ⟨_,rfl,((m.b 0 rfl).full agg_34 cells_34)⟩ ?_
 try simp only [zD,zE]
 exact ⟨_,rfl,m.ext,rfl⟩
theorem far_c {x : P3} {t : T3} [I3 x] [IT t] {k : Int} [Iw k] (h : triq x t = (k : Rat)) : Pure Tryz.prog 39 [pt x,tr t,.int .i64 k] (.bool true):=by
 intro w
 refine ⟨en_39,?_⟩
 have m:=Mem.refl w
 go_enter Tryz.func39,Tryz.ntmps39
 refine c_seq fun K1 k1=>wp_region_lit (mboxA m rfl ?_)
 clear m; intro g1 u m
 simp only [ev,zD,zE,zF,zG]
 refine mboxA m rfl ?_
 clear m; intro g2 u m
 refine n_val (r_assign) (n_nil (k1 _ _ ?_))
 refine c_seq fun K2 k2=>wp_region_lit ?_
 simp only [ev,zD,zE,zF,zG]
 refine n_load rfl ((m.b 1 rfl).full agg_28 cells_28) ?_
 simp only [ev,zD,zE,zF,zG]
 refine n_load rfl ((m.b 0 rfl).full agg_59 cells_59) ?_
 simp only [ev,zD,zE,zF,zG]
 refine n_bs_24_1 rfl ?_
 intro u g3 e hg hB; replace m:=m.newB e hg hB; clear e hg hB
 simp only [ev,zD,zE,zF,zG]
 refine mcall m rfl rfl (Far2_c (ts:=[t]) _ (TrisAt.one (m.b 0 rfl)) (by decide)) ?_
 clear m; rintro v u m rfl
 simp only [ev,zD,zE,zF,zG]
 rw [show farq x [t] = (k : Rat) from h,show decide ((0 : Int) < ((1 : Nat) : Int)) = true from rfl]
 refine n_val (r_move) (n_val (r_extract rfl rfl) (n_val (r_extract rfl rfl) ?_))
 simp only [ev,zD,zE,zF,zG]
 refine malloc m zero_34 rfl ?_
 clear m; intro g4 u m
 simp only [ev,zD,zE,zF,zG]
 refine mstoreA m 0 rfl rfl rfl cells_34 (leT rfl) rfl ?_
 clear m; intro u m; simp only [over,zH,zI,zJ,zK,zL,zM,zN,zO,zP,zF,zG,Nat.reduceAdd] at m
 refine n_val (r_assign) (n_nil (k2 _ _ ?_))
 refine c_seq fun K3 k3=>?_
 simp only [ev,zD,zE,zF,zG]
 refine mq m follows_mixed (by kernel_rfl) (q_val (r_move) (q_val (r_move) (q_want rfl ?_)))
 simp only [ev,zD,zE,zF,zG]
 refine ql rfl (fun u m=>((m.b 0 rfl).full agg_34 cells_34)) ?_
 simp only [ev,zD,zE,zF,zG]
 refine q_want rfl (q_val (r_move) (q_want rfl ?_))
 simp only [ev,zD,zE,zF,zG]
 refine qcP rfl rfl (lfrac_c) (q_want rfl (q_val (r_as (eq_eql_34 rfl rfl) (bool_as (decide_eq_true ⟨rfl,rfl,rfl,rfl⟩))) (q_val (r_pickT rfl) (q_val (r_assign) ?_))))
 simp only [ev,zD,zE,zF,zG]
 refine q_nil ?_
 clear m; intro u m
 refine k3 _ _ ?_
 refine wp_ret ?_
 try simp only [Exit.inBlock,Exit.then,if_true]
 refine fin1 rfl rfl ?_
 try simp only [zD,zE]
 exact ⟨_,rfl,m.ext,rfl⟩
def T0 : T3:=⟨⟨0,0,0⟩,⟨4,0,0⟩,⟨0,4,0⟩⟩
instance : IT T0:=inferInstanceAs (IT ⟨⟨0,0,0⟩,⟨4,0,0⟩,⟨0,4,0⟩⟩)
def T1 : T3:=⟨⟨0,0,0⟩,⟨1,0,0⟩,⟨0,1,1⟩⟩
instance : IT T1:=inferInstanceAs (IT ⟨⟨0,0,0⟩,⟨1,0,0⟩,⟨0,1,1⟩⟩)
def tet : List T3:=[⟨⟨0,0,0⟩,⟨0,4,0⟩,⟨4,0,0⟩⟩,⟨⟨0,0,0⟩,⟨4,0,0⟩,⟨0,0,4⟩⟩,⟨⟨4,0,0⟩,⟨0,4,0⟩,⟨0,0,4⟩⟩,⟨⟨0,4,0⟩,⟨0,0,0⟩,⟨0,0,4⟩⟩]
theorem tet_it : ∀ t ∈ tet,IT t:=fun t ht=>by
 simp only [tet,List.mem_cons,List.not_mem_nil,or_false] at ht
 rcases ht with rfl | rfl | rfl | rfl <;> infer_instance
theorem isq {n r : Nat} (h1 : r * r ≤ n) (h2 : n < (r + 1) * (r + 1)) : isqrt n = r:=(isqrt_unique h1 h2).symm
theorem low0 : sumT lowA [T0] = 16:=by rw [sumT_one]; show ((isqrt 256 : Nat) : Int) = 16; rw [isq (r:=16) (by decide) (by decide)]; rfl
theorem high0 : sumT highA [T0] = 16:=by
 have h : lowA T0 = 16:=by have:=low0; rwa [sumT_one] at this
 rw [sumT_one,highA,h]; rfl
theorem low1 : sumT lowA [T1] = 1:=by rw [sumT_one]; show ((isqrt 2 : Nat) : Int) = 1; rw [isq (r:=1) (by decide) (by decide)]; rfl
theorem high1 : sumT highA [T1] = 2:=by
 have h : lowA T1 = 1:=by have:=low1; rwa [sumT_one] at this
 rw [sumT_one,highA,h]; rfl
theorem tet_vol : sumT det tet = 64:=by decide +kernel
theorem tet_x : sumT (mom P3.x) tet = 256:=by decide +kernel
theorem tet_y : sumT (mom P3.y) tet = 256:=by decide +kernel
theorem tet_z : sumT (mom P3.z) tet = 256:=by decide +kernel
theorem cq_one : cq 256 64 = 1:=by decide +kernel
theorem sanity_c  : Pure Tryz.prog 10 [] (.bool true):=by
 intro w
 refine ⟨en_10,?_⟩
 have m:=Mem.refl w
 go_enter Tryz.func10,Tryz.ntmps10
 refine c_seq fun K1 k1=>wp_region_lit (n_val (r_assign) (n_nil (k1 _ _ ?_)))
 refine c_seq fun K2 k2=>wp_region_lit (n_val (r_build_28_) ?_)
 simp only [ev,zD,zE,zF,zG]
 refine malloc m zero_28 rfl ?_
 clear m; intro g1 u m
 simp only [ev,zD,zE,zF,zG]
 refine mstoreA m 0 rfl rfl rfl cells_28 (leT rfl) rfl ?_
 clear m; intro u m; simp only [over,zH,zI,zJ,zK,zL,zM,zN,zO,zP,zF,zG,Nat.reduceAdd] at m
 refine n_nil (k2 _ _ ?_)
 refine c_seq fun K3 k3=>wp_region_lit (n_val (r_build_28_0 rfl) ?_)
 simp only [ev,zD,zE,zF,zG]
 refine malloc m zero_28 rfl ?_
 clear m; intro g2 u m
 simp only [ev,zD,zE,zF,zG]
 refine mstoreA m 0 rfl rfl rfl cells_28 (leT rfl) rfl ?_
 clear m; intro u m; simp only [over,zH,zI,zJ,zK,zL,zM,zN,zO,zP,zF,zG,Nat.reduceAdd] at m
 refine n_nil (k3 _ _ ?_)
 refine c_seq fun K4 k4=>wp_region_lit (n_val (r_build_28_1 rfl) ?_)
 simp only [ev,zD,zE,zF,zG]
 refine malloc m zero_28 rfl ?_
 clear m; intro g3 u m
 simp only [ev,zD,zE,zF,zG]
 refine mstoreA m 0 rfl rfl rfl cells_28 (leT rfl) rfl ?_
 clear m; intro u m; simp only [over,zH,zI,zJ,zK,zL,zM,zN,zO,zP,zF,zG,Nat.reduceAdd] at m
 refine n_nil (k4 _ _ ?_)
 refine c_seq fun K5 k5=>wp_region_lit (n_val (r_build_28_2 rfl) ?_)
 simp only [ev,zD,zE,zF,zG]
 refine malloc m zero_28 rfl ?_
 clear m; intro g4 u m
 simp only [ev,zD,zE,zF,zG]
 refine mstoreA m 0 rfl rfl rfl cells_28 (leT rfl) rfl ?_
 clear m; intro u m; simp only [over,zH,zI,zJ,zK,zL,zM,zN,zO,zP,zF,zG,Nat.reduceAdd] at m
 refine n_nil (k5 _ _ ?_)
 refine c_seq fun K6 k6=>wp_region_lit (n_load rfl ((m.b 3 rfl).full agg_28 cells_28) ?_)
 simp only [ev,zD,zE,zF,zG]
 refine n_load rfl ((m.b 2 rfl).full agg_28 cells_28) ?_
 simp only [ev,zD,zE,zF,zG]
 refine n_load rfl ((m.b 1 rfl).full agg_28 cells_28) ?_
 simp only [ev,zD,zE,zF,zG]
 refine n_val (r_build_59_0_1_2 rfl rfl rfl) ?_
 simp only [ev,zD,zE,zF,zG]
 refine malloc m zero_59 rfl ?_
 clear m; intro g5 u m
 simp only [ev,zD,zE,zF,zG]
 refine mstoreA m 0 rfl rfl rfl cells_59 (leT rfl) rfl ?_
 clear m; intro u m; simp only [over,zH,zI,zJ,zK,zL,zM,zN,zO,zP,zF,zG,Nat.reduceAdd] at m
 refine n_nil (k6 _ _ ?_)
 refine c_seq fun K7 k7=>wp_region_lit (n_load rfl ((m.b 4 rfl).full agg_28 cells_28) ?_)
 simp only [ev,zD,zE,zF,zG]
 refine n_load rfl ((m.b 2 rfl).full agg_28 cells_28) ?_
 simp only [ev,zD,zE,zF,zG]
 refine n_load rfl ((m.b 3 rfl).full agg_28 cells_28) ?_
 simp only [ev,zD,zE,zF,zG]
 refine n_val (r_build_59_0_1_2 rfl rfl rfl) ?_
 simp only [ev,zD,zE,zF,zG]
 refine n_load rfl ((m.b 4 rfl).full agg_28 cells_28) ?_
 simp only [ev,zD,zE,zF,zG]
 refine n_load rfl ((m.b 3 rfl).full agg_28 cells_28) ?_
 simp only [ev,zD,zE,zF,zG]
 refine n_load rfl ((m.b 1 rfl).full agg_28 cells_28) ?_
 simp only [ev,zD,zE,zF,zG]
 refine n_val (r_build_59_0_1_2 rfl rfl rfl) ?_
 simp only [ev,zD,zE,zF,zG]
 refine n_load rfl ((m.b 3 rfl).full agg_28 cells_28) ?_
 simp only [ev,zD,zE,zF,zG]
 refine n_load rfl ((m.b 2 rfl).full agg_28 cells_28) ?_
 simp only [ev,zD,zE,zF,zG]
 refine n_load rfl ((m.b 1 rfl).full agg_28 cells_28) ?_
 simp only [ev,zD,zE,zF,zG]
 refine n_val (r_build_59_0_1_2 rfl rfl rfl) ?_
 simp only [ev,zD,zE,zF,zG]
 refine n_load rfl ((m.b 2 rfl).full agg_28 cells_28) ?_
 simp only [ev,zD,zE,zF,zG]
 refine n_load rfl ((m.b 4 rfl).full agg_28 cells_28) ?_
 simp only [ev,zD,zE,zF,zG]
 refine n_load rfl ((m.b 1 rfl).full agg_28 cells_28) ?_
 simp only [ev,zD,zE,zF,zG]
 refine n_val (r_build_59_0_1_2 rfl rfl rfl) ?_
 simp only [ev,zD,zE,zF,zG]
 refine n_bs_24_4 rfl rfl rfl rfl ?_
 intro u g6 e hg hB; replace m:=m.newB e hg hB; clear e hg hB
 refine n_val (r_assign) (n_nil (k7 _ _ ?_))
 refine c_seq fun K8 k8=>wp_region_lit (n_val (r_build_28_0_1_2 rfl rfl rfl) ?_)
 simp only [ev,zD,zE,zF,zG]
 refine n_load rfl ((m.b 1 rfl).full agg_59 cells_59) ?_
 simp only [ev,zD,zE,zF,zG]
 refine mcallP m rfl rfl (far_c (x:=⟨1,1,3⟩) (t:=⟨⟨0,0,0⟩,⟨4,0,0⟩,⟨0,4,0⟩⟩) (k:=9) (by decide +kernel)) ?_
 clear m; intro u m
 refine n_val (r_move) (n_want rfl (n_val (r_build_28_0_1 rfl rfl) (n_want rfl ?_)))
 simp only [ev,zD,zE,zF,zG]
 refine n_load rfl ((m.b 1 rfl).full agg_59 cells_59) ?_
 simp only [ev,zD,zE,zF,zG]
 refine n_want rfl (mcallP m rfl rfl (far_c (x:=⟨5,-1,0⟩) (t:=⟨⟨0,0,0⟩,⟨4,0,0⟩,⟨0,4,0⟩⟩) (k:=2) (by decide +kernel)) ?_)
 clear m; intro u m
 refine n_val (r_pickT rfl) (n_val (r_move) (n_want rfl (n_val (r_build_28_0_1 rfl rfl) ?_)))
 simp only [ev,zD,zE,zF,zG]
 refine n_want rfl (n_load rfl ((m.b 1 rfl).full agg_59 cells_59) ?_)
 simp only [ev,zD,zE,zF,zG]
 refine n_want rfl (mcallP m rfl rfl (far_c (x:=⟨3,3,0⟩) (t:=⟨⟨0,0,0⟩,⟨4,0,0⟩,⟨0,4,0⟩⟩) (k:=2) (by decide +kernel)) ?_)
 clear m; intro u m
 refine n_val (r_pickT rfl) (n_val (r_assign) (n_nil (k8 _ _ ?_)))
 refine c_seq fun K9 k9=>wp_region_lit (n_val (r_build_28_2 rfl) ?_)
 simp only [ev,zD,zE,zF,zG]
 refine n_val (r_build_28_0_1 rfl rfl) (n_val (r_build_28_0_1 rfl rfl) (n_val (r_build_28_0_1 rfl rfl) (n_val (r_build_59_0_1_2 rfl rfl rfl) ?_)))
 simp only [ev,zD,zE,zF,zG]
 refine mcallP m rfl rfl (far_c (x:=⟨0,0,1⟩) (t:=⟨⟨1,1,0⟩,⟨3,1,0⟩,⟨2,1,0⟩⟩) (k:=3) (by decide +kernel)) ?_
 clear m; intro u m
 refine n_val (r_assign) (n_nil (k9 _ _ ?_))
 refine c_seq fun K10 k10=>wp_region_lit ?_
 simp only [ev,zD,zE,zF,zG]
 refine n_load rfl ((m.b 1 rfl).full agg_59 cells_59) ?_
 simp only [ev,zD,zE,zF,zG]
 refine n_bs_24_1 rfl ?_
 intro u g7 e hg hB; replace m:=m.newB e hg hB; clear e hg hB
 simp only [ev,zD,zE,zF,zG]
 refine mcall m rfl rfl (Area_c (ts:=[T0]) _ (TrisAt.one (t:=T0) (m.b 0 rfl)) (by decide)) ?_
 clear m; rintro v u m rfl
 simp only [ev,zD,zE,zF,zG]
 rw [low0,high0]
 refine n_val (r_move) (n_val (r_extract rfl rfl) (n_val (r_extract rfl rfl) ?_))
 simp only [ev,zD,zE,zF,zG]
 refine malloc m zero_32 rfl ?_
 clear m; intro g8 u m
 simp only [ev,zD,zE,zF,zG]
 refine malloc m zero_32 rfl ?_
 clear m; intro g9 u m
 simp only [ev,zD,zE,zF,zG]
 refine mstoreA m 1 rfl rfl rfl cells_32 (leT rfl) rfl ?_
 clear m; intro u m; simp only [over,zH,zI,zJ,zK,zL,zM,zN,zO,zP,zF,zG,Nat.reduceAdd] at m
 refine mstoreA m 0 rfl rfl rfl cells_32 (leT rfl) rfl ?_
 clear m; intro u m; simp only [over,zH,zI,zJ,zK,zL,zM,zN,zO,zP,zF,zG,Nat.reduceAdd] at m
 refine n_nil (k10 _ _ ?_)
 refine c_seq fun K11 k11=>wp_region_lit (n_load rfl ((m.b 8 rfl).full agg_28 cells_28) ?_)
 simp only [ev,zD,zE,zF,zG]
 refine n_val (r_build_28_0 rfl) (n_val (r_build_28_1_2 rfl rfl) (n_val (r_build_59_0_1_2 rfl rfl rfl) ?_))
 simp only [ev,zD,zE,zF,zG]
 refine n_bs_24_1 rfl ?_
 intro u g10 e hg hB; replace m:=m.newB e hg hB; clear e hg hB
 simp only [ev,zD,zE,zF,zG]
 refine mcall m rfl rfl (Area_c (ts:=[T1]) _ (TrisAt.one (t:=T1) (m.b 0 rfl)) (by decide)) ?_
 clear m; rintro v u m rfl
 simp only [ev,zD,zE,zF,zG]
 rw [low1,high1]
 refine n_val (r_move) (n_val (r_extract rfl rfl) (n_val (r_extract rfl rfl) ?_))
 simp only [ev,zD,zE,zF,zG]
 refine malloc m zero_32 rfl ?_
 clear m; intro g11 u m
 simp only [ev,zD,zE,zF,zG]
 refine malloc m zero_32 rfl ?_
 clear m; intro g12 u m
 simp only [ev,zD,zE,zF,zG]
 refine mstoreA m 1 rfl rfl rfl cells_32 (leT rfl) rfl ?_
 clear m; intro u m; simp only [over,zH,zI,zJ,zK,zL,zM,zN,zO,zP,zF,zG,Nat.reduceAdd] at m
 refine mstoreA m 0 rfl rfl rfl cells_32 (leT rfl) rfl ?_
 clear m; intro u m; simp only [over,zH,zI,zJ,zK,zL,zM,zN,zO,zP,zF,zG,Nat.reduceAdd] at m
 refine n_nil (k11 _ _ ?_)
 refine c_seq fun K12 k12=>wp_region_lit (n_val (r_move) ?_)
 simp only [ev,zD,zE,zF,zG]
 refine mcall m rfl rfl (Centre_c (ts:=tet) _ (TrisAt.of_cells (ts:=tet) (m.b 6 rfl) rfl rfl tet_it) (by decide)) ?_
 clear m; rintro v u m rfl
 simp only [ev,zD,zE,zF,zG]
 rw [tet_vol,tet_x,tet_y,tet_z,cq_one,show decide ((64 : Int) ≠ 0) = true from rfl]
 refine n_val (r_move) (n_val (r_extract rfl rfl) (n_val (r_extract rfl rfl) ?_))
 simp only [ev,zD,zE,zF,zG]
 refine malloc m zero_49 rfl ?_
 clear m; intro g13 u m
 simp only [ev,zD,zE,zF,zG]
 refine mstoreA m 0 rfl rfl rfl cells_49 (leT rfl) rfl ?_
 clear m; intro u m; simp only [over,zH,zI,zJ,zK,zL,zM,zN,zO,zP,zF,zG,Nat.reduceAdd] at m
 refine n_val (r_assign) (n_nil (k12 _ _ ?_))
 refine c_seq fun K13 k13=>?_
 simp only [ev,zD,zE,zF,zG]
 refine mq m follows_mixed (by kernel_rfl) (ql rfl (fun u m=>((m.b 5 rfl).full agg_32 cells_32)) ?_)
 simp only [ev,zD,zE,zF,zG]
 refine qcP rfl rfl (rFrom_c Iw.h) (q_val (r_as (eq_eql_32 rfl rfl) (bool_as (decide_eq_true ⟨rfl,rfl⟩))) (q_val (r_move) (q_want rfl ?_)))
 simp only [ev,zD,zE,zF,zG]
 refine ql rfl (fun u m=>((m.b 4 rfl).full agg_32 cells_32)) ?_
 simp only [ev,zD,zE,zF,zG]
 refine q_want rfl (ql rfl (fun u m=>((m.b 5 rfl).full agg_32 cells_32)) ?_)
 simp only [ev,zD,zE,zF,zG]
 refine q_want rfl (q_val (r_as (eq_eql_32 rfl rfl) (bool_as (decide_eq_true ⟨rfl,rfl⟩))) (q_val (r_pickT rfl) (q_val (r_move) (q_want rfl ?_))))
 simp only [ev,zD,zE,zF,zG]
 refine ql rfl (fun u m=>((m.b 2 rfl).full agg_32 cells_32)) ?_
 simp only [ev,zD,zE,zF,zG]
 refine q_want rfl (qcP rfl rfl (rFrom_c Iw.h) (q_want rfl (q_val (r_as (eq_eql_32 rfl rfl) (bool_as (decide_eq_true ⟨rfl,rfl⟩))) (q_val (r_pickT rfl) (q_val (r_move) ?_)))))
 simp only [ev,zD,zE,zF,zG]
 refine q_want rfl (ql rfl (fun u m=>((m.b 1 rfl).full agg_32 cells_32)) ?_)
 simp only [ev,zD,zE,zF,zG]
 refine q_want rfl (qcP rfl rfl (rFrom_c Iw.h) (q_want rfl (q_val (r_as (eq_eql_32 rfl rfl) (bool_as (decide_eq_true ⟨rfl,rfl⟩))) (q_val (r_pickT rfl) (q_val (r_assign) ?_)))))
 simp only [ev,zD,zE,zF,zG]
 refine q_nil ?_
 clear m; intro u m
 refine k13 _ _ ?_
 refine c_seq fun K14 k14=>mq m follows_mixed (by kernel_rfl) (q_val (r_move) (q_val (r_move) (q_want rfl (q_val (r_move) (q_val (r_pickT rfl) ?_)))))
 simp only [ev,zD,zE,zF,zG]
 refine q_val (r_move) (q_want rfl (q_val (r_move) (q_val (r_pickT rfl) (q_val (r_move) ?_))))
 simp only [ev,zD,zE,zF,zG]
 refine q_want rfl (q_val (r_move) (q_val (r_pickT rfl) (q_val (r_move) (q_want rfl (q_val (r_move) ?_)))))
 simp only [ev,zD,zE,zF,zG]
 refine q_want rfl (qc rfl rfl (fun u m=>Volume_c (ts:=tet) _ (TrisAt.of_cells (ts:=tet) ((m.b 7 rfl)) rfl rfl tet_it) (by decide)) (q_want rfl ?_))
 simp only [ev,zD,zE,zF,zG]
 refine qcP rfl rfl (lfrac_c) (q_want rfl (q_val (r_as (eq_eql_34 rfl rfl) (bool_as (decide_eq_true ⟨rfl,rfl,rfl,rfl⟩))) (q_val (r_pickT rfl) (q_val (r_move) ?_))))
 simp only [ev,zD,zE,zF,zG]
 refine q_want rfl (ql rfl (fun u m=>((m.b 0 rfl).full agg_49 cells_49)) ?_)
 simp only [ev,zD,zE,zF,zG]
 refine q_want rfl (qcP rfl rfl (lfrac_c) (q_want rfl ?_))
 simp only [ev,zD,zE,zF,zG]
 refine qcP rfl rfl (lfrac_c) (q_want rfl ?_)
 simp only [ev,zD,zE,zF,zG]
 refine qcP rfl rfl (lfrac_c) (q_want rfl (q_val (r_build_49_0_1_2 rfl rfl rfl) (q_want rfl (q_val (r_as (eq_eql_49 rfl rfl) (bool_as (decide_eq_true ⟨rfl,rfl,rfl,rfl,rfl,rfl,rfl,rfl,rfl,rfl,rfl,rfl⟩))) (q_val (r_pickT rfl) ?_)))))
 simp only [ev,zD,zE,zF,zG]
 refine q_val (r_assign) (q_nil ?_)
 clear m; intro u m
 refine k14 _ _ ?_
 refine wp_ret ?_
 simp only [ev,zD,zE,zF,zG]
 try simp only [Exit.inBlock,Exit.then,if_true]
 refine fin1 rfl rfl ?_
 try simp only [zD,zE]
 exact ⟨_,rfl,m.ext,rfl⟩
end Go.Proofs.YtmcgcnpgkkfkoaaGreatDoor
namespace Go.Lith
open Go.RowKit
structure GX (w w' : World) : Prop where
  ext : Ext w w'
  dr : w.drawn ≤ w'.drawn
theorem GX.trans {a b c : World} (h : GX a b) (k : GX b c) : GX a c:=⟨h.ext.trans k.ext,Nat.le_trans h.dr k.dr⟩
structure MemG (w0 w : World) (is : List It) : Prop where
  ext : GX w0 w
  mem : Mem w0 w is
def GPure (P : Program) (f : FuncId) (args : List Value) (v : Value) : Prop:=∀ w,Enters P f ∧ Calls P f args.toArray w fun e w'=>∃ u,e = .returned u ∧ GX w w' ∧ u = v
theorem GPure.pure {P : Program} {f : FuncId} {args : List Value} {v : Value} (h : GPure P f args v) : Pure P f args v:=fun w=>⟨(h w).1,(h w).2.mono fun _ _ ⟨u,he,hX,hv⟩=>⟨u,he,hX.ext,hv⟩⟩
section
variable {w0 w w' : World} {is : List It}
theorem MemG.refl (w : World) : MemG w w []:=⟨⟨Ext.refl w,Nat.le_refl _⟩,Mem.refl w⟩
theorem MemG.go (m : MemG w0 w is) {js : List It} (h : Mem w0 w' js) (d : w.drawn ≤ w'.drawn) : MemG w0 w' js:=⟨⟨h.ext,Nat.le_trans m.ext.dr d⟩,h⟩
theorem MemG.ext' (m : MemG w0 w is) (e : GX w w') : MemG w0 w' is:=m.go (m.mem.ext' e.ext) e.dr
theorem MemG.b (m : MemG w0 w is) (k : Nat) {g : Nat} {cs : List Value} {t : TypeId} (hk : is[k]? = some (bI g cs t)) : Blk w g cs t:=m.mem.b k hk
theorem MemG.sel (m : MemG w0 w is) (bs : List Bool) : MemG w0 w (selB bs is):=⟨m.ext,m.mem.sel bs⟩
end
section
variable {P : Program} {ds : List Deferred} {l : List Value} {x y : Operand} {T ty : TypeId}
variable {ops : Array Oper} {Q : Exit → Act → World → Prop} {rest : List Oper} {d : Nat} {pos : String} {after : Array Edge} {w w0 : World} {is : List It} {v : Value}
theorem Gmbox {cs : List Value} (m : MemG w0 w is) (hv : (ev l x).cells = cs.toArray) (h : ∀ g u,MemG w0 u (bI g cs T :: is) → wpList P ops Q rest (Fr (l.set d (.pointer (some ⟨g,0,none⟩))) ds) u) :
    wpList P ops Q (Oper.mk (some d) (.box T x) ty pos after none :: rest) (Fr l ds) w :=
  n_newW (w':=w.alloc (.cells cs.toArray T)) (v:=.pointer (some ⟨w.heap.size,0,none⟩)) (fun o ho _=>by simp [execOp,ho,ev_eq,Instr.box,newVar,newRow,hv,newObj,Sem.run]) (h _ _ (m.go (m.mem.newB ((Ext.refl w).alloc _) (Nat.le_refl _) (blk_alloc w cs T)) (Nat.le_refl _)))
theorem GmboxA {cs : List Value} (m : MemG w0 w is) (hv : ev l x = .agg cs.toArray) (h : ∀ g u,MemG w0 u (bI g cs T :: is) → wpList P ops Q rest (Fr (l.set d (.pointer (some ⟨g,0,none⟩))) ds) u) :
    wpList P ops Q (Oper.mk (some d) (.box T x) ty pos after none :: rest) (Fr l ds) w:=Gmbox m (by rw [hv]; rfl) h
theorem Gmalloc {cs : List Value} {z : Value} (m : MemG w0 w is) (hZ : Zero P T z) (hv : z.cells = cs.toArray) (h : ∀ g u,MemG w0 u (bI g cs T :: is) → wpList P ops Q rest (Fr (l.set d (.pointer (some ⟨g,0,none⟩))) ds) u) :
    wpList P ops Q (Oper.mk (some d) (.alloc T) ty pos after none :: rest) (Fr l ds) w:=by
  obtain ⟨inf,hi,hz⟩:=hZ
  exact n_newW (w':=w.alloc (.cells cs.toArray T)) (v:=.pointer (some ⟨w.heap.size,0,none⟩)) (fun o ho _=>by simp [execOp,ho,Instr.alloc,zeroValue,typeInfo,hi,hz,newVar,newRow,hv,newObj,Sem.run]) (h _ _ (m.go (m.mem.newB ((Ext.refl w).alloc _) (Nat.le_refl _) (blk_alloc w cs T)) (Nat.le_refl _)))
theorem Gmstore {g off : Nat} {cs us : List Value} {t : TypeId} (m : MemG w0 w is) (k : Nat) (hk : is[k]? = some (bI g cs t)) (hx : ev l x = .pointer (some ⟨g,off,none⟩)) (hv : (ev l y).cells = us.toArray) (hc : Cells P T us.length) (hfit : off + us.length ≤ cs.length) (h1 : (us.all (·.oneCell')) = true)
    (h : ∀ u,MemG w0 u (is.set k (bI g (over cs off us) t)) → wpList P ops Q rest (Fr l ds) u) : wpList P ops Q (Oper.mk none (.store T x y) ty pos after none :: rest) (Fr l ds) w:=by
  have hB:=m.b k hk
  have hC:=chg_setRow w g (over cs off us).toArray
  exact n_skipW (w':=w.setRow g (over cs off us).toArray) (fun o ho=>by simp [execOp,ho,ev_eq,hx,Instr.storeAt,Instr.sureAddr,run_storeVar hc hv hB hfit (allT h1)])
    (h _ (m.go (m.mem.put k hk hC.os hC.tape hC.output (by rw [hC.size]; exact Nat.le_refl _) (fun b _ hne=>hC.block b fun e=>hne (by rw [e]; rfl)) (setRow_heap w g cs.toArray _ t _ hB) (.inl rfl)) (Nat.le_refl _)))
theorem GmstoreA {g off : Nat} {cs us : List Value} {t : TypeId} (m : MemG w0 w is) (k : Nat) (hk : is[k]? = some (bI g cs t)) (hx : ev l x = .pointer (some ⟨g,off,none⟩)) (hv : ev l y = .agg us.toArray) (hc : Cells P T us.length) (hfit : off + us.length ≤ cs.length) (h1 : (us.all (·.oneCell')) = true)
    (h : ∀ u,MemG w0 u (is.set k (bI g (over cs off us) t)) → wpList P ops Q rest (Fr l ds) u) : wpList P ops Q (Oper.mk none (.store T x y) ty pos after none :: rest) (Fr l ds) w:=Gmstore m k hk hx (by rw [hv]; rfl) hc hfit h1 h
theorem GmcallP {f : FuncId} {fo : Operand} {xs : Array Operand} {args : List Value} {first cap : Array Value} {a0 : Array TypeId} (m : MemG w0 w is) (hf : ev l fo = .func (.func f) first cap) (hxs : first.toList ++ xs.toList.map (ev l) ++ cap.toList = args) (hc : GPure P f args v)
    (h : ∀ u,MemG w0 u is → wpList P ops Q rest (Fr (l.set d v) ds) u) : wpList P ops Q (Oper.mk (some d) (.call { callee:=.value fo,args:=xs,argTypes:=a0 }) ty pos after none :: rest) (Fr l ds) w:=by
  refine wpList_plain rfl fun K hK=>?_
  unfold Oper.wp
  rw [fr_eval,run_call (hc w).1 hf hxs _ rfl]
  refine (hc w).2.mono ?_
  rintro e w' ⟨u,rfl,hE,rfl⟩
  show K ((Fr l ds).put (some d) u) w'
  rw [fr_put]
  exact hK _ _ (h w' (m.ext' hE))
theorem MemG.drew (m : MemG w0 w is) : MemG w0 { w with drawn:=w.drawn + 1 } is:=m.ext' ⟨(Ext.refl w).drawn,Nat.le_succ _⟩
theorem Gmq {id : Nat} {a : Act} {l : List Oper} (m : MemG w0 w is) (hm : P.follows .mixedOrders = true) (hB : Region.lexB .any l.toArray = true)
    (h : wpQuiet P l.toArray (fun u=>MemG w0 u is) (fun a'=>∀ u,MemG w0 u is → Q .normal a' u) l a) : (Code.region id l.toArray true).wp P Q a w :=
  wp_region_quiet (C:=fun u=>MemG w0 u is) hm hB m.drew (by simpa using h)
end
section
variable {P : Program} {w0 : World} {is : List It} {l : List Value} {x y : Operand} {T ty : TypeId}
variable {ops : Array Oper} {Q : Act → Prop} {rest : List Oper} {d : Nat} {pos : String} {after : Array Edge} {v : Value} {ds : List Deferred}
theorem Gql {a : Addr} (hx : ev l x = .pointer (some a)) (hv : ∀ u,MemG w0 u is → Lies P u T a v) (h : wpQuiet P ops (fun u=>MemG w0 u is) Q rest (Fr (l.set d v) ds)) : wpQuiet P ops (fun u=>MemG w0 u is) Q (Oper.mk (some d) (.load T x) ty pos after none :: rest) (Fr l ds) :=
  q_valW (fun u m=>r_load hx (hv u m)) h
theorem GqcP {f : FuncId} {fo : Operand} {xs : Array Operand} {args : List Value} {first cap : Array Value} {a0 : Array TypeId} (hf : ev l fo = .func (.func f) first cap) (hxs : first.toList ++ xs.toList.map (ev l) ++ cap.toList = args) (hc : GPure P f args v)
    (h : wpQuiet P ops (fun u=>MemG w0 u is) Q rest (Fr (l.set d v) ds)) : wpQuiet P ops (fun u=>MemG w0 u is) Q (Oper.mk (some d) (.call { callee:=.value fo,args:=xs,argTypes:=a0 }) ty pos after none :: rest) (Fr l ds):=by
  refine wpQuiet_step fun K hK=>?_
  rw [if_pos (by simp [Region.wanted])]
  refine ⟨v,fun w' hw=>?_,?_⟩
  · unfold Oper.quietAt
    rw [fr_eval,run_call (hc w').1 hf hxs _ rfl]
    refine ⟨rfl,(hc w').2.mono ?_⟩
    rintro e w'' ⟨u,rfl,hE,rfl⟩
    exact ⟨rfl,hw.ext' hE⟩
  · show K ((Fr l ds).put (some d) v)
    rw [fr_put]
    exact hK _ h
end
end Go.Lith
namespace Go.Lith
open Go.RowKit
def P3.Lt (p q : P3) : Prop:=p.x < q.x ∨ p.x = q.x ∧ (p.y < q.y ∨ p.y = q.y ∧ p.z < q.z)
instance (p q : P3) : Decidable (p.Lt q):=by unfold P3.Lt; infer_instance
theorem P3.eq {p q : P3} (h1 : p.x = q.x) (h2 : p.y = q.y) (h3 : p.z = q.z) : p = q:=by
  cases p; cases q; simp_all
instance : DecidableEq P3:=fun p q=>if h : p.x = q.x ∧ p.y = q.y ∧ p.z = q.z then isTrue (P3.eq h.1 h.2.1 h.2.2) else isFalse fun e=>h (by subst e; exact ⟨rfl,rfl,rfl⟩)
theorem P3.lt_irrefl (p : P3) : ¬ p.Lt p:=by unfold P3.Lt; omega
theorem P3.lt_trans {p q r : P3} (h : p.Lt q) (k : q.Lt r) : p.Lt r:=by unfold P3.Lt at *; omega
theorem P3.lt_tri (p q : P3) : p.Lt q ∨ p = q ∨ q.Lt p:=by
  by_cases h1 : p.x = q.x
  · by_cases h2 : p.y = q.y
    · by_cases h3 : p.z = q.z
      · exact .inr (.inl (P3.eq h1 h2 h3))
      · unfold P3.Lt; omega
    · unfold P3.Lt; omega
  · unfold P3.Lt; omega
theorem P3.lt_x {p q : P3} (h : ¬ p.x = q.x) : p.Lt q ↔ p.x < q.x:=by unfold P3.Lt; omega
theorem P3.lt_y {p q : P3} (h : p.x = q.x) (h2 : ¬ p.y = q.y) : p.Lt q ↔ p.y < q.y:=by unfold P3.Lt; omega
theorem P3.lt_z {p q : P3} (h : p.x = q.x) (h2 : p.y = q.y) : p.Lt q ↔ p.z < q.z:=by unfold P3.Lt; omega
end Go.Lith
namespace Go.Lith
open Go.RowKit
theorem rat_div_le {a b c d : Int} (hb : 0 < b) (hd : 0 < d) : Rat.divInt a b ≤ Rat.divInt c d ↔ a * d ≤ c * b:=by
  rw [Rat.le_iff_sub_nonneg,Rat.divInt_sub_divInt _ _ (by omega) (by omega),Rat.divInt_nonneg_iff_of_pos_right (Int.mul_pos hd hb)]
  omega
theorem div_0 {a b : Int} (hb : 0 < b) : Rat.divInt a b = 0 ↔ a = 0:=by
  rw [← Rat.zero_divInt 1,Rat.divInt_eq_divInt_iff (by omega) (by decide)]
  omega
def Z3 (u : P3) : Prop:=u.x = 0 ∧ u.y = 0 ∧ u.z = 0
instance (u : P3) : Decidable (Z3 u):=inferInstanceAs (Decidable (_ ∧ _ ∧ _))
theorem z3_dot {u : P3} : u.dot u = 0 ↔ Z3 u:=by
  have h1:=dot_nn u
  have h2:=@dot_pos u
  unfold Z3
  constructor
  · intro h
    exact Decidable.byContradiction fun k=>by have:=h2.2 k; omega
  · intro h
    exact Decidable.byContradiction fun k=>h2.1 (by omega) h
theorem lagrange (d v : P3) : (d.cross v).dot (d.cross v) = v.dot v * d.dot d - d.dot v * d.dot v:=by
  simp only [P3.dot,P3.cross]; grind
theorem scal {a w t L : Int} (ha : a ≠ 0) (hL : 0 < L) (h : L * w = t * a) : ((0 ≤ w ∧ w ≤ a) ∨ (w ≤ 0 ∧ a ≤ w)) ↔ 0 ≤ t ∧ t ≤ L:=by
  have m1 : ∀ {x y : Int},L * x ≤ L * y ↔ x ≤ y:=fun {x y}=>⟨fun k=>Int.le_of_mul_le_mul_left k hL,fun k=>Int.mul_le_mul_of_nonneg_left k (Int.le_of_lt hL)⟩
  rcases Int.lt_or_gt_of_ne ha with hn | hp
  · have hb : 0 < -a:=by omega
    have m2 : ∀ {x y : Int},x * a ≤ y * a ↔ y ≤ x:=fun {x y}=>by
      have k : (x * a ≤ y * a) ↔ (y * (-a) ≤ x * (-a)):=by rw [Int.mul_neg,Int.mul_neg]; omega
      rw [k]
      exact ⟨fun k=>Int.le_of_mul_le_mul_right k hb,fun k=>Int.mul_le_mul_of_nonneg_right k (Int.le_of_lt hb)⟩
    have k1:=m1 (x:=w) (y:=0)
    have k2:=m2 (x:=t) (y:=0)
    rw [h,Int.mul_zero] at k1
    rw [Int.zero_mul] at k2
    have e1 : w ≤ 0 ↔ 0 ≤ t:=k1.symm.trans k2
    have e2 : a ≤ w ↔ t ≤ L:=by rw [← m1 (x:=a) (y:=w),h,m2]
    omega
  · have m2 : ∀ {x y : Int},x * a ≤ y * a ↔ x ≤ y:=fun {x y}=>⟨fun k=>Int.le_of_mul_le_mul_right k hp,fun k=>Int.mul_le_mul_of_nonneg_right k (Int.le_of_lt hp)⟩
    have k1:=m1 (x:=0) (y:=w)
    have k2:=m2 (x:=0) (y:=t)
    rw [h,Int.mul_zero] at k1
    rw [Int.zero_mul] at k2
    have e1 : 0 ≤ w ↔ 0 ≤ t:=k1.symm.trans k2
    have e2 : w ≤ a ↔ t ≤ L:=by rw [← m1 (x:=w) (y:=a),h,m2]
    omega
theorem canc {a b : Int} (ha : a ≠ 0) (h : b * a = 0) : b = 0:=(Int.mul_eq_zero.1 h).resolve_right ha
theorem canc2 {a b c : Int} (ha : a ≠ 0) (h : b * a = c * a) : b = c:=Int.eq_of_mul_eq_mul_right ha h
def Btw (p q x : P3) : Prop:=(¬ x.Lt p ∧ ¬ q.Lt x) ∨ (¬ x.Lt q ∧ ¬ p.Lt x)
theorem btw_scal {p q x : P3} (hd : ¬ Z3 (q.sub p)) (hc : Z3 ((q.sub p).cross (x.sub p))) : Btw p q x ↔ 0 ≤ (q.sub p).dot (x.sub p) ∧ (q.sub p).dot (x.sub p) ≤ (q.sub p).dot (q.sub p):=by
  have hL:=dot_pos.2 hd
  obtain ⟨c1,c2,c3⟩:=hc
  simp only [P3.cross] at c1 c2 c3
  by_cases h1 : (q.sub p).x = 0
  · by_cases h2 : (q.sub p).y = 0
    · have h3 : (q.sub p).z ≠ 0:=fun h3=>hd ⟨h1,h2,h3⟩
      have v1 : (x.sub p).x = 0:=canc h3 (by rw [h1] at c2; grind)
      have v2 : (x.sub p).y = 0:=canc h3 (by rw [h2] at c1; grind)
      have e : (q.sub p).dot (q.sub p) * (x.sub p).z = (q.sub p).dot (x.sub p) * (q.sub p).z:=by simp only [P3.dot,h1,h2,v1,v2]; grind
      rw [← scal h3 hL e]
      simp only [P3.sub] at h1 h2 h3 v1 v2 ⊢
      unfold Btw P3.Lt
      omega
    · have v1 : (x.sub p).x = 0:=canc h2 (by rw [h1] at c3; grind)
      have e : (q.sub p).dot (q.sub p) * (x.sub p).y = (q.sub p).dot (x.sub p) * (q.sub p).y:=by simp only [P3.dot,h1,v1]; grind
      have z1 : (x.sub p).y = 0 → (x.sub p).z = 0:=fun h=>canc h2 (by rw [h] at c1; grind)
      have z2 : (x.sub p).y = (q.sub p).y → (x.sub p).z = (q.sub p).z:=fun h=>canc2 h2 (by rw [h] at c1; grind)
      rw [← scal h2 hL e]
      simp only [P3.sub] at h1 h2 v1 z1 z2 ⊢
      unfold Btw P3.Lt
      omega
  · have e : (q.sub p).dot (q.sub p) * (x.sub p).x = (q.sub p).dot (x.sub p) * (q.sub p).x:=by simp only [P3.dot]; grind
    have y1 : (x.sub p).x = 0 → (x.sub p).y = 0:=fun h=>canc h1 (by rw [h] at c3; grind)
    have y2 : (x.sub p).x = (q.sub p).x → (x.sub p).y = (q.sub p).y:=fun h=>canc2 h1 (by rw [h] at c3; grind)
    have z1 : (x.sub p).x = 0 → (x.sub p).z = 0:=fun h=>canc h1 (by rw [h] at c2; grind)
    have z2 : (x.sub p).x = (q.sub p).x → (x.sub p).z = (q.sub p).z:=fun h=>canc2 h1 (by rw [h] at c2; grind)
    rw [← scal h1 hL e]
    simp only [P3.sub] at h1 y1 y2 z1 z2 ⊢
    unfold Btw P3.Lt
    omega
def OnS (p q x : P3) : Prop:=Z3 ((q.sub p).cross (x.sub p)) ∧ Btw p q x
theorem sub_z3 {p q : P3} : Z3 (q.sub p) ↔ q = p:=by
  unfold Z3
  simp only [P3.sub]
  constructor
  · intro h
    exact P3.eq (by omega) (by omega) (by omega)
  · rintro rfl
    omega
theorem btw_self {p x : P3} : Btw p p x ↔ x = p:=by
  constructor
  · intro h
    rcases P3.lt_tri x p with k | k | k
    · unfold Btw at h; exact absurd k (by rcases h with h | h; exact h.1; exact h.1)
    · exact k
    · unfold Btw at h; exact absurd k (by rcases h with h | h; exact h.2; exact h.2)
  · rintro rfl
    exact .inl ⟨P3.lt_irrefl _,P3.lt_irrefl _⟩
theorem seg_on {p q x : P3} : segq x p q = 0 ↔ OnS p q x:=by
  unfold OnS
  have hL0:=dot_nn (q.sub p)
  have lg:=lagrange (q.sub p) (x.sub p)
  have zc:=@z3_dot ((q.sub p).cross (x.sub p))
  by_cases hd : Z3 (q.sub p)
  · obtain rfl:=sub_z3.1 hd
    rw [seg_deg,div_0 (by decide),z3_dot,sub_z3,btw_self,and_iff_right]
    rw [sub_self']
    simp [Z3,P3.cross]
  · have hL:=dot_pos.2 hd
    have two : (q.sub x).dot (q.sub x) = (x.sub p).dot (x.sub p) - 2 * (q.sub p).dot (x.sub p) + (q.sub p).dot (q.sub p):=by simp only [P3.dot,P3.sub]; grind
    have hv:=dot_nn (x.sub p)
    unfold segq
    constructor
    · intro h
      have hc : Z3 ((q.sub p).cross (x.sub p)) ∧ 0 ≤ (q.sub p).dot (x.sub p) ∧ (q.sub p).dot (x.sub p) ≤ (q.sub p).dot (q.sub p):=by
        split at h
        · rw [div_0 (by decide)] at h
          obtain rfl:=sub_z3.1 (z3_dot.1 h)
          rw [sub_self',cross_zero,dot_zero]
          exact ⟨⟨rfl,rfl,rfl⟩,Int.le_refl _,hL0⟩
        · split at h
          · rw [div_0 (by decide)] at h
            obtain rfl:=sub_z3.1 (z3_dot.1 h)
            refine ⟨?_,hL0,Int.le_refl _⟩
            simp only [Z3,P3.cross]; grind
          · rw [div_0 hL] at h
            exact ⟨zc.1 (by rw [lg]; exact h),by omega,by omega⟩
      exact ⟨hc.1,(btw_scal hd hc.1).2 hc.2⟩
    · rintro ⟨hc,hb⟩
      obtain ⟨h0,h1⟩:=(btw_scal hd hc).1 hb
      have e:=zc.2 hc
      rw [lg] at e
      split
      · have ht : (q.sub p).dot (x.sub p) = 0:=by omega
        rw [ht] at e
        rw [div_0 (by decide)]
        exact canc (a:=(q.sub p).dot (q.sub p)) (by omega) (by omega)
      · split
        · have ht : (q.sub p).dot (x.sub p) = (q.sub p).dot (q.sub p):=by omega
          rw [ht] at e
          have hvv : (x.sub p).dot (x.sub p) = (q.sub p).dot (q.sub p):=canc2 (a:=(q.sub p).dot (q.sub p)) (by omega) (by omega)
          rw [div_0 (by decide),two,ht,hvv]
          omega
        · rw [div_0 hL]
          exact e
theorem seg_nn {p q x : P3} : 0 ≤ segq x p q:=by
  unfold segq
  have lg:=lagrange (q.sub p) (x.sub p)
  split
  · exact Rat.divInt_nonneg (dot_nn _) (by decide)
  · split
    · exact Rat.divInt_nonneg (dot_nn _) (by decide)
    · refine Rat.divInt_nonneg ?_ (dot_nn _)
      rw [← lg]
      exact dot_nn _
def mnP (p q : P3) : P3:=if q.Lt p then q else p
def mxP (p q : P3) : P3:=if q.Lt p then p else q
def OnC (u v x : P3) : Prop:=Z3 (((mxP u v).sub (mnP u v)).cross (x.sub (mnP u v))) ∧ ¬ x.Lt (mnP u v) ∧ ¬ (mxP u v).Lt x
theorem on_swap {p q x : P3} : OnS p q x ↔ OnS q p x:=by
  have e : Z3 ((q.sub p).cross (x.sub p)) ↔ Z3 ((p.sub q).cross (x.sub q)):=by
    simp only [Z3,P3.cross,P3.sub]
    constructor <;> rintro ⟨h1,h2,h3⟩ <;> refine ⟨?_,?_,?_⟩ <;> grind
  unfold OnS
  rw [e]
  unfold Btw
  exact and_congr_right fun _=>Or.comm
theorem on_code {u v x : P3} : OnC u v x ↔ OnS u v x:=by
  have lo : ∀ {p q : P3},¬ q.Lt p → (¬ x.Lt p ∧ ¬ q.Lt x ↔ Btw p q x):=fun {p q} h=>by
    constructor
    · exact .inl
    · rintro (k | ⟨k1,k2⟩)
      · exact k
      · unfold P3.Lt at *
        omega
  unfold OnC mnP mxP
  by_cases h : v.Lt u
  · simp only [if_pos h]
    rw [on_swap (p:=u)]
    unfold OnS
    rw [lo (p:=v) (q:=u) (fun k=>P3.lt_irrefl _ (P3.lt_trans h k))]
  · simp only [if_neg h]
    unfold OnS
    rw [lo h]
theorem par {u v w : P3} (hu : ¬ Z3 u) (h : Z3 (u.cross v)) (k : Z3 (u.cross w)) : Z3 (v.cross w):=by
  obtain ⟨a1,a2,a3⟩:=h
  obtain ⟨b1,b2,b3⟩:=k
  simp only [P3.cross] at a1 a2 a3 b1 b2 b3
  have key : ∀ {c : Int},c ≠ 0 → (v.cross w).x * c * c = 0 → (v.cross w).y * c * c = 0 → (v.cross w).z * c * c = 0 → Z3 (v.cross w):=fun hc h1 h2 h3=>⟨canc hc (canc hc h1),canc hc (canc hc h2),canc hc (canc hc h3)⟩
  by_cases h1 : u.x = 0
  · by_cases h2 : u.y = 0
    · have h3 : u.z ≠ 0:=fun h3=>hu ⟨h1,h2,h3⟩
      have vx : v.x = 0:=canc h3 (by rw [h1] at a2; grind)
      have vy : v.y = 0:=canc h3 (by rw [h2] at a1; grind)
      have wx : w.x = 0:=canc h3 (by rw [h1] at b2; grind)
      have wy : w.y = 0:=canc h3 (by rw [h2] at b1; grind)
      simp [Z3,P3.cross,vx,vy,wx,wy]
    · exact key h2 (by simp only [P3.cross]; grind) (by simp only [P3.cross]; grind) (by simp only [P3.cross]; grind)
  · exact key h1 (by simp only [P3.cross]; grind) (by simp only [P3.cross]; grind) (by simp only [P3.cross]; grind)
theorem chain {p q r x : P3} (hc : Z3 ((q.sub p).cross (r.sub p))) (h1 : ¬ q.Lt p) (h2 : ¬ r.Lt q) : (OnS p q x ∨ OnS q r x ∨ OnS p r x) ↔ OnS p r x:=by
  refine ⟨?_,fun h=>.inr (.inr h)⟩
  have ord : ∀ {p q : P3},¬ q.Lt p → Btw p q x → ¬ x.Lt p ∧ ¬ q.Lt x:=fun {p q} h k=>by
    rcases k with k | ⟨k1,k2⟩
    · exact k
    · unfold P3.Lt at *
      omega
  rintro (⟨hx,hb⟩ | ⟨hx,hb⟩ | h)
  · have ho:=ord h1 hb
    refine ⟨?_,.inl ⟨ho.1,fun k=>by unfold P3.Lt at *; omega⟩⟩
    by_cases hu : Z3 (q.sub p)
    · obtain rfl:=sub_z3.1 hu
      obtain rfl:=btw_self.1 hb
      rw [sub_self',cross_zero]
      exact ⟨rfl,rfl,rfl⟩
    · exact par hu hc hx
  · have ho:=ord h2 hb
    refine ⟨?_,.inl ⟨fun k=>by unfold P3.Lt at *; omega,ho.2⟩⟩
    by_cases hu : Z3 (r.sub q)
    · obtain rfl:=sub_z3.1 hu
      obtain rfl:=btw_self.1 hb
      simp only [Z3,P3.cross]; grind
    · have h3 : Z3 ((r.sub q).cross (q.sub p)):=by
        obtain ⟨c1,c2,c3⟩:=hc
        simp only [P3.cross,P3.sub] at c1 c2 c3
        simp only [Z3,P3.cross,P3.sub]
        refine ⟨?_,?_,?_⟩ <;> grind
      obtain ⟨d1,d2,d3⟩:=par hu hx h3
      obtain ⟨e1,e2,e3⟩:=h3
      obtain ⟨f1,f2,f3⟩:=hx
      simp only [P3.cross,P3.sub] at d1 d2 d3 e1 e2 e3 f1 f2 f3
      simp only [Z3,P3.cross,P3.sub]
      refine ⟨?_,?_,?_⟩ <;> grind
  · exact h
theorem col_swap {p q r : P3} (h : Z3 ((q.sub p).cross (r.sub p))) : Z3 ((r.sub p).cross (q.sub p)):=by
  obtain ⟨h1,h2,h3⟩:=h
  simp only [P3.cross,P3.sub] at h1 h2 h3
  simp only [Z3,P3.cross,P3.sub]
  refine ⟨?_,?_,?_⟩ <;> grind
theorem col_rot {p q r : P3} (h : Z3 ((q.sub p).cross (r.sub p))) : Z3 ((r.sub q).cross (p.sub q)):=by
  obtain ⟨h1,h2,h3⟩:=h
  simp only [P3.cross,P3.sub] at h1 h2 h3
  simp only [Z3,P3.cross,P3.sub]
  refine ⟨?_,?_,?_⟩ <;> grind
theorem flat_on {a b c x : P3} (hf : Z3 ((b.sub a).cross (c.sub a))) : OnS (mnP (mnP a b) c) (mxP (mxP a b) c) x ↔ OnS a b x ∨ OnS b c x ∨ OnS c a x:=by
  have lt:=@P3.lt_trans
  have c1:=col_rot hf
  have c2:=col_rot c1
  by_cases h1 : b.Lt a
  · have e1 : mnP a b = b:=if_pos h1
    have e2 : mxP a b = a:=if_pos h1
    rw [e1,e2]
    by_cases h2 : c.Lt b
    · rw [show mnP b c = c from if_pos h2,show mxP a c = a from if_pos (lt h2 h1),← chain (q:=b) (col_swap c2) (fun k=>P3.lt_irrefl _ (lt k h2)) (fun k=>P3.lt_irrefl _ (lt k h1)),on_swap (p:=a) (q:=b),on_swap (p:=b) (q:=c)]
      all_goals grind
    · rw [show mnP b c = b from if_neg h2]
      by_cases h3 : c.Lt a
      · rw [show mxP a c = a from if_pos h3,← chain (q:=c) c1 h2 (fun k=>P3.lt_irrefl _ (lt k h3)),on_swap (p:=a) (q:=b)]
        all_goals grind
      · rw [show mxP a c = c from if_neg h3,← chain (q:=a) (col_swap c1) (fun k=>P3.lt_irrefl _ (lt k h1)) h3,on_swap (p:=a) (q:=b),on_swap (p:=c) (q:=a)]
        all_goals grind
  · have e1 : mnP a b = a:=if_neg h1
    have e2 : mxP a b = b:=if_neg h1
    rw [e1,e2]
    by_cases h2 : c.Lt a
    · rw [show mnP a c = c from if_pos h2,show mxP b c = b from if_pos (by unfold P3.Lt at *; omega),← chain (q:=a) c2 (fun k=>P3.lt_irrefl _ (lt k h2)) h1,on_swap (p:=b) (q:=c)]
      all_goals grind
    · rw [show mnP a c = a from if_neg h2]
      by_cases h3 : c.Lt b
      · rw [show mxP b c = b from if_pos h3,← chain (q:=c) (col_swap hf) h2 (fun k=>P3.lt_irrefl _ (lt k h3)),on_swap (p:=b) (q:=c),on_swap (p:=c) (q:=a)]
        all_goals grind
      · rw [show mxP b c = c from if_neg h3,← chain (q:=b) hf h1 h3,on_swap (p:=c) (q:=a)]
        all_goals grind
theorem minq_0 {p q : Rat} (hp : 0 ≤ p) (hq : 0 ≤ q) : minq p q = 0 ↔ p = 0 ∨ q = 0:=by unfold minq; grind
theorem minq_nn {p q : Rat} (hp : 0 ≤ p) (hq : 0 ≤ q) : 0 ≤ minq p q:=by unfold minq; grind
theorem minq_l {p q : Rat} : minq p q ≤ p:=by unfold minq; grind
theorem minq_r {p q : Rat} : minq p q ≤ q:=by unfold minq; grind
theorem edge_nn {x : P3} {t : T3} : 0 ≤ edgeq x t:=minq_nn (minq_nn seg_nn seg_nn) seg_nn
theorem edge_0 {x : P3} {t : T3} : edgeq x t = 0 ↔ OnS t.a t.b x ∨ OnS t.b t.c x ∨ OnS t.c t.a x:=by
  unfold edgeq
  rw [minq_0 (minq_nn seg_nn seg_nn) seg_nn,minq_0 seg_nn seg_nn,seg_on,seg_on,seg_on,or_assoc]
theorem face_nn {x : P3} {t : T3} : 0 ≤ faceq x t:=Rat.divInt_nonneg (sq_nn _) (dot_nn _)
theorem tri_nn {x : P3} {t : T3} : 0 ≤ triq x t:=by
  unfold triq
  split
  · exact face_nn
  · exact edge_nn
theorem far_nn {x : P3} {ts : List T3} : 0 ≤ farq x ts:=by
  cases ts with
  | nil=>exact Rat.le_refl
  | cons t ts =>
    show 0 ≤ ts.foldl _ _
    have : ∀ (ts : List T3) (m : Rat),0 ≤ m → 0 ≤ ts.foldl (fun m u=>minq m (triq x u)) m:=by
      intro ts
      induction ts with
      | nil=>exact fun m h=>h
      | cons u ts ih=>exact fun m h=>ih _ (minq_nn h tri_nn)
    exact this ts _ tri_nn
theorem fold_far {x : P3} : ∀ (ts : List T3) (m : Rat),ts.foldl (fun m u=>minq m (triq x u)) m ≤ m ∧ (∀ t ∈ ts,ts.foldl (fun m u=>minq m (triq x u)) m ≤ triq x t) ∧ (ts.foldl (fun m u=>minq m (triq x u)) m = m ∨ ∃ t ∈ ts,ts.foldl (fun m u=>minq m (triq x u)) m = triq x t)
  | [],m=>⟨Rat.le_refl,fun t h=>(by cases h),.inl rfl⟩
  | u :: ts,m=>by
    obtain ⟨h1,h2,h3⟩:=fold_far ts (minq m (triq x u))
    rw [List.foldl_cons]
    refine ⟨Rat.le_trans h1 minq_l,fun t ht=>?_,?_⟩
    · rcases List.mem_cons.1 ht with rfl | ht
      · exact Rat.le_trans h1 minq_r
      · exact h2 t ht
    · rcases h3 with h3 | ⟨t,ht,h3⟩
      · rw [h3]
        unfold minq
        split
        · exact .inr ⟨u,List.mem_cons_self,rfl⟩
        · exact .inl rfl
      · exact .inr ⟨t,List.mem_cons_of_mem _ ht,h3⟩
theorem far_le {x : P3} {ts : List T3} {t : T3} (h : t ∈ ts) : farq x ts ≤ triq x t:=by
  cases ts with
  | nil=>cases h
  | cons u ts =>
    obtain ⟨h1,h2,_⟩:=fold_far (x:=x) ts (triq x u)
    rcases List.mem_cons.1 h with rfl | h
    · exact h1
    · exact h2 t h
theorem far_0 {x : P3} {ts : List T3} (hn : ts ≠ []) : farq x ts = 0 ↔ ∃ t ∈ ts,triq x t = 0:=by
  constructor
  · intro h
    cases ts with
    | nil=>exact absurd rfl hn
    | cons u ts =>
      obtain ⟨_,_,h3 | ⟨t,ht,h3⟩⟩:=fold_far (x:=x) ts (triq x u)
      · exact ⟨u,List.mem_cons_self,by rw [← h3]; exact h⟩
      · exact ⟨t,List.mem_cons_of_mem _ ht,by rw [← h3]; exact h⟩
  · rintro ⟨t,ht,h⟩
    have h1:=far_le (x:=x) ht
    have h2:=far_nn (x:=x) (ts:=ts)
    grind
end Go.Lith
namespace Go.Lith
open Go.RowKit
def T3.rot (t : T3) : T3:=⟨t.b,t.c,t.a⟩
theorem rot_normal (t : T3) : t.rot.normal = t.normal:=by simp only [T3.rot,T3.normal,P3.cross,P3.sub,P3.mk.injEq]; grind
theorem nrm_b (t : T3) (x : P3) : t.normal.dot (x.sub t.b) = t.normal.dot (x.sub t.a):=by simp only [T3.normal,P3.dot,P3.cross,P3.sub]; grind
theorem nrm_c (t : T3) (x : P3) : t.normal.dot (x.sub t.c) = t.normal.dot (x.sub t.a):=by simp only [T3.normal,P3.dot,P3.cross,P3.sub]; grind
theorem triple (e f g : P3) : (e.cross g).dot f = -((e.cross f).dot g):=by simp only [P3.dot,P3.cross]; grind
theorem zero_dotP {u v : P3} (h : Z3 u) : u.dot v = 0:=by obtain ⟨h1,h2,h3⟩:=h; simp [P3.dot,h1,h2,h3]
theorem on_plane {t : T3} {x : P3} (h : OnS t.a t.b x) : t.normal.dot (x.sub t.a) = 0:=by
  show ((t.b.sub t.a).cross (t.c.sub t.a)).dot (x.sub t.a) = 0
  rw [triple,zero_dotP h.1]
  rfl
theorem onb_plane {t : T3} {x : P3} (h : OnS t.b t.c x) : t.normal.dot (x.sub t.a) = 0:=by
  rw [← nrm_b,← rot_normal]
  exact on_plane (t:=t.rot) h
theorem onc_plane {t : T3} {x : P3} (h : OnS t.c t.a x) : t.normal.dot (x.sub t.a) = 0:=by
  rw [← nrm_c,← rot_normal,← rot_normal]
  exact on_plane (t:=t.rot.rot) h
def cmpK (k : Nat) (u : P3) : Int:=if k = 0 then u.x else if k = 1 then u.y else u.z
def fstK (u : P3) : Nat:=if u.x ≠ 0 then 0 else if u.y ≠ 0 then 1 else 2
theorem fstK_ne {u : P3} (h : ¬ Z3 u) : cmpK (fstK u) u ≠ 0:=by
  unfold cmpK fstK
  unfold Z3 at h
  repeat' split
  all_goals first | assumption | (simp_all) | omega
theorem dbl (e f g : P3) (h : (e.cross g).dot f = 0) : (e.cross f).x * (e.cross g).y = (e.cross f).y * (e.cross g).x ∧ (e.cross f).y * (e.cross g).z = (e.cross f).z * (e.cross g).y ∧ (e.cross f).x * (e.cross g).z = (e.cross f).z * (e.cross g).x:=by
  have h1 : (e.cross f).x * (e.cross g).y - (e.cross f).y * (e.cross g).x = -(e.z * ((e.cross g).dot f)):=by simp only [P3.dot,P3.cross]; grind
  have h2 : (e.cross f).y * (e.cross g).z - (e.cross f).z * (e.cross g).y = -(e.x * ((e.cross g).dot f)):=by simp only [P3.dot,P3.cross]; grind
  have h3 : (e.cross f).x * (e.cross g).z - (e.cross f).z * (e.cross g).x = e.y * ((e.cross g).dot f):=by simp only [P3.dot,P3.cross]; grind
  rw [h,Int.mul_zero] at h1 h2 h3
  omega
theorem par_dot {n w : P3} (k : Nat) (h : w.x * n.y = w.y * n.x ∧ w.y * n.z = w.z * n.y ∧ w.x * n.z = w.z * n.x) : cmpK k n * n.dot w = cmpK k w * n.dot n:=by
  obtain ⟨h1,h2,h3⟩:=h
  unfold cmpK
  split
  · simp only [P3.dot]; grind
  · split
    · simp only [P3.dot]; grind
    · simp only [P3.dot]; grind
def edgeW (u v x : P3) : P3:=(v.sub u).cross (x.sub u)
theorem edge_par {t : T3} {x : P3} (k : Nat) (h : t.normal.dot (x.sub t.a) = 0) : cmpK k t.normal * side t.normal t.a t.b x = cmpK k (edgeW t.a t.b x) * t.normal.dot t.normal:=par_dot k (dbl _ _ _ h)
theorem edge_parb {t : T3} {x : P3} (k : Nat) (h : t.normal.dot (x.sub t.a) = 0) : cmpK k t.normal * side t.normal t.b t.c x = cmpK k (edgeW t.b t.c x) * t.normal.dot t.normal:=by
  have:=edge_par (t:=t.rot) (x:=x) k (by rw [rot_normal]; exact (nrm_b t x).trans h)
  rwa [rot_normal] at this
theorem edge_parc {t : T3} {x : P3} (k : Nat) (h : t.normal.dot (x.sub t.a) = 0) : cmpK k t.normal * side t.normal t.c t.a x = cmpK k (edgeW t.c t.a x) * t.normal.dot t.normal:=by
  have:=edge_par (t:=t.rot.rot) (x:=x) k (by rw [rot_normal,rot_normal]; exact (nrm_c t x).trans h)
  rwa [rot_normal,rot_normal] at this
theorem edge_sum {t : T3} {x : P3} (k : Nat) : cmpK k (edgeW t.a t.b x) + cmpK k (edgeW t.b t.c x) + cmpK k (edgeW t.c t.a x) = cmpK k t.normal:=by
  unfold cmpK
  repeat' split
  all_goals (simp only [edgeW,T3.normal,P3.cross,P3.sub]; grind)
def Agree (a b c : Int) : Prop:=(0 ≤ a ∧ 0 ≤ b ∧ 0 ≤ c) ∨ (a ≤ 0 ∧ b ≤ 0 ∧ c ≤ 0)
theorem sgnK_pos {n s w N : Int} (hn : 0 < n) (hN : 0 < N) (h : n * s = w * N) : 0 ≤ s ↔ 0 ≤ w:=by
  constructor
  · intro hs
    have : 0 ≤ w * N:=h ▸ Int.mul_nonneg (Int.le_of_lt hn) hs
    exact Int.le_of_mul_le_mul_right (a:=N) (by omega) hN
  · intro hw
    have : 0 ≤ n * s:=h ▸ Int.mul_nonneg hw (Int.le_of_lt hN)
    exact Int.le_of_mul_le_mul_left (a:=n) (by omega) hn
theorem sgnK_neg {n s w N : Int} (hn : n < 0) (hN : 0 < N) (h : n * s = w * N) : 0 ≤ s ↔ w ≤ 0:=by
  have:=sgnK_pos (n:=-n) (s:=s) (w:=-w) (N:=N) (by omega) hN (by rw [Int.neg_mul,Int.neg_mul,h])
  omega
theorem agree_ins {t : T3} {x : P3} (hf : ¬ t.flat) (h : t.normal.dot (x.sub t.a) = 0) : Agree (cmpK (fstK t.normal) (edgeW t.a t.b x)) (cmpK (fstK t.normal) (edgeW t.b t.c x)) (cmpK (fstK t.normal) (edgeW t.c t.a x)) ↔ ins x t:=by
  have hN:=flat_dot.2 hf
  have hk:=fstK_ne hf
  have hs:=edge_sum (t:=t) (x:=x) (fstK t.normal)
  have ha:=edge_par (fstK t.normal) h
  have hb:=edge_parb (fstK t.normal) h
  have hc:=edge_parc (fstK t.normal) h
  unfold ins Agree
  rcases Int.lt_or_gt_of_ne hk with hn | hn
  · rw [sgnK_neg hn hN ha,sgnK_neg hn hN hb,sgnK_neg hn hN hc]
    omega
  · rw [sgnK_pos hn hN ha,sgnK_pos hn hN hb,sgnK_pos hn hN hc]
    omega
def Tch (x : P3) (t : T3) : Prop :=
  if t.flat then OnC (mnP (mnP t.a t.b) t.c) (mxP (mxP t.a t.b) t.c) x
  else t.normal.dot (x.sub t.a) = 0 ∧ (OnC t.a t.b x ∨ OnC t.b t.c x ∨ OnC t.c t.a x ∨ Agree (cmpK (fstK t.normal) (edgeW t.a t.b x)) (cmpK (fstK t.normal) (edgeW t.b t.c x)) (cmpK (fstK t.normal) (edgeW t.c t.a x)))
theorem face_0 {x : P3} {t : T3} (hf : ¬ t.flat) : faceq x t = 0 ↔ t.normal.dot (x.sub t.a) = 0:=by
  unfold faceq
  rw [div_0 (flat_dot.2 hf)]
  exact ⟨fun h=>(Int.mul_eq_zero.1 h).elim id id,fun h=>by rw [h]; rfl⟩
theorem tch_iff {x : P3} {t : T3} : Tch x t ↔ triq x t = 0:=by
  unfold Tch triq
  simp only [on_code]
  by_cases hf : t.flat
  · rw [if_pos hf,if_neg (fun h=>h.1 hf),edge_0]
    exact flat_on hf
  · rw [if_neg hf]
    constructor
    · rintro ⟨h0,h⟩
      split
      · exact (face_0 hf).2 h0
      · rename_i hi
        rw [edge_0]
        rcases h with h | h | h | h
        · exact .inl h
        · exact .inr (.inl h)
        · exact .inr (.inr h)
        · exact absurd ⟨hf,(agree_ins hf h0).1 h⟩ hi
    · intro h
      split at h
      · rename_i hi
        have h0:=(face_0 hf).1 h
        exact ⟨h0,.inr (.inr (.inr ((agree_ins hf h0).2 hi.2)))⟩
      · rcases edge_0.1 h with h | h | h
        · exact ⟨on_plane h,.inl h⟩
        · exact ⟨onb_plane h,.inr (.inl h)⟩
        · exact ⟨onc_plane h,.inr (.inr (.inl h))⟩
/-! ### Corners -/
theorem on_start {p q : P3} : OnS p q p:=by
  rw [← seg_on]
  exact seg_start p q
theorem on_end {p q : P3} : OnS p q q:=by
  rw [← seg_on]
  exact seg_end p q
theorem cor_on (t : T3) (c : Nat) : OnS t.a t.b (t.cor c) ∨ OnS t.b t.c (t.cor c) ∨ OnS t.c t.a (t.cor c):=by
  unfold T3.cor
  split
  · exact .inl on_start
  · split
    · exact .inl on_end
    · exact .inr (.inl on_end)
theorem tri_cor (t : T3) (c : Nat) : triq (t.cor c) t = 0:=by
  unfold triq
  split
  · rename_i h
    rw [face_0 h.1]
    rcases cor_on t c with h | h | h
    · exact on_plane h
    · exact onb_plane h
    · exact onc_plane h
  · exact edge_0.2 (cor_on t c)
theorem far_cor {ts : List T3} {t : T3} (h : t ∈ ts) (c : Nat) : farq (t.cor c) ts = 0:=(far_0 (by rintro rfl; cases h)).2 ⟨t,h,tri_cor t c⟩
theorem seg_le {x p q : P3} : segq x p q ≤ Rat.divInt ((x.sub p).dot (x.sub p)) 1:=by
  have two : (q.sub x).dot (q.sub x) = (x.sub p).dot (x.sub p) - 2 * (q.sub p).dot (x.sub p) + (q.sub p).dot (q.sub p):=by simp only [P3.dot,P3.sub]; grind
  have hL0:=dot_nn (q.sub p)
  unfold segq
  split
  · exact Rat.le_refl
  · split
    · rw [rat_div_le (by decide) (by decide),two]
      omega
    · rw [rat_div_le (by omega) (by decide)]
      have:=sq_nn ((q.sub p).dot (x.sub p))
      omega
theorem seg_le2 {x p q : P3} : segq x p q ≤ Rat.divInt ((x.sub q).dot (x.sub q)) 1:=by
  have two : (q.sub x).dot (q.sub x) = (x.sub p).dot (x.sub p) - 2 * (q.sub p).dot (x.sub p) + (q.sub p).dot (q.sub p):=by simp only [P3.dot,P3.sub]; grind
  have sym : (x.sub q).dot (x.sub q) = (q.sub x).dot (q.sub x):=by simp only [P3.dot,P3.sub]; grind
  have hL0:=dot_nn (q.sub p)
  rw [sym]
  unfold segq
  split
  · rw [rat_div_le (by decide) (by decide),two]
    omega
  · split
    · exact Rat.le_refl
    · rw [rat_div_le (by omega) (by decide),two]
      have:=sq_nn ((q.sub p).dot (q.sub p) - (q.sub p).dot (x.sub p))
      grind
theorem cauchy (n v : P3) : n.dot v * n.dot v ≤ v.dot v * n.dot n:=by
  have:=lagrange n v
  have:=dot_nn (n.cross v)
  omega
theorem face_le {x : P3} {t : T3} (hf : ¬ t.flat) (c : Nat) : faceq x t ≤ Rat.divInt ((x.sub (t.cor c)).dot (x.sub (t.cor c))) 1:=by
  unfold faceq
  rw [rat_div_le (flat_dot.2 hf) (by decide)]
  have e : t.normal.dot (x.sub t.a) = t.normal.dot (x.sub (t.cor c)):=by
    unfold T3.cor
    split
    · rfl
    · split
      · exact (nrm_b t x).symm
      · exact (nrm_c t x).symm
  rw [e]
  have:=cauchy t.normal (x.sub (t.cor c))
  omega
theorem tri_le {x : P3} {t : T3} (c : Nat) : triq x t ≤ Rat.divInt ((x.sub (t.cor c)).dot (x.sub (t.cor c))) 1:=by
  unfold triq
  split
  · rename_i h
    exact face_le h.1 c
  · unfold edgeq T3.cor
    split
    · exact Rat.le_trans minq_l (Rat.le_trans minq_l seg_le)
    · split
      · exact Rat.le_trans minq_l (Rat.le_trans minq_l seg_le2)
      · exact Rat.le_trans minq_r seg_le
theorem far_le_cor {x : P3} {ts : List T3} {t : T3} (h : t ∈ ts) (c : Nat) : farq x ts ≤ Rat.divInt ((x.sub (t.cor c)).dot (x.sub (t.cor c))) 1:=Rat.le_trans (far_le h) (tri_le c)
end Go.Lith
