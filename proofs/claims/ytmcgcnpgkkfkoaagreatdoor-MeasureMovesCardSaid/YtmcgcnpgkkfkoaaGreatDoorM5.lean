/-
  Texts of one claim, laid together: Meas2, Meas3, Meas4, Meas5, RefG1, RefG2, RefG3, Sane, Frac2, Vox, Grow, Pts, Lat, Chk, Map0.
-/
import Derived.Sort.Grow
import Derived.Deep.Draws
import Derived.Maps.RangeRun
import Derived.Test.YtmcgcnpgkkfkoaaGreatDoorM4
set_option maxHeartbeats 8000000
set_option linter.unusedSimpArgs false
set_option linter.unusedVariables false
set_option linter.unusedSectionVars false
namespace Go.Proofs.YtmcgcnpgkkfkoaaGreatDoor
open Go.RowKit Go.Lith
set_option maxRecDepth 100000
attribute [local irreducible] wpList wpQuiet wpMix wpMixH wpTree Code.wp
theorem edge_0 {x : P3} {t : T3} [I3 x] [IT t] {g1 g2 : Nat} (w : World) (hB1 : Blk w g1 [.int .i64 x.x,.int .i64 x.y,.int .i64 x.z] 28) (hB2 : Blk w g2 [.int .i64 t.a.x,.int .i64 t.a.y,.int .i64 t.a.z,.int .i64 t.b.x,.int .i64 t.b.y,.int .i64 t.b.z,.int .i64 t.c.x,.int .i64 t.c.y,.int .i64 t.c.z] 59) : Does Tryz.prog 98 [.int .i64 0,.pointer (some ⟨g1,0,none⟩),.pointer (some ⟨g2,0,none⟩)] w (fun v _=>v = Q (segq x t.a t.b)):=by
 refine ⟨en_98,?_⟩
 have m:=Mem.refl w
 go_enter Tryz.func98,Tryz.ntmps98
 refine c_seq fun K1 k1=>wp_region_lit (malloc m zero_34 rfl ?_)
 clear m; intro g3 u m
 refine n_nil (k1 _ _ ?_)
 refine c_seq fun K2 k2=>?_
 simp only [ev,zD,zE,zF,zG]
 refine mq_tail m 10 follows_mixed (by kernel_rfl) ?_
 simp only [zH,zI,zJ,zK]
 refine ql rfl (fun u m=>((hB1.ext m.ext).lies agg_28 cells_28 rfl rfl)) ?_
 simp only [ev,zD,zE,zF,zG,zH,zI,zJ,zK,Nat.zero_add,Nat.reduceAdd,Nat.reduceMul,Int.reduceToNat]
 refine q_val (r_move) (q_val (r_indexAddrA Tryz.underlying59 cells_28 rfl rfl (by decide) (by decide) rfl) ?_)
 simp only [ev,zD,zE,zF,zG]
 refine ql rfl (fun u m=>((hB2.ext m.ext).lies agg_28 cells_28 rfl rfl)) ?_
 simp only [ev,zD,zE,zF,zG,zH,zI,zJ,zK,Nat.zero_add,Nat.reduceAdd,Nat.reduceMul,Int.reduceToNat]
 refine q_val (r_move) (q_val (r_add (m:=0) (n:=1) (r:=1) rfl rfl (by decide)) (q_val (r_rem (m:=1) (n:=3) (r:=1) rfl rfl (by decide) (by decide)) (q_val (r_indexAddrA Tryz.underlying59 cells_28 rfl rfl (by decide) (by decide) rfl) ?_)))
 simp only [ev,zD,zE,zF,zG]
 refine ql rfl (fun u m=>((hB2.ext m.ext).lies agg_28 cells_28 rfl rfl)) ?_
 simp only [ev,zD,zE,zF,zG,zH,zI,zJ,zK,Nat.zero_add,Nat.reduceAdd,Nat.reduceMul,Int.reduceToNat]
 refine qcP rfl rfl (segment_c) (q_nil ?_)
 clear m; intro u m
 simp only [ev,zD,zE,zF,zG]
 refine mstoreA m 0 rfl rfl rfl cells_34 (leT rfl) rfl ?_
 clear m; intro u m; simp only [over,zH,zI,zJ,zK,zL,zM,zN,zO,zP,zF,zG,Nat.reduceAdd] at m
 refine n_nil (k2 _ _ ?_)
 refine wp_ret ?_
 try simp only [Exit.inBlock,Exit.then,if_true]
 refine fin1 rfl ⟨_,rfl,((m.b 0 rfl).full agg_34 cells_34)⟩ ?_
 try simp only [zD,zE]
 exact ⟨_,rfl,m.ext,rfl⟩
theorem edge_1 {x : P3} {t : T3} [I3 x] [IT t] {g1 g2 : Nat} (w : World) (hB1 : Blk w g1 [.int .i64 x.x,.int .i64 x.y,.int .i64 x.z] 28) (hB2 : Blk w g2 [.int .i64 t.a.x,.int .i64 t.a.y,.int .i64 t.a.z,.int .i64 t.b.x,.int .i64 t.b.y,.int .i64 t.b.z,.int .i64 t.c.x,.int .i64 t.c.y,.int .i64 t.c.z] 59) : Does Tryz.prog 98 [.int .i64 1,.pointer (some ⟨g1,0,none⟩),.pointer (some ⟨g2,0,none⟩)] w (fun v _=>v = Q (segq x t.b t.c)):=by
 refine ⟨en_98,?_⟩
 have m:=Mem.refl w
 go_enter Tryz.func98,Tryz.ntmps98
 refine c_seq fun K1 k1=>wp_region_lit (malloc m zero_34 rfl ?_)
 clear m; intro g3 u m
 refine n_nil (k1 _ _ ?_)
 refine c_seq fun K2 k2=>?_
 simp only [ev,zD,zE,zF,zG]
 refine mq_tail m 10 follows_mixed (by kernel_rfl) ?_
 simp only [zH,zI,zJ,zK]
 refine ql rfl (fun u m=>((hB1.ext m.ext).lies agg_28 cells_28 rfl rfl)) ?_
 simp only [ev,zD,zE,zF,zG,zH,zI,zJ,zK,Nat.zero_add,Nat.reduceAdd,Nat.reduceMul,Int.reduceToNat]
 refine q_val (r_move) (q_val (r_indexAddrA Tryz.underlying59 cells_28 rfl rfl (by decide) (by decide) rfl) ?_)
 simp only [ev,zD,zE,zF,zG]
 refine ql rfl (fun u m=>((hB2.ext m.ext).lies agg_28 cells_28 rfl rfl)) ?_
 simp only [ev,zD,zE,zF,zG,zH,zI,zJ,zK,Nat.zero_add,Nat.reduceAdd,Nat.reduceMul,Int.reduceToNat]
 refine q_val (r_move) (q_val (r_add (m:=1) (n:=1) (r:=2) rfl rfl (by decide)) (q_val (r_rem (m:=2) (n:=3) (r:=2) rfl rfl (by decide) (by decide)) (q_val (r_indexAddrA Tryz.underlying59 cells_28 rfl rfl (by decide) (by decide) rfl) ?_)))
 simp only [ev,zD,zE,zF,zG]
 refine ql rfl (fun u m=>((hB2.ext m.ext).lies agg_28 cells_28 rfl rfl)) ?_
 simp only [ev,zD,zE,zF,zG,zH,zI,zJ,zK,Nat.zero_add,Nat.reduceAdd,Nat.reduceMul,Int.reduceToNat]
 refine qcP rfl rfl (segment_c) (q_nil ?_)
 clear m; intro u m
 simp only [ev,zD,zE,zF,zG]
 refine mstoreA m 0 rfl rfl rfl cells_34 (leT rfl) rfl ?_
 clear m; intro u m; simp only [over,zH,zI,zJ,zK,zL,zM,zN,zO,zP,zF,zG,Nat.reduceAdd] at m
 refine n_nil (k2 _ _ ?_)
 refine wp_ret ?_
 try simp only [Exit.inBlock,Exit.then,if_true]
 refine fin1 rfl ⟨_,rfl,((m.b 0 rfl).full agg_34 cells_34)⟩ ?_
 try simp only [zD,zE]
 exact ⟨_,rfl,m.ext,rfl⟩
theorem edge_2 {x : P3} {t : T3} [I3 x] [IT t] {g1 g2 : Nat} (w : World) (hB1 : Blk w g1 [.int .i64 x.x,.int .i64 x.y,.int .i64 x.z] 28) (hB2 : Blk w g2 [.int .i64 t.a.x,.int .i64 t.a.y,.int .i64 t.a.z,.int .i64 t.b.x,.int .i64 t.b.y,.int .i64 t.b.z,.int .i64 t.c.x,.int .i64 t.c.y,.int .i64 t.c.z] 59) : Does Tryz.prog 98 [.int .i64 2,.pointer (some ⟨g1,0,none⟩),.pointer (some ⟨g2,0,none⟩)] w (fun v _=>v = Q (segq x t.c t.a)):=by
 refine ⟨en_98,?_⟩
 have m:=Mem.refl w
 go_enter Tryz.func98,Tryz.ntmps98
 refine c_seq fun K1 k1=>wp_region_lit (malloc m zero_34 rfl ?_)
 clear m; intro g3 u m
 refine n_nil (k1 _ _ ?_)
 refine c_seq fun K2 k2=>?_
 simp only [ev,zD,zE,zF,zG]
 refine mq_tail m 10 follows_mixed (by kernel_rfl) ?_
 simp only [zH,zI,zJ,zK]
 refine ql rfl (fun u m=>((hB1.ext m.ext).lies agg_28 cells_28 rfl rfl)) ?_
 simp only [ev,zD,zE,zF,zG,zH,zI,zJ,zK,Nat.zero_add,Nat.reduceAdd,Nat.reduceMul,Int.reduceToNat]
 refine q_val (r_move) (q_val (r_indexAddrA Tryz.underlying59 cells_28 rfl rfl (by decide) (by decide) rfl) ?_)
 simp only [ev,zD,zE,zF,zG]
 refine ql rfl (fun u m=>((hB2.ext m.ext).lies agg_28 cells_28 rfl rfl)) ?_
 simp only [ev,zD,zE,zF,zG,zH,zI,zJ,zK,Nat.zero_add,Nat.reduceAdd,Nat.reduceMul,Int.reduceToNat]
 refine q_val (r_move) (q_val (r_add (m:=2) (n:=1) (r:=3) rfl rfl (by decide)) (q_val (r_rem (m:=3) (n:=3) (r:=0) rfl rfl (by decide) (by decide)) (q_val (r_indexAddrA Tryz.underlying59 cells_28 rfl rfl (by decide) (by decide) rfl) ?_)))
 simp only [ev,zD,zE,zF,zG]
 refine ql rfl (fun u m=>((hB2.ext m.ext).lies agg_28 cells_28 rfl rfl)) ?_
 simp only [ev,zD,zE,zF,zG,zH,zI,zJ,zK,Nat.zero_add,Nat.reduceAdd,Nat.reduceMul,Int.reduceToNat]
 refine qcP rfl rfl (segment_c) (q_nil ?_)
 clear m; intro u m
 simp only [ev,zD,zE,zF,zG]
 refine mstoreA m 0 rfl rfl rfl cells_34 (leT rfl) rfl ?_
 clear m; intro u m; simp only [over,zH,zI,zJ,zK,zL,zM,zN,zO,zP,zF,zG,Nat.reduceAdd] at m
 refine n_nil (k2 _ _ ?_)
 refine wp_ret ?_
 try simp only [Exit.inBlock,Exit.then,if_true]
 refine fin1 rfl ⟨_,rfl,((m.b 0 rfl).full agg_34 cells_34)⟩ ?_
 try simp only [zD,zE]
 exact ⟨_,rfl,m.ext,rfl⟩
theorem least3_c {x : P3} {t : T3} [I3 x] [IT t] {g0 g1 g2 : Nat} (w : World) (hB0 : Blk w g0 [.int .i64 0,.int .i64 1,.int .i64 2] 3) (hB1 : Blk w g1 [.int .i64 x.x,.int .i64 x.y,.int .i64 x.z] 28) (hB2 : Blk w g2 [.int .i64 t.a.x,.int .i64 t.a.y,.int .i64 t.a.z,.int .i64 t.b.x,.int .i64 t.b.y,.int .i64 t.b.z,.int .i64 t.c.x,.int .i64 t.c.y,.int .i64 t.c.z] 59) : Does Tryz.prog 97 [.slice (some ⟨g0,0,none⟩) 3 3,.func (.func 98) #[] #[.pointer (some ⟨g1,0,none⟩),.pointer (some ⟨g2,0,none⟩)]] w (fun v _=>v = .tuple #[Q (edgeq x t),.bool true]):=by
 refine ⟨en_97,?_⟩
 have m:=Mem.refl w
 go_enter Tryz.func97,Tryz.ntmps97
 refine c_seq fun K1 k1=>wp_region_lit (malloc m zero_34 rfl ?_)
 clear m; intro g3 u m
 refine n_val (r_assign) (n_nil (k1 _ _ ?_))
 refine c_seq fun K2 k2=>wp_region_lit (n_val (r_build_32_) ?_)
 simp only [ev,zD,zE,zF,zG]
 refine mcallP m rfl rfl (whole0_c) ?_
 clear m; intro u m
 simp only [ev,zD,zE,zF,zG]
 refine malloc m zero_34 rfl ?_
 clear m; intro g4 u m
 simp only [ev,zD,zE,zF,zG]
 refine mstoreA m 0 rfl rfl rfl cells_34 (leT rfl) rfl ?_
 clear m; intro u m; simp only [over,zH,zI,zJ,zK,zL,zM,zN,zO,zP,zF,zG,Nat.reduceAdd] at m
 refine n_nil (k2 _ _ ?_)
 refine c_seq fun K3 k3=>c_seq fun K4 k4=>wp_region_lit (n_val (r_move) (n_val (r_lenS rfl Tryz.underlying22 rfl) (n_val (r_move) (n_nil (k4 _ _ ?_)))))
 refine wp_block (wp_loop_rounds 4 (rounds_step (c_seq fun K5 k5=>wp_region_lit (n_val (r_lssT (m:=0) (n:=3) rfl rfl (by decide)) ?_))))
 simp only [ev,zD,zE,zF,zG]
 refine n_nil (k5 _ _ ?_)
 refine c_seq fun K6 k6=>c_yes rfl (wp_skip (k6 _ _ ?_))
 refine c_seq fun K7 k7=>wp_block (c_seq fun K8 k8=>wp_region_lit (n_val (r_move) (n_val (r_indexAddrS Tryz.underlying22 cells_3 rfl rfl (by decide) (by decide) rfl) ?_)))
 simp only [ev,zD,zE,zF,zG]
 refine n_load rfl ((hB0.ext m.ext).lies1 agg_3 rfl) ?_
 simp only [ev,zD,zE,zF,zG]
 refine n_val (r_assign) (n_val (r_assign) (n_nil (k8 _ _ ?_)))
 refine c_seq fun K9 k9=>wp_region_lit (n_val (r_move) (n_val (r_move) ?_))
 simp only [ev,zD,zE,zF,zG]
 refine mcall m rfl rfl (edge_0 _ (hB1.ext m.ext) (hB2.ext m.ext)) ?_
 clear m; rintro v u m rfl
 simp only [ev,zD,zE,zF,zG]
 refine malloc m zero_34 rfl ?_
 clear m; intro g5 u m
 simp only [ev,zD,zE,zF,zG]
 refine mstoreA m 0 rfl rfl rfl cells_34 (leT rfl) rfl ?_
 clear m; intro u m; simp only [over,zH,zI,zJ,zK,zL,zM,zN,zO,zP,zF,zG,Nat.reduceAdd] at m
 refine n_nil (k9 _ _ ?_)
 refine c_seq fun K10 k10=>wp_region_lit (n_val (r_move) (n_val (r_eqlT (m:=0) (n:=0) rfl rfl (by decide)) (n_val (r_move) (n_skipF rfl ?_))))
 simp only [ev,zD,zE,zF,zG]
 refine n_skipF rfl (n_skipF rfl (n_skipF rfl (n_val (r_pickT rfl) ?_)))
 simp only [ev,zD,zE,zF,zG]
 refine n_nil (k10 _ _ ?_)
 refine c_yes rfl (wp_region_lit (n_load rfl ((m.b 0 rfl).full agg_34 cells_34) ?_))
 simp only [ev,zD,zE,zF,zG]
 refine mstoreA m 1 rfl rfl rfl cells_34 (leT rfl) rfl ?_
 clear m; intro u m; simp only [over,zH,zI,zJ,zK,zL,zM,zN,zO,zP,zF,zG,Nat.reduceAdd] at m
 refine n_nil (k7 _ _ ?_)
 refine wp_region_lit (n_val (r_add (m:=0) (n:=1) (r:=1) rfl rfl (by decide)) (n_val (r_move) (n_nil (then_rounds (c_seq fun K11 k11=>wp_region_lit (n_val (r_lssT (m:=1) (n:=3) rfl rfl (by decide)) (n_nil (k11 _ _ ?_))))))))
 refine c_seq fun K12 k12=>c_yes rfl (wp_skip (k12 _ _ ?_))
 refine c_seq fun K13 k13=>wp_block (c_seq fun K14 k14=>wp_region_lit (n_val (r_move) ?_))
 simp only [ev,zD,zE,zF,zG]
 refine n_val (r_indexAddrS Tryz.underlying22 cells_3 rfl rfl (by decide) (by decide) rfl) ?_
 simp only [ev,zD,zE,zF,zG]
 refine n_load rfl ((hB0.ext m.ext).lies1 agg_3 rfl) ?_
 simp only [ev,zD,zE,zF,zG]
 refine n_val (r_assign) (n_val (r_assign) (n_nil (k14 _ _ ?_)))
 refine c_seq fun K15 k15=>wp_region_lit (n_val (r_move) (n_val (r_move) ?_))
 simp only [ev,zD,zE,zF,zG]
 refine mcall m rfl rfl (edge_1 _ (hB1.ext m.ext) (hB2.ext m.ext)) ?_
 clear m; rintro v u m rfl
 simp only [ev,zD,zE,zF,zG]
 refine malloc m zero_34 rfl ?_
 clear m; intro g6 u m
 simp only [ev,zD,zE,zF,zG]
 refine mstoreA m 0 rfl rfl rfl cells_34 (leT rfl) rfl ?_
 clear m; intro u m; simp only [over,zH,zI,zJ,zK,zL,zM,zN,zO,zP,zF,zG,Nat.reduceAdd] at m
 refine n_nil (k15 _ _ ?_)
 refine c_seq fun K16 k16=>wp_region_lit (n_val (r_move) (n_val (r_eqlF (m:=1) (n:=0) rfl rfl (by decide)) (n_val (r_move) (n_want rfl ?_))))
 simp only [ev,zD,zE,zF,zG]
 refine n_load rfl ((m.b 0 rfl).full agg_34 cells_34) ?_
 simp only [ev,zD,zE,zF,zG]
 refine n_want rfl (n_load rfl ((m.b 2 rfl).full agg_34 cells_34) ?_)
 simp only [ev,zD,zE,zF,zG]
 refine n_want rfl (mcallP m rfl rfl (CmpFrac_c Bq.up Bq.up) ?_)
 clear m; intro u m
 refine n_want rfl (n_val (r_lss rfl rfl) (n_val (r_pickF rfl) (n_nil (k16 _ _ ?_))))
 simp only [ev,zD,zE,zF,zG]
 refine c_if rfl (fun hc2=>?_) (fun hc2=>?_)
 ·
  have h1:=qcmp_lt.1 hc2
  refine wp_region_lit (n_load rfl ((m.b 0 rfl).full agg_34 cells_34) ?_)
  simp only [ev,zD,zE,zF,zG]
  refine mstoreA m 2 rfl rfl rfl cells_34 (leT rfl) rfl ?_
  clear m; intro u m; simp only [over,zH,zI,zJ,zK,zL,zM,zN,zO,zP,zF,zG,Nat.reduceAdd] at m
  refine n_nil (k13 _ _ ?_)
  refine wp_region_lit (n_val (r_add (m:=1) (n:=1) (r:=2) rfl rfl (by decide)) (n_val (r_move) (n_nil (then_rounds (c_seq fun K17 k17=>wp_region_lit (n_val (r_lssT (m:=2) (n:=3) rfl rfl (by decide)) (n_nil (k17 _ _ ?_))))))))
  refine c_seq fun K18 k18=>c_yes rfl (wp_skip (k18 _ _ ?_))
  refine c_seq fun K19 k19=>wp_block (c_seq fun K20 k20=>wp_region_lit (n_val (r_move) ?_))
  simp only [ev,zD,zE,zF,zG]
  refine n_val (r_indexAddrS Tryz.underlying22 cells_3 rfl rfl (by decide) (by decide) rfl) ?_
  simp only [ev,zD,zE,zF,zG]
  refine n_load rfl ((hB0.ext m.ext).lies1 agg_3 rfl) ?_
  simp only [ev,zD,zE,zF,zG]
  refine n_val (r_assign) (n_val (r_assign) (n_nil (k20 _ _ ?_)))
  refine c_seq fun K21 k21=>wp_region_lit (n_val (r_move) (n_val (r_move) ?_))
  simp only [ev,zD,zE,zF,zG]
  refine mcall m rfl rfl (edge_2 _ (hB1.ext m.ext) (hB2.ext m.ext)) ?_
  clear m; rintro v u m rfl
  simp only [ev,zD,zE,zF,zG]
  refine malloc m zero_34 rfl ?_
  clear m; intro g7 u m
  simp only [ev,zD,zE,zF,zG]
  refine mstoreA m 0 rfl rfl rfl cells_34 (leT rfl) rfl ?_
  clear m; intro u m; simp only [over,zH,zI,zJ,zK,zL,zM,zN,zO,zP,zF,zG,Nat.reduceAdd] at m
  refine n_nil (k21 _ _ ?_)
  refine c_seq fun K22 k22=>wp_region_lit (n_val (r_move) (n_val (r_eqlF (m:=2) (n:=0) rfl rfl (by decide)) (n_val (r_move) (n_want rfl ?_))))
  simp only [ev,zD,zE,zF,zG]
  refine n_load rfl ((m.b 0 rfl).full agg_34 cells_34) ?_
  simp only [ev,zD,zE,zF,zG]
  refine n_want rfl (n_load rfl ((m.b 3 rfl).full agg_34 cells_34) ?_)
  simp only [ev,zD,zE,zF,zG]
  refine n_want rfl (mcallP m rfl rfl (CmpFrac_c Bq.up Bq.up) ?_)
  clear m; intro u m
  refine n_want rfl (n_val (r_lss rfl rfl) (n_val (r_pickF rfl) (n_nil (k22 _ _ ?_))))
  simp only [ev,zD,zE,zF,zG]
  refine c_if rfl (fun hc2=>?_) (fun hc2=>?_)
  ·
   have h2:=qcmp_lt.1 hc2
   refine wp_region_lit (n_load rfl ((m.b 0 rfl).full agg_34 cells_34) ?_)
   simp only [ev,zD,zE,zF,zG]
   refine mstoreA m 3 rfl rfl rfl cells_34 (leT rfl) rfl ?_
   clear m; intro u m; simp only [over,zH,zI,zJ,zK,zL,zM,zN,zO,zP,zF,zG,Nat.reduceAdd] at m
   refine n_nil (k19 _ _ ?_)
   refine wp_region_lit (n_val (r_add (m:=2) (n:=1) (r:=3) rfl rfl (by decide)) (n_val (r_move) (n_nil (then_rounds (c_seq fun K23 k23=>wp_region_lit (n_val (r_lssF (m:=3) (n:=3) rfl rfl (by decide)) (n_nil (k23 _ _ ?_))))))))
   refine c_seq fun K24 k24=>c_no rfl (wp_exit (k3 _ _ ?_))
   refine c_seq fun K25 k25=>wp_region_lit ?_
   simp only [ev,zD,zE,zF,zG]
   refine n_load rfl ((m.b 3 rfl).full agg_34 cells_34) ?_
   simp only [ev,zD,zE,zF,zG]
   refine n_val (r_move) (n_val (r_lenS rfl Tryz.underlying22 rfl) (n_val (r_gtrT (m:=3) (n:=0) rfl rfl (by decide)) ?_))
   simp only [ev,zD,zE,zF,zG]
   refine mstoreA m 4 rfl rfl rfl cells_34 (leT rfl) rfl ?_
   clear m; intro u m; simp only [over,zH,zI,zJ,zK,zL,zM,zN,zO,zP,zF,zG,Nat.reduceAdd] at m
   refine n_val (r_assign) (n_nil (k25 _ _ ?_))
   refine wp_ret ?_
   simp only [ev,zD,zE,zF,zG]
   try simp only [Exit.inBlock,Exit.then,if_true]
   refine fin2 rfl ⟨_,rfl,((m.b 4 rfl).full agg_34 cells_34)⟩ rfl ?_
   try simp only [zD,zE]
   exact ⟨_,rfl,m.ext,by simp only [edgeq,minq,h1,h2,if_true,if_false]; rfl⟩
  ·
   have h2:=mt qcmp_lt.2 hc2
   refine wp_skip (k19 _ _ ?_)
   refine wp_region_lit (n_val (r_add (m:=2) (n:=1) (r:=3) rfl rfl (by decide)) (n_val (r_move) (n_nil (then_rounds (c_seq fun K26 k26=>wp_region_lit (n_val (r_lssF (m:=3) (n:=3) rfl rfl (by decide)) (n_nil (k26 _ _ ?_))))))))
   refine c_seq fun K27 k27=>c_no rfl (wp_exit (k3 _ _ ?_))
   refine c_seq fun K28 k28=>wp_region_lit ?_
   simp only [ev,zD,zE,zF,zG]
   refine n_load rfl ((m.b 3 rfl).full agg_34 cells_34) ?_
   simp only [ev,zD,zE,zF,zG]
   refine n_val (r_move) (n_val (r_lenS rfl Tryz.underlying22 rfl) (n_val (r_gtrT (m:=3) (n:=0) rfl rfl (by decide)) ?_))
   simp only [ev,zD,zE,zF,zG]
   refine mstoreA m 4 rfl rfl rfl cells_34 (leT rfl) rfl ?_
   clear m; intro u m; simp only [over,zH,zI,zJ,zK,zL,zM,zN,zO,zP,zF,zG,Nat.reduceAdd] at m
   refine n_val (r_assign) (n_nil (k28 _ _ ?_))
   refine wp_ret ?_
   simp only [ev,zD,zE,zF,zG]
   try simp only [Exit.inBlock,Exit.then,if_true]
   refine fin2 rfl ⟨_,rfl,((m.b 4 rfl).full agg_34 cells_34)⟩ rfl ?_
   try simp only [zD,zE]
   exact ⟨_,rfl,m.ext,by simp only [edgeq,minq,h1,h2,if_true,if_false]; rfl⟩
 ·
  have h1:=mt qcmp_lt.2 hc2
  refine wp_skip (k13 _ _ ?_)
  refine wp_region_lit (n_val (r_add (m:=1) (n:=1) (r:=2) rfl rfl (by decide)) (n_val (r_move) (n_nil (then_rounds (c_seq fun K29 k29=>wp_region_lit (n_val (r_lssT (m:=2) (n:=3) rfl rfl (by decide)) (n_nil (k29 _ _ ?_))))))))
  refine c_seq fun K30 k30=>c_yes rfl (wp_skip (k30 _ _ ?_))
  refine c_seq fun K31 k31=>wp_block (c_seq fun K32 k32=>wp_region_lit (n_val (r_move) ?_))
  simp only [ev,zD,zE,zF,zG]
  refine n_val (r_indexAddrS Tryz.underlying22 cells_3 rfl rfl (by decide) (by decide) rfl) ?_
  simp only [ev,zD,zE,zF,zG]
  refine n_load rfl ((hB0.ext m.ext).lies1 agg_3 rfl) ?_
  simp only [ev,zD,zE,zF,zG]
  refine n_val (r_assign) (n_val (r_assign) (n_nil (k32 _ _ ?_)))
  refine c_seq fun K33 k33=>wp_region_lit (n_val (r_move) (n_val (r_move) ?_))
  simp only [ev,zD,zE,zF,zG]
  refine mcall m rfl rfl (edge_2 _ (hB1.ext m.ext) (hB2.ext m.ext)) ?_
  clear m; rintro v u m rfl
  simp only [ev,zD,zE,zF,zG]
  refine malloc m zero_34 rfl ?_
  clear m; intro g7 u m
  simp only [ev,zD,zE,zF,zG]
  refine mstoreA m 0 rfl rfl rfl cells_34 (leT rfl) rfl ?_
  clear m; intro u m; simp only [over,zH,zI,zJ,zK,zL,zM,zN,zO,zP,zF,zG,Nat.reduceAdd] at m
  refine n_nil (k33 _ _ ?_)
  refine c_seq fun K34 k34=>wp_region_lit (n_val (r_move) (n_val (r_eqlF (m:=2) (n:=0) rfl rfl (by decide)) (n_val (r_move) (n_want rfl ?_))))
  simp only [ev,zD,zE,zF,zG]
  refine n_load rfl ((m.b 0 rfl).full agg_34 cells_34) ?_
  simp only [ev,zD,zE,zF,zG]
  refine n_want rfl (n_load rfl ((m.b 3 rfl).full agg_34 cells_34) ?_)
  simp only [ev,zD,zE,zF,zG]
  refine n_want rfl (mcallP m rfl rfl (CmpFrac_c Bq.up Bq.up) ?_)
  clear m; intro u m
  refine n_want rfl (n_val (r_lss rfl rfl) (n_val (r_pickF rfl) (n_nil (k34 _ _ ?_))))
  simp only [ev,zD,zE,zF,zG]
  refine c_if rfl (fun hc2=>?_) (fun hc2=>?_)
  ·
   have h2:=qcmp_lt.1 hc2
   refine wp_region_lit (n_load rfl ((m.b 0 rfl).full agg_34 cells_34) ?_)
   simp only [ev,zD,zE,zF,zG]
   refine mstoreA m 3 rfl rfl rfl cells_34 (leT rfl) rfl ?_
   clear m; intro u m; simp only [over,zH,zI,zJ,zK,zL,zM,zN,zO,zP,zF,zG,Nat.reduceAdd] at m
   refine n_nil (k31 _ _ ?_)
   refine wp_region_lit (n_val (r_add (m:=2) (n:=1) (r:=3) rfl rfl (by decide)) (n_val (r_move) (n_nil (then_rounds (c_seq fun K35 k35=>wp_region_lit (n_val (r_lssF (m:=3) (n:=3) rfl rfl (by decide)) (n_nil (k35 _ _ ?_))))))))
   refine c_seq fun K36 k36=>c_no rfl (wp_exit (k3 _ _ ?_))
   refine c_seq fun K37 k37=>wp_region_lit ?_
   simp only [ev,zD,zE,zF,zG]
   refine n_load rfl ((m.b 3 rfl).full agg_34 cells_34) ?_
   simp only [ev,zD,zE,zF,zG]
   refine n_val (r_move) (n_val (r_lenS rfl Tryz.underlying22 rfl) (n_val (r_gtrT (m:=3) (n:=0) rfl rfl (by decide)) ?_))
   simp only [ev,zD,zE,zF,zG]
   refine mstoreA m 4 rfl rfl rfl cells_34 (leT rfl) rfl ?_
   clear m; intro u m; simp only [over,zH,zI,zJ,zK,zL,zM,zN,zO,zP,zF,zG,Nat.reduceAdd] at m
   refine n_val (r_assign) (n_nil (k37 _ _ ?_))
   refine wp_ret ?_
   simp only [ev,zD,zE,zF,zG]
   try simp only [Exit.inBlock,Exit.then,if_true]
   refine fin2 rfl ⟨_,rfl,((m.b 4 rfl).full agg_34 cells_34)⟩ rfl ?_
   try simp only [zD,zE]
   exact ⟨_,rfl,m.ext,by simp only [edgeq,minq,h1,h2,if_true,if_false]; rfl⟩
  ·
   have h2:=mt qcmp_lt.2 hc2
   refine wp_skip (k31 _ _ ?_)
   refine wp_region_lit (n_val (r_add (m:=2) (n:=1) (r:=3) rfl rfl (by decide)) (n_val (r_move) (n_nil (then_rounds (c_seq fun K38 k38=>wp_region_lit (n_val (r_lssF (m:=3) (n:=3) rfl rfl (by decide)) (n_nil (k38 _ _ ?_))))))))
   refine c_seq fun K39 k39=>c_no rfl (wp_exit (k3 _ _ ?_))
   refine c_seq fun K40 k40=>wp_region_lit ?_
   simp only [ev,zD,zE,zF,zG]
   refine n_load rfl ((m.b 3 rfl).full agg_34 cells_34) ?_
   simp only [ev,zD,zE,zF,zG]
   refine n_val (r_move) (n_val (r_lenS rfl Tryz.underlying22 rfl) (n_val (r_gtrT (m:=3) (n:=0) rfl rfl (by decide)) ?_))
   simp only [ev,zD,zE,zF,zG]
   refine mstoreA m 4 rfl rfl rfl cells_34 (leT rfl) rfl ?_
   clear m; intro u m; simp only [over,zH,zI,zJ,zK,zL,zM,zN,zO,zP,zF,zG,Nat.reduceAdd] at m
   refine n_val (r_assign) (n_nil (k40 _ _ ?_))
   refine wp_ret ?_
   simp only [ev,zD,zE,zF,zG]
   try simp only [Exit.inBlock,Exit.then,if_true]
   refine fin2 rfl ⟨_,rfl,((m.b 4 rfl).full agg_34 cells_34)⟩ rfl ?_
   try simp only [zD,zE]
   exact ⟨_,rfl,m.ext,by simp only [edgeq,minq,h1,h2,if_true,if_false]; rfl⟩
theorem triangle_c {x : P3} {t : T3} [I3 x] [IT t] : Pure Tryz.prog 44 [pt x,tr t] (Q (triq x t)):=by
 intro w
 refine ⟨en_44,?_⟩
 have m:=Mem.refl w
 go_enter Tryz.func44,Tryz.ntmps44
 refine c_seq fun K1 k1=>wp_region_lit (mboxA m rfl ?_)
 clear m; intro g1 u m
 simp only [ev,zD,zE,zF,zG]
 refine mboxA m rfl ?_
 clear m; intro g2 u m
 simp only [ev,zD,zE,zF,zG]
 refine malloc m zero_34 rfl ?_
 clear m; intro g3 u m
 refine n_nil (k1 _ _ ?_)
 refine c_seq fun K2 k2=>wp_region_lit ?_
 simp only [ev,zD,zE,zF,zG]
 refine n_load rfl ((m.b 1 rfl).full agg_59 cells_59) ?_
 simp only [ev,zD,zE,zF,zG]
 refine mcallP m rfl rfl (Normal_c) ?_
 clear m; intro u m
 simp only [ev,zD,zE,zF,zG]
 refine malloc m zero_76 rfl ?_
 clear m; intro g4 u m
 simp only [ev,zD,zE,zF,zG]
 refine mstoreA m 0 rfl rfl rfl cells_76 (leT rfl) rfl ?_
 clear m; intro u m; simp only [over,zH,zI,zJ,zK,zL,zM,zN,zO,zP,zF,zG,Nat.reduceAdd] at m
 refine n_nil (k2 _ _ ?_)
 refine c_seq fun K3 k3=>wp_region_lit (n_load rfl ((m.b 2 rfl).full agg_59 cells_59) ?_)
 simp only [ev,zD,zE,zF,zG]
 refine mcallP m rfl rfl (Flat_c) ?_
 clear m; intro u m
 refine n_val (r_not rfl) (n_val (r_assign) (n_nil ?_))
 simp only [ev,zD,zE,zF,zG]
 obtain ⟨b0,hb0⟩ : ∃ b : Bool,b = !(decide (isign t.normal.x = 0 ∧ isign t.normal.y = 0 ∧ isign t.normal.z = 0)):=⟨_,rfl⟩
 rw [← hb0]
 refine k3 _ _ ?_
 refine c_seq fun K4 k4=>c_seq fun K5 k5=>wp_region_lit (n_load rfl ((m.b 2 rfl).full agg_59 cells_59) ?_)
 simp only [ev,zD,zE,zF,zG]
 refine n_val (r_move) (n_nil (k5 _ _ ?_))
 refine wp_block (wp_loop_rounds 4 (rounds_step (c_seq fun K6 k6=>wp_region_lit (n_val (r_lssT (m:=0) (n:=3) rfl rfl (by decide)) (n_nil (k6 _ _ ?_))))))
 refine c_seq fun K7 k7=>c_yes rfl (wp_skip (k7 _ _ ?_))
 refine c_seq fun K8 k8=>wp_block (c_seq fun K9 k9=>wp_region_lit (n_val (r_move) (n_val (r_index_59_0 rfl rfl) ?_)))
 simp only [ev,zD,zE,zF,zG]
 refine malloc m zero_28 rfl ?_
 clear m; intro g5 u m
 refine n_val (r_assign) ?_
 simp only [ev,zD,zE,zF,zG]
 refine mstoreA m 0 rfl rfl rfl cells_28 (leT rfl) rfl ?_
 clear m; intro u m; simp only [over,zH,zI,zJ,zK,zL,zM,zN,zO,zP,zF,zG,Nat.reduceAdd] at m
 refine n_nil (k9 _ _ ?_)
 rcases b0 with _ | _
 ·
  have hno : ¬ (¬ t.flat ∧ ins x t):=no0 hb0
  refine mq m follows_mixed (by kernel_rfl) (q_val (r_move) (q_val (r_move) (q_skipT rfl (q_skipT rfl ?_))))
  simp only [ev,zD,zE,zF,zG]
  refine q_skipT rfl (q_skipT rfl (q_skipT rfl (q_skipT rfl ?_)))
  simp only [ev,zD,zE,zF,zG]
  refine q_skipT rfl (q_skipT rfl (q_skipT rfl (q_skipT rfl ?_)))
  simp only [ev,zD,zE,zF,zG]
  refine q_skipT rfl (q_skipT rfl (q_skipT rfl (q_skipT rfl ?_)))
  simp only [ev,zD,zE,zF,zG]
  refine q_skipT rfl (q_val (r_pickF rfl) (q_val (r_assign) (q_nil ?_)))
  clear m; intro u m
  refine k8 _ _ ?_
  refine wp_region_lit (n_val (r_add (m:=0) (n:=1) (r:=1) rfl rfl (by decide)) ?_)
  simp only [ev,zD,zE,zF,zG]
  refine n_val (r_move) (n_nil (then_rounds (c_seq fun K10 k10=>wp_region_lit (n_val (r_lssT (m:=1) (n:=3) rfl rfl (by decide)) (n_nil (k10 _ _ ?_))))))
  refine c_seq fun K11 k11=>c_yes rfl (wp_skip (k11 _ _ ?_))
  refine c_seq fun K12 k12=>wp_block (c_seq fun K13 k13=>wp_region_lit (n_val (r_move) (n_val (r_index_59_1 rfl rfl) ?_)))
  simp only [ev,zD,zE,zF,zG]
  refine malloc m zero_28 rfl ?_
  clear m; intro g6 u m
  refine n_val (r_assign) ?_
  simp only [ev,zD,zE,zF,zG]
  refine mstoreA m 0 rfl rfl rfl cells_28 (leT rfl) rfl ?_
  clear m; intro u m; simp only [over,zH,zI,zJ,zK,zL,zM,zN,zO,zP,zF,zG,Nat.reduceAdd] at m
  refine n_nil (k13 _ _ ?_)
  refine mq m follows_mixed (by kernel_rfl) (q_val (r_move) (q_val (r_move) (q_skipT rfl (q_skipT rfl ?_))))
  simp only [ev,zD,zE,zF,zG]
  refine q_skipT rfl (q_skipT rfl (q_skipT rfl (q_skipT rfl ?_)))
  simp only [ev,zD,zE,zF,zG]
  refine q_skipT rfl (q_skipT rfl (q_skipT rfl (q_skipT rfl ?_)))
  simp only [ev,zD,zE,zF,zG]
  refine q_skipT rfl (q_skipT rfl (q_skipT rfl (q_skipT rfl ?_)))
  simp only [ev,zD,zE,zF,zG]
  refine q_skipT rfl (q_val (r_pickF rfl) (q_val (r_assign) (q_nil ?_)))
  clear m; intro u m
  refine k12 _ _ ?_
  refine wp_region_lit (n_val (r_add (m:=1) (n:=1) (r:=2) rfl rfl (by decide)) ?_)
  simp only [ev,zD,zE,zF,zG]
  refine n_val (r_move) (n_nil (then_rounds (c_seq fun K14 k14=>wp_region_lit (n_val (r_lssT (m:=2) (n:=3) rfl rfl (by decide)) (n_nil (k14 _ _ ?_))))))
  refine c_seq fun K15 k15=>c_yes rfl (wp_skip (k15 _ _ ?_))
  refine c_seq fun K16 k16=>wp_block (c_seq fun K17 k17=>wp_region_lit (n_val (r_move) (n_val (r_index_59_2 rfl rfl) ?_)))
  simp only [ev,zD,zE,zF,zG]
  refine malloc m zero_28 rfl ?_
  clear m; intro g7 u m
  refine n_val (r_assign) ?_
  simp only [ev,zD,zE,zF,zG]
  refine mstoreA m 0 rfl rfl rfl cells_28 (leT rfl) rfl ?_
  clear m; intro u m; simp only [over,zH,zI,zJ,zK,zL,zM,zN,zO,zP,zF,zG,Nat.reduceAdd] at m
  refine n_nil (k17 _ _ ?_)
  refine mq m follows_mixed (by kernel_rfl) (q_val (r_move) (q_val (r_move) (q_skipT rfl (q_skipT rfl ?_))))
  simp only [ev,zD,zE,zF,zG]
  refine q_skipT rfl (q_skipT rfl (q_skipT rfl (q_skipT rfl ?_)))
  simp only [ev,zD,zE,zF,zG]
  refine q_skipT rfl (q_skipT rfl (q_skipT rfl (q_skipT rfl ?_)))
  simp only [ev,zD,zE,zF,zG]
  refine q_skipT rfl (q_skipT rfl (q_skipT rfl (q_skipT rfl ?_)))
  simp only [ev,zD,zE,zF,zG]
  refine q_skipT rfl (q_val (r_pickF rfl) (q_val (r_assign) (q_nil ?_)))
  clear m; intro u m
  refine k16 _ _ ?_
  refine wp_region_lit (n_val (r_add (m:=2) (n:=1) (r:=3) rfl rfl (by decide)) ?_)
  simp only [ev,zD,zE,zF,zG]
  refine n_val (r_move) (n_nil (then_rounds (c_seq fun K18 k18=>wp_region_lit (n_val (r_lssF (m:=3) (n:=3) rfl rfl (by decide)) (n_nil (k18 _ _ ?_))))))
  refine c_seq fun K19 k19=>c_no rfl (wp_exit (k4 _ _ ?_))
  refine c_seq fun K20 k20=>c_seq fun K21 k21=>wp_region_lit (n_val (r_move) (n_nil (k21 _ _ ?_)))
  refine c_no rfl (wp_skip (k20 _ _ ?_))
  refine c_seq fun K22 k22=>wp_region_lit ?_
  simp only [ev,zD,zE,zF,zG]
  refine n_bs_22_3 rfl rfl rfl ?_
  intro u g8 e hg hB; replace m:=m.newB e hg hB; clear e hg hB
  simp only [ev,zD,zE,zF,zG]
  refine n_val (r_makeFunc) ?_
  simp only [ev,zD,zE,zF,zG,List.map_toArray,List.map_cons,List.map_nil]
  refine mcall m rfl rfl (least3_c _ (m.b 0 rfl) (m.b 7 rfl) (m.b 6 rfl)) ?_
  clear m; rintro v u m rfl
  refine n_val (r_move) (n_val (r_extract rfl rfl) (n_val (r_extract rfl rfl) ?_))
  simp only [ev,zD,zE,zF,zG]
  refine malloc m zero_34 rfl ?_
  clear m; intro g9 u m
  simp only [ev,zD,zE,zF,zG]
  refine mstoreA m 0 rfl rfl rfl cells_34 (leT rfl) rfl ?_
  clear m; intro u m; simp only [over,zH,zI,zJ,zK,zL,zM,zN,zO,zP,zF,zG,Nat.reduceAdd] at m
  refine n_val (r_assign) (n_nil (k22 _ _ ?_))
  refine c_seq fun K23 k23=>wp_region_lit ?_
  simp only [ev,zD,zE,zF,zG]
  refine n_load rfl ((m.b 0 rfl).full agg_34 cells_34) ?_
  simp only [ev,zD,zE,zF,zG]
  refine mstoreA m 6 rfl rfl rfl cells_34 (leT rfl) rfl ?_
  clear m; intro u m; simp only [over,zH,zI,zJ,zK,zL,zM,zN,zO,zP,zF,zG,Nat.reduceAdd] at m
  refine n_nil (k23 _ _ ?_)
  refine wp_ret ?_
  try simp only [Exit.inBlock,Exit.then,if_true]
  refine fin1 rfl ⟨_,rfl,((m.b 6 rfl).full agg_34 cells_34)⟩ ?_
  try simp only [zD,zE]
  exact ⟨_,rfl,m.ext,by first | exact triq_face ⟨hy0,hy1,hy2,hy3⟩ ▸ rfl | exact triq_edge hno ▸ rfl⟩
 ·
  have hy0:=yes0 hb0
  refine mq m follows_mixed (by kernel_rfl) (q_val (r_move) (q_val (r_move) (q_want rfl ?_)))
  simp only [ev,zD,zE,zF,zG]
  refine ql rfl (fun u m=>((m.b 1 rfl).full agg_76 cells_76)) ?_
  simp only [ev,zD,zE,zF,zG]
  refine q_want rfl (ql rfl (fun u m=>((m.b 0 rfl).full agg_28 cells_28)) ?_)
  simp only [ev,zD,zE,zF,zG]
  refine q_want rfl (q_val (r_move) (q_want rfl (q_val (r_add (m:=0) (n:=1) (r:=1) rfl rfl (by decide)) (q_want rfl (q_val (r_rem (m:=1) (n:=3) (r:=1) rfl rfl (by decide) (by decide)) (q_want rfl (q_val (r_indexAddrA Tryz.underlying59 cells_28 rfl rfl (by decide) (by decide) rfl) ?_)))))))
  simp only [ev,zD,zE,zF,zG]
  refine q_want rfl (ql rfl (fun u m=>((m.b 3 rfl).lies agg_28 cells_28 rfl rfl)) ?_)
  simp only [ev,zD,zE,zF,zG,zH,zI,zJ,zK,Nat.zero_add,Nat.reduceAdd,Nat.reduceMul,Int.reduceToNat]
  refine q_want rfl (qcP rfl rfl (from_c) (q_want rfl ?_))
  simp only [ev,zD,zE,zF,zG]
  refine ql rfl (fun u m=>((m.b 0 rfl).full agg_28 cells_28)) ?_
  simp only [ev,zD,zE,zF,zG]
  refine q_want rfl (ql rfl (fun u m=>((m.b 4 rfl).full agg_28 cells_28)) ?_)
  simp only [ev,zD,zE,zF,zG]
  refine q_want rfl (qcP rfl rfl (from_c) (q_want rfl ?_))
  simp only [ev,zD,zE,zF,zG]
  refine qcP rfl rfl (mCross_c Bv.of Bv.of) (q_want rfl ?_)
  simp only [ev,zD,zE,zF,zG]
  refine qcP rfl rfl (mDot_c Bv.of Bv.of) (q_want rfl ?_)
  simp only [ev,zD,zE,zF,zG]
  refine qcP rfl rfl (Sign_c Bw.up) (q_want rfl (q_val (r_geq rfl rfl) (q_val (r_pickT rfl) (q_val (r_assign) ?_))))
  simp only [ev,zD,zE,zF,zG]
  refine q_nil ?_
  clear m; intro u m
  obtain ⟨b1,hb1⟩ : ∃ b : Bool,b = decide (0 ≤ isign (t.normal.dot ((t.b.sub t.a).cross (x.sub t.a)))):=⟨_,rfl⟩
  rw [← hb1]
  refine k8 _ _ ?_
  refine wp_region_lit (n_val (r_add (m:=0) (n:=1) (r:=1) rfl rfl (by decide)) (n_val (r_move) (n_nil (then_rounds (c_seq fun K24 k24=>wp_region_lit (n_val (r_lssT (m:=1) (n:=3) rfl rfl (by decide)) (n_nil (k24 _ _ ?_))))))))
  refine c_seq fun K25 k25=>c_yes rfl (wp_skip (k25 _ _ ?_))
  refine c_seq fun K26 k26=>wp_block (c_seq fun K27 k27=>wp_region_lit (n_val (r_move) ?_))
  simp only [ev,zD,zE,zF,zG]
  refine n_val (r_index_59_1 rfl rfl) ?_
  simp only [ev,zD,zE,zF,zG]
  refine malloc m zero_28 rfl ?_
  clear m; intro g6 u m
  refine n_val (r_assign) ?_
  simp only [ev,zD,zE,zF,zG]
  refine mstoreA m 0 rfl rfl rfl cells_28 (leT rfl) rfl ?_
  clear m; intro u m; simp only [over,zH,zI,zJ,zK,zL,zM,zN,zO,zP,zF,zG,Nat.reduceAdd] at m
  refine n_nil (k27 _ _ ?_)
  rcases b1 with _ | _
  ·
   have hno : ¬ (¬ t.flat ∧ ins x t):=fun h=>no_side hb1 h.2.1
   refine mq m follows_mixed (by kernel_rfl) (q_val (r_move) (q_val (r_move) (q_skipT rfl (q_skipT rfl ?_))))
   simp only [ev,zD,zE,zF,zG]
   refine q_skipT rfl (q_skipT rfl (q_skipT rfl (q_skipT rfl ?_)))
   simp only [ev,zD,zE,zF,zG]
   refine q_skipT rfl (q_skipT rfl (q_skipT rfl (q_skipT rfl ?_)))
   simp only [ev,zD,zE,zF,zG]
   refine q_skipT rfl (q_skipT rfl (q_skipT rfl (q_skipT rfl ?_)))
   simp only [ev,zD,zE,zF,zG]
   refine q_skipT rfl (q_val (r_pickF rfl) (q_val (r_assign) (q_nil ?_)))
   clear m; intro u m
   refine k26 _ _ ?_
   refine wp_region_lit (n_val (r_add (m:=1) (n:=1) (r:=2) rfl rfl (by decide)) ?_)
   simp only [ev,zD,zE,zF,zG]
   refine n_val (r_move) (n_nil (then_rounds (c_seq fun K28 k28=>wp_region_lit (n_val (r_lssT (m:=2) (n:=3) rfl rfl (by decide)) (n_nil (k28 _ _ ?_))))))
   refine c_seq fun K29 k29=>c_yes rfl (wp_skip (k29 _ _ ?_))
   refine c_seq fun K30 k30=>wp_block (c_seq fun K31 k31=>wp_region_lit (n_val (r_move) (n_val (r_index_59_2 rfl rfl) ?_)))
   simp only [ev,zD,zE,zF,zG]
   refine malloc m zero_28 rfl ?_
   clear m; intro g7 u m
   refine n_val (r_assign) ?_
   simp only [ev,zD,zE,zF,zG]
   refine mstoreA m 0 rfl rfl rfl cells_28 (leT rfl) rfl ?_
   clear m; intro u m; simp only [over,zH,zI,zJ,zK,zL,zM,zN,zO,zP,zF,zG,Nat.reduceAdd] at m
   refine n_nil (k31 _ _ ?_)
   refine mq m follows_mixed (by kernel_rfl) (q_val (r_move) (q_val (r_move) (q_skipT rfl (q_skipT rfl ?_))))
   simp only [ev,zD,zE,zF,zG]
   refine q_skipT rfl (q_skipT rfl (q_skipT rfl (q_skipT rfl ?_)))
   simp only [ev,zD,zE,zF,zG]
   refine q_skipT rfl (q_skipT rfl (q_skipT rfl (q_skipT rfl ?_)))
   simp only [ev,zD,zE,zF,zG]
   refine q_skipT rfl (q_skipT rfl (q_skipT rfl (q_skipT rfl ?_)))
   simp only [ev,zD,zE,zF,zG]
   refine q_skipT rfl (q_val (r_pickF rfl) (q_val (r_assign) (q_nil ?_)))
   clear m; intro u m
   refine k30 _ _ ?_
   refine wp_region_lit (n_val (r_add (m:=2) (n:=1) (r:=3) rfl rfl (by decide)) ?_)
   simp only [ev,zD,zE,zF,zG]
   refine n_val (r_move) (n_nil (then_rounds (c_seq fun K32 k32=>wp_region_lit (n_val (r_lssF (m:=3) (n:=3) rfl rfl (by decide)) (n_nil (k32 _ _ ?_))))))
   refine c_seq fun K33 k33=>c_no rfl (wp_exit (k4 _ _ ?_))
   refine c_seq fun K34 k34=>c_seq fun K35 k35=>wp_region_lit (n_val (r_move) (n_nil (k35 _ _ ?_)))
   refine c_no rfl (wp_skip (k34 _ _ ?_))
   refine c_seq fun K36 k36=>wp_region_lit ?_
   simp only [ev,zD,zE,zF,zG]
   refine n_bs_22_3 rfl rfl rfl ?_
   intro u g8 e hg hB; replace m:=m.newB e hg hB; clear e hg hB
   simp only [ev,zD,zE,zF,zG]
   refine n_val (r_makeFunc) ?_
   simp only [ev,zD,zE,zF,zG,List.map_toArray,List.map_cons,List.map_nil]
   refine mcall m rfl rfl (least3_c _ (m.b 0 rfl) (m.b 7 rfl) (m.b 6 rfl)) ?_
   clear m; rintro v u m rfl
   refine n_val (r_move) (n_val (r_extract rfl rfl) (n_val (r_extract rfl rfl) ?_))
   simp only [ev,zD,zE,zF,zG]
   refine malloc m zero_34 rfl ?_
   clear m; intro g9 u m
   simp only [ev,zD,zE,zF,zG]
   refine mstoreA m 0 rfl rfl rfl cells_34 (leT rfl) rfl ?_
   clear m; intro u m; simp only [over,zH,zI,zJ,zK,zL,zM,zN,zO,zP,zF,zG,Nat.reduceAdd] at m
   refine n_val (r_assign) (n_nil (k36 _ _ ?_))
   refine c_seq fun K37 k37=>wp_region_lit ?_
   simp only [ev,zD,zE,zF,zG]
   refine n_load rfl ((m.b 0 rfl).full agg_34 cells_34) ?_
   simp only [ev,zD,zE,zF,zG]
   refine mstoreA m 6 rfl rfl rfl cells_34 (leT rfl) rfl ?_
   clear m; intro u m; simp only [over,zH,zI,zJ,zK,zL,zM,zN,zO,zP,zF,zG,Nat.reduceAdd] at m
   refine n_nil (k37 _ _ ?_)
   refine wp_ret ?_
   try simp only [Exit.inBlock,Exit.then,if_true]
   refine fin1 rfl ⟨_,rfl,((m.b 6 rfl).full agg_34 cells_34)⟩ ?_
   try simp only [zD,zE]
   exact ⟨_,rfl,m.ext,by first | exact triq_face ⟨hy0,hy1,hy2,hy3⟩ ▸ rfl | exact triq_edge hno ▸ rfl⟩
  ·
   have hy1:=yes_side hb1
   refine mq m follows_mixed (by kernel_rfl) (q_val (r_move) (q_val (r_move) (q_want rfl ?_)))
   simp only [ev,zD,zE,zF,zG]
   refine ql rfl (fun u m=>((m.b 2 rfl).full agg_76 cells_76)) ?_
   simp only [ev,zD,zE,zF,zG]
   refine q_want rfl (ql rfl (fun u m=>((m.b 0 rfl).full agg_28 cells_28)) ?_)
   simp only [ev,zD,zE,zF,zG]
   refine q_want rfl (q_val (r_move) (q_want rfl (q_val (r_add (m:=1) (n:=1) (r:=2) rfl rfl (by decide)) (q_want rfl (q_val (r_rem (m:=2) (n:=3) (r:=2) rfl rfl (by decide) (by decide)) (q_want rfl (q_val (r_indexAddrA Tryz.underlying59 cells_28 rfl rfl (by decide) (by decide) rfl) ?_)))))))
   simp only [ev,zD,zE,zF,zG]
   refine q_want rfl (ql rfl (fun u m=>((m.b 4 rfl).lies agg_28 cells_28 rfl rfl)) ?_)
   simp only [ev,zD,zE,zF,zG,zH,zI,zJ,zK,Nat.zero_add,Nat.reduceAdd,Nat.reduceMul,Int.reduceToNat]
   refine q_want rfl (qcP rfl rfl (from_c) (q_want rfl ?_))
   simp only [ev,zD,zE,zF,zG]
   refine ql rfl (fun u m=>((m.b 0 rfl).full agg_28 cells_28)) ?_
   simp only [ev,zD,zE,zF,zG]
   refine q_want rfl (ql rfl (fun u m=>((m.b 5 rfl).full agg_28 cells_28)) ?_)
   simp only [ev,zD,zE,zF,zG]
   refine q_want rfl (qcP rfl rfl (from_c) (q_want rfl ?_))
   simp only [ev,zD,zE,zF,zG]
   refine qcP rfl rfl (mCross_c Bv.of Bv.of) (q_want rfl ?_)
   simp only [ev,zD,zE,zF,zG]
   refine qcP rfl rfl (mDot_c Bv.of Bv.of) (q_want rfl ?_)
   simp only [ev,zD,zE,zF,zG]
   refine qcP rfl rfl (Sign_c Bw.up) (q_want rfl (q_val (r_geq rfl rfl) (q_val (r_pickT rfl) (q_val (r_assign) ?_))))
   simp only [ev,zD,zE,zF,zG]
   refine q_nil ?_
   clear m; intro u m
   obtain ⟨b2,hb2⟩ : ∃ b : Bool,b = decide (0 ≤ isign (t.normal.dot ((t.c.sub t.b).cross (x.sub t.b)))):=⟨_,rfl⟩
   rw [← hb2]
   refine k26 _ _ ?_
   refine wp_region_lit (n_val (r_add (m:=1) (n:=1) (r:=2) rfl rfl (by decide)) (n_val (r_move) (n_nil (then_rounds (c_seq fun K38 k38=>wp_region_lit (n_val (r_lssT (m:=2) (n:=3) rfl rfl (by decide)) (n_nil (k38 _ _ ?_))))))))
   refine c_seq fun K39 k39=>c_yes rfl (wp_skip (k39 _ _ ?_))
   refine c_seq fun K40 k40=>wp_block (c_seq fun K41 k41=>wp_region_lit (n_val (r_move) ?_))
   simp only [ev,zD,zE,zF,zG]
   refine n_val (r_index_59_2 rfl rfl) ?_
   simp only [ev,zD,zE,zF,zG]
   refine malloc m zero_28 rfl ?_
   clear m; intro g7 u m
   refine n_val (r_assign) ?_
   simp only [ev,zD,zE,zF,zG]
   refine mstoreA m 0 rfl rfl rfl cells_28 (leT rfl) rfl ?_
   clear m; intro u m; simp only [over,zH,zI,zJ,zK,zL,zM,zN,zO,zP,zF,zG,Nat.reduceAdd] at m
   refine n_nil (k41 _ _ ?_)
   rcases b2 with _ | _
   ·
    have hno : ¬ (¬ t.flat ∧ ins x t):=fun h=>no_side hb2 h.2.2.1
    refine mq m follows_mixed (by kernel_rfl) (q_val (r_move) (q_val (r_move) (q_skipT rfl (q_skipT rfl ?_))))
    simp only [ev,zD,zE,zF,zG]
    refine q_skipT rfl (q_skipT rfl (q_skipT rfl (q_skipT rfl ?_)))
    simp only [ev,zD,zE,zF,zG]
    refine q_skipT rfl (q_skipT rfl (q_skipT rfl (q_skipT rfl ?_)))
    simp only [ev,zD,zE,zF,zG]
    refine q_skipT rfl (q_skipT rfl (q_skipT rfl (q_skipT rfl ?_)))
    simp only [ev,zD,zE,zF,zG]
    refine q_skipT rfl (q_val (r_pickF rfl) (q_val (r_assign) (q_nil ?_)))
    clear m; intro u m
    refine k40 _ _ ?_
    refine wp_region_lit (n_val (r_add (m:=2) (n:=1) (r:=3) rfl rfl (by decide)) ?_)
    simp only [ev,zD,zE,zF,zG]
    refine n_val (r_move) (n_nil (then_rounds (c_seq fun K42 k42=>wp_region_lit (n_val (r_lssF (m:=3) (n:=3) rfl rfl (by decide)) (n_nil (k42 _ _ ?_))))))
    refine c_seq fun K43 k43=>c_no rfl (wp_exit (k4 _ _ ?_))
    refine c_seq fun K44 k44=>c_seq fun K45 k45=>wp_region_lit (n_val (r_move) (n_nil (k45 _ _ ?_)))
    refine c_no rfl (wp_skip (k44 _ _ ?_))
    refine c_seq fun K46 k46=>wp_region_lit ?_
    simp only [ev,zD,zE,zF,zG]
    refine n_bs_22_3 rfl rfl rfl ?_
    intro u g8 e hg hB; replace m:=m.newB e hg hB; clear e hg hB
    simp only [ev,zD,zE,zF,zG]
    refine n_val (r_makeFunc) ?_
    simp only [ev,zD,zE,zF,zG,List.map_toArray,List.map_cons,List.map_nil]
    refine mcall m rfl rfl (least3_c _ (m.b 0 rfl) (m.b 7 rfl) (m.b 6 rfl)) ?_
    clear m; rintro v u m rfl
    refine n_val (r_move) (n_val (r_extract rfl rfl) (n_val (r_extract rfl rfl) ?_))
    simp only [ev,zD,zE,zF,zG]
    refine malloc m zero_34 rfl ?_
    clear m; intro g9 u m
    simp only [ev,zD,zE,zF,zG]
    refine mstoreA m 0 rfl rfl rfl cells_34 (leT rfl) rfl ?_
    clear m; intro u m; simp only [over,zH,zI,zJ,zK,zL,zM,zN,zO,zP,zF,zG,Nat.reduceAdd] at m
    refine n_val (r_assign) (n_nil (k46 _ _ ?_))
    refine c_seq fun K47 k47=>wp_region_lit ?_
    simp only [ev,zD,zE,zF,zG]
    refine n_load rfl ((m.b 0 rfl).full agg_34 cells_34) ?_
    simp only [ev,zD,zE,zF,zG]
    refine mstoreA m 6 rfl rfl rfl cells_34 (leT rfl) rfl ?_
    clear m; intro u m; simp only [over,zH,zI,zJ,zK,zL,zM,zN,zO,zP,zF,zG,Nat.reduceAdd] at m
    refine n_nil (k47 _ _ ?_)
    refine wp_ret ?_
    try simp only [Exit.inBlock,Exit.then,if_true]
    refine fin1 rfl ⟨_,rfl,((m.b 6 rfl).full agg_34 cells_34)⟩ ?_
    try simp only [zD,zE]
    exact ⟨_,rfl,m.ext,by first | exact triq_face ⟨hy0,hy1,hy2,hy3⟩ ▸ rfl | exact triq_edge hno ▸ rfl⟩
   ·
    have hy2:=yes_side hb2
    refine mq m follows_mixed (by kernel_rfl) (q_val (r_move) (q_val (r_move) (q_want rfl ?_)))
    simp only [ev,zD,zE,zF,zG]
    refine ql rfl (fun u m=>((m.b 3 rfl).full agg_76 cells_76)) ?_
    simp only [ev,zD,zE,zF,zG]
    refine q_want rfl (ql rfl (fun u m=>((m.b 0 rfl).full agg_28 cells_28)) ?_)
    simp only [ev,zD,zE,zF,zG]
    refine q_want rfl (q_val (r_move) (q_want rfl (q_val (r_add (m:=2) (n:=1) (r:=3) rfl rfl (by decide)) (q_want rfl (q_val (r_rem (m:=3) (n:=3) (r:=0) rfl rfl (by decide) (by decide)) (q_want rfl (q_val (r_indexAddrA Tryz.underlying59 cells_28 rfl rfl (by decide) (by decide) rfl) ?_)))))))
    simp only [ev,zD,zE,zF,zG]
    refine q_want rfl (ql rfl (fun u m=>((m.b 5 rfl).lies agg_28 cells_28 rfl rfl)) ?_)
    simp only [ev,zD,zE,zF,zG,zH,zI,zJ,zK,Nat.zero_add,Nat.reduceAdd,Nat.reduceMul,Int.reduceToNat]
    refine q_want rfl (qcP rfl rfl (from_c) (q_want rfl ?_))
    simp only [ev,zD,zE,zF,zG]
    refine ql rfl (fun u m=>((m.b 0 rfl).full agg_28 cells_28)) ?_
    simp only [ev,zD,zE,zF,zG]
    refine q_want rfl (ql rfl (fun u m=>((m.b 6 rfl).full agg_28 cells_28)) ?_)
    simp only [ev,zD,zE,zF,zG]
    refine q_want rfl (qcP rfl rfl (from_c) (q_want rfl ?_))
    simp only [ev,zD,zE,zF,zG]
    refine qcP rfl rfl (mCross_c Bv.of Bv.of) (q_want rfl ?_)
    simp only [ev,zD,zE,zF,zG]
    refine qcP rfl rfl (mDot_c Bv.of Bv.of) (q_want rfl ?_)
    simp only [ev,zD,zE,zF,zG]
    refine qcP rfl rfl (Sign_c Bw.up) (q_want rfl (q_val (r_geq rfl rfl) (q_val (r_pickT rfl) (q_val (r_assign) ?_))))
    simp only [ev,zD,zE,zF,zG]
    refine q_nil ?_
    clear m; intro u m
    obtain ⟨b3,hb3⟩ : ∃ b : Bool,b = decide (0 ≤ isign (t.normal.dot ((t.a.sub t.c).cross (x.sub t.c)))):=⟨_,rfl⟩
    rw [← hb3]
    refine k40 _ _ ?_
    refine wp_region_lit (n_val (r_add (m:=2) (n:=1) (r:=3) rfl rfl (by decide)) (n_val (r_move) (n_nil (then_rounds (c_seq fun K48 k48=>wp_region_lit (n_val (r_lssF (m:=3) (n:=3) rfl rfl (by decide)) (n_nil (k48 _ _ ?_))))))))
    refine c_seq fun K49 k49=>c_no rfl (wp_exit (k4 _ _ ?_))
    refine c_seq fun K50 k50=>c_seq fun K51 k51=>wp_region_lit (n_val (r_move) ?_)
    simp only [ev,zD,zE,zF,zG]
    refine n_nil (k51 _ _ ?_)
    refine c_cond rfl (fun hc2=>?_) (fun hc2=>?_)
    ·
     have hy3:=yes_side (hb3.symm.trans hc2).symm
     refine c_seq fun K52 k52=>?_
     refine wp_region_fresh 7 [0,1,2,3,4,5] [⟨6,9,32,[.bool false,.string ⟨#[]⟩]⟩] follows_mixed (by kernel_rfl) (al1 ⟨_,_,_,rfl,by kernel_rfl,_,zero_32,rfl⟩) (ol:=?_) ?hol ?_
     case hol=>simp only [zQ,zR,zS,zT,zU,zV]; try rfl
     intro u e; replace m:=m.ext' e; clear e
     refine e_load rfl (fun u e=>(((m.ext' e).b 3 rfl).full agg_76 cells_76)) ?_
     simp only [ev,zD,zE,zF,zG]
     refine e_val (r_indexAddrA Tryz.underlying59 cells_28 rfl rfl (by decide) (by decide) rfl) ?_
     simp only [ev,zD,zE,zF,zG]
     refine e_load rfl (fun u e=>(((m.ext' e).b 5 rfl).lies agg_28 cells_28 rfl rfl)) ?_
     simp only [ev,zD,zE,zF,zG,zH,zI,zJ,zK,Nat.zero_add,Nat.reduceAdd,Nat.reduceMul,Int.reduceToNat]
     refine e_load rfl (fun u e=>(((m.ext' e).b 6 rfl).full agg_28 cells_28)) ?_
     simp only [ev,zD,zE,zF,zG]
     refine e_callP rfl rfl (from_c) ?_
     simp only [ev,zD,zE,zF,zG]
     refine e_callP rfl rfl (mDot_c Bv.of Bv.of) (e_nil ?_)
     simp only [ev,zD,zE,zF,zG]
     refine mf1 m ?_
     clear m; intro g8 u m
     simp only [zJ,zK,zF,zG]
     refine mstoreA m 0 rfl rfl rfl cells_32 (leT rfl) rfl ?_
     clear m; intro u m; simp only [over,zH,zI,zJ,zK,zL,zM,zN,zO,zP,zF,zG,Nat.reduceAdd] at m
     refine n_nil (k52 _ _ ?_)
     refine c_seq fun K53 k53=>?_
     refine mq_tail m 7 follows_mixed (by kernel_rfl) ?_
     simp only [zH,zI,zJ,zK]
     refine ql rfl (fun u m=>((m.b 0 rfl).full agg_32 cells_32)) ?_
     simp only [ev,zD,zE,zF,zG]
     refine ql rfl (fun u m=>((m.b 0 rfl).full agg_32 cells_32)) ?_
     simp only [ev,zD,zE,zF,zG]
     refine qcP rfl rfl (Mul_c Bw.up Bw.up) ?_
     simp only [ev,zD,zE,zF,zG]
     refine ql rfl (fun u m=>((m.b 4 rfl).full agg_76 cells_76)) ?_
     simp only [ev,zD,zE,zF,zG]
     refine ql rfl (fun u m=>((m.b 4 rfl).full agg_76 cells_76)) ?_
     simp only [ev,zD,zE,zF,zG]
     refine qcP rfl rfl (mDot_c Bv.of Bv.of) ?_
     simp only [ev,zD,zE,zF,zG]
     refine qcP rfl rfl (mFrac_c Bw.up Bw.up (by have:=flat_dot.2 hy0; omega)) (q_nil ?_)
     clear m; intro u m
     simp only [ev,zD,zE,zF,zG]
     refine mstoreA m 5 rfl rfl rfl cells_34 (leT rfl) rfl ?_
     clear m; intro u m; simp only [over,zH,zI,zJ,zK,zL,zM,zN,zO,zP,zF,zG,Nat.reduceAdd] at m
     refine n_nil (k53 _ _ ?_)
     refine wp_ret ?_
     try simp only [Exit.inBlock,Exit.then,if_true]
     refine fin1 rfl ⟨_,rfl,((m.b 5 rfl).full agg_34 cells_34)⟩ ?_
     try simp only [zD,zE]
     exact ⟨_,rfl,m.ext,by first | exact triq_face ⟨hy0,hy1,hy2,hy3⟩ ▸ rfl | exact triq_edge hno ▸ rfl⟩
    ·
     have hno : ¬ (¬ t.flat ∧ ins x t):=fun h=>no_side (hb3.symm.trans hc2).symm h.2.2.2
     refine wp_skip (k50 _ _ ?_)
     refine c_seq fun K54 k54=>wp_region_lit (n_bs_22_3 rfl rfl rfl ?_)
     intro u g8 e hg hB; replace m:=m.newB e hg hB; clear e hg hB
     simp only [ev,zD,zE,zF,zG]
     refine n_val (r_makeFunc) ?_
     simp only [ev,zD,zE,zF,zG,List.map_toArray,List.map_cons,List.map_nil]
     refine mcall m rfl rfl (least3_c _ (m.b 0 rfl) (m.b 7 rfl) (m.b 6 rfl)) ?_
     clear m; rintro v u m rfl
     refine n_val (r_move) (n_val (r_extract rfl rfl) (n_val (r_extract rfl rfl) ?_))
     simp only [ev,zD,zE,zF,zG]
     refine malloc m zero_34 rfl ?_
     clear m; intro g9 u m
     simp only [ev,zD,zE,zF,zG]
     refine mstoreA m 0 rfl rfl rfl cells_34 (leT rfl) rfl ?_
     clear m; intro u m; simp only [over,zH,zI,zJ,zK,zL,zM,zN,zO,zP,zF,zG,Nat.reduceAdd] at m
     refine n_val (r_assign) (n_nil (k54 _ _ ?_))
     refine c_seq fun K55 k55=>wp_region_lit ?_
     simp only [ev,zD,zE,zF,zG]
     refine n_load rfl ((m.b 0 rfl).full agg_34 cells_34) ?_
     simp only [ev,zD,zE,zF,zG]
     refine mstoreA m 6 rfl rfl rfl cells_34 (leT rfl) rfl ?_
     clear m; intro u m; simp only [over,zH,zI,zJ,zK,zL,zM,zN,zO,zP,zF,zG,Nat.reduceAdd] at m
     refine n_nil (k55 _ _ ?_)
     refine wp_ret ?_
     try simp only [Exit.inBlock,Exit.then,if_true]
     refine fin1 rfl ⟨_,rfl,((m.b 6 rfl).full agg_34 cells_34)⟩ ?_
     try simp only [zD,zE]
     exact ⟨_,rfl,m.ext,by first | exact triq_face ⟨hy0,hy1,hy2,hy3⟩ ▸ rfl | exact triq_edge hno ▸ rfl⟩
end Go.Proofs.YtmcgcnpgkkfkoaaGreatDoor
namespace Go.Proofs.YtmcgcnpgkkfkoaaGreatDoor
open Go.RowKit Go.Lith
set_option maxRecDepth 100000
attribute [local irreducible] wpList wpQuiet wpMix wpMixH wpTree Code.wp
theorem far1_c {x : P3} {t : T3} [I3 x] [IT t] {g1 : Nat} (w : World) (hB1 : Blk w g1 [.int .i64 x.x,.int .i64 x.y,.int .i64 x.z] 28) : Does Tryz.prog 43 [tr t,.pointer (some ⟨g1,0,none⟩)] w (fun v _=>v = Q (triq x t)):=by
 refine ⟨en_43,?_⟩
 have m:=Mem.refl w
 go_enter Tryz.func43,Tryz.ntmps43
 refine c_seq fun K1 k1=>wp_region_lit (mboxA m rfl ?_)
 clear m; intro g2 u m
 simp only [ev,zD,zE,zF,zG]
 refine malloc m zero_34 rfl ?_
 clear m; intro g3 u m
 refine n_nil (k1 _ _ ?_)
 refine c_seq fun K2 k2=>wp_region_lit ?_
 simp only [ev,zD,zE,zF,zG]
 refine n_load rfl ((hB1.ext m.ext).lies agg_28 cells_28 rfl rfl) ?_
 simp only [ev,zD,zE,zF,zG,zH,zI,zJ,zK,Nat.zero_add,Nat.reduceAdd,Nat.reduceMul,Int.reduceToNat]
 refine n_load rfl ((m.b 1 rfl).full agg_59 cells_59) ?_
 simp only [ev,zD,zE,zF,zG]
 refine mcallP m rfl rfl (triangle_c) ?_
 clear m; intro u m
 simp only [ev,zD,zE,zF,zG]
 refine mstoreA m 0 rfl rfl rfl cells_34 (leT rfl) rfl ?_
 clear m; intro u m; simp only [over,zH,zI,zJ,zK,zL,zM,zN,zO,zP,zF,zG,Nat.reduceAdd] at m
 refine n_nil (k2 _ _ ?_)
 refine wp_ret ?_
 try simp only [Exit.inBlock,Exit.then,if_true]
 refine fin1 rfl ⟨_,rfl,((m.b 0 rfl).full agg_34 cells_34)⟩ ?_
 try simp only [zD,zE]
 exact ⟨_,rfl,m.ext,rfl⟩
theorem least_c {x : P3} {ts : List T3} [I3 x] {g1 N cap : Nat} {A : Option Addr} (w : World) (hB1 : Blk w g1 [.int .i64 x.x,.int .i64 x.y,.int .i64 x.z] 28) (hT : TrisAt w A N ts) (hN : N < 4611686018427387904) : Does Tryz.prog 42 [.slice A N cap,.func (.func 43) #[] #[.pointer (some ⟨g1,0,none⟩)]] w (fun v _=>v = .tuple #[Q (farq x ts),.bool (decide ((0 : Int) < (N : Int)))]):=by
 refine ⟨en_42,?_⟩
 have m:=Mem.refl w
 go_enter Tryz.func42,Tryz.ntmps42
 refine c_seq fun K1 k1=>wp_region_lit (malloc m zero_34 rfl ?_)
 clear m; intro g2 u m
 refine n_val (r_assign) (n_nil (k1 _ _ ?_))
 refine c_seq fun K2 k2=>wp_region_lit (n_val (r_build_32_) ?_)
 simp only [ev,zD,zE,zF,zG]
 refine mcallP m rfl rfl (whole0_c) ?_
 clear m; intro u m
 simp only [ev,zD,zE,zF,zG]
 refine malloc m zero_34 rfl ?_
 clear m; intro g3 u m
 simp only [ev,zD,zE,zF,zG]
 refine mstoreA m 0 rfl rfl rfl cells_34 (leT rfl) rfl ?_
 clear m; intro u m; simp only [over,zH,zI,zJ,zK,zL,zM,zN,zO,zP,zF,zG,Nat.reduceAdd] at m
 refine n_nil (k2 _ _ ?_)
 refine c_seq fun K3 k3=>c_seq fun K4 k4=>wp_region_lit (n_val (r_move) (n_val (r_lenS rfl Tryz.underlying24 rfl) (n_val (r_move) (n_nil (k4 _ _ ?_)))))
 refine wp_block ?_
 simp only [ev,zD,zE,zF,zG]
 try simp only [Nat.zero_add,Nat.reduceAdd,Nat.reduceMul,Int.reduceToNat]
 refine c_loopg [14] [7,8,9,15,16,17,18,19,20,21,22,23,24,25,26,27,28,29,30,31] (fun n vs wl=>∃ (k : Nat),vs = [.int .i64 (k:Int)] ∧ Mem w wl [bI g3 [.bool (wneg (farq x (ts.take k)).num),.string (wmag (farq x (ts.take k)).num),.bool (wneg ((farq x (ts.take k)).den : Int)),.string (wmag ((farq x (ts.take k)).den : Int))] 34,bI g2 [.bool false,.string ⟨#[]⟩,.bool false,.string ⟨#[]⟩] 34] ∧ (k ≤ N) ∧ (n = N - k)) ?_ ?_
 ·
  apply Exists.intro
  simp only [zQ,zR,zD,zE]
  exact ⟨0,rfl,m,Nat.zero_le _,rfl⟩
 ·
  intro n vs wr hI u
  clear m
  obtain ⟨k,rfl,m,hk,hn⟩:=hI
  simp only [setG_cons,setG_nil,setMany_cons,setMany_nil,zF,zG]
  refine c_seq fun K5 k5=>wp_region_lit (n_val (r_lss rfl rfl) (n_nil (k5 _ _ ?_)))
  refine c_seq fun K6 k6=>?_
  simp only [ev,zD,zE,zF,zG]
  refine c_if rfl (fun hc1=>?_) (fun hc1=>?_)
  ·
   obtain ⟨t,ht,_,a,rfl,hrow⟩:=hT.get (i:=k) (by omega)
   refine wp_skip (k6 _ _ ?_)
   refine c_seq fun K7 k7=>wp_block (c_seq fun K8 k8=>wp_region_lit (n_val (r_move) ?_))
   simp only [ev,zD,zE,zF,zG]
   refine n_val (r_indexAddrS Tryz.underlying24 cells_59 rfl rfl (by omega) (by omega) (addrN (Int.toNat_natCast _))) ?_
   simp only [ev,zD,zE,zF,zG]
   refine n_load rfl ((hrow.ext m.ext).lies agg_59 cells_59) ?_
   simp only [ev,zD,zE,zF,zG]
   refine malloc m zero_59 rfl ?_
   clear m; intro g4 u m
   refine n_val (r_assign) ?_
   simp only [ev,zD,zE,zF,zG]
   refine mstoreA m 0 rfl rfl rfl cells_59 (leT rfl) rfl ?_
   clear m; intro u m; simp only [over,zH,zI,zJ,zK,zL,zM,zN,zO,zP,zF,zG,Nat.reduceAdd] at m
   refine n_nil (k8 _ _ ?_)
   refine c_seq fun K9 k9=>wp_region_lit (n_val (r_move) ?_)
   simp only [ev,zD,zE,zF,zG]
   refine n_load rfl ((m.b 0 rfl).full agg_59 cells_59) ?_
   simp only [ev,zD,zE,zF,zG]
   refine mcall m rfl rfl (far1_c (t:=t) _ (hB1.ext m.ext)) ?_
   clear m; rintro v u m rfl
   simp only [ev,zD,zE,zF,zG]
   refine malloc m zero_34 rfl ?_
   clear m; intro g5 u m
   simp only [ev,zD,zE,zF,zG]
   refine mstoreA m 0 rfl rfl rfl cells_34 (leT rfl) rfl ?_
   clear m; intro u m; simp only [over,zH,zI,zJ,zK,zL,zM,zN,zO,zP,zF,zG,Nat.reduceAdd] at m
   refine n_nil (k9 _ _ ?_)
   refine c_seq fun K10 k10=>?_
   rcases Nat.eq_zero_or_pos k with hk0 | hk0
   ·
    have hq : farq x (ts.take (k + 1)) = triq x t:=by subst hk0; exact farq_one ht
    refine wp_region_lit (n_val (r_move) ?_)
    simp only [ev,zD,zE,zF,zG]
    refine n_val (r_eqlT rfl rfl (by omega)) (n_val (r_move) (n_skipF rfl (n_skipF rfl ?_)))
    simp only [ev,zD,zE,zF,zG]
    refine n_skipF rfl (n_skipF rfl (n_val (r_pickT rfl) (n_nil (k10 _ _ ?_))))
    refine c_yes rfl (wp_region_lit ?_)
    simp only [ev,zD,zE,zF,zG]
    refine n_load rfl ((m.b 0 rfl).full agg_34 cells_34) ?_
    simp only [ev,zD,zE,zF,zG]
    refine mstoreA m 2 rfl rfl rfl cells_34 (leT rfl) rfl ?_
    clear m; intro u m; simp only [over,zH,zI,zJ,zK,zL,zM,zN,zO,zP,zF,zG,Nat.reduceAdd] at m
    refine n_nil (k7 _ _ ?_)
    refine wp_region_lit (n_val (r_add rfl rfl (wrap_i64 (by omega) (by omega))) (n_val (r_move) (n_nil ?_)))
    simp only [ev,zD,zE,zF,zG]
    simp only [Exit.inBlock,Exit.then]
    refine ⟨N - (k + 1),_,?_,rfl,?_,?_⟩
    · omega
    · simp only [zQ,zR,zD,zE,setG_cons,setG_nil,setMany_cons,setMany_nil,zF,zG]
    ·
     simp only [zQ,zR,zD,zE]
     exact ⟨k + 1,rfl,((m.re 2 rfl (by rw [hq]; exact (m.b 2 rfl))).sel [false,false,true,true]),by omega,rfl⟩
   ·
    refine wp_region_lit (n_val (r_move) ?_)
    simp only [ev,zD,zE,zF,zG]
    refine n_val (r_eqlF rfl rfl (by omega)) (n_val (r_move) (n_want rfl ?_))
    simp only [ev,zD,zE,zF,zG]
    refine n_load rfl ((m.b 0 rfl).full agg_34 cells_34) ?_
    simp only [ev,zD,zE,zF,zG]
    refine n_want rfl (n_load rfl ((m.b 2 rfl).full agg_34 cells_34) ?_)
    simp only [ev,zD,zE,zF,zG]
    refine n_want rfl (mcallP m rfl rfl (CmpFrac_c Bq.up (Bq.mono (farq_bq (fun u hu=>hT.it u (List.mem_of_mem_take hu))) (by decide))) ?_)
    clear m; intro u m
    refine n_want rfl (n_val (r_lss rfl rfl) (n_val (r_pickF rfl) (n_nil (k10 _ _ ?_))))
    simp only [ev,zD,zE,zF,zG]
    refine c_if rfl (fun hc2=>?_) (fun hc2=>?_)
    ·
     have hq:=(farq_step (x:=x) (by omega) ht).trans (if_pos (qcmp_lt.1 hc2))
     refine wp_region_lit (n_load rfl ((m.b 0 rfl).full agg_34 cells_34) ?_)
     simp only [ev,zD,zE,zF,zG]
     refine mstoreA m 2 rfl rfl rfl cells_34 (leT rfl) rfl ?_
     clear m; intro u m; simp only [over,zH,zI,zJ,zK,zL,zM,zN,zO,zP,zF,zG,Nat.reduceAdd] at m
     refine n_nil (k7 _ _ ?_)
     refine wp_region_lit (n_val (r_add rfl rfl (wrap_i64 (by omega) (by omega))) (n_val (r_move) (n_nil ?_)))
     simp only [ev,zD,zE,zF,zG]
     simp only [Exit.inBlock,Exit.then]
     refine ⟨N - (k + 1),_,?_,rfl,?_,?_⟩
     · omega
     · simp only [zQ,zR,zD,zE,setG_cons,setG_nil,setMany_cons,setMany_nil,zF,zG]
     ·
      simp only [zQ,zR,zD,zE]
      exact ⟨k + 1,rfl,((m.re 2 rfl (by rw [hq]; exact (m.b 2 rfl))).sel [false,false,true,true]),by omega,rfl⟩
    ·
     have hq:=(farq_step (x:=x) (by omega) ht).trans (if_neg (mt qcmp_lt.2 hc2))
     refine wp_skip (k7 _ _ ?_)
     refine wp_region_lit (n_val (r_add rfl rfl (wrap_i64 (by omega) (by omega))) (n_val (r_move) (n_nil ?_)))
     simp only [ev,zD,zE,zF,zG]
     simp only [Exit.inBlock,Exit.then]
     refine ⟨N - (k + 1),_,?_,rfl,?_,?_⟩
     · omega
     · simp only [zQ,zR,zD,zE,setG_cons,setG_nil,setMany_cons,setMany_nil,zF,zG]
     ·
      simp only [zQ,zR,zD,zE]
      exact ⟨k + 1,rfl,((m.re 2 rfl (by rw [hq]; exact (m.b 2 rfl))).sel [false,false,true,true]),by omega,rfl⟩
  ·
   have hkN : k = N:=by omega
   rw [hkN,show ts.take N = ts from List.take_of_length_le (by rw [hT.len]; exact Nat.le_refl _)] at m
   refine wp_exit (k3 _ _ ?_)
   refine c_seq fun K11 k11=>wp_region_lit (n_load rfl ((m.b 0 rfl).full agg_34 cells_34) ?_)
   simp only [ev,zD,zE,zF,zG]
   refine n_val (r_move) (n_val (r_lenS rfl Tryz.underlying24 rfl) (n_val (r_gtr rfl rfl) ?_))
   simp only [ev,zD,zE,zF,zG]
   refine mstoreA m 1 rfl rfl rfl cells_34 (leT rfl) rfl ?_
   clear m; intro u m; simp only [over,zH,zI,zJ,zK,zL,zM,zN,zO,zP,zF,zG,Nat.reduceAdd] at m
   refine n_val (r_assign) (n_nil (k11 _ _ ?_))
   refine wp_ret ?_
   simp only [ev,zD,zE,zF,zG]
   try simp only [Exit.inBlock,Exit.then,if_true]
   refine fin2 rfl ⟨_,rfl,((m.b 1 rfl).full agg_34 cells_34)⟩ rfl ?_
   try simp only [zD,zE]
   exact ⟨_,rfl,m.ext,rfl⟩
theorem Far2_c {x : P3} {ts : List T3} [I3 x] {N cap : Nat} {A : Option Addr} (w : World) (hT : TrisAt w A N ts) (hN : N < 4611686018427387904) : Does Tryz.prog 12 [pt x,.slice A N cap] w (fun v _=>v = .tuple #[Q (farq x ts),.bool (decide ((0 : Int) < (N : Int)))]):=by
 refine ⟨en_12,?_⟩
 have m:=Mem.refl w
 go_enter Tryz.func12,Tryz.ntmps12
 refine c_seq fun K1 k1=>wp_region_lit (mboxA m rfl ?_)
 clear m; intro g1 u m
 simp only [ev,zD,zE,zF,zG]
 refine malloc m zero_34 rfl ?_
 clear m; intro g2 u m
 refine n_val (r_assign) (n_nil (k1 _ _ ?_))
 refine c_seq fun K2 k2=>wp_region_lit (n_val (r_move) ?_)
 simp only [ev,zD,zE,zF,zG]
 refine n_val (r_makeFunc) ?_
 simp only [ev,zD,zE,zF,zG,List.map_toArray,List.map_cons,List.map_nil]
 refine mcall m rfl rfl (least_c _ (m.b 1 rfl) (hT.ext m.ext) hN) ?_
 clear m; rintro v u m rfl
 refine n_val (r_extract rfl rfl) (n_val (r_extract rfl rfl) ?_)
 simp only [ev,zD,zE,zF,zG]
 refine mstoreA m 0 rfl rfl rfl cells_34 (leT rfl) rfl ?_
 clear m; intro u m; simp only [over,zH,zI,zJ,zK,zL,zM,zN,zO,zP,zF,zG,Nat.reduceAdd] at m
 refine n_val (r_assign) (n_nil (k2 _ _ ?_))
 refine wp_ret ?_
 simp only [ev,zD,zE,zF,zG]
 try simp only [Exit.inBlock,Exit.then,if_true]
 refine fin2 rfl ⟨_,rfl,((m.b 0 rfl).full agg_34 cells_34)⟩ rfl ?_
 try simp only [zD,zE]
 exact ⟨_,rfl,m.ext,rfl⟩
end Go.Proofs.YtmcgcnpgkkfkoaaGreatDoor
namespace Go.Proofs.YtmcgcnpgkkfkoaaGreatDoor
open Go.RowKit Go.Lith
set_option maxRecDepth 100000
attribute [local irreducible] wpList wpQuiet wpMix wpMixH wpTree Code.wp
theorem Area_c {ts : List T3} {N cap : Nat} {A : Option Addr} (w : World) (hT : TrisAt w A N ts) (hN : N < 4611686018427387904) : Does Tryz.prog 14 [.slice A N cap] w (fun v _=>v = .tuple #[W (sumT lowA ts),W (sumT highA ts)]):=by
 refine ⟨en_14,?_⟩
 have m:=Mem.refl w
 go_enter Tryz.func14,Tryz.ntmps14
 refine c_seq fun K1 k1=>wp_region_lit (malloc m zero_32 rfl ?_)
 clear m; intro g1 u m
 simp only [ev,zD,zE,zF,zG]
 refine malloc m zero_32 rfl ?_
 clear m; intro g2 u m
 refine n_nil (k1 _ _ ?_)
 refine c_seq fun K2 k2=>c_seq fun K3 k3=>wp_region_lit (n_val (r_move) (n_val (r_lenS rfl Tryz.underlying24 rfl) (n_val (r_move) ?_)))
 simp only [ev,zD,zE,zF,zG]
 refine n_nil (k3 _ _ ?_)
 refine wp_block ?_
 try simp only [Nat.zero_add,Nat.reduceAdd,Nat.reduceMul,Int.reduceToNat]
 refine c_loopg [12] [5,6,7,8,9,13,14,15,16,17,18,19,20,21,22,23,24,25,26,27,28,29,30,31,32,33,34,35,36,37,38,39,40] (fun n vs wl=>∃ (k : Nat),vs = [.int .i64 (k:Int)] ∧ Mem w wl [bI g2 [.bool (wneg (sumT highA (ts.take k))),.string (wmag (sumT highA (ts.take k)))] 32,bI g1 [.bool (wneg (sumT lowA (ts.take k))),.string (wmag (sumT lowA (ts.take k)))] 32] ∧ (k ≤ N) ∧ (n = N - k)) ?_ ?_
 ·
  apply Exists.intro
  simp only [zQ,zR,zD,zE]
  exact ⟨0,rfl,m,Nat.zero_le _,rfl⟩
 ·
  intro n vs wr hI u
  clear m
  obtain ⟨k,rfl,m,hk,hn⟩:=hI
  simp only [setG_cons,setG_nil,setMany_cons,setMany_nil,zF,zG]
  refine c_seq fun K4 k4=>wp_region_lit (n_val (r_lss rfl rfl) (n_nil (k4 _ _ ?_)))
  refine c_seq fun K5 k5=>?_
  simp only [ev,zD,zE,zF,zG]
  refine c_if rfl (fun hc1=>?_) (fun hc1=>?_)
  ·
   obtain ⟨t,ht,_,a,rfl,hrow⟩:=hT.get (i:=k) (by omega)
   haveI : Bw 364 (sumT lowA (ts.take k)):=⟨sumT_bdt (m:=300) (fun u hu=>by haveI:=hT.it u hu; exact lowA_bd) (by rw [hT.len]; omega)⟩
   haveI : Bw 365 (sumT highA (ts.take k)):=⟨sumT_bdt (m:=301) (fun u hu=>by haveI:=hT.it u hu; exact highA_bd) (by rw [hT.len]; omega)⟩
   refine wp_skip (k5 _ _ ?_)
   refine c_seq fun K6 k6=>wp_block (c_seq fun K7 k7=>wp_region_lit (n_val (r_indexAddrS Tryz.underlying24 cells_59 rfl rfl (by omega) (by omega) (addrN (Int.toNat_natCast _))) ?_))
   simp only [ev,zD,zE,zF,zG]
   refine n_load rfl ((hrow.ext m.ext).lies agg_59 cells_59) ?_
   simp only [ev,zD,zE,zF,zG]
   refine malloc m zero_59 rfl ?_
   clear m; intro g3 u m
   simp only [ev,zD,zE,zF,zG]
   refine mstoreA m 0 rfl rfl rfl cells_59 (leT rfl) rfl ?_
   clear m; intro u m; simp only [over,zH,zI,zJ,zK,zL,zM,zN,zO,zP,zF,zG,Nat.reduceAdd] at m
   refine n_nil (k7 _ _ ?_)
   refine c_seq fun K8 k8=>wp_region_lit (n_load rfl ((m.b 0 rfl).full agg_59 cells_59) ?_)
   simp only [ev,zD,zE,zF,zG]
   refine mcallP m rfl rfl (Normal_c (t:=t)) ?_
   clear m; intro u m
   simp only [ev,zD,zE,zF,zG]
   refine malloc m zero_76 rfl ?_
   clear m; intro g4 u m
   simp only [ev,zD,zE,zF,zG]
   refine mstoreA m 0 rfl rfl rfl cells_76 (leT rfl) rfl ?_
   clear m; intro u m; simp only [over,zH,zI,zJ,zK,zL,zM,zN,zO,zP,zF,zG,Nat.reduceAdd] at m
   refine n_nil (k8 _ _ ?_)
   refine c_seq fun K9 k9=>wp_region_lit (n_load rfl ((m.b 0 rfl).full agg_76 cells_76) ?_)
   simp only [ev,zD,zE,zF,zG]
   refine n_load rfl ((m.b 0 rfl).full agg_76 cells_76) ?_
   simp only [ev,zD,zE,zF,zG]
   refine mcallP m rfl rfl (mDot_c Bv.of Bv.of) ?_
   clear m; intro u m
   simp only [ev,zD,zE,zF,zG]
   refine malloc m zero_32 rfl ?_
   clear m; intro g5 u m
   simp only [ev,zD,zE,zF,zG]
   refine mstoreA m 0 rfl rfl rfl cells_32 (leT rfl) rfl ?_
   clear m; intro u m; simp only [over,zH,zI,zJ,zK,zL,zM,zN,zO,zP,zF,zG,Nat.reduceAdd] at m
   refine n_nil (k9 _ _ ?_)
   refine c_seq fun K10 k10=>wp_region_lit (n_load rfl ((m.b 0 rfl).full agg_32 cells_32) ?_)
   simp only [ev,zD,zE,zF,zG]
   refine mcallP m rfl rfl (Root_c Bw.up (dot_nn _)) ?_
   clear m; intro u m
   refine n_val (r_move) (n_val (r_extract rfl rfl) (n_val (r_extract rfl rfl) ?_))
   simp only [ev,zD,zE,zF,zG]
   refine malloc m zero_32 rfl ?_
   clear m; intro g6 u m
   simp only [ev,zD,zE,zF,zG]
   refine mstoreA m 0 rfl rfl rfl cells_32 (leT rfl) rfl ?_
   clear m; intro u m; simp only [over,zH,zI,zJ,zK,zL,zM,zN,zO,zP,zF,zG,Nat.reduceAdd] at m
   refine n_val (r_assign) (n_nil ?_)
   simp only [ev,zD,zE,zF,zG]
   rw [show ((isqrt (t.normal.dot t.normal).natAbs : Nat) : Int) = lowA t from rfl] at m ⊢
   refine k10 _ _ ?_
   refine c_seq fun K11 k11=>?_
   refine mq_tail m 6 follows_mixed (by kernel_rfl) ?_
   simp only [zH,zI,zJ,zK]
   refine ql rfl (fun u m=>((m.b 5 rfl).full agg_32 cells_32)) ?_
   simp only [ev,zD,zE,zF,zG]
   refine ql rfl (fun u m=>((m.b 0 rfl).full agg_32 cells_32)) ?_
   simp only [ev,zD,zE,zF,zG]
   refine qcP rfl rfl (Add_c Bw.up Bw.up) ?_
   simp only [ev,zD,zE,zF,zG]
   refine ql rfl (fun u m=>((m.b 4 rfl).full agg_32 cells_32)) ?_
   simp only [ev,zD,zE,zF,zG]
   refine ql rfl (fun u m=>((m.b 0 rfl).full agg_32 cells_32)) ?_
   simp only [ev,zD,zE,zF,zG]
   refine qcP rfl rfl (Add_c Bw.up Bw.up) (q_nil ?_)
   clear m; intro u m
   simp only [ev,zD,zE,zF,zG]
   refine mstoreA m 5 rfl rfl rfl cells_32 (leT rfl) rfl ?_
   clear m; intro u m; simp only [over,zH,zI,zJ,zK,zL,zM,zN,zO,zP,zF,zG,Nat.reduceAdd] at m
   refine mstoreA m 4 rfl rfl rfl cells_32 (leT rfl) rfl ?_
   clear m; intro u m; simp only [over,zH,zI,zJ,zK,zL,zM,zN,zO,zP,zF,zG,Nat.reduceAdd] at m
   refine n_nil (k11 _ _ ?_)
   refine c_seq fun K12 k12=>mq m follows_mixed (by kernel_rfl) (ql rfl (fun u m=>((m.b 0 rfl).full agg_32 cells_32)) ?_)
   simp only [ev,zD,zE,zF,zG]
   refine ql rfl (fun u m=>((m.b 0 rfl).full agg_32 cells_32)) ?_
   simp only [ev,zD,zE,zF,zG]
   refine qcP rfl rfl (Mul_c Bw.up Bw.up) ?_
   simp only [ev,zD,zE,zF,zG]
   refine ql rfl (fun u m=>((m.b 1 rfl).full agg_32 cells_32)) ?_
   simp only [ev,zD,zE,zF,zG]
   refine q_val (eq_neq_32 rfl rfl) (q_nil ?_)
   clear m; intro u m
   refine k12 _ _ ?_
   simp only [ev,zD,zE,zF,zG]
   refine c_if rfl (fun hc2=>?_) (fun hc2=>?_)
   ·
    have hh:=(sumT_step (f:=highA) ht).trans (highA_ne fun e=>hc2 (W_eq_iff.2 e))
    refine mq_tail m 3 follows_mixed (by kernel_rfl) ?_
    simp only [zH,zI,zJ,zK]
    refine ql rfl (fun u m=>((m.b 4 rfl).full agg_32 cells_32)) ?_
    simp only [ev,zD,zE,zF,zG]
    refine qcP rfl rfl (From_c Iw.h) ?_
    simp only [ev,zD,zE,zF,zG]
    refine qcP rfl rfl (Add_c Bw.up Bw.up) (q_nil ?_)
    clear m; intro u m
    simp only [ev,zD,zE,zF,zG]
    refine mstoreA m 4 rfl rfl rfl cells_32 (leT rfl) rfl ?_
    clear m; intro u m; simp only [over,zH,zI,zJ,zK,zL,zM,zN,zO,zP,zF,zG,Nat.reduceAdd] at m
    refine n_nil (k6 _ _ ?_)
    refine wp_region_lit (n_val (r_add rfl rfl (wrap_i64 (by omega) (by omega))) (n_val (r_move) (n_nil ?_)))
    simp only [ev,zD,zE,zF,zG]
    simp only [Exit.inBlock,Exit.then]
    refine ⟨N - (k + 1),_,?_,rfl,?_,?_⟩
    · omega
    · simp only [zQ,zR,zD,zE,setG_cons,setG_nil,setMany_cons,setMany_nil,zF,zG]
    ·
     simp only [zQ,zR,zD,zE]
     exact ⟨k + 1,rfl,(((m.re 5 rfl (by rw [sumT_step ht]; exact (m.b 5 rfl))).re 4 rfl (by rw [hh]; exact (m.b 4 rfl))).sel [false,false,false,false,true,true]),by omega,rfl⟩
   ·
    have hh:=(sumT_step (f:=highA) ht).trans (highA_eq (W_eq_iff.1 (Decidable.of_not_not hc2)))
    refine wp_skip (k6 _ _ ?_)
    refine wp_region_lit (n_val (r_add rfl rfl (wrap_i64 (by omega) (by omega))) (n_val (r_move) (n_nil ?_)))
    simp only [ev,zD,zE,zF,zG]
    simp only [Exit.inBlock,Exit.then]
    refine ⟨N - (k + 1),_,?_,rfl,?_,?_⟩
    · omega
    · simp only [zQ,zR,zD,zE,setG_cons,setG_nil,setMany_cons,setMany_nil,zF,zG]
    ·
     simp only [zQ,zR,zD,zE]
     exact ⟨k + 1,rfl,(((m.re 5 rfl (by rw [sumT_step ht]; exact (m.b 5 rfl))).re 4 rfl (by rw [hh]; exact (m.b 4 rfl))).sel [false,false,false,false,true,true]),by omega,rfl⟩
  ·
   have hkN : k = N:=by omega
   rw [hkN,show ts.take N = ts from List.take_of_length_le (by rw [hT.len]; exact Nat.le_refl _)] at m
   refine wp_exit (k2 _ _ ?_)
   refine c_seq fun K13 k13=>?_
   refine mtree m [false,false] (.two 0 (.two 1 (.one 2 (.one 3 .nil)) 2 (.one 1 (.one 3 .nil))) 1 (.one 0 (.one 2 (.one 3 .nil)))) follows_mixed (by kernel_rfl) (panic_put (fun _ _ _ _ _ h=>h)) ?_
   clear m; intro u m
   refine t_two (by simp only [zS,zT,zU,zV]; rfl) (by simp only [zS,zT,zU,zV]; rfl) ?_ ?_
   ·
    refine n_load rfl ((m.b 1 rfl).full agg_32 cells_32) ?_
    simp only [ev,zD,zE,zF,zG]
    refine n_nil ?_
    refine ⟨m.sel [false,false],?_⟩
    refine t_two (by simp only [zS,zT,zU,zV]; rfl) (by simp only [zS,zT,zU,zV]; rfl) ?_ ?_
    ·
     refine n_load rfl ((m.b 0 rfl).full agg_32 cells_32) ?_
     simp only [ev,zD,zE,zF,zG]
     refine n_nil ?_
     refine ⟨m.sel [false,false],?_⟩
     refine t_one (by simp only [zS,zT,zU,zV]; rfl) (mstoreA m 1 rfl rfl rfl cells_32 (leT rfl) rfl ?_)
     clear m; intro u m; simp only [over,zH,zI,zJ,zK,zL,zM,zN,zO,zP,zF,zG,Nat.reduceAdd] at m
     refine n_nil ?_
     refine ⟨m.sel [false,false],?_⟩
     refine t_one (by simp only [zS,zT,zU,zV]; rfl) (mstoreA m 0 rfl rfl rfl cells_32 (leT rfl) rfl ?_)
     clear m; intro u m; simp only [over,zH,zI,zJ,zK,zL,zM,zN,zO,zP,zF,zG,Nat.reduceAdd] at m
     refine n_nil ?_
     refine ⟨m.sel [false,false],?_⟩
     refine t_nil (k13 _ _ ?_)
     refine wp_ret ?_
     try simp only [Exit.inBlock,Exit.then,if_true]
     refine fin2 rfl ⟨_,rfl,((m.b 1 rfl).full agg_32 cells_32)⟩ ⟨_,rfl,((m.b 0 rfl).full agg_32 cells_32)⟩ ?_
     try simp only [zD,zE]
     exact ⟨_,rfl,m.ext,rfl⟩
    ·
     refine mstoreA m 1 rfl rfl rfl cells_32 (leT rfl) rfl ?_
     clear m; intro u m; simp only [over,zH,zI,zJ,zK,zL,zM,zN,zO,zP,zF,zG,Nat.reduceAdd] at m
     refine n_nil ?_
     refine ⟨m.sel [false,false],?_⟩
     refine t_one (by simp only [zS,zT,zU,zV]; rfl) (n_load rfl ((m.b 0 rfl).full agg_32 cells_32) ?_)
     simp only [ev,zD,zE,zF,zG]
     refine n_nil ?_
     refine ⟨m.sel [false,false],?_⟩
     refine t_one (by simp only [zS,zT,zU,zV]; rfl) (mstoreA m 0 rfl rfl rfl cells_32 (leT rfl) rfl ?_)
     clear m; intro u m; simp only [over,zH,zI,zJ,zK,zL,zM,zN,zO,zP,zF,zG,Nat.reduceAdd] at m
     refine n_nil ?_
     refine ⟨m.sel [false,false],?_⟩
     refine t_nil (k13 _ _ ?_)
     refine wp_ret ?_
     try simp only [Exit.inBlock,Exit.then,if_true]
     refine fin2 rfl ⟨_,rfl,((m.b 1 rfl).full agg_32 cells_32)⟩ ⟨_,rfl,((m.b 0 rfl).full agg_32 cells_32)⟩ ?_
     try simp only [zD,zE]
     exact ⟨_,rfl,m.ext,rfl⟩
   ·
    refine n_load rfl ((m.b 0 rfl).full agg_32 cells_32) ?_
    simp only [ev,zD,zE,zF,zG]
    refine n_nil ?_
    refine ⟨m.sel [false,false],?_⟩
    refine t_one (by simp only [zS,zT,zU,zV]; rfl) (n_load rfl ((m.b 1 rfl).full agg_32 cells_32) ?_)
    simp only [ev,zD,zE,zF,zG]
    refine n_nil ?_
    refine ⟨m.sel [false,false],?_⟩
    refine t_one (by simp only [zS,zT,zU,zV]; rfl) (mstoreA m 1 rfl rfl rfl cells_32 (leT rfl) rfl ?_)
    clear m; intro u m; simp only [over,zH,zI,zJ,zK,zL,zM,zN,zO,zP,zF,zG,Nat.reduceAdd] at m
    refine n_nil ?_
    refine ⟨m.sel [false,false],?_⟩
    refine t_one (by simp only [zS,zT,zU,zV]; rfl) (mstoreA m 0 rfl rfl rfl cells_32 (leT rfl) rfl ?_)
    clear m; intro u m; simp only [over,zH,zI,zJ,zK,zL,zM,zN,zO,zP,zF,zG,Nat.reduceAdd] at m
    refine n_nil ?_
    refine ⟨m.sel [false,false],?_⟩
    refine t_nil (k13 _ _ ?_)
    refine wp_ret ?_
    try simp only [Exit.inBlock,Exit.then,if_true]
    refine fin2 rfl ⟨_,rfl,((m.b 1 rfl).full agg_32 cells_32)⟩ ⟨_,rfl,((m.b 0 rfl).full agg_32 cells_32)⟩ ?_
    try simp only [zD,zE]
    exact ⟨_,rfl,m.ext,rfl⟩
theorem prod3_c {x y z : Int} [Iw x] [Iw y] [Iw z] : Pure Tryz.prog 125 [.int .i64 x,.int .i64 y,.int .i64 z] (W (x * (y * z))):=by
 intro w
 refine ⟨en_125,?_⟩
 have m:=Mem.refl w
 go_enter Tryz.func125,Tryz.ntmps125
 refine c_seq fun K1 k1=>wp_region_lit (malloc m zero_32 rfl ?_)
 clear m; intro g1 u m
 refine n_nil (k1 _ _ ?_)
 refine c_seq fun K2 k2=>wp_region_lit (n_val (r_move) ?_)
 simp only [ev,zD,zE,zF,zG]
 refine mcallP m rfl rfl (From_c Iw.h) ?_
 clear m; intro u m
 refine n_val (r_move) ?_
 simp only [ev,zD,zE,zF,zG]
 refine mcallP m rfl rfl (From_c Iw.h) ?_
 clear m; intro u m
 refine n_val (r_move) ?_
 simp only [ev,zD,zE,zF,zG]
 refine mcallP m rfl rfl (From_c Iw.h) ?_
 clear m; intro u m
 simp only [ev,zD,zE,zF,zG]
 refine mcallP m rfl rfl (Mul_c Bw.up Bw.up) ?_
 clear m; intro u m
 simp only [ev,zD,zE,zF,zG]
 refine mcallP m rfl rfl (Mul_c Bw.up Bw.up) ?_
 clear m; intro u m
 simp only [ev,zD,zE,zF,zG]
 refine mstoreA m 0 rfl rfl rfl cells_32 (leT rfl) rfl ?_
 clear m; intro u m; simp only [over,zH,zI,zJ,zK,zL,zM,zN,zO,zP,zF,zG,Nat.reduceAdd] at m
 refine n_nil (k2 _ _ ?_)
 refine wp_ret ?_
 try simp only [Exit.inBlock,Exit.then,if_true]
 refine fin1 rfl ⟨_,rfl,((m.b 0 rfl).full agg_32 cells_32)⟩ ?_
 try simp only [zD,zE]
 exact ⟨_,rfl,m.ext,rfl⟩
theorem Volume6_c {ts : List T3} {N cap : Nat} {A : Option Addr} (w : World) (hT : TrisAt w A N ts) (hN : N < 4611686018427387904) : Does Tryz.prog 64 [.slice A N cap] w (fun v _=>v = W (sumT det ts)):=by
 refine ⟨en_64,?_⟩
 have m:=Mem.refl w
 go_enter Tryz.func64,Tryz.ntmps64
 refine c_seq fun K1 k1=>wp_region_lit (malloc m zero_32 rfl ?_)
 clear m; intro g1 u m
 refine n_nil (k1 _ _ ?_)
 refine c_seq fun K2 k2=>wp_region_lit ?_
 simp only [ev,zD,zE,zF,zG]
 refine malloc m zero_32 rfl ?_
 clear m; intro g2 u m
 refine n_nil (k2 _ _ ?_)
 refine c_seq fun K3 k3=>wp_region_lit (n_val (r_assign) (n_nil (k3 _ _ ?_)))
 refine c_seq fun K4 k4=>c_seq fun K5 k5=>wp_region_lit (n_val (r_move) (n_val (r_lenS rfl Tryz.underlying24 rfl) ?_))
 simp only [ev,zD,zE,zF,zG]
 refine n_val (r_move) (n_nil (k5 _ _ ?_))
 refine wp_block ?_
 simp only [ev,zD,zE,zF,zG]
 try simp only [Nat.zero_add,Nat.reduceAdd,Nat.reduceMul,Int.reduceToNat]
 refine c_loopg [16] [6,7,8,9,11,13,17,18,19,20,21,22,23,24,25,26,27,28,29,30,31,32,33,34,35,36,37,38,39,40,41,42,43,44,45,46,47,48,49,50,51,52,53,54,55,56,57,58,59,60,61,62,63,64,65,66,67,68,69,70,71,72,73,74,75,76,77,78,79,80,81,82,83,84,85,86,87,88,89,90,91,92,93,94] (fun n vs wl=>∃ (k : Nat),vs = [.int .i64 (k:Int)] ∧ Mem w wl [bI g2 [.bool (wneg (sumT det (ts.take k))),.string (wmag (sumT det (ts.take k)))] 32,bI g1 [.bool false,.string ⟨#[]⟩] 32] ∧ (k ≤ N) ∧ (n = N - k)) ?_ ?_
 ·
  apply Exists.intro
  simp only [zQ,zR,zD,zE]
  exact ⟨0,rfl,m,Nat.zero_le _,rfl⟩
 ·
  intro n vs wr hI u
  clear m
  obtain ⟨k,rfl,m,hk,hn⟩:=hI
  simp only [setG_cons,setG_nil,setMany_cons,setMany_nil,zF,zG]
  refine c_seq fun K6 k6=>wp_region_lit (n_val (r_lss rfl rfl) (n_nil (k6 _ _ ?_)))
  refine c_seq fun K7 k7=>?_
  simp only [ev,zD,zE,zF,zG]
  refine c_if rfl (fun hc1=>?_) (fun hc1=>?_)
  ·
   obtain ⟨t,ht,_,a,rfl,hrow⟩:=hT.get (i:=k) (by omega)
   haveI : Bw 264 (sumT det (ts.take k)):=⟨sumT_bdt (m:=200) (fun u hu=>by haveI:=hT.it u hu; exact det_bd) (by rw [hT.len]; omega)⟩
   refine wp_skip (k7 _ _ ?_)
   refine c_seq fun K8 k8=>wp_block (c_seq fun K9 k9=>wp_region_lit (n_val (r_indexAddrS Tryz.underlying24 cells_59 rfl rfl (by omega) (by omega) (addrN (Int.toNat_natCast _))) ?_))
   simp only [ev,zD,zE,zF,zG]
   refine n_load rfl ((hrow.ext m.ext).lies agg_59 cells_59) ?_
   simp only [ev,zD,zE,zF,zG]
   refine malloc m zero_59 rfl ?_
   clear m; intro g3 u m
   simp only [ev,zD,zE,zF,zG]
   refine mstoreA m 0 rfl rfl rfl cells_59 (leT rfl) rfl ?_
   clear m; intro u m; simp only [over,zH,zI,zJ,zK,zL,zM,zN,zO,zP,zF,zG,Nat.reduceAdd] at m
   refine n_nil (k9 _ _ ?_)
   refine c_seq fun K10 k10=>?_
   apply mcut3 m (T1:=28) (T2:=28) (T3:=28)
   ·
    refine mtree m [true,true,true] (.take 0 (.take 1 (.take 2 (.take 3 (.take 4 (.take 5 (.three 6 (.two 7 (.one 8 (.one 9 (.one 10 (.one 11 .nil)))) 8 (.one 7 (.one 9 (.one 10 (.one 11 .nil))))) 7 (.two 6 (.one 8 (.one 9 (.one 10 (.one 11 .nil)))) 8 (.one 6 (.one 9 (.one 10 (.one 11 .nil))))) 8 (.two 6 (.one 7 (.one 9 (.one 10 (.one 11 .nil)))) 7 (.one 6 (.one 9 (.one 10 (.one 11 .nil)))))))))))) follows_mixed (by kernel_rfl) (fun _ _ _ _ _ h=>by cases h.1) ?_
    intro u m
    refine t_take (by simp only [zS,zT,zU,zV]; rfl) (h_val (r_indexAddrA Tryz.underlying59 cells_28 rfl rfl (by decide) (by decide) rfl) (h_nil (t_take (by simp only [zS,zT,zU,zV]; rfl) ?_)))
    simp only [ev,zD,zE,zF,zG]
    refine h_load rfl (fun u m=>((m.b 0 rfl).lies agg_28 cells_28 rfl rfl)) ?_
    simp only [ev,zD,zE,zF,zG,zH,zI,zJ,zK,Nat.zero_add,Nat.reduceAdd,Nat.reduceMul,Int.reduceToNat]
    refine h_nil (t_take (by simp only [zS,zT,zU,zV]; rfl) (h_val (r_indexAddrA Tryz.underlying59 cells_28 rfl rfl (by decide) (by decide) rfl) (h_nil (t_take (by simp only [zS,zT,zU,zV]; rfl) ?_))))
    simp only [ev,zD,zE,zF,zG]
    refine h_load rfl (fun u m=>((m.b 0 rfl).lies agg_28 cells_28 rfl rfl)) ?_
    simp only [ev,zD,zE,zF,zG,zH,zI,zJ,zK,Nat.zero_add,Nat.reduceAdd,Nat.reduceMul,Int.reduceToNat]
    refine h_nil (t_take (by simp only [zS,zT,zU,zV]; rfl) (h_val (r_indexAddrA Tryz.underlying59 cells_28 rfl rfl (by decide) (by decide) rfl) (h_nil (t_take (by simp only [zS,zT,zU,zV]; rfl) ?_))))
    simp only [ev,zD,zE,zF,zG]
    refine h_load rfl (fun u m=>((m.b 0 rfl).lies agg_28 cells_28 rfl rfl)) ?_
    simp only [ev,zD,zE,zF,zG,zH,zI,zJ,zK,Nat.zero_add,Nat.reduceAdd,Nat.reduceMul,Int.reduceToNat]
    refine h_nil ?_
    refine t_three (by simp only [zS,zT,zU,zV]; rfl) (by simp only [zS,zT,zU,zV]; rfl) (by simp only [zS,zT,zU,zV]; rfl) ?_ ?_ ?_
    ·
     refine malloc m zero_28 rfl ?_
     clear m; intro g4 u m
     refine n_nil ?_
     refine ⟨m.sel [false,true,true,true],?_⟩
     simp only [ev,zD,zE,zF,zG]
     refine t_two (by simp only [zS,zT,zU,zV]; rfl) (by simp only [zS,zT,zU,zV]; rfl) ?_ ?_
     ·
      refine malloc m zero_28 rfl ?_
      clear m; intro g5 u m
      refine n_nil ?_
      refine ⟨m.sel [false,false,true,true,true],?_⟩
      refine t_one (by simp only [zS,zT,zU,zV]; rfl) ?_
      simp only [ev,zD,zE,zF,zG]
      refine malloc m zero_28 rfl ?_
      clear m; intro g6 u m
      refine n_nil ?_
      refine ⟨m.sel [false,false,false,true,true,true],?_⟩
      refine t_one (by simp only [zS,zT,zU,zV]; rfl) ?_
      simp only [ev,zD,zE,zF,zG]
      refine mstoreA m 2 rfl rfl rfl cells_28 (leT rfl) rfl ?_
      clear m; intro u m; simp only [over,zH,zI,zJ,zK,zL,zM,zN,zO,zP,zF,zG,Nat.reduceAdd] at m
      refine n_nil ?_
      refine ⟨m.sel [false,false,false,true,true,true],?_⟩
      refine t_one (by simp only [zS,zT,zU,zV]; rfl) (mstoreA m 1 rfl rfl rfl cells_28 (leT rfl) rfl ?_)
      clear m; intro u m; simp only [over,zH,zI,zJ,zK,zL,zM,zN,zO,zP,zF,zG,Nat.reduceAdd] at m
      refine n_nil ?_
      refine ⟨m.sel [false,false,false,true,true,true],?_⟩
      refine t_one (by simp only [zS,zT,zU,zV]; rfl) (mstoreA m 0 rfl rfl rfl cells_28 (leT rfl) rfl ?_)
      clear m; intro u m; simp only [over,zH,zI,zJ,zK,zL,zM,zN,zO,zP,zF,zG,Nat.reduceAdd] at m
      refine n_nil ?_
      refine ⟨m.sel [false,false,false,true,true,true],?_⟩
      refine t_nil ?_
      exact ⟨rfl,g4,g5,g6,rfl,m⟩
     ·
      refine malloc m zero_28 rfl ?_
      clear m; intro g5 u m
      refine n_nil ?_
      refine ⟨m.sel [false,false,true,true,true],?_⟩
      refine t_one (by simp only [zS,zT,zU,zV]; rfl) ?_
      simp only [ev,zD,zE,zF,zG]
      refine malloc m zero_28 rfl ?_
      clear m; intro g6 u m
      refine n_nil ?_
      refine ⟨m.sel [false,false,false,true,true,true],?_⟩
      refine t_one (by simp only [zS,zT,zU,zV]; rfl) ?_
      simp only [ev,zD,zE,zF,zG]
      refine mstoreA m 2 rfl rfl rfl cells_28 (leT rfl) rfl ?_
      clear m; intro u m; simp only [over,zH,zI,zJ,zK,zL,zM,zN,zO,zP,zF,zG,Nat.reduceAdd] at m
      refine n_nil ?_
      refine ⟨m.sel [false,false,false,true,true,true],?_⟩
      refine t_one (by simp only [zS,zT,zU,zV]; rfl) (mstoreA m 0 rfl rfl rfl cells_28 (leT rfl) rfl ?_)
      clear m; intro u m; simp only [over,zH,zI,zJ,zK,zL,zM,zN,zO,zP,zF,zG,Nat.reduceAdd] at m
      refine n_nil ?_
      refine ⟨m.sel [false,false,false,true,true,true],?_⟩
      refine t_one (by simp only [zS,zT,zU,zV]; rfl) (mstoreA m 1 rfl rfl rfl cells_28 (leT rfl) rfl ?_)
      clear m; intro u m; simp only [over,zH,zI,zJ,zK,zL,zM,zN,zO,zP,zF,zG,Nat.reduceAdd] at m
      refine n_nil ?_
      refine ⟨m.sel [false,false,false,true,true,true],?_⟩
      refine t_nil ?_
      exact ⟨rfl,g4,g6,g5,rfl,m.s01⟩
    ·
     refine malloc m zero_28 rfl ?_
     clear m; intro g4 u m
     refine n_nil ?_
     refine ⟨m.sel [false,true,true,true],?_⟩
     simp only [ev,zD,zE,zF,zG]
     refine t_two (by simp only [zS,zT,zU,zV]; rfl) (by simp only [zS,zT,zU,zV]; rfl) ?_ ?_
     ·
      refine malloc m zero_28 rfl ?_
      clear m; intro g5 u m
      refine n_nil ?_
      refine ⟨m.sel [false,false,true,true,true],?_⟩
      refine t_one (by simp only [zS,zT,zU,zV]; rfl) ?_
      simp only [ev,zD,zE,zF,zG]
      refine malloc m zero_28 rfl ?_
      clear m; intro g6 u m
      refine n_nil ?_
      refine ⟨m.sel [false,false,false,true,true,true],?_⟩
      refine t_one (by simp only [zS,zT,zU,zV]; rfl) ?_
      simp only [ev,zD,zE,zF,zG]
      refine mstoreA m 1 rfl rfl rfl cells_28 (leT rfl) rfl ?_
      clear m; intro u m; simp only [over,zH,zI,zJ,zK,zL,zM,zN,zO,zP,zF,zG,Nat.reduceAdd] at m
      refine n_nil ?_
      refine ⟨m.sel [false,false,false,true,true,true],?_⟩
      refine t_one (by simp only [zS,zT,zU,zV]; rfl) (mstoreA m 2 rfl rfl rfl cells_28 (leT rfl) rfl ?_)
      clear m; intro u m; simp only [over,zH,zI,zJ,zK,zL,zM,zN,zO,zP,zF,zG,Nat.reduceAdd] at m
      refine n_nil ?_
      refine ⟨m.sel [false,false,false,true,true,true],?_⟩
      refine t_one (by simp only [zS,zT,zU,zV]; rfl) (mstoreA m 0 rfl rfl rfl cells_28 (leT rfl) rfl ?_)
      clear m; intro u m; simp only [over,zH,zI,zJ,zK,zL,zM,zN,zO,zP,zF,zG,Nat.reduceAdd] at m
      refine n_nil ?_
      refine ⟨m.sel [false,false,false,true,true,true],?_⟩
      refine t_nil ?_
      exact ⟨rfl,g5,g4,g6,rfl,m.s12⟩
     ·
      refine malloc m zero_28 rfl ?_
      clear m; intro g5 u m
      refine n_nil ?_
      refine ⟨m.sel [false,false,true,true,true],?_⟩
      refine t_one (by simp only [zS,zT,zU,zV]; rfl) ?_
      simp only [ev,zD,zE,zF,zG]
      refine malloc m zero_28 rfl ?_
      clear m; intro g6 u m
      refine n_nil ?_
      refine ⟨m.sel [false,false,false,true,true,true],?_⟩
      refine t_one (by simp only [zS,zT,zU,zV]; rfl) ?_
      simp only [ev,zD,zE,zF,zG]
      refine mstoreA m 0 rfl rfl rfl cells_28 (leT rfl) rfl ?_
      clear m; intro u m; simp only [over,zH,zI,zJ,zK,zL,zM,zN,zO,zP,zF,zG,Nat.reduceAdd] at m
      refine n_nil ?_
      refine ⟨m.sel [false,false,false,true,true,true],?_⟩
      refine t_one (by simp only [zS,zT,zU,zV]; rfl) (mstoreA m 2 rfl rfl rfl cells_28 (leT rfl) rfl ?_)
      clear m; intro u m; simp only [over,zH,zI,zJ,zK,zL,zM,zN,zO,zP,zF,zG,Nat.reduceAdd] at m
      refine n_nil ?_
      refine ⟨m.sel [false,false,false,true,true,true],?_⟩
      refine t_one (by simp only [zS,zT,zU,zV]; rfl) (mstoreA m 1 rfl rfl rfl cells_28 (leT rfl) rfl ?_)
      clear m; intro u m; simp only [over,zH,zI,zJ,zK,zL,zM,zN,zO,zP,zF,zG,Nat.reduceAdd] at m
      refine n_nil ?_
      refine ⟨m.sel [false,false,false,true,true,true],?_⟩
      refine t_nil ?_
      exact ⟨rfl,g6,g4,g5,rfl,m.s01.s12⟩
    ·
     refine malloc m zero_28 rfl ?_
     clear m; intro g4 u m
     refine n_nil ?_
     refine ⟨m.sel [false,true,true,true],?_⟩
     simp only [ev,zD,zE,zF,zG]
     refine t_two (by simp only [zS,zT,zU,zV]; rfl) (by simp only [zS,zT,zU,zV]; rfl) ?_ ?_
     ·
      refine malloc m zero_28 rfl ?_
      clear m; intro g5 u m
      refine n_nil ?_
      refine ⟨m.sel [false,false,true,true,true],?_⟩
      refine t_one (by simp only [zS,zT,zU,zV]; rfl) ?_
      simp only [ev,zD,zE,zF,zG]
      refine malloc m zero_28 rfl ?_
      clear m; intro g6 u m
      refine n_nil ?_
      refine ⟨m.sel [false,false,false,true,true,true],?_⟩
      refine t_one (by simp only [zS,zT,zU,zV]; rfl) ?_
      simp only [ev,zD,zE,zF,zG]
      refine mstoreA m 1 rfl rfl rfl cells_28 (leT rfl) rfl ?_
      clear m; intro u m; simp only [over,zH,zI,zJ,zK,zL,zM,zN,zO,zP,zF,zG,Nat.reduceAdd] at m
      refine n_nil ?_
      refine ⟨m.sel [false,false,false,true,true,true],?_⟩
      refine t_one (by simp only [zS,zT,zU,zV]; rfl) (mstoreA m 0 rfl rfl rfl cells_28 (leT rfl) rfl ?_)
      clear m; intro u m; simp only [over,zH,zI,zJ,zK,zL,zM,zN,zO,zP,zF,zG,Nat.reduceAdd] at m
      refine n_nil ?_
      refine ⟨m.sel [false,false,false,true,true,true],?_⟩
      refine t_one (by simp only [zS,zT,zU,zV]; rfl) (mstoreA m 2 rfl rfl rfl cells_28 (leT rfl) rfl ?_)
      clear m; intro u m; simp only [over,zH,zI,zJ,zK,zL,zM,zN,zO,zP,zF,zG,Nat.reduceAdd] at m
      refine n_nil ?_
      refine ⟨m.sel [false,false,false,true,true,true],?_⟩
      refine t_nil ?_
      exact ⟨rfl,g5,g6,g4,rfl,m.s12.s01⟩
     ·
      refine malloc m zero_28 rfl ?_
      clear m; intro g5 u m
      refine n_nil ?_
      refine ⟨m.sel [false,false,true,true,true],?_⟩
      refine t_one (by simp only [zS,zT,zU,zV]; rfl) ?_
      simp only [ev,zD,zE,zF,zG]
      refine malloc m zero_28 rfl ?_
      clear m; intro g6 u m
      refine n_nil ?_
      refine ⟨m.sel [false,false,false,true,true,true],?_⟩
      refine t_one (by simp only [zS,zT,zU,zV]; rfl) ?_
      simp only [ev,zD,zE,zF,zG]
      refine mstoreA m 0 rfl rfl rfl cells_28 (leT rfl) rfl ?_
      clear m; intro u m; simp only [over,zH,zI,zJ,zK,zL,zM,zN,zO,zP,zF,zG,Nat.reduceAdd] at m
      refine n_nil ?_
      refine ⟨m.sel [false,false,false,true,true,true],?_⟩
      refine t_one (by simp only [zS,zT,zU,zV]; rfl) (mstoreA m 1 rfl rfl rfl cells_28 (leT rfl) rfl ?_)
      clear m; intro u m; simp only [over,zH,zI,zJ,zK,zL,zM,zN,zO,zP,zF,zG,Nat.reduceAdd] at m
      refine n_nil ?_
      refine ⟨m.sel [false,false,false,true,true,true],?_⟩
      refine t_one (by simp only [zS,zT,zU,zV]; rfl) (mstoreA m 2 rfl rfl rfl cells_28 (leT rfl) rfl ?_)
      clear m; intro u m; simp only [over,zH,zI,zJ,zK,zL,zM,zN,zO,zP,zF,zG,Nat.reduceAdd] at m
      refine n_nil ?_
      refine ⟨m.sel [false,false,false,true,true,true],?_⟩
      refine t_nil ?_
      exact ⟨rfl,g6,g5,g4,rfl,m.s01.s12.s01⟩
   intro g4 g5 g6 u m
   try dsimp only
   refine k10 _ _ ?_
   refine c_seq fun K11 k11=>c_seq fun K12 k12=>?_
   refine mh m [true,true,true,true,true,true] [(0,true),(1,true),(3,true),(5,true),(8,true),(9,true),(11,true),(13,true),(16,true),(17,true),(19,true),(21,true),(26,true),(2,true),(4,true),(6,true),(10,true),(12,true),(14,true),(18,true),(20,true),(22,true),(7,false),(15,false),(23,false),(24,false),(25,true)] follows_mixed (by kernel_rfl) (panic_put (fun _ _ _ _ _ h=>h)) (ol:=?_) ?hol ?_
   case hol=>simp only [zQ,zR,zS,zT,zU,zV]; try rfl
   clear m; intro u m
   refine h_val (r_move) (h_val (r_fieldAddr (c:=0) Tryz.underlying28 rfl cells_3 rfl rfl) (h_val (r_fieldAddr (c:=0) Tryz.underlying28 rfl cells_3 rfl rfl) (h_val (r_fieldAddr (c:=0) Tryz.underlying28 rfl cells_3 rfl rfl) ?_)))
   simp only [ev,zD,zE,zF,zG]
   refine h_val (r_move) (h_val (r_fieldAddr (c:=0) Tryz.underlying28 rfl cells_3 rfl rfl) (h_val (r_fieldAddr (c:=0) Tryz.underlying28 rfl cells_3 rfl rfl) (h_val (r_fieldAddr (c:=0) Tryz.underlying28 rfl cells_3 rfl rfl) ?_)))
   simp only [ev,zD,zE,zF,zG]
   refine h_val (r_move) (h_val (r_fieldAddr (c:=0) Tryz.underlying28 rfl cells_3 rfl rfl) (h_val (r_fieldAddr (c:=0) Tryz.underlying28 rfl cells_3 rfl rfl) (h_val (r_fieldAddr (c:=0) Tryz.underlying28 rfl cells_3 rfl rfl) ?_)))
   simp only [ev,zD,zE,zF,zG]
   refine h_val (r_move) ?_
   simp only [ev,zD,zE,zF,zG]
   refine h_load rfl (fun u m=>((m.b 2 rfl).lies1 agg_3 rfl)) ?_
   simp only [ev,zD,zE,zF,zG]
   refine h_load rfl (fun u m=>((m.b 1 rfl).lies1 agg_3 rfl)) ?_
   simp only [ev,zD,zE,zF,zG]
   refine h_load rfl (fun u m=>((m.b 0 rfl).lies1 agg_3 rfl)) ?_
   simp only [ev,zD,zE,zF,zG]
   refine h_load rfl (fun u m=>((m.b 2 rfl).lies1 agg_3 rfl)) ?_
   simp only [ev,zD,zE,zF,zG]
   refine h_load rfl (fun u m=>((m.b 1 rfl).lies1 agg_3 rfl)) ?_
   simp only [ev,zD,zE,zF,zG]
   refine h_load rfl (fun u m=>((m.b 0 rfl).lies1 agg_3 rfl)) ?_
   simp only [ev,zD,zE,zF,zG]
   refine h_load rfl (fun u m=>((m.b 2 rfl).lies1 agg_3 rfl)) ?_
   simp only [ev,zD,zE,zF,zG]
   refine h_load rfl (fun u m=>((m.b 1 rfl).lies1 agg_3 rfl)) ?_
   simp only [ev,zD,zE,zF,zG]
   refine h_load rfl (fun u m=>((m.b 0 rfl).lies1 agg_3 rfl)) ?_
   simp only [ev,zD,zE,zF,zG]
   refine h_step (mcallP m rfl rfl (prod3_c) ?_)
   clear m; intro u m
   refine n_nil ?_
   refine ⟨m,?_⟩
   refine h_step ?_
   simp only [ev,zD,zE,zF,zG]
   refine mcallP m rfl rfl (prod3_c) ?_
   clear m; intro u m
   refine n_nil ?_
   refine ⟨m,?_⟩
   refine h_step ?_
   simp only [ev,zD,zE,zF,zG]
   refine mcallP m rfl rfl (prod3_c) ?_
   clear m; intro u m
   refine n_nil ?_
   refine ⟨m,?_⟩
   refine h_step ?_
   simp only [ev,zD,zE,zF,zG]
   refine n_bs_156_3 rfl rfl rfl ?_
   intro u g7 e hg hB; replace m:=m.newB e hg hB; clear e hg hB
   refine n_nil ?_
   refine ⟨m.sel [false,true,true,true,true,true,true],?_⟩
   refine h_val (r_lenS rfl Tryz.underlying156 rfl) (h_nil (k12 _ _ ?_))
   refine wp_block (wp_loop_rounds 4 (rounds_step (c_seq fun K13 k13=>wp_region_lit (n_val (r_lssT (m:=0) (n:=3) rfl rfl (by decide)) (n_nil (k13 _ _ ?_))))))
   refine c_seq fun K14 k14=>c_yes rfl (wp_skip (k14 _ _ ?_))
   refine c_seq fun K15 k15=>wp_block (c_seq fun K16 k16=>wp_region_lit ?_)
   simp only [ev,zD,zE,zF,zG]
   refine n_val (r_indexAddrS Tryz.underlying156 cells_32 rfl rfl (by decide) (by omega) rfl) ?_
   simp only [ev,zD,zE,zF,zG]
   refine n_load rfl ((m.b 0 rfl).lies agg_32 cells_32 rfl rfl) ?_
   simp only [ev,zD,zE,zF,zG,zH,zI,zJ,zK,Nat.zero_add,Nat.reduceAdd,Nat.reduceMul,Int.reduceToNat]
   refine malloc m zero_32 rfl ?_
   clear m; intro g8 u m
   simp only [ev,zD,zE,zF,zG]
   refine mstoreA m 0 rfl rfl rfl cells_32 (leT rfl) rfl ?_
   clear m; intro u m; simp only [over,zH,zI,zJ,zK,zL,zM,zN,zO,zP,zF,zG,Nat.reduceAdd] at m
   refine n_nil (k16 _ _ ?_)
   refine wp_region_lit (n_load rfl ((m.b 6 rfl).full agg_32 cells_32) ?_)
   simp only [ev,zD,zE,zF,zG]
   refine n_load rfl ((m.b 0 rfl).full agg_32 cells_32) ?_
   simp only [ev,zD,zE,zF,zG]
   refine mcallP m rfl rfl (Add_c Bw.up Bw.up) ?_
   clear m; intro u m
   simp only [ev,zD,zE,zF,zG]
   refine mstoreA m 6 rfl rfl rfl cells_32 (leT rfl) rfl ?_
   clear m; intro u m; simp only [over,zH,zI,zJ,zK,zL,zM,zN,zO,zP,zF,zG,Nat.reduceAdd] at m
   refine n_nil (k15 _ _ ?_)
   refine wp_region_lit (n_val (r_add (m:=0) (n:=1) (r:=1) rfl rfl (by decide)) (n_val (r_move) (n_nil (then_rounds (c_seq fun K17 k17=>wp_region_lit (n_val (r_lssT (m:=1) (n:=3) rfl rfl (by decide)) (n_nil (k17 _ _ ?_))))))))
   refine c_seq fun K18 k18=>c_yes rfl (wp_skip (k18 _ _ ?_))
   refine c_seq fun K19 k19=>wp_block (c_seq fun K20 k20=>wp_region_lit ?_)
   simp only [ev,zD,zE,zF,zG]
   refine n_val (r_indexAddrS Tryz.underlying156 cells_32 rfl rfl (by decide) (by omega) rfl) ?_
   simp only [ev,zD,zE,zF,zG]
   refine n_load rfl ((m.b 1 rfl).lies agg_32 cells_32 rfl rfl) ?_
   simp only [ev,zD,zE,zF,zG,zH,zI,zJ,zK,Nat.zero_add,Nat.reduceAdd,Nat.reduceMul,Int.reduceToNat]
   refine malloc m zero_32 rfl ?_
   clear m; intro g9 u m
   simp only [ev,zD,zE,zF,zG]
   refine mstoreA m 0 rfl rfl rfl cells_32 (leT rfl) rfl ?_
   clear m; intro u m; simp only [over,zH,zI,zJ,zK,zL,zM,zN,zO,zP,zF,zG,Nat.reduceAdd] at m
   refine n_nil (k20 _ _ ?_)
   refine wp_region_lit (n_load rfl ((m.b 7 rfl).full agg_32 cells_32) ?_)
   simp only [ev,zD,zE,zF,zG]
   refine n_load rfl ((m.b 0 rfl).full agg_32 cells_32) ?_
   simp only [ev,zD,zE,zF,zG]
   refine mcallP m rfl rfl (Add_c Bw.up Bw.up) ?_
   clear m; intro u m
   simp only [ev,zD,zE,zF,zG]
   refine mstoreA m 7 rfl rfl rfl cells_32 (leT rfl) rfl ?_
   clear m; intro u m; simp only [over,zH,zI,zJ,zK,zL,zM,zN,zO,zP,zF,zG,Nat.reduceAdd] at m
   refine n_nil (k19 _ _ ?_)
   refine wp_region_lit (n_val (r_add (m:=1) (n:=1) (r:=2) rfl rfl (by decide)) (n_val (r_move) (n_nil (then_rounds (c_seq fun K21 k21=>wp_region_lit (n_val (r_lssT (m:=2) (n:=3) rfl rfl (by decide)) (n_nil (k21 _ _ ?_))))))))
   refine c_seq fun K22 k22=>c_yes rfl (wp_skip (k22 _ _ ?_))
   refine c_seq fun K23 k23=>wp_block (c_seq fun K24 k24=>wp_region_lit ?_)
   simp only [ev,zD,zE,zF,zG]
   refine n_val (r_indexAddrS Tryz.underlying156 cells_32 rfl rfl (by decide) (by omega) rfl) ?_
   simp only [ev,zD,zE,zF,zG]
   refine n_load rfl ((m.b 2 rfl).lies agg_32 cells_32 rfl rfl) ?_
   simp only [ev,zD,zE,zF,zG,zH,zI,zJ,zK,Nat.zero_add,Nat.reduceAdd,Nat.reduceMul,Int.reduceToNat]
   refine malloc m zero_32 rfl ?_
   clear m; intro g10 u m
   simp only [ev,zD,zE,zF,zG]
   refine mstoreA m 0 rfl rfl rfl cells_32 (leT rfl) rfl ?_
   clear m; intro u m; simp only [over,zH,zI,zJ,zK,zL,zM,zN,zO,zP,zF,zG,Nat.reduceAdd] at m
   refine n_nil (k24 _ _ ?_)
   refine wp_region_lit (n_load rfl ((m.b 8 rfl).full agg_32 cells_32) ?_)
   simp only [ev,zD,zE,zF,zG]
   refine n_load rfl ((m.b 0 rfl).full agg_32 cells_32) ?_
   simp only [ev,zD,zE,zF,zG]
   refine mcallP m rfl rfl (Add_c Bw.up Bw.up) ?_
   clear m; intro u m
   simp only [ev,zD,zE,zF,zG]
   refine mstoreA m 8 rfl rfl rfl cells_32 (leT rfl) rfl ?_
   clear m; intro u m; simp only [over,zH,zI,zJ,zK,zL,zM,zN,zO,zP,zF,zG,Nat.reduceAdd] at m
   refine n_nil (k23 _ _ ?_)
   refine wp_region_lit (n_val (r_add (m:=2) (n:=1) (r:=3) rfl rfl (by decide)) (n_val (r_move) (n_nil (then_rounds (c_seq fun K25 k25=>wp_region_lit (n_val (r_lssF (m:=3) (n:=3) rfl rfl (by decide)) (n_nil (k25 _ _ ?_))))))))
   refine c_seq fun K26 k26=>c_no rfl (wp_exit (k11 _ _ ?_))
   refine c_seq fun K27 k27=>?_
   simp only [ev,zD,zE,zF,zG]
   refine mh m [true,true,true,true,true,true,true,true,true,true] [(0,true),(1,true),(3,true),(5,true),(8,true),(9,true),(11,true),(13,true),(16,true),(17,true),(19,true),(21,true),(26,true),(2,true),(4,true),(6,true),(10,true),(12,true),(14,true),(18,true),(20,true),(22,true),(7,false),(15,false),(23,false),(24,false),(25,true)] follows_mixed (by kernel_rfl) (panic_put (fun _ _ _ _ _ h=>h)) (ol:=?_) ?hol ?_
   case hol=>simp only [zQ,zR,zS,zT,zU,zV]; try rfl
   clear m; intro u m
   refine h_val (r_move) (h_val (r_fieldAddr (c:=0) Tryz.underlying28 rfl cells_3 rfl rfl) (h_val (r_fieldAddr (c:=0) Tryz.underlying28 rfl cells_3 rfl rfl) (h_val (r_fieldAddr (c:=0) Tryz.underlying28 rfl cells_3 rfl rfl) ?_)))
   simp only [ev,zD,zE,zF,zG]
   refine h_val (r_move) (h_val (r_fieldAddr (c:=0) Tryz.underlying28 rfl cells_3 rfl rfl) (h_val (r_fieldAddr (c:=0) Tryz.underlying28 rfl cells_3 rfl rfl) (h_val (r_fieldAddr (c:=0) Tryz.underlying28 rfl cells_3 rfl rfl) ?_)))
   simp only [ev,zD,zE,zF,zG]
   refine h_val (r_move) (h_val (r_fieldAddr (c:=0) Tryz.underlying28 rfl cells_3 rfl rfl) (h_val (r_fieldAddr (c:=0) Tryz.underlying28 rfl cells_3 rfl rfl) (h_val (r_fieldAddr (c:=0) Tryz.underlying28 rfl cells_3 rfl rfl) ?_)))
   simp only [ev,zD,zE,zF,zG]
   refine h_val (r_move) ?_
   simp only [ev,zD,zE,zF,zG]
   refine h_load rfl (fun u m=>((m.b 6 rfl).lies1 agg_3 rfl)) ?_
   simp only [ev,zD,zE,zF,zG]
   refine h_load rfl (fun u m=>((m.b 5 rfl).lies1 agg_3 rfl)) ?_
   simp only [ev,zD,zE,zF,zG]
   refine h_load rfl (fun u m=>((m.b 4 rfl).lies1 agg_3 rfl)) ?_
   simp only [ev,zD,zE,zF,zG]
   refine h_load rfl (fun u m=>((m.b 6 rfl).lies1 agg_3 rfl)) ?_
   simp only [ev,zD,zE,zF,zG]
   refine h_load rfl (fun u m=>((m.b 5 rfl).lies1 agg_3 rfl)) ?_
   simp only [ev,zD,zE,zF,zG]
   refine h_load rfl (fun u m=>((m.b 4 rfl).lies1 agg_3 rfl)) ?_
   simp only [ev,zD,zE,zF,zG]
   refine h_load rfl (fun u m=>((m.b 6 rfl).lies1 agg_3 rfl)) ?_
   simp only [ev,zD,zE,zF,zG]
   refine h_load rfl (fun u m=>((m.b 5 rfl).lies1 agg_3 rfl)) ?_
   simp only [ev,zD,zE,zF,zG]
   refine h_load rfl (fun u m=>((m.b 4 rfl).lies1 agg_3 rfl)) ?_
   simp only [ev,zD,zE,zF,zG]
   refine h_step (mcallP m rfl rfl (prod3_c) ?_)
   clear m; intro u m
   refine n_nil ?_
   refine ⟨m,?_⟩
   refine h_step ?_
   simp only [ev,zD,zE,zF,zG]
   refine mcallP m rfl rfl (prod3_c) ?_
   clear m; intro u m
   refine n_nil ?_
   refine ⟨m,?_⟩
   refine h_step ?_
   simp only [ev,zD,zE,zF,zG]
   refine mcallP m rfl rfl (prod3_c) ?_
   clear m; intro u m
   refine n_nil ?_
   refine ⟨m,?_⟩
   refine h_step ?_
   simp only [ev,zD,zE,zF,zG]
   refine n_bs_156_3 rfl rfl rfl ?_
   intro u g11 e hg hB; replace m:=m.newB e hg hB; clear e hg hB
   refine n_nil ?_
   refine ⟨m.sel [false,true,true,true,true,true,true,true,true,true,true],?_⟩
   refine h_val (r_lenS rfl Tryz.underlying156 rfl) (h_nil (k27 _ _ ?_))
   refine wp_block (wp_loop_rounds 4 (rounds_step (c_seq fun K28 k28=>wp_region_lit (n_val (r_lssT (m:=0) (n:=3) rfl rfl (by decide)) (n_nil (k28 _ _ ?_))))))
   refine c_seq fun K29 k29=>c_yes rfl (wp_skip (k29 _ _ ?_))
   refine c_seq fun K30 k30=>wp_block (c_seq fun K31 k31=>wp_region_lit ?_)
   simp only [ev,zD,zE,zF,zG]
   refine n_val (r_indexAddrS Tryz.underlying156 cells_32 rfl rfl (by decide) (by omega) rfl) ?_
   simp only [ev,zD,zE,zF,zG]
   refine n_load rfl ((m.b 0 rfl).lies agg_32 cells_32 rfl rfl) ?_
   simp only [ev,zD,zE,zF,zG,zH,zI,zJ,zK,Nat.zero_add,Nat.reduceAdd,Nat.reduceMul,Int.reduceToNat]
   refine malloc m zero_32 rfl ?_
   clear m; intro g12 u m
   simp only [ev,zD,zE,zF,zG]
   refine mstoreA m 0 rfl rfl rfl cells_32 (leT rfl) rfl ?_
   clear m; intro u m; simp only [over,zH,zI,zJ,zK,zL,zM,zN,zO,zP,zF,zG,Nat.reduceAdd] at m
   refine n_nil (k31 _ _ ?_)
   refine wp_region_lit (n_load rfl ((m.b 10 rfl).full agg_32 cells_32) ?_)
   simp only [ev,zD,zE,zF,zG]
   refine n_load rfl ((m.b 0 rfl).full agg_32 cells_32) ?_
   simp only [ev,zD,zE,zF,zG]
   refine mcallP m rfl rfl (Sub_c Bw.up Bw.up) ?_
   clear m; intro u m
   simp only [ev,zD,zE,zF,zG]
   refine mstoreA m 10 rfl rfl rfl cells_32 (leT rfl) rfl ?_
   clear m; intro u m; simp only [over,zH,zI,zJ,zK,zL,zM,zN,zO,zP,zF,zG,Nat.reduceAdd] at m
   refine n_nil (k30 _ _ ?_)
   refine wp_region_lit (n_val (r_add (m:=0) (n:=1) (r:=1) rfl rfl (by decide)) (n_val (r_move) (n_nil (then_rounds (c_seq fun K32 k32=>wp_region_lit (n_val (r_lssT (m:=1) (n:=3) rfl rfl (by decide)) (n_nil (k32 _ _ ?_))))))))
   refine c_seq fun K33 k33=>c_yes rfl (wp_skip (k33 _ _ ?_))
   refine c_seq fun K34 k34=>wp_block (c_seq fun K35 k35=>wp_region_lit ?_)
   simp only [ev,zD,zE,zF,zG]
   refine n_val (r_indexAddrS Tryz.underlying156 cells_32 rfl rfl (by decide) (by omega) rfl) ?_
   simp only [ev,zD,zE,zF,zG]
   refine n_load rfl ((m.b 1 rfl).lies agg_32 cells_32 rfl rfl) ?_
   simp only [ev,zD,zE,zF,zG,zH,zI,zJ,zK,Nat.zero_add,Nat.reduceAdd,Nat.reduceMul,Int.reduceToNat]
   refine malloc m zero_32 rfl ?_
   clear m; intro g13 u m
   simp only [ev,zD,zE,zF,zG]
   refine mstoreA m 0 rfl rfl rfl cells_32 (leT rfl) rfl ?_
   clear m; intro u m; simp only [over,zH,zI,zJ,zK,zL,zM,zN,zO,zP,zF,zG,Nat.reduceAdd] at m
   refine n_nil (k35 _ _ ?_)
   refine wp_region_lit (n_load rfl ((m.b 11 rfl).full agg_32 cells_32) ?_)
   simp only [ev,zD,zE,zF,zG]
   refine n_load rfl ((m.b 0 rfl).full agg_32 cells_32) ?_
   simp only [ev,zD,zE,zF,zG]
   refine mcallP m rfl rfl (Sub_c Bw.up Bw.up) ?_
   clear m; intro u m
   simp only [ev,zD,zE,zF,zG]
   refine mstoreA m 11 rfl rfl rfl cells_32 (leT rfl) rfl ?_
   clear m; intro u m; simp only [over,zH,zI,zJ,zK,zL,zM,zN,zO,zP,zF,zG,Nat.reduceAdd] at m
   refine n_nil (k34 _ _ ?_)
   refine wp_region_lit (n_val (r_add (m:=1) (n:=1) (r:=2) rfl rfl (by decide)) (n_val (r_move) (n_nil (then_rounds (c_seq fun K36 k36=>wp_region_lit (n_val (r_lssT (m:=2) (n:=3) rfl rfl (by decide)) (n_nil (k36 _ _ ?_))))))))
   refine c_seq fun K37 k37=>c_yes rfl (wp_skip (k37 _ _ ?_))
   refine c_seq fun K38 k38=>wp_block (c_seq fun K39 k39=>wp_region_lit ?_)
   simp only [ev,zD,zE,zF,zG]
   refine n_val (r_indexAddrS Tryz.underlying156 cells_32 rfl rfl (by decide) (by omega) rfl) ?_
   simp only [ev,zD,zE,zF,zG]
   refine n_load rfl ((m.b 2 rfl).lies agg_32 cells_32 rfl rfl) ?_
   simp only [ev,zD,zE,zF,zG,zH,zI,zJ,zK,Nat.zero_add,Nat.reduceAdd,Nat.reduceMul,Int.reduceToNat]
   refine malloc m zero_32 rfl ?_
   clear m; intro g14 u m
   simp only [ev,zD,zE,zF,zG]
   refine mstoreA m 0 rfl rfl rfl cells_32 (leT rfl) rfl ?_
   clear m; intro u m; simp only [over,zH,zI,zJ,zK,zL,zM,zN,zO,zP,zF,zG,Nat.reduceAdd] at m
   refine n_nil (k39 _ _ ?_)
   refine wp_region_lit (n_load rfl ((m.b 12 rfl).full agg_32 cells_32) ?_)
   simp only [ev,zD,zE,zF,zG]
   refine n_load rfl ((m.b 0 rfl).full agg_32 cells_32) ?_
   simp only [ev,zD,zE,zF,zG]
   refine mcallP m rfl rfl (Sub_c Bw.up Bw.up) ?_
   clear m; intro u m
   simp only [ev,zD,zE,zF,zG]
   refine mstoreA m 12 rfl rfl rfl cells_32 (leT rfl) rfl ?_
   clear m; intro u m; simp only [over,zH,zI,zJ,zK,zL,zM,zN,zO,zP,zF,zG,Nat.reduceAdd] at m
   refine n_nil (k38 _ _ ?_)
   refine wp_region_lit (n_val (r_add (m:=2) (n:=1) (r:=3) rfl rfl (by decide)) (n_val (r_move) (n_nil (then_rounds (c_seq fun K40 k40=>wp_region_lit (n_val (r_lssF (m:=3) (n:=3) rfl rfl (by decide)) (n_nil (k40 _ _ ?_))))))))
   refine c_seq fun K41 k41=>c_no rfl (wp_exit (k8 _ _ ?_))
   refine wp_region_lit ?_
   simp only [ev,zD,zE,zF,zG]
   refine n_val (r_add rfl rfl (wrap_i64 (by omega) (by omega))) (n_val (r_move) (n_nil ?_))
   simp only [ev,zD,zE,zF,zG]
   simp only [Exit.inBlock,Exit.then]
   refine ⟨N - (k + 1),_,?_,rfl,?_,?_⟩
   · omega
   · simp only [zQ,zR,zD,zE,setG_cons,setG_nil,setMany_cons,setMany_nil,zF,zG]
   ·
    simp only [zQ,zR,zD,zE]
    exact ⟨k + 1,rfl,((m.re 12 rfl (by rw [sumT_step ht,← det_step]; exact (m.b 12 rfl))).sel [false,false,false,false,false,false,false,false,false,false,false,false,true,true]),by omega,rfl⟩
  ·
   have hkN : k = N:=by omega
   rw [hkN,show ts.take N = ts from List.take_of_length_le (by rw [hT.len]; exact Nat.le_refl _)] at m
   refine wp_exit (k4 _ _ ?_)
   refine c_seq fun K42 k42=>wp_region_lit (n_load rfl ((m.b 0 rfl).full agg_32 cells_32) ?_)
   simp only [ev,zD,zE,zF,zG]
   refine mstoreA m 1 rfl rfl rfl cells_32 (leT rfl) rfl ?_
   clear m; intro u m; simp only [over,zH,zI,zJ,zK,zL,zM,zN,zO,zP,zF,zG,Nat.reduceAdd] at m
   refine n_nil (k42 _ _ ?_)
   refine wp_ret ?_
   try simp only [Exit.inBlock,Exit.then,if_true]
   refine fin1 rfl ⟨_,rfl,((m.b 1 rfl).full agg_32 cells_32)⟩ ?_
   try simp only [zD,zE]
   exact ⟨_,rfl,m.ext,rfl⟩
end Go.Proofs.YtmcgcnpgkkfkoaaGreatDoor
namespace Go.Proofs.YtmcgcnpgkkfkoaaGreatDoor
open Go.RowKit Go.Lith
set_option maxRecDepth 100000
attribute [local irreducible] wpList wpQuiet wpMix wpMixH wpTree Code.wp
theorem Volume_c {ts : List T3} {N cap : Nat} {A : Option Addr} (w : World) (hT : TrisAt w A N ts) (hN : N < 4611686018427387904) : Does Tryz.prog 25 [.slice A N cap] w (fun v _=>v = Q (Rat.divInt (sumT det ts) 6)):=by
 refine ⟨en_25,?_⟩
 have m:=Mem.refl w
 haveI : Bw 264 (sumT det ts):=⟨sumT_bd (m:=200) (fun u hu=>by haveI:=hT.it u hu; exact det_bd) (by rw [hT.len]; omega)⟩
 go_enter Tryz.func25,Tryz.ntmps25
 refine c_seq fun K1 k1=>wp_region_lit (malloc m zero_34 rfl ?_)
 clear m; intro g1 u m
 refine n_nil (k1 _ _ ?_)
 refine c_seq fun K2 k2=>wp_region_lit (n_val (r_move) ?_)
 simp only [ev,zD,zE,zF,zG]
 refine mcall m rfl rfl (Volume6_c _ (hT.ext m.ext) hN) ?_
 clear m; rintro v u m rfl
 simp only [ev,zD,zE,zF,zG]
 refine mcallP m rfl rfl (From_c Iw.h) ?_
 clear m; intro u m
 simp only [ev,zD,zE,zF,zG]
 refine mcallP m rfl rfl (mFrac_c (n:=sumT det ts) (d:=6) Bw.up Bw.up (by decide)) ?_
 clear m; intro u m
 simp only [ev,zD,zE,zF,zG]
 refine mstoreA m 0 rfl rfl rfl cells_34 (leT rfl) rfl ?_
 clear m; intro u m; simp only [over,zH,zI,zJ,zK,zL,zM,zN,zO,zP,zF,zG,Nat.reduceAdd] at m
 refine n_nil (k2 _ _ ?_)
 refine wp_ret ?_
 try simp only [Exit.inBlock,Exit.then,if_true]
 refine fin1 rfl ⟨_,rfl,((m.b 0 rfl).full agg_34 cells_34)⟩ ?_
 try simp only [zD,zE]
 exact ⟨_,rfl,m.ext,rfl⟩
theorem Centre_c {ts : List T3} {N cap : Nat} {A : Option Addr} (w : World) (hT : TrisAt w A N ts) (hN : N < 4611686018427387904) : Does Tryz.prog 22 [.slice A N cap] w (fun v _=>v = .tuple #[fv (cq (sumT (mom P3.x) ts) (sumT det ts)) (cq (sumT (mom P3.y) ts) (sumT det ts)) (cq (sumT (mom P3.z) ts) (sumT det ts)),.bool (decide (sumT det ts ≠ 0))]):=by
 refine ⟨en_22,?_⟩
 have m:=Mem.refl w
 go_enter Tryz.func22,Tryz.ntmps22
 refine c_seq fun K1 k1=>wp_region_lit (malloc m zero_49 rfl ?_)
 clear m; intro g1 u m
 refine n_val (r_assign) (n_nil (k1 _ _ ?_))
 refine c_seq fun K2 k2=>wp_region_lit ?_
 simp only [ev,zD,zE,zF,zG]
 refine malloc m zero_32 rfl ?_
 clear m; intro g2 u m
 refine n_nil (k2 _ _ ?_)
 refine c_seq fun K3 k3=>wp_region_lit ?_
 simp only [ev,zD,zE,zF,zG]
 refine malloc m zero_76 rfl ?_
 clear m; intro g3 u m
 refine n_nil (k3 _ _ ?_)
 refine c_seq fun K4 k4=>c_seq fun K5 k5=>wp_region_lit (n_val (r_move) (n_val (r_lenS rfl Tryz.underlying24 rfl) (n_val (r_move) ?_)))
 simp only [ev,zD,zE,zF,zG]
 refine n_nil (k5 _ _ ?_)
 refine wp_block ?_
 try simp only [Nat.zero_add,Nat.reduceAdd,Nat.reduceMul,Int.reduceToNat]
 refine c_loopg [18] [7,8,9,10,12,19,20,21,22,23,24,25,26,27,28,29,30,31,32,33,34,35,36,37,38,39,40,41,42,43,44,45,46,47,48,49,50,51] (fun n vs wl=>∃ (k : Nat),vs = [.int .i64 (k:Int)] ∧ Mem w wl [bI g3 [.bool (wneg (sumT (mom P3.x) (ts.take k))),.string (wmag (sumT (mom P3.x) (ts.take k))),.bool (wneg (sumT (mom P3.y) (ts.take k))),.string (wmag (sumT (mom P3.y) (ts.take k))),.bool (wneg (sumT (mom P3.z) (ts.take k))),.string (wmag (sumT (mom P3.z) (ts.take k)))] 76,bI g2 [.bool (wneg (sumT det (ts.take k))),.string (wmag (sumT det (ts.take k)))] 32,bI g1 [.bool false,.string ⟨#[]⟩,.bool false,.string ⟨#[]⟩,.bool false,.string ⟨#[]⟩,.bool false,.string ⟨#[]⟩,.bool false,.string ⟨#[]⟩,.bool false,.string ⟨#[]⟩] 49] ∧ (k ≤ N) ∧ (n = N - k)) ?_ ?_
 ·
  apply Exists.intro
  simp only [zQ,zR,zD,zE]
  exact ⟨0,rfl,m,Nat.zero_le _,rfl⟩
 ·
  intro n vs wr hI u
  clear m
  obtain ⟨k,rfl,m,hk,hn⟩:=hI
  simp only [setG_cons,setG_nil,setMany_cons,setMany_nil,zF,zG]
  refine c_seq fun K6 k6=>wp_region_lit (n_val (r_lss rfl rfl) (n_nil (k6 _ _ ?_)))
  refine c_seq fun K7 k7=>?_
  simp only [ev,zD,zE,zF,zG]
  refine c_if rfl (fun hc1=>?_) (fun hc1=>?_)
  ·
   obtain ⟨t,ht,_,a,rfl,hrow⟩:=hT.get (i:=k) (by omega)
   haveI : Bw 264 (sumT det (ts.take k)):=⟨sumT_bdt (m:=200) (fun u hu=>by haveI:=hT.it u hu; exact det_bd) (by rw [hT.len]; omega)⟩
   haveI : Bw 364 (sumT (mom P3.x) (ts.take k)):=⟨sumT_bdt (m:=300) (fun u hu=>by haveI:=hT.it u hu; exact mom_bd Iw.h.bd Iw.h.bd Iw.h.bd) (by rw [hT.len]; omega)⟩
   haveI : Bw 364 (sumT (mom P3.y) (ts.take k)):=⟨sumT_bdt (m:=300) (fun u hu=>by haveI:=hT.it u hu; exact mom_bd Iw.h.bd Iw.h.bd Iw.h.bd) (by rw [hT.len]; omega)⟩
   haveI : Bw 364 (sumT (mom P3.z) (ts.take k)):=⟨sumT_bdt (m:=300) (fun u hu=>by haveI:=hT.it u hu; exact mom_bd Iw.h.bd Iw.h.bd Iw.h.bd) (by rw [hT.len]; omega)⟩
   refine wp_skip (k7 _ _ ?_)
   refine c_seq fun K8 k8=>wp_block (c_seq fun K9 k9=>wp_region_lit (n_val (r_indexAddrS Tryz.underlying24 cells_59 rfl rfl (by omega) (by omega) (addrN (Int.toNat_natCast _))) ?_))
   simp only [ev,zD,zE,zF,zG]
   refine n_load rfl ((hrow.ext m.ext).lies agg_59 cells_59) ?_
   simp only [ev,zD,zE,zF,zG]
   refine malloc m zero_59 rfl ?_
   clear m; intro g4 u m
   simp only [ev,zD,zE,zF,zG]
   refine mstoreA m 0 rfl rfl rfl cells_59 (leT rfl) rfl ?_
   clear m; intro u m; simp only [over,zH,zI,zJ,zK,zL,zM,zN,zO,zP,zF,zG,Nat.reduceAdd] at m
   refine n_nil (k9 _ _ ?_)
   refine c_seq fun K10 k10=>wp_region_lit (n_load rfl ((m.b 0 rfl).full agg_59 cells_59) ?_)
   simp only [ev,zD,zE,zF,zG]
   refine n_bs_24_1 rfl ?_
   intro u g5 e hg hB; replace m:=m.newB e hg hB; clear e hg hB
   simp only [ev,zD,zE,zF,zG]
   refine mcall m rfl rfl (Volume6_c _ (TrisAt.one (m.b 0 rfl)) (by decide)) ?_
   clear m; rintro v u m rfl
   simp only [ev,zD,zE,zF,zG]
   rw [sumT_one]
   refine malloc m zero_32 rfl ?_
   clear m; intro g6 u m
   simp only [ev,zD,zE,zF,zG]
   refine mstoreA m 0 rfl rfl rfl cells_32 (leT rfl) rfl ?_
   clear m; intro u m; simp only [over,zH,zI,zJ,zK,zL,zM,zN,zO,zP,zF,zG,Nat.reduceAdd] at m
   refine n_nil (k10 _ _ ?_)
   refine c_seq fun K11 k11=>wp_region_lit (n_load rfl ((m.b 4 rfl).full agg_32 cells_32) ?_)
   simp only [ev,zD,zE,zF,zG]
   refine n_load rfl ((m.b 0 rfl).full agg_32 cells_32) ?_
   simp only [ev,zD,zE,zF,zG]
   refine mcallP m rfl rfl (Add_c Bw.up Bw.up) ?_
   clear m; intro u m
   simp only [ev,zD,zE,zF,zG]
   refine mstoreA m 4 rfl rfl rfl cells_32 (leT rfl) rfl ?_
   clear m; intro u m; simp only [over,zH,zI,zJ,zK,zL,zM,zN,zO,zP,zF,zG,Nat.reduceAdd] at m
   refine n_nil (k11 _ _ ?_)
   refine c_seq fun K12 k12=>wp_region_lit (mcallP m rfl rfl (readers_c) ?_)
   clear m; intro u m
   refine n_val (r_move) (n_nil (k12 _ _ ?_))
   refine wp_block (wp_loop_rounds 4 (rounds_step (c_seq fun K13 k13=>wp_region_lit (n_val (r_lssT (m:=0) (n:=3) rfl rfl (by decide)) (n_nil (k13 _ _ ?_))))))
   refine c_seq fun K14 k14=>c_yes rfl (wp_skip (k14 _ _ ?_))
   refine c_seq fun K15 k15=>wp_block (c_seq fun K16 k16=>wp_region_lit (n_val (r_move) ?_))
   simp only [ev,zD,zE,zF,zG]
   refine n_val (r_index_95_0 rfl rfl) (n_val (r_assign) (n_val (r_assign) (n_nil (k16 _ _ ?_))))
   refine c_seq fun K17 k17=>wp_region_lit ?_
   simp only [ev,zD,zE,zF,zG]
   refine n_load rfl ((m.b 2 rfl).full agg_59 cells_59) ?_
   simp only [ev,zD,zE,zF,zG]
   refine n_val (r_move) (n_nil (k17 _ _ ?_))
   refine wp_block (wp_loop_rounds 4 (rounds_step (c_seq fun K18 k18=>wp_region_lit (n_val (r_lssT (m:=0) (n:=3) rfl rfl (by decide)) (n_nil (k18 _ _ ?_))))))
   refine c_seq fun K19 k19=>c_yes rfl (wp_skip (k19 _ _ ?_))
   refine c_seq fun K20 k20=>wp_block (c_seq fun K21 k21=>wp_region_lit (n_val (r_index_59_0 rfl rfl) ?_))
   simp only [ev,zD,zE,zF,zG]
   refine malloc m zero_28 rfl ?_
   clear m; intro g7 u m
   simp only [ev,zD,zE,zF,zG]
   refine mstoreA m 0 rfl rfl rfl cells_28 (leT rfl) rfl ?_
   clear m; intro u m; simp only [over,zH,zI,zJ,zK,zL,zM,zN,zO,zP,zF,zG,Nat.reduceAdd] at m
   refine n_nil (k21 _ _ ?_)
   refine mq_tail m 12 follows_mixed (by kernel_rfl) ?_
   simp only [zH,zI,zJ,zK]
   refine q_val (r_move) (q_val (r_move) (q_val (r_indexAddrA Tryz.underlying76 cells_32 rfl rfl (by decide) (by decide) rfl) ?_))
   simp only [ev,zD,zE,zF,zG]
   refine ql rfl (fun u m=>((m.b 4 rfl).lies agg_32 cells_32 rfl rfl)) ?_
   simp only [ev,zD,zE,zF,zG,zH,zI,zJ,zK,Nat.zero_add,Nat.reduceAdd,Nat.reduceMul,Int.reduceToNat]
   refine ql rfl (fun u m=>((m.b 1 rfl).full agg_32 cells_32)) ?_
   simp only [ev,zD,zE,zF,zG]
   refine q_val (r_move) ?_
   simp only [ev,zD,zE,zF,zG]
   refine ql rfl (fun u m=>((m.b 0 rfl).full agg_28 cells_28)) ?_
   simp only [ev,zD,zE,zF,zG]
   refine qcP rfl rfl (me_x) ?_
   simp only [ev,zD,zE,zF,zG]
   refine qcP rfl rfl (From_c Iw.h) ?_
   simp only [ev,zD,zE,zF,zG]
   refine qcP rfl rfl (Mul_c Bw.up Bw.up) ?_
   simp only [ev,zD,zE,zF,zG]
   refine qcP rfl rfl (Add_c Bw.up Bw.up) (q_val (r_indexAddrA Tryz.underlying76 cells_32 rfl rfl (by decide) (by decide) rfl) (q_nil ?_))
   clear m; intro u m
   simp only [ev,zD,zE,zF,zG]
   refine mstoreA m 4 rfl rfl rfl cells_32 (leT rfl) rfl ?_
   clear m; intro u m; simp only [over,zH,zI,zJ,zK,zL,zM,zN,zO,zP,zF,zG,Nat.reduceAdd] at m
   refine n_nil (k20 _ _ ?_)
   refine wp_region_lit (n_val (r_add (m:=0) (n:=1) (r:=1) rfl rfl (by decide)) (n_val (r_move) (n_nil (then_rounds (c_seq fun K22 k22=>wp_region_lit (n_val (r_lssT (m:=1) (n:=3) rfl rfl (by decide)) (n_nil (k22 _ _ ?_))))))))
   refine c_seq fun K23 k23=>c_yes rfl (wp_skip (k23 _ _ ?_))
   refine c_seq fun K24 k24=>wp_block (c_seq fun K25 k25=>wp_region_lit (n_val (r_index_59_1 rfl rfl) ?_))
   simp only [ev,zD,zE,zF,zG]
   refine malloc m zero_28 rfl ?_
   clear m; intro g8 u m
   simp only [ev,zD,zE,zF,zG]
   refine mstoreA m 0 rfl rfl rfl cells_28 (leT rfl) rfl ?_
   clear m; intro u m; simp only [over,zH,zI,zJ,zK,zL,zM,zN,zO,zP,zF,zG,Nat.reduceAdd] at m
   refine n_nil (k25 _ _ ?_)
   refine mq_tail m 12 follows_mixed (by kernel_rfl) ?_
   simp only [zH,zI,zJ,zK]
   refine q_val (r_move) (q_val (r_move) (q_val (r_indexAddrA Tryz.underlying76 cells_32 rfl rfl (by decide) (by decide) rfl) ?_))
   simp only [ev,zD,zE,zF,zG]
   refine ql rfl (fun u m=>((m.b 5 rfl).lies agg_32 cells_32 rfl rfl)) ?_
   simp only [ev,zD,zE,zF,zG,zH,zI,zJ,zK,Nat.zero_add,Nat.reduceAdd,Nat.reduceMul,Int.reduceToNat]
   refine ql rfl (fun u m=>((m.b 2 rfl).full agg_32 cells_32)) ?_
   simp only [ev,zD,zE,zF,zG]
   refine q_val (r_move) ?_
   simp only [ev,zD,zE,zF,zG]
   refine ql rfl (fun u m=>((m.b 0 rfl).full agg_28 cells_28)) ?_
   simp only [ev,zD,zE,zF,zG]
   refine qcP rfl rfl (me_x) ?_
   simp only [ev,zD,zE,zF,zG]
   refine qcP rfl rfl (From_c Iw.h) ?_
   simp only [ev,zD,zE,zF,zG]
   refine qcP rfl rfl (Mul_c Bw.up Bw.up) ?_
   simp only [ev,zD,zE,zF,zG]
   refine qcP rfl rfl (Add_c Bw.up Bw.up) (q_val (r_indexAddrA Tryz.underlying76 cells_32 rfl rfl (by decide) (by decide) rfl) (q_nil ?_))
   clear m; intro u m
   simp only [ev,zD,zE,zF,zG]
   refine mstoreA m 5 rfl rfl rfl cells_32 (leT rfl) rfl ?_
   clear m; intro u m; simp only [over,zH,zI,zJ,zK,zL,zM,zN,zO,zP,zF,zG,Nat.reduceAdd] at m
   refine n_nil (k24 _ _ ?_)
   refine wp_region_lit (n_val (r_add (m:=1) (n:=1) (r:=2) rfl rfl (by decide)) (n_val (r_move) (n_nil (then_rounds (c_seq fun K26 k26=>wp_region_lit (n_val (r_lssT (m:=2) (n:=3) rfl rfl (by decide)) (n_nil (k26 _ _ ?_))))))))
   refine c_seq fun K27 k27=>c_yes rfl (wp_skip (k27 _ _ ?_))
   refine c_seq fun K28 k28=>wp_block (c_seq fun K29 k29=>wp_region_lit (n_val (r_index_59_2 rfl rfl) ?_))
   simp only [ev,zD,zE,zF,zG]
   refine malloc m zero_28 rfl ?_
   clear m; intro g9 u m
   simp only [ev,zD,zE,zF,zG]
   refine mstoreA m 0 rfl rfl rfl cells_28 (leT rfl) rfl ?_
   clear m; intro u m; simp only [over,zH,zI,zJ,zK,zL,zM,zN,zO,zP,zF,zG,Nat.reduceAdd] at m
   refine n_nil (k29 _ _ ?_)
   refine mq_tail m 12 follows_mixed (by kernel_rfl) ?_
   simp only [zH,zI,zJ,zK]
   refine q_val (r_move) (q_val (r_move) (q_val (r_indexAddrA Tryz.underlying76 cells_32 rfl rfl (by decide) (by decide) rfl) ?_))
   simp only [ev,zD,zE,zF,zG]
   refine ql rfl (fun u m=>((m.b 6 rfl).lies agg_32 cells_32 rfl rfl)) ?_
   simp only [ev,zD,zE,zF,zG,zH,zI,zJ,zK,Nat.zero_add,Nat.reduceAdd,Nat.reduceMul,Int.reduceToNat]
   refine ql rfl (fun u m=>((m.b 3 rfl).full agg_32 cells_32)) ?_
   simp only [ev,zD,zE,zF,zG]
   refine q_val (r_move) ?_
   simp only [ev,zD,zE,zF,zG]
   refine ql rfl (fun u m=>((m.b 0 rfl).full agg_28 cells_28)) ?_
   simp only [ev,zD,zE,zF,zG]
   refine qcP rfl rfl (me_x) ?_
   simp only [ev,zD,zE,zF,zG]
   refine qcP rfl rfl (From_c Iw.h) ?_
   simp only [ev,zD,zE,zF,zG]
   refine qcP rfl rfl (Mul_c Bw.up Bw.up) ?_
   simp only [ev,zD,zE,zF,zG]
   refine qcP rfl rfl (Add_c Bw.up Bw.up) (q_val (r_indexAddrA Tryz.underlying76 cells_32 rfl rfl (by decide) (by decide) rfl) (q_nil ?_))
   clear m; intro u m
   simp only [ev,zD,zE,zF,zG]
   refine mstoreA m 6 rfl rfl rfl cells_32 (leT rfl) rfl ?_
   clear m; intro u m; simp only [over,zH,zI,zJ,zK,zL,zM,zN,zO,zP,zF,zG,Nat.reduceAdd] at m
   refine n_nil (k28 _ _ ?_)
   refine wp_region_lit (n_val (r_add (m:=2) (n:=1) (r:=3) rfl rfl (by decide)) (n_val (r_move) (n_nil (then_rounds (c_seq fun K30 k30=>wp_region_lit (n_val (r_lssF (m:=3) (n:=3) rfl rfl (by decide)) (n_nil (k30 _ _ ?_))))))))
   refine c_seq fun K31 k31=>c_no rfl (wp_exit (k15 _ _ ?_))
   refine wp_region_lit (n_val (r_add (m:=0) (n:=1) (r:=1) rfl rfl (by decide)) ?_)
   simp only [ev,zD,zE,zF,zG]
   refine n_val (r_move) (n_nil (then_rounds (c_seq fun K32 k32=>wp_region_lit (n_val (r_lssT (m:=1) (n:=3) rfl rfl (by decide)) (n_nil (k32 _ _ ?_))))))
   refine c_seq fun K33 k33=>c_yes rfl (wp_skip (k33 _ _ ?_))
   refine c_seq fun K34 k34=>wp_block (c_seq fun K35 k35=>wp_region_lit (n_val (r_move) (n_val (r_index_95_1 rfl rfl) ?_)))
   simp only [ev,zD,zE,zF,zG]
   refine n_val (r_assign) (n_val (r_assign) (n_nil (k35 _ _ ?_)))
   refine c_seq fun K36 k36=>wp_region_lit ?_
   simp only [ev,zD,zE,zF,zG]
   refine n_load rfl ((m.b 5 rfl).full agg_59 cells_59) ?_
   simp only [ev,zD,zE,zF,zG]
   refine n_val (r_move) (n_nil (k36 _ _ ?_))
   refine wp_block (wp_loop_rounds 4 (rounds_step (c_seq fun K37 k37=>wp_region_lit (n_val (r_lssT (m:=0) (n:=3) rfl rfl (by decide)) (n_nil (k37 _ _ ?_))))))
   refine c_seq fun K38 k38=>c_yes rfl (wp_skip (k38 _ _ ?_))
   refine c_seq fun K39 k39=>wp_block (c_seq fun K40 k40=>wp_region_lit (n_val (r_index_59_0 rfl rfl) ?_))
   simp only [ev,zD,zE,zF,zG]
   refine malloc m zero_28 rfl ?_
   clear m; intro g10 u m
   simp only [ev,zD,zE,zF,zG]
   refine mstoreA m 0 rfl rfl rfl cells_28 (leT rfl) rfl ?_
   clear m; intro u m; simp only [over,zH,zI,zJ,zK,zL,zM,zN,zO,zP,zF,zG,Nat.reduceAdd] at m
   refine n_nil (k40 _ _ ?_)
   refine mq_tail m 12 follows_mixed (by kernel_rfl) ?_
   simp only [zH,zI,zJ,zK]
   refine q_val (r_move) (q_val (r_move) (q_val (r_indexAddrA Tryz.underlying76 cells_32 rfl rfl (by decide) (by decide) rfl) ?_))
   simp only [ev,zD,zE,zF,zG]
   refine ql rfl (fun u m=>((m.b 7 rfl).lies agg_32 cells_32 rfl rfl)) ?_
   simp only [ev,zD,zE,zF,zG,zH,zI,zJ,zK,Nat.zero_add,Nat.reduceAdd,Nat.reduceMul,Int.reduceToNat]
   refine ql rfl (fun u m=>((m.b 4 rfl).full agg_32 cells_32)) ?_
   simp only [ev,zD,zE,zF,zG]
   refine q_val (r_move) ?_
   simp only [ev,zD,zE,zF,zG]
   refine ql rfl (fun u m=>((m.b 0 rfl).full agg_28 cells_28)) ?_
   simp only [ev,zD,zE,zF,zG]
   refine qcP rfl rfl (me_y) ?_
   simp only [ev,zD,zE,zF,zG]
   refine qcP rfl rfl (From_c Iw.h) ?_
   simp only [ev,zD,zE,zF,zG]
   refine qcP rfl rfl (Mul_c Bw.up Bw.up) ?_
   simp only [ev,zD,zE,zF,zG]
   refine qcP rfl rfl (Add_c Bw.up Bw.up) (q_val (r_indexAddrA Tryz.underlying76 cells_32 rfl rfl (by decide) (by decide) rfl) (q_nil ?_))
   clear m; intro u m
   simp only [ev,zD,zE,zF,zG]
   refine mstoreA m 7 rfl rfl rfl cells_32 (leT rfl) rfl ?_
   clear m; intro u m; simp only [over,zH,zI,zJ,zK,zL,zM,zN,zO,zP,zF,zG,Nat.reduceAdd] at m
   refine n_nil (k39 _ _ ?_)
   refine wp_region_lit (n_val (r_add (m:=0) (n:=1) (r:=1) rfl rfl (by decide)) (n_val (r_move) (n_nil (then_rounds (c_seq fun K41 k41=>wp_region_lit (n_val (r_lssT (m:=1) (n:=3) rfl rfl (by decide)) (n_nil (k41 _ _ ?_))))))))
   refine c_seq fun K42 k42=>c_yes rfl (wp_skip (k42 _ _ ?_))
   refine c_seq fun K43 k43=>wp_block (c_seq fun K44 k44=>wp_region_lit (n_val (r_index_59_1 rfl rfl) ?_))
   simp only [ev,zD,zE,zF,zG]
   refine malloc m zero_28 rfl ?_
   clear m; intro g11 u m
   simp only [ev,zD,zE,zF,zG]
   refine mstoreA m 0 rfl rfl rfl cells_28 (leT rfl) rfl ?_
   clear m; intro u m; simp only [over,zH,zI,zJ,zK,zL,zM,zN,zO,zP,zF,zG,Nat.reduceAdd] at m
   refine n_nil (k44 _ _ ?_)
   refine mq_tail m 12 follows_mixed (by kernel_rfl) ?_
   simp only [zH,zI,zJ,zK]
   refine q_val (r_move) (q_val (r_move) (q_val (r_indexAddrA Tryz.underlying76 cells_32 rfl rfl (by decide) (by decide) rfl) ?_))
   simp only [ev,zD,zE,zF,zG]
   refine ql rfl (fun u m=>((m.b 8 rfl).lies agg_32 cells_32 rfl rfl)) ?_
   simp only [ev,zD,zE,zF,zG,zH,zI,zJ,zK,Nat.zero_add,Nat.reduceAdd,Nat.reduceMul,Int.reduceToNat]
   refine ql rfl (fun u m=>((m.b 5 rfl).full agg_32 cells_32)) ?_
   simp only [ev,zD,zE,zF,zG]
   refine q_val (r_move) ?_
   simp only [ev,zD,zE,zF,zG]
   refine ql rfl (fun u m=>((m.b 0 rfl).full agg_28 cells_28)) ?_
   simp only [ev,zD,zE,zF,zG]
   refine qcP rfl rfl (me_y) ?_
   simp only [ev,zD,zE,zF,zG]
   refine qcP rfl rfl (From_c Iw.h) ?_
   simp only [ev,zD,zE,zF,zG]
   refine qcP rfl rfl (Mul_c Bw.up Bw.up) ?_
   simp only [ev,zD,zE,zF,zG]
   refine qcP rfl rfl (Add_c Bw.up Bw.up) (q_val (r_indexAddrA Tryz.underlying76 cells_32 rfl rfl (by decide) (by decide) rfl) (q_nil ?_))
   clear m; intro u m
   simp only [ev,zD,zE,zF,zG]
   refine mstoreA m 8 rfl rfl rfl cells_32 (leT rfl) rfl ?_
   clear m; intro u m; simp only [over,zH,zI,zJ,zK,zL,zM,zN,zO,zP,zF,zG,Nat.reduceAdd] at m
   refine n_nil (k43 _ _ ?_)
   refine wp_region_lit (n_val (r_add (m:=1) (n:=1) (r:=2) rfl rfl (by decide)) (n_val (r_move) (n_nil (then_rounds (c_seq fun K45 k45=>wp_region_lit (n_val (r_lssT (m:=2) (n:=3) rfl rfl (by decide)) (n_nil (k45 _ _ ?_))))))))
   refine c_seq fun K46 k46=>c_yes rfl (wp_skip (k46 _ _ ?_))
   refine c_seq fun K47 k47=>wp_block (c_seq fun K48 k48=>wp_region_lit (n_val (r_index_59_2 rfl rfl) ?_))
   simp only [ev,zD,zE,zF,zG]
   refine malloc m zero_28 rfl ?_
   clear m; intro g12 u m
   simp only [ev,zD,zE,zF,zG]
   refine mstoreA m 0 rfl rfl rfl cells_28 (leT rfl) rfl ?_
   clear m; intro u m; simp only [over,zH,zI,zJ,zK,zL,zM,zN,zO,zP,zF,zG,Nat.reduceAdd] at m
   refine n_nil (k48 _ _ ?_)
   refine mq_tail m 12 follows_mixed (by kernel_rfl) ?_
   simp only [zH,zI,zJ,zK]
   refine q_val (r_move) (q_val (r_move) (q_val (r_indexAddrA Tryz.underlying76 cells_32 rfl rfl (by decide) (by decide) rfl) ?_))
   simp only [ev,zD,zE,zF,zG]
   refine ql rfl (fun u m=>((m.b 9 rfl).lies agg_32 cells_32 rfl rfl)) ?_
   simp only [ev,zD,zE,zF,zG,zH,zI,zJ,zK,Nat.zero_add,Nat.reduceAdd,Nat.reduceMul,Int.reduceToNat]
   refine ql rfl (fun u m=>((m.b 6 rfl).full agg_32 cells_32)) ?_
   simp only [ev,zD,zE,zF,zG]
   refine q_val (r_move) ?_
   simp only [ev,zD,zE,zF,zG]
   refine ql rfl (fun u m=>((m.b 0 rfl).full agg_28 cells_28)) ?_
   simp only [ev,zD,zE,zF,zG]
   refine qcP rfl rfl (me_y) ?_
   simp only [ev,zD,zE,zF,zG]
   refine qcP rfl rfl (From_c Iw.h) ?_
   simp only [ev,zD,zE,zF,zG]
   refine qcP rfl rfl (Mul_c Bw.up Bw.up) ?_
   simp only [ev,zD,zE,zF,zG]
   refine qcP rfl rfl (Add_c Bw.up Bw.up) (q_val (r_indexAddrA Tryz.underlying76 cells_32 rfl rfl (by decide) (by decide) rfl) (q_nil ?_))
   clear m; intro u m
   simp only [ev,zD,zE,zF,zG]
   refine mstoreA m 9 rfl rfl rfl cells_32 (leT rfl) rfl ?_
   clear m; intro u m; simp only [over,zH,zI,zJ,zK,zL,zM,zN,zO,zP,zF,zG,Nat.reduceAdd] at m
   refine n_nil (k47 _ _ ?_)
   refine wp_region_lit (n_val (r_add (m:=2) (n:=1) (r:=3) rfl rfl (by decide)) (n_val (r_move) (n_nil (then_rounds (c_seq fun K49 k49=>wp_region_lit (n_val (r_lssF (m:=3) (n:=3) rfl rfl (by decide)) (n_nil (k49 _ _ ?_))))))))
   refine c_seq fun K50 k50=>c_no rfl (wp_exit (k34 _ _ ?_))
   refine wp_region_lit (n_val (r_add (m:=1) (n:=1) (r:=2) rfl rfl (by decide)) ?_)
   simp only [ev,zD,zE,zF,zG]
   refine n_val (r_move) (n_nil (then_rounds (c_seq fun K51 k51=>wp_region_lit (n_val (r_lssT (m:=2) (n:=3) rfl rfl (by decide)) (n_nil (k51 _ _ ?_))))))
   refine c_seq fun K52 k52=>c_yes rfl (wp_skip (k52 _ _ ?_))
   refine c_seq fun K53 k53=>wp_block (c_seq fun K54 k54=>wp_region_lit (n_val (r_move) (n_val (r_index_95_2 rfl rfl) ?_)))
   simp only [ev,zD,zE,zF,zG]
   refine n_val (r_assign) (n_val (r_assign) (n_nil (k54 _ _ ?_)))
   refine c_seq fun K55 k55=>wp_region_lit ?_
   simp only [ev,zD,zE,zF,zG]
   refine n_load rfl ((m.b 8 rfl).full agg_59 cells_59) ?_
   simp only [ev,zD,zE,zF,zG]
   refine n_val (r_move) (n_nil (k55 _ _ ?_))
   refine wp_block (wp_loop_rounds 4 (rounds_step (c_seq fun K56 k56=>wp_region_lit (n_val (r_lssT (m:=0) (n:=3) rfl rfl (by decide)) (n_nil (k56 _ _ ?_))))))
   refine c_seq fun K57 k57=>c_yes rfl (wp_skip (k57 _ _ ?_))
   refine c_seq fun K58 k58=>wp_block (c_seq fun K59 k59=>wp_region_lit (n_val (r_index_59_0 rfl rfl) ?_))
   simp only [ev,zD,zE,zF,zG]
   refine malloc m zero_28 rfl ?_
   clear m; intro g13 u m
   simp only [ev,zD,zE,zF,zG]
   refine mstoreA m 0 rfl rfl rfl cells_28 (leT rfl) rfl ?_
   clear m; intro u m; simp only [over,zH,zI,zJ,zK,zL,zM,zN,zO,zP,zF,zG,Nat.reduceAdd] at m
   refine n_nil (k59 _ _ ?_)
   refine mq_tail m 12 follows_mixed (by kernel_rfl) ?_
   simp only [zH,zI,zJ,zK]
   refine q_val (r_move) (q_val (r_move) (q_val (r_indexAddrA Tryz.underlying76 cells_32 rfl rfl (by decide) (by decide) rfl) ?_))
   simp only [ev,zD,zE,zF,zG]
   refine ql rfl (fun u m=>((m.b 10 rfl).lies agg_32 cells_32 rfl rfl)) ?_
   simp only [ev,zD,zE,zF,zG,zH,zI,zJ,zK,Nat.zero_add,Nat.reduceAdd,Nat.reduceMul,Int.reduceToNat]
   refine ql rfl (fun u m=>((m.b 7 rfl).full agg_32 cells_32)) ?_
   simp only [ev,zD,zE,zF,zG]
   refine q_val (r_move) ?_
   simp only [ev,zD,zE,zF,zG]
   refine ql rfl (fun u m=>((m.b 0 rfl).full agg_28 cells_28)) ?_
   simp only [ev,zD,zE,zF,zG]
   refine qcP rfl rfl (me_z) ?_
   simp only [ev,zD,zE,zF,zG]
   refine qcP rfl rfl (From_c Iw.h) ?_
   simp only [ev,zD,zE,zF,zG]
   refine qcP rfl rfl (Mul_c Bw.up Bw.up) ?_
   simp only [ev,zD,zE,zF,zG]
   refine qcP rfl rfl (Add_c Bw.up Bw.up) (q_val (r_indexAddrA Tryz.underlying76 cells_32 rfl rfl (by decide) (by decide) rfl) (q_nil ?_))
   clear m; intro u m
   simp only [ev,zD,zE,zF,zG]
   refine mstoreA m 10 rfl rfl rfl cells_32 (leT rfl) rfl ?_
   clear m; intro u m; simp only [over,zH,zI,zJ,zK,zL,zM,zN,zO,zP,zF,zG,Nat.reduceAdd] at m
   refine n_nil (k58 _ _ ?_)
   refine wp_region_lit (n_val (r_add (m:=0) (n:=1) (r:=1) rfl rfl (by decide)) (n_val (r_move) (n_nil (then_rounds (c_seq fun K60 k60=>wp_region_lit (n_val (r_lssT (m:=1) (n:=3) rfl rfl (by decide)) (n_nil (k60 _ _ ?_))))))))
   refine c_seq fun K61 k61=>c_yes rfl (wp_skip (k61 _ _ ?_))
   refine c_seq fun K62 k62=>wp_block (c_seq fun K63 k63=>wp_region_lit (n_val (r_index_59_1 rfl rfl) ?_))
   simp only [ev,zD,zE,zF,zG]
   refine malloc m zero_28 rfl ?_
   clear m; intro g14 u m
   simp only [ev,zD,zE,zF,zG]
   refine mstoreA m 0 rfl rfl rfl cells_28 (leT rfl) rfl ?_
   clear m; intro u m; simp only [over,zH,zI,zJ,zK,zL,zM,zN,zO,zP,zF,zG,Nat.reduceAdd] at m
   refine n_nil (k63 _ _ ?_)
   refine mq_tail m 12 follows_mixed (by kernel_rfl) ?_
   simp only [zH,zI,zJ,zK]
   refine q_val (r_move) (q_val (r_move) (q_val (r_indexAddrA Tryz.underlying76 cells_32 rfl rfl (by decide) (by decide) rfl) ?_))
   simp only [ev,zD,zE,zF,zG]
   refine ql rfl (fun u m=>((m.b 11 rfl).lies agg_32 cells_32 rfl rfl)) ?_
   simp only [ev,zD,zE,zF,zG,zH,zI,zJ,zK,Nat.zero_add,Nat.reduceAdd,Nat.reduceMul,Int.reduceToNat]
   refine ql rfl (fun u m=>((m.b 8 rfl).full agg_32 cells_32)) ?_
   simp only [ev,zD,zE,zF,zG]
   refine q_val (r_move) ?_
   simp only [ev,zD,zE,zF,zG]
   refine ql rfl (fun u m=>((m.b 0 rfl).full agg_28 cells_28)) ?_
   simp only [ev,zD,zE,zF,zG]
   refine qcP rfl rfl (me_z) ?_
   simp only [ev,zD,zE,zF,zG]
   refine qcP rfl rfl (From_c Iw.h) ?_
   simp only [ev,zD,zE,zF,zG]
   refine qcP rfl rfl (Mul_c Bw.up Bw.up) ?_
   simp only [ev,zD,zE,zF,zG]
   refine qcP rfl rfl (Add_c Bw.up Bw.up) (q_val (r_indexAddrA Tryz.underlying76 cells_32 rfl rfl (by decide) (by decide) rfl) (q_nil ?_))
   clear m; intro u m
   simp only [ev,zD,zE,zF,zG]
   refine mstoreA m 11 rfl rfl rfl cells_32 (leT rfl) rfl ?_
   clear m; intro u m; simp only [over,zH,zI,zJ,zK,zL,zM,zN,zO,zP,zF,zG,Nat.reduceAdd] at m
   refine n_nil (k62 _ _ ?_)
   refine wp_region_lit (n_val (r_add (m:=1) (n:=1) (r:=2) rfl rfl (by decide)) (n_val (r_move) (n_nil (then_rounds (c_seq fun K64 k64=>wp_region_lit (n_val (r_lssT (m:=2) (n:=3) rfl rfl (by decide)) (n_nil (k64 _ _ ?_))))))))
   refine c_seq fun K65 k65=>c_yes rfl (wp_skip (k65 _ _ ?_))
   refine c_seq fun K66 k66=>wp_block (c_seq fun K67 k67=>wp_region_lit (n_val (r_index_59_2 rfl rfl) ?_))
   simp only [ev,zD,zE,zF,zG]
   refine malloc m zero_28 rfl ?_
   clear m; intro g15 u m
   simp only [ev,zD,zE,zF,zG]
   refine mstoreA m 0 rfl rfl rfl cells_28 (leT rfl) rfl ?_
   clear m; intro u m; simp only [over,zH,zI,zJ,zK,zL,zM,zN,zO,zP,zF,zG,Nat.reduceAdd] at m
   refine n_nil (k67 _ _ ?_)
   refine mq_tail m 12 follows_mixed (by kernel_rfl) ?_
   simp only [zH,zI,zJ,zK]
   refine q_val (r_move) (q_val (r_move) (q_val (r_indexAddrA Tryz.underlying76 cells_32 rfl rfl (by decide) (by decide) rfl) ?_))
   simp only [ev,zD,zE,zF,zG]
   refine ql rfl (fun u m=>((m.b 12 rfl).lies agg_32 cells_32 rfl rfl)) ?_
   simp only [ev,zD,zE,zF,zG,zH,zI,zJ,zK,Nat.zero_add,Nat.reduceAdd,Nat.reduceMul,Int.reduceToNat]
   refine ql rfl (fun u m=>((m.b 9 rfl).full agg_32 cells_32)) ?_
   simp only [ev,zD,zE,zF,zG]
   refine q_val (r_move) ?_
   simp only [ev,zD,zE,zF,zG]
   refine ql rfl (fun u m=>((m.b 0 rfl).full agg_28 cells_28)) ?_
   simp only [ev,zD,zE,zF,zG]
   refine qcP rfl rfl (me_z) ?_
   simp only [ev,zD,zE,zF,zG]
   refine qcP rfl rfl (From_c Iw.h) ?_
   simp only [ev,zD,zE,zF,zG]
   refine qcP rfl rfl (Mul_c Bw.up Bw.up) ?_
   simp only [ev,zD,zE,zF,zG]
   refine qcP rfl rfl (Add_c Bw.up Bw.up) (q_val (r_indexAddrA Tryz.underlying76 cells_32 rfl rfl (by decide) (by decide) rfl) (q_nil ?_))
   clear m; intro u m
   simp only [ev,zD,zE,zF,zG]
   refine mstoreA m 12 rfl rfl rfl cells_32 (leT rfl) rfl ?_
   clear m; intro u m; simp only [over,zH,zI,zJ,zK,zL,zM,zN,zO,zP,zF,zG,Nat.reduceAdd] at m
   refine n_nil (k66 _ _ ?_)
   refine wp_region_lit (n_val (r_add (m:=2) (n:=1) (r:=3) rfl rfl (by decide)) (n_val (r_move) (n_nil (then_rounds (c_seq fun K68 k68=>wp_region_lit (n_val (r_lssF (m:=3) (n:=3) rfl rfl (by decide)) (n_nil (k68 _ _ ?_))))))))
   refine c_seq fun K69 k69=>c_no rfl (wp_exit (k53 _ _ ?_))
   refine wp_region_lit (n_val (r_add (m:=2) (n:=1) (r:=3) rfl rfl (by decide)) ?_)
   simp only [ev,zD,zE,zF,zG]
   refine n_val (r_move) (n_nil (then_rounds (c_seq fun K70 k70=>wp_region_lit (n_val (r_lssF (m:=3) (n:=3) rfl rfl (by decide)) (n_nil (k70 _ _ ?_))))))
   refine c_seq fun K71 k71=>c_no rfl (wp_exit (k8 _ _ ?_))
   refine wp_region_lit ?_
   simp only [ev,zD,zE,zF,zG]
   refine n_val (r_add rfl rfl (wrap_i64 (by omega) (by omega))) (n_val (r_move) (n_nil ?_))
   simp only [ev,zD,zE,zF,zG]
   simp only [Exit.inBlock,Exit.then]
   refine ⟨N - (k + 1),_,?_,rfl,?_,?_⟩
   · omega
   · simp only [zQ,zR,zD,zE,setG_cons,setG_nil,setMany_cons,setMany_nil,zF,zG]
   ·
    simp only [zQ,zR,zD,zE]
    exact ⟨k + 1,rfl,(((m.re 13 rfl (by rw [sumT_step ht]; exact (m.b 13 rfl))).re 12 rfl (by rw [sumT_step (f:=(mom P3.x)) ht,sumT_step (f:=(mom P3.y)) ht,sumT_step (f:=(mom P3.z)) ht,← mom_step,← mom_step,← mom_step]; exact (m.b 12 rfl))).sel [false,false,false,false,false,false,false,false,false,false,false,false,true,true,true]),by omega,rfl⟩
  ·
   have hkN : k = N:=by omega
   rw [hkN,show ts.take N = ts from List.take_of_length_le (by rw [hT.len]; exact Nat.le_refl _)] at m
   haveI : Bw 264 (sumT det ts):=⟨sumT_bd (m:=200) (fun u hu=>by haveI:=hT.it u hu; exact det_bd) (by rw [hT.len]; omega)⟩
   haveI : Bw 364 (sumT (mom P3.x) ts):=⟨sumT_bd (m:=300) (fun u hu=>by haveI:=hT.it u hu; exact mom_bd Iw.h.bd Iw.h.bd Iw.h.bd) (by rw [hT.len]; omega)⟩
   haveI : Bw 364 (sumT (mom P3.y) ts):=⟨sumT_bd (m:=300) (fun u hu=>by haveI:=hT.it u hu; exact mom_bd Iw.h.bd Iw.h.bd Iw.h.bd) (by rw [hT.len]; omega)⟩
   haveI : Bw 364 (sumT (mom P3.z) ts):=⟨sumT_bd (m:=300) (fun u hu=>by haveI:=hT.it u hu; exact mom_bd Iw.h.bd Iw.h.bd Iw.h.bd) (by rw [hT.len]; omega)⟩
   refine wp_exit (k4 _ _ ?_)
   refine c_seq fun K72 k72=>wp_region_lit (n_load rfl ((m.b 1 rfl).full agg_32 cells_32) ?_)
   simp only [ev,zD,zE,zF,zG]
   refine mcallP m rfl rfl (Sign_c Bw.up) ?_
   clear m; intro u m
   refine n_val (r_neq rfl rfl) (n_val (r_assign) (n_nil (k72 _ _ ?_)))
   refine c_seq fun K73 k73=>?_
   simp only [ev,zD,zE,zF,zG]
   rcases Decidable.em (isign (sumT det ts) ≠ 0) with hV | hV
   ·
    rw [decide_eq_true hV]
    have hV0:=mt isign_zero_iff.2 hV
    refine wp_region_lit (malloc m zero_49 rfl ?_)
    clear m; intro g4 u m
    refine n_nil (k73 _ _ ?_)
    refine c_seq fun K74 k74=>c_seq fun K75 k75=>wp_region_lit (n_val (r_move) (n_nil (k75 _ _ ?_)))
    refine wp_block (wp_loop_rounds 4 (rounds_step (c_seq fun K76 k76=>wp_region_lit (n_val (r_lssT (m:=0) (n:=3) rfl rfl (by decide)) (n_nil (k76 _ _ ?_))))))
    refine c_seq fun K77 k77=>c_yes rfl (wp_skip (k77 _ _ ?_))
    refine c_seq fun K78 k78=>wp_block (c_seq fun K79 k79=>wp_region_lit (n_val (r_move) ?_))
    simp only [ev,zD,zE,zF,zG]
    refine n_val (r_assign) (n_nil (k79 _ _ ?_))
    refine c_seq fun K80 k80=>wp_region_lit (n_val (r_move) (n_val (r_build_32_) ?_))
    simp only [ev,zD,zE,zF,zG]
    refine mcallP m rfl rfl (whole0_c) ?_
    clear m; intro u m
    refine n_val (r_indexAddrA Tryz.underlying49 cells_34 rfl rfl (by decide) (by decide) rfl) ?_
    simp only [ev,zD,zE,zF,zG]
    refine mstoreA m 0 rfl rfl rfl cells_34 (leT rfl) rfl ?_
    clear m; intro u m; simp only [over,zH,zI,zJ,zK,zL,zM,zN,zO,zP,zF,zG,Nat.reduceAdd] at m
    refine n_nil (k80 _ _ ?_)
    refine c_seq fun K81 k81=>wp_region_lit (n_val (r_move) (n_nil (k81 _ _ ?_)))
    refine c_yes rfl ?_
    simp only [ev,zD,zE,zF,zG]
    refine mq_tail m 9 follows_mixed (by kernel_rfl) ?_
    simp only [zH,zI,zJ,zK]
    refine q_val (r_move) (q_val (r_move) (q_val (r_indexAddrA Tryz.underlying76 cells_32 rfl rfl (by decide) (by decide) rfl) ?_))
    simp only [ev,zD,zE,zF,zG]
    refine ql rfl (fun u m=>((m.b 1 rfl).lies agg_32 cells_32 rfl rfl)) ?_
    simp only [ev,zD,zE,zF,zG,zH,zI,zJ,zK,Nat.zero_add,Nat.reduceAdd,Nat.reduceMul,Int.reduceToNat]
    refine ql rfl (fun u m=>((m.b 2 rfl).full agg_32 cells_32)) ?_
    simp only [ev,zD,zE,zF,zG]
    refine qcP rfl rfl (From_c Iw.h) ?_
    simp only [ev,zD,zE,zF,zG]
    refine qcP rfl rfl (Mul_c Bw.up Bw.up) ?_
    simp only [ev,zD,zE,zF,zG]
    refine qcP rfl rfl (mFrac_c Bw.up Bw.up (by have:=mt isign_zero_iff.2 hV; omega)) (q_val (r_indexAddrA Tryz.underlying49 cells_34 rfl rfl (by decide) (by decide) rfl) (q_nil ?_))
    clear m; intro u m
    simp only [ev,zD,zE,zF,zG]
    refine mstoreA m 0 rfl rfl rfl cells_34 (leT rfl) rfl ?_
    clear m; intro u m; simp only [over,zH,zI,zJ,zK,zL,zM,zN,zO,zP,zF,zG,Nat.reduceAdd] at m
    refine n_nil (k78 _ _ ?_)
    refine wp_region_lit (n_val (r_add (m:=0) (n:=1) (r:=1) rfl rfl (by decide)) (n_val (r_move) (n_nil (then_rounds (c_seq fun K82 k82=>wp_region_lit (n_val (r_lssT (m:=1) (n:=3) rfl rfl (by decide)) (n_nil (k82 _ _ ?_))))))))
    refine c_seq fun K83 k83=>c_yes rfl (wp_skip (k83 _ _ ?_))
    refine c_seq fun K84 k84=>wp_block (c_seq fun K85 k85=>wp_region_lit (n_val (r_move) ?_))
    simp only [ev,zD,zE,zF,zG]
    refine n_val (r_assign) (n_nil (k85 _ _ ?_))
    refine c_seq fun K86 k86=>wp_region_lit (n_val (r_move) (n_val (r_build_32_) ?_))
    simp only [ev,zD,zE,zF,zG]
    refine mcallP m rfl rfl (whole0_c) ?_
    clear m; intro u m
    refine n_val (r_indexAddrA Tryz.underlying49 cells_34 rfl rfl (by decide) (by decide) rfl) ?_
    simp only [ev,zD,zE,zF,zG]
    refine mstoreA m 0 rfl rfl rfl cells_34 (leT rfl) rfl ?_
    clear m; intro u m; simp only [over,zH,zI,zJ,zK,zL,zM,zN,zO,zP,zF,zG,Nat.reduceAdd] at m
    refine n_nil (k86 _ _ ?_)
    refine c_seq fun K87 k87=>wp_region_lit (n_val (r_move) (n_nil (k87 _ _ ?_)))
    refine c_yes rfl ?_
    simp only [ev,zD,zE,zF,zG]
    refine mq_tail m 9 follows_mixed (by kernel_rfl) ?_
    simp only [zH,zI,zJ,zK]
    refine q_val (r_move) (q_val (r_move) (q_val (r_indexAddrA Tryz.underlying76 cells_32 rfl rfl (by decide) (by decide) rfl) ?_))
    simp only [ev,zD,zE,zF,zG]
    refine ql rfl (fun u m=>((m.b 1 rfl).lies agg_32 cells_32 rfl rfl)) ?_
    simp only [ev,zD,zE,zF,zG,zH,zI,zJ,zK,Nat.zero_add,Nat.reduceAdd,Nat.reduceMul,Int.reduceToNat]
    refine ql rfl (fun u m=>((m.b 2 rfl).full agg_32 cells_32)) ?_
    simp only [ev,zD,zE,zF,zG]
    refine qcP rfl rfl (From_c Iw.h) ?_
    simp only [ev,zD,zE,zF,zG]
    refine qcP rfl rfl (Mul_c Bw.up Bw.up) ?_
    simp only [ev,zD,zE,zF,zG]
    refine qcP rfl rfl (mFrac_c Bw.up Bw.up (by have:=mt isign_zero_iff.2 hV; omega)) (q_val (r_indexAddrA Tryz.underlying49 cells_34 rfl rfl (by decide) (by decide) rfl) (q_nil ?_))
    clear m; intro u m
    simp only [ev,zD,zE,zF,zG]
    refine mstoreA m 0 rfl rfl rfl cells_34 (leT rfl) rfl ?_
    clear m; intro u m; simp only [over,zH,zI,zJ,zK,zL,zM,zN,zO,zP,zF,zG,Nat.reduceAdd] at m
    refine n_nil (k84 _ _ ?_)
    refine wp_region_lit (n_val (r_add (m:=1) (n:=1) (r:=2) rfl rfl (by decide)) (n_val (r_move) (n_nil (then_rounds (c_seq fun K88 k88=>wp_region_lit (n_val (r_lssT (m:=2) (n:=3) rfl rfl (by decide)) (n_nil (k88 _ _ ?_))))))))
    refine c_seq fun K89 k89=>c_yes rfl (wp_skip (k89 _ _ ?_))
    refine c_seq fun K90 k90=>wp_block (c_seq fun K91 k91=>wp_region_lit (n_val (r_move) ?_))
    simp only [ev,zD,zE,zF,zG]
    refine n_val (r_assign) (n_nil (k91 _ _ ?_))
    refine c_seq fun K92 k92=>wp_region_lit (n_val (r_move) (n_val (r_build_32_) ?_))
    simp only [ev,zD,zE,zF,zG]
    refine mcallP m rfl rfl (whole0_c) ?_
    clear m; intro u m
    refine n_val (r_indexAddrA Tryz.underlying49 cells_34 rfl rfl (by decide) (by decide) rfl) ?_
    simp only [ev,zD,zE,zF,zG]
    refine mstoreA m 0 rfl rfl rfl cells_34 (leT rfl) rfl ?_
    clear m; intro u m; simp only [over,zH,zI,zJ,zK,zL,zM,zN,zO,zP,zF,zG,Nat.reduceAdd] at m
    refine n_nil (k92 _ _ ?_)
    refine c_seq fun K93 k93=>wp_region_lit (n_val (r_move) (n_nil (k93 _ _ ?_)))
    refine c_yes rfl ?_
    simp only [ev,zD,zE,zF,zG]
    refine mq_tail m 9 follows_mixed (by kernel_rfl) ?_
    simp only [zH,zI,zJ,zK]
    refine q_val (r_move) (q_val (r_move) (q_val (r_indexAddrA Tryz.underlying76 cells_32 rfl rfl (by decide) (by decide) rfl) ?_))
    simp only [ev,zD,zE,zF,zG]
    refine ql rfl (fun u m=>((m.b 1 rfl).lies agg_32 cells_32 rfl rfl)) ?_
    simp only [ev,zD,zE,zF,zG,zH,zI,zJ,zK,Nat.zero_add,Nat.reduceAdd,Nat.reduceMul,Int.reduceToNat]
    refine ql rfl (fun u m=>((m.b 2 rfl).full agg_32 cells_32)) ?_
    simp only [ev,zD,zE,zF,zG]
    refine qcP rfl rfl (From_c Iw.h) ?_
    simp only [ev,zD,zE,zF,zG]
    refine qcP rfl rfl (Mul_c Bw.up Bw.up) ?_
    simp only [ev,zD,zE,zF,zG]
    refine qcP rfl rfl (mFrac_c Bw.up Bw.up (by have:=mt isign_zero_iff.2 hV; omega)) (q_val (r_indexAddrA Tryz.underlying49 cells_34 rfl rfl (by decide) (by decide) rfl) (q_nil ?_))
    clear m; intro u m
    simp only [ev,zD,zE,zF,zG]
    refine mstoreA m 0 rfl rfl rfl cells_34 (leT rfl) rfl ?_
    clear m; intro u m; simp only [over,zH,zI,zJ,zK,zL,zM,zN,zO,zP,zF,zG,Nat.reduceAdd] at m
    refine n_nil (k90 _ _ ?_)
    refine wp_region_lit (n_val (r_add (m:=2) (n:=1) (r:=3) rfl rfl (by decide)) (n_val (r_move) (n_nil (then_rounds (c_seq fun K94 k94=>wp_region_lit (n_val (r_lssF (m:=3) (n:=3) rfl rfl (by decide)) (n_nil (k94 _ _ ?_))))))))
    refine c_seq fun K95 k95=>c_no rfl (wp_exit (k74 _ _ ?_))
    refine c_seq fun K96 k96=>wp_region_lit ?_
    simp only [ev,zD,zE,zF,zG]
    refine n_load rfl ((m.b 0 rfl).full agg_49 cells_49) ?_
    simp only [ev,zD,zE,zF,zG]
    refine n_val (r_move) ?_
    simp only [ev,zD,zE,zF,zG]
    refine mstoreA m 3 rfl rfl rfl cells_49 (leT rfl) rfl ?_
    clear m; intro u m; simp only [over,zH,zI,zJ,zK,zL,zM,zN,zO,zP,zF,zG,Nat.reduceAdd] at m
    refine n_val (r_assign) (n_nil (k96 _ _ ?_))
    refine wp_ret ?_
    simp only [ev,zD,zE,zF,zG]
    try simp only [Exit.inBlock,Exit.then,if_true]
    refine fin2 rfl ⟨_,rfl,((m.b 3 rfl).full agg_49 cells_49)⟩ rfl ?_
    try simp only [zD,zE]
    exact ⟨_,rfl,m.ext,by first | (simp only [cq,if_neg hV0,decide_eq_true hV0]; rfl) | (simp only [cq,if_pos hV0,decide_eq_false (not_not_intro hV0)]; rfl)⟩
   ·
    rw [decide_eq_false hV]
    have hV0:=isign_zero_iff.1 (Decidable.of_not_not hV)
    refine wp_region_lit (malloc m zero_49 rfl ?_)
    clear m; intro g4 u m
    refine n_nil (k73 _ _ ?_)
    refine c_seq fun K97 k97=>c_seq fun K98 k98=>wp_region_lit (n_val (r_move) (n_nil (k98 _ _ ?_)))
    refine wp_block (wp_loop_rounds 4 (rounds_step (c_seq fun K99 k99=>wp_region_lit (n_val (r_lssT (m:=0) (n:=3) rfl rfl (by decide)) (n_nil (k99 _ _ ?_))))))
    refine c_seq fun K100 k100=>c_yes rfl (wp_skip (k100 _ _ ?_))
    refine c_seq fun K101 k101=>wp_block (c_seq fun K102 k102=>wp_region_lit (n_val (r_move) ?_))
    simp only [ev,zD,zE,zF,zG]
    refine n_val (r_assign) (n_nil (k102 _ _ ?_))
    refine c_seq fun K103 k103=>wp_region_lit (n_val (r_move) (n_val (r_build_32_) ?_))
    simp only [ev,zD,zE,zF,zG]
    refine mcallP m rfl rfl (whole0_c) ?_
    clear m; intro u m
    refine n_val (r_indexAddrA Tryz.underlying49 cells_34 rfl rfl (by decide) (by decide) rfl) ?_
    simp only [ev,zD,zE,zF,zG]
    refine mstoreA m 0 rfl rfl rfl cells_34 (leT rfl) rfl ?_
    clear m; intro u m; simp only [over,zH,zI,zJ,zK,zL,zM,zN,zO,zP,zF,zG,Nat.reduceAdd] at m
    refine n_nil (k103 _ _ ?_)
    refine c_seq fun K104 k104=>wp_region_lit (n_val (r_move) (n_nil (k104 _ _ ?_)))
    refine c_no rfl (wp_skip (k101 _ _ ?_))
    refine wp_region_lit (n_val (r_add (m:=0) (n:=1) (r:=1) rfl rfl (by decide)) (n_val (r_move) (n_nil (then_rounds (c_seq fun K105 k105=>wp_region_lit (n_val (r_lssT (m:=1) (n:=3) rfl rfl (by decide)) ?_))))))
    simp only [ev,zD,zE,zF,zG]
    refine n_nil (k105 _ _ ?_)
    refine c_seq fun K106 k106=>c_yes rfl (wp_skip (k106 _ _ ?_))
    refine c_seq fun K107 k107=>wp_block (c_seq fun K108 k108=>wp_region_lit (n_val (r_move) (n_val (r_assign) (n_nil (k108 _ _ ?_)))))
    refine c_seq fun K109 k109=>wp_region_lit (n_val (r_move) (n_val (r_build_32_) ?_))
    simp only [ev,zD,zE,zF,zG]
    refine mcallP m rfl rfl (whole0_c) ?_
    clear m; intro u m
    refine n_val (r_indexAddrA Tryz.underlying49 cells_34 rfl rfl (by decide) (by decide) rfl) ?_
    simp only [ev,zD,zE,zF,zG]
    refine mstoreA m 0 rfl rfl rfl cells_34 (leT rfl) rfl ?_
    clear m; intro u m; simp only [over,zH,zI,zJ,zK,zL,zM,zN,zO,zP,zF,zG,Nat.reduceAdd] at m
    refine n_nil (k109 _ _ ?_)
    refine c_seq fun K110 k110=>wp_region_lit (n_val (r_move) (n_nil (k110 _ _ ?_)))
    refine c_no rfl (wp_skip (k107 _ _ ?_))
    refine wp_region_lit (n_val (r_add (m:=1) (n:=1) (r:=2) rfl rfl (by decide)) (n_val (r_move) (n_nil (then_rounds (c_seq fun K111 k111=>wp_region_lit (n_val (r_lssT (m:=2) (n:=3) rfl rfl (by decide)) ?_))))))
    simp only [ev,zD,zE,zF,zG]
    refine n_nil (k111 _ _ ?_)
    refine c_seq fun K112 k112=>c_yes rfl (wp_skip (k112 _ _ ?_))
    refine c_seq fun K113 k113=>wp_block (c_seq fun K114 k114=>wp_region_lit (n_val (r_move) (n_val (r_assign) (n_nil (k114 _ _ ?_)))))
    refine c_seq fun K115 k115=>wp_region_lit (n_val (r_move) (n_val (r_build_32_) ?_))
    simp only [ev,zD,zE,zF,zG]
    refine mcallP m rfl rfl (whole0_c) ?_
    clear m; intro u m
    refine n_val (r_indexAddrA Tryz.underlying49 cells_34 rfl rfl (by decide) (by decide) rfl) ?_
    simp only [ev,zD,zE,zF,zG]
    refine mstoreA m 0 rfl rfl rfl cells_34 (leT rfl) rfl ?_
    clear m; intro u m; simp only [over,zH,zI,zJ,zK,zL,zM,zN,zO,zP,zF,zG,Nat.reduceAdd] at m
    refine n_nil (k115 _ _ ?_)
    refine c_seq fun K116 k116=>wp_region_lit (n_val (r_move) (n_nil (k116 _ _ ?_)))
    refine c_no rfl (wp_skip (k113 _ _ ?_))
    refine wp_region_lit (n_val (r_add (m:=2) (n:=1) (r:=3) rfl rfl (by decide)) (n_val (r_move) (n_nil (then_rounds (c_seq fun K117 k117=>wp_region_lit (n_val (r_lssF (m:=3) (n:=3) rfl rfl (by decide)) ?_))))))
    simp only [ev,zD,zE,zF,zG]
    refine n_nil (k117 _ _ ?_)
    refine c_seq fun K118 k118=>c_no rfl (wp_exit (k97 _ _ ?_))
    refine c_seq fun K119 k119=>wp_region_lit (n_load rfl ((m.b 0 rfl).full agg_49 cells_49) ?_)
    simp only [ev,zD,zE,zF,zG]
    refine n_val (r_move) ?_
    simp only [ev,zD,zE,zF,zG]
    refine mstoreA m 3 rfl rfl rfl cells_49 (leT rfl) rfl ?_
    clear m; intro u m; simp only [over,zH,zI,zJ,zK,zL,zM,zN,zO,zP,zF,zG,Nat.reduceAdd] at m
    refine n_val (r_assign) (n_nil (k119 _ _ ?_))
    refine wp_ret ?_
    simp only [ev,zD,zE,zF,zG]
    try simp only [Exit.inBlock,Exit.then,if_true]
    refine fin2 rfl ⟨_,rfl,((m.b 3 rfl).full agg_49 cells_49)⟩ rfl ?_
    try simp only [zD,zE]
    exact ⟨_,rfl,m.ext,by first | (simp only [cq,if_neg hV0,decide_eq_true hV0]; rfl) | (simp only [cq,if_pos hV0,decide_eq_false (not_not_intro hV0)]; rfl)⟩
end Go.Proofs.YtmcgcnpgkkfkoaaGreatDoor
namespace Go.Proofs.YtmcgcnpgkkfkoaaGreatDoor
open Go.RowKit Go.Lith
set_option maxRecDepth 100000
attribute [local irreducible] wpList wpQuiet wpMix wpMixH wpTree Code.wp
end Go.Proofs.YtmcgcnpgkkfkoaaGreatDoor
namespace Go.Proofs.YtmcgcnpgkkfkoaaGreatDoor
open Go.RowKit Go.Lith
set_option maxRecDepth 100000
attribute [local irreducible] wpList wpQuiet wpMix wpMixH wpTree Code.wp
end Go.Proofs.YtmcgcnpgkkfkoaaGreatDoor
namespace Go.Proofs.YtmcgcnpgkkfkoaaGreatDoor
open Go.RowKit Go.Lith
set_option maxRecDepth 100000
attribute [local irreducible] wpList wpQuiet wpMix wpMixH wpTree Code.wp
end Go.Proofs.YtmcgcnpgkkfkoaaGreatDoor
namespace Go.Proofs.YtmcgcnpgkkfkoaaGreatDoor
open Go.RowKit Go.Lith
set_option maxRecDepth 100000
attribute [local irreducible] wpList wpQuiet wpMix wpMixH wpTree Code.wp
instance : Iw 0:=⟨by unfold I64; decide⟩
instance : Iw 2:=⟨by unfold I64; decide⟩
instance : Iw 5:=⟨by unfold I64; decide⟩
instance : Iw 9:=⟨by unfold I64; decide⟩
instance : Iw 16:=⟨by unfold I64; decide⟩
instance : Iw 32:=⟨by unfold I64; decide⟩
instance : Iw (-1):=⟨by unfold I64; decide⟩
theorem lfrac_c {n d : Int} [Iw n] [Iw d] : Pure Tryz.prog 24 [.int .i64 n,.int .i64 d] (Qc n d):=by
 intro w
 refine ⟨en_24,?_⟩
 have m:=Mem.refl w
 go_enter Tryz.func24,Tryz.ntmps24
 refine c_seq fun K1 k1=>wp_region_lit (malloc m zero_34 rfl ?_)
 clear m; intro g1 u m
 refine n_nil (k1 _ _ ?_)
 refine c_seq fun K2 k2=>wp_region_lit (n_val (r_move) ?_)
 simp only [ev,zD,zE,zF,zG]
 refine mcallP m rfl rfl (rFrom_c Iw.h) ?_
 clear m; intro u m
 refine n_val (r_move) ?_
 simp only [ev,zD,zE,zF,zG]
 refine mcallP m rfl rfl (rFrom_c Iw.h) ?_
 clear m; intro u m
 refine n_val (r_build_34_0_1 rfl rfl) ?_
 simp only [ev,zD,zE,zF,zG]
 refine mstoreA m 0 rfl rfl rfl cells_34 (leT rfl) rfl ?_
 clear m; intro u m; simp only [over,zH,zI,zJ,zK,zL,zM,zN,zO,zP,zF,zG,Nat.reduceAdd] at m
 refine n_nil (k2 _ _ ?_)
 refine wp_ret ?_
 try simp only [Exit.inBlock,Exit.then,if_true]
 refine fin1 rfl ⟨_,rfl,((m.b 0 rfl).full agg_34 cells_34)⟩ ?_
 try simp only [zD,zE]
 exact ⟨_,rfl,m.ext,rfl⟩
theorem far_c {x : P3} {t : T3} [I3 x] [IT t] {k : Int} [Iw k] (h : triq x t = (k : Rat)) : Pure Tryz.prog 39 [pt x,tr t,.int .i64 k] (.bool true):=by
 intro w
 refine ⟨en_39,?_⟩
 have m:=Mem.refl w
 go_enter Tryz.func39,Tryz.ntmps39
 refine c_seq fun K1 k1=>wp_region_lit (mboxA m rfl ?_)
 clear m; intro g1 u m
 simp only [ev,zD,zE,zF,zG]
 refine mboxA m rfl ?_
 clear m; intro g2 u m
 refine n_val (r_assign) (n_nil (k1 _ _ ?_))
 refine c_seq fun K2 k2=>wp_region_lit ?_
 simp only [ev,zD,zE,zF,zG]
 refine n_load rfl ((m.b 1 rfl).full agg_28 cells_28) ?_
 simp only [ev,zD,zE,zF,zG]
 refine n_load rfl ((m.b 0 rfl).full agg_59 cells_59) ?_
 simp only [ev,zD,zE,zF,zG]
 refine n_bs_24_1 rfl ?_
 intro u g3 e hg hB; replace m:=m.newB e hg hB; clear e hg hB
 simp only [ev,zD,zE,zF,zG]
 refine mcall m rfl rfl (Far2_c (ts:=[t]) _ (TrisAt.one (m.b 0 rfl)) (by decide)) ?_
 clear m; rintro v u m rfl
 simp only [ev,zD,zE,zF,zG]
 rw [show farq x [t] = (k : Rat) from h,show decide ((0 : Int) < ((1 : Nat) : Int)) = true from rfl]
 refine n_val (r_move) (n_val (r_extract rfl rfl) (n_val (r_extract rfl rfl) ?_))
 simp only [ev,zD,zE,zF,zG]
 refine malloc m zero_34 rfl ?_
 clear m; intro g4 u m
 simp only [ev,zD,zE,zF,zG]
 refine mstoreA m 0 rfl rfl rfl cells_34 (leT rfl) rfl ?_
 clear m; intro u m; simp only [over,zH,zI,zJ,zK,zL,zM,zN,zO,zP,zF,zG,Nat.reduceAdd] at m
 refine n_val (r_assign) (n_nil (k2 _ _ ?_))
 refine c_seq fun K3 k3=>?_
 simp only [ev,zD,zE,zF,zG]
 refine mq m follows_mixed (by kernel_rfl) (q_val (r_move) (q_val (r_move) (q_want rfl ?_)))
 simp only [ev,zD,zE,zF,zG]
 refine ql rfl (fun u m=>((m.b 0 rfl).full agg_34 cells_34)) ?_
 simp only [ev,zD,zE,zF,zG]
 refine q_want rfl (q_val (r_move) (q_want rfl ?_))
 simp only [ev,zD,zE,zF,zG]
 refine qcP rfl rfl (lfrac_c) (q_want rfl (q_val (r_as (eq_eql_34 rfl rfl) (bool_as (decide_eq_true ⟨rfl,rfl,rfl,rfl⟩))) (q_val (r_pickT rfl) (q_val (r_assign) ?_))))
 simp only [ev,zD,zE,zF,zG]
 refine q_nil ?_
 clear m; intro u m
 refine k3 _ _ ?_
 refine wp_ret ?_
 try simp only [Exit.inBlock,Exit.then,if_true]
 refine fin1 rfl rfl ?_
 try simp only [zD,zE]
 exact ⟨_,rfl,m.ext,rfl⟩
def T0 : T3:=⟨⟨0,0,0⟩,⟨4,0,0⟩,⟨0,4,0⟩⟩
instance : IT T0:=inferInstanceAs (IT ⟨⟨0,0,0⟩,⟨4,0,0⟩,⟨0,4,0⟩⟩)
def T1 : T3:=⟨⟨0,0,0⟩,⟨1,0,0⟩,⟨0,1,1⟩⟩
instance : IT T1:=inferInstanceAs (IT ⟨⟨0,0,0⟩,⟨1,0,0⟩,⟨0,1,1⟩⟩)
def tet : List T3:=[⟨⟨0,0,0⟩,⟨0,4,0⟩,⟨4,0,0⟩⟩,⟨⟨0,0,0⟩,⟨4,0,0⟩,⟨0,0,4⟩⟩,⟨⟨4,0,0⟩,⟨0,4,0⟩,⟨0,0,4⟩⟩,⟨⟨0,4,0⟩,⟨0,0,0⟩,⟨0,0,4⟩⟩]
theorem tet_it : ∀ t ∈ tet,IT t:=fun t ht=>by
 simp only [tet,List.mem_cons,List.not_mem_nil,or_false] at ht
 rcases ht with rfl | rfl | rfl | rfl <;> infer_instance
theorem isq {n r : Nat} (h1 : r * r ≤ n) (h2 : n < (r + 1) * (r + 1)) : isqrt n = r:=(isqrt_unique h1 h2).symm
theorem low0 : sumT lowA [T0] = 16:=by rw [sumT_one]; show ((isqrt 256 : Nat) : Int) = 16; rw [isq (r:=16) (by decide) (by decide)]; rfl
theorem high0 : sumT highA [T0] = 16:=by
 have h : lowA T0 = 16:=by have:=low0; rwa [sumT_one] at this
 rw [sumT_one,highA,h]; rfl
theorem low1 : sumT lowA [T1] = 1:=by rw [sumT_one]; show ((isqrt 2 : Nat) : Int) = 1; rw [isq (r:=1) (by decide) (by decide)]; rfl
theorem high1 : sumT highA [T1] = 2:=by
 have h : lowA T1 = 1:=by have:=low1; rwa [sumT_one] at this
 rw [sumT_one,highA,h]; rfl
theorem tet_vol : sumT det tet = 64:=by decide +kernel
theorem tet_x : sumT (mom P3.x) tet = 256:=by decide +kernel
theorem tet_y : sumT (mom P3.y) tet = 256:=by decide +kernel
theorem tet_z : sumT (mom P3.z) tet = 256:=by decide +kernel
theorem cq_one : cq 256 64 = 1:=by decide +kernel
theorem sanity_c  : Pure Tryz.prog 10 [] (.bool true):=by
 intro w
 refine ⟨en_10,?_⟩
 have m:=Mem.refl w
 go_enter Tryz.func10,Tryz.ntmps10
 refine c_seq fun K1 k1=>wp_region_lit (n_val (r_assign) (n_nil (k1 _ _ ?_)))
 refine c_seq fun K2 k2=>wp_region_lit (n_val (r_build_28_) ?_)
 simp only [ev,zD,zE,zF,zG]
 refine malloc m zero_28 rfl ?_
 clear m; intro g1 u m
 simp only [ev,zD,zE,zF,zG]
 refine mstoreA m 0 rfl rfl rfl cells_28 (leT rfl) rfl ?_
 clear m; intro u m; simp only [over,zH,zI,zJ,zK,zL,zM,zN,zO,zP,zF,zG,Nat.reduceAdd] at m
 refine n_nil (k2 _ _ ?_)
 refine c_seq fun K3 k3=>wp_region_lit (n_val (r_build_28_0 rfl) ?_)
 simp only [ev,zD,zE,zF,zG]
 refine malloc m zero_28 rfl ?_
 clear m; intro g2 u m
 simp only [ev,zD,zE,zF,zG]
 refine mstoreA m 0 rfl rfl rfl cells_28 (leT rfl) rfl ?_
 clear m; intro u m; simp only [over,zH,zI,zJ,zK,zL,zM,zN,zO,zP,zF,zG,Nat.reduceAdd] at m
 refine n_nil (k3 _ _ ?_)
 refine c_seq fun K4 k4=>wp_region_lit (n_val (r_build_28_1 rfl) ?_)
 simp only [ev,zD,zE,zF,zG]
 refine malloc m zero_28 rfl ?_
 clear m; intro g3 u m
 simp only [ev,zD,zE,zF,zG]
 refine mstoreA m 0 rfl rfl rfl cells_28 (leT rfl) rfl ?_
 clear m; intro u m; simp only [over,zH,zI,zJ,zK,zL,zM,zN,zO,zP,zF,zG,Nat.reduceAdd] at m
 refine n_nil (k4 _ _ ?_)
 refine c_seq fun K5 k5=>wp_region_lit (n_val (r_build_28_2 rfl) ?_)
 simp only [ev,zD,zE,zF,zG]
 refine malloc m zero_28 rfl ?_
 clear m; intro g4 u m
 simp only [ev,zD,zE,zF,zG]
 refine mstoreA m 0 rfl rfl rfl cells_28 (leT rfl) rfl ?_
 clear m; intro u m; simp only [over,zH,zI,zJ,zK,zL,zM,zN,zO,zP,zF,zG,Nat.reduceAdd] at m
 refine n_nil (k5 _ _ ?_)
 refine c_seq fun K6 k6=>wp_region_lit (n_load rfl ((m.b 3 rfl).full agg_28 cells_28) ?_)
 simp only [ev,zD,zE,zF,zG]
 refine n_load rfl ((m.b 2 rfl).full agg_28 cells_28) ?_
 simp only [ev,zD,zE,zF,zG]
 refine n_load rfl ((m.b 1 rfl).full agg_28 cells_28) ?_
 simp only [ev,zD,zE,zF,zG]
 refine n_val (r_build_59_0_1_2 rfl rfl rfl) ?_
 simp only [ev,zD,zE,zF,zG]
 refine malloc m zero_59 rfl ?_
 clear m; intro g5 u m
 simp only [ev,zD,zE,zF,zG]
 refine mstoreA m 0 rfl rfl rfl cells_59 (leT rfl) rfl ?_
 clear m; intro u m; simp only [over,zH,zI,zJ,zK,zL,zM,zN,zO,zP,zF,zG,Nat.reduceAdd] at m
 refine n_nil (k6 _ _ ?_)
 refine c_seq fun K7 k7=>wp_region_lit (n_load rfl ((m.b 4 rfl).full agg_28 cells_28) ?_)
 simp only [ev,zD,zE,zF,zG]
 refine n_load rfl ((m.b 2 rfl).full agg_28 cells_28) ?_
 simp only [ev,zD,zE,zF,zG]
 refine n_load rfl ((m.b 3 rfl).full agg_28 cells_28) ?_
 simp only [ev,zD,zE,zF,zG]
 refine n_val (r_build_59_0_1_2 rfl rfl rfl) ?_
 simp only [ev,zD,zE,zF,zG]
 refine n_load rfl ((m.b 4 rfl).full agg_28 cells_28) ?_
 simp only [ev,zD,zE,zF,zG]
 refine n_load rfl ((m.b 3 rfl).full agg_28 cells_28) ?_
 simp only [ev,zD,zE,zF,zG]
 refine n_load rfl ((m.b 1 rfl).full agg_28 cells_28) ?_
 simp only [ev,zD,zE,zF,zG]
 refine n_val (r_build_59_0_1_2 rfl rfl rfl) ?_
 simp only [ev,zD,zE,zF,zG]
 refine n_load rfl ((m.b 3 rfl).full agg_28 cells_28) ?_
 simp only [ev,zD,zE,zF,zG]
 refine n_load rfl ((m.b 2 rfl).full agg_28 cells_28) ?_
 simp only [ev,zD,zE,zF,zG]
 refine n_load rfl ((m.b 1 rfl).full agg_28 cells_28) ?_
 simp only [ev,zD,zE,zF,zG]
 refine n_val (r_build_59_0_1_2 rfl rfl rfl) ?_
 simp only [ev,zD,zE,zF,zG]
 refine n_load rfl ((m.b 2 rfl).full agg_28 cells_28) ?_
 simp only [ev,zD,zE,zF,zG]
 refine n_load rfl ((m.b 4 rfl).full agg_28 cells_28) ?_
 simp only [ev,zD,zE,zF,zG]
 refine n_load rfl ((m.b 1 rfl).full agg_28 cells_28) ?_
 simp only [ev,zD,zE,zF,zG]
 refine n_val (r_build_59_0_1_2 rfl rfl rfl) ?_
 simp only [ev,zD,zE,zF,zG]
 refine n_bs_24_4 rfl rfl rfl rfl ?_
 intro u g6 e hg hB; replace m:=m.newB e hg hB; clear e hg hB
 refine n_val (r_assign) (n_nil (k7 _ _ ?_))
 refine c_seq fun K8 k8=>wp_region_lit (n_val (r_build_28_0_1_2 rfl rfl rfl) ?_)
 simp only [ev,zD,zE,zF,zG]
 refine n_load rfl ((m.b 1 rfl).full agg_59 cells_59) ?_
 simp only [ev,zD,zE,zF,zG]
 refine mcallP m rfl rfl (far_c (x:=⟨1,1,3⟩) (t:=⟨⟨0,0,0⟩,⟨4,0,0⟩,⟨0,4,0⟩⟩) (k:=9) (by decide +kernel)) ?_
 clear m; intro u m
 refine n_val (r_move) (n_want rfl (n_val (r_build_28_0_1 rfl rfl) (n_want rfl ?_)))
 simp only [ev,zD,zE,zF,zG]
 refine n_load rfl ((m.b 1 rfl).full agg_59 cells_59) ?_
 simp only [ev,zD,zE,zF,zG]
 refine n_want rfl (mcallP m rfl rfl (far_c (x:=⟨5,-1,0⟩) (t:=⟨⟨0,0,0⟩,⟨4,0,0⟩,⟨0,4,0⟩⟩) (k:=2) (by decide +kernel)) ?_)
 clear m; intro u m
 refine n_val (r_pickT rfl) (n_val (r_move) (n_want rfl (n_val (r_build_28_0_1 rfl rfl) ?_)))
 simp only [ev,zD,zE,zF,zG]
 refine n_want rfl (n_load rfl ((m.b 1 rfl).full agg_59 cells_59) ?_)
 simp only [ev,zD,zE,zF,zG]
 refine n_want rfl (mcallP m rfl rfl (far_c (x:=⟨3,3,0⟩) (t:=⟨⟨0,0,0⟩,⟨4,0,0⟩,⟨0,4,0⟩⟩) (k:=2) (by decide +kernel)) ?_)
 clear m; intro u m
 refine n_val (r_pickT rfl) (n_val (r_assign) (n_nil (k8 _ _ ?_)))
 refine c_seq fun K9 k9=>wp_region_lit (n_val (r_build_28_2 rfl) ?_)
 simp only [ev,zD,zE,zF,zG]
 refine n_val (r_build_28_0_1 rfl rfl) (n_val (r_build_28_0_1 rfl rfl) (n_val (r_build_28_0_1 rfl rfl) (n_val (r_build_59_0_1_2 rfl rfl rfl) ?_)))
 simp only [ev,zD,zE,zF,zG]
 refine mcallP m rfl rfl (far_c (x:=⟨0,0,1⟩) (t:=⟨⟨1,1,0⟩,⟨3,1,0⟩,⟨2,1,0⟩⟩) (k:=3) (by decide +kernel)) ?_
 clear m; intro u m
 refine n_val (r_assign) (n_nil (k9 _ _ ?_))
 refine c_seq fun K10 k10=>wp_region_lit ?_
 simp only [ev,zD,zE,zF,zG]
 refine n_load rfl ((m.b 1 rfl).full agg_59 cells_59) ?_
 simp only [ev,zD,zE,zF,zG]
 refine n_bs_24_1 rfl ?_
 intro u g7 e hg hB; replace m:=m.newB e hg hB; clear e hg hB
 simp only [ev,zD,zE,zF,zG]
 refine mcall m rfl rfl (Area_c (ts:=[T0]) _ (TrisAt.one (t:=T0) (m.b 0 rfl)) (by decide)) ?_
 clear m; rintro v u m rfl
 simp only [ev,zD,zE,zF,zG]
 rw [low0,high0]
 refine n_val (r_move) (n_val (r_extract rfl rfl) (n_val (r_extract rfl rfl) ?_))
 simp only [ev,zD,zE,zF,zG]
 refine malloc m zero_32 rfl ?_
 clear m; intro g8 u m
 simp only [ev,zD,zE,zF,zG]
 refine malloc m zero_32 rfl ?_
 clear m; intro g9 u m
 simp only [ev,zD,zE,zF,zG]
 refine mstoreA m 1 rfl rfl rfl cells_32 (leT rfl) rfl ?_
 clear m; intro u m; simp only [over,zH,zI,zJ,zK,zL,zM,zN,zO,zP,zF,zG,Nat.reduceAdd] at m
 refine mstoreA m 0 rfl rfl rfl cells_32 (leT rfl) rfl ?_
 clear m; intro u m; simp only [over,zH,zI,zJ,zK,zL,zM,zN,zO,zP,zF,zG,Nat.reduceAdd] at m
 refine n_nil (k10 _ _ ?_)
 refine c_seq fun K11 k11=>wp_region_lit (n_load rfl ((m.b 8 rfl).full agg_28 cells_28) ?_)
 simp only [ev,zD,zE,zF,zG]
 refine n_val (r_build_28_0 rfl) (n_val (r_build_28_1_2 rfl rfl) (n_val (r_build_59_0_1_2 rfl rfl rfl) ?_))
 simp only [ev,zD,zE,zF,zG]
 refine n_bs_24_1 rfl ?_
 intro u g10 e hg hB; replace m:=m.newB e hg hB; clear e hg hB
 simp only [ev,zD,zE,zF,zG]
 refine mcall m rfl rfl (Area_c (ts:=[T1]) _ (TrisAt.one (t:=T1) (m.b 0 rfl)) (by decide)) ?_
 clear m; rintro v u m rfl
 simp only [ev,zD,zE,zF,zG]
 rw [low1,high1]
 refine n_val (r_move) (n_val (r_extract rfl rfl) (n_val (r_extract rfl rfl) ?_))
 simp only [ev,zD,zE,zF,zG]
 refine malloc m zero_32 rfl ?_
 clear m; intro g11 u m
 simp only [ev,zD,zE,zF,zG]
 refine malloc m zero_32 rfl ?_
 clear m; intro g12 u m
 simp only [ev,zD,zE,zF,zG]
 refine mstoreA m 1 rfl rfl rfl cells_32 (leT rfl) rfl ?_
 clear m; intro u m; simp only [over,zH,zI,zJ,zK,zL,zM,zN,zO,zP,zF,zG,Nat.reduceAdd] at m
 refine mstoreA m 0 rfl rfl rfl cells_32 (leT rfl) rfl ?_
 clear m; intro u m; simp only [over,zH,zI,zJ,zK,zL,zM,zN,zO,zP,zF,zG,Nat.reduceAdd] at m
 refine n_nil (k11 _ _ ?_)
 refine c_seq fun K12 k12=>wp_region_lit (n_val (r_move) ?_)
 simp only [ev,zD,zE,zF,zG]
 refine mcall m rfl rfl (Centre_c (ts:=tet) _ (TrisAt.of_cells (ts:=tet) (m.b 6 rfl) rfl rfl tet_it) (by decide)) ?_
 clear m; rintro v u m rfl
 simp only [ev,zD,zE,zF,zG]
 rw [tet_vol,tet_x,tet_y,tet_z,cq_one,show decide ((64 : Int) ≠ 0) = true from rfl]
 refine n_val (r_move) (n_val (r_extract rfl rfl) (n_val (r_extract rfl rfl) ?_))
 simp only [ev,zD,zE,zF,zG]
 refine malloc m zero_49 rfl ?_
 clear m; intro g13 u m
 simp only [ev,zD,zE,zF,zG]
 refine mstoreA m 0 rfl rfl rfl cells_49 (leT rfl) rfl ?_
 clear m; intro u m; simp only [over,zH,zI,zJ,zK,zL,zM,zN,zO,zP,zF,zG,Nat.reduceAdd] at m
 refine n_val (r_assign) (n_nil (k12 _ _ ?_))
 refine c_seq fun K13 k13=>?_
 simp only [ev,zD,zE,zF,zG]
 refine mq m follows_mixed (by kernel_rfl) (ql rfl (fun u m=>((m.b 5 rfl).full agg_32 cells_32)) ?_)
 simp only [ev,zD,zE,zF,zG]
 refine qcP rfl rfl (rFrom_c Iw.h) (q_val (r_as (eq_eql_32 rfl rfl) (bool_as (decide_eq_true ⟨rfl,rfl⟩))) (q_val (r_move) (q_want rfl ?_)))
 simp only [ev,zD,zE,zF,zG]
 refine ql rfl (fun u m=>((m.b 4 rfl).full agg_32 cells_32)) ?_
 simp only [ev,zD,zE,zF,zG]
 refine q_want rfl (ql rfl (fun u m=>((m.b 5 rfl).full agg_32 cells_32)) ?_)
 simp only [ev,zD,zE,zF,zG]
 refine q_want rfl (q_val (r_as (eq_eql_32 rfl rfl) (bool_as (decide_eq_true ⟨rfl,rfl⟩))) (q_val (r_pickT rfl) (q_val (r_move) (q_want rfl ?_))))
 simp only [ev,zD,zE,zF,zG]
 refine ql rfl (fun u m=>((m.b 2 rfl).full agg_32 cells_32)) ?_
 simp only [ev,zD,zE,zF,zG]
 refine q_want rfl (qcP rfl rfl (rFrom_c Iw.h) (q_want rfl (q_val (r_as (eq_eql_32 rfl rfl) (bool_as (decide_eq_true ⟨rfl,rfl⟩))) (q_val (r_pickT rfl) (q_val (r_move) ?_)))))
 simp only [ev,zD,zE,zF,zG]
 refine q_want rfl (ql rfl (fun u m=>((m.b 1 rfl).full agg_32 cells_32)) ?_)
 simp only [ev,zD,zE,zF,zG]
 refine q_want rfl (qcP rfl rfl (rFrom_c Iw.h) (q_want rfl (q_val (r_as (eq_eql_32 rfl rfl) (bool_as (decide_eq_true ⟨rfl,rfl⟩))) (q_val (r_pickT rfl) (q_val (r_assign) ?_)))))
 simp only [ev,zD,zE,zF,zG]
 refine q_nil ?_
 clear m; intro u m
 refine k13 _ _ ?_
 refine c_seq fun K14 k14=>mq m follows_mixed (by kernel_rfl) (q_val (r_move) (q_val (r_move) (q_want rfl (q_val (r_move) (q_val (r_pickT rfl) ?_)))))
 simp only [ev,zD,zE,zF,zG]
 refine q_val (r_move) (q_want rfl (q_val (r_move) (q_val (r_pickT rfl) (q_val (r_move) ?_))))
 simp only [ev,zD,zE,zF,zG]
 refine q_want rfl (q_val (r_move) (q_val (r_pickT rfl) (q_val (r_move) (q_want rfl (q_val (r_move) ?_)))))
 simp only [ev,zD,zE,zF,zG]
 refine q_want rfl (qc rfl rfl (fun u m=>Volume_c (ts:=tet) _ (TrisAt.of_cells (ts:=tet) ((m.b 7 rfl)) rfl rfl tet_it) (by decide)) (q_want rfl ?_))
 simp only [ev,zD,zE,zF,zG]
 refine qcP rfl rfl (lfrac_c) (q_want rfl (q_val (r_as (eq_eql_34 rfl rfl) (bool_as (decide_eq_true ⟨rfl,rfl,rfl,rfl⟩))) (q_val (r_pickT rfl) (q_val (r_move) ?_))))
 simp only [ev,zD,zE,zF,zG]
 refine q_want rfl (ql rfl (fun u m=>((m.b 0 rfl).full agg_49 cells_49)) ?_)
 simp only [ev,zD,zE,zF,zG]
 refine q_want rfl (qcP rfl rfl (lfrac_c) (q_want rfl ?_))
 simp only [ev,zD,zE,zF,zG]
 refine qcP rfl rfl (lfrac_c) (q_want rfl ?_)
 simp only [ev,zD,zE,zF,zG]
 refine qcP rfl rfl (lfrac_c) (q_want rfl (q_val (r_build_49_0_1_2 rfl rfl rfl) (q_want rfl (q_val (r_as (eq_eql_49 rfl rfl) (bool_as (decide_eq_true ⟨rfl,rfl,rfl,rfl,rfl,rfl,rfl,rfl,rfl,rfl,rfl,rfl⟩))) (q_val (r_pickT rfl) ?_)))))
 simp only [ev,zD,zE,zF,zG]
 refine q_val (r_assign) (q_nil ?_)
 clear m; intro u m
 refine k14 _ _ ?_
 refine wp_ret ?_
 simp only [ev,zD,zE,zF,zG]
 try simp only [Exit.inBlock,Exit.then,if_true]
 refine fin1 rfl rfl ?_
 try simp only [zD,zE]
 exact ⟨_,rfl,m.ext,rfl⟩
end Go.Proofs.YtmcgcnpgkkfkoaaGreatDoor
namespace Go.Proofs.YtmcgcnpgkkfkoaaGreatDoor
open Go.RowKit Go.Lith
set_option maxRecDepth 100000
attribute [local irreducible] wpList wpQuiet wpMix wpMixH wpTree Code.wp
theorem den_ne (p : Rat) : (p.den : Int) ≠ 0:=Int.natCast_ne_zero.2 p.den_nz
theorem frac_add (p q : Rat) : Rat.divInt (p.num * (q.den : Int) + q.num * (p.den : Int)) ((p.den : Int) * (q.den : Int)) = p + q:=by
 rw [← Rat.divInt_add_divInt _ _ (den_ne p) (den_ne q),Rat.num_divInt_den,Rat.num_divInt_den]
theorem den_mul (p q : Rat) : (p.den : Int) * (q.den : Int) ≠ 0:=Int.mul_ne_zero (den_ne p) (den_ne q)
theorem bd_mul {a b c : Nat} {m n : Int} (x : Bd a m) (y : Bd b n) (h : a + b ≤ c:=by decide) : Bd c (m * n):=by
 haveI : Bw a m:=⟨x⟩
 haveI : Bw b n:=⟨y⟩
 have z : Bw (a + b) (m * n):=inferInstance
 exact z.h.mono h
theorem bd_add {a b c : Nat} {m n : Int} (x : Bd a m) (y : Bd b n) (h : max a b + 1 ≤ c:=by decide) : Bd c (m + n):=by
 haveI : Bw a m:=⟨x⟩
 haveI : Bw b n:=⟨y⟩
 have z : Bw (max a b + 1) (m + n):=inferInstance
 exact z.h.mono h
theorem AddFrac_c {p q : Rat} (hp : Bq 150000 p) (hq : Bq 150000 q) : Pure Tryz.prog 23 [Q p,Q q] (Q (p + q)):=by
 intro w
 refine ⟨en_23,?_⟩
 have m:=Mem.refl w
 go_enter Tryz.func23,Tryz.ntmps23
 refine c_seq fun K1 k1=>wp_region_lit (mboxA m rfl ?_)
 clear m; intro g1 u m
 simp only [ev,zD,zE,zF,zG]
 refine mboxA m rfl ?_
 clear m; intro g2 u m
 simp only [ev,zD,zE,zF,zG]
 refine malloc m zero_34 rfl ?_
 clear m; intro g3 u m
 refine n_nil (k1 _ _ ?_)
 refine c_seq fun K2 k2=>wp_region_lit ?_
 simp only [ev,zD,zE,zF,zG]
 refine n_load rfl ((m.b 2 rfl).full agg_34 cells_34) ?_
 simp only [ev,zD,zE,zF,zG]
 refine mcallP m rfl rfl (parts_c (q:=p) (hp.mono (by decide))) ?_
 clear m; intro u m
 refine n_val (r_move) (n_val (r_extract rfl rfl) (n_val (r_extract rfl rfl) ?_))
 simp only [ev,zD,zE,zF,zG]
 refine malloc m zero_32 rfl ?_
 clear m; intro g4 u m
 simp only [ev,zD,zE,zF,zG]
 refine malloc m zero_32 rfl ?_
 clear m; intro g5 u m
 simp only [ev,zD,zE,zF,zG]
 refine mstoreA m 1 rfl rfl rfl cells_32 (leT rfl) rfl ?_
 clear m; intro u m; simp only [over,zH,zI,zJ,zK,zL,zM,zN,zO,zP,zF,zG,Nat.reduceAdd] at m
 refine mstoreA m 0 rfl rfl rfl cells_32 (leT rfl) rfl ?_
 clear m; intro u m; simp only [over,zH,zI,zJ,zK,zL,zM,zN,zO,zP,zF,zG,Nat.reduceAdd] at m
 refine n_nil (k2 _ _ ?_)
 refine c_seq fun K3 k3=>wp_region_lit (n_load rfl ((m.b 3 rfl).full agg_34 cells_34) ?_)
 simp only [ev,zD,zE,zF,zG]
 refine mcallP m rfl rfl (parts_c (q:=q) (hq.mono (by decide))) ?_
 clear m; intro u m
 refine n_val (r_move) (n_val (r_extract rfl rfl) (n_val (r_extract rfl rfl) ?_))
 simp only [ev,zD,zE,zF,zG]
 refine malloc m zero_32 rfl ?_
 clear m; intro g6 u m
 simp only [ev,zD,zE,zF,zG]
 refine malloc m zero_32 rfl ?_
 clear m; intro g7 u m
 simp only [ev,zD,zE,zF,zG]
 refine mstoreA m 1 rfl rfl rfl cells_32 (leT rfl) rfl ?_
 clear m; intro u m; simp only [over,zH,zI,zJ,zK,zL,zM,zN,zO,zP,zF,zG,Nat.reduceAdd] at m
 refine mstoreA m 0 rfl rfl rfl cells_32 (leT rfl) rfl ?_
 clear m; intro u m; simp only [over,zH,zI,zJ,zK,zL,zM,zN,zO,zP,zF,zG,Nat.reduceAdd] at m
 refine n_nil (k3 _ _ ?_)
 refine c_seq fun K4 k4=>?_
 refine mtree m [true,true,true,true,true,true,true] (.take 0 (.take 1 (.take 3 (.take 4 (.take 7 (.take 8 (.two 2 (.two 5 (.two 6 (.two 9 (.two 10 (.take 11 (.take 12 (.take 13 (.one 14 (.one 15 (.take 16 .nil)))))) 14 (.one 10 (.take 11 (.take 12 (.take 13 (.one 15 (.take 16 .nil))))))) 14 (.one 9 (.one 10 (.take 11 (.take 12 (.take 13 (.one 15 (.take 16 .nil)))))))) 14 (.one 6 (.one 9 (.one 10 (.take 11 (.take 12 (.take 13 (.one 15 (.take 16 .nil))))))))) 14 (.one 5 (.one 6 (.one 9 (.one 10 (.take 11 (.take 12 (.take 13 (.one 15 (.take 16 .nil)))))))))) 14 (.one 2 (.one 5 (.one 6 (.one 9 (.one 10 (.take 11 (.take 12 (.take 13 (.one 15 (.take 16 .nil))))))))))))))))) follows_mixed (by kernel_rfl) (panic_put (fun _ _ _ _ _ h=>h)) ?_
 clear m; intro u m
 refine t_take (by simp only [zS,zT,zU,zV]; rfl) (h_load rfl (fun u m=>((m.b 3 rfl).full agg_32 cells_32)) ?_)
 simp only [ev,zD,zE,zF,zG]
 refine h_nil (t_take (by simp only [zS,zT,zU,zV]; rfl) (h_load rfl (fun u m=>((m.b 0 rfl).full agg_32 cells_32)) ?_))
 simp only [ev,zD,zE,zF,zG]
 refine h_nil (t_take (by simp only [zS,zT,zU,zV]; rfl) (h_load rfl (fun u m=>((m.b 1 rfl).full agg_32 cells_32)) ?_))
 simp only [ev,zD,zE,zF,zG]
 refine h_nil (t_take (by simp only [zS,zT,zU,zV]; rfl) (h_load rfl (fun u m=>((m.b 2 rfl).full agg_32 cells_32)) ?_))
 simp only [ev,zD,zE,zF,zG]
 refine h_nil (t_take (by simp only [zS,zT,zU,zV]; rfl) (h_load rfl (fun u m=>((m.b 2 rfl).full agg_32 cells_32)) ?_))
 simp only [ev,zD,zE,zF,zG]
 refine h_nil (t_take (by simp only [zS,zT,zU,zV]; rfl) (h_load rfl (fun u m=>((m.b 0 rfl).full agg_32 cells_32)) ?_))
 simp only [ev,zD,zE,zF,zG]
 refine h_nil ?_
 refine t_two (by simp only [zS,zT,zU,zV]; rfl) (by simp only [zS,zT,zU,zV]; rfl) ?_ ?_
 ·
  refine mcallP m rfl rfl (Mul_c (a:=p.num) (b:=(q.den : Int)) (hp.n.mono (by decide)) (hq.d.mono (by decide))) ?_
  clear m; intro u m
  refine n_nil ?_
  refine ⟨m,?_⟩
  simp only [ev,zD,zE,zF,zG]
  refine t_two (by simp only [zS,zT,zU,zV]; rfl) (by simp only [zS,zT,zU,zV]; rfl) ?_ ?_
  ·
   refine mcallP m rfl rfl (Mul_c (a:=q.num) (b:=(p.den : Int)) (hq.n.mono (by decide)) (hp.d.mono (by decide))) ?_
   clear m; intro u m
   refine n_nil ?_
   refine ⟨m,?_⟩
   simp only [ev,zD,zE,zF,zG]
   refine t_two (by simp only [zS,zT,zU,zV]; rfl) (by simp only [zS,zT,zU,zV]; rfl) ?_ ?_
   ·
    refine mcallP m rfl rfl (Add_c (a:=p.num * (q.den : Int)) (b:=q.num * (p.den : Int)) (bd_mul hp.n hq.d) (bd_mul hq.n hp.d)) ?_
    clear m; intro u m
    refine n_nil ?_
    refine ⟨m,?_⟩
    simp only [ev,zD,zE,zF,zG]
    refine t_two (by simp only [zS,zT,zU,zV]; rfl) (by simp only [zS,zT,zU,zV]; rfl) ?_ ?_
    ·
     refine mcallP m rfl rfl (Mul_c (a:=(p.den : Int)) (b:=(q.den : Int)) (hp.d.mono (by decide)) (hq.d.mono (by decide))) ?_
     clear m; intro u m
     refine n_nil ?_
     refine ⟨m,?_⟩
     simp only [ev,zD,zE,zF,zG]
     refine t_two (by simp only [zS,zT,zU,zV]; rfl) (by simp only [zS,zT,zU,zV]; rfl) ?_ ?_
     ·
      refine mcallP m rfl rfl (Frac_c (n:=p.num * (q.den : Int) + q.num * (p.den : Int)) (d:=(p.den : Int) * (q.den : Int)) (bd_add (bd_mul (c:=300000) hp.n hq.d) (bd_mul (c:=300000) hq.n hp.d)) (bd_mul hp.d hq.d) (den_mul p q)) ?_
      clear m; intro u m
      refine n_nil ?_
      refine ⟨m,?_⟩
      refine t_take (by simp only [zS,zT,zU,zV]; rfl) (h_val (r_move) (h_nil (t_take (by simp only [zS,zT,zU,zV]; rfl) (h_val (r_extract rfl rfl) (h_nil (t_take (by simp only [zS,zT,zU,zV]; rfl) (h_val (r_extract rfl rfl) ?_)))))))
      simp only [ev,zD,zE,zF,zG]
      refine h_nil (t_one (by simp only [zS,zT,zU,zV]; rfl) (malloc m zero_34 rfl ?_))
      clear m; intro g8 u m
      refine n_nil ?_
      refine ⟨m.sel [false,true,true,true,true,true,true,true],?_⟩
      refine t_one (by simp only [zS,zT,zU,zV]; rfl) ?_
      simp only [ev,zD,zE,zF,zG]
      refine mstoreA m 0 rfl rfl rfl cells_34 (leT rfl) rfl ?_
      clear m; intro u m; simp only [over,zH,zI,zJ,zK,zL,zM,zN,zO,zP,zF,zG,Nat.reduceAdd] at m
      refine n_nil ?_
      refine ⟨m.sel [false,true,true,true,true,true,true,true],?_⟩
      refine t_take (by simp only [zS,zT,zU,zV]; rfl) (h_val (r_assign) (h_nil (t_nil (k4 _ _ ?_))))
      refine c_seq fun K5 k5=>wp_region_lit ?_
      simp only [ev,zD,zE,zF,zG]
      refine n_load rfl ((m.b 0 rfl).full agg_34 cells_34) ?_
      simp only [ev,zD,zE,zF,zG]
      refine mstoreA m 5 rfl rfl rfl cells_34 (leT rfl) rfl ?_
      clear m; intro u m; simp only [over,zH,zI,zJ,zK,zL,zM,zN,zO,zP,zF,zG,Nat.reduceAdd] at m
      refine n_nil (k5 _ _ ?_)
      refine wp_ret ?_
      try simp only [Exit.inBlock,Exit.then,if_true]
      refine fin1 rfl ⟨_,rfl,((m.b 5 rfl).full agg_34 cells_34)⟩ ?_
      try simp only [zD,zE]
      exact ⟨_,rfl,m.ext,by rw [← frac_add]; rfl⟩
     ·
      refine malloc m zero_34 rfl ?_
      clear m; intro g8 u m
      refine n_nil ?_
      refine ⟨m.sel [false,true,true,true,true,true,true,true],?_⟩
      refine t_one (by simp only [zS,zT,zU,zV]; rfl) ?_
      simp only [ev,zD,zE,zF,zG]
      refine mcallP m rfl rfl (Frac_c (n:=p.num * (q.den : Int) + q.num * (p.den : Int)) (d:=(p.den : Int) * (q.den : Int)) (bd_add (bd_mul (c:=300000) hp.n hq.d) (bd_mul (c:=300000) hq.n hp.d)) (bd_mul hp.d hq.d) (den_mul p q)) ?_
      clear m; intro u m
      refine n_nil ?_
      refine ⟨m.sel [false,true,true,true,true,true,true,true],?_⟩
      refine t_take (by simp only [zS,zT,zU,zV]; rfl) (h_val (r_move) (h_nil (t_take (by simp only [zS,zT,zU,zV]; rfl) (h_val (r_extract rfl rfl) (h_nil (t_take (by simp only [zS,zT,zU,zV]; rfl) (h_val (r_extract rfl rfl) ?_)))))))
      simp only [ev,zD,zE,zF,zG]
      refine h_nil (t_one (by simp only [zS,zT,zU,zV]; rfl) (mstoreA m 0 rfl rfl rfl cells_34 (leT rfl) rfl ?_))
      clear m; intro u m; simp only [over,zH,zI,zJ,zK,zL,zM,zN,zO,zP,zF,zG,Nat.reduceAdd] at m
      refine n_nil ?_
      refine ⟨m.sel [false,true,true,true,true,true,true,true],?_⟩
      refine t_take (by simp only [zS,zT,zU,zV]; rfl) (h_val (r_assign) (h_nil (t_nil (k4 _ _ ?_))))
      refine c_seq fun K6 k6=>wp_region_lit ?_
      simp only [ev,zD,zE,zF,zG]
      refine n_load rfl ((m.b 0 rfl).full agg_34 cells_34) ?_
      simp only [ev,zD,zE,zF,zG]
      refine mstoreA m 5 rfl rfl rfl cells_34 (leT rfl) rfl ?_
      clear m; intro u m; simp only [over,zH,zI,zJ,zK,zL,zM,zN,zO,zP,zF,zG,Nat.reduceAdd] at m
      refine n_nil (k6 _ _ ?_)
      refine wp_ret ?_
      try simp only [Exit.inBlock,Exit.then,if_true]
      refine fin1 rfl ⟨_,rfl,((m.b 5 rfl).full agg_34 cells_34)⟩ ?_
      try simp only [zD,zE]
      exact ⟨_,rfl,m.ext,by rw [← frac_add]; rfl⟩
    ·
     refine malloc m zero_34 rfl ?_
     clear m; intro g8 u m
     refine n_nil ?_
     refine ⟨m.sel [false,true,true,true,true,true,true,true],?_⟩
     refine t_one (by simp only [zS,zT,zU,zV]; rfl) ?_
     simp only [ev,zD,zE,zF,zG]
     refine mcallP m rfl rfl (Mul_c (a:=(p.den : Int)) (b:=(q.den : Int)) (hp.d.mono (by decide)) (hq.d.mono (by decide))) ?_
     clear m; intro u m
     refine n_nil ?_
     refine ⟨m.sel [false,true,true,true,true,true,true,true],?_⟩
     refine t_one (by simp only [zS,zT,zU,zV]; rfl) ?_
     simp only [ev,zD,zE,zF,zG]
     refine mcallP m rfl rfl (Frac_c (n:=p.num * (q.den : Int) + q.num * (p.den : Int)) (d:=(p.den : Int) * (q.den : Int)) (bd_add (bd_mul (c:=300000) hp.n hq.d) (bd_mul (c:=300000) hq.n hp.d)) (bd_mul hp.d hq.d) (den_mul p q)) ?_
     clear m; intro u m
     refine n_nil ?_
     refine ⟨m.sel [false,true,true,true,true,true,true,true],?_⟩
     refine t_take (by simp only [zS,zT,zU,zV]; rfl) (h_val (r_move) (h_nil (t_take (by simp only [zS,zT,zU,zV]; rfl) (h_val (r_extract rfl rfl) (h_nil (t_take (by simp only [zS,zT,zU,zV]; rfl) (h_val (r_extract rfl rfl) ?_)))))))
     simp only [ev,zD,zE,zF,zG]
     refine h_nil (t_one (by simp only [zS,zT,zU,zV]; rfl) (mstoreA m 0 rfl rfl rfl cells_34 (leT rfl) rfl ?_))
     clear m; intro u m; simp only [over,zH,zI,zJ,zK,zL,zM,zN,zO,zP,zF,zG,Nat.reduceAdd] at m
     refine n_nil ?_
     refine ⟨m.sel [false,true,true,true,true,true,true,true],?_⟩
     refine t_take (by simp only [zS,zT,zU,zV]; rfl) (h_val (r_assign) (h_nil (t_nil (k4 _ _ ?_))))
     refine c_seq fun K7 k7=>wp_region_lit ?_
     simp only [ev,zD,zE,zF,zG]
     refine n_load rfl ((m.b 0 rfl).full agg_34 cells_34) ?_
     simp only [ev,zD,zE,zF,zG]
     refine mstoreA m 5 rfl rfl rfl cells_34 (leT rfl) rfl ?_
     clear m; intro u m; simp only [over,zH,zI,zJ,zK,zL,zM,zN,zO,zP,zF,zG,Nat.reduceAdd] at m
     refine n_nil (k7 _ _ ?_)
     refine wp_ret ?_
     try simp only [Exit.inBlock,Exit.then,if_true]
     refine fin1 rfl ⟨_,rfl,((m.b 5 rfl).full agg_34 cells_34)⟩ ?_
     try simp only [zD,zE]
     exact ⟨_,rfl,m.ext,by rw [← frac_add]; rfl⟩
   ·
    refine malloc m zero_34 rfl ?_
    clear m; intro g8 u m
    refine n_nil ?_
    refine ⟨m.sel [false,true,true,true,true,true,true,true],?_⟩
    refine t_one (by simp only [zS,zT,zU,zV]; rfl) ?_
    simp only [ev,zD,zE,zF,zG]
    refine mcallP m rfl rfl (Add_c (a:=p.num * (q.den : Int)) (b:=q.num * (p.den : Int)) (bd_mul hp.n hq.d) (bd_mul hq.n hp.d)) ?_
    clear m; intro u m
    refine n_nil ?_
    refine ⟨m.sel [false,true,true,true,true,true,true,true],?_⟩
    refine t_one (by simp only [zS,zT,zU,zV]; rfl) ?_
    simp only [ev,zD,zE,zF,zG]
    refine mcallP m rfl rfl (Mul_c (a:=(p.den : Int)) (b:=(q.den : Int)) (hp.d.mono (by decide)) (hq.d.mono (by decide))) ?_
    clear m; intro u m
    refine n_nil ?_
    refine ⟨m.sel [false,true,true,true,true,true,true,true],?_⟩
    refine t_one (by simp only [zS,zT,zU,zV]; rfl) ?_
    simp only [ev,zD,zE,zF,zG]
    refine mcallP m rfl rfl (Frac_c (n:=p.num * (q.den : Int) + q.num * (p.den : Int)) (d:=(p.den : Int) * (q.den : Int)) (bd_add (bd_mul (c:=300000) hp.n hq.d) (bd_mul (c:=300000) hq.n hp.d)) (bd_mul hp.d hq.d) (den_mul p q)) ?_
    clear m; intro u m
    refine n_nil ?_
    refine ⟨m.sel [false,true,true,true,true,true,true,true],?_⟩
    refine t_take (by simp only [zS,zT,zU,zV]; rfl) (h_val (r_move) (h_nil (t_take (by simp only [zS,zT,zU,zV]; rfl) (h_val (r_extract rfl rfl) (h_nil (t_take (by simp only [zS,zT,zU,zV]; rfl) (h_val (r_extract rfl rfl) ?_)))))))
    simp only [ev,zD,zE,zF,zG]
    refine h_nil (t_one (by simp only [zS,zT,zU,zV]; rfl) (mstoreA m 0 rfl rfl rfl cells_34 (leT rfl) rfl ?_))
    clear m; intro u m; simp only [over,zH,zI,zJ,zK,zL,zM,zN,zO,zP,zF,zG,Nat.reduceAdd] at m
    refine n_nil ?_
    refine ⟨m.sel [false,true,true,true,true,true,true,true],?_⟩
    refine t_take (by simp only [zS,zT,zU,zV]; rfl) (h_val (r_assign) (h_nil (t_nil (k4 _ _ ?_))))
    refine c_seq fun K8 k8=>wp_region_lit ?_
    simp only [ev,zD,zE,zF,zG]
    refine n_load rfl ((m.b 0 rfl).full agg_34 cells_34) ?_
    simp only [ev,zD,zE,zF,zG]
    refine mstoreA m 5 rfl rfl rfl cells_34 (leT rfl) rfl ?_
    clear m; intro u m; simp only [over,zH,zI,zJ,zK,zL,zM,zN,zO,zP,zF,zG,Nat.reduceAdd] at m
    refine n_nil (k8 _ _ ?_)
    refine wp_ret ?_
    try simp only [Exit.inBlock,Exit.then,if_true]
    refine fin1 rfl ⟨_,rfl,((m.b 5 rfl).full agg_34 cells_34)⟩ ?_
    try simp only [zD,zE]
    exact ⟨_,rfl,m.ext,by rw [← frac_add]; rfl⟩
  ·
   refine malloc m zero_34 rfl ?_
   clear m; intro g8 u m
   refine n_nil ?_
   refine ⟨m.sel [false,true,true,true,true,true,true,true],?_⟩
   refine t_one (by simp only [zS,zT,zU,zV]; rfl) ?_
   simp only [ev,zD,zE,zF,zG]
   refine mcallP m rfl rfl (Mul_c (a:=q.num) (b:=(p.den : Int)) (hq.n.mono (by decide)) (hp.d.mono (by decide))) ?_
   clear m; intro u m
   refine n_nil ?_
   refine ⟨m.sel [false,true,true,true,true,true,true,true],?_⟩
   refine t_one (by simp only [zS,zT,zU,zV]; rfl) ?_
   simp only [ev,zD,zE,zF,zG]
   refine mcallP m rfl rfl (Add_c (a:=p.num * (q.den : Int)) (b:=q.num * (p.den : Int)) (bd_mul hp.n hq.d) (bd_mul hq.n hp.d)) ?_
   clear m; intro u m
   refine n_nil ?_
   refine ⟨m.sel [false,true,true,true,true,true,true,true],?_⟩
   refine t_one (by simp only [zS,zT,zU,zV]; rfl) ?_
   simp only [ev,zD,zE,zF,zG]
   refine mcallP m rfl rfl (Mul_c (a:=(p.den : Int)) (b:=(q.den : Int)) (hp.d.mono (by decide)) (hq.d.mono (by decide))) ?_
   clear m; intro u m
   refine n_nil ?_
   refine ⟨m.sel [false,true,true,true,true,true,true,true],?_⟩
   refine t_one (by simp only [zS,zT,zU,zV]; rfl) ?_
   simp only [ev,zD,zE,zF,zG]
   refine mcallP m rfl rfl (Frac_c (n:=p.num * (q.den : Int) + q.num * (p.den : Int)) (d:=(p.den : Int) * (q.den : Int)) (bd_add (bd_mul (c:=300000) hp.n hq.d) (bd_mul (c:=300000) hq.n hp.d)) (bd_mul hp.d hq.d) (den_mul p q)) ?_
   clear m; intro u m
   refine n_nil ?_
   refine ⟨m.sel [false,true,true,true,true,true,true,true],?_⟩
   refine t_take (by simp only [zS,zT,zU,zV]; rfl) (h_val (r_move) (h_nil (t_take (by simp only [zS,zT,zU,zV]; rfl) (h_val (r_extract rfl rfl) (h_nil (t_take (by simp only [zS,zT,zU,zV]; rfl) (h_val (r_extract rfl rfl) ?_)))))))
   simp only [ev,zD,zE,zF,zG]
   refine h_nil (t_one (by simp only [zS,zT,zU,zV]; rfl) (mstoreA m 0 rfl rfl rfl cells_34 (leT rfl) rfl ?_))
   clear m; intro u m; simp only [over,zH,zI,zJ,zK,zL,zM,zN,zO,zP,zF,zG,Nat.reduceAdd] at m
   refine n_nil ?_
   refine ⟨m.sel [false,true,true,true,true,true,true,true],?_⟩
   refine t_take (by simp only [zS,zT,zU,zV]; rfl) (h_val (r_assign) (h_nil (t_nil (k4 _ _ ?_))))
   refine c_seq fun K9 k9=>wp_region_lit ?_
   simp only [ev,zD,zE,zF,zG]
   refine n_load rfl ((m.b 0 rfl).full agg_34 cells_34) ?_
   simp only [ev,zD,zE,zF,zG]
   refine mstoreA m 5 rfl rfl rfl cells_34 (leT rfl) rfl ?_
   clear m; intro u m; simp only [over,zH,zI,zJ,zK,zL,zM,zN,zO,zP,zF,zG,Nat.reduceAdd] at m
   refine n_nil (k9 _ _ ?_)
   refine wp_ret ?_
   try simp only [Exit.inBlock,Exit.then,if_true]
   refine fin1 rfl ⟨_,rfl,((m.b 5 rfl).full agg_34 cells_34)⟩ ?_
   try simp only [zD,zE]
   exact ⟨_,rfl,m.ext,by rw [← frac_add]; rfl⟩
 ·
  refine malloc m zero_34 rfl ?_
  clear m; intro g8 u m
  refine n_nil ?_
  refine ⟨m.sel [false,true,true,true,true,true,true,true],?_⟩
  refine t_one (by simp only [zS,zT,zU,zV]; rfl) ?_
  simp only [ev,zD,zE,zF,zG]
  refine mcallP m rfl rfl (Mul_c (a:=p.num) (b:=(q.den : Int)) (hp.n.mono (by decide)) (hq.d.mono (by decide))) ?_
  clear m; intro u m
  refine n_nil ?_
  refine ⟨m.sel [false,true,true,true,true,true,true,true],?_⟩
  refine t_one (by simp only [zS,zT,zU,zV]; rfl) ?_
  simp only [ev,zD,zE,zF,zG]
  refine mcallP m rfl rfl (Mul_c (a:=q.num) (b:=(p.den : Int)) (hq.n.mono (by decide)) (hp.d.mono (by decide))) ?_
  clear m; intro u m
  refine n_nil ?_
  refine ⟨m.sel [false,true,true,true,true,true,true,true],?_⟩
  refine t_one (by simp only [zS,zT,zU,zV]; rfl) ?_
  simp only [ev,zD,zE,zF,zG]
  refine mcallP m rfl rfl (Add_c (a:=p.num * (q.den : Int)) (b:=q.num * (p.den : Int)) (bd_mul hp.n hq.d) (bd_mul hq.n hp.d)) ?_
  clear m; intro u m
  refine n_nil ?_
  refine ⟨m.sel [false,true,true,true,true,true,true,true],?_⟩
  refine t_one (by simp only [zS,zT,zU,zV]; rfl) ?_
  simp only [ev,zD,zE,zF,zG]
  refine mcallP m rfl rfl (Mul_c (a:=(p.den : Int)) (b:=(q.den : Int)) (hp.d.mono (by decide)) (hq.d.mono (by decide))) ?_
  clear m; intro u m
  refine n_nil ?_
  refine ⟨m.sel [false,true,true,true,true,true,true,true],?_⟩
  refine t_one (by simp only [zS,zT,zU,zV]; rfl) ?_
  simp only [ev,zD,zE,zF,zG]
  refine mcallP m rfl rfl (Frac_c (n:=p.num * (q.den : Int) + q.num * (p.den : Int)) (d:=(p.den : Int) * (q.den : Int)) (bd_add (bd_mul (c:=300000) hp.n hq.d) (bd_mul (c:=300000) hq.n hp.d)) (bd_mul hp.d hq.d) (den_mul p q)) ?_
  clear m; intro u m
  refine n_nil ?_
  refine ⟨m.sel [false,true,true,true,true,true,true,true],?_⟩
  refine t_take (by simp only [zS,zT,zU,zV]; rfl) (h_val (r_move) (h_nil (t_take (by simp only [zS,zT,zU,zV]; rfl) (h_val (r_extract rfl rfl) (h_nil (t_take (by simp only [zS,zT,zU,zV]; rfl) (h_val (r_extract rfl rfl) ?_)))))))
  simp only [ev,zD,zE,zF,zG]
  refine h_nil (t_one (by simp only [zS,zT,zU,zV]; rfl) (mstoreA m 0 rfl rfl rfl cells_34 (leT rfl) rfl ?_))
  clear m; intro u m; simp only [over,zH,zI,zJ,zK,zL,zM,zN,zO,zP,zF,zG,Nat.reduceAdd] at m
  refine n_nil ?_
  refine ⟨m.sel [false,true,true,true,true,true,true,true],?_⟩
  refine t_take (by simp only [zS,zT,zU,zV]; rfl) (h_val (r_assign) (h_nil (t_nil (k4 _ _ ?_))))
  refine c_seq fun K10 k10=>wp_region_lit ?_
  simp only [ev,zD,zE,zF,zG]
  refine n_load rfl ((m.b 0 rfl).full agg_34 cells_34) ?_
  simp only [ev,zD,zE,zF,zG]
  refine mstoreA m 5 rfl rfl rfl cells_34 (leT rfl) rfl ?_
  clear m; intro u m; simp only [over,zH,zI,zJ,zK,zL,zM,zN,zO,zP,zF,zG,Nat.reduceAdd] at m
  refine n_nil (k10 _ _ ?_)
  refine wp_ret ?_
  try simp only [Exit.inBlock,Exit.then,if_true]
  refine fin1 rfl ⟨_,rfl,((m.b 5 rfl).full agg_34 cells_34)⟩ ?_
  try simp only [zD,zE]
  exact ⟨_,rfl,m.ext,by rw [← frac_add]; rfl⟩
end Go.Proofs.YtmcgcnpgkkfkoaaGreatDoor
namespace Go.Lith
open Go.RowKit
def P3.sh (p v : P3) : P3:=⟨p.x + v.x,p.y + v.y,p.z + v.z⟩
def T3.sh (v : P3) (t : T3) : T3:=⟨t.a.sh v,t.b.sh v,t.c.sh v⟩
theorem sumT_app (g : T3 → Int) (l m : List T3) : sumT g (l ++ m) = sumT g l + sumT g m:=by simp [sumT]
theorem sumT_map (g : T3 → Int) (h : T3 → T3) (l : List T3) : sumT g (l.map h) = sumT (fun t=>g (h t)) l:=by simp [sumT,Function.comp_def]
theorem sumT_flat {α : Type} (g : T3 → Int) (h : α → List T3) : ∀ l : List α,sumT g (l.flatMap h) = (l.map fun a=>sumT g (h a)).sum
  | []=>rfl
  | a :: l=>by rw [List.flatMap_cons,sumT_app,sumT_flat g h l,List.map_cons,List.sum_cons]
section
variable (b : Nat) (G : Nat → Nat → Int)
def vK (n f : Nat) : Int:=if vbit b n then (if vface b n f then 0 else G n f) else 0
def vS (n f : Nat) : Int:=if vbit b n then (if vface b n f then G n f else 0) else 0
def vA (n f : Nat) : Int:=if vbit b n then G n f else 0
theorem vSK (n f : Nat) : vS b G n f = vA b G n f - vK b G n f:=by
  unfold vS vK vA
  repeat' split
  all_goals omega
variable {b G}
theorem vK_out {n f : Nat} (h : vface b n f = true) : vK b G n f = 0:=by unfold vK; rw [h]; simp
theorem vK_in {n f m e : Nat} (h : vface b n f = !vbit b m) (k : vface b m e = !vbit b n) (hG : G m e = - G n f) : vK b G m e = - vK b G n f:=by
  unfold vK
  rw [h,k,hG]
  cases vbit b n <;> cases vbit b m <;> simp
structure Anti (G : Nat → Nat → Int) : Prop where
  z : ∀ n,n < 18 → G (n + 9) 0 = - G n 1
  y : ∀ n,n < 27 → n / 3 % 3 < 2 → G (n + 3) 2 = - G n 3
  x : ∀ n,n < 27 → n % 3 < 2 → G (n + 1) 4 = - G n 5
def sum27 (h : Nat → Int) : Int:=((List.range 27).map h).sum
theorem sum27_eq (h : Nat → Int) : sum27 h = h 0 + h 1 + h 2 + h 3 + h 4 + h 5 + h 6 + h 7 + h 8 + h 9 + h 10 + h 11 + h 12 + h 13 + h 14 + h 15 + h 16 + h 17 + h 18 + h 19 + h 20 + h 21 + h 22 + h 23 + h 24 + h 25 + h 26:=by
  show h 0 + (h 1 + (h 2 + (h 3 + (h 4 + (h 5 + (h 6 + (h 7 + (h 8 + (h 9 + (h 10 + (h 11 + (h 12 + (h 13 + (h 14 + (h 15 + (h 16 + (h 17 + (h 18 + (h 19 + (h 20 + (h 21 + (h 22 + (h 23 + (h 24 + (h 25 + (h 26 + 0)))))))))))))))))))))))))) = _
  omega
theorem vK_z (hA : Anti G) : sum27 (vK b G · 0) + sum27 (vK b G · 1) = 0:=by
  rw [sum27_eq,sum27_eq]
  have a0 : vK b G 9 0 = - vK b G 0 1:=vK_in rfl rfl (hA.z 0 (by decide))
  have b0 : vK b G 0 0 = 0:=vK_out rfl
  have a1 : vK b G 10 0 = - vK b G 1 1:=vK_in rfl rfl (hA.z 1 (by decide))
  have b1 : vK b G 1 0 = 0:=vK_out rfl
  have a2 : vK b G 11 0 = - vK b G 2 1:=vK_in rfl rfl (hA.z 2 (by decide))
  have b2 : vK b G 2 0 = 0:=vK_out rfl
  have a3 : vK b G 12 0 = - vK b G 3 1:=vK_in rfl rfl (hA.z 3 (by decide))
  have b3 : vK b G 3 0 = 0:=vK_out rfl
  have a4 : vK b G 13 0 = - vK b G 4 1:=vK_in rfl rfl (hA.z 4 (by decide))
  have b4 : vK b G 4 0 = 0:=vK_out rfl
  have a5 : vK b G 14 0 = - vK b G 5 1:=vK_in rfl rfl (hA.z 5 (by decide))
  have b5 : vK b G 5 0 = 0:=vK_out rfl
  have a6 : vK b G 15 0 = - vK b G 6 1:=vK_in rfl rfl (hA.z 6 (by decide))
  have b6 : vK b G 6 0 = 0:=vK_out rfl
  have a7 : vK b G 16 0 = - vK b G 7 1:=vK_in rfl rfl (hA.z 7 (by decide))
  have b7 : vK b G 7 0 = 0:=vK_out rfl
  have a8 : vK b G 17 0 = - vK b G 8 1:=vK_in rfl rfl (hA.z 8 (by decide))
  have b8 : vK b G 8 0 = 0:=vK_out rfl
  have a9 : vK b G 18 0 = - vK b G 9 1:=vK_in rfl rfl (hA.z 9 (by decide))
  have a10 : vK b G 19 0 = - vK b G 10 1:=vK_in rfl rfl (hA.z 10 (by decide))
  have a11 : vK b G 20 0 = - vK b G 11 1:=vK_in rfl rfl (hA.z 11 (by decide))
  have a12 : vK b G 21 0 = - vK b G 12 1:=vK_in rfl rfl (hA.z 12 (by decide))
  have a13 : vK b G 22 0 = - vK b G 13 1:=vK_in rfl rfl (hA.z 13 (by decide))
  have a14 : vK b G 23 0 = - vK b G 14 1:=vK_in rfl rfl (hA.z 14 (by decide))
  have a15 : vK b G 24 0 = - vK b G 15 1:=vK_in rfl rfl (hA.z 15 (by decide))
  have a16 : vK b G 25 0 = - vK b G 16 1:=vK_in rfl rfl (hA.z 16 (by decide))
  have a17 : vK b G 26 0 = - vK b G 17 1:=vK_in rfl rfl (hA.z 17 (by decide))
  have a18 : vK b G 18 1 = 0:=vK_out rfl
  have a19 : vK b G 19 1 = 0:=vK_out rfl
  have a20 : vK b G 20 1 = 0:=vK_out rfl
  have a21 : vK b G 21 1 = 0:=vK_out rfl
  have a22 : vK b G 22 1 = 0:=vK_out rfl
  have a23 : vK b G 23 1 = 0:=vK_out rfl
  have a24 : vK b G 24 1 = 0:=vK_out rfl
  have a25 : vK b G 25 1 = 0:=vK_out rfl
  have a26 : vK b G 26 1 = 0:=vK_out rfl
  omega
theorem vK_y (hA : Anti G) : sum27 (vK b G · 2) + sum27 (vK b G · 3) = 0:=by
  rw [sum27_eq,sum27_eq]
  have a0 : vK b G 3 2 = - vK b G 0 3:=vK_in rfl rfl (hA.y 0 (by decide) (by decide))
  have b0 : vK b G 0 2 = 0:=vK_out rfl
  have a1 : vK b G 4 2 = - vK b G 1 3:=vK_in rfl rfl (hA.y 1 (by decide) (by decide))
  have b1 : vK b G 1 2 = 0:=vK_out rfl
  have a2 : vK b G 5 2 = - vK b G 2 3:=vK_in rfl rfl (hA.y 2 (by decide) (by decide))
  have b2 : vK b G 2 2 = 0:=vK_out rfl
  have a3 : vK b G 6 2 = - vK b G 3 3:=vK_in rfl rfl (hA.y 3 (by decide) (by decide))
  have a4 : vK b G 7 2 = - vK b G 4 3:=vK_in rfl rfl (hA.y 4 (by decide) (by decide))
  have a5 : vK b G 8 2 = - vK b G 5 3:=vK_in rfl rfl (hA.y 5 (by decide) (by decide))
  have a6 : vK b G 6 3 = 0:=vK_out rfl
  have a7 : vK b G 7 3 = 0:=vK_out rfl
  have a8 : vK b G 8 3 = 0:=vK_out rfl
  have a9 : vK b G 12 2 = - vK b G 9 3:=vK_in rfl rfl (hA.y 9 (by decide) (by decide))
  have b9 : vK b G 9 2 = 0:=vK_out rfl
  have a10 : vK b G 13 2 = - vK b G 10 3:=vK_in rfl rfl (hA.y 10 (by decide) (by decide))
  have b10 : vK b G 10 2 = 0:=vK_out rfl
  have a11 : vK b G 14 2 = - vK b G 11 3:=vK_in rfl rfl (hA.y 11 (by decide) (by decide))
  have b11 : vK b G 11 2 = 0:=vK_out rfl
  have a12 : vK b G 15 2 = - vK b G 12 3:=vK_in rfl rfl (hA.y 12 (by decide) (by decide))
  have a13 : vK b G 16 2 = - vK b G 13 3:=vK_in rfl rfl (hA.y 13 (by decide) (by decide))
  have a14 : vK b G 17 2 = - vK b G 14 3:=vK_in rfl rfl (hA.y 14 (by decide) (by decide))
  have a15 : vK b G 15 3 = 0:=vK_out rfl
  have a16 : vK b G 16 3 = 0:=vK_out rfl
  have a17 : vK b G 17 3 = 0:=vK_out rfl
  have a18 : vK b G 21 2 = - vK b G 18 3:=vK_in rfl rfl (hA.y 18 (by decide) (by decide))
  have b18 : vK b G 18 2 = 0:=vK_out rfl
  have a19 : vK b G 22 2 = - vK b G 19 3:=vK_in rfl rfl (hA.y 19 (by decide) (by decide))
  have b19 : vK b G 19 2 = 0:=vK_out rfl
  have a20 : vK b G 23 2 = - vK b G 20 3:=vK_in rfl rfl (hA.y 20 (by decide) (by decide))
  have b20 : vK b G 20 2 = 0:=vK_out rfl
  have a21 : vK b G 24 2 = - vK b G 21 3:=vK_in rfl rfl (hA.y 21 (by decide) (by decide))
  have a22 : vK b G 25 2 = - vK b G 22 3:=vK_in rfl rfl (hA.y 22 (by decide) (by decide))
  have a23 : vK b G 26 2 = - vK b G 23 3:=vK_in rfl rfl (hA.y 23 (by decide) (by decide))
  have a24 : vK b G 24 3 = 0:=vK_out rfl
  have a25 : vK b G 25 3 = 0:=vK_out rfl
  have a26 : vK b G 26 3 = 0:=vK_out rfl
  omega
theorem vK_x (hA : Anti G) : sum27 (vK b G · 4) + sum27 (vK b G · 5) = 0:=by
  rw [sum27_eq,sum27_eq]
  have a0 : vK b G 1 4 = - vK b G 0 5:=vK_in rfl rfl (hA.x 0 (by decide) (by decide))
  have b0 : vK b G 0 4 = 0:=vK_out rfl
  have a1 : vK b G 2 4 = - vK b G 1 5:=vK_in rfl rfl (hA.x 1 (by decide) (by decide))
  have a2 : vK b G 2 5 = 0:=vK_out rfl
  have a3 : vK b G 4 4 = - vK b G 3 5:=vK_in rfl rfl (hA.x 3 (by decide) (by decide))
  have b3 : vK b G 3 4 = 0:=vK_out rfl
  have a4 : vK b G 5 4 = - vK b G 4 5:=vK_in rfl rfl (hA.x 4 (by decide) (by decide))
  have a5 : vK b G 5 5 = 0:=vK_out rfl
  have a6 : vK b G 7 4 = - vK b G 6 5:=vK_in rfl rfl (hA.x 6 (by decide) (by decide))
  have b6 : vK b G 6 4 = 0:=vK_out rfl
  have a7 : vK b G 8 4 = - vK b G 7 5:=vK_in rfl rfl (hA.x 7 (by decide) (by decide))
  have a8 : vK b G 8 5 = 0:=vK_out rfl
  have a9 : vK b G 10 4 = - vK b G 9 5:=vK_in rfl rfl (hA.x 9 (by decide) (by decide))
  have b9 : vK b G 9 4 = 0:=vK_out rfl
  have a10 : vK b G 11 4 = - vK b G 10 5:=vK_in rfl rfl (hA.x 10 (by decide) (by decide))
  have a11 : vK b G 11 5 = 0:=vK_out rfl
  have a12 : vK b G 13 4 = - vK b G 12 5:=vK_in rfl rfl (hA.x 12 (by decide) (by decide))
  have b12 : vK b G 12 4 = 0:=vK_out rfl
  have a13 : vK b G 14 4 = - vK b G 13 5:=vK_in rfl rfl (hA.x 13 (by decide) (by decide))
  have a14 : vK b G 14 5 = 0:=vK_out rfl
  have a15 : vK b G 16 4 = - vK b G 15 5:=vK_in rfl rfl (hA.x 15 (by decide) (by decide))
  have b15 : vK b G 15 4 = 0:=vK_out rfl
  have a16 : vK b G 17 4 = - vK b G 16 5:=vK_in rfl rfl (hA.x 16 (by decide) (by decide))
  have a17 : vK b G 17 5 = 0:=vK_out rfl
  have a18 : vK b G 19 4 = - vK b G 18 5:=vK_in rfl rfl (hA.x 18 (by decide) (by decide))
  have b18 : vK b G 18 4 = 0:=vK_out rfl
  have a19 : vK b G 20 4 = - vK b G 19 5:=vK_in rfl rfl (hA.x 19 (by decide) (by decide))
  have a20 : vK b G 20 5 = 0:=vK_out rfl
  have a21 : vK b G 22 4 = - vK b G 21 5:=vK_in rfl rfl (hA.x 21 (by decide) (by decide))
  have b21 : vK b G 21 4 = 0:=vK_out rfl
  have a22 : vK b G 23 4 = - vK b G 22 5:=vK_in rfl rfl (hA.x 22 (by decide) (by decide))
  have a23 : vK b G 23 5 = 0:=vK_out rfl
  have a24 : vK b G 25 4 = - vK b G 24 5:=vK_in rfl rfl (hA.x 24 (by decide) (by decide))
  have b24 : vK b G 24 4 = 0:=vK_out rfl
  have a25 : vK b G 26 4 = - vK b G 25 5:=vK_in rfl rfl (hA.x 25 (by decide) (by decide))
  have a26 : vK b G 26 5 = 0:=vK_out rfl
  omega
theorem sum27_add (h k : Nat → Int) : sum27 (fun n=>h n + k n) = sum27 h + sum27 k:=by simp only [sum27_eq]; omega
theorem sum27_sub (h k : Nat → Int) : sum27 (fun n=>h n - k n) = sum27 h - sum27 k:=by simp only [sum27_eq]; omega
theorem vox_sum (hA : Anti G) : sum27 (fun n=>vS b G n 0 + vS b G n 1 + vS b G n 2 + vS b G n 3 + vS b G n 4 + vS b G n 5) = sum27 (fun n=>if vbit b n then G n 0 + G n 1 + G n 2 + G n 3 + G n 4 + G n 5 else 0):=by
  have hz:=vK_z (b:=b) hA
  have hy:=vK_y (b:=b) hA
  have hx:=vK_x (b:=b) hA
  have e : ∀ n,vS b G n 0 + vS b G n 1 + vS b G n 2 + vS b G n 3 + vS b G n 4 + vS b G n 5 = (if vbit b n then G n 0 + G n 1 + G n 2 + G n 3 + G n 4 + G n 5 else 0) - (vK b G n 0 + vK b G n 1 + vK b G n 2 + vK b G n 3 + vK b G n 4 + vK b G n 5):=by
    intro n
    simp only [vSK,vA]
    split <;> omega
  simp only [e,sum27_sub,sum27_add]
  omega
theorem vox_sumT (g : T3 → Int) (hA : Anti fun n f=>sumT g (vpair n f)) : sumT g (voxT b) = sum27 (fun n=>if vbit b n then sumT g (cubeT (vP n) 8) else 0):=by
  have e : ∀ n,sumT g (vpair n 0) + sumT g (vpair n 1) + sumT g (vpair n 2) + sumT g (vpair n 3) + sumT g (vpair n 4) + sumT g (vpair n 5) = sumT g (cubeT (vP n) 8):=by
    intro n
    simp only [sumT,vpair,cubeT,quadT,List.cons_append,List.nil_append,Nat.mul_zero,Nat.mul_one,Nat.reduceMul,List.drop_succ_cons,List.drop_zero,List.take_succ_cons,List.take_zero,List.map_cons,List.map_nil,List.sum_cons,List.sum_nil]
    omega
  have h:=vox_sum (b:=b) hA
  simp only [e] at h
  rw [← h]
  unfold voxT
  rw [sumT_flat]
  show sum27 _ = _
  congr 1
  funext n
  unfold vfaces vS
  split
  · rw [sumT_flat]
    show _ + (_ + (_ + (_ + (_ + (_ + 0))))) = _
    have k : ∀ f,sumT g (if vface b n f then vpair n f else []) = if vface b n f then sumT g (vpair n f) else 0:=fun f=>by split <;> rfl
    simp only [k]
    omega
  · rfl
end
/-! ### A side of a cube -/
section
variable {p v : P3} {s : Int}
def sideD (p : P3) (s : Int) (f : Nat) : Int:=if f = 0 then -(2 * s * s * p.z) else if f = 1 then 2 * s * s * (p.z + s) else if f = 2 then -(2 * s * s * p.y) else if f = 3 then 2 * s * s * (p.y + s) else if f = 4 then -(2 * s * s * p.x) else 2 * s * s * (p.x + s)
def sideX (p : P3) (s : Int) (f : Nat) : Int:=if f = 4 then 6 * p.x else if f = 5 then 6 * (p.x + s) else 6 * p.x + 3 * s
def sideY (p : P3) (s : Int) (f : Nat) : Int:=if f = 2 then 6 * p.y else if f = 3 then 6 * (p.y + s) else 6 * p.y + 3 * s
def sideZ (p : P3) (s : Int) (f : Nat) : Int:=if f = 0 then 6 * p.z else if f = 1 then 6 * (p.z + s) else 6 * p.z + 3 * s
def cpair (p : P3) (s : Int) (f : Nat) : List T3:=((cubeT p s).drop (2 * f)).take 2
theorem cube_sh (n : Nat) : (cubeC p s n).sh v = cubeC (p.sh v) s n:=by simp only [P3.sh,cubeC,P3.mk.injEq]; omega
theorem cubeT_sh : (cubeT p s).map (T3.sh v) = cubeT (p.sh v) s:=by
  simp only [cubeT,quadT,List.cons_append,List.nil_append,List.map_cons,List.map_nil,T3.sh,cube_sh]
theorem cpair_sh (f : Nat) : (cpair p s f).map (T3.sh v) = cpair (p.sh v) s f:=by
  unfold cpair
  rw [List.map_take,List.map_drop,cubeT_sh]
theorem two_sum {g : T3 → Int} {t u : T3} : sumT g [t,u] = g t + g u:=by simp [sumT]
theorem cC : cubeC p s 0 = ⟨p.x,p.y,p.z⟩ ∧ cubeC p s 1 = ⟨p.x + s,p.y,p.z⟩ ∧ cubeC p s 2 = ⟨p.x,p.y + s,p.z⟩ ∧ cubeC p s 3 = ⟨p.x + s,p.y + s,p.z⟩ ∧ cubeC p s 4 = ⟨p.x,p.y,p.z + s⟩ ∧ cubeC p s 5 = ⟨p.x + s,p.y,p.z + s⟩ ∧ cubeC p s 6 = ⟨p.x,p.y + s,p.z + s⟩ ∧ cubeC p s 7 = ⟨p.x + s,p.y + s,p.z + s⟩:=by
  refine ⟨?_,?_,?_,?_,?_,?_,?_,?_⟩ <;> simp [cubeC]
theorem cp0 : cpair p s 0 = quadT ⟨p.x,p.y,p.z⟩ ⟨p.x,p.y + s,p.z⟩ ⟨p.x + s,p.y + s,p.z⟩ ⟨p.x + s,p.y,p.z⟩:=by obtain ⟨h0,h1,h2,h3,h4,h5,h6,h7⟩:=cC (p:=p) (s:=s); rw [← h0,← h1,← h2,← h3]; rfl
theorem cp1 : cpair p s 1 = quadT ⟨p.x,p.y,p.z + s⟩ ⟨p.x + s,p.y,p.z + s⟩ ⟨p.x + s,p.y + s,p.z + s⟩ ⟨p.x,p.y + s,p.z + s⟩:=by obtain ⟨h0,h1,h2,h3,h4,h5,h6,h7⟩:=cC (p:=p) (s:=s); rw [← h4,← h5,← h6,← h7]; rfl
theorem cp2 : cpair p s 2 = quadT ⟨p.x,p.y,p.z⟩ ⟨p.x + s,p.y,p.z⟩ ⟨p.x + s,p.y,p.z + s⟩ ⟨p.x,p.y,p.z + s⟩:=by obtain ⟨h0,h1,h2,h3,h4,h5,h6,h7⟩:=cC (p:=p) (s:=s); rw [← h0,← h1,← h4,← h5]; rfl
theorem cp3 : cpair p s 3 = quadT ⟨p.x,p.y + s,p.z⟩ ⟨p.x,p.y + s,p.z + s⟩ ⟨p.x + s,p.y + s,p.z + s⟩ ⟨p.x + s,p.y + s,p.z⟩:=by obtain ⟨h0,h1,h2,h3,h4,h5,h6,h7⟩:=cC (p:=p) (s:=s); rw [← h2,← h3,← h6,← h7]; rfl
theorem cp4 : cpair p s 4 = quadT ⟨p.x,p.y,p.z⟩ ⟨p.x,p.y,p.z + s⟩ ⟨p.x,p.y + s,p.z + s⟩ ⟨p.x,p.y + s,p.z⟩:=by obtain ⟨h0,h1,h2,h3,h4,h5,h6,h7⟩:=cC (p:=p) (s:=s); rw [← h0,← h2,← h4,← h6]; rfl
theorem cp5 : cpair p s 5 = quadT ⟨p.x + s,p.y,p.z⟩ ⟨p.x + s,p.y + s,p.z⟩ ⟨p.x + s,p.y + s,p.z + s⟩ ⟨p.x + s,p.y,p.z + s⟩:=by obtain ⟨h0,h1,h2,h3,h4,h5,h6,h7⟩:=cC (p:=p) (s:=s); rw [← h1,← h3,← h5,← h7]; rfl
theorem side_det {f : Nat} (hf : f < 6) : sumT det (cpair p s f) = sideD p s f:=by
  rcases st_cases hf with rfl | rfl | rfl | rfl | rfl | rfl
  · rw [cp0]; simp only [quadT,two_sum,det,P3.dot,P3.cross,sideD,if_true]; grind
  · rw [cp1]; simp only [quadT,two_sum,det,P3.dot,P3.cross,sideD]; simp only [Nat.reduceEqDiff,if_false,if_true]; grind
  · rw [cp2]; simp only [quadT,two_sum,det,P3.dot,P3.cross,sideD]; simp only [Nat.reduceEqDiff,if_false,if_true]; grind
  · rw [cp3]; simp only [quadT,two_sum,det,P3.dot,P3.cross,sideD]; simp only [Nat.reduceEqDiff,if_false,if_true]; grind
  · rw [cp4]; simp only [quadT,two_sum,det,P3.dot,P3.cross,sideD]; simp only [Nat.reduceEqDiff,if_false,if_true]; grind
  · rw [cp5]; simp only [quadT,two_sum,det,P3.dot,P3.cross,sideD]; simp only [Nat.reduceEqDiff,if_false,if_true]; grind
theorem side_x {f : Nat} (hf : f < 6) : 2 * sumT (mom P3.x) (cpair p s f) = sideD p s f * sideX p s f:=by
  rcases st_cases hf with rfl | rfl | rfl | rfl | rfl | rfl
  · rw [cp0]; simp only [quadT,two_sum,mom,det,P3.dot,P3.cross,sideD,sideX]; simp only [Nat.reduceEqDiff,if_false,if_true]; grind
  · rw [cp1]; simp only [quadT,two_sum,mom,det,P3.dot,P3.cross,sideD,sideX]; simp only [Nat.reduceEqDiff,if_false,if_true]; grind
  · rw [cp2]; simp only [quadT,two_sum,mom,det,P3.dot,P3.cross,sideD,sideX]; simp only [Nat.reduceEqDiff,if_false,if_true]; grind
  · rw [cp3]; simp only [quadT,two_sum,mom,det,P3.dot,P3.cross,sideD,sideX]; simp only [Nat.reduceEqDiff,if_false,if_true]; grind
  · rw [cp4]; simp only [quadT,two_sum,mom,det,P3.dot,P3.cross,sideD,sideX]; simp only [Nat.reduceEqDiff,if_false,if_true]; grind
  · rw [cp5]; simp only [quadT,two_sum,mom,det,P3.dot,P3.cross,sideD,sideX]; simp only [Nat.reduceEqDiff,if_false,if_true]; grind
theorem side_y {f : Nat} (hf : f < 6) : 2 * sumT (mom P3.y) (cpair p s f) = sideD p s f * sideY p s f:=by
  rcases st_cases hf with rfl | rfl | rfl | rfl | rfl | rfl
  · rw [cp0]; simp only [quadT,two_sum,mom,det,P3.dot,P3.cross,sideD,sideY]; simp only [Nat.reduceEqDiff,if_false,if_true]; grind
  · rw [cp1]; simp only [quadT,two_sum,mom,det,P3.dot,P3.cross,sideD,sideY]; simp only [Nat.reduceEqDiff,if_false,if_true]; grind
  · rw [cp2]; simp only [quadT,two_sum,mom,det,P3.dot,P3.cross,sideD,sideY]; simp only [Nat.reduceEqDiff,if_false,if_true]; grind
  · rw [cp3]; simp only [quadT,two_sum,mom,det,P3.dot,P3.cross,sideD,sideY]; simp only [Nat.reduceEqDiff,if_false,if_true]; grind
  · rw [cp4]; simp only [quadT,two_sum,mom,det,P3.dot,P3.cross,sideD,sideY]; simp only [Nat.reduceEqDiff,if_false,if_true]; grind
  · rw [cp5]; simp only [quadT,two_sum,mom,det,P3.dot,P3.cross,sideD,sideY]; simp only [Nat.reduceEqDiff,if_false,if_true]; grind
theorem side_z {f : Nat} (hf : f < 6) : 2 * sumT (mom P3.z) (cpair p s f) = sideD p s f * sideZ p s f:=by
  rcases st_cases hf with rfl | rfl | rfl | rfl | rfl | rfl
  · rw [cp0]; simp only [quadT,two_sum,mom,det,P3.dot,P3.cross,sideD,sideZ]; simp only [Nat.reduceEqDiff,if_false,if_true]; grind
  · rw [cp1]; simp only [quadT,two_sum,mom,det,P3.dot,P3.cross,sideD,sideZ]; simp only [Nat.reduceEqDiff,if_false,if_true]; grind
  · rw [cp2]; simp only [quadT,two_sum,mom,det,P3.dot,P3.cross,sideD,sideZ]; simp only [Nat.reduceEqDiff,if_false,if_true]; grind
  · rw [cp3]; simp only [quadT,two_sum,mom,det,P3.dot,P3.cross,sideD,sideZ]; simp only [Nat.reduceEqDiff,if_false,if_true]; grind
  · rw [cp4]; simp only [quadT,two_sum,mom,det,P3.dot,P3.cross,sideD,sideZ]; simp only [Nat.reduceEqDiff,if_false,if_true]; grind
  · rw [cp5]; simp only [quadT,two_sum,mom,det,P3.dot,P3.cross,sideD,sideZ]; simp only [Nat.reduceEqDiff,if_false,if_true]; grind
theorem vpair_c (n f : Nat) : vpair n f = cpair (vP n) 8 f:=rfl
theorem vP_z {n : Nat} (h : n < 18) : vP (n + 9) = ⟨(vP n).x,(vP n).y,(vP n).z + 8⟩:=by simp only [vP,P3.mk.injEq]; omega
theorem vP_y {n : Nat} (h : n / 3 % 3 < 2) : vP (n + 3) = ⟨(vP n).x,(vP n).y + 8,(vP n).z⟩:=by simp only [vP,P3.mk.injEq]; omega
theorem vP_x {n : Nat} (h : n % 3 < 2) : vP (n + 1) = ⟨(vP n).x + 8,(vP n).y,(vP n).z⟩:=by simp only [vP,P3.mk.injEq]; omega
variable {h : T3 → Int}
theorem sh_pair (n f : Nat) : sumT (fun t=>h (t.sh v)) (vpair n f) = sumT h (cpair ((vP n).sh v) 8 f):=by rw [← sumT_map,vpair_c,cpair_sh]
theorem sh_cube (p : P3) : sumT (fun t=>h (t.sh v)) (cubeT p s) = sumT h (cubeT (p.sh v) s):=by rw [← sumT_map,cubeT_sh]
theorem anti_det : Anti fun n f=>sumT (fun t=>det (t.sh v)) (vpair n f) where
  z n hn:=by
    simp only [sh_pair,side_det (show 0 < 6 by decide),side_det (show 1 < 6 by decide),vP_z hn,sideD,P3.sh,if_true,if_false,Nat.reduceEqDiff]
    omega
  y n _ hn:=by
    simp only [sh_pair,side_det (show 2 < 6 by decide),side_det (show 3 < 6 by decide),vP_y hn,sideD,P3.sh,if_true,if_false,Nat.reduceEqDiff]
    omega
  x n _ hn:=by
    simp only [sh_pair,side_det (show 4 < 6 by decide),side_det (show 5 < 6 by decide),vP_x hn,sideD,P3.sh,if_true,if_false,Nat.reduceEqDiff]
    omega
theorem neg_two {a b : Int} (h : 2 * a = - (2 * b)) : a = - b:=by omega
theorem anti_x : Anti fun n f=>sumT (fun t=>mom P3.x (t.sh v)) (vpair n f) where
  z n hn:=by
    refine neg_two ?_
    simp only [sh_pair]
    rw [side_x (show 0 < 6 by decide),side_x (show 1 < 6 by decide),vP_z hn]
    simp only [sideD,sideX,P3.sh,if_true,if_false,Nat.reduceEqDiff]
    grind
  y n _ hn:=by
    refine neg_two ?_
    simp only [sh_pair]
    rw [side_x (show 2 < 6 by decide),side_x (show 3 < 6 by decide),vP_y hn]
    simp only [sideD,sideX,P3.sh,if_true,if_false,Nat.reduceEqDiff]
    grind
  x n _ hn:=by
    refine neg_two ?_
    simp only [sh_pair]
    rw [side_x (show 4 < 6 by decide),side_x (show 5 < 6 by decide),vP_x hn]
    simp only [sideD,sideX,P3.sh,if_true,if_false,Nat.reduceEqDiff]
    grind
theorem anti_y : Anti fun n f=>sumT (fun t=>mom P3.y (t.sh v)) (vpair n f) where
  z n hn:=by
    refine neg_two ?_
    simp only [sh_pair]
    rw [side_y (show 0 < 6 by decide),side_y (show 1 < 6 by decide),vP_z hn]
    simp only [sideD,sideY,P3.sh,if_true,if_false,Nat.reduceEqDiff]
    grind
  y n _ hn:=by
    refine neg_two ?_
    simp only [sh_pair]
    rw [side_y (show 2 < 6 by decide),side_y (show 3 < 6 by decide),vP_y hn]
    simp only [sideD,sideY,P3.sh,if_true,if_false,Nat.reduceEqDiff]
    grind
  x n _ hn:=by
    refine neg_two ?_
    simp only [sh_pair]
    rw [side_y (show 4 < 6 by decide),side_y (show 5 < 6 by decide),vP_x hn]
    simp only [sideD,sideY,P3.sh,if_true,if_false,Nat.reduceEqDiff]
    grind
theorem anti_z : Anti fun n f=>sumT (fun t=>mom P3.z (t.sh v)) (vpair n f) where
  z n hn:=by
    refine neg_two ?_
    simp only [sh_pair]
    rw [side_z (show 0 < 6 by decide),side_z (show 1 < 6 by decide),vP_z hn]
    simp only [sideD,sideZ,P3.sh,if_true,if_false,Nat.reduceEqDiff]
    grind
  y n _ hn:=by
    refine neg_two ?_
    simp only [sh_pair]
    rw [side_z (show 2 < 6 by decide),side_z (show 3 < 6 by decide),vP_y hn]
    simp only [sideD,sideZ,P3.sh,if_true,if_false,Nat.reduceEqDiff]
    grind
  x n _ hn:=by
    refine neg_two ?_
    simp only [sh_pair]
    rw [side_z (show 4 < 6 by decide),side_z (show 5 < 6 by decide),vP_x hn]
    simp only [sideD,sideZ,P3.sh,if_true,if_false,Nat.reduceEqDiff]
    grind
theorem cube_pairs (g : T3 → Int) : sumT g (cubeT p s) = sumT g (cpair p s 0) + sumT g (cpair p s 1) + sumT g (cpair p s 2) + sumT g (cpair p s 3) + sumT g (cpair p s 4) + sumT g (cpair p s 5):=by
  simp only [sumT,cpair,cubeT,quadT,List.cons_append,List.nil_append,Nat.mul_zero,Nat.mul_one,Nat.reduceMul,List.drop_succ_cons,List.drop_zero,List.take_succ_cons,List.take_zero,List.map_cons,List.map_nil,List.sum_cons,List.sum_nil]
  omega
theorem cube_det (p : P3) : sumT det (cubeT p 8) = 3072:=by
  rw [cube_pairs]
  simp only [side_det (show 0 < 6 by decide),side_det (show 1 < 6 by decide),side_det (show 2 < 6 by decide),side_det (show 3 < 6 by decide),side_det (show 4 < 6 by decide),side_det (show 5 < 6 by decide),sideD,if_true,if_false,Nat.reduceEqDiff]
  omega
theorem cube_x (p : P3) : sumT (mom P3.x) (cubeT p 8) = 12288 * (p.x + 4):=by
  rw [cube_pairs]
  have h0:=side_x (p:=p) (s:=8) (show 0 < 6 by decide)
  have h1:=side_x (p:=p) (s:=8) (show 1 < 6 by decide)
  have h2:=side_x (p:=p) (s:=8) (show 2 < 6 by decide)
  have h3:=side_x (p:=p) (s:=8) (show 3 < 6 by decide)
  have h4:=side_x (p:=p) (s:=8) (show 4 < 6 by decide)
  have h5:=side_x (p:=p) (s:=8) (show 5 < 6 by decide)
  simp only [sideD,sideX,if_true,if_false,Nat.reduceEqDiff] at h0 h1 h2 h3 h4 h5
  grind
theorem cube_y (p : P3) : sumT (mom P3.y) (cubeT p 8) = 12288 * (p.y + 4):=by
  rw [cube_pairs]
  have h0:=side_y (p:=p) (s:=8) (show 0 < 6 by decide)
  have h1:=side_y (p:=p) (s:=8) (show 1 < 6 by decide)
  have h2:=side_y (p:=p) (s:=8) (show 2 < 6 by decide)
  have h3:=side_y (p:=p) (s:=8) (show 3 < 6 by decide)
  have h4:=side_y (p:=p) (s:=8) (show 4 < 6 by decide)
  have h5:=side_y (p:=p) (s:=8) (show 5 < 6 by decide)
  simp only [sideD,sideY,if_true,if_false,Nat.reduceEqDiff] at h0 h1 h2 h3 h4 h5
  grind
theorem cube_z (p : P3) : sumT (mom P3.z) (cubeT p 8) = 12288 * (p.z + 4):=by
  rw [cube_pairs]
  have h0:=side_z (p:=p) (s:=8) (show 0 < 6 by decide)
  have h1:=side_z (p:=p) (s:=8) (show 1 < 6 by decide)
  have h2:=side_z (p:=p) (s:=8) (show 2 < 6 by decide)
  have h3:=side_z (p:=p) (s:=8) (show 3 < 6 by decide)
  have h4:=side_z (p:=p) (s:=8) (show 4 < 6 by decide)
  have h5:=side_z (p:=p) (s:=8) (show 5 < 6 by decide)
  simp only [sideD,sideZ,if_true,if_false,Nat.reduceEqDiff] at h0 h1 h2 h3 h4 h5
  grind
def cubes (b : Nat) : Int:=sum27 fun n=>if vbit b n then 1 else 0
theorem sum27_mul (c : Int) (h : Nat → Int) : sum27 (fun n=>c * h n) = c * sum27 h:=by simp only [sum27_eq,Int.mul_add]
theorem vox_det (b : Nat) : sumT det ((voxT b).map (T3.sh v)) = 3072 * cubes b:=by
  rw [sumT_map,vox_sumT _ anti_det,cubes,← sum27_mul]
  congr 1
  funext n
  rw [sh_cube,cube_det]
  split <;> rfl
theorem sh0 (t : T3) : t.sh ⟨0,0,0⟩ = t:=by simp [T3.sh,P3.sh]
theorem map_sh0 (l : List T3) : l.map (T3.sh ⟨0,0,0⟩) = l:=by rw [show T3.sh ⟨0,0,0⟩ = id from funext sh0,List.map_id]
theorem vox_det0 (b : Nat) : sumT det (voxT b) = 3072 * cubes b:=by
  have:=vox_det (v:=⟨0,0,0⟩) b
  rwa [map_sh0] at this
theorem vox_x (b : Nat) : sumT (mom P3.x) ((voxT b).map (T3.sh v)) = sum27 (fun n=>if vbit b n then 12288 * ((vP n).x + 4) else 0) + 12288 * v.x * cubes b:=by
  rw [sumT_map,vox_sumT _ anti_x,cubes,← sum27_mul,← sum27_add]
  congr 1
  funext n
  rw [sh_cube,cube_x]
  split
  · simp only [P3.sh]; omega
  · simp
theorem mov_x (b : Nat) : sumT (mom P3.x) ((voxT b).map (T3.sh v)) = sumT (mom P3.x) (voxT b) + v.x * (sumT det (voxT b) * 4):=by
  have h:=vox_x (v:=⟨0,0,0⟩) b
  rw [map_sh0] at h
  rw [vox_x,vox_det0,h]
  grind
theorem vox_y (b : Nat) : sumT (mom P3.y) ((voxT b).map (T3.sh v)) = sum27 (fun n=>if vbit b n then 12288 * ((vP n).y + 4) else 0) + 12288 * v.y * cubes b:=by
  rw [sumT_map,vox_sumT _ anti_y,cubes,← sum27_mul,← sum27_add]
  congr 1
  funext n
  rw [sh_cube,cube_y]
  split
  · simp only [P3.sh]; omega
  · simp
theorem mov_y (b : Nat) : sumT (mom P3.y) ((voxT b).map (T3.sh v)) = sumT (mom P3.y) (voxT b) + v.y * (sumT det (voxT b) * 4):=by
  have h:=vox_y (v:=⟨0,0,0⟩) b
  rw [map_sh0] at h
  rw [vox_y,vox_det0,h]
  grind
theorem vox_z (b : Nat) : sumT (mom P3.z) ((voxT b).map (T3.sh v)) = sum27 (fun n=>if vbit b n then 12288 * ((vP n).z + 4) else 0) + 12288 * v.z * cubes b:=by
  rw [sumT_map,vox_sumT _ anti_z,cubes,← sum27_mul,← sum27_add]
  congr 1
  funext n
  rw [sh_cube,cube_z]
  split
  · simp only [P3.sh]; omega
  · simp
theorem mov_z (b : Nat) : sumT (mom P3.z) ((voxT b).map (T3.sh v)) = sumT (mom P3.z) (voxT b) + v.z * (sumT det (voxT b) * 4):=by
  have h:=vox_z (v:=⟨0,0,0⟩) b
  rw [map_sh0] at h
  rw [vox_z,vox_det0,h]
  grind
theorem le_sum (h : Nat → Int) (hp : ∀ k,0 ≤ h k) : ∀ (l : List Nat) (n : Nat),n ∈ l → h n ≤ (l.map h).sum
  | k :: l,n,hn=>by
    have h0 : 0 ≤ (l.map h).sum:=by
      clear hn
      induction l with
      | nil=>exact Int.le_refl _
      | cons a l ih=>rw [List.map_cons,List.sum_cons]; have:=hp a; omega
    rw [List.map_cons,List.sum_cons]
    rcases List.mem_cons.1 hn with rfl | hn
    · omega
    · have:=le_sum h hp l n hn
      have:=hp k
      omega
theorem cubes_pos {b : Nat} (h : voxT b ≠ []) : 0 < cubes b:=by
  obtain ⟨t,ht⟩:=List.exists_mem_of_ne_nil _ h
  obtain ⟨n,hn,h2⟩:=List.mem_flatMap.1 ht
  have hb : vbit b n = true:=by
    split at h2
    · assumption
    · cases h2
  have:=le_sum (fun n=>if vbit b n then (1 : Int) else 0) (fun k=>by show 0 ≤ (if vbit b k then (1 : Int) else 0); split <;> decide) (List.range 27) n hn
  simp only [hb,if_true] at this
  unfold cubes sum27
  exact Int.lt_of_lt_of_le (show (0 : Int) < 1 by decide) this
theorem vox_pos {b : Nat} (h : voxT b ≠ []) : 0 < sumT det (voxT b):=by
  have:=cubes_pos h
  rw [vox_det0]
  omega
theorem cq_mov {m d c : Int} (hd : d ≠ 0) : cq (m + c * (d * 4)) d = cq m d + (c : Rat):=by
  have h4 : d * 4 ≠ 0:=by omega
  unfold cq
  rw [if_neg hd,if_neg hd,show (c : Rat) = Rat.divInt c 1 from (Rat.num_divInt_den (c : Rat)).symm,Rat.divInt_add_divInt _ _ h4 (by decide)]
  simp
end
end Go.Lith
namespace Go.Lith
open Go.RowKit
structure GX (w w' : World) : Prop where
  ext : Ext w w'
  dr : w.drawn ≤ w'.drawn
theorem GX.trans {a b c : World} (h : GX a b) (k : GX b c) : GX a c:=⟨h.ext.trans k.ext,Nat.le_trans h.dr k.dr⟩
structure MemG (w0 w : World) (is : List It) : Prop where
  ext : GX w0 w
  mem : Mem w0 w is
def GPure (P : Program) (f : FuncId) (args : List Value) (v : Value) : Prop:=∀ w,Enters P f ∧ Calls P f args.toArray w fun e w'=>∃ u,e = .returned u ∧ GX w w' ∧ u = v
theorem GPure.pure {P : Program} {f : FuncId} {args : List Value} {v : Value} (h : GPure P f args v) : Pure P f args v:=fun w=>⟨(h w).1,(h w).2.mono fun _ _ ⟨u,he,hX,hv⟩=>⟨u,he,hX.ext,hv⟩⟩
section
variable {w0 w w' : World} {is : List It}
theorem MemG.refl (w : World) : MemG w w []:=⟨⟨Ext.refl w,Nat.le_refl _⟩,Mem.refl w⟩
theorem MemG.go (m : MemG w0 w is) {js : List It} (h : Mem w0 w' js) (d : w.drawn ≤ w'.drawn) : MemG w0 w' js:=⟨⟨h.ext,Nat.le_trans m.ext.dr d⟩,h⟩
theorem MemG.ext' (m : MemG w0 w is) (e : GX w w') : MemG w0 w' is:=m.go (m.mem.ext' e.ext) e.dr
theorem MemG.b (m : MemG w0 w is) (k : Nat) {g : Nat} {cs : List Value} {t : TypeId} (hk : is[k]? = some (bI g cs t)) : Blk w g cs t:=m.mem.b k hk
theorem MemG.sel (m : MemG w0 w is) (bs : List Bool) : MemG w0 w (selB bs is):=⟨m.ext,m.mem.sel bs⟩
end
section
variable {P : Program} {ds : List Deferred} {l : List Value} {x y : Operand} {T ty : TypeId}
variable {ops : Array Oper} {Q : Exit → Act → World → Prop} {rest : List Oper} {d : Nat} {pos : String} {after : Array Edge} {w w0 : World} {is : List It} {v : Value}
theorem MemG.drew (m : MemG w0 w is) : MemG w0 { w with drawn:=w.drawn + 1 } is:=m.ext' ⟨(Ext.refl w).drawn,Nat.le_succ _⟩
end
section
variable {P : Program} {w0 : World} {is : List It} {l : List Value} {x y : Operand} {T ty : TypeId}
variable {ops : Array Oper} {Q : Act → Prop} {rest : List Oper} {d : Nat} {pos : String} {after : Array Edge} {v : Value} {ds : List Deferred}
end
end Go.Lith
namespace Go.Lith
open Go.RowKit
def P3.Lt (p q : P3) : Prop:=p.x < q.x ∨ p.x = q.x ∧ (p.y < q.y ∨ p.y = q.y ∧ p.z < q.z)
instance (p q : P3) : Decidable (p.Lt q):=by unfold P3.Lt; infer_instance
theorem P3.eq {p q : P3} (h1 : p.x = q.x) (h2 : p.y = q.y) (h3 : p.z = q.z) : p = q:=by
  cases p; cases q; simp_all
instance : DecidableEq P3:=fun p q=>if h : p.x = q.x ∧ p.y = q.y ∧ p.z = q.z then isTrue (P3.eq h.1 h.2.1 h.2.2) else isFalse fun e=>h (by subst e; exact ⟨rfl,rfl,rfl⟩)
theorem P3.lt_irrefl (p : P3) : ¬ p.Lt p:=by unfold P3.Lt; omega
theorem P3.lt_trans {p q r : P3} (h : p.Lt q) (k : q.Lt r) : p.Lt r:=by unfold P3.Lt at *; omega
theorem P3.lt_x {p q : P3} (h : ¬ p.x = q.x) : p.Lt q ↔ p.x < q.x:=by unfold P3.Lt; omega
theorem P3.lt_y {p q : P3} (h : p.x = q.x) (h2 : ¬ p.y = q.y) : p.Lt q ↔ p.y < q.y:=by unfold P3.Lt; omega
theorem P3.lt_z {p q : P3} (h : p.x = q.x) (h2 : p.y = q.y) : p.Lt q ↔ p.z < q.z:=by unfold P3.Lt; omega
end Go.Lith
namespace Go.Lith
open Go.RowKit
section
variable {α : Type} {enc : α → List Value} {c : Nat} {w w' : World} {A : Option Addr} {n : Nat} {xs : List α}
structure LAt (enc : α → List Value) (c : Nat) (w : World) (A : Option Addr) (n : Nat) (xs : List α) : Prop where
  len : xs.length = n
  row : ∀ i x,xs[i]? = some x → ∃ a,A = some a ∧ Row w (a.add (i * c)) (enc x)
theorem LAt.ext (h : LAt enc c w A n xs) (hE : Ext w w') : LAt enc c w' A n xs:=⟨h.len,fun i x hi=>let ⟨a,e,hr⟩:=h.row i x hi; ⟨a,e,hr.ext hE⟩⟩
theorem LAt.nil (w : World) (A : Option Addr) : LAt enc c w A 0 []:=⟨rfl,fun i x h=>by cases h⟩
theorem LAt.get (h : LAt enc c w A n xs) {i : Nat} (hi : i < n) : ∃ x,xs[i]? = some x ∧ ∃ a,A = some a ∧ Row w (a.add (i * c)) (enc x):=by
  have hl : i < xs.length:=by rw [h.len]; exact hi
  exact ⟨xs[i],List.getElem?_eq_getElem hl,h.row i _ (List.getElem?_eq_getElem hl)⟩
theorem LAt.at {a : Addr} (h : LAt enc c w (some a) n xs) {i : Nat} {x : α} (hx : xs[i]? = some x) : Row w (a.add (i * c)) (enc x):=by
  obtain ⟨b,e,hr⟩:=h.row i x hx
  cases e
  exact hr
theorem LAt.take (h : LAt enc c w A n xs) {k : Nat} (hk : k ≤ n) : LAt enc c w A k (xs.take k) :=
  ⟨by rw [List.length_take,h.len]; omega,fun i x hx=>h.row i x (by rw [List.getElem?_take] at hx; split at hx; exact hx; cases hx)⟩
theorem flatE_len (hc : ∀ x,(enc x).length = c) : ∀ xs : List α,(xs.flatMap enc).length = xs.length * c
  | []=>by simp
  | x :: xs=>by rw [List.flatMap_cons,List.length_append,hc,flatE_len hc xs,List.length_cons,Nat.add_mul,Nat.one_mul,Nat.add_comm]
theorem flatE_drop (hc : ∀ x,(enc x).length = c) : ∀ (xs : List α) (k : Nat),(xs.drop k).flatMap enc = (xs.flatMap enc).drop (k * c)
  | xs,0=>by simp
  | [],k + 1=>by simp
  | x :: xs,k + 1=>by
    rw [List.drop_succ_cons,List.flatMap_cons,flatE_drop hc xs k,List.drop_append,hc,List.drop_of_length_le (l:=enc x) (by rw [hc,Nat.add_mul]; omega),Nat.add_mul,Nat.one_mul,Nat.add_sub_cancel,List.nil_append]
theorem flatE_at (hc : ∀ x,(enc x).length = c) {xs : List α} {i : Nat} {x : α} (h : xs[i]? = some x) : (xs.flatMap enc).drop (i * c) = enc x ++ (xs.drop (i + 1)).flatMap enc:=by
  rw [← flatE_drop hc,List.drop_eq_getElem_cons (List.getElem?_eq_some_iff.1 h).1,List.flatMap_cons,(List.getElem?_eq_some_iff.1 h).2]
theorem Ow.at {w0 : World} {S : List (Option Nat)} {E : TypeId} {cap g i : Nat} {x : α} (hc : ∀ x,(enc x).length = c) (h : Ow w0 w S E c (Option.some ⟨g,0,none⟩) n cap (xs.flatMap enc)) (hx : xs[i]? = Option.some x) : Row w ((⟨g,0,none⟩ : Addr).add (i * c)) (enc x):=by
  intro j u hj
  have hj' : j < (enc x).length:=(List.getElem?_eq_some_iff.1 hj).1
  rw [addr_add_add]
  refine h.rows _ _ ?_
  rw [← List.getElem?_drop,flatE_at hc hx,List.getElem?_append_left hj']
  exact hj
theorem Ow.num {w0 : World} {S : List (Option Nat)} {E : TypeId} {cap : Nat} (hc : ∀ x,(enc x).length = c) (h0 : 0 < c) (h : Ow w0 w S E c A n cap (xs.flatMap enc)) : xs.length = n:=by
  have:=h.own.1
  rw [flatE_len hc] at this
  exact Nat.eq_of_mul_eq_mul_right h0 this
theorem Ow.lat {w0 : World} {S : List (Option Nat)} {E : TypeId} {cap : Nat} (hc : ∀ x,(enc x).length = c) (h0 : 0 < c) (h : Ow w0 w S E c A n cap (xs.flatMap enc)) : LAt enc c w A n xs :=
  ⟨h.num hc h0,fun i x hx=>by
    have hi:=(List.getElem?_eq_some_iff.1 hx).1
    have hn:=h.num hc h0
    obtain ⟨g,rfl⟩:=h.some (by omega)
    exact ⟨_,rfl,h.at hc hx⟩⟩
theorem LAt.cells (hc : ∀ x,(enc x).length = c) (h0 : 0 < c) (h : LAt enc c w A n xs) : ∀ j u,(xs.flatMap enc)[j]? = some u → ∃ a,A = some a ∧ w.cell? (a.add j) = some u:=fun j u hj=>by
  have hj':=(List.getElem?_eq_some_iff.1 hj).1
  rw [flatE_len hc] at hj'
  have hi : j / c < xs.length:=(Nat.div_lt_iff_lt_mul h0).2 hj'
  obtain ⟨a,rfl,hr⟩:=h.row (j / c) _ (List.getElem?_eq_getElem hi)
  refine ⟨a,rfl,?_⟩
  have hm:=Nat.mod_lt j h0
  have e : j = j / c * c + j % c:=by rw [Nat.mul_comm]; exact (Nat.div_add_mod j c).symm
  have:=hr (j % c) u (by
    rw [e,← List.getElem?_drop,flatE_at hc (List.getElem?_eq_getElem hi),List.getElem?_append_left (by rw [hc]; exact hm)] at hj
    exact hj)
  rw [addr_add_add,← e] at this
  exact this
theorem LAt.cellsD (hc : ∀ x,(enc x).length = c) (h0 : 0 < c) (h : LAt enc c w A n xs) {cap q : Nat} (hcap : n ≤ cap) : ∀ j u,((xs.drop q).flatMap enc)[j]? = some u → ∃ a,(if cap = q then A else A.map (·.add (q * c))) = some a ∧ w.cell? (a.add j) = some u:=fun j u hj=>by
  rw [flatE_drop hc,List.getElem?_drop] at hj
  have hl:=(List.getElem?_eq_some_iff.1 hj).1
  rw [flatE_len hc,h.len] at hl
  obtain ⟨a,rfl,hcl⟩:=h.cells hc h0 _ _ hj
  have : q < n:=by
    refine Nat.lt_of_mul_lt_mul_right (a:=c) ?_
    omega
  rw [if_neg (by omega)]
  exact ⟨_,rfl,by rw [addr_add_add]; exact hcl⟩
end
theorem take_snoc {α : Type} {ps : List α} {k : Nat} {p : α} (h : ps[k]? = some p) : ps.take (k + 1) = ps.take k ++ [p]:=by
  rw [List.take_add_one,h]
  rfl
abbrev E3:=P3 × P3
def edCells (e : E3) : List Value:=[.int .i64 e.1.x,.int .i64 e.1.y,.int .i64 e.1.z,.int .i64 e.2.x,.int .i64 e.2.y,.int .i64 e.2.z]
def ed (e : E3) : Value:=.agg #[.int .i64 e.1.x,.int .i64 e.1.y,.int .i64 e.1.z,.int .i64 e.2.x,.int .i64 e.2.y,.int .i64 e.2.z]
def ptC (p : P3) : List Value:=[.int .i64 p.x,.int .i64 p.y,.int .i64 p.z]
theorem TrisAt.lat {w : World} {A : Option Addr} {n : Nat} {ts : List T3} (h : TrisAt w A n ts) : LAt triCells 9 w A n ts:=⟨h.len,h.row⟩
theorem ed_one (es : List E3) : ∀ u ∈ es.flatMap edCells,u.oneCell' = true:=fun u hu=>by
  obtain ⟨e,_,h⟩:=List.mem_flatMap.1 hu
  simp only [edCells,List.mem_cons,List.not_mem_nil,or_false] at h
  rcases h with rfl | rfl | rfl | rfl | rfl | rfl <;> rfl
theorem pc_one (ps : List P3) : ∀ u ∈ ps.flatMap ptC,u.oneCell' = true:=fun u hu=>by
  obtain ⟨e,_,h⟩:=List.mem_flatMap.1 hu
  simp only [ptC,List.mem_cons,List.not_mem_nil,or_false] at h
  rcases h with rfl | rfl | rfl <;> rfl
theorem tri9 (t : T3) : (triCells t).length = 9:=rfl
theorem ed6 (e : E3) : (edCells e).length = 6:=rfl
theorem pc3 (p : P3) : (ptC p).length = 3:=rfl
def edgesT (ts : List T3) : List E3:=ts.flatMap fun t=>[(t.a,t.b),(t.b,t.c),(t.c,t.a)]
theorem edges_step {ts : List T3} {k : Nat} {t : T3} (h : ts[k]? = some t) : edgesT (ts.take (k + 1)) = edgesT (ts.take k) ++ [(t.a,t.b),(t.b,t.c),(t.c,t.a)]:=by
  unfold edgesT
  rw [take_snoc h,List.flatMap_append]
  simp
theorem edges_len (ts : List T3) : (edgesT ts).length = ts.length * 3:=flatMap_len ts fun _ _=>rfl
def cntE (es : List E3) (e : E3) : Nat:=(es.filter fun x=>decide (x = e)).length
theorem cnt_step {es : List E3} {k : Nat} {x e : E3} (h : es[k]? = some x) : cntE (es.take (k + 1)) e = cntE (es.take k) e + if x = e then 1 else 0:=by
  unfold cntE
  rw [take_snoc h,List.filter_append,List.length_append]
  by_cases hx : x = e <;> simp [hx]
theorem cnt_le {es : List E3} {e : E3} : cntE es e ≤ es.length:=List.length_filter_le _ _
end Go.Lith
namespace Go.Lith
open Go.RowKit
theorem set_sm {α : Type} {is : List α} {k : Nat} {i : α} (h : is[k]? = some i) : is.set k i = is:=by
  apply List.ext_getElem?
  intro j
  rw [List.getElem?_set]
  split
  · rename_i e
    subst e
    rw [if_pos (List.getElem?_eq_some_iff.1 h).1,h]
  · rfl
theorem pull_perm {α : Type} : ∀ (l : List α) (j : Nat) (x : α),l[j]? = some x → (x :: l.eraseIdx j).Perm l
  | [],j,x,h=>by cases h
  | y :: l,0,x,h=>by cases h; exact .refl _
  | y :: l,j + 1,x,h=>((List.Perm.swap y x _)).trans ((pull_perm l j x h).cons y)
theorem Mem.pull {w0 w : World} {is : List It} (m : Mem w0 w is) (j : Nat) {x : It} (hj : is[j]? = some x) : Mem w0 w (x :: is.eraseIdx j):=by
  have hp:=pull_perm is j x hj
  exact ⟨m.ext,fun i hi=>m.all i (hp.mem_iff.1 hi),fun i hi=>m.ge i (hp.mem_iff.1 hi),(hp.pairwise_iff (fun {a b} (h : Ap a b)=>h.symm)).2 m.nd⟩
theorem Mem.mv {w0 w : World} {is : List It} {y : It} (m : Mem w0 w (y :: is)) (k : Nat) {x : It} (hk : is[k]? = some x) : Mem w0 w (is.set k y):=by
  obtain ⟨h1,h2⟩:=List.pairwise_cons.1 m.nd
  have hm : ∀ i ∈ is.set k y,i ∈ y :: is:=fun i hi=>(List.mem_or_eq_of_mem_set hi).elim (List.mem_cons_of_mem _) (fun e=>e ▸ List.mem_cons_self)
  exact ⟨m.ext,fun i hi=>m.all i (hm i hi),fun i hi=>m.ge i (hm i hi),pw_set is k h2 hk fun x hx _=>h1 x hx⟩
theorem E_zero {α : Type} {a : α} {l : List α} : (a :: l).eraseIdx 0 = l:=rfl
theorem E_succ {α : Type} {a : α} {l : List α} {n : Nat} : (a :: l).eraseIdx (n + 1) = a :: l.eraseIdx n:=rfl
def SL (E : TypeId) (c : Nat) (cs : List Value) (n : Nat) (w : World) (v : Value) (w' : World) : Prop:=∃ A cap n',n' = n ∧ v = .slice A n' cap ∧ Ow w w' [] E c A n' cap cs
/-! ### Points put into a sorted list -/
def posP (ps : List P3) (p : P3) : Nat:=(ps.takeWhile fun x=>decide (x.Lt p)).length
def withP (ps : List P3) (p : P3) : List P3:=if ps[posP ps p]? = some p then ps else ps.take (posP ps p) ++ [p] ++ ps.drop (posP ps p)
def cornersT (ts : List T3) : List P3:=ts.foldl (fun ps t=>withP (withP (withP ps t.a) t.b) t.c) []
theorem corners_step {ts : List T3} {k : Nat} {t : T3} (h : ts[k]? = some t) : cornersT (ts.take (k + 1)) = withP (withP (withP (cornersT (ts.take k)) t.a) t.b) t.c:=by
  unfold cornersT
  rw [take_snoc h,List.foldl_append]
  rfl
theorem withP_len (ps : List P3) (p : P3) : (withP ps p).length ≤ ps.length + 1:=by
  unfold withP
  split
  · omega
  · simp; omega
theorem corners_len (ts : List T3) : (cornersT ts).length ≤ ts.length * 3:=by
  have : ∀ (ts : List T3) (ps : List P3),(ts.foldl (fun ps t=>withP (withP (withP ps t.a) t.b) t.c) ps).length ≤ ps.length + ts.length * 3:=by
    intro ts
    induction ts with
    | nil=>intro ps; simp
    | cons t ts ih =>
      intro ps
      have h1:=ih (withP (withP (withP ps t.a) t.b) t.c)
      have h2:=withP_len ps t.a
      have h3:=withP_len (withP ps t.a) t.b
      have h4:=withP_len (withP (withP ps t.a) t.b) t.c
      rw [List.foldl_cons,List.length_cons]
      omega
  have:=this ts []
  simpa [cornersT] using this
section
variable {α : Type} {p : α → Bool} {l : List α} {k : Nat}
theorem tw_ge (h : ∀ j x,j < k → l[j]? = some x → p x = true) (hk : k ≤ l.length) : k ≤ (l.takeWhile p).length:=by
  induction l generalizing k with
  | nil=>simp at hk; omega
  | cons x l ih =>
    cases k with
    | zero=>omega
    | succ k =>
      have hx:=h 0 x (by omega) rfl
      rw [List.takeWhile_cons,if_pos hx,List.length_cons]
      have:=ih (k:=k) (fun j y hj hy=>h (j + 1) y (by omega) (by simpa using hy)) (by simp at hk; omega)
      omega
theorem tw_le {x : α} (hx : l[k]? = some x) (h : p x = false) : (l.takeWhile p).length ≤ k:=by
  induction l generalizing k with
  | nil=>cases hx
  | cons y l ih =>
    rw [List.takeWhile_cons]
    split
    · cases k with
      | zero =>
        rename_i hy
        cases hx
        rw [h] at hy; cases hy
      | succ k =>
        rw [List.length_cons]
        have:=ih (k:=k) (by simpa using hx)
        omega
    · simp
theorem tw_len : (l.takeWhile p).length ≤ l.length:=(List.takeWhile_sublist p).length_le
theorem tw_eq {x : α} (h : ∀ j x,j < k → l[j]? = some x → p x = true) (hx : l[k]? = some x) (h2 : p x = false) : (l.takeWhile p).length = k:=Nat.le_antisymm (tw_le hx h2) (tw_ge h (Nat.le_of_lt (List.getElem?_eq_some_iff.1 hx).1))
theorem tw_all (h : ∀ j x,j < l.length → l[j]? = some x → p x = true) : (l.takeWhile p).length = l.length:=Nat.le_antisymm tw_len (tw_ge h (Nat.le_refl _))
def Pre (p : α → Bool) (l : List α) (k : Nat) : Prop:=∀ j x,j < k → l[j]? = some x → p x = true
theorem Pre.zero : Pre p l 0:=fun j _ hj=>by omega
theorem Pre.step {x : α} (h : Pre p l k) (hx : l[k]? = some x) (hp : p x = true) : Pre p l (k + 1):=fun j y hj hy=>by
  rcases Nat.lt_or_ge j k with h1 | h1
  · exact h j y h1 hy
  · obtain rfl : j = k:=by omega
    rw [hx] at hy
    cases hy
    exact hp
end
/-! ### The border -/
def ltE (a b : E3) : Bool:=if a.1 ≠ b.1 then decide (a.1.Lt b.1) else decide (a.2.Lt b.2)
def posE (es : List E3) (e : E3) : Nat:=(es.takeWhile fun x=>ltE x e).length
def insE (es : List E3) (e : E3) : List E3:=es.take (posE es e) ++ [e] ++ es.drop (posE es e)
def bordS (all : List E3) (out : List E3) (e : E3) : List E3:=if 0 < cntE all (e.2,e.1) ∨ 0 < cntE out e then out else insE out e
def borderT (ts : List T3) : List E3:=(edgesT ts).foldl (bordS (edgesT ts)) []
theorem bord_step {all es : List E3} {k : Nat} {e : E3} (h : es[k]? = some e) : (es.take (k + 1)).foldl (bordS all) [] = bordS all ((es.take k).foldl (bordS all) []) e:=by
  rw [take_snoc h,List.foldl_append]
  rfl
/-! ### Pinched corners -/
def T3.fnd (t : T3) (p q : P3) : Option P3:=if t.a = p ∧ t.b = q then some t.c else if t.b = p ∧ t.c = q then some t.a else if t.c = p ∧ t.a = q then some t.b else none
def behindT : List T3 → P3 → P3 → Option P3
  | [],_,_=>none
  | t :: ts,p,q=>match t.fnd p q with
    | some x=>some x
    | none=>behindT ts p q
theorem behind_step {ts : List T3} {k : Nat} {t : T3} {p q : P3} (h : ts[k]? = some t) (h0 : behindT (ts.take k) p q = none) : behindT (ts.take (k + 1)) p q = t.fnd p q:=by
  rw [take_snoc h]
  clear h
  generalize ts.take k = us at h0 ⊢
  induction us with
  | nil=>simp only [List.nil_append,behindT]; cases t.fnd p q <;> rfl
  | cons u us ih =>
    rw [List.cons_append]
    simp only [behindT] at h0 ⊢
    cases hu : u.fnd p q with
    | some x=>rw [hu] at h0; cases h0
    | none=>rw [hu] at h0; exact ih h0
theorem behind_take {ts : List T3} {k : Nat} {p q x : P3} (h : behindT (ts.take k) p q = some x) : behindT ts p q = some x:=by
  induction ts generalizing k with
  | nil=>simp [behindT] at h
  | cons u us ih =>
    cases k with
    | zero=>simp [behindT] at h
    | succ k =>
      rw [List.take_succ_cons] at h
      unfold behindT at h ⊢
      cases hu : u.fnd p q with
      | some y=>rw [hu] at h; exact h
      | none=>rw [hu] at h; exact ih h
def mineC (p : P3) (t : T3) (c : Nat) : List T3:=if t.cor c = p then [t] else []
def mineU (p : P3) (t : T3) (c : Nat) : List T3:=(List.range c).flatMap (mineC p t)
def mineT (ts : List T3) (p : P3) : List T3:=ts.flatMap fun t=>mineU p t 3
def startC (p : P3) (t : T3) (c : Nat) : List P3:=if t.cor c = p then [t.cor ((c + 1) % 3)] else []
def startU (p : P3) (t : T3) (c : Nat) : List P3:=(List.range c).flatMap (startC p t)
def startT (ts : List T3) (p : P3) : List P3:=ts.flatMap fun t=>startU p t 3
theorem mineU_step (p : P3) (t : T3) (c : Nat) : mineU p t (c + 1) = mineU p t c ++ mineC p t c:=by simp [mineU,List.range_succ]
theorem startU_step (p : P3) (t : T3) (c : Nat) : startU p t (c + 1) = startU p t c ++ startC p t c:=by simp [startU,List.range_succ]
theorem mine_step {ts : List T3} {k : Nat} {t : T3} {p : P3} (h : ts[k]? = some t) : mineT (ts.take (k + 1)) p = mineT (ts.take k) p ++ mineU p t 3:=by
  unfold mineT
  rw [take_snoc h,List.flatMap_append]
  simp
theorem start_step {ts : List T3} {k : Nat} {t : T3} {p : P3} (h : ts[k]? = some t) : startT (ts.take (k + 1)) p = startT (ts.take k) p ++ startU p t 3:=by
  unfold startT
  rw [take_snoc h,List.flatMap_append]
  simp
def mineP (ts : List T3) (p : P3) (k : Nat) (t : T3) (c : Nat) : List T3:=mineT (ts.take k) p ++ mineU p t c
def startP (ts : List T3) (p : P3) (k : Nat) (t : T3) (c : Nat) : List P3:=startT (ts.take k) p ++ startU p t c
theorem mineP_yes {ts : List T3} {p : P3} {k c : Nat} {t : T3} (h : t.cor c = p) : mineP ts p k t (c + 1) = mineP ts p k t c ++ [t]:=by
  unfold mineP
  rw [mineU_step,mineC,if_pos h,List.append_assoc]
theorem mineP_no {ts : List T3} {p : P3} {k c : Nat} {t : T3} (h : ¬ t.cor c = p) : mineP ts p k t (c + 1) = mineP ts p k t c:=by
  unfold mineP
  rw [mineU_step,mineC,if_neg h,List.append_nil]
theorem startP_yes {ts : List T3} {p : P3} {k c : Nat} {t : T3} (h : t.cor c = p) : startP ts p k t (c + 1) = startP ts p k t c ++ [t.cor ((c + 1) % 3)]:=by
  unfold startP
  rw [startU_step,startC,if_pos h,List.append_assoc]
theorem startP_no {ts : List T3} {p : P3} {k c : Nat} {t : T3} (h : ¬ t.cor c = p) : startP ts p k t (c + 1) = startP ts p k t c:=by
  unfold startP
  rw [startU_step,startC,if_neg h,List.append_nil]
theorem mineP_0 {ts : List T3} {p : P3} {k : Nat} {t : T3} : mineP ts p k t 0 = mineT (ts.take k) p:=by simp [mineP,mineU]
theorem startP_0 {ts : List T3} {p : P3} {k : Nat} {t : T3} : startP ts p k t 0 = startT (ts.take k) p:=by simp [startP,startU]
theorem mineP_3 {ts : List T3} {p : P3} {k : Nat} {t : T3} (h : ts[k]? = some t) : mineP ts p k t 3 = mineT (ts.take (k + 1)) p:=by rw [mine_step h]; rfl
theorem startP_3 {ts : List T3} {p : P3} {k : Nat} {t : T3} (h : ts[k]? = some t) : startP ts p k t 3 = startT (ts.take (k + 1)) p:=by rw [start_step h]; rfl
theorem pt_and {x y : P3} : (x.x = y.x ∧ x.y = y.y ∧ x.z = y.z) ↔ x = y:=⟨fun h=>P3.eq h.1 h.2.1 h.2.2,fun h=>by rw [h]; exact ⟨rfl,rfl,rfl⟩⟩
theorem two_pts {x y u v : P3} : (decide (x.x = y.x ∧ x.y = y.y ∧ x.z = y.z) && decide (u.x = v.x ∧ u.y = v.y ∧ u.z = v.z)) = true ↔ x = y ∧ u = v:=by
  rw [Bool.and_eq_true,decide_eq_true_eq,decide_eq_true_eq,pt_and,pt_and]
theorem no_pts {x y u v : P3} (h : (decide (x.x = y.x ∧ x.y = y.y ∧ x.z = y.z) && decide (u.x = v.x ∧ u.y = v.y ∧ u.z = v.z)) = false) : ¬ (x = y ∧ u = v):=fun k=>by
  rw [two_pts.2 k] at h
  cases h
theorem fnd0 {t : T3} {p q : P3} (h : t.cor 0 = p ∧ t.cor 1 = q) : t.fnd p q = some (t.cor 2):=if_pos h
theorem fnd1 {t : T3} {p q : P3} (h0 : ¬ (t.cor 0 = p ∧ t.cor 1 = q)) (h : t.cor 1 = p ∧ t.cor 2 = q) : t.fnd p q = some (t.cor 0):=(if_neg h0).trans (if_pos h)
theorem fnd2 {t : T3} {p q : P3} (h0 : ¬ (t.cor 0 = p ∧ t.cor 1 = q)) (h1 : ¬ (t.cor 1 = p ∧ t.cor 2 = q)) (h : t.cor 2 = p ∧ t.cor 0 = q) : t.fnd p q = some (t.cor 1):=(if_neg h0).trans ((if_neg h1).trans (if_pos h))
theorem fndn {t : T3} {p q : P3} (h0 : ¬ (t.cor 0 = p ∧ t.cor 1 = q)) (h1 : ¬ (t.cor 1 = p ∧ t.cor 2 = q)) (h2 : ¬ (t.cor 2 = p ∧ t.cor 0 = q)) : t.fnd p q = none:=(if_neg h0).trans ((if_neg h1).trans (if_neg h2))
def ringT (ms : List T3) (p s : P3) : Nat → P3 → Bool
  | 0,_=>false
  | n + 1,at_=>match behindT ms p at_ with
    | none=>false
    | some x=>if x = s then true else ringT ms p s n x
theorem ring_none {ms : List T3} {p s x : P3} {n : Nat} (h : behindT ms p x = none) : ringT ms p s n x = false:=by
  cases n with
  | zero=>rfl
  | succ n=>simp only [ringT,h]
theorem ring_hit {ms : List T3} {p s x : P3} {n : Nat} (h : behindT ms p x = some s) : ringT ms p s (n + 1) x = true:=by simp [ringT,h]
theorem ring_next {ms : List T3} {p s x y : P3} {n : Nat} (h : behindT ms p x = some y) (hy : ¬ y = s) : ringT ms p s (n + 1) x = ringT ms p s n y:=by simp [ringT,h,hy]
def pinT (ts : List T3) (p : P3) : Bool:=(startT ts p).any fun s=>ringT (mineT ts p) p s ((mineT ts p).length - 1) s
def degT (t : T3) : Bool:=decide (t.a = t.b) || decide (t.b = t.c) || decide (t.c = t.a)
theorem deg_eq {t : T3} : (decide (t.a.x = t.b.x ∧ t.a.y = t.b.y ∧ t.a.z = t.b.z) || decide (t.b.x = t.c.x ∧ t.b.y = t.c.y ∧ t.b.z = t.c.z) || decide (t.c.x = t.a.x ∧ t.c.y = t.a.y ∧ t.c.z = t.a.z)) = degT t:=by
  simp only [pt_and,degT]
def checkT (op : Bool) (ts : List T3) : Int :=
  if ts.any degT then 20 else if (edgesT ts).any (fun e=>decide (1 < cntE (edgesT ts) e)) then 21
  else if !op && decide (0 < (borderT ts).length) then 22 else if (cornersT ts).any (pinT ts) then 23 else 0
theorem any_take {α : Type} {p : α → Bool} {l : List α} {k : Nat} {x : α} (hx : l[k]? = some x) : (l.take (k + 1)).any p = ((l.take k).any p || p x):=by
  rw [take_snoc hx,List.any_append]
  simp
theorem any_hit {α : Type} {p : α → Bool} {l : List α} {k : Nat} {x : α} (hx : l[k]? = some x) (h : p x = true) : l.any p = true:=List.any_eq_true.2 ⟨x,List.mem_of_getElem? hx,h⟩
end Go.Lith
namespace Go.Lith
open Go.RowKit
def MapB (w : World) (g : Nat) (es : Array MapEntry) (c : Nat) : Prop:=w.heap[g]? = some (.map es c)
def IterB (w : World) (r g s : Nat) (seen : Array Nat) (c : Nat) : Prop:=w.heap[r]? = some (.mapIter (some g) s seen c)
theorem MapB.ext {w w' : World} {g c : Nat} {es : Array MapEntry} (h : MapB w g es c) (hE : Ext w w') : MapB w' g es c:=hE.block h
theorem IterB.ext {w w' : World} {r g s c : Nat} {seen : Array Nat} (h : IterB w r g s seen c) (hE : Ext w w') : IterB w' r g s seen c:=hE.block h
theorem MapB.chg {w w' : World} {g c k : Nat} {es : Array MapEntry} (h : MapB w g es c) (hC : Chg w w' k) (hne : g ≠ k) : MapB w' g es c:=(hC.block g hne).trans h
theorem IterB.chg {w w' : World} {r g s c k : Nat} {seen : Array Nat} (h : IterB w r g s seen c) (hC : Chg w w' k) (hne : r ≠ k) : IterB w' r g s seen c:=(hC.block r hne).trans h
theorem MapB.lt {w : World} {g c : Nat} {es : Array MapEntry} (h : MapB w g es c) : g < w.heap.size:=(Array.getElem?_eq_some_iff.1 h).1
theorem IterB.lt {w : World} {r g s c : Nat} {seen : Array Nat} (h : IterB w r g s seen c) : r < w.heap.size:=(Array.getElem?_eq_some_iff.1 h).1
section
variable {P : Program} {ds : List Deferred} {l : List Value} {x : Operand} {T ty : TypeId} {ops : Array Oper} {Q : Exit → Act → World → Prop} {rest : List Oper} {d : Nat} {pos : String} {after : Array Edge} {w : World}
end
end Go.Lith
