/-
  Texts of one claim, laid together: Meas5, RefG1, RefG2, RefG3, Sane.
-/
import Derived.Test.YtmcgcnpgkkfkoaaGreatDoorB5
set_option linter.unusedSimpArgs false
set_option linter.unusedVariables false
namespace Go.Proofs.YtmcgcnpgkkfkoaaGreatDoor
open Go.RowKit Go.Lith
set_option maxRecDepth 100000
attribute [local irreducible] wpList wpQuiet wpMix wpMixH wpTree Code.wp
set_option maxHeartbeats 400000 in
theorem Volume_c {ts : List T3} {N cap : Nat} {A : Option Addr} (w : World) (hT : TrisAt w A N ts) (hN : N < 4611686018427387904) : Does Tryz.prog 25 [.slice A N cap] w (fun v _ => v = Q (Rat.divInt (sumT det ts) 6)) := by
 refine ⟨en_25, ?_⟩
 have m := Mem.refl w
 haveI : Bw 264 (sumT det ts) := ⟨sumT_bd (m := 200) (fun u hu => by haveI := hT.it u hu; exact det_bd) (by rw [hT.len]; omega)⟩
 go_enter Tryz.func25, Tryz.ntmps25
 refine c_seq fun K1 k1 => wp_region_lit (malloc m zero_34 rfl ?_)
 clear m; intro g1 u m
 refine n_nil (k1 _ _ ?_)
 refine c_seq fun K2 k2 => wp_region_lit (n_val (r_move) ?_)
 simp only [ev,zD,zE,zF,zG]
 refine mcall m rfl rfl (Volume6_c _ (hT.ext m.ext) hN) ?_
 clear m; rintro v u m rfl
 simp only [ev,zD,zE,zF,zG]
 refine mcallP m rfl rfl (From_c Iw.h) ?_
 clear m; intro u m
 simp only [ev,zD,zE,zF,zG]
 refine mcallP m rfl rfl (mFrac_c (n := sumT det ts) (d := 6) Bw.up Bw.up (by decide)) ?_
 clear m; intro u m
 simp only [ev,zD,zE,zF,zG]
 refine mstoreA m 0 rfl rfl rfl cells_34 (leT rfl) rfl ?_
 clear m; intro u m; simp only [over,zH,zI,zJ,zK,zL,zM,zN,zO,zP,zF,zG,Nat.reduceAdd] at m
 refine n_nil (k2 _ _ ?_)
 refine wp_ret ?_
 try simp only [Exit.inBlock,Exit.then,if_true]
 refine fin1 rfl ⟨_, rfl, ((m.b 0 rfl).full agg_34 cells_34)⟩ ?_
 try simp only [zD,zE]
 exact ⟨_, rfl, m.ext, rfl⟩

set_option maxHeartbeats 2000000 in
theorem Centre_c {ts : List T3} {N cap : Nat} {A : Option Addr} (w : World) (hT : TrisAt w A N ts) (hN : N < 4611686018427387904) : Does Tryz.prog 22 [.slice A N cap] w (fun v _ => v = .tuple #[fv (cq (sumT (mom P3.x) ts) (sumT det ts)) (cq (sumT (mom P3.y) ts) (sumT det ts)) (cq (sumT (mom P3.z) ts) (sumT det ts)), .bool (decide (sumT det ts ≠ 0))]) := by
 refine ⟨en_22, ?_⟩
 have m := Mem.refl w
 go_enter Tryz.func22, Tryz.ntmps22
 refine c_seq fun K1 k1 => wp_region_lit (malloc m zero_49 rfl ?_)
 clear m; intro g1 u m
 refine n_val (r_assign) (n_nil (k1 _ _ ?_))
 refine c_seq fun K2 k2 => wp_region_lit ?_
 simp only [ev,zD,zE,zF,zG]
 refine malloc m zero_32 rfl ?_
 clear m; intro g2 u m
 refine n_nil (k2 _ _ ?_)
 refine c_seq fun K3 k3 => wp_region_lit ?_
 simp only [ev,zD,zE,zF,zG]
 refine malloc m zero_76 rfl ?_
 clear m; intro g3 u m
 refine n_nil (k3 _ _ ?_)
 refine c_seq fun K4 k4 => c_seq fun K5 k5 => wp_region_lit (n_val (r_move) (n_val (r_lenS rfl Tryz.underlying24 rfl) (n_val (r_move) ?_)))
 simp only [ev,zD,zE,zF,zG]
 refine n_nil (k5 _ _ ?_)
 refine wp_block ?_
 refine c_loopg [18] [7, 8, 9, 10, 12, 19, 20, 21, 22, 23, 24, 25, 26, 27, 28, 29, 30, 31, 32, 33, 34, 35, 36, 37, 38, 39, 40, 41, 42, 43, 44, 45, 46, 47, 48, 49, 50, 51] (fun n vs wl => ∃ (k : Nat), vs = [.int .i64 (k:Int)] ∧ Mem w wl [bI g3 [.bool (wneg (sumT (mom P3.x) (ts.take k))), .string (wmag (sumT (mom P3.x) (ts.take k))), .bool (wneg (sumT (mom P3.y) (ts.take k))), .string (wmag (sumT (mom P3.y) (ts.take k))), .bool (wneg (sumT (mom P3.z) (ts.take k))), .string (wmag (sumT (mom P3.z) (ts.take k)))] 76, bI g2 [.bool (wneg (sumT det (ts.take k))), .string (wmag (sumT det (ts.take k)))] 32, bI g1 [.bool false, .string ⟨#[]⟩, .bool false, .string ⟨#[]⟩, .bool false, .string ⟨#[]⟩, .bool false, .string ⟨#[]⟩, .bool false, .string ⟨#[]⟩, .bool false, .string ⟨#[]⟩] 49] ∧ (k ≤ N) ∧ (n = N - k)) ?_ ?_
 ·
  apply Exists.intro
  simp only [zQ,zR,zD,zE]
  exact ⟨0, rfl, m, Nat.zero_le _, rfl⟩
 ·
  intro n vs wr hI u
  clear m
  obtain ⟨k, rfl, m, hk, hn⟩ := hI
  simp only [setG_cons,setG_nil,setMany_cons,setMany_nil,zF,zG]
  refine c_seq fun K6 k6 => wp_region_lit (n_val (r_lss rfl rfl) (n_nil (k6 _ _ ?_)))
  refine c_seq fun K7 k7 => ?_
  simp only [ev,zD,zE,zF,zG]
  refine c_if rfl (fun hc1 => ?_) (fun hc1 => ?_)
  ·
   obtain ⟨t, ht, _, a, rfl, hrow⟩ := hT.get (i := k) (by omega)
   haveI : Bw 264 (sumT det (ts.take k)) := ⟨sumT_bdt (m := 200) (fun u hu => by haveI := hT.it u hu; exact det_bd) (by rw [hT.len]; omega)⟩
   haveI : Bw 364 (sumT (mom P3.x) (ts.take k)) := ⟨sumT_bdt (m := 300) (fun u hu => by haveI := hT.it u hu; exact mom_bd Iw.h.bd Iw.h.bd Iw.h.bd) (by rw [hT.len]; omega)⟩
   haveI : Bw 364 (sumT (mom P3.y) (ts.take k)) := ⟨sumT_bdt (m := 300) (fun u hu => by haveI := hT.it u hu; exact mom_bd Iw.h.bd Iw.h.bd Iw.h.bd) (by rw [hT.len]; omega)⟩
   haveI : Bw 364 (sumT (mom P3.z) (ts.take k)) := ⟨sumT_bdt (m := 300) (fun u hu => by haveI := hT.it u hu; exact mom_bd Iw.h.bd Iw.h.bd Iw.h.bd) (by rw [hT.len]; omega)⟩
   refine wp_skip (k7 _ _ ?_)
   refine c_seq fun K8 k8 => wp_block (c_seq fun K9 k9 => wp_region_lit (n_val (r_indexAddrS Tryz.underlying24 cells_59 rfl rfl (by omega) (by omega) (addrN (Int.toNat_natCast _))) ?_))
   simp only [ev,zD,zE,zF,zG]
   refine n_load rfl ((hrow.ext m.ext).lies agg_59 cells_59) ?_
   simp only [ev,zD,zE,zF,zG]
   refine malloc m zero_59 rfl ?_
   clear m; intro g4 u m
   simp only [ev,zD,zE,zF,zG]
   refine mstoreA m 0 rfl rfl rfl cells_59 (leT rfl) rfl ?_
   clear m; intro u m; simp only [over,zH,zI,zJ,zK,zL,zM,zN,zO,zP,zF,zG,Nat.reduceAdd] at m
   refine n_nil (k9 _ _ ?_)
   refine c_seq fun K10 k10 => wp_region_lit (n_load rfl ((m.b 0 rfl).full agg_59 cells_59) ?_)
   simp only [ev,zD,zE,zF,zG]
   refine n_bs_24_1 rfl ?_
   intro u g5 e hg hB; replace m := m.newB e hg hB; clear e hg hB
   simp only [ev,zD,zE,zF,zG]
   refine mcall m rfl rfl (Volume6_c _ (TrisAt.one (m.b 0 rfl)) (by decide)) ?_
   clear m; rintro v u m rfl
   simp only [ev,zD,zE,zF,zG]
   rw [sumT_one]
   refine malloc m zero_32 rfl ?_
   clear m; intro g6 u m
   simp only [ev,zD,zE,zF,zG]
   refine mstoreA m 0 rfl rfl rfl cells_32 (leT rfl) rfl ?_
   clear m; intro u m; simp only [over,zH,zI,zJ,zK,zL,zM,zN,zO,zP,zF,zG,Nat.reduceAdd] at m
   refine n_nil (k10 _ _ ?_)
   refine c_seq fun K11 k11 => wp_region_lit (n_load rfl ((m.b 4 rfl).full agg_32 cells_32) ?_)
   simp only [ev,zD,zE,zF,zG]
   refine n_load rfl ((m.b 0 rfl).full agg_32 cells_32) ?_
   simp only [ev,zD,zE,zF,zG]
   refine mcallP m rfl rfl (Add_c Bw.up Bw.up) ?_
   clear m; intro u m
   simp only [ev,zD,zE,zF,zG]
   refine mstoreA m 4 rfl rfl rfl cells_32 (leT rfl) rfl ?_
   clear m; intro u m; simp only [over,zH,zI,zJ,zK,zL,zM,zN,zO,zP,zF,zG,Nat.reduceAdd] at m
   refine n_nil (k11 _ _ ?_)
   refine c_seq fun K12 k12 => wp_region_lit (mcallP m rfl rfl (readers_c) ?_)
   clear m; intro u m
   refine n_val (r_move) (n_nil (k12 _ _ ?_))
   refine wp_block (wp_loop_rounds 4 (rounds_step (c_seq fun K13 k13 => wp_region_lit (n_val (r_lssT (m := 0) (n := 3) rfl rfl (by decide)) (n_nil (k13 _ _ ?_))))))
   refine c_seq fun K14 k14 => c_yes rfl (wp_skip (k14 _ _ ?_))
   refine c_seq fun K15 k15 => wp_block (c_seq fun K16 k16 => wp_region_lit (n_val (r_move) ?_))
   simp only [ev,zD,zE,zF,zG]
   refine n_val (r_index_95_0 rfl rfl) (n_val (r_assign) (n_val (r_assign) (n_nil (k16 _ _ ?_))))
   refine c_seq fun K17 k17 => wp_region_lit ?_
   simp only [ev,zD,zE,zF,zG]
   refine n_load rfl ((m.b 2 rfl).full agg_59 cells_59) ?_
   simp only [ev,zD,zE,zF,zG]
   refine n_val (r_move) (n_nil (k17 _ _ ?_))
   refine wp_block (wp_loop_rounds 4 (rounds_step (c_seq fun K18 k18 => wp_region_lit (n_val (r_lssT (m := 0) (n := 3) rfl rfl (by decide)) (n_nil (k18 _ _ ?_))))))
   refine c_seq fun K19 k19 => c_yes rfl (wp_skip (k19 _ _ ?_))
   refine c_seq fun K20 k20 => wp_block (c_seq fun K21 k21 => wp_region_lit (n_val (r_index_59_0 rfl rfl) ?_))
   simp only [ev,zD,zE,zF,zG]
   refine malloc m zero_28 rfl ?_
   clear m; intro g7 u m
   simp only [ev,zD,zE,zF,zG]
   refine mstoreA m 0 rfl rfl rfl cells_28 (leT rfl) rfl ?_
   clear m; intro u m; simp only [over,zH,zI,zJ,zK,zL,zM,zN,zO,zP,zF,zG,Nat.reduceAdd] at m
   refine n_nil (k21 _ _ ?_)
   refine mq_tail m 12 follows_mixed (by kernel_rfl) ?_
   simp only [zH,zI,zJ,zK]
   refine q_val (r_move) (q_val (r_move) (q_val (r_indexAddrA Tryz.underlying76 cells_32 rfl rfl (by decide) (by decide) rfl) ?_))
   simp only [ev,zD,zE,zF,zG]
   refine ql rfl (fun u m => ((m.b 4 rfl).lies agg_32 cells_32 rfl rfl)) ?_
   simp only [ev,zD,zE,zF,zG,zH,zI,zJ,zK,Nat.zero_add,Nat.reduceAdd,Nat.reduceMul,Int.reduceToNat]
   refine ql rfl (fun u m => ((m.b 1 rfl).full agg_32 cells_32)) ?_
   simp only [ev,zD,zE,zF,zG]
   refine q_val (r_move) ?_
   simp only [ev,zD,zE,zF,zG]
   refine ql rfl (fun u m => ((m.b 0 rfl).full agg_28 cells_28)) ?_
   simp only [ev,zD,zE,zF,zG]
   refine qcP rfl rfl (me_x) ?_
   simp only [ev,zD,zE,zF,zG]
   refine qcP rfl rfl (From_c Iw.h) ?_
   simp only [ev,zD,zE,zF,zG]
   refine qcP rfl rfl (Mul_c Bw.up Bw.up) ?_
   simp only [ev,zD,zE,zF,zG]
   refine qcP rfl rfl (Add_c Bw.up Bw.up) (q_val (r_indexAddrA Tryz.underlying76 cells_32 rfl rfl (by decide) (by decide) rfl) (q_nil ?_))
   clear m; intro u m
   simp only [ev,zD,zE,zF,zG]
   refine mstoreA m 4 rfl rfl rfl cells_32 (leT rfl) rfl ?_
   clear m; intro u m; simp only [over,zH,zI,zJ,zK,zL,zM,zN,zO,zP,zF,zG,Nat.reduceAdd] at m
   refine n_nil (k20 _ _ ?_)
   refine wp_region_lit (n_val (r_add (m := 0) (n := 1) (r := 1) rfl rfl (by decide)) (n_val (r_move) (n_nil (then_rounds (c_seq fun K22 k22 => wp_region_lit (n_val (r_lssT (m := 1) (n := 3) rfl rfl (by decide)) (n_nil (k22 _ _ ?_))))))))
   refine c_seq fun K23 k23 => c_yes rfl (wp_skip (k23 _ _ ?_))
   refine c_seq fun K24 k24 => wp_block (c_seq fun K25 k25 => wp_region_lit (n_val (r_index_59_1 rfl rfl) ?_))
   simp only [ev,zD,zE,zF,zG]
   refine malloc m zero_28 rfl ?_
   clear m; intro g8 u m
   simp only [ev,zD,zE,zF,zG]
   refine mstoreA m 0 rfl rfl rfl cells_28 (leT rfl) rfl ?_
   clear m; intro u m; simp only [over,zH,zI,zJ,zK,zL,zM,zN,zO,zP,zF,zG,Nat.reduceAdd] at m
   refine n_nil (k25 _ _ ?_)
   refine mq_tail m 12 follows_mixed (by kernel_rfl) ?_
   simp only [zH,zI,zJ,zK]
   refine q_val (r_move) (q_val (r_move) (q_val (r_indexAddrA Tryz.underlying76 cells_32 rfl rfl (by decide) (by decide) rfl) ?_))
   simp only [ev,zD,zE,zF,zG]
   refine ql rfl (fun u m => ((m.b 5 rfl).lies agg_32 cells_32 rfl rfl)) ?_
   simp only [ev,zD,zE,zF,zG,zH,zI,zJ,zK,Nat.zero_add,Nat.reduceAdd,Nat.reduceMul,Int.reduceToNat]
   refine ql rfl (fun u m => ((m.b 2 rfl).full agg_32 cells_32)) ?_
   simp only [ev,zD,zE,zF,zG]
   refine q_val (r_move) ?_
   simp only [ev,zD,zE,zF,zG]
   refine ql rfl (fun u m => ((m.b 0 rfl).full agg_28 cells_28)) ?_
   simp only [ev,zD,zE,zF,zG]
   refine qcP rfl rfl (me_x) ?_
   simp only [ev,zD,zE,zF,zG]
   refine qcP rfl rfl (From_c Iw.h) ?_
   simp only [ev,zD,zE,zF,zG]
   refine qcP rfl rfl (Mul_c Bw.up Bw.up) ?_
   simp only [ev,zD,zE,zF,zG]
   refine qcP rfl rfl (Add_c Bw.up Bw.up) (q_val (r_indexAddrA Tryz.underlying76 cells_32 rfl rfl (by decide) (by decide) rfl) (q_nil ?_))
   clear m; intro u m
   simp only [ev,zD,zE,zF,zG]
   refine mstoreA m 5 rfl rfl rfl cells_32 (leT rfl) rfl ?_
   clear m; intro u m; simp only [over,zH,zI,zJ,zK,zL,zM,zN,zO,zP,zF,zG,Nat.reduceAdd] at m
   refine n_nil (k24 _ _ ?_)
   refine wp_region_lit (n_val (r_add (m := 1) (n := 1) (r := 2) rfl rfl (by decide)) (n_val (r_move) (n_nil (then_rounds (c_seq fun K26 k26 => wp_region_lit (n_val (r_lssT (m := 2) (n := 3) rfl rfl (by decide)) (n_nil (k26 _ _ ?_))))))))
   refine c_seq fun K27 k27 => c_yes rfl (wp_skip (k27 _ _ ?_))
   refine c_seq fun K28 k28 => wp_block (c_seq fun K29 k29 => wp_region_lit (n_val (r_index_59_2 rfl rfl) ?_))
   simp only [ev,zD,zE,zF,zG]
   refine malloc m zero_28 rfl ?_
   clear m; intro g9 u m
   simp only [ev,zD,zE,zF,zG]
   refine mstoreA m 0 rfl rfl rfl cells_28 (leT rfl) rfl ?_
   clear m; intro u m; simp only [over,zH,zI,zJ,zK,zL,zM,zN,zO,zP,zF,zG,Nat.reduceAdd] at m
   refine n_nil (k29 _ _ ?_)
   refine mq_tail m 12 follows_mixed (by kernel_rfl) ?_
   simp only [zH,zI,zJ,zK]
   refine q_val (r_move) (q_val (r_move) (q_val (r_indexAddrA Tryz.underlying76 cells_32 rfl rfl (by decide) (by decide) rfl) ?_))
   simp only [ev,zD,zE,zF,zG]
   refine ql rfl (fun u m => ((m.b 6 rfl).lies agg_32 cells_32 rfl rfl)) ?_
   simp only [ev,zD,zE,zF,zG,zH,zI,zJ,zK,Nat.zero_add,Nat.reduceAdd,Nat.reduceMul,Int.reduceToNat]
   refine ql rfl (fun u m => ((m.b 3 rfl).full agg_32 cells_32)) ?_
   simp only [ev,zD,zE,zF,zG]
   refine q_val (r_move) ?_
   simp only [ev,zD,zE,zF,zG]
   refine ql rfl (fun u m => ((m.b 0 rfl).full agg_28 cells_28)) ?_
   simp only [ev,zD,zE,zF,zG]
   refine qcP rfl rfl (me_x) ?_
   simp only [ev,zD,zE,zF,zG]
   refine qcP rfl rfl (From_c Iw.h) ?_
   simp only [ev,zD,zE,zF,zG]
   refine qcP rfl rfl (Mul_c Bw.up Bw.up) ?_
   simp only [ev,zD,zE,zF,zG]
   refine qcP rfl rfl (Add_c Bw.up Bw.up) (q_val (r_indexAddrA Tryz.underlying76 cells_32 rfl rfl (by decide) (by decide) rfl) (q_nil ?_))
   clear m; intro u m
   simp only [ev,zD,zE,zF,zG]
   refine mstoreA m 6 rfl rfl rfl cells_32 (leT rfl) rfl ?_
   clear m; intro u m; simp only [over,zH,zI,zJ,zK,zL,zM,zN,zO,zP,zF,zG,Nat.reduceAdd] at m
   refine n_nil (k28 _ _ ?_)
   refine wp_region_lit (n_val (r_add (m := 2) (n := 1) (r := 3) rfl rfl (by decide)) (n_val (r_move) (n_nil (then_rounds (c_seq fun K30 k30 => wp_region_lit (n_val (r_lssF (m := 3) (n := 3) rfl rfl (by decide)) (n_nil (k30 _ _ ?_))))))))
   refine c_seq fun K31 k31 => c_no rfl (wp_exit (k15 _ _ ?_))
   refine wp_region_lit (n_val (r_add (m := 0) (n := 1) (r := 1) rfl rfl (by decide)) ?_)
   simp only [ev,zD,zE,zF,zG]
   refine n_val (r_move) (n_nil (then_rounds (c_seq fun K32 k32 => wp_region_lit (n_val (r_lssT (m := 1) (n := 3) rfl rfl (by decide)) (n_nil (k32 _ _ ?_))))))
   refine c_seq fun K33 k33 => c_yes rfl (wp_skip (k33 _ _ ?_))
   refine c_seq fun K34 k34 => wp_block (c_seq fun K35 k35 => wp_region_lit (n_val (r_move) (n_val (r_index_95_1 rfl rfl) ?_)))
   simp only [ev,zD,zE,zF,zG]
   refine n_val (r_assign) (n_val (r_assign) (n_nil (k35 _ _ ?_)))
   refine c_seq fun K36 k36 => wp_region_lit ?_
   simp only [ev,zD,zE,zF,zG]
   refine n_load rfl ((m.b 5 rfl).full agg_59 cells_59) ?_
   simp only [ev,zD,zE,zF,zG]
   refine n_val (r_move) (n_nil (k36 _ _ ?_))
   refine wp_block (wp_loop_rounds 4 (rounds_step (c_seq fun K37 k37 => wp_region_lit (n_val (r_lssT (m := 0) (n := 3) rfl rfl (by decide)) (n_nil (k37 _ _ ?_))))))
   refine c_seq fun K38 k38 => c_yes rfl (wp_skip (k38 _ _ ?_))
   refine c_seq fun K39 k39 => wp_block (c_seq fun K40 k40 => wp_region_lit (n_val (r_index_59_0 rfl rfl) ?_))
   simp only [ev,zD,zE,zF,zG]
   refine malloc m zero_28 rfl ?_
   clear m; intro g10 u m
   simp only [ev,zD,zE,zF,zG]
   refine mstoreA m 0 rfl rfl rfl cells_28 (leT rfl) rfl ?_
   clear m; intro u m; simp only [over,zH,zI,zJ,zK,zL,zM,zN,zO,zP,zF,zG,Nat.reduceAdd] at m
   refine n_nil (k40 _ _ ?_)
   refine mq_tail m 12 follows_mixed (by kernel_rfl) ?_
   simp only [zH,zI,zJ,zK]
   refine q_val (r_move) (q_val (r_move) (q_val (r_indexAddrA Tryz.underlying76 cells_32 rfl rfl (by decide) (by decide) rfl) ?_))
   simp only [ev,zD,zE,zF,zG]
   refine ql rfl (fun u m => ((m.b 7 rfl).lies agg_32 cells_32 rfl rfl)) ?_
   simp only [ev,zD,zE,zF,zG,zH,zI,zJ,zK,Nat.zero_add,Nat.reduceAdd,Nat.reduceMul,Int.reduceToNat]
   refine ql rfl (fun u m => ((m.b 4 rfl).full agg_32 cells_32)) ?_
   simp only [ev,zD,zE,zF,zG]
   refine q_val (r_move) ?_
   simp only [ev,zD,zE,zF,zG]
   refine ql rfl (fun u m => ((m.b 0 rfl).full agg_28 cells_28)) ?_
   simp only [ev,zD,zE,zF,zG]
   refine qcP rfl rfl (me_y) ?_
   simp only [ev,zD,zE,zF,zG]
   refine qcP rfl rfl (From_c Iw.h) ?_
   simp only [ev,zD,zE,zF,zG]
   refine qcP rfl rfl (Mul_c Bw.up Bw.up) ?_
   simp only [ev,zD,zE,zF,zG]
   refine qcP rfl rfl (Add_c Bw.up Bw.up) (q_val (r_indexAddrA Tryz.underlying76 cells_32 rfl rfl (by decide) (by decide) rfl) (q_nil ?_))
   clear m; intro u m
   simp only [ev,zD,zE,zF,zG]
   refine mstoreA m 7 rfl rfl rfl cells_32 (leT rfl) rfl ?_
   clear m; intro u m; simp only [over,zH,zI,zJ,zK,zL,zM,zN,zO,zP,zF,zG,Nat.reduceAdd] at m
   refine n_nil (k39 _ _ ?_)
   refine wp_region_lit (n_val (r_add (m := 0) (n := 1) (r := 1) rfl rfl (by decide)) (n_val (r_move) (n_nil (then_rounds (c_seq fun K41 k41 => wp_region_lit (n_val (r_lssT (m := 1) (n := 3) rfl rfl (by decide)) (n_nil (k41 _ _ ?_))))))))
   refine c_seq fun K42 k42 => c_yes rfl (wp_skip (k42 _ _ ?_))
   refine c_seq fun K43 k43 => wp_block (c_seq fun K44 k44 => wp_region_lit (n_val (r_index_59_1 rfl rfl) ?_))
   simp only [ev,zD,zE,zF,zG]
   refine malloc m zero_28 rfl ?_
   clear m; intro g11 u m
   simp only [ev,zD,zE,zF,zG]
   refine mstoreA m 0 rfl rfl rfl cells_28 (leT rfl) rfl ?_
   clear m; intro u m; simp only [over,zH,zI,zJ,zK,zL,zM,zN,zO,zP,zF,zG,Nat.reduceAdd] at m
   refine n_nil (k44 _ _ ?_)
   refine mq_tail m 12 follows_mixed (by kernel_rfl) ?_
   simp only [zH,zI,zJ,zK]
   refine q_val (r_move) (q_val (r_move) (q_val (r_indexAddrA Tryz.underlying76 cells_32 rfl rfl (by decide) (by decide) rfl) ?_))
   simp only [ev,zD,zE,zF,zG]
   refine ql rfl (fun u m => ((m.b 8 rfl).lies agg_32 cells_32 rfl rfl)) ?_
   simp only [ev,zD,zE,zF,zG,zH,zI,zJ,zK,Nat.zero_add,Nat.reduceAdd,Nat.reduceMul,Int.reduceToNat]
   refine ql rfl (fun u m => ((m.b 5 rfl).full agg_32 cells_32)) ?_
   simp only [ev,zD,zE,zF,zG]
   refine q_val (r_move) ?_
   simp only [ev,zD,zE,zF,zG]
   refine ql rfl (fun u m => ((m.b 0 rfl).full agg_28 cells_28)) ?_
   simp only [ev,zD,zE,zF,zG]
   refine qcP rfl rfl (me_y) ?_
   simp only [ev,zD,zE,zF,zG]
   refine qcP rfl rfl (From_c Iw.h) ?_
   simp only [ev,zD,zE,zF,zG]
   refine qcP rfl rfl (Mul_c Bw.up Bw.up) ?_
   simp only [ev,zD,zE,zF,zG]
   refine qcP rfl rfl (Add_c Bw.up Bw.up) (q_val (r_indexAddrA Tryz.underlying76 cells_32 rfl rfl (by decide) (by decide) rfl) (q_nil ?_))
   clear m; intro u m
   simp only [ev,zD,zE,zF,zG]
   refine mstoreA m 8 rfl rfl rfl cells_32 (leT rfl) rfl ?_
   clear m; intro u m; simp only [over,zH,zI,zJ,zK,zL,zM,zN,zO,zP,zF,zG,Nat.reduceAdd] at m
   refine n_nil (k43 _ _ ?_)
   refine wp_region_lit (n_val (r_add (m := 1) (n := 1) (r := 2) rfl rfl (by decide)) (n_val (r_move) (n_nil (then_rounds (c_seq fun K45 k45 => wp_region_lit (n_val (r_lssT (m := 2) (n := 3) rfl rfl (by decide)) (n_nil (k45 _ _ ?_))))))))
   refine c_seq fun K46 k46 => c_yes rfl (wp_skip (k46 _ _ ?_))
   refine c_seq fun K47 k47 => wp_block (c_seq fun K48 k48 => wp_region_lit (n_val (r_index_59_2 rfl rfl) ?_))
   simp only [ev,zD,zE,zF,zG]
   refine malloc m zero_28 rfl ?_
   clear m; intro g12 u m
   simp only [ev,zD,zE,zF,zG]
   refine mstoreA m 0 rfl rfl rfl cells_28 (leT rfl) rfl ?_
   clear m; intro u m; simp only [over,zH,zI,zJ,zK,zL,zM,zN,zO,zP,zF,zG,Nat.reduceAdd] at m
   refine n_nil (k48 _ _ ?_)
   refine mq_tail m 12 follows_mixed (by kernel_rfl) ?_
   simp only [zH,zI,zJ,zK]
   refine q_val (r_move) (q_val (r_move) (q_val (r_indexAddrA Tryz.underlying76 cells_32 rfl rfl (by decide) (by decide) rfl) ?_))
   simp only [ev,zD,zE,zF,zG]
   refine ql rfl (fun u m => ((m.b 9 rfl).lies agg_32 cells_32 rfl rfl)) ?_
   simp only [ev,zD,zE,zF,zG,zH,zI,zJ,zK,Nat.zero_add,Nat.reduceAdd,Nat.reduceMul,Int.reduceToNat]
   refine ql rfl (fun u m => ((m.b 6 rfl).full agg_32 cells_32)) ?_
   simp only [ev,zD,zE,zF,zG]
   refine q_val (r_move) ?_
   simp only [ev,zD,zE,zF,zG]
   refine ql rfl (fun u m => ((m.b 0 rfl).full agg_28 cells_28)) ?_
   simp only [ev,zD,zE,zF,zG]
   refine qcP rfl rfl (me_y) ?_
   simp only [ev,zD,zE,zF,zG]
   refine qcP rfl rfl (From_c Iw.h) ?_
   simp only [ev,zD,zE,zF,zG]
   refine qcP rfl rfl (Mul_c Bw.up Bw.up) ?_
   simp only [ev,zD,zE,zF,zG]
   refine qcP rfl rfl (Add_c Bw.up Bw.up) (q_val (r_indexAddrA Tryz.underlying76 cells_32 rfl rfl (by decide) (by decide) rfl) (q_nil ?_))
   clear m; intro u m
   simp only [ev,zD,zE,zF,zG]
   refine mstoreA m 9 rfl rfl rfl cells_32 (leT rfl) rfl ?_
   clear m; intro u m; simp only [over,zH,zI,zJ,zK,zL,zM,zN,zO,zP,zF,zG,Nat.reduceAdd] at m
   refine n_nil (k47 _ _ ?_)
   refine wp_region_lit (n_val (r_add (m := 2) (n := 1) (r := 3) rfl rfl (by decide)) (n_val (r_move) (n_nil (then_rounds (c_seq fun K49 k49 => wp_region_lit (n_val (r_lssF (m := 3) (n := 3) rfl rfl (by decide)) (n_nil (k49 _ _ ?_))))))))
   refine c_seq fun K50 k50 => c_no rfl (wp_exit (k34 _ _ ?_))
   refine wp_region_lit (n_val (r_add (m := 1) (n := 1) (r := 2) rfl rfl (by decide)) ?_)
   simp only [ev,zD,zE,zF,zG]
   refine n_val (r_move) (n_nil (then_rounds (c_seq fun K51 k51 => wp_region_lit (n_val (r_lssT (m := 2) (n := 3) rfl rfl (by decide)) (n_nil (k51 _ _ ?_))))))
   refine c_seq fun K52 k52 => c_yes rfl (wp_skip (k52 _ _ ?_))
   refine c_seq fun K53 k53 => wp_block (c_seq fun K54 k54 => wp_region_lit (n_val (r_move) (n_val (r_index_95_2 rfl rfl) ?_)))
   simp only [ev,zD,zE,zF,zG]
   refine n_val (r_assign) (n_val (r_assign) (n_nil (k54 _ _ ?_)))
   refine c_seq fun K55 k55 => wp_region_lit ?_
   simp only [ev,zD,zE,zF,zG]
   refine n_load rfl ((m.b 8 rfl).full agg_59 cells_59) ?_
   simp only [ev,zD,zE,zF,zG]
   refine n_val (r_move) (n_nil (k55 _ _ ?_))
   refine wp_block (wp_loop_rounds 4 (rounds_step (c_seq fun K56 k56 => wp_region_lit (n_val (r_lssT (m := 0) (n := 3) rfl rfl (by decide)) (n_nil (k56 _ _ ?_))))))
   refine c_seq fun K57 k57 => c_yes rfl (wp_skip (k57 _ _ ?_))
   refine c_seq fun K58 k58 => wp_block (c_seq fun K59 k59 => wp_region_lit (n_val (r_index_59_0 rfl rfl) ?_))
   simp only [ev,zD,zE,zF,zG]
   refine malloc m zero_28 rfl ?_
   clear m; intro g13 u m
   simp only [ev,zD,zE,zF,zG]
   refine mstoreA m 0 rfl rfl rfl cells_28 (leT rfl) rfl ?_
   clear m; intro u m; simp only [over,zH,zI,zJ,zK,zL,zM,zN,zO,zP,zF,zG,Nat.reduceAdd] at m
   refine n_nil (k59 _ _ ?_)
   refine mq_tail m 12 follows_mixed (by kernel_rfl) ?_
   simp only [zH,zI,zJ,zK]
   refine q_val (r_move) (q_val (r_move) (q_val (r_indexAddrA Tryz.underlying76 cells_32 rfl rfl (by decide) (by decide) rfl) ?_))
   simp only [ev,zD,zE,zF,zG]
   refine ql rfl (fun u m => ((m.b 10 rfl).lies agg_32 cells_32 rfl rfl)) ?_
   simp only [ev,zD,zE,zF,zG,zH,zI,zJ,zK,Nat.zero_add,Nat.reduceAdd,Nat.reduceMul,Int.reduceToNat]
   refine ql rfl (fun u m => ((m.b 7 rfl).full agg_32 cells_32)) ?_
   simp only [ev,zD,zE,zF,zG]
   refine q_val (r_move) ?_
   simp only [ev,zD,zE,zF,zG]
   refine ql rfl (fun u m => ((m.b 0 rfl).full agg_28 cells_28)) ?_
   simp only [ev,zD,zE,zF,zG]
   refine qcP rfl rfl (me_z) ?_
   simp only [ev,zD,zE,zF,zG]
   refine qcP rfl rfl (From_c Iw.h) ?_
   simp only [ev,zD,zE,zF,zG]
   refine qcP rfl rfl (Mul_c Bw.up Bw.up) ?_
   simp only [ev,zD,zE,zF,zG]
   refine qcP rfl rfl (Add_c Bw.up Bw.up) (q_val (r_indexAddrA Tryz.underlying76 cells_32 rfl rfl (by decide) (by decide) rfl) (q_nil ?_))
   clear m; intro u m
   simp only [ev,zD,zE,zF,zG]
   refine mstoreA m 10 rfl rfl rfl cells_32 (leT rfl) rfl ?_
   clear m; intro u m; simp only [over,zH,zI,zJ,zK,zL,zM,zN,zO,zP,zF,zG,Nat.reduceAdd] at m
   refine n_nil (k58 _ _ ?_)
   refine wp_region_lit (n_val (r_add (m := 0) (n := 1) (r := 1) rfl rfl (by decide)) (n_val (r_move) (n_nil (then_rounds (c_seq fun K60 k60 => wp_region_lit (n_val (r_lssT (m := 1) (n := 3) rfl rfl (by decide)) (n_nil (k60 _ _ ?_))))))))
   refine c_seq fun K61 k61 => c_yes rfl (wp_skip (k61 _ _ ?_))
   refine c_seq fun K62 k62 => wp_block (c_seq fun K63 k63 => wp_region_lit (n_val (r_index_59_1 rfl rfl) ?_))
   simp only [ev,zD,zE,zF,zG]
   refine malloc m zero_28 rfl ?_
   clear m; intro g14 u m
   simp only [ev,zD,zE,zF,zG]
   refine mstoreA m 0 rfl rfl rfl cells_28 (leT rfl) rfl ?_
   clear m; intro u m; simp only [over,zH,zI,zJ,zK,zL,zM,zN,zO,zP,zF,zG,Nat.reduceAdd] at m
   refine n_nil (k63 _ _ ?_)
   refine mq_tail m 12 follows_mixed (by kernel_rfl) ?_
   simp only [zH,zI,zJ,zK]
   refine q_val (r_move) (q_val (r_move) (q_val (r_indexAddrA Tryz.underlying76 cells_32 rfl rfl (by decide) (by decide) rfl) ?_))
   simp only [ev,zD,zE,zF,zG]
   refine ql rfl (fun u m => ((m.b 11 rfl).lies agg_32 cells_32 rfl rfl)) ?_
   simp only [ev,zD,zE,zF,zG,zH,zI,zJ,zK,Nat.zero_add,Nat.reduceAdd,Nat.reduceMul,Int.reduceToNat]
   refine ql rfl (fun u m => ((m.b 8 rfl).full agg_32 cells_32)) ?_
   simp only [ev,zD,zE,zF,zG]
   refine q_val (r_move) ?_
   simp only [ev,zD,zE,zF,zG]
   refine ql rfl (fun u m => ((m.b 0 rfl).full agg_28 cells_28)) ?_
   simp only [ev,zD,zE,zF,zG]
   refine qcP rfl rfl (me_z) ?_
   simp only [ev,zD,zE,zF,zG]
   refine qcP rfl rfl (From_c Iw.h) ?_
   simp only [ev,zD,zE,zF,zG]
   refine qcP rfl rfl (Mul_c Bw.up Bw.up) ?_
   simp only [ev,zD,zE,zF,zG]
   refine qcP rfl rfl (Add_c Bw.up Bw.up) (q_val (r_indexAddrA Tryz.underlying76 cells_32 rfl rfl (by decide) (by decide) rfl) (q_nil ?_))
   clear m; intro u m
   simp only [ev,zD,zE,zF,zG]
   refine mstoreA m 11 rfl rfl rfl cells_32 (leT rfl) rfl ?_
   clear m; intro u m; simp only [over,zH,zI,zJ,zK,zL,zM,zN,zO,zP,zF,zG,Nat.reduceAdd] at m
   refine n_nil (k62 _ _ ?_)
   refine wp_region_lit (n_val (r_add (m := 1) (n := 1) (r := 2) rfl rfl (by decide)) (n_val (r_move) (n_nil (then_rounds (c_seq fun K64 k64 => wp_region_lit (n_val (r_lssT (m := 2) (n := 3) rfl rfl (by decide)) (n_nil (k64 _ _ ?_))))))))
   refine c_seq fun K65 k65 => c_yes rfl (wp_skip (k65 _ _ ?_))
   refine c_seq fun K66 k66 => wp_block (c_seq fun K67 k67 => wp_region_lit (n_val (r_index_59_2 rfl rfl) ?_))
   simp only [ev,zD,zE,zF,zG]
   refine malloc m zero_28 rfl ?_
   clear m; intro g15 u m
   simp only [ev,zD,zE,zF,zG]
   refine mstoreA m 0 rfl rfl rfl cells_28 (leT rfl) rfl ?_
   clear m; intro u m; simp only [over,zH,zI,zJ,zK,zL,zM,zN,zO,zP,zF,zG,Nat.reduceAdd] at m
   refine n_nil (k67 _ _ ?_)
   refine mq_tail m 12 follows_mixed (by kernel_rfl) ?_
   simp only [zH,zI,zJ,zK]
   refine q_val (r_move) (q_val (r_move) (q_val (r_indexAddrA Tryz.underlying76 cells_32 rfl rfl (by decide) (by decide) rfl) ?_))
   simp only [ev,zD,zE,zF,zG]
   refine ql rfl (fun u m => ((m.b 12 rfl).lies agg_32 cells_32 rfl rfl)) ?_
   simp only [ev,zD,zE,zF,zG,zH,zI,zJ,zK,Nat.zero_add,Nat.reduceAdd,Nat.reduceMul,Int.reduceToNat]
   refine ql rfl (fun u m => ((m.b 9 rfl).full agg_32 cells_32)) ?_
   simp only [ev,zD,zE,zF,zG]
   refine q_val (r_move) ?_
   simp only [ev,zD,zE,zF,zG]
   refine ql rfl (fun u m => ((m.b 0 rfl).full agg_28 cells_28)) ?_
   simp only [ev,zD,zE,zF,zG]
   refine qcP rfl rfl (me_z) ?_
   simp only [ev,zD,zE,zF,zG]
   refine qcP rfl rfl (From_c Iw.h) ?_
   simp only [ev,zD,zE,zF,zG]
   refine qcP rfl rfl (Mul_c Bw.up Bw.up) ?_
   simp only [ev,zD,zE,zF,zG]
   refine qcP rfl rfl (Add_c Bw.up Bw.up) (q_val (r_indexAddrA Tryz.underlying76 cells_32 rfl rfl (by decide) (by decide) rfl) (q_nil ?_))
   clear m; intro u m
   simp only [ev,zD,zE,zF,zG]
   refine mstoreA m 12 rfl rfl rfl cells_32 (leT rfl) rfl ?_
   clear m; intro u m; simp only [over,zH,zI,zJ,zK,zL,zM,zN,zO,zP,zF,zG,Nat.reduceAdd] at m
   refine n_nil (k66 _ _ ?_)
   refine wp_region_lit (n_val (r_add (m := 2) (n := 1) (r := 3) rfl rfl (by decide)) (n_val (r_move) (n_nil (then_rounds (c_seq fun K68 k68 => wp_region_lit (n_val (r_lssF (m := 3) (n := 3) rfl rfl (by decide)) (n_nil (k68 _ _ ?_))))))))
   refine c_seq fun K69 k69 => c_no rfl (wp_exit (k53 _ _ ?_))
   refine wp_region_lit (n_val (r_add (m := 2) (n := 1) (r := 3) rfl rfl (by decide)) ?_)
   simp only [ev,zD,zE,zF,zG]
   refine n_val (r_move) (n_nil (then_rounds (c_seq fun K70 k70 => wp_region_lit (n_val (r_lssF (m := 3) (n := 3) rfl rfl (by decide)) (n_nil (k70 _ _ ?_))))))
   refine c_seq fun K71 k71 => c_no rfl (wp_exit (k8 _ _ ?_))
   refine wp_region_lit ?_
   simp only [ev,zD,zE,zF,zG]
   refine n_val (r_add rfl rfl (wrap_i64 (by omega) (by omega))) (n_val (r_move) (n_nil ?_))
   simp only [ev,zD,zE,zF,zG]
   simp only [Exit.inBlock,Exit.then]
   refine ⟨N - (k + 1), _, ?_, rfl, ?_, ?_⟩
   · omega
   · simp only [zQ,zR,zD,zE,setG_cons,setG_nil,setMany_cons,setMany_nil,zF,zG]
   ·
    simp only [zQ,zR,zD,zE]
    exact ⟨k + 1, rfl, (((m.re 13 rfl (by rw [sumT_step ht]; exact (m.b 13 rfl))).re 12 rfl (by rw [sumT_step (f := (mom P3.x)) ht, sumT_step (f := (mom P3.y)) ht, sumT_step (f := (mom P3.z)) ht, ← mom_step, ← mom_step, ← mom_step]; exact (m.b 12 rfl))).sel [false, false, false, false, false, false, false, false, false, false, false, false, true, true, true]), by omega, rfl⟩
  ·
   have hkN : k = N := by omega
   rw [hkN, show ts.take N = ts from List.take_of_length_le (by rw [hT.len]; exact Nat.le_refl _)] at m 
   haveI : Bw 264 (sumT det ts) := ⟨sumT_bd (m := 200) (fun u hu => by haveI := hT.it u hu; exact det_bd) (by rw [hT.len]; omega)⟩
   haveI : Bw 364 (sumT (mom P3.x) ts) := ⟨sumT_bd (m := 300) (fun u hu => by haveI := hT.it u hu; exact mom_bd Iw.h.bd Iw.h.bd Iw.h.bd) (by rw [hT.len]; omega)⟩
   haveI : Bw 364 (sumT (mom P3.y) ts) := ⟨sumT_bd (m := 300) (fun u hu => by haveI := hT.it u hu; exact mom_bd Iw.h.bd Iw.h.bd Iw.h.bd) (by rw [hT.len]; omega)⟩
   haveI : Bw 364 (sumT (mom P3.z) ts) := ⟨sumT_bd (m := 300) (fun u hu => by haveI := hT.it u hu; exact mom_bd Iw.h.bd Iw.h.bd Iw.h.bd) (by rw [hT.len]; omega)⟩
   refine wp_exit (k4 _ _ ?_)
   refine c_seq fun K72 k72 => wp_region_lit (n_load rfl ((m.b 1 rfl).full agg_32 cells_32) ?_)
   simp only [ev,zD,zE,zF,zG]
   refine mcallP m rfl rfl (Sign_c Bw.up) ?_
   clear m; intro u m
   refine n_val (r_neq rfl rfl) (n_val (r_assign) (n_nil (k72 _ _ ?_)))
   refine c_seq fun K73 k73 => ?_
   simp only [ev,zD,zE,zF,zG]
   rcases Decidable.em (isign (sumT det ts) ≠ 0) with hV | hV
   ·
    rw [decide_eq_true hV]
    have hV0 := mt isign_zero_iff.2 hV
    refine wp_region_lit (malloc m zero_49 rfl ?_)
    clear m; intro g4 u m
    refine n_nil (k73 _ _ ?_)
    refine c_seq fun K74 k74 => c_seq fun K75 k75 => wp_region_lit (n_val (r_move) (n_nil (k75 _ _ ?_)))
    refine wp_block (wp_loop_rounds 4 (rounds_step (c_seq fun K76 k76 => wp_region_lit (n_val (r_lssT (m := 0) (n := 3) rfl rfl (by decide)) (n_nil (k76 _ _ ?_))))))
    refine c_seq fun K77 k77 => c_yes rfl (wp_skip (k77 _ _ ?_))
    refine c_seq fun K78 k78 => wp_block (c_seq fun K79 k79 => wp_region_lit (n_val (r_move) ?_))
    simp only [ev,zD,zE,zF,zG]
    refine n_val (r_assign) (n_nil (k79 _ _ ?_))
    refine c_seq fun K80 k80 => wp_region_lit (n_val (r_move) (n_val (r_build_32_) ?_))
    simp only [ev,zD,zE,zF,zG]
    refine mcallP m rfl rfl (whole0_c) ?_
    clear m; intro u m
    refine n_val (r_indexAddrA Tryz.underlying49 cells_34 rfl rfl (by decide) (by decide) rfl) ?_
    simp only [ev,zD,zE,zF,zG]
    refine mstoreA m 0 rfl rfl rfl cells_34 (leT rfl) rfl ?_
    clear m; intro u m; simp only [over,zH,zI,zJ,zK,zL,zM,zN,zO,zP,zF,zG,Nat.reduceAdd] at m
    refine n_nil (k80 _ _ ?_)
    refine c_seq fun K81 k81 => wp_region_lit (n_val (r_move) (n_nil (k81 _ _ ?_)))
    refine c_yes rfl ?_
    simp only [ev,zD,zE,zF,zG]
    refine mq_tail m 9 follows_mixed (by kernel_rfl) ?_
    simp only [zH,zI,zJ,zK]
    refine q_val (r_move) (q_val (r_move) (q_val (r_indexAddrA Tryz.underlying76 cells_32 rfl rfl (by decide) (by decide) rfl) ?_))
    simp only [ev,zD,zE,zF,zG]
    refine ql rfl (fun u m => ((m.b 1 rfl).lies agg_32 cells_32 rfl rfl)) ?_
    simp only [ev,zD,zE,zF,zG,zH,zI,zJ,zK,Nat.zero_add,Nat.reduceAdd,Nat.reduceMul,Int.reduceToNat]
    refine ql rfl (fun u m => ((m.b 2 rfl).full agg_32 cells_32)) ?_
    simp only [ev,zD,zE,zF,zG]
    refine qcP rfl rfl (From_c Iw.h) ?_
    simp only [ev,zD,zE,zF,zG]
    refine qcP rfl rfl (Mul_c Bw.up Bw.up) ?_
    simp only [ev,zD,zE,zF,zG]
    refine qcP rfl rfl (mFrac_c Bw.up Bw.up (by have := mt isign_zero_iff.2 hV; omega)) (q_val (r_indexAddrA Tryz.underlying49 cells_34 rfl rfl (by decide) (by decide) rfl) (q_nil ?_))
    clear m; intro u m
    simp only [ev,zD,zE,zF,zG]
    refine mstoreA m 0 rfl rfl rfl cells_34 (leT rfl) rfl ?_
    clear m; intro u m; simp only [over,zH,zI,zJ,zK,zL,zM,zN,zO,zP,zF,zG,Nat.reduceAdd] at m
    refine n_nil (k78 _ _ ?_)
    refine wp_region_lit (n_val (r_add (m := 0) (n := 1) (r := 1) rfl rfl (by decide)) (n_val (r_move) (n_nil (then_rounds (c_seq fun K82 k82 => wp_region_lit (n_val (r_lssT (m := 1) (n := 3) rfl rfl (by decide)) (n_nil (k82 _ _ ?_))))))))
    refine c_seq fun K83 k83 => c_yes rfl (wp_skip (k83 _ _ ?_))
    refine c_seq fun K84 k84 => wp_block (c_seq fun K85 k85 => wp_region_lit (n_val (r_move) ?_))
    simp only [ev,zD,zE,zF,zG]
    refine n_val (r_assign) (n_nil (k85 _ _ ?_))
    refine c_seq fun K86 k86 => wp_region_lit (n_val (r_move) (n_val (r_build_32_) ?_))
    simp only [ev,zD,zE,zF,zG]
    refine mcallP m rfl rfl (whole0_c) ?_
    clear m; intro u m
    refine n_val (r_indexAddrA Tryz.underlying49 cells_34 rfl rfl (by decide) (by decide) rfl) ?_
    simp only [ev,zD,zE,zF,zG]
    refine mstoreA m 0 rfl rfl rfl cells_34 (leT rfl) rfl ?_
    clear m; intro u m; simp only [over,zH,zI,zJ,zK,zL,zM,zN,zO,zP,zF,zG,Nat.reduceAdd] at m
    refine n_nil (k86 _ _ ?_)
    refine c_seq fun K87 k87 => wp_region_lit (n_val (r_move) (n_nil (k87 _ _ ?_)))
    refine c_yes rfl ?_
    simp only [ev,zD,zE,zF,zG]
    refine mq_tail m 9 follows_mixed (by kernel_rfl) ?_
    simp only [zH,zI,zJ,zK]
    refine q_val (r_move) (q_val (r_move) (q_val (r_indexAddrA Tryz.underlying76 cells_32 rfl rfl (by decide) (by decide) rfl) ?_))
    simp only [ev,zD,zE,zF,zG]
    refine ql rfl (fun u m => ((m.b 1 rfl).lies agg_32 cells_32 rfl rfl)) ?_
    simp only [ev,zD,zE,zF,zG,zH,zI,zJ,zK,Nat.zero_add,Nat.reduceAdd,Nat.reduceMul,Int.reduceToNat]
    refine ql rfl (fun u m => ((m.b 2 rfl).full agg_32 cells_32)) ?_
    simp only [ev,zD,zE,zF,zG]
    refine qcP rfl rfl (From_c Iw.h) ?_
    simp only [ev,zD,zE,zF,zG]
    refine qcP rfl rfl (Mul_c Bw.up Bw.up) ?_
    simp only [ev,zD,zE,zF,zG]
    refine qcP rfl rfl (mFrac_c Bw.up Bw.up (by have := mt isign_zero_iff.2 hV; omega)) (q_val (r_indexAddrA Tryz.underlying49 cells_34 rfl rfl (by decide) (by decide) rfl) (q_nil ?_))
    clear m; intro u m
    simp only [ev,zD,zE,zF,zG]
    refine mstoreA m 0 rfl rfl rfl cells_34 (leT rfl) rfl ?_
    clear m; intro u m; simp only [over,zH,zI,zJ,zK,zL,zM,zN,zO,zP,zF,zG,Nat.reduceAdd] at m
    refine n_nil (k84 _ _ ?_)
    refine wp_region_lit (n_val (r_add (m := 1) (n := 1) (r := 2) rfl rfl (by decide)) (n_val (r_move) (n_nil (then_rounds (c_seq fun K88 k88 => wp_region_lit (n_val (r_lssT (m := 2) (n := 3) rfl rfl (by decide)) (n_nil (k88 _ _ ?_))))))))
    refine c_seq fun K89 k89 => c_yes rfl (wp_skip (k89 _ _ ?_))
    refine c_seq fun K90 k90 => wp_block (c_seq fun K91 k91 => wp_region_lit (n_val (r_move) ?_))
    simp only [ev,zD,zE,zF,zG]
    refine n_val (r_assign) (n_nil (k91 _ _ ?_))
    refine c_seq fun K92 k92 => wp_region_lit (n_val (r_move) (n_val (r_build_32_) ?_))
    simp only [ev,zD,zE,zF,zG]
    refine mcallP m rfl rfl (whole0_c) ?_
    clear m; intro u m
    refine n_val (r_indexAddrA Tryz.underlying49 cells_34 rfl rfl (by decide) (by decide) rfl) ?_
    simp only [ev,zD,zE,zF,zG]
    refine mstoreA m 0 rfl rfl rfl cells_34 (leT rfl) rfl ?_
    clear m; intro u m; simp only [over,zH,zI,zJ,zK,zL,zM,zN,zO,zP,zF,zG,Nat.reduceAdd] at m
    refine n_nil (k92 _ _ ?_)
    refine c_seq fun K93 k93 => wp_region_lit (n_val (r_move) (n_nil (k93 _ _ ?_)))
    refine c_yes rfl ?_
    simp only [ev,zD,zE,zF,zG]
    refine mq_tail m 9 follows_mixed (by kernel_rfl) ?_
    simp only [zH,zI,zJ,zK]
    refine q_val (r_move) (q_val (r_move) (q_val (r_indexAddrA Tryz.underlying76 cells_32 rfl rfl (by decide) (by decide) rfl) ?_))
    simp only [ev,zD,zE,zF,zG]
    refine ql rfl (fun u m => ((m.b 1 rfl).lies agg_32 cells_32 rfl rfl)) ?_
    simp only [ev,zD,zE,zF,zG,zH,zI,zJ,zK,Nat.zero_add,Nat.reduceAdd,Nat.reduceMul,Int.reduceToNat]
    refine ql rfl (fun u m => ((m.b 2 rfl).full agg_32 cells_32)) ?_
    simp only [ev,zD,zE,zF,zG]
    refine qcP rfl rfl (From_c Iw.h) ?_
    simp only [ev,zD,zE,zF,zG]
    refine qcP rfl rfl (Mul_c Bw.up Bw.up) ?_
    simp only [ev,zD,zE,zF,zG]
    refine qcP rfl rfl (mFrac_c Bw.up Bw.up (by have := mt isign_zero_iff.2 hV; omega)) (q_val (r_indexAddrA Tryz.underlying49 cells_34 rfl rfl (by decide) (by decide) rfl) (q_nil ?_))
    clear m; intro u m
    simp only [ev,zD,zE,zF,zG]
    refine mstoreA m 0 rfl rfl rfl cells_34 (leT rfl) rfl ?_
    clear m; intro u m; simp only [over,zH,zI,zJ,zK,zL,zM,zN,zO,zP,zF,zG,Nat.reduceAdd] at m
    refine n_nil (k90 _ _ ?_)
    refine wp_region_lit (n_val (r_add (m := 2) (n := 1) (r := 3) rfl rfl (by decide)) (n_val (r_move) (n_nil (then_rounds (c_seq fun K94 k94 => wp_region_lit (n_val (r_lssF (m := 3) (n := 3) rfl rfl (by decide)) (n_nil (k94 _ _ ?_))))))))
    refine c_seq fun K95 k95 => c_no rfl (wp_exit (k74 _ _ ?_))
    refine c_seq fun K96 k96 => wp_region_lit ?_
    simp only [ev,zD,zE,zF,zG]
    refine n_load rfl ((m.b 0 rfl).full agg_49 cells_49) ?_
    simp only [ev,zD,zE,zF,zG]
    refine n_val (r_move) ?_
    simp only [ev,zD,zE,zF,zG]
    refine mstoreA m 3 rfl rfl rfl cells_49 (leT rfl) rfl ?_
    clear m; intro u m; simp only [over,zH,zI,zJ,zK,zL,zM,zN,zO,zP,zF,zG,Nat.reduceAdd] at m
    refine n_val (r_assign) (n_nil (k96 _ _ ?_))
    refine wp_ret ?_
    simp only [ev,zD,zE,zF,zG]
    try simp only [Exit.inBlock,Exit.then,if_true]
    refine fin2 rfl ⟨_, rfl, ((m.b 3 rfl).full agg_49 cells_49)⟩ rfl ?_
    try simp only [zD,zE]
    exact ⟨_, rfl, m.ext, by first | (simp only [cq,if_neg hV0,decide_eq_true hV0]; rfl) | (simp only [cq,if_pos hV0,decide_eq_false (not_not_intro hV0)]; rfl)⟩
   ·
    rw [decide_eq_false hV]
    have hV0 := isign_zero_iff.1 (Decidable.of_not_not hV)
    refine wp_region_lit (malloc m zero_49 rfl ?_)
    clear m; intro g4 u m
    refine n_nil (k73 _ _ ?_)
    refine c_seq fun K97 k97 => c_seq fun K98 k98 => wp_region_lit (n_val (r_move) (n_nil (k98 _ _ ?_)))
    refine wp_block (wp_loop_rounds 4 (rounds_step (c_seq fun K99 k99 => wp_region_lit (n_val (r_lssT (m := 0) (n := 3) rfl rfl (by decide)) (n_nil (k99 _ _ ?_))))))
    refine c_seq fun K100 k100 => c_yes rfl (wp_skip (k100 _ _ ?_))
    refine c_seq fun K101 k101 => wp_block (c_seq fun K102 k102 => wp_region_lit (n_val (r_move) ?_))
    simp only [ev,zD,zE,zF,zG]
    refine n_val (r_assign) (n_nil (k102 _ _ ?_))
    refine c_seq fun K103 k103 => wp_region_lit (n_val (r_move) (n_val (r_build_32_) ?_))
    simp only [ev,zD,zE,zF,zG]
    refine mcallP m rfl rfl (whole0_c) ?_
    clear m; intro u m
    refine n_val (r_indexAddrA Tryz.underlying49 cells_34 rfl rfl (by decide) (by decide) rfl) ?_
    simp only [ev,zD,zE,zF,zG]
    refine mstoreA m 0 rfl rfl rfl cells_34 (leT rfl) rfl ?_
    clear m; intro u m; simp only [over,zH,zI,zJ,zK,zL,zM,zN,zO,zP,zF,zG,Nat.reduceAdd] at m
    refine n_nil (k103 _ _ ?_)
    refine c_seq fun K104 k104 => wp_region_lit (n_val (r_move) (n_nil (k104 _ _ ?_)))
    refine c_no rfl (wp_skip (k101 _ _ ?_))
    refine wp_region_lit (n_val (r_add (m := 0) (n := 1) (r := 1) rfl rfl (by decide)) (n_val (r_move) (n_nil (then_rounds (c_seq fun K105 k105 => wp_region_lit (n_val (r_lssT (m := 1) (n := 3) rfl rfl (by decide)) ?_))))))
    simp only [ev,zD,zE,zF,zG]
    refine n_nil (k105 _ _ ?_)
    refine c_seq fun K106 k106 => c_yes rfl (wp_skip (k106 _ _ ?_))
    refine c_seq fun K107 k107 => wp_block (c_seq fun K108 k108 => wp_region_lit (n_val (r_move) (n_val (r_assign) (n_nil (k108 _ _ ?_)))))
    refine c_seq fun K109 k109 => wp_region_lit (n_val (r_move) (n_val (r_build_32_) ?_))
    simp only [ev,zD,zE,zF,zG]
    refine mcallP m rfl rfl (whole0_c) ?_
    clear m; intro u m
    refine n_val (r_indexAddrA Tryz.underlying49 cells_34 rfl rfl (by decide) (by decide) rfl) ?_
    simp only [ev,zD,zE,zF,zG]
    refine mstoreA m 0 rfl rfl rfl cells_34 (leT rfl) rfl ?_
    clear m; intro u m; simp only [over,zH,zI,zJ,zK,zL,zM,zN,zO,zP,zF,zG,Nat.reduceAdd] at m
    refine n_nil (k109 _ _ ?_)
    refine c_seq fun K110 k110 => wp_region_lit (n_val (r_move) (n_nil (k110 _ _ ?_)))
    refine c_no rfl (wp_skip (k107 _ _ ?_))
    refine wp_region_lit (n_val (r_add (m := 1) (n := 1) (r := 2) rfl rfl (by decide)) (n_val (r_move) (n_nil (then_rounds (c_seq fun K111 k111 => wp_region_lit (n_val (r_lssT (m := 2) (n := 3) rfl rfl (by decide)) ?_))))))
    simp only [ev,zD,zE,zF,zG]
    refine n_nil (k111 _ _ ?_)
    refine c_seq fun K112 k112 => c_yes rfl (wp_skip (k112 _ _ ?_))
    refine c_seq fun K113 k113 => wp_block (c_seq fun K114 k114 => wp_region_lit (n_val (r_move) (n_val (r_assign) (n_nil (k114 _ _ ?_)))))
    refine c_seq fun K115 k115 => wp_region_lit (n_val (r_move) (n_val (r_build_32_) ?_))
    simp only [ev,zD,zE,zF,zG]
    refine mcallP m rfl rfl (whole0_c) ?_
    clear m; intro u m
    refine n_val (r_indexAddrA Tryz.underlying49 cells_34 rfl rfl (by decide) (by decide) rfl) ?_
    simp only [ev,zD,zE,zF,zG]
    refine mstoreA m 0 rfl rfl rfl cells_34 (leT rfl) rfl ?_
    clear m; intro u m; simp only [over,zH,zI,zJ,zK,zL,zM,zN,zO,zP,zF,zG,Nat.reduceAdd] at m
    refine n_nil (k115 _ _ ?_)
    refine c_seq fun K116 k116 => wp_region_lit (n_val (r_move) (n_nil (k116 _ _ ?_)))
    refine c_no rfl (wp_skip (k113 _ _ ?_))
    refine wp_region_lit (n_val (r_add (m := 2) (n := 1) (r := 3) rfl rfl (by decide)) (n_val (r_move) (n_nil (then_rounds (c_seq fun K117 k117 => wp_region_lit (n_val (r_lssF (m := 3) (n := 3) rfl rfl (by decide)) ?_))))))
    simp only [ev,zD,zE,zF,zG]
    refine n_nil (k117 _ _ ?_)
    refine c_seq fun K118 k118 => c_no rfl (wp_exit (k97 _ _ ?_))
    refine c_seq fun K119 k119 => wp_region_lit (n_load rfl ((m.b 0 rfl).full agg_49 cells_49) ?_)
    simp only [ev,zD,zE,zF,zG]
    refine n_val (r_move) ?_
    simp only [ev,zD,zE,zF,zG]
    refine mstoreA m 3 rfl rfl rfl cells_49 (leT rfl) rfl ?_
    clear m; intro u m; simp only [over,zH,zI,zJ,zK,zL,zM,zN,zO,zP,zF,zG,Nat.reduceAdd] at m
    refine n_val (r_assign) (n_nil (k119 _ _ ?_))
    refine wp_ret ?_
    simp only [ev,zD,zE,zF,zG]
    try simp only [Exit.inBlock,Exit.then,if_true]
    refine fin2 rfl ⟨_, rfl, ((m.b 3 rfl).full agg_49 cells_49)⟩ rfl ?_
    try simp only [zD,zE]
    exact ⟨_, rfl, m.ext, by first | (simp only [cq,if_neg hV0,decide_eq_true hV0]; rfl) | (simp only [cq,if_pos hV0,decide_eq_false (not_not_intro hV0)]; rfl)⟩

end Go.Proofs.YtmcgcnpgkkfkoaaGreatDoor
namespace Go.Proofs.YtmcgcnpgkkfkoaaGreatDoor
open Go.RowKit Go.Lith
set_option maxRecDepth 100000
attribute [local irreducible] wpList wpQuiet wpMix wpMixH wpTree Code.wp
set_option maxHeartbeats 400000 in
theorem r2wide_c {p q : P3} [I3 p] [I3 q] : Pure Tryz.prog 89 [pt p, pt q] (wv (q.sub p)) := by
 intro w
 refine ⟨en_89, ?_⟩
 have m := Mem.refl w
 go_enter Tryz.func89, Tryz.ntmps89
 refine c_seq fun K1 k1 => wp_region_lit (mboxA m rfl ?_)
 clear m; intro g1 u m
 simp only [ev,zD,zE,zF,zG]
 refine mboxA m rfl ?_
 clear m; intro g2 u m
 simp only [ev,zD,zE,zF,zG]
 refine malloc m zero_75 rfl ?_
 clear m; intro g3 u m
 refine n_nil (k1 _ _ ?_)
 refine c_seq fun K2 k2 => ?_
 simp only [ev,zD,zE,zF,zG]
 refine wp_region_fresh 8 [0, 1, 2, 3, 4, 5, 6] [⟨7, 5, 32, [.bool false, .string ⟨#[]⟩]⟩] follows_mixed (by kernel_rfl) (al1 ⟨_, _, _, rfl, by kernel_rfl, _, zero_32, rfl⟩) (ol := ?_) ?hol ?_
 case hol => simp only [zQ,zR,zS,zT,zU,zV]; try rfl
 intro u e; replace m := m.ext' e; clear e
 refine e_val (r_fieldAddr (c := 0) Tryz.underlying28 rfl cells_3 rfl rfl) ?_
 simp only [ev,zD,zE,zF,zG]
 refine e_load rfl (fun u e => (((m.ext' e).b 1 rfl).lies1 agg_3 rfl)) ?_
 simp only [ev,zD,zE,zF,zG]
 refine e_callP rfl rfl (rFrom_c Iw.h) (e_val (r_fieldAddr (c := 0) Tryz.underlying28 rfl cells_3 rfl rfl) ?_)
 simp only [ev,zD,zE,zF,zG]
 refine e_load rfl (fun u e => (((m.ext' e).b 2 rfl).lies1 agg_3 rfl)) ?_
 simp only [ev,zD,zE,zF,zG]
 refine e_callP rfl rfl (rFrom_c Iw.h) ?_
 simp only [ev,zD,zE,zF,zG]
 refine e_callP rfl rfl (rSub_c Bw.up Bw.up) (e_nil ?_)
 simp only [ev,zD,zE,zF,zG]
 refine mf1 m ?_
 clear m; intro g4 u m
 simp only [zJ,zK,zF,zG]
 refine mstoreA m 0 rfl rfl rfl cells_32 (leT rfl) rfl ?_
 clear m; intro u m; simp only [over,zH,zI,zJ,zK,zL,zM,zN,zO,zP,zF,zG,Nat.reduceAdd] at m
 refine n_nil (k2 _ _ ?_)
 refine c_seq fun K3 k3 => ?_
 refine wp_region_fresh 8 [0, 1, 2, 3, 4, 5, 6] [⟨7, 6, 32, [.bool false, .string ⟨#[]⟩]⟩] follows_mixed (by kernel_rfl) (al1 ⟨_, _, _, rfl, by kernel_rfl, _, zero_32, rfl⟩) (ol := ?_) ?hol ?_
 case hol => simp only [zQ,zR,zS,zT,zU,zV]; try rfl
 intro u e; replace m := m.ext' e; clear e
 refine e_val (r_fieldAddr (c := 0) Tryz.underlying28 rfl cells_3 rfl rfl) ?_
 simp only [ev,zD,zE,zF,zG]
 refine e_load rfl (fun u e => (((m.ext' e).b 2 rfl).lies1 agg_3 rfl)) ?_
 simp only [ev,zD,zE,zF,zG]
 refine e_callP rfl rfl (rFrom_c Iw.h) (e_val (r_fieldAddr (c := 0) Tryz.underlying28 rfl cells_3 rfl rfl) ?_)
 simp only [ev,zD,zE,zF,zG]
 refine e_load rfl (fun u e => (((m.ext' e).b 3 rfl).lies1 agg_3 rfl)) ?_
 simp only [ev,zD,zE,zF,zG]
 refine e_callP rfl rfl (rFrom_c Iw.h) ?_
 simp only [ev,zD,zE,zF,zG]
 refine e_callP rfl rfl (rSub_c Bw.up Bw.up) (e_nil ?_)
 simp only [ev,zD,zE,zF,zG]
 refine mf1 m ?_
 clear m; intro g5 u m
 simp only [zJ,zK,zF,zG]
 refine mstoreA m 0 rfl rfl rfl cells_32 (leT rfl) rfl ?_
 clear m; intro u m; simp only [over,zH,zI,zJ,zK,zL,zM,zN,zO,zP,zF,zG,Nat.reduceAdd] at m
 refine n_nil (k3 _ _ ?_)
 refine c_seq fun K4 k4 => ?_
 refine wp_region_fresh 8 [0, 1, 2, 3, 4, 5, 6] [⟨7, 7, 32, [.bool false, .string ⟨#[]⟩]⟩] follows_mixed (by kernel_rfl) (al1 ⟨_, _, _, rfl, by kernel_rfl, _, zero_32, rfl⟩) (ol := ?_) ?hol ?_
 case hol => simp only [zQ,zR,zS,zT,zU,zV]; try rfl
 intro u e; replace m := m.ext' e; clear e
 refine e_val (r_fieldAddr (c := 0) Tryz.underlying28 rfl cells_3 rfl rfl) ?_
 simp only [ev,zD,zE,zF,zG]
 refine e_load rfl (fun u e => (((m.ext' e).b 3 rfl).lies1 agg_3 rfl)) ?_
 simp only [ev,zD,zE,zF,zG]
 refine e_callP rfl rfl (rFrom_c Iw.h) (e_val (r_fieldAddr (c := 0) Tryz.underlying28 rfl cells_3 rfl rfl) ?_)
 simp only [ev,zD,zE,zF,zG]
 refine e_load rfl (fun u e => (((m.ext' e).b 4 rfl).lies1 agg_3 rfl)) ?_
 simp only [ev,zD,zE,zF,zG]
 refine e_callP rfl rfl (rFrom_c Iw.h) ?_
 simp only [ev,zD,zE,zF,zG]
 refine e_callP rfl rfl (rSub_c Bw.up Bw.up) (e_nil ?_)
 simp only [ev,zD,zE,zF,zG]
 refine mf1 m ?_
 clear m; intro g6 u m
 simp only [zJ,zK,zF,zG]
 refine mstoreA m 0 rfl rfl rfl cells_32 (leT rfl) rfl ?_
 clear m; intro u m; simp only [over,zH,zI,zJ,zK,zL,zM,zN,zO,zP,zF,zG,Nat.reduceAdd] at m
 refine n_nil (k4 _ _ ?_)
 refine c_seq fun K5 k5 => wp_region_lit (n_load rfl ((m.b 2 rfl).full agg_32 cells_32) ?_)
 simp only [ev,zD,zE,zF,zG]
 refine n_load rfl ((m.b 1 rfl).full agg_32 cells_32) ?_
 simp only [ev,zD,zE,zF,zG]
 refine n_load rfl ((m.b 0 rfl).full agg_32 cells_32) ?_
 simp only [ev,zD,zE,zF,zG]
 refine n_val (r_build_75_0_1_2 rfl rfl rfl) ?_
 simp only [ev,zD,zE,zF,zG]
 refine mstoreA m 3 rfl rfl rfl cells_75 (leT rfl) rfl ?_
 clear m; intro u m; simp only [over,zH,zI,zJ,zK,zL,zM,zN,zO,zP,zF,zG,Nat.reduceAdd] at m
 refine n_nil (k5 _ _ ?_)
 refine wp_ret ?_
 try simp only [Exit.inBlock,Exit.then,if_true]
 refine fin1 rfl ⟨_, rfl, ((m.b 3 rfl).full agg_75 cells_75)⟩ ?_
 try simp only [zD,zE]
 exact ⟨_, rfl, m.ext, rfl⟩

set_option maxHeartbeats 400000 in
theorem r2scalar_c {u v : P3} (hu : Bv 400000 u) (hv : Bv 400000 v) : Pure Tryz.prog 90 [wv u, wv v] (W (u.dot v)) := by
 intro w
 refine ⟨en_90, ?_⟩
 have m := Mem.refl w
 go_enter Tryz.func90, Tryz.ntmps90
 refine c_seq fun K1 k1 => wp_region_lit (mboxA m rfl ?_)
 clear m; intro g1 u m
 simp only [ev,zD,zE,zF,zG]
 refine mboxA m rfl ?_
 clear m; intro g2 u m
 simp only [ev,zD,zE,zF,zG]
 refine malloc m zero_32 rfl ?_
 clear m; intro g3 u m
 refine n_nil (k1 _ _ ?_)
 refine c_seq fun K2 k2 => ?_
 simp only [ev,zD,zE,zF,zG]
 refine wp_region_fresh 12 [0, 1, 2, 3, 4, 5, 6, 7, 8, 9, 10] [⟨11, 5, 32, [.bool false, .string ⟨#[]⟩]⟩] follows_mixed (by kernel_rfl) (al1 ⟨_, _, _, rfl, by kernel_rfl, _, zero_32, rfl⟩) (ol := ?_) ?hol ?_
 case hol => simp only [zQ,zR,zS,zT,zU,zV]; try rfl
 intro u e; replace m := m.ext' e; clear e
 refine e_val (r_indexAddrA Tryz.underlying75 cells_32 rfl rfl (by decide) (by decide) rfl) ?_
 simp only [ev,zD,zE,zF,zG]
 refine e_load rfl (fun u e => (((m.ext' e).b 2 rfl).lies agg_32 cells_32 rfl rfl)) ?_
 simp only [ev,zD,zE,zF,zG,zH,zI,zJ,zK,Nat.zero_add,Nat.reduceAdd,Nat.reduceMul,Int.reduceToNat]
 refine e_val (r_indexAddrA Tryz.underlying75 cells_32 rfl rfl (by decide) (by decide) rfl) ?_
 simp only [ev,zD,zE,zF,zG]
 refine e_load rfl (fun u e => (((m.ext' e).b 1 rfl).lies agg_32 cells_32 rfl rfl)) ?_
 simp only [ev,zD,zE,zF,zG,zH,zI,zJ,zK,Nat.zero_add,Nat.reduceAdd,Nat.reduceMul,Int.reduceToNat]
 refine e_callP rfl rfl (rMul_c Bw.up Bw.up) (e_val (r_indexAddrA Tryz.underlying75 cells_32 rfl rfl (by decide) (by decide) rfl) ?_)
 simp only [ev,zD,zE,zF,zG]
 refine e_load rfl (fun u e => (((m.ext' e).b 2 rfl).lies agg_32 cells_32 rfl rfl)) ?_
 simp only [ev,zD,zE,zF,zG,zH,zI,zJ,zK,Nat.zero_add,Nat.reduceAdd,Nat.reduceMul,Int.reduceToNat]
 refine e_val (r_indexAddrA Tryz.underlying75 cells_32 rfl rfl (by decide) (by decide) rfl) ?_
 simp only [ev,zD,zE,zF,zG]
 refine e_load rfl (fun u e => (((m.ext' e).b 1 rfl).lies agg_32 cells_32 rfl rfl)) ?_
 simp only [ev,zD,zE,zF,zG,zH,zI,zJ,zK,Nat.zero_add,Nat.reduceAdd,Nat.reduceMul,Int.reduceToNat]
 refine e_callP rfl rfl (rMul_c Bw.up Bw.up) ?_
 simp only [ev,zD,zE,zF,zG]
 refine e_callP rfl rfl (rAdd_c Bw.up Bw.up) (e_nil ?_)
 simp only [ev,zD,zE,zF,zG]
 refine mf1 m ?_
 clear m; intro g4 u m
 simp only [zJ,zK,zF,zG]
 refine mstoreA m 0 rfl rfl rfl cells_32 (leT rfl) rfl ?_
 clear m; intro u m; simp only [over,zH,zI,zJ,zK,zL,zM,zN,zO,zP,zF,zG,Nat.reduceAdd] at m
 refine n_nil (k2 _ _ ?_)
 refine c_seq fun K3 k3 => ?_
 refine mq_tail m 7 follows_mixed (by kernel_rfl) ?_
 simp only [zH,zI,zJ,zK]
 refine ql rfl (fun u m => ((m.b 0 rfl).full agg_32 cells_32)) ?_
 simp only [ev,zD,zE,zF,zG]
 refine q_val (r_indexAddrA Tryz.underlying75 cells_32 rfl rfl (by decide) (by decide) rfl) ?_
 simp only [ev,zD,zE,zF,zG]
 refine ql rfl (fun u m => ((m.b 3 rfl).lies agg_32 cells_32 rfl rfl)) ?_
 simp only [ev,zD,zE,zF,zG,zH,zI,zJ,zK,Nat.zero_add,Nat.reduceAdd,Nat.reduceMul,Int.reduceToNat]
 refine q_val (r_indexAddrA Tryz.underlying75 cells_32 rfl rfl (by decide) (by decide) rfl) ?_
 simp only [ev,zD,zE,zF,zG]
 refine ql rfl (fun u m => ((m.b 2 rfl).lies agg_32 cells_32 rfl rfl)) ?_
 simp only [ev,zD,zE,zF,zG,zH,zI,zJ,zK,Nat.zero_add,Nat.reduceAdd,Nat.reduceMul,Int.reduceToNat]
 refine qcP rfl rfl (rMul_c Bw.up Bw.up) ?_
 simp only [ev,zD,zE,zF,zG]
 refine qcP rfl rfl (rAdd_c Bw.up Bw.up) (q_nil ?_)
 clear m; intro u m
 simp only [ev,zD,zE,zF,zG]
 refine mstoreA m 1 rfl rfl rfl cells_32 (leT rfl) rfl ?_
 clear m; intro u m; simp only [over,zH,zI,zJ,zK,zL,zM,zN,zO,zP,zF,zG,Nat.reduceAdd] at m
 refine n_nil (k3 _ _ ?_)
 refine wp_ret ?_
 try simp only [Exit.inBlock,Exit.then,if_true]
 refine fin1 rfl ⟨_, rfl, ((m.b 1 rfl).full agg_32 cells_32)⟩ ?_
 try simp only [zD,zE]
 exact ⟨_, rfl, m.ext, rfl⟩

set_option maxHeartbeats 400000 in
theorem r2minus_c {a b c d : Int} (ha : Bd 400000 a) (hb : Bd 400000 b) (hc : Bd 400000 c) (hd : Bd 400000 d) : Pure Tryz.prog 153 [W a, W b, W c, W d] (W (a * b - c * d)) := by
 intro w
 refine ⟨en_153, ?_⟩
 have m := Mem.refl w
 haveI : Bw 400000 a := ⟨ha⟩; haveI : Bw 400000 b := ⟨hb⟩; haveI : Bw 400000 c := ⟨hc⟩; haveI : Bw 400000 d := ⟨hd⟩
 go_enter Tryz.func153, Tryz.ntmps153
 refine c_seq fun K1 k1 => wp_region_lit (mboxA m rfl ?_)
 clear m; intro g1 u m
 simp only [ev,zD,zE,zF,zG]
 refine mboxA m rfl ?_
 clear m; intro g2 u m
 simp only [ev,zD,zE,zF,zG]
 refine mboxA m rfl ?_
 clear m; intro g3 u m
 simp only [ev,zD,zE,zF,zG]
 refine mboxA m rfl ?_
 clear m; intro g4 u m
 simp only [ev,zD,zE,zF,zG]
 refine malloc m zero_32 rfl ?_
 clear m; intro g5 u m
 refine n_nil (k1 _ _ ?_)
 refine c_seq fun K2 k2 => ?_
 simp only [ev,zD,zE,zF,zG]
 refine mq_tail m 7 follows_mixed (by kernel_rfl) ?_
 simp only [zH,zI,zJ,zK]
 refine ql rfl (fun u m => ((m.b 4 rfl).full agg_32 cells_32)) ?_
 simp only [ev,zD,zE,zF,zG]
 refine ql rfl (fun u m => ((m.b 3 rfl).full agg_32 cells_32)) ?_
 simp only [ev,zD,zE,zF,zG]
 refine qcP rfl rfl (rMul_c Bw.up Bw.up) ?_
 simp only [ev,zD,zE,zF,zG]
 refine ql rfl (fun u m => ((m.b 2 rfl).full agg_32 cells_32)) ?_
 simp only [ev,zD,zE,zF,zG]
 refine ql rfl (fun u m => ((m.b 1 rfl).full agg_32 cells_32)) ?_
 simp only [ev,zD,zE,zF,zG]
 refine qcP rfl rfl (rMul_c Bw.up Bw.up) ?_
 simp only [ev,zD,zE,zF,zG]
 refine qcP rfl rfl (rSub_c Bw.up Bw.up) (q_nil ?_)
 clear m; intro u m
 simp only [ev,zD,zE,zF,zG]
 refine mstoreA m 0 rfl rfl rfl cells_32 (leT rfl) rfl ?_
 clear m; intro u m; simp only [over,zH,zI,zJ,zK,zL,zM,zN,zO,zP,zF,zG,Nat.reduceAdd] at m
 refine n_nil (k2 _ _ ?_)
 refine wp_ret ?_
 try simp only [Exit.inBlock,Exit.then,if_true]
 refine fin1 rfl ⟨_, rfl, ((m.b 0 rfl).full agg_32 cells_32)⟩ ?_
 try simp only [zD,zE]
 exact ⟨_, rfl, m.ext, rfl⟩

set_option maxHeartbeats 400000 in
theorem r2prod_c {u v : P3} (hu : Bv 400000 u) (hv : Bv 400000 v) : Pure Tryz.prog 107 [wv u, wv v] (wv (u.cross v)) := by
 intro w
 refine ⟨en_107, ?_⟩
 have m := Mem.refl w
 go_enter Tryz.func107, Tryz.ntmps107
 refine c_seq fun K1 k1 => wp_region_lit (mboxA m rfl ?_)
 clear m; intro g1 u m
 simp only [ev,zD,zE,zF,zG]
 refine mboxA m rfl ?_
 clear m; intro g2 u m
 simp only [ev,zD,zE,zF,zG]
 refine malloc m zero_75 rfl ?_
 clear m; intro g3 u m
 refine n_nil (k1 _ _ ?_)
 refine c_seq fun K2 k2 => ?_
 simp only [ev,zD,zE,zF,zG]
 refine mq_tail m 28 follows_mixed (by kernel_rfl) ?_
 simp only [zH,zI,zJ,zK]
 refine q_val (r_indexAddrA Tryz.underlying75 cells_32 rfl rfl (by decide) (by decide) rfl) ?_
 simp only [ev,zD,zE,zF,zG]
 refine ql rfl (fun u m => ((m.b 2 rfl).lies agg_32 cells_32 rfl rfl)) ?_
 simp only [ev,zD,zE,zF,zG,zH,zI,zJ,zK,Nat.zero_add,Nat.reduceAdd,Nat.reduceMul,Int.reduceToNat]
 refine q_val (r_indexAddrA Tryz.underlying75 cells_32 rfl rfl (by decide) (by decide) rfl) ?_
 simp only [ev,zD,zE,zF,zG]
 refine ql rfl (fun u m => ((m.b 1 rfl).lies agg_32 cells_32 rfl rfl)) ?_
 simp only [ev,zD,zE,zF,zG,zH,zI,zJ,zK,Nat.zero_add,Nat.reduceAdd,Nat.reduceMul,Int.reduceToNat]
 refine q_val (r_indexAddrA Tryz.underlying75 cells_32 rfl rfl (by decide) (by decide) rfl) ?_
 simp only [ev,zD,zE,zF,zG]
 refine ql rfl (fun u m => ((m.b 2 rfl).lies agg_32 cells_32 rfl rfl)) ?_
 simp only [ev,zD,zE,zF,zG,zH,zI,zJ,zK,Nat.zero_add,Nat.reduceAdd,Nat.reduceMul,Int.reduceToNat]
 refine q_val (r_indexAddrA Tryz.underlying75 cells_32 rfl rfl (by decide) (by decide) rfl) ?_
 simp only [ev,zD,zE,zF,zG]
 refine ql rfl (fun u m => ((m.b 1 rfl).lies agg_32 cells_32 rfl rfl)) ?_
 simp only [ev,zD,zE,zF,zG,zH,zI,zJ,zK,Nat.zero_add,Nat.reduceAdd,Nat.reduceMul,Int.reduceToNat]
 refine qcP rfl rfl (r2minus_c Bw.up Bw.up Bw.up Bw.up) (q_val (r_indexAddrA Tryz.underlying75 cells_32 rfl rfl (by decide) (by decide) rfl) ?_)
 simp only [ev,zD,zE,zF,zG]
 refine ql rfl (fun u m => ((m.b 2 rfl).lies agg_32 cells_32 rfl rfl)) ?_
 simp only [ev,zD,zE,zF,zG,zH,zI,zJ,zK,Nat.zero_add,Nat.reduceAdd,Nat.reduceMul,Int.reduceToNat]
 refine q_val (r_indexAddrA Tryz.underlying75 cells_32 rfl rfl (by decide) (by decide) rfl) ?_
 simp only [ev,zD,zE,zF,zG]
 refine ql rfl (fun u m => ((m.b 1 rfl).lies agg_32 cells_32 rfl rfl)) ?_
 simp only [ev,zD,zE,zF,zG,zH,zI,zJ,zK,Nat.zero_add,Nat.reduceAdd,Nat.reduceMul,Int.reduceToNat]
 refine q_val (r_indexAddrA Tryz.underlying75 cells_32 rfl rfl (by decide) (by decide) rfl) ?_
 simp only [ev,zD,zE,zF,zG]
 refine ql rfl (fun u m => ((m.b 2 rfl).lies agg_32 cells_32 rfl rfl)) ?_
 simp only [ev,zD,zE,zF,zG,zH,zI,zJ,zK,Nat.zero_add,Nat.reduceAdd,Nat.reduceMul,Int.reduceToNat]
 refine q_val (r_indexAddrA Tryz.underlying75 cells_32 rfl rfl (by decide) (by decide) rfl) ?_
 simp only [ev,zD,zE,zF,zG]
 refine ql rfl (fun u m => ((m.b 1 rfl).lies agg_32 cells_32 rfl rfl)) ?_
 simp only [ev,zD,zE,zF,zG,zH,zI,zJ,zK,Nat.zero_add,Nat.reduceAdd,Nat.reduceMul,Int.reduceToNat]
 refine qcP rfl rfl (r2minus_c Bw.up Bw.up Bw.up Bw.up) (q_val (r_indexAddrA Tryz.underlying75 cells_32 rfl rfl (by decide) (by decide) rfl) ?_)
 simp only [ev,zD,zE,zF,zG]
 refine ql rfl (fun u m => ((m.b 2 rfl).lies agg_32 cells_32 rfl rfl)) ?_
 simp only [ev,zD,zE,zF,zG,zH,zI,zJ,zK,Nat.zero_add,Nat.reduceAdd,Nat.reduceMul,Int.reduceToNat]
 refine q_val (r_indexAddrA Tryz.underlying75 cells_32 rfl rfl (by decide) (by decide) rfl) ?_
 simp only [ev,zD,zE,zF,zG]
 refine ql rfl (fun u m => ((m.b 1 rfl).lies agg_32 cells_32 rfl rfl)) ?_
 simp only [ev,zD,zE,zF,zG,zH,zI,zJ,zK,Nat.zero_add,Nat.reduceAdd,Nat.reduceMul,Int.reduceToNat]
 refine q_val (r_indexAddrA Tryz.underlying75 cells_32 rfl rfl (by decide) (by decide) rfl) ?_
 simp only [ev,zD,zE,zF,zG]
 refine ql rfl (fun u m => ((m.b 2 rfl).lies agg_32 cells_32 rfl rfl)) ?_
 simp only [ev,zD,zE,zF,zG,zH,zI,zJ,zK,Nat.zero_add,Nat.reduceAdd,Nat.reduceMul,Int.reduceToNat]
 refine q_val (r_indexAddrA Tryz.underlying75 cells_32 rfl rfl (by decide) (by decide) rfl) ?_
 simp only [ev,zD,zE,zF,zG]
 refine ql rfl (fun u m => ((m.b 1 rfl).lies agg_32 cells_32 rfl rfl)) ?_
 simp only [ev,zD,zE,zF,zG,zH,zI,zJ,zK,Nat.zero_add,Nat.reduceAdd,Nat.reduceMul,Int.reduceToNat]
 refine qcP rfl rfl (r2minus_c Bw.up Bw.up Bw.up Bw.up) (q_val (r_build_75_0_1_2 rfl rfl rfl) (q_nil ?_))
 clear m; intro u m
 simp only [ev,zD,zE,zF,zG]
 refine mstoreA m 0 rfl rfl rfl cells_75 (leT rfl) rfl ?_
 clear m; intro u m; simp only [over,zH,zI,zJ,zK,zL,zM,zN,zO,zP,zF,zG,Nat.reduceAdd] at m
 refine n_nil (k2 _ _ ?_)
 refine wp_ret ?_
 try simp only [Exit.inBlock,Exit.then,if_true]
 refine fin1 rfl ⟨_, rfl, ((m.b 0 rfl).full agg_75 cells_75)⟩ ?_
 try simp only [zD,zE]
 exact ⟨_, rfl, m.ext, rfl⟩

set_option maxHeartbeats 400000 in
theorem rNormal_c {t : T3} [IT t] : Pure Tryz.prog 51 [tr t] (wv t.normal) := by
 intro w
 refine ⟨en_51, ?_⟩
 have m := Mem.refl w
 go_enter Tryz.func51, Tryz.ntmps51
 refine c_seq fun K1 k1 => wp_region_lit (mboxA m rfl ?_)
 clear m; intro g1 u m
 simp only [ev,zD,zE,zF,zG]
 refine malloc m zero_75 rfl ?_
 clear m; intro g2 u m
 refine n_nil (k1 _ _ ?_)
 refine c_seq fun K2 k2 => ?_
 simp only [ev,zD,zE,zF,zG]
 refine mq_tail m 11 follows_mixed (by kernel_rfl) ?_
 simp only [zH,zI,zJ,zK]
 refine q_val (r_indexAddrA Tryz.underlying59 cells_28 rfl rfl (by decide) (by decide) rfl) ?_
 simp only [ev,zD,zE,zF,zG]
 refine ql rfl (fun u m => ((m.b 1 rfl).lies agg_28 cells_28 rfl rfl)) ?_
 simp only [ev,zD,zE,zF,zG,zH,zI,zJ,zK,Nat.zero_add,Nat.reduceAdd,Nat.reduceMul,Int.reduceToNat]
 refine q_val (r_indexAddrA Tryz.underlying59 cells_28 rfl rfl (by decide) (by decide) rfl) ?_
 simp only [ev,zD,zE,zF,zG]
 refine ql rfl (fun u m => ((m.b 1 rfl).lies agg_28 cells_28 rfl rfl)) ?_
 simp only [ev,zD,zE,zF,zG,zH,zI,zJ,zK,Nat.zero_add,Nat.reduceAdd,Nat.reduceMul,Int.reduceToNat]
 refine qcP rfl rfl (r2wide_c) (q_val (r_indexAddrA Tryz.underlying59 cells_28 rfl rfl (by decide) (by decide) rfl) ?_)
 simp only [ev,zD,zE,zF,zG]
 refine ql rfl (fun u m => ((m.b 1 rfl).lies agg_28 cells_28 rfl rfl)) ?_
 simp only [ev,zD,zE,zF,zG,zH,zI,zJ,zK,Nat.zero_add,Nat.reduceAdd,Nat.reduceMul,Int.reduceToNat]
 refine q_val (r_indexAddrA Tryz.underlying59 cells_28 rfl rfl (by decide) (by decide) rfl) ?_
 simp only [ev,zD,zE,zF,zG]
 refine ql rfl (fun u m => ((m.b 1 rfl).lies agg_28 cells_28 rfl rfl)) ?_
 simp only [ev,zD,zE,zF,zG,zH,zI,zJ,zK,Nat.zero_add,Nat.reduceAdd,Nat.reduceMul,Int.reduceToNat]
 refine qcP rfl rfl (r2wide_c) ?_
 simp only [ev,zD,zE,zF,zG]
 refine qcP rfl rfl (r2prod_c Bv.of Bv.of) (q_nil ?_)
 clear m; intro u m
 simp only [ev,zD,zE,zF,zG]
 refine mstoreA m 0 rfl rfl rfl cells_75 (leT rfl) rfl ?_
 clear m; intro u m; simp only [over,zH,zI,zJ,zK,zL,zM,zN,zO,zP,zF,zG,Nat.reduceAdd] at m
 refine n_nil (k2 _ _ ?_)
 refine wp_ret ?_
 try simp only [Exit.inBlock,Exit.then,if_true]
 refine fin1 rfl ⟨_, rfl, ((m.b 0 rfl).full agg_75 cells_75)⟩ ?_
 try simp only [zD,zE]
 exact ⟨_, rfl, m.ext, rfl⟩

set_option maxHeartbeats 400000 in
theorem rDist2_c {p q : P3} [I3 p] [I3 q] : Pure Tryz.prog 36 [pt p, pt q] (W ((q.sub p).dot (q.sub p))) := by
 intro w
 refine ⟨en_36, ?_⟩
 have m := Mem.refl w
 go_enter Tryz.func36, Tryz.ntmps36
 refine c_seq fun K1 k1 => wp_region_lit (mboxA m rfl ?_)
 clear m; intro g1 u m
 simp only [ev,zD,zE,zF,zG]
 refine mboxA m rfl ?_
 clear m; intro g2 u m
 simp only [ev,zD,zE,zF,zG]
 refine malloc m zero_32 rfl ?_
 clear m; intro g3 u m
 refine n_nil (k1 _ _ ?_)
 refine c_seq fun K2 k2 => wp_region_lit ?_
 simp only [ev,zD,zE,zF,zG]
 refine n_load rfl ((m.b 2 rfl).full agg_28 cells_28) ?_
 simp only [ev,zD,zE,zF,zG]
 refine n_load rfl ((m.b 1 rfl).full agg_28 cells_28) ?_
 simp only [ev,zD,zE,zF,zG]
 refine mcallP m rfl rfl (r2wide_c) ?_
 clear m; intro u m
 simp only [ev,zD,zE,zF,zG]
 refine malloc m zero_75 rfl ?_
 clear m; intro g4 u m
 simp only [ev,zD,zE,zF,zG]
 refine mstoreA m 0 rfl rfl rfl cells_75 (leT rfl) rfl ?_
 clear m; intro u m; simp only [over,zH,zI,zJ,zK,zL,zM,zN,zO,zP,zF,zG,Nat.reduceAdd] at m
 refine n_nil (k2 _ _ ?_)
 refine c_seq fun K3 k3 => wp_region_lit (n_load rfl ((m.b 0 rfl).full agg_75 cells_75) ?_)
 simp only [ev,zD,zE,zF,zG]
 refine n_load rfl ((m.b 0 rfl).full agg_75 cells_75) ?_
 simp only [ev,zD,zE,zF,zG]
 refine mcallP m rfl rfl (r2scalar_c Bv.of Bv.of) ?_
 clear m; intro u m
 simp only [ev,zD,zE,zF,zG]
 refine mstoreA m 1 rfl rfl rfl cells_32 (leT rfl) rfl ?_
 clear m; intro u m; simp only [over,zH,zI,zJ,zK,zL,zM,zN,zO,zP,zF,zG,Nat.reduceAdd] at m
 refine n_nil (k3 _ _ ?_)
 refine wp_ret ?_
 try simp only [Exit.inBlock,Exit.then,if_true]
 refine fin1 rfl ⟨_, rfl, ((m.b 1 rfl).full agg_32 cells_32)⟩ ?_
 try simp only [zD,zE]
 exact ⟨_, rfl, m.ext, rfl⟩

set_option maxHeartbeats 400000 in
theorem rDot_c {u v : P3} (hu : Bv 400000 u) (hv : Bv 400000 v) : Pure Tryz.prog 52 [wv u, wv v] (W (u.dot v)) := by
 intro w
 refine ⟨en_52, ?_⟩
 have m := Mem.refl w
 go_enter Tryz.func52, Tryz.ntmps52
 refine c_seq fun K1 k1 => wp_region_lit (mboxA m rfl ?_)
 clear m; intro g1 u m
 simp only [ev,zD,zE,zF,zG]
 refine mboxA m rfl ?_
 clear m; intro g2 u m
 simp only [ev,zD,zE,zF,zG]
 refine malloc m zero_32 rfl ?_
 clear m; intro g3 u m
 refine n_nil (k1 _ _ ?_)
 refine c_seq fun K2 k2 => wp_region_lit (n_val (r_indexAddrA Tryz.underlying75 cells_32 rfl rfl (by decide) (by decide) rfl) ?_)
 simp only [ev,zD,zE,zF,zG]
 refine n_load rfl ((m.b 2 rfl).lies agg_32 cells_32 rfl rfl) ?_
 simp only [ev,zD,zE,zF,zG,zH,zI,zJ,zK,Nat.zero_add,Nat.reduceAdd,Nat.reduceMul,Int.reduceToNat]
 refine n_val (r_indexAddrA Tryz.underlying75 cells_32 rfl rfl (by decide) (by decide) rfl) ?_
 simp only [ev,zD,zE,zF,zG]
 refine n_load rfl ((m.b 1 rfl).lies agg_32 cells_32 rfl rfl) ?_
 simp only [ev,zD,zE,zF,zG,zH,zI,zJ,zK,Nat.zero_add,Nat.reduceAdd,Nat.reduceMul,Int.reduceToNat]
 refine mcallP m rfl rfl (rMul_c Bw.up Bw.up) ?_
 clear m; intro u m
 simp only [ev,zD,zE,zF,zG]
 refine malloc m zero_32 rfl ?_
 clear m; intro g4 u m
 simp only [ev,zD,zE,zF,zG]
 refine mstoreA m 0 rfl rfl rfl cells_32 (leT rfl) rfl ?_
 clear m; intro u m; simp only [over,zH,zI,zJ,zK,zL,zM,zN,zO,zP,zF,zG,Nat.reduceAdd] at m
 refine n_nil (k2 _ _ ?_)
 refine c_seq fun K3 k3 => ?_
 refine mq_tail m 7 follows_mixed (by kernel_rfl) ?_
 simp only [zH,zI,zJ,zK]
 refine ql rfl (fun u m => ((m.b 0 rfl).full agg_32 cells_32)) ?_
 simp only [ev,zD,zE,zF,zG]
 refine q_val (r_indexAddrA Tryz.underlying75 cells_32 rfl rfl (by decide) (by decide) rfl) ?_
 simp only [ev,zD,zE,zF,zG]
 refine ql rfl (fun u m => ((m.b 3 rfl).lies agg_32 cells_32 rfl rfl)) ?_
 simp only [ev,zD,zE,zF,zG,zH,zI,zJ,zK,Nat.zero_add,Nat.reduceAdd,Nat.reduceMul,Int.reduceToNat]
 refine q_val (r_indexAddrA Tryz.underlying75 cells_32 rfl rfl (by decide) (by decide) rfl) ?_
 simp only [ev,zD,zE,zF,zG]
 refine ql rfl (fun u m => ((m.b 2 rfl).lies agg_32 cells_32 rfl rfl)) ?_
 simp only [ev,zD,zE,zF,zG,zH,zI,zJ,zK,Nat.zero_add,Nat.reduceAdd,Nat.reduceMul,Int.reduceToNat]
 refine qcP rfl rfl (rMul_c Bw.up Bw.up) ?_
 simp only [ev,zD,zE,zF,zG]
 refine qcP rfl rfl (rAdd_c Bw.up Bw.up) (q_nil ?_)
 clear m; intro u m
 simp only [ev,zD,zE,zF,zG]
 refine mstoreA m 0 rfl rfl rfl cells_32 (leT rfl) rfl ?_
 clear m; intro u m; simp only [over,zH,zI,zJ,zK,zL,zM,zN,zO,zP,zF,zG,Nat.reduceAdd] at m
 refine n_nil (k3 _ _ ?_)
 refine c_seq fun K4 k4 => ?_
 refine mq_tail m 7 follows_mixed (by kernel_rfl) ?_
 simp only [zH,zI,zJ,zK]
 refine ql rfl (fun u m => ((m.b 0 rfl).full agg_32 cells_32)) ?_
 simp only [ev,zD,zE,zF,zG]
 refine q_val (r_indexAddrA Tryz.underlying75 cells_32 rfl rfl (by decide) (by decide) rfl) ?_
 simp only [ev,zD,zE,zF,zG]
 refine ql rfl (fun u m => ((m.b 3 rfl).lies agg_32 cells_32 rfl rfl)) ?_
 simp only [ev,zD,zE,zF,zG,zH,zI,zJ,zK,Nat.zero_add,Nat.reduceAdd,Nat.reduceMul,Int.reduceToNat]
 refine q_val (r_indexAddrA Tryz.underlying75 cells_32 rfl rfl (by decide) (by decide) rfl) ?_
 simp only [ev,zD,zE,zF,zG]
 refine ql rfl (fun u m => ((m.b 2 rfl).lies agg_32 cells_32 rfl rfl)) ?_
 simp only [ev,zD,zE,zF,zG,zH,zI,zJ,zK,Nat.zero_add,Nat.reduceAdd,Nat.reduceMul,Int.reduceToNat]
 refine qcP rfl rfl (rMul_c Bw.up Bw.up) ?_
 simp only [ev,zD,zE,zF,zG]
 refine qcP rfl rfl (rAdd_c Bw.up Bw.up) (q_nil ?_)
 clear m; intro u m
 simp only [ev,zD,zE,zF,zG]
 refine mstoreA m 1 rfl rfl rfl cells_32 (leT rfl) rfl ?_
 clear m; intro u m; simp only [over,zH,zI,zJ,zK,zL,zM,zN,zO,zP,zF,zG,Nat.reduceAdd] at m
 refine n_nil (k4 _ _ ?_)
 refine wp_ret ?_
 try simp only [Exit.inBlock,Exit.then,if_true]
 refine fin1 rfl ⟨_, rfl, ((m.b 1 rfl).full agg_32 cells_32)⟩ ?_
 try simp only [zD,zE]
 exact ⟨_, rfl, m.ext, rfl⟩

set_option maxHeartbeats 400000 in
theorem rZero_c  : Pure Tryz.prog 100 [] (Q 0) := by
 intro w
 refine ⟨en_100, ?_⟩
 have m := Mem.refl w
 haveI : Iw 0 := ⟨by unfold I64; decide⟩
 go_enter Tryz.func100, Tryz.ntmps100
 refine c_seq fun K1 k1 => wp_region_lit (malloc m zero_34 rfl ?_)
 clear m; intro g1 u m
 refine n_nil (k1 _ _ ?_)
 refine c_seq fun K2 k2 => wp_region_lit ?_
 simp only [ev,zD,zE,zF,zG]
 refine mcallP m rfl rfl (rFrom_c Iw.h) ?_
 clear m; intro u m
 simp only [ev,zD,zE,zF,zG]
 refine mcallP m rfl rfl (rFrom_c Iw.h) ?_
 clear m; intro u m
 refine n_val (r_build_34_0_1 rfl rfl) ?_
 simp only [ev,zD,zE,zF,zG]
 refine mstoreA m 0 rfl rfl rfl cells_34 (leT rfl) rfl ?_
 clear m; intro u m; simp only [over,zH,zI,zJ,zK,zL,zM,zN,zO,zP,zF,zG,Nat.reduceAdd] at m
 refine n_nil (k2 _ _ ?_)
 refine wp_ret ?_
 try simp only [Exit.inBlock,Exit.then,if_true]
 refine fin1 rfl ⟨_, rfl, ((m.b 0 rfl).full agg_34 cells_34)⟩ ?_
 try simp only [zD,zE]
 exact ⟨_, rfl, m.ext, rfl⟩

set_option maxHeartbeats 400000 in
theorem minor_0 {u v : P3} (hu : Bv 400000 u) (hv : Bv 400000 v) : Pure Tryz.prog 170 [wv u, wv v, .int .i64 1, .int .i64 2] (W (u.y * v.z - u.z * v.y)) := by
 intro w
 refine ⟨en_170, ?_⟩
 have m := Mem.refl w
 go_enter Tryz.func170, Tryz.ntmps170
 refine c_seq fun K1 k1 => wp_region_lit (mboxA m rfl ?_)
 clear m; intro g1 u m
 simp only [ev,zD,zE,zF,zG]
 refine mboxA m rfl ?_
 clear m; intro g2 u m
 simp only [ev,zD,zE,zF,zG]
 refine malloc m zero_32 rfl ?_
 clear m; intro g3 u m
 refine n_nil (k1 _ _ ?_)
 refine c_seq fun K2 k2 => ?_
 simp only [ev,zD,zE,zF,zG]
 refine mq_tail m 15 follows_mixed (by kernel_rfl) ?_
 simp only [zH,zI,zJ,zK]
 refine q_val (r_move) (q_val (r_indexAddrA Tryz.underlying75 cells_32 rfl rfl (by decide) (by decide) rfl) ?_)
 simp only [ev,zD,zE,zF,zG]
 refine ql rfl (fun u m => ((m.b 2 rfl).lies agg_32 cells_32 rfl rfl)) ?_
 simp only [ev,zD,zE,zF,zG,zH,zI,zJ,zK,Nat.zero_add,Nat.reduceAdd,Nat.reduceMul,Int.reduceToNat]
 refine q_val (r_move) (q_val (r_indexAddrA Tryz.underlying75 cells_32 rfl rfl (by decide) (by decide) rfl) ?_)
 simp only [ev,zD,zE,zF,zG]
 refine ql rfl (fun u m => ((m.b 1 rfl).lies agg_32 cells_32 rfl rfl)) ?_
 simp only [ev,zD,zE,zF,zG,zH,zI,zJ,zK,Nat.zero_add,Nat.reduceAdd,Nat.reduceMul,Int.reduceToNat]
 refine qcP rfl rfl (rMul_c Bw.up Bw.up) (q_val (r_move) (q_val (r_indexAddrA Tryz.underlying75 cells_32 rfl rfl (by decide) (by decide) rfl) ?_))
 simp only [ev,zD,zE,zF,zG]
 refine ql rfl (fun u m => ((m.b 2 rfl).lies agg_32 cells_32 rfl rfl)) ?_
 simp only [ev,zD,zE,zF,zG,zH,zI,zJ,zK,Nat.zero_add,Nat.reduceAdd,Nat.reduceMul,Int.reduceToNat]
 refine q_val (r_move) (q_val (r_indexAddrA Tryz.underlying75 cells_32 rfl rfl (by decide) (by decide) rfl) ?_)
 simp only [ev,zD,zE,zF,zG]
 refine ql rfl (fun u m => ((m.b 1 rfl).lies agg_32 cells_32 rfl rfl)) ?_
 simp only [ev,zD,zE,zF,zG,zH,zI,zJ,zK,Nat.zero_add,Nat.reduceAdd,Nat.reduceMul,Int.reduceToNat]
 refine qcP rfl rfl (rMul_c Bw.up Bw.up) ?_
 simp only [ev,zD,zE,zF,zG]
 refine qcP rfl rfl (rSub_c Bw.up Bw.up) (q_nil ?_)
 clear m; intro u m
 simp only [ev,zD,zE,zF,zG]
 refine mstoreA m 0 rfl rfl rfl cells_32 (leT rfl) rfl ?_
 clear m; intro u m; simp only [over,zH,zI,zJ,zK,zL,zM,zN,zO,zP,zF,zG,Nat.reduceAdd] at m
 refine n_nil (k2 _ _ ?_)
 refine wp_ret ?_
 try simp only [Exit.inBlock,Exit.then,if_true]
 refine fin1 rfl ⟨_, rfl, ((m.b 0 rfl).full agg_32 cells_32)⟩ ?_
 try simp only [zD,zE]
 exact ⟨_, rfl, m.ext, rfl⟩

set_option maxHeartbeats 400000 in
theorem minor_1 {u v : P3} (hu : Bv 400000 u) (hv : Bv 400000 v) : Pure Tryz.prog 170 [wv u, wv v, .int .i64 2, .int .i64 0] (W (u.z * v.x - u.x * v.z)) := by
 intro w
 refine ⟨en_170, ?_⟩
 have m := Mem.refl w
 go_enter Tryz.func170, Tryz.ntmps170
 refine c_seq fun K1 k1 => wp_region_lit (mboxA m rfl ?_)
 clear m; intro g1 u m
 simp only [ev,zD,zE,zF,zG]
 refine mboxA m rfl ?_
 clear m; intro g2 u m
 simp only [ev,zD,zE,zF,zG]
 refine malloc m zero_32 rfl ?_
 clear m; intro g3 u m
 refine n_nil (k1 _ _ ?_)
 refine c_seq fun K2 k2 => ?_
 simp only [ev,zD,zE,zF,zG]
 refine mq_tail m 15 follows_mixed (by kernel_rfl) ?_
 simp only [zH,zI,zJ,zK]
 refine q_val (r_move) (q_val (r_indexAddrA Tryz.underlying75 cells_32 rfl rfl (by decide) (by decide) rfl) ?_)
 simp only [ev,zD,zE,zF,zG]
 refine ql rfl (fun u m => ((m.b 2 rfl).lies agg_32 cells_32 rfl rfl)) ?_
 simp only [ev,zD,zE,zF,zG,zH,zI,zJ,zK,Nat.zero_add,Nat.reduceAdd,Nat.reduceMul,Int.reduceToNat]
 refine q_val (r_move) (q_val (r_indexAddrA Tryz.underlying75 cells_32 rfl rfl (by decide) (by decide) rfl) ?_)
 simp only [ev,zD,zE,zF,zG]
 refine ql rfl (fun u m => ((m.b 1 rfl).lies agg_32 cells_32 rfl rfl)) ?_
 simp only [ev,zD,zE,zF,zG,zH,zI,zJ,zK,Nat.zero_add,Nat.reduceAdd,Nat.reduceMul,Int.reduceToNat]
 refine qcP rfl rfl (rMul_c Bw.up Bw.up) (q_val (r_move) (q_val (r_indexAddrA Tryz.underlying75 cells_32 rfl rfl (by decide) (by decide) rfl) ?_))
 simp only [ev,zD,zE,zF,zG]
 refine ql rfl (fun u m => ((m.b 2 rfl).lies agg_32 cells_32 rfl rfl)) ?_
 simp only [ev,zD,zE,zF,zG,zH,zI,zJ,zK,Nat.zero_add,Nat.reduceAdd,Nat.reduceMul,Int.reduceToNat]
 refine q_val (r_move) (q_val (r_indexAddrA Tryz.underlying75 cells_32 rfl rfl (by decide) (by decide) rfl) ?_)
 simp only [ev,zD,zE,zF,zG]
 refine ql rfl (fun u m => ((m.b 1 rfl).lies agg_32 cells_32 rfl rfl)) ?_
 simp only [ev,zD,zE,zF,zG,zH,zI,zJ,zK,Nat.zero_add,Nat.reduceAdd,Nat.reduceMul,Int.reduceToNat]
 refine qcP rfl rfl (rMul_c Bw.up Bw.up) ?_
 simp only [ev,zD,zE,zF,zG]
 refine qcP rfl rfl (rSub_c Bw.up Bw.up) (q_nil ?_)
 clear m; intro u m
 simp only [ev,zD,zE,zF,zG]
 refine mstoreA m 0 rfl rfl rfl cells_32 (leT rfl) rfl ?_
 clear m; intro u m; simp only [over,zH,zI,zJ,zK,zL,zM,zN,zO,zP,zF,zG,Nat.reduceAdd] at m
 refine n_nil (k2 _ _ ?_)
 refine wp_ret ?_
 try simp only [Exit.inBlock,Exit.then,if_true]
 refine fin1 rfl ⟨_, rfl, ((m.b 0 rfl).full agg_32 cells_32)⟩ ?_
 try simp only [zD,zE]
 exact ⟨_, rfl, m.ext, rfl⟩

set_option maxHeartbeats 400000 in
theorem minor_2 {u v : P3} (hu : Bv 400000 u) (hv : Bv 400000 v) : Pure Tryz.prog 170 [wv u, wv v, .int .i64 0, .int .i64 1] (W (u.x * v.y - u.y * v.x)) := by
 intro w
 refine ⟨en_170, ?_⟩
 have m := Mem.refl w
 go_enter Tryz.func170, Tryz.ntmps170
 refine c_seq fun K1 k1 => wp_region_lit (mboxA m rfl ?_)
 clear m; intro g1 u m
 simp only [ev,zD,zE,zF,zG]
 refine mboxA m rfl ?_
 clear m; intro g2 u m
 simp only [ev,zD,zE,zF,zG]
 refine malloc m zero_32 rfl ?_
 clear m; intro g3 u m
 refine n_nil (k1 _ _ ?_)
 refine c_seq fun K2 k2 => ?_
 simp only [ev,zD,zE,zF,zG]
 refine mq_tail m 15 follows_mixed (by kernel_rfl) ?_
 simp only [zH,zI,zJ,zK]
 refine q_val (r_move) (q_val (r_indexAddrA Tryz.underlying75 cells_32 rfl rfl (by decide) (by decide) rfl) ?_)
 simp only [ev,zD,zE,zF,zG]
 refine ql rfl (fun u m => ((m.b 2 rfl).lies agg_32 cells_32 rfl rfl)) ?_
 simp only [ev,zD,zE,zF,zG,zH,zI,zJ,zK,Nat.zero_add,Nat.reduceAdd,Nat.reduceMul,Int.reduceToNat]
 refine q_val (r_move) (q_val (r_indexAddrA Tryz.underlying75 cells_32 rfl rfl (by decide) (by decide) rfl) ?_)
 simp only [ev,zD,zE,zF,zG]
 refine ql rfl (fun u m => ((m.b 1 rfl).lies agg_32 cells_32 rfl rfl)) ?_
 simp only [ev,zD,zE,zF,zG,zH,zI,zJ,zK,Nat.zero_add,Nat.reduceAdd,Nat.reduceMul,Int.reduceToNat]
 refine qcP rfl rfl (rMul_c Bw.up Bw.up) (q_val (r_move) (q_val (r_indexAddrA Tryz.underlying75 cells_32 rfl rfl (by decide) (by decide) rfl) ?_))
 simp only [ev,zD,zE,zF,zG]
 refine ql rfl (fun u m => ((m.b 2 rfl).lies agg_32 cells_32 rfl rfl)) ?_
 simp only [ev,zD,zE,zF,zG,zH,zI,zJ,zK,Nat.zero_add,Nat.reduceAdd,Nat.reduceMul,Int.reduceToNat]
 refine q_val (r_move) (q_val (r_indexAddrA Tryz.underlying75 cells_32 rfl rfl (by decide) (by decide) rfl) ?_)
 simp only [ev,zD,zE,zF,zG]
 refine ql rfl (fun u m => ((m.b 1 rfl).lies agg_32 cells_32 rfl rfl)) ?_
 simp only [ev,zD,zE,zF,zG,zH,zI,zJ,zK,Nat.zero_add,Nat.reduceAdd,Nat.reduceMul,Int.reduceToNat]
 refine qcP rfl rfl (rMul_c Bw.up Bw.up) ?_
 simp only [ev,zD,zE,zF,zG]
 refine qcP rfl rfl (rSub_c Bw.up Bw.up) (q_nil ?_)
 clear m; intro u m
 simp only [ev,zD,zE,zF,zG]
 refine mstoreA m 0 rfl rfl rfl cells_32 (leT rfl) rfl ?_
 clear m; intro u m; simp only [over,zH,zI,zJ,zK,zL,zM,zN,zO,zP,zF,zG,Nat.reduceAdd] at m
 refine n_nil (k2 _ _ ?_)
 refine wp_ret ?_
 try simp only [Exit.inBlock,Exit.then,if_true]
 refine fin1 rfl ⟨_, rfl, ((m.b 0 rfl).full agg_32 cells_32)⟩ ?_
 try simp only [zD,zE]
 exact ⟨_, rfl, m.ext, rfl⟩

set_option maxHeartbeats 400000 in
theorem cross3_c {u v : P3} (hu : Bv 400000 u) (hv : Bv 400000 v) : Pure Tryz.prog 145 [wv u, wv v] (wv (u.cross v)) := by
 intro w
 refine ⟨en_145, ?_⟩
 have m := Mem.refl w
 go_enter Tryz.func145, Tryz.ntmps145
 refine c_seq fun K1 k1 => wp_region_lit (mboxA m rfl ?_)
 clear m; intro g1 u m
 simp only [ev,zD,zE,zF,zG]
 refine mboxA m rfl ?_
 clear m; intro g2 u m
 simp only [ev,zD,zE,zF,zG]
 refine malloc m zero_75 rfl ?_
 clear m; intro g3 u m
 refine n_nil (k1 _ _ ?_)
 refine c_seq fun K2 k2 => ?_
 simp only [ev,zD,zE,zF,zG]
 refine mq_tail m 10 follows_mixed (by kernel_rfl) ?_
 simp only [zH,zI,zJ,zK]
 refine ql rfl (fun u m => ((m.b 2 rfl).full agg_75 cells_75)) ?_
 simp only [ev,zD,zE,zF,zG]
 refine ql rfl (fun u m => ((m.b 1 rfl).full agg_75 cells_75)) ?_
 simp only [ev,zD,zE,zF,zG]
 refine qcP rfl rfl (minor_0 hu hv) ?_
 simp only [ev,zD,zE,zF,zG]
 refine ql rfl (fun u m => ((m.b 2 rfl).full agg_75 cells_75)) ?_
 simp only [ev,zD,zE,zF,zG]
 refine ql rfl (fun u m => ((m.b 1 rfl).full agg_75 cells_75)) ?_
 simp only [ev,zD,zE,zF,zG]
 refine qcP rfl rfl (minor_1 hu hv) ?_
 simp only [ev,zD,zE,zF,zG]
 refine ql rfl (fun u m => ((m.b 2 rfl).full agg_75 cells_75)) ?_
 simp only [ev,zD,zE,zF,zG]
 refine ql rfl (fun u m => ((m.b 1 rfl).full agg_75 cells_75)) ?_
 simp only [ev,zD,zE,zF,zG]
 refine qcP rfl rfl (minor_2 hu hv) (q_val (r_build_75_0_1_2 rfl rfl rfl) (q_nil ?_))
 clear m; intro u m
 simp only [ev,zD,zE,zF,zG]
 refine mstoreA m 0 rfl rfl rfl cells_75 (leT rfl) rfl ?_
 clear m; intro u m; simp only [over,zH,zI,zJ,zK,zL,zM,zN,zO,zP,zF,zG,Nat.reduceAdd] at m
 refine n_nil (k2 _ _ ?_)
 refine wp_ret ?_
 try simp only [Exit.inBlock,Exit.then,if_true]
 refine fin1 rfl ⟨_, rfl, ((m.b 0 rfl).full agg_75 cells_75)⟩ ?_
 try simp only [zD,zE]
 exact ⟨_, rfl, m.ext, rfl⟩

set_option maxHeartbeats 400000 in
theorem coords_c {p : P3} [I3 p] : Pure Tryz.prog 81 [pt p] (wv p) := by
 intro w
 refine ⟨en_81, ?_⟩
 have m := Mem.refl w
 go_enter Tryz.func81, Tryz.ntmps81
 refine c_seq fun K1 k1 => wp_region_lit (mboxA m rfl ?_)
 clear m; intro g1 u m
 simp only [ev,zD,zE,zF,zG]
 refine malloc m zero_75 rfl ?_
 clear m; intro g2 u m
 refine n_nil (k1 _ _ ?_)
 refine c_seq fun K2 k2 => ?_
 simp only [ev,zD,zE,zF,zG]
 refine mq_tail m 10 follows_mixed (by kernel_rfl) ?_
 simp only [zH,zI,zJ,zK]
 refine q_val (r_fieldAddr (c := 0) Tryz.underlying28 rfl cells_3 rfl rfl) ?_
 simp only [ev,zD,zE,zF,zG]
 refine ql rfl (fun u m => ((m.b 1 rfl).lies1 agg_3 rfl)) ?_
 simp only [ev,zD,zE,zF,zG]
 refine qcP rfl rfl (rFrom_c Iw.h) (q_val (r_fieldAddr (c := 0) Tryz.underlying28 rfl cells_3 rfl rfl) ?_)
 simp only [ev,zD,zE,zF,zG]
 refine ql rfl (fun u m => ((m.b 1 rfl).lies1 agg_3 rfl)) ?_
 simp only [ev,zD,zE,zF,zG]
 refine qcP rfl rfl (rFrom_c Iw.h) (q_val (r_fieldAddr (c := 0) Tryz.underlying28 rfl cells_3 rfl rfl) ?_)
 simp only [ev,zD,zE,zF,zG]
 refine ql rfl (fun u m => ((m.b 1 rfl).lies1 agg_3 rfl)) ?_
 simp only [ev,zD,zE,zF,zG]
 refine qcP rfl rfl (rFrom_c Iw.h) (q_val (r_build_75_0_1_2 rfl rfl rfl) (q_nil ?_))
 clear m; intro u m
 simp only [ev,zD,zE,zF,zG]
 refine mstoreA m 0 rfl rfl rfl cells_75 (leT rfl) rfl ?_
 clear m; intro u m; simp only [over,zH,zI,zJ,zK,zL,zM,zN,zO,zP,zF,zG,Nat.reduceAdd] at m
 refine n_nil (k2 _ _ ?_)
 refine wp_ret ?_
 try simp only [Exit.inBlock,Exit.then,if_true]
 refine fin1 rfl ⟨_, rfl, ((m.b 0 rfl).full agg_75 cells_75)⟩ ?_
 try simp only [zD,zE]
 exact ⟨_, rfl, m.ext, rfl⟩

set_option maxHeartbeats 400000 in
theorem r23minus_c {p q : P3} [I3 p] [I3 q] : Pure Tryz.prog 87 [pt p, pt q] (wv (p.sub q)) := by
 intro w
 refine ⟨en_87, ?_⟩
 have m := Mem.refl w
 haveI := i3_bv (p := p); haveI := i3_bv (p := q)
 go_enter Tryz.func87, Tryz.ntmps87
 refine c_seq fun K1 k1 => wp_region_lit (mboxA m rfl ?_)
 clear m; intro g1 u m
 simp only [ev,zD,zE,zF,zG]
 refine mboxA m rfl ?_
 clear m; intro g2 u m
 simp only [ev,zD,zE,zF,zG]
 refine malloc m zero_75 rfl ?_
 clear m; intro g3 u m
 refine n_nil (k1 _ _ ?_)
 refine c_seq fun K2 k2 => wp_region_lit ?_
 simp only [ev,zD,zE,zF,zG]
 refine n_load rfl ((m.b 2 rfl).full agg_28 cells_28) ?_
 simp only [ev,zD,zE,zF,zG]
 refine mcallP m rfl rfl (coords_c) ?_
 clear m; intro u m
 simp only [ev,zD,zE,zF,zG]
 refine malloc m zero_75 rfl ?_
 clear m; intro g4 u m
 simp only [ev,zD,zE,zF,zG]
 refine mstoreA m 0 rfl rfl rfl cells_75 (leT rfl) rfl ?_
 clear m; intro u m; simp only [over,zH,zI,zJ,zK,zL,zM,zN,zO,zP,zF,zG,Nat.reduceAdd] at m
 refine n_nil (k2 _ _ ?_)
 refine c_seq fun K3 k3 => wp_region_lit (n_load rfl ((m.b 2 rfl).full agg_28 cells_28) ?_)
 simp only [ev,zD,zE,zF,zG]
 refine mcallP m rfl rfl (coords_c) ?_
 clear m; intro u m
 simp only [ev,zD,zE,zF,zG]
 refine malloc m zero_75 rfl ?_
 clear m; intro g5 u m
 simp only [ev,zD,zE,zF,zG]
 refine mstoreA m 0 rfl rfl rfl cells_75 (leT rfl) rfl ?_
 clear m; intro u m; simp only [over,zH,zI,zJ,zK,zL,zM,zN,zO,zP,zF,zG,Nat.reduceAdd] at m
 refine n_nil (k3 _ _ ?_)
 refine c_seq fun K4 k4 => ?_
 refine mq_tail m 16 follows_mixed (by kernel_rfl) ?_
 simp only [zH,zI,zJ,zK]
 refine q_val (r_indexAddrA Tryz.underlying75 cells_32 rfl rfl (by decide) (by decide) rfl) ?_
 simp only [ev,zD,zE,zF,zG]
 refine ql rfl (fun u m => ((m.b 1 rfl).lies agg_32 cells_32 rfl rfl)) ?_
 simp only [ev,zD,zE,zF,zG,zH,zI,zJ,zK,Nat.zero_add,Nat.reduceAdd,Nat.reduceMul,Int.reduceToNat]
 refine q_val (r_indexAddrA Tryz.underlying75 cells_32 rfl rfl (by decide) (by decide) rfl) ?_
 simp only [ev,zD,zE,zF,zG]
 refine ql rfl (fun u m => ((m.b 0 rfl).lies agg_32 cells_32 rfl rfl)) ?_
 simp only [ev,zD,zE,zF,zG,zH,zI,zJ,zK,Nat.zero_add,Nat.reduceAdd,Nat.reduceMul,Int.reduceToNat]
 refine qcP rfl rfl (rSub_c Bw.up Bw.up) (q_val (r_indexAddrA Tryz.underlying75 cells_32 rfl rfl (by decide) (by decide) rfl) ?_)
 simp only [ev,zD,zE,zF,zG]
 refine ql rfl (fun u m => ((m.b 1 rfl).lies agg_32 cells_32 rfl rfl)) ?_
 simp only [ev,zD,zE,zF,zG,zH,zI,zJ,zK,Nat.zero_add,Nat.reduceAdd,Nat.reduceMul,Int.reduceToNat]
 refine q_val (r_indexAddrA Tryz.underlying75 cells_32 rfl rfl (by decide) (by decide) rfl) ?_
 simp only [ev,zD,zE,zF,zG]
 refine ql rfl (fun u m => ((m.b 0 rfl).lies agg_32 cells_32 rfl rfl)) ?_
 simp only [ev,zD,zE,zF,zG,zH,zI,zJ,zK,Nat.zero_add,Nat.reduceAdd,Nat.reduceMul,Int.reduceToNat]
 refine qcP rfl rfl (rSub_c Bw.up Bw.up) (q_val (r_indexAddrA Tryz.underlying75 cells_32 rfl rfl (by decide) (by decide) rfl) ?_)
 simp only [ev,zD,zE,zF,zG]
 refine ql rfl (fun u m => ((m.b 1 rfl).lies agg_32 cells_32 rfl rfl)) ?_
 simp only [ev,zD,zE,zF,zG,zH,zI,zJ,zK,Nat.zero_add,Nat.reduceAdd,Nat.reduceMul,Int.reduceToNat]
 refine q_val (r_indexAddrA Tryz.underlying75 cells_32 rfl rfl (by decide) (by decide) rfl) ?_
 simp only [ev,zD,zE,zF,zG]
 refine ql rfl (fun u m => ((m.b 0 rfl).lies agg_32 cells_32 rfl rfl)) ?_
 simp only [ev,zD,zE,zF,zG,zH,zI,zJ,zK,Nat.zero_add,Nat.reduceAdd,Nat.reduceMul,Int.reduceToNat]
 refine qcP rfl rfl (rSub_c Bw.up Bw.up) (q_val (r_build_75_0_1_2 rfl rfl rfl) (q_nil ?_))
 clear m; intro u m
 simp only [ev,zD,zE,zF,zG]
 refine mstoreA m 2 rfl rfl rfl cells_75 (leT rfl) rfl ?_
 clear m; intro u m; simp only [over,zH,zI,zJ,zK,zL,zM,zN,zO,zP,zF,zG,Nat.reduceAdd] at m
 refine n_nil (k4 _ _ ?_)
 refine wp_ret ?_
 try simp only [Exit.inBlock,Exit.then,if_true]
 refine fin1 rfl ⟨_, rfl, ((m.b 2 rfl).full agg_75 cells_75)⟩ ?_
 try simp only [zD,zE]
 exact ⟨_, rfl, m.ext, rfl⟩

set_option maxHeartbeats 400000 in
theorem r23frac_c {n d : Int} (hn : Bd 400000 n) (hd : Bd 400000 d) (h0 : d ≠ 0) : Pure Tryz.prog 83 [W n, W d] (Q (Rat.divInt n d)) := by
 intro w
 refine ⟨en_83, ?_⟩
 have m := Mem.refl w
 go_enter Tryz.func83, Tryz.ntmps83
 refine c_seq fun K1 k1 => wp_region_lit (mboxA m rfl ?_)
 clear m; intro g1 u m
 simp only [ev,zD,zE,zF,zG]
 refine mboxA m rfl ?_
 clear m; intro g2 u m
 simp only [ev,zD,zE,zF,zG]
 refine malloc m zero_34 rfl ?_
 clear m; intro g3 u m
 refine n_nil (k1 _ _ ?_)
 refine c_seq fun K2 k2 => wp_region_lit ?_
 simp only [ev,zD,zE,zF,zG]
 refine n_load rfl ((m.b 2 rfl).full agg_32 cells_32) ?_
 simp only [ev,zD,zE,zF,zG]
 refine n_load rfl ((m.b 1 rfl).full agg_32 cells_32) ?_
 simp only [ev,zD,zE,zF,zG]
 refine mcallP m rfl rfl (rFrac_c hn hd h0) ?_
 clear m; intro u m
 refine n_val (r_move) (n_val (r_extract rfl rfl) (n_val (r_extract rfl rfl) ?_))
 simp only [ev,zD,zE,zF,zG]
 refine malloc m zero_34 rfl ?_
 clear m; intro g4 u m
 simp only [ev,zD,zE,zF,zG]
 refine mstoreA m 0 rfl rfl rfl cells_34 (leT rfl) rfl ?_
 clear m; intro u m; simp only [over,zH,zI,zJ,zK,zL,zM,zN,zO,zP,zF,zG,Nat.reduceAdd] at m
 refine n_val (r_assign) (n_nil (k2 _ _ ?_))
 refine c_seq fun K3 k3 => wp_region_lit ?_
 simp only [ev,zD,zE,zF,zG]
 refine n_load rfl ((m.b 0 rfl).full agg_34 cells_34) ?_
 simp only [ev,zD,zE,zF,zG]
 refine mstoreA m 1 rfl rfl rfl cells_34 (leT rfl) rfl ?_
 clear m; intro u m; simp only [over,zH,zI,zJ,zK,zL,zM,zN,zO,zP,zF,zG,Nat.reduceAdd] at m
 refine n_nil (k3 _ _ ?_)
 refine wp_ret ?_
 try simp only [Exit.inBlock,Exit.then,if_true]
 refine fin1 rfl ⟨_, rfl, ((m.b 1 rfl).full agg_34 cells_34)⟩ ?_
 try simp only [zD,zE]
 exact ⟨_, rfl, m.ext, rfl⟩

set_option maxHeartbeats 400000 in
theorem r23zero_c  : Pure Tryz.prog 45 [] (Q 0) := by
 intro w
 refine ⟨en_45, ?_⟩
 have m := Mem.refl w
 go_enter Tryz.func45, Tryz.ntmps45
 refine c_seq fun K1 k1 => wp_region_lit (malloc m zero_34 rfl ?_)
 clear m; intro g1 u m
 refine n_nil (k1 _ _ ?_)
 refine c_seq fun K2 k2 => wp_region_lit ?_
 simp only [ev,zD,zE,zF,zG]
 refine mcallP m rfl rfl (rZero_c) ?_
 clear m; intro u m
 simp only [ev,zD,zE,zF,zG]
 refine mstoreA m 0 rfl rfl rfl cells_34 (leT rfl) rfl ?_
 clear m; intro u m; simp only [over,zH,zI,zJ,zK,zL,zM,zN,zO,zP,zF,zG,Nat.reduceAdd] at m
 refine n_nil (k2 _ _ ?_)
 refine wp_ret ?_
 try simp only [Exit.inBlock,Exit.then,if_true]
 refine fin1 rfl ⟨_, rfl, ((m.b 0 rfl).full agg_34 cells_34)⟩ ?_
 try simp only [zD,zE]
 exact ⟨_, rfl, m.ext, rfl⟩

set_option maxHeartbeats 400000 in
theorem rsegment_c {x p q : P3} [I3 x] [I3 p] [I3 q] : Pure Tryz.prog 88 [pt x, pt p, pt q] (Q (segq x p q)) := by
 intro w
 refine ⟨en_88, ?_⟩
 have m := Mem.refl w
 go_enter Tryz.func88, Tryz.ntmps88
 refine c_seq fun K1 k1 => wp_region_lit (mboxA m rfl ?_)
 clear m; intro g1 u m
 simp only [ev,zD,zE,zF,zG]
 refine mboxA m rfl ?_
 clear m; intro g2 u m
 simp only [ev,zD,zE,zF,zG]
 refine mboxA m rfl ?_
 clear m; intro g3 u m
 simp only [ev,zD,zE,zF,zG]
 refine malloc m zero_34 rfl ?_
 clear m; intro g4 u m
 refine n_nil (k1 _ _ ?_)
 refine c_seq fun K2 k2 => wp_region_lit ?_
 simp only [ev,zD,zE,zF,zG]
 refine mcallP m rfl rfl (rFrom_c Iw.h) ?_
 clear m; intro u m
 simp only [ev,zD,zE,zF,zG]
 refine malloc m zero_32 rfl ?_
 clear m; intro g5 u m
 simp only [ev,zD,zE,zF,zG]
 refine mstoreA m 0 rfl rfl rfl cells_32 (leT rfl) rfl ?_
 clear m; intro u m; simp only [over,zH,zI,zJ,zK,zL,zM,zN,zO,zP,zF,zG,Nat.reduceAdd] at m
 refine n_nil (k2 _ _ ?_)
 refine c_seq fun K3 k3 => wp_region_lit (n_load rfl ((m.b 2 rfl).full agg_28 cells_28) ?_)
 simp only [ev,zD,zE,zF,zG]
 refine n_load rfl ((m.b 3 rfl).full agg_28 cells_28) ?_
 simp only [ev,zD,zE,zF,zG]
 refine mcallP m rfl rfl (r23minus_c) ?_
 clear m; intro u m
 simp only [ev,zD,zE,zF,zG]
 refine malloc m zero_75 rfl ?_
 clear m; intro g6 u m
 simp only [ev,zD,zE,zF,zG]
 refine mstoreA m 0 rfl rfl rfl cells_75 (leT rfl) rfl ?_
 clear m; intro u m; simp only [over,zH,zI,zJ,zK,zL,zM,zN,zO,zP,zF,zG,Nat.reduceAdd] at m
 refine n_nil (k3 _ _ ?_)
 refine c_seq fun K4 k4 => wp_region_lit (n_load rfl ((m.b 5 rfl).full agg_28 cells_28) ?_)
 simp only [ev,zD,zE,zF,zG]
 refine n_load rfl ((m.b 4 rfl).full agg_28 cells_28) ?_
 simp only [ev,zD,zE,zF,zG]
 refine mcallP m rfl rfl (r23minus_c) ?_
 clear m; intro u m
 simp only [ev,zD,zE,zF,zG]
 refine malloc m zero_75 rfl ?_
 clear m; intro g7 u m
 simp only [ev,zD,zE,zF,zG]
 refine mstoreA m 0 rfl rfl rfl cells_75 (leT rfl) rfl ?_
 clear m; intro u m; simp only [over,zH,zI,zJ,zK,zL,zM,zN,zO,zP,zF,zG,Nat.reduceAdd] at m
 refine n_nil (k4 _ _ ?_)
 refine c_seq fun K5 k5 => wp_region_lit (n_load rfl ((m.b 1 rfl).full agg_75 cells_75) ?_)
 simp only [ev,zD,zE,zF,zG]
 refine n_load rfl ((m.b 0 rfl).full agg_75 cells_75) ?_
 simp only [ev,zD,zE,zF,zG]
 refine mcallP m rfl rfl (rDot_c Bv.of Bv.of) ?_
 clear m; intro u m
 simp only [ev,zD,zE,zF,zG]
 refine malloc m zero_32 rfl ?_
 clear m; intro g8 u m
 simp only [ev,zD,zE,zF,zG]
 refine mstoreA m 0 rfl rfl rfl cells_32 (leT rfl) rfl ?_
 clear m; intro u m; simp only [over,zH,zI,zJ,zK,zL,zM,zN,zO,zP,zF,zG,Nat.reduceAdd] at m
 refine n_nil (k5 _ _ ?_)
 refine c_seq fun K6 k6 => wp_region_lit (n_load rfl ((m.b 2 rfl).full agg_75 cells_75) ?_)
 simp only [ev,zD,zE,zF,zG]
 refine n_load rfl ((m.b 2 rfl).full agg_75 cells_75) ?_
 simp only [ev,zD,zE,zF,zG]
 refine mcallP m rfl rfl (rDot_c Bv.of Bv.of) ?_
 clear m; intro u m
 simp only [ev,zD,zE,zF,zG]
 refine malloc m zero_32 rfl ?_
 clear m; intro g9 u m
 simp only [ev,zD,zE,zF,zG]
 refine mstoreA m 0 rfl rfl rfl cells_32 (leT rfl) rfl ?_
 clear m; intro u m; simp only [over,zH,zI,zJ,zK,zL,zM,zN,zO,zP,zF,zG,Nat.reduceAdd] at m
 refine n_nil (k6 _ _ ?_)
 refine c_seq fun K7 k7 => c_seq fun K8 k8 => wp_region_lit (n_load rfl ((m.b 1 rfl).full agg_32 cells_32) ?_)
 simp only [ev,zD,zE,zF,zG]
 refine mcallP m rfl rfl (rSign_c Bw.up) ?_
 clear m; intro u m
 refine n_val (r_leq rfl rfl) (n_nil (k8 _ _ ?_))
 simp only [ev,zD,zE,zF,zG]
 refine c_if rfl (fun hc1 => ?_) (fun hc1 => ?_)
 ·
  refine c_seq fun K9 k9 => ?_
  refine mq_tail m 5 follows_mixed (by kernel_rfl) ?_
  simp only [zH,zI,zJ,zK]
  refine ql rfl (fun u m => ((m.b 2 rfl).full agg_75 cells_75)) ?_
  simp only [ev,zD,zE,zF,zG]
  refine ql rfl (fun u m => ((m.b 2 rfl).full agg_75 cells_75)) ?_
  simp only [ev,zD,zE,zF,zG]
  refine qcP rfl rfl (rDot_c Bv.of Bv.of) ?_
  simp only [ev,zD,zE,zF,zG]
  refine ql rfl (fun u m => ((m.b 4 rfl).full agg_32 cells_32)) ?_
  simp only [ev,zD,zE,zF,zG]
  refine qcP rfl rfl (r23frac_c (d := 1) Bw.up Bw.up (by decide)) (q_nil ?_)
  clear m; intro u m
  simp only [ev,zD,zE,zF,zG]
  refine mstoreA m 5 rfl rfl rfl cells_34 (leT rfl) rfl ?_
  clear m; intro u m; simp only [over,zH,zI,zJ,zK,zL,zM,zN,zO,zP,zF,zG,Nat.reduceAdd] at m
  refine n_nil (k9 _ _ ?_)
  refine wp_ret ?_
  try simp only [Exit.inBlock,Exit.then,if_true]
  refine fin1 rfl ⟨_, rfl, ((m.b 5 rfl).full agg_34 cells_34)⟩ ?_
  try simp only [zD,zE]
  exact ⟨_, rfl, m.ext, by rw [segq, if_pos (isign_le.1 hc1)]; rfl⟩
 ·
  refine wp_skip (k7 _ _ ?_)
  refine c_seq fun K10 k10 => c_seq fun K11 k11 => wp_region_lit (n_load rfl ((m.b 1 rfl).full agg_32 cells_32) ?_)
  simp only [ev,zD,zE,zF,zG]
  refine n_load rfl ((m.b 0 rfl).full agg_32 cells_32) ?_
  simp only [ev,zD,zE,zF,zG]
  refine mcallP m rfl rfl (rCmp_c Bw.up Bw.up) ?_
  clear m; intro u m
  refine n_val (r_geq rfl rfl) (n_nil (k11 _ _ ?_))
  simp only [ev,zD,zE,zF,zG]
  refine c_if rfl (fun hc2 => ?_) (fun hc2 => ?_)
  ·
   refine c_seq fun K12 k12 => ?_
   refine mq_tail m 5 follows_mixed (by kernel_rfl) ?_
   simp only [zH,zI,zJ,zK]
   refine ql rfl (fun u m => ((m.b 8 rfl).full agg_28 cells_28)) ?_
   simp only [ev,zD,zE,zF,zG]
   refine ql rfl (fun u m => ((m.b 6 rfl).full agg_28 cells_28)) ?_
   simp only [ev,zD,zE,zF,zG]
   refine qcP rfl rfl (rDist2_c) ?_
   simp only [ev,zD,zE,zF,zG]
   refine ql rfl (fun u m => ((m.b 4 rfl).full agg_32 cells_32)) ?_
   simp only [ev,zD,zE,zF,zG]
   refine qcP rfl rfl (r23frac_c (d := 1) Bw.up Bw.up (by decide)) (q_nil ?_)
   clear m; intro u m
   simp only [ev,zD,zE,zF,zG]
   refine mstoreA m 5 rfl rfl rfl cells_34 (leT rfl) rfl ?_
   clear m; intro u m; simp only [over,zH,zI,zJ,zK,zL,zM,zN,zO,zP,zF,zG,Nat.reduceAdd] at m
   refine n_nil (k12 _ _ ?_)
   refine wp_ret ?_
   try simp only [Exit.inBlock,Exit.then,if_true]
   refine fin1 rfl ⟨_, rfl, ((m.b 5 rfl).full agg_34 cells_34)⟩ ?_
   try simp only [zD,zE]
   exact ⟨_, rfl, m.ext, by rw [segq, if_neg (mt isign_le.2 hc1), if_pos (by have := isign_nn.1 hc2; omega)]; rfl⟩
  ·
   refine wp_skip (k10 _ _ ?_)
   refine c_seq fun K13 k13 => ?_
   refine wp_region_fresh 10 [0, 1, 2, 3, 4, 5, 6, 7, 8] [⟨9, 12, 32, [.bool false, .string ⟨#[]⟩]⟩] follows_mixed (by kernel_rfl) (al1 ⟨_, _, _, rfl, by kernel_rfl, _, zero_32, rfl⟩) (ol := ?_) ?hol ?_
   case hol => simp only [zQ,zR,zS,zT,zU,zV]; try rfl
   intro u e; replace m := m.ext' e; clear e
   refine e_load rfl (fun u e => (((m.ext' e).b 2 rfl).full agg_75 cells_75)) ?_
   simp only [ev,zD,zE,zF,zG]
   refine e_load rfl (fun u e => (((m.ext' e).b 2 rfl).full agg_75 cells_75)) ?_
   simp only [ev,zD,zE,zF,zG]
   refine e_callP rfl rfl (rDot_c Bv.of Bv.of) ?_
   simp only [ev,zD,zE,zF,zG]
   refine e_load rfl (fun u e => (((m.ext' e).b 0 rfl).full agg_32 cells_32)) ?_
   simp only [ev,zD,zE,zF,zG]
   refine e_callP rfl rfl (rMul_c Bw.up Bw.up) ?_
   simp only [ev,zD,zE,zF,zG]
   refine e_load rfl (fun u e => (((m.ext' e).b 1 rfl).full agg_32 cells_32)) ?_
   simp only [ev,zD,zE,zF,zG]
   refine e_load rfl (fun u e => (((m.ext' e).b 1 rfl).full agg_32 cells_32)) ?_
   simp only [ev,zD,zE,zF,zG]
   refine e_callP rfl rfl (rMul_c Bw.up Bw.up) ?_
   simp only [ev,zD,zE,zF,zG]
   refine e_callP rfl rfl (rSub_c Bw.up Bw.up) (e_nil ?_)
   simp only [ev,zD,zE,zF,zG]
   refine mf1 m ?_
   clear m; intro g10 u m
   simp only [zJ,zK,zF,zG]
   refine mstoreA m 0 rfl rfl rfl cells_32 (leT rfl) rfl ?_
   clear m; intro u m; simp only [over,zH,zI,zJ,zK,zL,zM,zN,zO,zP,zF,zG,Nat.reduceAdd] at m
   refine n_nil (k13 _ _ ?_)
   refine c_seq fun K14 k14 => wp_region_lit (n_load rfl ((m.b 0 rfl).full agg_32 cells_32) ?_)
   simp only [ev,zD,zE,zF,zG]
   refine n_load rfl ((m.b 1 rfl).full agg_32 cells_32) ?_
   simp only [ev,zD,zE,zF,zG]
   refine mcallP m rfl rfl (r23frac_c Bw.up Bw.up (by have h1 := mt isign_le.2 hc1; have h2 := mt isign_nn.2 hc2; omega)) ?_
   clear m; intro u m
   simp only [ev,zD,zE,zF,zG]
   refine mstoreA m 6 rfl rfl rfl cells_34 (leT rfl) rfl ?_
   clear m; intro u m; simp only [over,zH,zI,zJ,zK,zL,zM,zN,zO,zP,zF,zG,Nat.reduceAdd] at m
   refine n_nil (k14 _ _ ?_)
   refine wp_ret ?_
   try simp only [Exit.inBlock,Exit.then,if_true]
   refine fin1 rfl ⟨_, rfl, ((m.b 6 rfl).full agg_34 cells_34)⟩ ?_
   try simp only [zD,zE]
   exact ⟨_, rfl, m.ext, by rw [segq, if_neg (mt isign_le.2 hc1), if_neg (by have := mt isign_nn.2 hc2; omega)]; rfl⟩

end Go.Proofs.YtmcgcnpgkkfkoaaGreatDoor
namespace Go.Proofs.YtmcgcnpgkkfkoaaGreatDoor
open Go.RowKit Go.Lith
set_option maxRecDepth 100000
attribute [local irreducible] wpList wpQuiet wpMix wpMixH wpTree Code.wp
set_option maxHeartbeats 1000000 in
theorem inside_c {x : P3} {t : T3} [I3 x] [IT t] : Pure Tryz.prog 86 [pt x, tr t, wv t.normal] (.bool (decide (ins x t))) := by
 intro w
 refine ⟨en_86, ?_⟩
 have m := Mem.refl w
 go_enter Tryz.func86, Tryz.ntmps86
 refine c_seq fun K1 k1 => wp_region_lit (mboxA m rfl ?_)
 clear m; intro g1 u m
 simp only [ev,zD,zE,zF,zG]
 refine mboxA m rfl ?_
 clear m; intro g2 u m
 simp only [ev,zD,zE,zF,zG]
 refine mboxA m rfl ?_
 clear m; intro g3 u m
 refine n_val (r_assign) (n_nil (k1 _ _ ?_))
 refine c_seq fun K2 k2 => c_seq fun K3 k3 => wp_region_lit (n_val (r_assign) (n_nil (k3 _ _ ?_)))
 refine wp_block (wp_loop_rounds 4 (rounds_step (c_seq fun K4 k4 => c_seq fun K5 k5 => wp_region_lit (n_val (r_move) ?_))))
 simp only [ev,zD,zE,zF,zG]
 refine n_val (r_lssT (m := 0) (n := 3) rfl rfl (by decide)) (n_nil (k5 _ _ ?_))
 refine c_yes rfl (wp_skip (k4 _ _ ?_))
 refine c_seq fun K6 k6 => wp_block (c_seq fun K7 k7 => wp_region_lit (n_val (r_move) (n_val (r_indexAddrA Tryz.underlying59 cells_28 rfl rfl (by decide) (by decide) rfl) ?_)))
 simp only [ev,zD,zE,zF,zG]
 refine n_load rfl ((m.b 1 rfl).lies agg_28 cells_28 rfl rfl) ?_
 simp only [ev,zD,zE,zF,zG,zH,zI,zJ,zK,Nat.zero_add,Nat.reduceAdd,Nat.reduceMul,Int.reduceToNat]
 refine malloc m zero_28 rfl ?_
 clear m; intro g4 u m
 simp only [ev,zD,zE,zF,zG]
 refine mstoreA m 0 rfl rfl rfl cells_28 (leT rfl) rfl ?_
 clear m; intro u m; simp only [over,zH,zI,zJ,zK,zL,zM,zN,zO,zP,zF,zG,Nat.reduceAdd] at m
 refine n_nil (k7 _ _ ?_)
 refine c_seq fun K8 k8 => wp_region_lit (n_val (r_move) (n_val (r_add (m := 0) (n := 1) (r := 1) rfl rfl (by decide)) (n_val (r_rem (m := 1) (n := 3) (r := 1) rfl rfl (by decide) (by decide)) (n_val (r_indexAddrA Tryz.underlying59 cells_28 rfl rfl (by decide) (by decide) rfl) ?_))))
 simp only [ev,zD,zE,zF,zG]
 refine n_load rfl ((m.b 2 rfl).lies agg_28 cells_28 rfl rfl) ?_
 simp only [ev,zD,zE,zF,zG,zH,zI,zJ,zK,Nat.zero_add,Nat.reduceAdd,Nat.reduceMul,Int.reduceToNat]
 refine malloc m zero_28 rfl ?_
 clear m; intro g5 u m
 simp only [ev,zD,zE,zF,zG]
 refine mstoreA m 0 rfl rfl rfl cells_28 (leT rfl) rfl ?_
 clear m; intro u m; simp only [over,zH,zI,zJ,zK,zL,zM,zN,zO,zP,zF,zG,Nat.reduceAdd] at m
 refine n_nil (k8 _ _ ?_)
 refine c_seq fun K9 k9 => ?_
 refine wp_region_fresh 10 [0, 1, 2, 3, 4, 5, 6, 7, 8] [⟨9, 10, 32, [.bool false, .string ⟨#[]⟩]⟩] follows_mixed (by kernel_rfl) (al1 ⟨_, _, _, rfl, by kernel_rfl, _, zero_32, rfl⟩) (ol := ?_) ?hol ?_
 case hol => simp only [zQ,zR,zS,zT,zU,zV]; try rfl
 intro u e; replace m := m.ext' e; clear e
 refine e_load rfl (fun u e => (((m.ext' e).b 2 rfl).full agg_75 cells_75)) ?_
 simp only [ev,zD,zE,zF,zG]
 refine e_load rfl (fun u e => (((m.ext' e).b 0 rfl).full agg_28 cells_28)) ?_
 simp only [ev,zD,zE,zF,zG]
 refine e_load rfl (fun u e => (((m.ext' e).b 1 rfl).full agg_28 cells_28)) ?_
 simp only [ev,zD,zE,zF,zG]
 refine e_callP rfl rfl (r23minus_c) ?_
 simp only [ev,zD,zE,zF,zG]
 refine e_load rfl (fun u e => (((m.ext' e).b 4 rfl).full agg_28 cells_28)) ?_
 simp only [ev,zD,zE,zF,zG]
 refine e_load rfl (fun u e => (((m.ext' e).b 1 rfl).full agg_28 cells_28)) ?_
 simp only [ev,zD,zE,zF,zG]
 refine e_callP rfl rfl (r23minus_c) ?_
 simp only [ev,zD,zE,zF,zG]
 refine e_callP rfl rfl (cross3_c Bv.of Bv.of) ?_
 simp only [ev,zD,zE,zF,zG]
 refine e_callP rfl rfl (rDot_c Bv.of Bv.of) (e_nil ?_)
 simp only [ev,zD,zE,zF,zG]
 refine mf1 m ?_
 clear m; intro g6 u m
 simp only [zJ,zK,zF,zG]
 refine mstoreA m 0 rfl rfl rfl cells_32 (leT rfl) rfl ?_
 clear m; intro u m; simp only [over,zH,zI,zJ,zK,zL,zM,zN,zO,zP,zF,zG,Nat.reduceAdd] at m
 refine n_nil (k9 _ _ ?_)
 refine c_seq fun K10 k10 => wp_region_lit (n_load rfl ((m.b 0 rfl).full agg_32 cells_32) ?_)
 simp only [ev,zD,zE,zF,zG]
 refine mcallP m rfl rfl (rSign_c Bw.up) ?_
 clear m; intro u m
 refine n_val (r_lss rfl rfl) (n_nil (k10 _ _ ?_))
 simp only [ev,zD,zE,zF,zG]
 refine c_if rfl (fun hc2 => ?_) (fun hc2 => ?_)
 ·
  have hno : ¬ ins x t := fun h => absurd (isign_nn.2 h.1) (by unfold side; omega)
  refine c_seq fun K11 k11 => wp_region_lit (n_val (r_assign) (n_nil (k11 _ _ ?_)))
  refine wp_ret ?_
  simp only [ev,zD,zE,zF,zG]
  try simp only [Exit.inBlock,Exit.then,if_true]
  refine fin1 rfl rfl ?_
  try simp only [zD,zE]
  exact ⟨_, rfl, m.ext, by rw [decide_eq_false hno]⟩
 ·
  have hy0 : 0 ≤ side t.normal t.a t.b x := isign_nn.1 (by unfold side; omega)
  refine wp_skip (k6 _ _ ?_)
  refine wp_region_lit (n_val (r_move) (n_val (r_add (m := 0) (n := 1) (r := 1) rfl rfl (by decide)) (n_val (r_assign) (n_nil (then_rounds (c_seq fun K12 k12 => c_seq fun K13 k13 => wp_region_lit (n_val (r_move) ?_)))))))
  simp only [ev,zD,zE,zF,zG]
  refine n_val (r_lssT (m := 1) (n := 3) rfl rfl (by decide)) (n_nil (k13 _ _ ?_))
  refine c_yes rfl (wp_skip (k12 _ _ ?_))
  refine c_seq fun K14 k14 => wp_block (c_seq fun K15 k15 => wp_region_lit (n_val (r_move) (n_val (r_indexAddrA Tryz.underlying59 cells_28 rfl rfl (by decide) (by decide) rfl) ?_)))
  simp only [ev,zD,zE,zF,zG]
  refine n_load rfl ((m.b 4 rfl).lies agg_28 cells_28 rfl rfl) ?_
  simp only [ev,zD,zE,zF,zG,zH,zI,zJ,zK,Nat.zero_add,Nat.reduceAdd,Nat.reduceMul,Int.reduceToNat]
  refine malloc m zero_28 rfl ?_
  clear m; intro g7 u m
  simp only [ev,zD,zE,zF,zG]
  refine mstoreA m 0 rfl rfl rfl cells_28 (leT rfl) rfl ?_
  clear m; intro u m; simp only [over,zH,zI,zJ,zK,zL,zM,zN,zO,zP,zF,zG,Nat.reduceAdd] at m
  refine n_nil (k15 _ _ ?_)
  refine c_seq fun K16 k16 => wp_region_lit (n_val (r_move) (n_val (r_add (m := 1) (n := 1) (r := 2) rfl rfl (by decide)) (n_val (r_rem (m := 2) (n := 3) (r := 2) rfl rfl (by decide) (by decide)) (n_val (r_indexAddrA Tryz.underlying59 cells_28 rfl rfl (by decide) (by decide) rfl) ?_))))
  simp only [ev,zD,zE,zF,zG]
  refine n_load rfl ((m.b 5 rfl).lies agg_28 cells_28 rfl rfl) ?_
  simp only [ev,zD,zE,zF,zG,zH,zI,zJ,zK,Nat.zero_add,Nat.reduceAdd,Nat.reduceMul,Int.reduceToNat]
  refine malloc m zero_28 rfl ?_
  clear m; intro g8 u m
  simp only [ev,zD,zE,zF,zG]
  refine mstoreA m 0 rfl rfl rfl cells_28 (leT rfl) rfl ?_
  clear m; intro u m; simp only [over,zH,zI,zJ,zK,zL,zM,zN,zO,zP,zF,zG,Nat.reduceAdd] at m
  refine n_nil (k16 _ _ ?_)
  refine c_seq fun K17 k17 => ?_
  refine wp_region_fresh 10 [0, 1, 2, 3, 4, 5, 6, 7, 8] [⟨9, 10, 32, [.bool false, .string ⟨#[]⟩]⟩] follows_mixed (by kernel_rfl) (al1 ⟨_, _, _, rfl, by kernel_rfl, _, zero_32, rfl⟩) (ol := ?_) ?hol ?_
  case hol => simp only [zQ,zR,zS,zT,zU,zV]; try rfl
  intro u e; replace m := m.ext' e; clear e
  refine e_load rfl (fun u e => (((m.ext' e).b 5 rfl).full agg_75 cells_75)) ?_
  simp only [ev,zD,zE,zF,zG]
  refine e_load rfl (fun u e => (((m.ext' e).b 0 rfl).full agg_28 cells_28)) ?_
  simp only [ev,zD,zE,zF,zG]
  refine e_load rfl (fun u e => (((m.ext' e).b 1 rfl).full agg_28 cells_28)) ?_
  simp only [ev,zD,zE,zF,zG]
  refine e_callP rfl rfl (r23minus_c) ?_
  simp only [ev,zD,zE,zF,zG]
  refine e_load rfl (fun u e => (((m.ext' e).b 7 rfl).full agg_28 cells_28)) ?_
  simp only [ev,zD,zE,zF,zG]
  refine e_load rfl (fun u e => (((m.ext' e).b 1 rfl).full agg_28 cells_28)) ?_
  simp only [ev,zD,zE,zF,zG]
  refine e_callP rfl rfl (r23minus_c) ?_
  simp only [ev,zD,zE,zF,zG]
  refine e_callP rfl rfl (cross3_c Bv.of Bv.of) ?_
  simp only [ev,zD,zE,zF,zG]
  refine e_callP rfl rfl (rDot_c Bv.of Bv.of) (e_nil ?_)
  simp only [ev,zD,zE,zF,zG]
  refine mf1 m ?_
  clear m; intro g9 u m
  simp only [zJ,zK,zF,zG]
  refine mstoreA m 0 rfl rfl rfl cells_32 (leT rfl) rfl ?_
  clear m; intro u m; simp only [over,zH,zI,zJ,zK,zL,zM,zN,zO,zP,zF,zG,Nat.reduceAdd] at m
  refine n_nil (k17 _ _ ?_)
  refine c_seq fun K18 k18 => wp_region_lit (n_load rfl ((m.b 0 rfl).full agg_32 cells_32) ?_)
  simp only [ev,zD,zE,zF,zG]
  refine mcallP m rfl rfl (rSign_c Bw.up) ?_
  clear m; intro u m
  refine n_val (r_lss rfl rfl) (n_nil (k18 _ _ ?_))
  simp only [ev,zD,zE,zF,zG]
  refine c_if rfl (fun hc2 => ?_) (fun hc2 => ?_)
  ·
   have hno : ¬ ins x t := fun h => absurd (isign_nn.2 h.2.1) (by unfold side; omega)
   refine c_seq fun K19 k19 => wp_region_lit (n_val (r_assign) (n_nil (k19 _ _ ?_)))
   refine wp_ret ?_
   simp only [ev,zD,zE,zF,zG]
   try simp only [Exit.inBlock,Exit.then,if_true]
   refine fin1 rfl rfl ?_
   try simp only [zD,zE]
   exact ⟨_, rfl, m.ext, by rw [decide_eq_false hno]⟩
  ·
   have hy1 : 0 ≤ side t.normal t.b t.c x := isign_nn.1 (by unfold side; omega)
   refine wp_skip (k14 _ _ ?_)
   refine wp_region_lit (n_val (r_move) (n_val (r_add (m := 1) (n := 1) (r := 2) rfl rfl (by decide)) (n_val (r_assign) (n_nil (then_rounds (c_seq fun K20 k20 => c_seq fun K21 k21 => wp_region_lit (n_val (r_move) ?_)))))))
   simp only [ev,zD,zE,zF,zG]
   refine n_val (r_lssT (m := 2) (n := 3) rfl rfl (by decide)) (n_nil (k21 _ _ ?_))
   refine c_yes rfl (wp_skip (k20 _ _ ?_))
   refine c_seq fun K22 k22 => wp_block (c_seq fun K23 k23 => wp_region_lit (n_val (r_move) (n_val (r_indexAddrA Tryz.underlying59 cells_28 rfl rfl (by decide) (by decide) rfl) ?_)))
   simp only [ev,zD,zE,zF,zG]
   refine n_load rfl ((m.b 7 rfl).lies agg_28 cells_28 rfl rfl) ?_
   simp only [ev,zD,zE,zF,zG,zH,zI,zJ,zK,Nat.zero_add,Nat.reduceAdd,Nat.reduceMul,Int.reduceToNat]
   refine malloc m zero_28 rfl ?_
   clear m; intro g10 u m
   simp only [ev,zD,zE,zF,zG]
   refine mstoreA m 0 rfl rfl rfl cells_28 (leT rfl) rfl ?_
   clear m; intro u m; simp only [over,zH,zI,zJ,zK,zL,zM,zN,zO,zP,zF,zG,Nat.reduceAdd] at m
   refine n_nil (k23 _ _ ?_)
   refine c_seq fun K24 k24 => wp_region_lit (n_val (r_move) (n_val (r_add (m := 2) (n := 1) (r := 3) rfl rfl (by decide)) (n_val (r_rem (m := 3) (n := 3) (r := 0) rfl rfl (by decide) (by decide)) (n_val (r_indexAddrA Tryz.underlying59 cells_28 rfl rfl (by decide) (by decide) rfl) ?_))))
   simp only [ev,zD,zE,zF,zG]
   refine n_load rfl ((m.b 8 rfl).lies agg_28 cells_28 rfl rfl) ?_
   simp only [ev,zD,zE,zF,zG,zH,zI,zJ,zK,Nat.zero_add,Nat.reduceAdd,Nat.reduceMul,Int.reduceToNat]
   refine malloc m zero_28 rfl ?_
   clear m; intro g11 u m
   simp only [ev,zD,zE,zF,zG]
   refine mstoreA m 0 rfl rfl rfl cells_28 (leT rfl) rfl ?_
   clear m; intro u m; simp only [over,zH,zI,zJ,zK,zL,zM,zN,zO,zP,zF,zG,Nat.reduceAdd] at m
   refine n_nil (k24 _ _ ?_)
   refine c_seq fun K25 k25 => ?_
   refine wp_region_fresh 10 [0, 1, 2, 3, 4, 5, 6, 7, 8] [⟨9, 10, 32, [.bool false, .string ⟨#[]⟩]⟩] follows_mixed (by kernel_rfl) (al1 ⟨_, _, _, rfl, by kernel_rfl, _, zero_32, rfl⟩) (ol := ?_) ?hol ?_
   case hol => simp only [zQ,zR,zS,zT,zU,zV]; try rfl
   intro u e; replace m := m.ext' e; clear e
   refine e_load rfl (fun u e => (((m.ext' e).b 8 rfl).full agg_75 cells_75)) ?_
   simp only [ev,zD,zE,zF,zG]
   refine e_load rfl (fun u e => (((m.ext' e).b 0 rfl).full agg_28 cells_28)) ?_
   simp only [ev,zD,zE,zF,zG]
   refine e_load rfl (fun u e => (((m.ext' e).b 1 rfl).full agg_28 cells_28)) ?_
   simp only [ev,zD,zE,zF,zG]
   refine e_callP rfl rfl (r23minus_c) ?_
   simp only [ev,zD,zE,zF,zG]
   refine e_load rfl (fun u e => (((m.ext' e).b 10 rfl).full agg_28 cells_28)) ?_
   simp only [ev,zD,zE,zF,zG]
   refine e_load rfl (fun u e => (((m.ext' e).b 1 rfl).full agg_28 cells_28)) ?_
   simp only [ev,zD,zE,zF,zG]
   refine e_callP rfl rfl (r23minus_c) ?_
   simp only [ev,zD,zE,zF,zG]
   refine e_callP rfl rfl (cross3_c Bv.of Bv.of) ?_
   simp only [ev,zD,zE,zF,zG]
   refine e_callP rfl rfl (rDot_c Bv.of Bv.of) (e_nil ?_)
   simp only [ev,zD,zE,zF,zG]
   refine mf1 m ?_
   clear m; intro g12 u m
   simp only [zJ,zK,zF,zG]
   refine mstoreA m 0 rfl rfl rfl cells_32 (leT rfl) rfl ?_
   clear m; intro u m; simp only [over,zH,zI,zJ,zK,zL,zM,zN,zO,zP,zF,zG,Nat.reduceAdd] at m
   refine n_nil (k25 _ _ ?_)
   refine c_seq fun K26 k26 => wp_region_lit (n_load rfl ((m.b 0 rfl).full agg_32 cells_32) ?_)
   simp only [ev,zD,zE,zF,zG]
   refine mcallP m rfl rfl (rSign_c Bw.up) ?_
   clear m; intro u m
   refine n_val (r_lss rfl rfl) (n_nil (k26 _ _ ?_))
   simp only [ev,zD,zE,zF,zG]
   refine c_if rfl (fun hc2 => ?_) (fun hc2 => ?_)
   ·
    have hno : ¬ ins x t := fun h => absurd (isign_nn.2 h.2.2) (by unfold side; omega)
    refine c_seq fun K27 k27 => wp_region_lit (n_val (r_assign) (n_nil (k27 _ _ ?_)))
    refine wp_ret ?_
    simp only [ev,zD,zE,zF,zG]
    try simp only [Exit.inBlock,Exit.then,if_true]
    refine fin1 rfl rfl ?_
    try simp only [zD,zE]
    exact ⟨_, rfl, m.ext, by rw [decide_eq_false hno]⟩
   ·
    have hy2 : 0 ≤ side t.normal t.c t.a x := isign_nn.1 (by unfold side; omega)
    refine wp_skip (k22 _ _ ?_)
    refine wp_region_lit (n_val (r_move) (n_val (r_add (m := 2) (n := 1) (r := 3) rfl rfl (by decide)) (n_val (r_assign) (n_nil (then_rounds (c_seq fun K28 k28 => c_seq fun K29 k29 => wp_region_lit (n_val (r_move) ?_)))))))
    simp only [ev,zD,zE,zF,zG]
    refine n_val (r_lssF (m := 3) (n := 3) rfl rfl (by decide)) (n_nil (k29 _ _ ?_))
    refine c_no rfl (wp_exit (k2 _ _ ?_))
    refine c_seq fun K30 k30 => wp_region_lit (n_val (r_assign) (n_nil (k30 _ _ ?_)))
    refine wp_ret ?_
    simp only [ev,zD,zE,zF,zG]
    try simp only [Exit.inBlock,Exit.then,if_true]
    refine fin1 rfl rfl ?_
    try simp only [zD,zE]
    exact ⟨_, rfl, m.ext, by rw [decide_eq_true (show ins x t from ⟨hy0, hy1, hy2⟩)]⟩

set_option maxHeartbeats 2000000 in
theorem One_c {x : P3} {t : T3} [I3 x] [IT t] : Pure Tryz.prog 35 [pt x, tr t] (Q (triq x t)) := by
 intro w
 refine ⟨en_35, ?_⟩
 have m := Mem.refl w
 go_enter Tryz.func35, Tryz.ntmps35
 refine c_seq fun K1 k1 => wp_region_lit (mboxA m rfl ?_)
 clear m; intro g1 u m
 simp only [ev,zD,zE,zF,zG]
 refine mboxA m rfl ?_
 clear m; intro g2 u m
 simp only [ev,zD,zE,zF,zG]
 refine malloc m zero_34 rfl ?_
 clear m; intro g3 u m
 refine n_nil (k1 _ _ ?_)
 refine c_seq fun K2 k2 => wp_region_lit ?_
 simp only [ev,zD,zE,zF,zG]
 refine n_load rfl ((m.b 1 rfl).full agg_59 cells_59) ?_
 simp only [ev,zD,zE,zF,zG]
 refine mcallP m rfl rfl (rNormal_c) ?_
 clear m; intro u m
 simp only [ev,zD,zE,zF,zG]
 refine malloc m zero_75 rfl ?_
 clear m; intro g4 u m
 simp only [ev,zD,zE,zF,zG]
 refine mstoreA m 0 rfl rfl rfl cells_75 (leT rfl) rfl ?_
 clear m; intro u m; simp only [over,zH,zI,zJ,zK,zL,zM,zN,zO,zP,zF,zG,Nat.reduceAdd] at m
 refine n_nil (k2 _ _ ?_)
 refine c_seq fun K3 k3 => wp_region_lit (n_load rfl ((m.b 0 rfl).full agg_75 cells_75) ?_)
 simp only [ev,zD,zE,zF,zG]
 refine n_load rfl ((m.b 0 rfl).full agg_75 cells_75) ?_
 simp only [ev,zD,zE,zF,zG]
 refine mcallP m rfl rfl (rDot_c Bv.of Bv.of) ?_
 clear m; intro u m
 simp only [ev,zD,zE,zF,zG]
 refine malloc m zero_32 rfl ?_
 clear m; intro g5 u m
 simp only [ev,zD,zE,zF,zG]
 refine mstoreA m 0 rfl rfl rfl cells_32 (leT rfl) rfl ?_
 clear m; intro u m; simp only [over,zH,zI,zJ,zK,zL,zM,zN,zO,zP,zF,zG,Nat.reduceAdd] at m
 refine n_nil (k3 _ _ ?_)
 refine c_seq fun K4 k4 => c_seq fun K5 k5 => ?_
 rcases Decidable.em t.flat with hf | hf
 ·
  have hno : ¬ (¬ t.flat ∧ ins x t) := fun h => h.1 hf
  refine wp_region_lit (n_load rfl ((m.b 0 rfl).full agg_32 cells_32) ?_)
  simp only [ev,zD,zE,zF,zG]
  refine mcallP m rfl rfl (rSign_c Bw.up) ?_
  clear m; intro u m
  refine n_val (r_gtrF rfl rfl (fun h => flat_dot.1 (isign_gt.1 h) hf)) (n_val (r_move) (n_skipT rfl ?_))
  simp only [ev,zD,zE,zF,zG]
  refine n_skipT rfl (n_skipT rfl (n_skipT rfl (n_val (r_pickF rfl) ?_)))
  simp only [ev,zD,zE,zF,zG]
  refine n_nil (k5 _ _ ?_)
  refine c_no rfl (wp_skip (k4 _ _ ?_))
  refine c_seq fun K6 k6 => wp_region_lit (n_load rfl ((m.b 4 rfl).full agg_28 cells_28) ?_)
  simp only [ev,zD,zE,zF,zG]
  refine n_val (r_indexAddrA Tryz.underlying59 cells_28 rfl rfl (by decide) (by decide) rfl) ?_
  simp only [ev,zD,zE,zF,zG]
  refine n_load rfl ((m.b 3 rfl).lies agg_28 cells_28 rfl rfl) ?_
  simp only [ev,zD,zE,zF,zG,zH,zI,zJ,zK,Nat.zero_add,Nat.reduceAdd,Nat.reduceMul,Int.reduceToNat]
  refine n_val (r_indexAddrA Tryz.underlying59 cells_28 rfl rfl (by decide) (by decide) rfl) ?_
  simp only [ev,zD,zE,zF,zG]
  refine n_load rfl ((m.b 3 rfl).lies agg_28 cells_28 rfl rfl) ?_
  simp only [ev,zD,zE,zF,zG,zH,zI,zJ,zK,Nat.zero_add,Nat.reduceAdd,Nat.reduceMul,Int.reduceToNat]
  refine mcallP m rfl rfl (rsegment_c) ?_
  clear m; intro u m
  simp only [ev,zD,zE,zF,zG]
  refine malloc m zero_34 rfl ?_
  clear m; intro g6 u m
  simp only [ev,zD,zE,zF,zG]
  refine mstoreA m 0 rfl rfl rfl cells_34 (leT rfl) rfl ?_
  clear m; intro u m; simp only [over,zH,zI,zJ,zK,zL,zM,zN,zO,zP,zF,zG,Nat.reduceAdd] at m
  refine n_nil (k6 _ _ ?_)
  refine c_seq fun K7 k7 => c_seq fun K8 k8 => wp_region_lit (n_val (r_assign) (n_nil (k8 _ _ ?_)))
  refine wp_block (wp_loop_rounds 3 (rounds_step (c_seq fun K9 k9 => c_seq fun K10 k10 => wp_region_lit (n_val (r_move) (n_val (r_lssT (m := 1) (n := 3) rfl rfl (by decide)) (n_nil (k10 _ _ ?_)))))))
  refine c_yes rfl (wp_skip (k9 _ _ ?_))
  refine c_seq fun K11 k11 => wp_block (c_seq fun K12 k12 => ?_)
  simp only [ev,zD,zE,zF,zG]
  refine wp_region_fresh 11 [0, 1, 2, 3, 4, 5, 6, 7, 8, 9] [⟨10, 10, 34, [.bool false, .string ⟨#[]⟩, .bool false, .string ⟨#[]⟩]⟩] follows_mixed (by kernel_rfl) (al1 ⟨_, _, _, rfl, by kernel_rfl, _, zero_34, rfl⟩) (ol := ?_) ?hol ?_
  case hol => simp only [zQ,zR,zS,zT,zU,zV]; try rfl
  intro u e; replace m := m.ext' e; clear e
  refine e_load rfl (fun u e => (((m.ext' e).b 5 rfl).full agg_28 cells_28)) ?_
  simp only [ev,zD,zE,zF,zG]
  refine e_val (r_move) (e_val (r_indexAddrA Tryz.underlying59 cells_28 rfl rfl (by decide) (by decide) rfl) ?_)
  simp only [ev,zD,zE,zF,zG]
  refine e_load rfl (fun u e => (((m.ext' e).b 4 rfl).lies agg_28 cells_28 rfl rfl)) ?_
  simp only [ev,zD,zE,zF,zG,zH,zI,zJ,zK,Nat.zero_add,Nat.reduceAdd,Nat.reduceMul,Int.reduceToNat]
  refine e_val (r_move) (e_val (r_add (m := 1) (n := 1) (r := 2) rfl rfl (by decide)) (e_val (r_rem (m := 2) (n := 3) (r := 2) rfl rfl (by decide) (by decide)) (e_val (r_indexAddrA Tryz.underlying59 cells_28 rfl rfl (by decide) (by decide) rfl) ?_)))
  simp only [ev,zD,zE,zF,zG]
  refine e_load rfl (fun u e => (((m.ext' e).b 4 rfl).lies agg_28 cells_28 rfl rfl)) ?_
  simp only [ev,zD,zE,zF,zG,zH,zI,zJ,zK,Nat.zero_add,Nat.reduceAdd,Nat.reduceMul,Int.reduceToNat]
  refine e_callP rfl rfl (rsegment_c) (e_nil ?_)
  simp only [ev,zD,zE,zF,zG]
  refine mf1 m ?_
  clear m; intro g7 u m
  simp only [zJ,zK,zF,zG]
  refine mstoreA m 0 rfl rfl rfl cells_34 (leT rfl) rfl ?_
  clear m; intro u m; simp only [over,zH,zI,zJ,zK,zL,zM,zN,zO,zP,zF,zG,Nat.reduceAdd] at m
  refine n_nil (k12 _ _ ?_)
  refine c_seq fun K13 k13 => wp_region_lit (n_load rfl ((m.b 0 rfl).full agg_34 cells_34) ?_)
  simp only [ev,zD,zE,zF,zG]
  refine n_load rfl ((m.b 1 rfl).full agg_34 cells_34) ?_
  simp only [ev,zD,zE,zF,zG]
  refine mcallP m rfl rfl (rCmpFrac_c Bq.up Bq.up) ?_
  clear m; intro u m
  refine n_val (r_lss rfl rfl) (n_nil (k13 _ _ ?_))
  simp only [ev,zD,zE,zF,zG]
  refine c_if rfl (fun hc3 => ?_) (fun hc3 => ?_)
  ·
   have h1 := qcmp_lt.1 hc3
   refine wp_region_lit (n_load rfl ((m.b 0 rfl).full agg_34 cells_34) ?_)
   simp only [ev,zD,zE,zF,zG]
   refine mstoreA m 1 rfl rfl rfl cells_34 (leT rfl) rfl ?_
   clear m; intro u m; simp only [over,zH,zI,zJ,zK,zL,zM,zN,zO,zP,zF,zG,Nat.reduceAdd] at m
   refine n_nil (k11 _ _ ?_)
   refine wp_region_lit (n_val (r_move) (n_val (r_add (m := 1) (n := 1) (r := 2) rfl rfl (by decide)) (n_val (r_assign) (n_nil (then_rounds (c_seq fun K14 k14 => c_seq fun K15 k15 => wp_region_lit (n_val (r_move) ?_)))))))
   simp only [ev,zD,zE,zF,zG]
   refine n_val (r_lssT (m := 2) (n := 3) rfl rfl (by decide)) (n_nil (k15 _ _ ?_))
   refine c_yes rfl (wp_skip (k14 _ _ ?_))
   refine c_seq fun K16 k16 => wp_block (c_seq fun K17 k17 => ?_)
   simp only [ev,zD,zE,zF,zG]
   refine wp_region_fresh 11 [0, 1, 2, 3, 4, 5, 6, 7, 8, 9] [⟨10, 10, 34, [.bool false, .string ⟨#[]⟩, .bool false, .string ⟨#[]⟩]⟩] follows_mixed (by kernel_rfl) (al1 ⟨_, _, _, rfl, by kernel_rfl, _, zero_34, rfl⟩) (ol := ?_) ?hol ?_
   case hol => simp only [zQ,zR,zS,zT,zU,zV]; try rfl
   intro u e; replace m := m.ext' e; clear e
   refine e_load rfl (fun u e => (((m.ext' e).b 6 rfl).full agg_28 cells_28)) ?_
   simp only [ev,zD,zE,zF,zG]
   refine e_val (r_move) (e_val (r_indexAddrA Tryz.underlying59 cells_28 rfl rfl (by decide) (by decide) rfl) ?_)
   simp only [ev,zD,zE,zF,zG]
   refine e_load rfl (fun u e => (((m.ext' e).b 5 rfl).lies agg_28 cells_28 rfl rfl)) ?_
   simp only [ev,zD,zE,zF,zG,zH,zI,zJ,zK,Nat.zero_add,Nat.reduceAdd,Nat.reduceMul,Int.reduceToNat]
   refine e_val (r_move) (e_val (r_add (m := 2) (n := 1) (r := 3) rfl rfl (by decide)) (e_val (r_rem (m := 3) (n := 3) (r := 0) rfl rfl (by decide) (by decide)) (e_val (r_indexAddrA Tryz.underlying59 cells_28 rfl rfl (by decide) (by decide) rfl) ?_)))
   simp only [ev,zD,zE,zF,zG]
   refine e_load rfl (fun u e => (((m.ext' e).b 5 rfl).lies agg_28 cells_28 rfl rfl)) ?_
   simp only [ev,zD,zE,zF,zG,zH,zI,zJ,zK,Nat.zero_add,Nat.reduceAdd,Nat.reduceMul,Int.reduceToNat]
   refine e_callP rfl rfl (rsegment_c) (e_nil ?_)
   simp only [ev,zD,zE,zF,zG]
   refine mf1 m ?_
   clear m; intro g8 u m
   simp only [zJ,zK,zF,zG]
   refine mstoreA m 0 rfl rfl rfl cells_34 (leT rfl) rfl ?_
   clear m; intro u m; simp only [over,zH,zI,zJ,zK,zL,zM,zN,zO,zP,zF,zG,Nat.reduceAdd] at m
   refine n_nil (k17 _ _ ?_)
   refine c_seq fun K18 k18 => wp_region_lit (n_load rfl ((m.b 0 rfl).full agg_34 cells_34) ?_)
   simp only [ev,zD,zE,zF,zG]
   refine n_load rfl ((m.b 2 rfl).full agg_34 cells_34) ?_
   simp only [ev,zD,zE,zF,zG]
   refine mcallP m rfl rfl (rCmpFrac_c Bq.up Bq.up) ?_
   clear m; intro u m
   refine n_val (r_lss rfl rfl) (n_nil (k18 _ _ ?_))
   simp only [ev,zD,zE,zF,zG]
   refine c_if rfl (fun hc3 => ?_) (fun hc3 => ?_)
   ·
    have h2 := qcmp_lt.1 hc3
    refine wp_region_lit (n_load rfl ((m.b 0 rfl).full agg_34 cells_34) ?_)
    simp only [ev,zD,zE,zF,zG]
    refine mstoreA m 2 rfl rfl rfl cells_34 (leT rfl) rfl ?_
    clear m; intro u m; simp only [over,zH,zI,zJ,zK,zL,zM,zN,zO,zP,zF,zG,Nat.reduceAdd] at m
    refine n_nil (k16 _ _ ?_)
    refine wp_region_lit (n_val (r_move) (n_val (r_add (m := 2) (n := 1) (r := 3) rfl rfl (by decide)) (n_val (r_assign) (n_nil (then_rounds (c_seq fun K19 k19 => c_seq fun K20 k20 => wp_region_lit (n_val (r_move) ?_)))))))
    simp only [ev,zD,zE,zF,zG]
    refine n_val (r_lssF (m := 3) (n := 3) rfl rfl (by decide)) (n_nil (k20 _ _ ?_))
    refine c_no rfl (wp_exit (k7 _ _ ?_))
    refine c_seq fun K21 k21 => wp_region_lit ?_
    simp only [ev,zD,zE,zF,zG]
    refine n_load rfl ((m.b 2 rfl).full agg_34 cells_34) ?_
    simp only [ev,zD,zE,zF,zG]
    refine mstoreA m 5 rfl rfl rfl cells_34 (leT rfl) rfl ?_
    clear m; intro u m; simp only [over,zH,zI,zJ,zK,zL,zM,zN,zO,zP,zF,zG,Nat.reduceAdd] at m
    refine n_nil (k21 _ _ ?_)
    refine wp_ret ?_
    try simp only [Exit.inBlock,Exit.then,if_true]
    refine fin1 rfl ⟨_, rfl, ((m.b 5 rfl).full agg_34 cells_34)⟩ ?_
    try simp only [zD,zE]
    exact ⟨_, rfl, m.ext, by first | (rw [← triq_face ⟨hf, hc1⟩]; rfl) | (rw [← triq_edge hno]; simp only [edgeq,minq,h1,h2,if_true,if_false]; rfl)⟩
   ·
    have h2 := mt qcmp_lt.2 hc3
    refine wp_skip (k16 _ _ ?_)
    refine wp_region_lit (n_val (r_move) (n_val (r_add (m := 2) (n := 1) (r := 3) rfl rfl (by decide)) (n_val (r_assign) (n_nil (then_rounds (c_seq fun K22 k22 => c_seq fun K23 k23 => wp_region_lit (n_val (r_move) ?_)))))))
    simp only [ev,zD,zE,zF,zG]
    refine n_val (r_lssF (m := 3) (n := 3) rfl rfl (by decide)) (n_nil (k23 _ _ ?_))
    refine c_no rfl (wp_exit (k7 _ _ ?_))
    refine c_seq fun K24 k24 => wp_region_lit ?_
    simp only [ev,zD,zE,zF,zG]
    refine n_load rfl ((m.b 2 rfl).full agg_34 cells_34) ?_
    simp only [ev,zD,zE,zF,zG]
    refine mstoreA m 5 rfl rfl rfl cells_34 (leT rfl) rfl ?_
    clear m; intro u m; simp only [over,zH,zI,zJ,zK,zL,zM,zN,zO,zP,zF,zG,Nat.reduceAdd] at m
    refine n_nil (k24 _ _ ?_)
    refine wp_ret ?_
    try simp only [Exit.inBlock,Exit.then,if_true]
    refine fin1 rfl ⟨_, rfl, ((m.b 5 rfl).full agg_34 cells_34)⟩ ?_
    try simp only [zD,zE]
    exact ⟨_, rfl, m.ext, by first | (rw [← triq_face ⟨hf, hc1⟩]; rfl) | (rw [← triq_edge hno]; simp only [edgeq,minq,h1,h2,if_true,if_false]; rfl)⟩
  ·
   have h1 := mt qcmp_lt.2 hc3
   refine wp_skip (k11 _ _ ?_)
   refine wp_region_lit (n_val (r_move) (n_val (r_add (m := 1) (n := 1) (r := 2) rfl rfl (by decide)) (n_val (r_assign) (n_nil (then_rounds (c_seq fun K25 k25 => c_seq fun K26 k26 => wp_region_lit (n_val (r_move) ?_)))))))
   simp only [ev,zD,zE,zF,zG]
   refine n_val (r_lssT (m := 2) (n := 3) rfl rfl (by decide)) (n_nil (k26 _ _ ?_))
   refine c_yes rfl (wp_skip (k25 _ _ ?_))
   refine c_seq fun K27 k27 => wp_block (c_seq fun K28 k28 => ?_)
   simp only [ev,zD,zE,zF,zG]
   refine wp_region_fresh 11 [0, 1, 2, 3, 4, 5, 6, 7, 8, 9] [⟨10, 10, 34, [.bool false, .string ⟨#[]⟩, .bool false, .string ⟨#[]⟩]⟩] follows_mixed (by kernel_rfl) (al1 ⟨_, _, _, rfl, by kernel_rfl, _, zero_34, rfl⟩) (ol := ?_) ?hol ?_
   case hol => simp only [zQ,zR,zS,zT,zU,zV]; try rfl
   intro u e; replace m := m.ext' e; clear e
   refine e_load rfl (fun u e => (((m.ext' e).b 6 rfl).full agg_28 cells_28)) ?_
   simp only [ev,zD,zE,zF,zG]
   refine e_val (r_move) (e_val (r_indexAddrA Tryz.underlying59 cells_28 rfl rfl (by decide) (by decide) rfl) ?_)
   simp only [ev,zD,zE,zF,zG]
   refine e_load rfl (fun u e => (((m.ext' e).b 5 rfl).lies agg_28 cells_28 rfl rfl)) ?_
   simp only [ev,zD,zE,zF,zG,zH,zI,zJ,zK,Nat.zero_add,Nat.reduceAdd,Nat.reduceMul,Int.reduceToNat]
   refine e_val (r_move) (e_val (r_add (m := 2) (n := 1) (r := 3) rfl rfl (by decide)) (e_val (r_rem (m := 3) (n := 3) (r := 0) rfl rfl (by decide) (by decide)) (e_val (r_indexAddrA Tryz.underlying59 cells_28 rfl rfl (by decide) (by decide) rfl) ?_)))
   simp only [ev,zD,zE,zF,zG]
   refine e_load rfl (fun u e => (((m.ext' e).b 5 rfl).lies agg_28 cells_28 rfl rfl)) ?_
   simp only [ev,zD,zE,zF,zG,zH,zI,zJ,zK,Nat.zero_add,Nat.reduceAdd,Nat.reduceMul,Int.reduceToNat]
   refine e_callP rfl rfl (rsegment_c) (e_nil ?_)
   simp only [ev,zD,zE,zF,zG]
   refine mf1 m ?_
   clear m; intro g8 u m
   simp only [zJ,zK,zF,zG]
   refine mstoreA m 0 rfl rfl rfl cells_34 (leT rfl) rfl ?_
   clear m; intro u m; simp only [over,zH,zI,zJ,zK,zL,zM,zN,zO,zP,zF,zG,Nat.reduceAdd] at m
   refine n_nil (k28 _ _ ?_)
   refine c_seq fun K29 k29 => wp_region_lit (n_load rfl ((m.b 0 rfl).full agg_34 cells_34) ?_)
   simp only [ev,zD,zE,zF,zG]
   refine n_load rfl ((m.b 2 rfl).full agg_34 cells_34) ?_
   simp only [ev,zD,zE,zF,zG]
   refine mcallP m rfl rfl (rCmpFrac_c Bq.up Bq.up) ?_
   clear m; intro u m
   refine n_val (r_lss rfl rfl) (n_nil (k29 _ _ ?_))
   simp only [ev,zD,zE,zF,zG]
   refine c_if rfl (fun hc3 => ?_) (fun hc3 => ?_)
   ·
    have h2 := qcmp_lt.1 hc3
    refine wp_region_lit (n_load rfl ((m.b 0 rfl).full agg_34 cells_34) ?_)
    simp only [ev,zD,zE,zF,zG]
    refine mstoreA m 2 rfl rfl rfl cells_34 (leT rfl) rfl ?_
    clear m; intro u m; simp only [over,zH,zI,zJ,zK,zL,zM,zN,zO,zP,zF,zG,Nat.reduceAdd] at m
    refine n_nil (k27 _ _ ?_)
    refine wp_region_lit (n_val (r_move) (n_val (r_add (m := 2) (n := 1) (r := 3) rfl rfl (by decide)) (n_val (r_assign) (n_nil (then_rounds (c_seq fun K30 k30 => c_seq fun K31 k31 => wp_region_lit (n_val (r_move) ?_)))))))
    simp only [ev,zD,zE,zF,zG]
    refine n_val (r_lssF (m := 3) (n := 3) rfl rfl (by decide)) (n_nil (k31 _ _ ?_))
    refine c_no rfl (wp_exit (k7 _ _ ?_))
    refine c_seq fun K32 k32 => wp_region_lit ?_
    simp only [ev,zD,zE,zF,zG]
    refine n_load rfl ((m.b 2 rfl).full agg_34 cells_34) ?_
    simp only [ev,zD,zE,zF,zG]
    refine mstoreA m 5 rfl rfl rfl cells_34 (leT rfl) rfl ?_
    clear m; intro u m; simp only [over,zH,zI,zJ,zK,zL,zM,zN,zO,zP,zF,zG,Nat.reduceAdd] at m
    refine n_nil (k32 _ _ ?_)
    refine wp_ret ?_
    try simp only [Exit.inBlock,Exit.then,if_true]
    refine fin1 rfl ⟨_, rfl, ((m.b 5 rfl).full agg_34 cells_34)⟩ ?_
    try simp only [zD,zE]
    exact ⟨_, rfl, m.ext, by first | (rw [← triq_face ⟨hf, hc1⟩]; rfl) | (rw [← triq_edge hno]; simp only [edgeq,minq,h1,h2,if_true,if_false]; rfl)⟩
   ·
    have h2 := mt qcmp_lt.2 hc3
    refine wp_skip (k27 _ _ ?_)
    refine wp_region_lit (n_val (r_move) (n_val (r_add (m := 2) (n := 1) (r := 3) rfl rfl (by decide)) (n_val (r_assign) (n_nil (then_rounds (c_seq fun K33 k33 => c_seq fun K34 k34 => wp_region_lit (n_val (r_move) ?_)))))))
    simp only [ev,zD,zE,zF,zG]
    refine n_val (r_lssF (m := 3) (n := 3) rfl rfl (by decide)) (n_nil (k34 _ _ ?_))
    refine c_no rfl (wp_exit (k7 _ _ ?_))
    refine c_seq fun K35 k35 => wp_region_lit ?_
    simp only [ev,zD,zE,zF,zG]
    refine n_load rfl ((m.b 2 rfl).full agg_34 cells_34) ?_
    simp only [ev,zD,zE,zF,zG]
    refine mstoreA m 5 rfl rfl rfl cells_34 (leT rfl) rfl ?_
    clear m; intro u m; simp only [over,zH,zI,zJ,zK,zL,zM,zN,zO,zP,zF,zG,Nat.reduceAdd] at m
    refine n_nil (k35 _ _ ?_)
    refine wp_ret ?_
    try simp only [Exit.inBlock,Exit.then,if_true]
    refine fin1 rfl ⟨_, rfl, ((m.b 5 rfl).full agg_34 cells_34)⟩ ?_
    try simp only [zD,zE]
    exact ⟨_, rfl, m.ext, by first | (rw [← triq_face ⟨hf, hc1⟩]; rfl) | (rw [← triq_edge hno]; simp only [edgeq,minq,h1,h2,if_true,if_false]; rfl)⟩
 ·
  refine wp_region_lit (n_load rfl ((m.b 0 rfl).full agg_32 cells_32) ?_)
  simp only [ev,zD,zE,zF,zG]
  refine mcallP m rfl rfl (rSign_c Bw.up) ?_
  clear m; intro u m
  refine n_val (r_gtrT rfl rfl (isign_gt.2 (flat_dot.2 hf))) (n_val (r_move) (n_want rfl ?_))
  simp only [ev,zD,zE,zF,zG]
  refine n_load rfl ((m.b 4 rfl).full agg_28 cells_28) ?_
  simp only [ev,zD,zE,zF,zG]
  refine n_want rfl (n_load rfl ((m.b 3 rfl).full agg_59 cells_59) ?_)
  simp only [ev,zD,zE,zF,zG]
  refine n_want rfl (n_load rfl ((m.b 1 rfl).full agg_75 cells_75) ?_)
  simp only [ev,zD,zE,zF,zG]
  refine n_want rfl (mcallP m rfl rfl (inside_c) ?_)
  clear m; intro u m
  refine n_val (r_pickT rfl) (n_nil (k5 _ _ ?_))
  simp only [ev,zD,zE,zF,zG]
  refine c_if rfl (fun hc1 => ?_) (fun hc1 => ?_)
  ·
   refine c_seq fun K36 k36 => ?_
   refine wp_region_fresh 7 [0, 1, 2, 3, 4, 5] [⟨6, 7, 32, [.bool false, .string ⟨#[]⟩]⟩] follows_mixed (by kernel_rfl) (al1 ⟨_, _, _, rfl, by kernel_rfl, _, zero_32, rfl⟩) (ol := ?_) ?hol ?_
   case hol => simp only [zQ,zR,zS,zT,zU,zV]; try rfl
   intro u e; replace m := m.ext' e; clear e
   refine e_load rfl (fun u e => (((m.ext' e).b 1 rfl).full agg_75 cells_75)) ?_
   simp only [ev,zD,zE,zF,zG]
   refine e_load rfl (fun u e => (((m.ext' e).b 4 rfl).full agg_28 cells_28)) ?_
   simp only [ev,zD,zE,zF,zG]
   refine e_val (r_indexAddrA Tryz.underlying59 cells_28 rfl rfl (by decide) (by decide) rfl) ?_
   simp only [ev,zD,zE,zF,zG]
   refine e_load rfl (fun u e => (((m.ext' e).b 3 rfl).lies agg_28 cells_28 rfl rfl)) ?_
   simp only [ev,zD,zE,zF,zG,zH,zI,zJ,zK,Nat.zero_add,Nat.reduceAdd,Nat.reduceMul,Int.reduceToNat]
   refine e_callP rfl rfl (r23minus_c) ?_
   simp only [ev,zD,zE,zF,zG]
   refine e_callP rfl rfl (rDot_c Bv.of Bv.of) (e_nil ?_)
   simp only [ev,zD,zE,zF,zG]
   refine mf1 m ?_
   clear m; intro g6 u m
   simp only [zJ,zK,zF,zG]
   refine mstoreA m 0 rfl rfl rfl cells_32 (leT rfl) rfl ?_
   clear m; intro u m; simp only [over,zH,zI,zJ,zK,zL,zM,zN,zO,zP,zF,zG,Nat.reduceAdd] at m
   refine n_nil (k36 _ _ ?_)
   refine c_seq fun K37 k37 => ?_
   refine mq_tail m 5 follows_mixed (by kernel_rfl) ?_
   simp only [zH,zI,zJ,zK]
   refine ql rfl (fun u m => ((m.b 0 rfl).full agg_32 cells_32)) ?_
   simp only [ev,zD,zE,zF,zG]
   refine ql rfl (fun u m => ((m.b 0 rfl).full agg_32 cells_32)) ?_
   simp only [ev,zD,zE,zF,zG]
   refine qcP rfl rfl (rMul_c Bw.up Bw.up) ?_
   simp only [ev,zD,zE,zF,zG]
   refine ql rfl (fun u m => ((m.b 1 rfl).full agg_32 cells_32)) ?_
   simp only [ev,zD,zE,zF,zG]
   refine qcP rfl rfl (r23frac_c Bw.up Bw.up (by have := flat_dot.2 hf; omega)) (q_nil ?_)
   clear m; intro u m
   simp only [ev,zD,zE,zF,zG]
   refine mstoreA m 3 rfl rfl rfl cells_34 (leT rfl) rfl ?_
   clear m; intro u m; simp only [over,zH,zI,zJ,zK,zL,zM,zN,zO,zP,zF,zG,Nat.reduceAdd] at m
   refine n_nil (k37 _ _ ?_)
   refine wp_ret ?_
   try simp only [Exit.inBlock,Exit.then,if_true]
   refine fin1 rfl ⟨_, rfl, ((m.b 3 rfl).full agg_34 cells_34)⟩ ?_
   try simp only [zD,zE]
   exact ⟨_, rfl, m.ext, by first | (rw [← triq_face ⟨hf, hc1⟩]; rfl) | (rw [← triq_edge hno]; simp only [edgeq,minq,h1,h2,if_true,if_false]; rfl)⟩
  ·
   have hno : ¬ (¬ t.flat ∧ ins x t) := fun h => hc1 h.2
   refine wp_skip (k4 _ _ ?_)
   refine c_seq fun K38 k38 => wp_region_lit (n_load rfl ((m.b 4 rfl).full agg_28 cells_28) ?_)
   simp only [ev,zD,zE,zF,zG]
   refine n_val (r_indexAddrA Tryz.underlying59 cells_28 rfl rfl (by decide) (by decide) rfl) ?_
   simp only [ev,zD,zE,zF,zG]
   refine n_load rfl ((m.b 3 rfl).lies agg_28 cells_28 rfl rfl) ?_
   simp only [ev,zD,zE,zF,zG,zH,zI,zJ,zK,Nat.zero_add,Nat.reduceAdd,Nat.reduceMul,Int.reduceToNat]
   refine n_val (r_indexAddrA Tryz.underlying59 cells_28 rfl rfl (by decide) (by decide) rfl) ?_
   simp only [ev,zD,zE,zF,zG]
   refine n_load rfl ((m.b 3 rfl).lies agg_28 cells_28 rfl rfl) ?_
   simp only [ev,zD,zE,zF,zG,zH,zI,zJ,zK,Nat.zero_add,Nat.reduceAdd,Nat.reduceMul,Int.reduceToNat]
   refine mcallP m rfl rfl (rsegment_c) ?_
   clear m; intro u m
   simp only [ev,zD,zE,zF,zG]
   refine malloc m zero_34 rfl ?_
   clear m; intro g6 u m
   simp only [ev,zD,zE,zF,zG]
   refine mstoreA m 0 rfl rfl rfl cells_34 (leT rfl) rfl ?_
   clear m; intro u m; simp only [over,zH,zI,zJ,zK,zL,zM,zN,zO,zP,zF,zG,Nat.reduceAdd] at m
   refine n_nil (k38 _ _ ?_)
   refine c_seq fun K39 k39 => c_seq fun K40 k40 => wp_region_lit (n_val (r_assign) (n_nil (k40 _ _ ?_)))
   refine wp_block (wp_loop_rounds 3 (rounds_step (c_seq fun K41 k41 => c_seq fun K42 k42 => wp_region_lit (n_val (r_move) (n_val (r_lssT (m := 1) (n := 3) rfl rfl (by decide)) (n_nil (k42 _ _ ?_)))))))
   refine c_yes rfl (wp_skip (k41 _ _ ?_))
   refine c_seq fun K43 k43 => wp_block (c_seq fun K44 k44 => ?_)
   simp only [ev,zD,zE,zF,zG]
   refine wp_region_fresh 11 [0, 1, 2, 3, 4, 5, 6, 7, 8, 9] [⟨10, 10, 34, [.bool false, .string ⟨#[]⟩, .bool false, .string ⟨#[]⟩]⟩] follows_mixed (by kernel_rfl) (al1 ⟨_, _, _, rfl, by kernel_rfl, _, zero_34, rfl⟩) (ol := ?_) ?hol ?_
   case hol => simp only [zQ,zR,zS,zT,zU,zV]; try rfl
   intro u e; replace m := m.ext' e; clear e
   refine e_load rfl (fun u e => (((m.ext' e).b 5 rfl).full agg_28 cells_28)) ?_
   simp only [ev,zD,zE,zF,zG]
   refine e_val (r_move) (e_val (r_indexAddrA Tryz.underlying59 cells_28 rfl rfl (by decide) (by decide) rfl) ?_)
   simp only [ev,zD,zE,zF,zG]
   refine e_load rfl (fun u e => (((m.ext' e).b 4 rfl).lies agg_28 cells_28 rfl rfl)) ?_
   simp only [ev,zD,zE,zF,zG,zH,zI,zJ,zK,Nat.zero_add,Nat.reduceAdd,Nat.reduceMul,Int.reduceToNat]
   refine e_val (r_move) (e_val (r_add (m := 1) (n := 1) (r := 2) rfl rfl (by decide)) (e_val (r_rem (m := 2) (n := 3) (r := 2) rfl rfl (by decide) (by decide)) (e_val (r_indexAddrA Tryz.underlying59 cells_28 rfl rfl (by decide) (by decide) rfl) ?_)))
   simp only [ev,zD,zE,zF,zG]
   refine e_load rfl (fun u e => (((m.ext' e).b 4 rfl).lies agg_28 cells_28 rfl rfl)) ?_
   simp only [ev,zD,zE,zF,zG,zH,zI,zJ,zK,Nat.zero_add,Nat.reduceAdd,Nat.reduceMul,Int.reduceToNat]
   refine e_callP rfl rfl (rsegment_c) (e_nil ?_)
   simp only [ev,zD,zE,zF,zG]
   refine mf1 m ?_
   clear m; intro g7 u m
   simp only [zJ,zK,zF,zG]
   refine mstoreA m 0 rfl rfl rfl cells_34 (leT rfl) rfl ?_
   clear m; intro u m; simp only [over,zH,zI,zJ,zK,zL,zM,zN,zO,zP,zF,zG,Nat.reduceAdd] at m
   refine n_nil (k44 _ _ ?_)
   refine c_seq fun K45 k45 => wp_region_lit (n_load rfl ((m.b 0 rfl).full agg_34 cells_34) ?_)
   simp only [ev,zD,zE,zF,zG]
   refine n_load rfl ((m.b 1 rfl).full agg_34 cells_34) ?_
   simp only [ev,zD,zE,zF,zG]
   refine mcallP m rfl rfl (rCmpFrac_c Bq.up Bq.up) ?_
   clear m; intro u m
   refine n_val (r_lss rfl rfl) (n_nil (k45 _ _ ?_))
   simp only [ev,zD,zE,zF,zG]
   refine c_if rfl (fun hc3 => ?_) (fun hc3 => ?_)
   ·
    have h1 := qcmp_lt.1 hc3
    refine wp_region_lit (n_load rfl ((m.b 0 rfl).full agg_34 cells_34) ?_)
    simp only [ev,zD,zE,zF,zG]
    refine mstoreA m 1 rfl rfl rfl cells_34 (leT rfl) rfl ?_
    clear m; intro u m; simp only [over,zH,zI,zJ,zK,zL,zM,zN,zO,zP,zF,zG,Nat.reduceAdd] at m
    refine n_nil (k43 _ _ ?_)
    refine wp_region_lit (n_val (r_move) (n_val (r_add (m := 1) (n := 1) (r := 2) rfl rfl (by decide)) (n_val (r_assign) (n_nil (then_rounds (c_seq fun K46 k46 => c_seq fun K47 k47 => wp_region_lit (n_val (r_move) ?_)))))))
    simp only [ev,zD,zE,zF,zG]
    refine n_val (r_lssT (m := 2) (n := 3) rfl rfl (by decide)) (n_nil (k47 _ _ ?_))
    refine c_yes rfl (wp_skip (k46 _ _ ?_))
    refine c_seq fun K48 k48 => wp_block (c_seq fun K49 k49 => ?_)
    simp only [ev,zD,zE,zF,zG]
    refine wp_region_fresh 11 [0, 1, 2, 3, 4, 5, 6, 7, 8, 9] [⟨10, 10, 34, [.bool false, .string ⟨#[]⟩, .bool false, .string ⟨#[]⟩]⟩] follows_mixed (by kernel_rfl) (al1 ⟨_, _, _, rfl, by kernel_rfl, _, zero_34, rfl⟩) (ol := ?_) ?hol ?_
    case hol => simp only [zQ,zR,zS,zT,zU,zV]; try rfl
    intro u e; replace m := m.ext' e; clear e
    refine e_load rfl (fun u e => (((m.ext' e).b 6 rfl).full agg_28 cells_28)) ?_
    simp only [ev,zD,zE,zF,zG]
    refine e_val (r_move) (e_val (r_indexAddrA Tryz.underlying59 cells_28 rfl rfl (by decide) (by decide) rfl) ?_)
    simp only [ev,zD,zE,zF,zG]
    refine e_load rfl (fun u e => (((m.ext' e).b 5 rfl).lies agg_28 cells_28 rfl rfl)) ?_
    simp only [ev,zD,zE,zF,zG,zH,zI,zJ,zK,Nat.zero_add,Nat.reduceAdd,Nat.reduceMul,Int.reduceToNat]
    refine e_val (r_move) (e_val (r_add (m := 2) (n := 1) (r := 3) rfl rfl (by decide)) (e_val (r_rem (m := 3) (n := 3) (r := 0) rfl rfl (by decide) (by decide)) (e_val (r_indexAddrA Tryz.underlying59 cells_28 rfl rfl (by decide) (by decide) rfl) ?_)))
    simp only [ev,zD,zE,zF,zG]
    refine e_load rfl (fun u e => (((m.ext' e).b 5 rfl).lies agg_28 cells_28 rfl rfl)) ?_
    simp only [ev,zD,zE,zF,zG,zH,zI,zJ,zK,Nat.zero_add,Nat.reduceAdd,Nat.reduceMul,Int.reduceToNat]
    refine e_callP rfl rfl (rsegment_c) (e_nil ?_)
    simp only [ev,zD,zE,zF,zG]
    refine mf1 m ?_
    clear m; intro g8 u m
    simp only [zJ,zK,zF,zG]
    refine mstoreA m 0 rfl rfl rfl cells_34 (leT rfl) rfl ?_
    clear m; intro u m; simp only [over,zH,zI,zJ,zK,zL,zM,zN,zO,zP,zF,zG,Nat.reduceAdd] at m
    refine n_nil (k49 _ _ ?_)
    refine c_seq fun K50 k50 => wp_region_lit (n_load rfl ((m.b 0 rfl).full agg_34 cells_34) ?_)
    simp only [ev,zD,zE,zF,zG]
    refine n_load rfl ((m.b 2 rfl).full agg_34 cells_34) ?_
    simp only [ev,zD,zE,zF,zG]
    refine mcallP m rfl rfl (rCmpFrac_c Bq.up Bq.up) ?_
    clear m; intro u m
    refine n_val (r_lss rfl rfl) (n_nil (k50 _ _ ?_))
    simp only [ev,zD,zE,zF,zG]
    refine c_if rfl (fun hc3 => ?_) (fun hc3 => ?_)
    ·
     have h2 := qcmp_lt.1 hc3
     refine wp_region_lit (n_load rfl ((m.b 0 rfl).full agg_34 cells_34) ?_)
     simp only [ev,zD,zE,zF,zG]
     refine mstoreA m 2 rfl rfl rfl cells_34 (leT rfl) rfl ?_
     clear m; intro u m; simp only [over,zH,zI,zJ,zK,zL,zM,zN,zO,zP,zF,zG,Nat.reduceAdd] at m
     refine n_nil (k48 _ _ ?_)
     refine wp_region_lit (n_val (r_move) (n_val (r_add (m := 2) (n := 1) (r := 3) rfl rfl (by decide)) (n_val (r_assign) (n_nil (then_rounds (c_seq fun K51 k51 => c_seq fun K52 k52 => wp_region_lit (n_val (r_move) ?_)))))))
     simp only [ev,zD,zE,zF,zG]
     refine n_val (r_lssF (m := 3) (n := 3) rfl rfl (by decide)) (n_nil (k52 _ _ ?_))
     refine c_no rfl (wp_exit (k39 _ _ ?_))
     refine c_seq fun K53 k53 => wp_region_lit ?_
     simp only [ev,zD,zE,zF,zG]
     refine n_load rfl ((m.b 2 rfl).full agg_34 cells_34) ?_
     simp only [ev,zD,zE,zF,zG]
     refine mstoreA m 5 rfl rfl rfl cells_34 (leT rfl) rfl ?_
     clear m; intro u m; simp only [over,zH,zI,zJ,zK,zL,zM,zN,zO,zP,zF,zG,Nat.reduceAdd] at m
     refine n_nil (k53 _ _ ?_)
     refine wp_ret ?_
     try simp only [Exit.inBlock,Exit.then,if_true]
     refine fin1 rfl ⟨_, rfl, ((m.b 5 rfl).full agg_34 cells_34)⟩ ?_
     try simp only [zD,zE]
     exact ⟨_, rfl, m.ext, by first | (rw [← triq_face ⟨hf, hc1⟩]; rfl) | (rw [← triq_edge hno]; simp only [edgeq,minq,h1,h2,if_true,if_false]; rfl)⟩
    ·
     have h2 := mt qcmp_lt.2 hc3
     refine wp_skip (k48 _ _ ?_)
     refine wp_region_lit (n_val (r_move) (n_val (r_add (m := 2) (n := 1) (r := 3) rfl rfl (by decide)) (n_val (r_assign) (n_nil (then_rounds (c_seq fun K54 k54 => c_seq fun K55 k55 => wp_region_lit (n_val (r_move) ?_)))))))
     simp only [ev,zD,zE,zF,zG]
     refine n_val (r_lssF (m := 3) (n := 3) rfl rfl (by decide)) (n_nil (k55 _ _ ?_))
     refine c_no rfl (wp_exit (k39 _ _ ?_))
     refine c_seq fun K56 k56 => wp_region_lit ?_
     simp only [ev,zD,zE,zF,zG]
     refine n_load rfl ((m.b 2 rfl).full agg_34 cells_34) ?_
     simp only [ev,zD,zE,zF,zG]
     refine mstoreA m 5 rfl rfl rfl cells_34 (leT rfl) rfl ?_
     clear m; intro u m; simp only [over,zH,zI,zJ,zK,zL,zM,zN,zO,zP,zF,zG,Nat.reduceAdd] at m
     refine n_nil (k56 _ _ ?_)
     refine wp_ret ?_
     try simp only [Exit.inBlock,Exit.then,if_true]
     refine fin1 rfl ⟨_, rfl, ((m.b 5 rfl).full agg_34 cells_34)⟩ ?_
     try simp only [zD,zE]
     exact ⟨_, rfl, m.ext, by first | (rw [← triq_face ⟨hf, hc1⟩]; rfl) | (rw [← triq_edge hno]; simp only [edgeq,minq,h1,h2,if_true,if_false]; rfl)⟩
   ·
    have h1 := mt qcmp_lt.2 hc3
    refine wp_skip (k43 _ _ ?_)
    refine wp_region_lit (n_val (r_move) (n_val (r_add (m := 1) (n := 1) (r := 2) rfl rfl (by decide)) (n_val (r_assign) (n_nil (then_rounds (c_seq fun K57 k57 => c_seq fun K58 k58 => wp_region_lit (n_val (r_move) ?_)))))))
    simp only [ev,zD,zE,zF,zG]
    refine n_val (r_lssT (m := 2) (n := 3) rfl rfl (by decide)) (n_nil (k58 _ _ ?_))
    refine c_yes rfl (wp_skip (k57 _ _ ?_))
    refine c_seq fun K59 k59 => wp_block (c_seq fun K60 k60 => ?_)
    simp only [ev,zD,zE,zF,zG]
    refine wp_region_fresh 11 [0, 1, 2, 3, 4, 5, 6, 7, 8, 9] [⟨10, 10, 34, [.bool false, .string ⟨#[]⟩, .bool false, .string ⟨#[]⟩]⟩] follows_mixed (by kernel_rfl) (al1 ⟨_, _, _, rfl, by kernel_rfl, _, zero_34, rfl⟩) (ol := ?_) ?hol ?_
    case hol => simp only [zQ,zR,zS,zT,zU,zV]; try rfl
    intro u e; replace m := m.ext' e; clear e
    refine e_load rfl (fun u e => (((m.ext' e).b 6 rfl).full agg_28 cells_28)) ?_
    simp only [ev,zD,zE,zF,zG]
    refine e_val (r_move) (e_val (r_indexAddrA Tryz.underlying59 cells_28 rfl rfl (by decide) (by decide) rfl) ?_)
    simp only [ev,zD,zE,zF,zG]
    refine e_load rfl (fun u e => (((m.ext' e).b 5 rfl).lies agg_28 cells_28 rfl rfl)) ?_
    simp only [ev,zD,zE,zF,zG,zH,zI,zJ,zK,Nat.zero_add,Nat.reduceAdd,Nat.reduceMul,Int.reduceToNat]
    refine e_val (r_move) (e_val (r_add (m := 2) (n := 1) (r := 3) rfl rfl (by decide)) (e_val (r_rem (m := 3) (n := 3) (r := 0) rfl rfl (by decide) (by decide)) (e_val (r_indexAddrA Tryz.underlying59 cells_28 rfl rfl (by decide) (by decide) rfl) ?_)))
    simp only [ev,zD,zE,zF,zG]
    refine e_load rfl (fun u e => (((m.ext' e).b 5 rfl).lies agg_28 cells_28 rfl rfl)) ?_
    simp only [ev,zD,zE,zF,zG,zH,zI,zJ,zK,Nat.zero_add,Nat.reduceAdd,Nat.reduceMul,Int.reduceToNat]
    refine e_callP rfl rfl (rsegment_c) (e_nil ?_)
    simp only [ev,zD,zE,zF,zG]
    refine mf1 m ?_
    clear m; intro g8 u m
    simp only [zJ,zK,zF,zG]
    refine mstoreA m 0 rfl rfl rfl cells_34 (leT rfl) rfl ?_
    clear m; intro u m; simp only [over,zH,zI,zJ,zK,zL,zM,zN,zO,zP,zF,zG,Nat.reduceAdd] at m
    refine n_nil (k60 _ _ ?_)
    refine c_seq fun K61 k61 => wp_region_lit (n_load rfl ((m.b 0 rfl).full agg_34 cells_34) ?_)
    simp only [ev,zD,zE,zF,zG]
    refine n_load rfl ((m.b 2 rfl).full agg_34 cells_34) ?_
    simp only [ev,zD,zE,zF,zG]
    refine mcallP m rfl rfl (rCmpFrac_c Bq.up Bq.up) ?_
    clear m; intro u m
    refine n_val (r_lss rfl rfl) (n_nil (k61 _ _ ?_))
    simp only [ev,zD,zE,zF,zG]
    refine c_if rfl (fun hc3 => ?_) (fun hc3 => ?_)
    ·
     have h2 := qcmp_lt.1 hc3
     refine wp_region_lit (n_load rfl ((m.b 0 rfl).full agg_34 cells_34) ?_)
     simp only [ev,zD,zE,zF,zG]
     refine mstoreA m 2 rfl rfl rfl cells_34 (leT rfl) rfl ?_
     clear m; intro u m; simp only [over,zH,zI,zJ,zK,zL,zM,zN,zO,zP,zF,zG,Nat.reduceAdd] at m
     refine n_nil (k59 _ _ ?_)
     refine wp_region_lit (n_val (r_move) (n_val (r_add (m := 2) (n := 1) (r := 3) rfl rfl (by decide)) (n_val (r_assign) (n_nil (then_rounds (c_seq fun K62 k62 => c_seq fun K63 k63 => wp_region_lit (n_val (r_move) ?_)))))))
     simp only [ev,zD,zE,zF,zG]
     refine n_val (r_lssF (m := 3) (n := 3) rfl rfl (by decide)) (n_nil (k63 _ _ ?_))
     refine c_no rfl (wp_exit (k39 _ _ ?_))
     refine c_seq fun K64 k64 => wp_region_lit ?_
     simp only [ev,zD,zE,zF,zG]
     refine n_load rfl ((m.b 2 rfl).full agg_34 cells_34) ?_
     simp only [ev,zD,zE,zF,zG]
     refine mstoreA m 5 rfl rfl rfl cells_34 (leT rfl) rfl ?_
     clear m; intro u m; simp only [over,zH,zI,zJ,zK,zL,zM,zN,zO,zP,zF,zG,Nat.reduceAdd] at m
     refine n_nil (k64 _ _ ?_)
     refine wp_ret ?_
     try simp only [Exit.inBlock,Exit.then,if_true]
     refine fin1 rfl ⟨_, rfl, ((m.b 5 rfl).full agg_34 cells_34)⟩ ?_
     try simp only [zD,zE]
     exact ⟨_, rfl, m.ext, by first | (rw [← triq_face ⟨hf, hc1⟩]; rfl) | (rw [← triq_edge hno]; simp only [edgeq,minq,h1,h2,if_true,if_false]; rfl)⟩
    ·
     have h2 := mt qcmp_lt.2 hc3
     refine wp_skip (k59 _ _ ?_)
     refine wp_region_lit (n_val (r_move) (n_val (r_add (m := 2) (n := 1) (r := 3) rfl rfl (by decide)) (n_val (r_assign) (n_nil (then_rounds (c_seq fun K65 k65 => c_seq fun K66 k66 => wp_region_lit (n_val (r_move) ?_)))))))
     simp only [ev,zD,zE,zF,zG]
     refine n_val (r_lssF (m := 3) (n := 3) rfl rfl (by decide)) (n_nil (k66 _ _ ?_))
     refine c_no rfl (wp_exit (k39 _ _ ?_))
     refine c_seq fun K67 k67 => wp_region_lit ?_
     simp only [ev,zD,zE,zF,zG]
     refine n_load rfl ((m.b 2 rfl).full agg_34 cells_34) ?_
     simp only [ev,zD,zE,zF,zG]
     refine mstoreA m 5 rfl rfl rfl cells_34 (leT rfl) rfl ?_
     clear m; intro u m; simp only [over,zH,zI,zJ,zK,zL,zM,zN,zO,zP,zF,zG,Nat.reduceAdd] at m
     refine n_nil (k67 _ _ ?_)
     refine wp_ret ?_
     try simp only [Exit.inBlock,Exit.then,if_true]
     refine fin1 rfl ⟨_, rfl, ((m.b 5 rfl).full agg_34 cells_34)⟩ ?_
     try simp only [zD,zE]
     exact ⟨_, rfl, m.ext, by first | (rw [← triq_face ⟨hf, hc1⟩]; rfl) | (rw [← triq_edge hno]; simp only [edgeq,minq,h1,h2,if_true,if_false]; rfl)⟩

set_option maxHeartbeats 400000 in
theorem rFar2_c {x : P3} {ts : List T3} [I3 x] {N cap : Nat} {A : Option Addr} (w : World) (hT : TrisAt w A N ts) (hN : N < 4611686018427387904) : Does Tryz.prog 13 [pt x, .slice A N cap] w (fun v _ => v = .tuple #[Q (farq x ts), .bool (decide ((0 : Int) < (N : Int)))]) := by
 refine ⟨en_13, ?_⟩
 have m := Mem.refl w
 go_enter Tryz.func13, Tryz.ntmps13
 refine c_seq fun K1 k1 => wp_region_lit (mboxA m rfl ?_)
 clear m; intro g1 u m
 simp only [ev,zD,zE,zF,zG]
 refine malloc m zero_34 rfl ?_
 clear m; intro g2 u m
 refine n_val (r_assign) (n_nil (k1 _ _ ?_))
 refine c_seq fun K2 k2 => c_seq fun K3 k3 => wp_region_lit (n_val (r_move) (n_val (r_lenS rfl Tryz.underlying24 rfl) ?_))
 simp only [ev,zD,zE,zF,zG]
 refine n_val (r_eql rfl rfl) (n_nil (k3 _ _ ?_))
 simp only [ev,zD,zE,zF,zG]
 refine c_if rfl (fun hc1 => ?_) (fun hc1 => ?_)
 ·
  refine c_seq fun K4 k4 => wp_region_lit (mcallP m rfl rfl (r23zero_c) ?_)
  clear m; intro u m
  simp only [ev,zD,zE,zF,zG]
  refine mstoreA m 0 rfl rfl rfl cells_34 (leT rfl) rfl ?_
  clear m; intro u m; simp only [over,zH,zI,zJ,zK,zL,zM,zN,zO,zP,zF,zG,Nat.reduceAdd] at m
  refine n_val (r_assign) (n_nil (k4 _ _ ?_))
  refine wp_ret ?_
  simp only [ev,zD,zE,zF,zG]
  try simp only [Exit.inBlock,Exit.then,if_true]
  refine fin2 rfl ⟨_, rfl, ((m.b 0 rfl).full agg_34 cells_34)⟩ rfl ?_
  try simp only [zD,zE]
  exact ⟨_, rfl, m.ext, by have hn0 : N = 0 := (by omega); obtain rfl := hT.empty hn0; subst hn0; rfl⟩
 ·
  refine wp_skip (k2 _ _ ?_)
  refine c_seq fun K5 k5 => ?_
  obtain ⟨t0, ht0, _, a, rfl, hrow⟩ := hT.get (i := 0) (by omega)
  refine wp_region_fresh 6 [0, 1, 2, 3, 4] [⟨5, 6, 34, [.bool false, .string ⟨#[]⟩, .bool false, .string ⟨#[]⟩]⟩] follows_mixed (by kernel_rfl) (al1 ⟨_, _, _, rfl, by kernel_rfl, _, zero_34, rfl⟩) (ol := ?_) ?hol ?_
  case hol => simp only [zQ,zR,zS,zT,zU,zV]; try rfl
  intro u e; replace m := m.ext' e; clear e
  refine e_load rfl (fun u e => (((m.ext' e).b 1 rfl).full agg_28 cells_28)) ?_
  simp only [ev,zD,zE,zF,zG]
  refine e_val (r_move) ?_
  simp only [ev,zD,zE,zF,zG]
  refine e_val (r_indexAddrS Tryz.underlying24 cells_59 rfl rfl (by decide) (by omega) rfl) ?_
  simp only [ev,zD,zE,zF,zG]
  refine e_load rfl (fun u e => (((hrow.ext (m.ext' e).ext)).lies agg_59 cells_59)) ?_
  simp only [ev,zD,zE,zF,zG]
  refine e_callP rfl rfl (One_c (t := t0)) (e_nil ?_)
  simp only [ev,zD,zE,zF,zG]
  refine mf1 m ?_
  clear m; intro g3 u m
  simp only [zJ,zK,zF,zG]
  refine mstoreA m 0 rfl rfl rfl cells_34 (leT rfl) rfl ?_
  clear m; intro u m; simp only [over,zH,zI,zJ,zK,zL,zM,zN,zO,zP,zF,zG,Nat.reduceAdd] at m
  refine n_nil (k5 _ _ ?_)
  refine c_seq fun K6 k6 => c_seq fun K7 k7 => wp_region_lit (n_val (r_assign) (n_nil (k7 _ _ ?_)))
  refine wp_block ?_
  simp only [ev,zD,zE,zF,zG]
  refine c_loopg [7] [8, 18, 19, 20, 21, 22, 23, 24, 25, 26, 27, 28, 29, 30, 31, 32, 33, 34] (fun n vs wl => ∃ (k : Nat), vs = [.int .i64 (k:Int)] ∧ Mem w wl [bI g3 [.bool (wneg (farq x (ts.take k)).num), .string (wmag (farq x (ts.take k)).num), .bool (wneg ((farq x (ts.take k)).den : Int)), .string (wmag ((farq x (ts.take k)).den : Int))] 34, bI g2 [.bool false, .string ⟨#[]⟩, .bool false, .string ⟨#[]⟩] 34, bI g1 [.int .i64 x.x, .int .i64 x.y, .int .i64 x.z] 28] ∧ (1 ≤ k) ∧ (k ≤ N) ∧ (n = N - k)) ?_ ?_
  ·
   apply Exists.intro
   simp only [zQ,zR,zD,zE]
   exact ⟨1, rfl, (m.re 0 rfl (by rw [farq_one ht0]; exact (m.b 0 rfl))), Nat.le_refl _, by omega, rfl⟩
  ·
   intro n vs wr hI u
   clear m
   obtain ⟨k, rfl, m, hk1, hk, hn⟩ := hI
   simp only [setG_cons,setG_nil,setMany_cons,setMany_nil,zF,zG]
   refine c_seq fun K8 k8 => c_seq fun K9 k9 => wp_region_lit (n_val (r_move) (n_val (r_move) (n_val (r_lenS rfl Tryz.underlying24 rfl) (n_val (r_lss rfl rfl) ?_))))
   simp only [ev,zD,zE,zF,zG]
   refine n_nil (k9 _ _ ?_)
   refine c_if rfl (fun hc2 => ?_) (fun hc2 => ?_)
   ·
    obtain ⟨t, ht, _, _⟩ := hT.get (i := k) (by omega)
    have hrow := hT.at ht
    refine wp_skip (k8 _ _ ?_)
    refine c_seq fun K10 k10 => wp_block (c_seq fun K11 k11 => ?_)
    refine wp_region_fresh 7 [0, 1, 2, 3, 4, 5] [⟨6, 8, 34, [.bool false, .string ⟨#[]⟩, .bool false, .string ⟨#[]⟩]⟩] follows_mixed (by kernel_rfl) (al1 ⟨_, _, _, rfl, by kernel_rfl, _, zero_34, rfl⟩) (ol := ?_) ?hol ?_
    case hol => simp only [zQ,zR,zS,zT,zU,zV]; try rfl
    intro u e; replace m := m.ext' e; clear e
    refine e_load rfl (fun u e => (((m.ext' e).b 2 rfl).full agg_28 cells_28)) ?_
    simp only [ev,zD,zE,zF,zG]
    refine e_val (r_move) (e_val (r_move) ?_)
    simp only [ev,zD,zE,zF,zG]
    refine e_val (r_indexAddrS Tryz.underlying24 cells_59 rfl rfl (by omega) (by omega) (addrN (Int.toNat_natCast _))) ?_
    simp only [ev,zD,zE,zF,zG]
    refine e_load rfl (fun u e => (((hrow.ext (m.ext' e).ext)).lies agg_59 cells_59)) ?_
    simp only [ev,zD,zE,zF,zG]
    refine e_callP rfl rfl (One_c (t := t)) (e_nil ?_)
    simp only [ev,zD,zE,zF,zG]
    refine mf1 m ?_
    clear m; intro g4 u m
    simp only [zJ,zK,zF,zG]
    refine mstoreA m 0 rfl rfl rfl cells_34 (leT rfl) rfl ?_
    clear m; intro u m; simp only [over,zH,zI,zJ,zK,zL,zM,zN,zO,zP,zF,zG,Nat.reduceAdd] at m
    refine n_nil (k11 _ _ ?_)
    refine c_seq fun K12 k12 => wp_region_lit (n_load rfl ((m.b 0 rfl).full agg_34 cells_34) ?_)
    simp only [ev,zD,zE,zF,zG]
    refine n_load rfl ((m.b 1 rfl).full agg_34 cells_34) ?_
    simp only [ev,zD,zE,zF,zG]
    refine mcallP m rfl rfl (rCmpFrac_c Bq.up (Bq.mono (farq_bq (fun u hu => hT.it u (List.mem_of_mem_take hu))) (by decide))) ?_
    clear m; intro u m
    refine n_val (r_lss rfl rfl) (n_nil (k12 _ _ ?_))
    simp only [ev,zD,zE,zF,zG]
    refine c_if rfl (fun hc3 => ?_) (fun hc3 => ?_)
    ·
     have hq := (farq_step (x := x) (by omega) ht).trans (if_pos (qcmp_lt.1 hc3))
     refine wp_region_lit (n_load rfl ((m.b 0 rfl).full agg_34 cells_34) ?_)
     simp only [ev,zD,zE,zF,zG]
     refine mstoreA m 1 rfl rfl rfl cells_34 (leT rfl) rfl ?_
     clear m; intro u m; simp only [over,zH,zI,zJ,zK,zL,zM,zN,zO,zP,zF,zG,Nat.reduceAdd] at m
     refine n_nil (k10 _ _ ?_)
     refine wp_region_lit (n_val (r_move) ?_)
     simp only [ev,zD,zE,zF,zG]
     refine n_val (r_add rfl rfl (wrap_i64 (by omega) (by omega))) (n_val (r_assign) (n_nil ?_))
     simp only [ev,zD,zE,zF,zG]
     simp only [Exit.inBlock,Exit.then]
     refine ⟨N - (k + 1), _, ?_, rfl, ?_, ?_⟩
     · omega
     · simp only [zQ,zR,zD,zE,setG_cons,setG_nil,setMany_cons,setMany_nil,zF,zG]
     ·
      simp only [zQ,zR,zD,zE]
      exact ⟨k + 1, rfl, ((m.re 1 rfl (by rw [hq]; exact (m.b 1 rfl))).sel [false, true, true, true]), by omega, by omega, rfl⟩
    ·
     have hq := (farq_step (x := x) (by omega) ht).trans (if_neg (mt qcmp_lt.2 hc3))
     refine wp_skip (k10 _ _ ?_)
     refine wp_region_lit (n_val (r_move) ?_)
     simp only [ev,zD,zE,zF,zG]
     refine n_val (r_add rfl rfl (wrap_i64 (by omega) (by omega))) (n_val (r_assign) (n_nil ?_))
     simp only [ev,zD,zE,zF,zG]
     simp only [Exit.inBlock,Exit.then]
     refine ⟨N - (k + 1), _, ?_, rfl, ?_, ?_⟩
     · omega
     · simp only [zQ,zR,zD,zE,setG_cons,setG_nil,setMany_cons,setMany_nil,zF,zG]
     ·
      simp only [zQ,zR,zD,zE]
      exact ⟨k + 1, rfl, ((m.re 1 rfl (by rw [hq]; exact (m.b 1 rfl))).sel [false, true, true, true]), by omega, by omega, rfl⟩
   ·
    have hkN : k = N := by omega
    rw [hkN, show ts.take N = ts from List.take_of_length_le (by rw [hT.len]; exact Nat.le_refl _)] at m 
    refine wp_exit (k6 _ _ ?_)
    refine c_seq fun K13 k13 => wp_region_lit (n_load rfl ((m.b 0 rfl).full agg_34 cells_34) ?_)
    simp only [ev,zD,zE,zF,zG]
    refine mstoreA m 1 rfl rfl rfl cells_34 (leT rfl) rfl ?_
    clear m; intro u m; simp only [over,zH,zI,zJ,zK,zL,zM,zN,zO,zP,zF,zG,Nat.reduceAdd] at m
    refine n_val (r_assign) (n_nil (k13 _ _ ?_))
    refine wp_ret ?_
    simp only [ev,zD,zE,zF,zG]
    try simp only [Exit.inBlock,Exit.then,if_true]
    refine fin2 rfl ⟨_, rfl, ((m.b 1 rfl).full agg_34 cells_34)⟩ rfl ?_
    try simp only [zD,zE]
    exact ⟨_, rfl, m.ext, by rw [decide_eq_true (show (0 : Int) < (N : Int) by omega)]; rfl⟩

set_option maxHeartbeats 400000 in
theorem rArea_c {ts : List T3} {N cap : Nat} {A : Option Addr} (w : World) (hT : TrisAt w A N ts) (hN : N < 4611686018427387904) : Does Tryz.prog 15 [.slice A N cap] w (fun v _ => v = .tuple #[W (sumT lowA ts), W (sumT highA ts)]) := by
 refine ⟨en_15, ?_⟩
 have m := Mem.refl w
 go_enter Tryz.func15, Tryz.ntmps15
 refine c_seq fun K1 k1 => wp_region_lit (malloc m zero_32 rfl ?_)
 clear m; intro g1 u m
 simp only [ev,zD,zE,zF,zG]
 refine malloc m zero_32 rfl ?_
 clear m; intro g2 u m
 refine n_nil (k1 _ _ ?_)
 refine c_seq fun K2 k2 => wp_region_lit ?_
 simp only [ev,zD,zE,zF,zG]
 refine malloc m zero_32 rfl ?_
 clear m; intro g3 u m
 refine n_nil (k2 _ _ ?_)
 refine c_seq fun K3 k3 => wp_region_lit ?_
 simp only [ev,zD,zE,zF,zG]
 refine malloc m zero_32 rfl ?_
 clear m; intro g4 u m
 refine n_nil (k3 _ _ ?_)
 refine c_seq fun K4 k4 => c_seq fun K5 k5 => wp_region_lit (n_val (r_assign) (n_nil (k5 _ _ ?_)))
 refine wp_block ?_
 simp only [ev,zD,zE,zF,zG]
 refine c_loopg [6] [7, 8, 9, 10, 11, 12, 13, 14, 15, 16, 17, 18, 19, 20, 21, 22, 23, 24, 25, 26, 27, 28, 29, 30, 31, 32, 33, 34, 35, 36, 37, 38, 39, 40, 41, 42, 43] (fun n vs wl => ∃ (k : Nat), vs = [.int .i64 (k:Int)] ∧ Mem w wl [bI g4 [.bool (wneg (sumT highA (ts.take k))), .string (wmag (sumT highA (ts.take k)))] 32, bI g3 [.bool (wneg (sumT lowA (ts.take k))), .string (wmag (sumT lowA (ts.take k)))] 32, bI g2 [.bool false, .string ⟨#[]⟩] 32, bI g1 [.bool false, .string ⟨#[]⟩] 32] ∧ (k ≤ N) ∧ (n = N - k)) ?_ ?_
 ·
  apply Exists.intro
  simp only [zQ,zR,zD,zE]
  exact ⟨0, rfl, m, Nat.zero_le _, rfl⟩
 ·
  intro n vs wr hI u
  clear m
  obtain ⟨k, rfl, m, hk, hn⟩ := hI
  simp only [setG_cons,setG_nil,setMany_cons,setMany_nil,zF,zG]
  refine c_seq fun K6 k6 => c_seq fun K7 k7 => wp_region_lit (n_val (r_move) (n_val (r_move) (n_val (r_lenS rfl Tryz.underlying24 rfl) (n_val (r_lss rfl rfl) ?_))))
  simp only [ev,zD,zE,zF,zG]
  refine n_nil (k7 _ _ ?_)
  refine c_if rfl (fun hc1 => ?_) (fun hc1 => ?_)
  ·
   obtain ⟨t, ht, _, a, rfl, hrow⟩ := hT.get (i := k) (by omega)
   haveI : Bw 364 (sumT lowA (ts.take k)) := ⟨sumT_bdt (m := 300) (fun u hu => by haveI := hT.it u hu; exact lowA_bd) (by rw [hT.len]; omega)⟩
   haveI : Bw 365 (sumT highA (ts.take k)) := ⟨sumT_bdt (m := 301) (fun u hu => by haveI := hT.it u hu; exact highA_bd) (by rw [hT.len]; omega)⟩
   refine wp_skip (k6 _ _ ?_)
   refine c_seq fun K8 k8 => wp_block (c_seq fun K9 k9 => wp_region_lit (n_val (r_move) (n_val (r_move) ?_)))
   simp only [ev,zD,zE,zF,zG]
   refine n_val (r_indexAddrS Tryz.underlying24 cells_59 rfl rfl (by omega) (by omega) (addrN (Int.toNat_natCast _))) ?_
   simp only [ev,zD,zE,zF,zG]
   refine n_load rfl ((hrow.ext m.ext).lies agg_59 cells_59) ?_
   simp only [ev,zD,zE,zF,zG]
   refine mcallP m rfl rfl (rNormal_c (t := t)) ?_
   clear m; intro u m
   simp only [ev,zD,zE,zF,zG]
   refine malloc m zero_75 rfl ?_
   clear m; intro g5 u m
   simp only [ev,zD,zE,zF,zG]
   refine mstoreA m 0 rfl rfl rfl cells_75 (leT rfl) rfl ?_
   clear m; intro u m; simp only [over,zH,zI,zJ,zK,zL,zM,zN,zO,zP,zF,zG,Nat.reduceAdd] at m
   refine n_nil (k9 _ _ ?_)
   refine c_seq fun K10 k10 => wp_region_lit (n_load rfl ((m.b 0 rfl).full agg_75 cells_75) ?_)
   simp only [ev,zD,zE,zF,zG]
   refine n_load rfl ((m.b 0 rfl).full agg_75 cells_75) ?_
   simp only [ev,zD,zE,zF,zG]
   refine mcallP m rfl rfl (rDot_c Bv.of Bv.of) ?_
   clear m; intro u m
   simp only [ev,zD,zE,zF,zG]
   refine malloc m zero_32 rfl ?_
   clear m; intro g6 u m
   simp only [ev,zD,zE,zF,zG]
   refine mstoreA m 0 rfl rfl rfl cells_32 (leT rfl) rfl ?_
   clear m; intro u m; simp only [over,zH,zI,zJ,zK,zL,zM,zN,zO,zP,zF,zG,Nat.reduceAdd] at m
   refine n_nil (k10 _ _ ?_)
   refine c_seq fun K11 k11 => wp_region_lit (n_load rfl ((m.b 0 rfl).full agg_32 cells_32) ?_)
   simp only [ev,zD,zE,zF,zG]
   refine mcallP m rfl rfl (rRoot_c Bw.up (dot_nn _)) ?_
   clear m; intro u m
   refine n_val (r_move) (n_val (r_extract rfl rfl) (n_val (r_extract rfl rfl) ?_))
   simp only [ev,zD,zE,zF,zG]
   refine malloc m zero_32 rfl ?_
   clear m; intro g7 u m
   simp only [ev,zD,zE,zF,zG]
   refine mstoreA m 0 rfl rfl rfl cells_32 (leT rfl) rfl ?_
   clear m; intro u m; simp only [over,zH,zI,zJ,zK,zL,zM,zN,zO,zP,zF,zG,Nat.reduceAdd] at m
   refine n_val (r_assign) (n_nil ?_)
   simp only [ev,zD,zE,zF,zG]
   rw [show ((isqrt (t.normal.dot t.normal).natAbs : Nat) : Int) = lowA t from rfl] at m ⊢
   refine k11 _ _ ?_
   refine c_seq fun K12 k12 => wp_region_lit (n_load rfl ((m.b 4 rfl).full agg_32 cells_32) ?_)
   simp only [ev,zD,zE,zF,zG]
   refine n_load rfl ((m.b 0 rfl).full agg_32 cells_32) ?_
   simp only [ev,zD,zE,zF,zG]
   refine mcallP m rfl rfl (rAdd_c Bw.up Bw.up) ?_
   clear m; intro u m
   simp only [ev,zD,zE,zF,zG]
   refine mstoreA m 4 rfl rfl rfl cells_32 (leT rfl) rfl ?_
   clear m; intro u m; simp only [over,zH,zI,zJ,zK,zL,zM,zN,zO,zP,zF,zG,Nat.reduceAdd] at m
   refine n_nil (k12 _ _ ?_)
   refine c_seq fun K13 k13 => c_seq fun K14 k14 => mq m follows_mixed (by kernel_rfl) (ql rfl (fun u m => ((m.b 0 rfl).full agg_32 cells_32)) ?_)
   simp only [ev,zD,zE,zF,zG]
   refine ql rfl (fun u m => ((m.b 0 rfl).full agg_32 cells_32)) ?_
   simp only [ev,zD,zE,zF,zG]
   refine qcP rfl rfl (rMul_c Bw.up Bw.up) ?_
   simp only [ev,zD,zE,zF,zG]
   refine ql rfl (fun u m => ((m.b 1 rfl).full agg_32 cells_32)) ?_
   simp only [ev,zD,zE,zF,zG]
   refine q_val (eq_neq_32 rfl rfl) (q_nil ?_)
   clear m; intro u m
   refine k14 _ _ ?_
   simp only [ev,zD,zE,zF,zG]
   refine c_if rfl (fun hc2 => ?_) (fun hc2 => ?_)
   ·
    have hh := (sumT_step (f := highA) ht).trans (highA_ne' fun e => hc2 (W_eq_iff.2 e))
    refine mq_tail m 3 follows_mixed (by kernel_rfl) ?_
    simp only [zH,zI,zJ,zK]
    refine ql rfl (fun u m => ((m.b 0 rfl).full agg_32 cells_32)) ?_
    simp only [ev,zD,zE,zF,zG]
    refine qcP rfl rfl (rFrom_c Iw.h) ?_
    simp only [ev,zD,zE,zF,zG]
    refine qcP rfl rfl (rAdd_c Bw.up Bw.up) (q_nil ?_)
    clear m; intro u m
    simp only [ev,zD,zE,zF,zG]
    refine mstoreA m 0 rfl rfl rfl cells_32 (leT rfl) rfl ?_
    clear m; intro u m; simp only [over,zH,zI,zJ,zK,zL,zM,zN,zO,zP,zF,zG,Nat.reduceAdd] at m
    refine n_nil (k13 _ _ ?_)
    refine wp_region_lit (n_load rfl ((m.b 3 rfl).full agg_32 cells_32) ?_)
    simp only [ev,zD,zE,zF,zG]
    refine n_load rfl ((m.b 0 rfl).full agg_32 cells_32) ?_
    simp only [ev,zD,zE,zF,zG]
    refine mcallP m rfl rfl (rAdd_c Bw.up Bw.up) ?_
    clear m; intro u m
    simp only [ev,zD,zE,zF,zG]
    refine mstoreA m 3 rfl rfl rfl cells_32 (leT rfl) rfl ?_
    clear m; intro u m; simp only [over,zH,zI,zJ,zK,zL,zM,zN,zO,zP,zF,zG,Nat.reduceAdd] at m
    refine n_nil (k8 _ _ ?_)
    refine wp_region_lit (n_val (r_move) ?_)
    simp only [ev,zD,zE,zF,zG]
    refine n_val (r_add rfl rfl (wrap_i64 (by omega) (by omega))) (n_val (r_assign) (n_nil ?_))
    simp only [ev,zD,zE,zF,zG]
    simp only [Exit.inBlock,Exit.then]
    refine ⟨N - (k + 1), _, ?_, rfl, ?_, ?_⟩
    · omega
    · simp only [zQ,zR,zD,zE,setG_cons,setG_nil,setMany_cons,setMany_nil,zF,zG]
    ·
     simp only [zQ,zR,zD,zE]
     exact ⟨k + 1, rfl, (((m.re 4 rfl (by rw [sumT_step ht]; exact (m.b 4 rfl))).re 3 rfl (by rw [hh]; exact (m.b 3 rfl))).sel [false, false, false, true, true, true, true]), by omega, rfl⟩
   ·
    have hh := (sumT_step (f := highA) ht).trans (highA_eq (W_eq_iff.1 (Decidable.of_not_not hc2)))
    refine wp_skip (k13 _ _ ?_)
    refine wp_region_lit (n_load rfl ((m.b 3 rfl).full agg_32 cells_32) ?_)
    simp only [ev,zD,zE,zF,zG]
    refine n_load rfl ((m.b 0 rfl).full agg_32 cells_32) ?_
    simp only [ev,zD,zE,zF,zG]
    refine mcallP m rfl rfl (rAdd_c Bw.up Bw.up) ?_
    clear m; intro u m
    simp only [ev,zD,zE,zF,zG]
    refine mstoreA m 3 rfl rfl rfl cells_32 (leT rfl) rfl ?_
    clear m; intro u m; simp only [over,zH,zI,zJ,zK,zL,zM,zN,zO,zP,zF,zG,Nat.reduceAdd] at m
    refine n_nil (k8 _ _ ?_)
    refine wp_region_lit (n_val (r_move) ?_)
    simp only [ev,zD,zE,zF,zG]
    refine n_val (r_add rfl rfl (wrap_i64 (by omega) (by omega))) (n_val (r_assign) (n_nil ?_))
    simp only [ev,zD,zE,zF,zG]
    simp only [Exit.inBlock,Exit.then]
    refine ⟨N - (k + 1), _, ?_, rfl, ?_, ?_⟩
    · omega
    · simp only [zQ,zR,zD,zE,setG_cons,setG_nil,setMany_cons,setMany_nil,zF,zG]
    ·
     simp only [zQ,zR,zD,zE]
     exact ⟨k + 1, rfl, (((m.re 4 rfl (by rw [sumT_step ht]; exact (m.b 4 rfl))).re 3 rfl (by rw [hh]; exact (m.b 3 rfl))).sel [false, false, false, true, true, true, true]), by omega, rfl⟩
  ·
   have hkN : k = N := by omega
   rw [hkN, show ts.take N = ts from List.take_of_length_le (by rw [hT.len]; exact Nat.le_refl _)] at m 
   refine wp_exit (k4 _ _ ?_)
   refine c_seq fun K15 k15 => ?_
   refine mh m [true, true, false, false] [(0, true), (1, true), (2, false), (3, false)] follows_mixed (by kernel_rfl) (panic_put (fun _ _ _ _ _ h => h)) (ol := ?_) ?hol ?_
   case hol => simp only [zQ,zR,zS,zT,zU,zV]; try rfl
   clear m; intro u m
   refine h_load rfl (fun u m => ((m.b 1 rfl).full agg_32 cells_32)) ?_
   simp only [ev,zD,zE,zF,zG]
   refine h_load rfl (fun u m => ((m.b 0 rfl).full agg_32 cells_32)) ?_
   simp only [ev,zD,zE,zF,zG]
   refine h_step (mstoreA m 3 rfl rfl rfl cells_32 (leT rfl) rfl ?_)
   clear m; intro u m; simp only [over,zH,zI,zJ,zK,zL,zM,zN,zO,zP,zF,zG,Nat.reduceAdd] at m
   refine n_nil ?_
   refine ⟨m.sel [true, true, false, false], ?_⟩
   refine h_step (mstoreA m 2 rfl rfl rfl cells_32 (leT rfl) rfl ?_)
   clear m; intro u m; simp only [over,zH,zI,zJ,zK,zL,zM,zN,zO,zP,zF,zG,Nat.reduceAdd] at m
   refine n_nil ?_
   refine ⟨m.sel [true, true, false, false], ?_⟩
   refine h_nil (k15 _ _ ?_)
   refine wp_ret ?_
   try simp only [Exit.inBlock,Exit.then,if_true]
   refine fin2 rfl ⟨_, rfl, ((m.b 3 rfl).full agg_32 cells_32)⟩ ⟨_, rfl, ((m.b 2 rfl).full agg_32 cells_32)⟩ ?_
   try simp only [zD,zE]
   exact ⟨_, rfl, m.ext, rfl⟩

end Go.Proofs.YtmcgcnpgkkfkoaaGreatDoor
namespace Go.Proofs.YtmcgcnpgkkfkoaaGreatDoor
open Go.RowKit Go.Lith
set_option maxRecDepth 100000
attribute [local irreducible] wpList wpQuiet wpMix wpMixH wpTree Code.wp
end Go.Proofs.YtmcgcnpgkkfkoaaGreatDoor
namespace Go.Proofs.YtmcgcnpgkkfkoaaGreatDoor
open Go.RowKit Go.Lith
set_option maxRecDepth 100000
attribute [local irreducible] wpList wpQuiet wpMix wpMixH wpTree Code.wp
instance : Iw 0 := ⟨by unfold I64; decide⟩
instance : Iw 2 := ⟨by unfold I64; decide⟩
instance : Iw 5 := ⟨by unfold I64; decide⟩
instance : Iw 9 := ⟨by unfold I64; decide⟩
instance : Iw 16 := ⟨by unfold I64; decide⟩
instance : Iw 32 := ⟨by unfold I64; decide⟩
instance : Iw (-1) := ⟨by unfold I64; decide⟩
set_option maxHeartbeats 400000 in
theorem lfrac_c {n d : Int} [Iw n] [Iw d] : Pure Tryz.prog 24 [.int .i64 n, .int .i64 d] (Qc n d) := by
 intro w
 refine ⟨en_24, ?_⟩
 have m := Mem.refl w
 go_enter Tryz.func24, Tryz.ntmps24
 refine c_seq fun K1 k1 => wp_region_lit (malloc m zero_34 rfl ?_)
 clear m; intro g1 u m
 refine n_nil (k1 _ _ ?_)
 refine c_seq fun K2 k2 => wp_region_lit (n_val (r_move) ?_)
 simp only [ev,zD,zE,zF,zG]
 refine mcallP m rfl rfl (rFrom_c Iw.h) ?_
 clear m; intro u m
 refine n_val (r_move) ?_
 simp only [ev,zD,zE,zF,zG]
 refine mcallP m rfl rfl (rFrom_c Iw.h) ?_
 clear m; intro u m
 refine n_val (r_build_34_0_1 rfl rfl) ?_
 simp only [ev,zD,zE,zF,zG]
 refine mstoreA m 0 rfl rfl rfl cells_34 (leT rfl) rfl ?_
 clear m; intro u m; simp only [over,zH,zI,zJ,zK,zL,zM,zN,zO,zP,zF,zG,Nat.reduceAdd] at m
 refine n_nil (k2 _ _ ?_)
 refine wp_ret ?_
 try simp only [Exit.inBlock,Exit.then,if_true]
 refine fin1 rfl ⟨_, rfl, ((m.b 0 rfl).full agg_34 cells_34)⟩ ?_
 try simp only [zD,zE]
 exact ⟨_, rfl, m.ext, rfl⟩

set_option maxHeartbeats 400000 in
theorem far_c {x : P3} {t : T3} [I3 x] [IT t] {k : Int} [Iw k] (h : triq x t = (k : Rat)) : Pure Tryz.prog 39 [pt x, tr t, .int .i64 k] (.bool true) := by
 intro w
 refine ⟨en_39, ?_⟩
 have m := Mem.refl w
 go_enter Tryz.func39, Tryz.ntmps39
 refine c_seq fun K1 k1 => wp_region_lit (mboxA m rfl ?_)
 clear m; intro g1 u m
 simp only [ev,zD,zE,zF,zG]
 refine mboxA m rfl ?_
 clear m; intro g2 u m
 refine n_val (r_assign) (n_nil (k1 _ _ ?_))
 refine c_seq fun K2 k2 => wp_region_lit ?_
 simp only [ev,zD,zE,zF,zG]
 refine n_load rfl ((m.b 1 rfl).full agg_28 cells_28) ?_
 simp only [ev,zD,zE,zF,zG]
 refine n_load rfl ((m.b 0 rfl).full agg_59 cells_59) ?_
 simp only [ev,zD,zE,zF,zG]
 refine n_bs_24_1 rfl ?_
 intro u g3 e hg hB; replace m := m.newB e hg hB; clear e hg hB
 simp only [ev,zD,zE,zF,zG]
 refine mcall m rfl rfl (Far2_c (ts := [t]) _ (TrisAt.one (m.b 0 rfl)) (by decide)) ?_
 clear m; rintro v u m rfl
 simp only [ev,zD,zE,zF,zG]
 rw [show farq x [t] = (k : Rat) from h, show decide ((0 : Int) < ((1 : Nat) : Int)) = true from rfl]
 refine n_val (r_move) (n_val (r_extract rfl rfl) (n_val (r_extract rfl rfl) ?_))
 simp only [ev,zD,zE,zF,zG]
 refine malloc m zero_34 rfl ?_
 clear m; intro g4 u m
 simp only [ev,zD,zE,zF,zG]
 refine mstoreA m 0 rfl rfl rfl cells_34 (leT rfl) rfl ?_
 clear m; intro u m; simp only [over,zH,zI,zJ,zK,zL,zM,zN,zO,zP,zF,zG,Nat.reduceAdd] at m
 refine n_val (r_assign) (n_nil (k2 _ _ ?_))
 refine c_seq fun K3 k3 => ?_
 simp only [ev,zD,zE,zF,zG]
 refine mq m follows_mixed (by kernel_rfl) (q_val (r_move) (q_val (r_move) (q_want rfl ?_)))
 simp only [ev,zD,zE,zF,zG]
 refine ql rfl (fun u m => ((m.b 0 rfl).full agg_34 cells_34)) ?_
 simp only [ev,zD,zE,zF,zG]
 refine q_want rfl (q_val (r_move) (q_want rfl ?_))
 simp only [ev,zD,zE,zF,zG]
 refine qcP rfl rfl (lfrac_c) (q_want rfl (q_val (r_as (eq_eql_34 rfl rfl) (bool_as (decide_eq_true ⟨rfl, rfl, rfl, rfl⟩))) (q_val (r_pickT rfl) (q_val (r_assign) ?_))))
 simp only [ev,zD,zE,zF,zG]
 refine q_nil ?_
 clear m; intro u m
 refine k3 _ _ ?_
 refine wp_ret ?_
 try simp only [Exit.inBlock,Exit.then,if_true]
 refine fin1 rfl rfl ?_
 try simp only [zD,zE]
 exact ⟨_, rfl, m.ext, rfl⟩

def T0 : T3 := ⟨⟨0, 0, 0⟩, ⟨4, 0, 0⟩, ⟨0, 4, 0⟩⟩
instance : IT T0 := inferInstanceAs (IT ⟨⟨0, 0, 0⟩, ⟨4, 0, 0⟩, ⟨0, 4, 0⟩⟩)
def T1 : T3 := ⟨⟨0, 0, 0⟩, ⟨1, 0, 0⟩, ⟨0, 1, 1⟩⟩
instance : IT T1 := inferInstanceAs (IT ⟨⟨0, 0, 0⟩, ⟨1, 0, 0⟩, ⟨0, 1, 1⟩⟩)
def tet : List T3 := [⟨⟨0, 0, 0⟩, ⟨0, 4, 0⟩, ⟨4, 0, 0⟩⟩, ⟨⟨0, 0, 0⟩, ⟨4, 0, 0⟩, ⟨0, 0, 4⟩⟩, ⟨⟨4, 0, 0⟩, ⟨0, 4, 0⟩, ⟨0, 0, 4⟩⟩, ⟨⟨0, 4, 0⟩, ⟨0, 0, 0⟩, ⟨0, 0, 4⟩⟩]
theorem tet_it : ∀ t ∈ tet, IT t := fun t ht => by
 simp only [tet,List.mem_cons,List.not_mem_nil,or_false] at ht
 rcases ht with rfl | rfl | rfl | rfl <;> infer_instance
theorem isq {n r : Nat} (h1 : r * r ≤ n) (h2 : n < (r + 1) * (r + 1)) : isqrt n = r := (isqrt_unique h1 h2).symm
theorem low0 : sumT lowA [T0] = 16 := by rw [sumT_one]; show ((isqrt 256 : Nat) : Int) = 16; rw [isq (r := 16) (by decide) (by decide)]; rfl
theorem high0 : sumT highA [T0] = 16 := by
 have h : lowA T0 = 16 := by have := low0; rwa [sumT_one] at this
 rw [sumT_one, highA, h]; rfl
theorem low1 : sumT lowA [T1] = 1 := by rw [sumT_one]; show ((isqrt 2 : Nat) : Int) = 1; rw [isq (r := 1) (by decide) (by decide)]; rfl
theorem high1 : sumT highA [T1] = 2 := by
 have h : lowA T1 = 1 := by have := low1; rwa [sumT_one] at this
 rw [sumT_one, highA, h]; rfl
theorem tet_vol : sumT det tet = 64 := by decide +kernel
theorem tet_x : sumT (mom P3.x) tet = 256 := by decide +kernel
theorem tet_y : sumT (mom P3.y) tet = 256 := by decide +kernel
theorem tet_z : sumT (mom P3.z) tet = 256 := by decide +kernel
theorem cq_one : cq 256 64 = 1 := by decide +kernel
set_option maxHeartbeats 4000000 in
theorem sanity_c  : Pure Tryz.prog 10 [] (.bool true) := by
 intro w
 refine ⟨en_10, ?_⟩
 have m := Mem.refl w
 go_enter Tryz.func10, Tryz.ntmps10
 refine c_seq fun K1 k1 => wp_region_lit (n_val (r_assign) (n_nil (k1 _ _ ?_)))
 refine c_seq fun K2 k2 => wp_region_lit (n_val (r_build_28_) ?_)
 simp only [ev,zD,zE,zF,zG]
 refine malloc m zero_28 rfl ?_
 clear m; intro g1 u m
 simp only [ev,zD,zE,zF,zG]
 refine mstoreA m 0 rfl rfl rfl cells_28 (leT rfl) rfl ?_
 clear m; intro u m; simp only [over,zH,zI,zJ,zK,zL,zM,zN,zO,zP,zF,zG,Nat.reduceAdd] at m
 refine n_nil (k2 _ _ ?_)
 refine c_seq fun K3 k3 => wp_region_lit (n_val (r_build_28_0 rfl) ?_)
 simp only [ev,zD,zE,zF,zG]
 refine malloc m zero_28 rfl ?_
 clear m; intro g2 u m
 simp only [ev,zD,zE,zF,zG]
 refine mstoreA m 0 rfl rfl rfl cells_28 (leT rfl) rfl ?_
 clear m; intro u m; simp only [over,zH,zI,zJ,zK,zL,zM,zN,zO,zP,zF,zG,Nat.reduceAdd] at m
 refine n_nil (k3 _ _ ?_)
 refine c_seq fun K4 k4 => wp_region_lit (n_val (r_build_28_1 rfl) ?_)
 simp only [ev,zD,zE,zF,zG]
 refine malloc m zero_28 rfl ?_
 clear m; intro g3 u m
 simp only [ev,zD,zE,zF,zG]
 refine mstoreA m 0 rfl rfl rfl cells_28 (leT rfl) rfl ?_
 clear m; intro u m; simp only [over,zH,zI,zJ,zK,zL,zM,zN,zO,zP,zF,zG,Nat.reduceAdd] at m
 refine n_nil (k4 _ _ ?_)
 refine c_seq fun K5 k5 => wp_region_lit (n_val (r_build_28_2 rfl) ?_)
 simp only [ev,zD,zE,zF,zG]
 refine malloc m zero_28 rfl ?_
 clear m; intro g4 u m
 simp only [ev,zD,zE,zF,zG]
 refine mstoreA m 0 rfl rfl rfl cells_28 (leT rfl) rfl ?_
 clear m; intro u m; simp only [over,zH,zI,zJ,zK,zL,zM,zN,zO,zP,zF,zG,Nat.reduceAdd] at m
 refine n_nil (k5 _ _ ?_)
 refine c_seq fun K6 k6 => wp_region_lit (n_load rfl ((m.b 3 rfl).full agg_28 cells_28) ?_)
 simp only [ev,zD,zE,zF,zG]
 refine n_load rfl ((m.b 2 rfl).full agg_28 cells_28) ?_
 simp only [ev,zD,zE,zF,zG]
 refine n_load rfl ((m.b 1 rfl).full agg_28 cells_28) ?_
 simp only [ev,zD,zE,zF,zG]
 refine n_val (r_build_59_0_1_2 rfl rfl rfl) ?_
 simp only [ev,zD,zE,zF,zG]
 refine malloc m zero_59 rfl ?_
 clear m; intro g5 u m
 simp only [ev,zD,zE,zF,zG]
 refine mstoreA m 0 rfl rfl rfl cells_59 (leT rfl) rfl ?_
 clear m; intro u m; simp only [over,zH,zI,zJ,zK,zL,zM,zN,zO,zP,zF,zG,Nat.reduceAdd] at m
 refine n_nil (k6 _ _ ?_)
 refine c_seq fun K7 k7 => wp_region_lit (n_load rfl ((m.b 4 rfl).full agg_28 cells_28) ?_)
 simp only [ev,zD,zE,zF,zG]
 refine n_load rfl ((m.b 2 rfl).full agg_28 cells_28) ?_
 simp only [ev,zD,zE,zF,zG]
 refine n_load rfl ((m.b 3 rfl).full agg_28 cells_28) ?_
 simp only [ev,zD,zE,zF,zG]
 refine n_val (r_build_59_0_1_2 rfl rfl rfl) ?_
 simp only [ev,zD,zE,zF,zG]
 refine n_load rfl ((m.b 4 rfl).full agg_28 cells_28) ?_
 simp only [ev,zD,zE,zF,zG]
 refine n_load rfl ((m.b 3 rfl).full agg_28 cells_28) ?_
 simp only [ev,zD,zE,zF,zG]
 refine n_load rfl ((m.b 1 rfl).full agg_28 cells_28) ?_
 simp only [ev,zD,zE,zF,zG]
 refine n_val (r_build_59_0_1_2 rfl rfl rfl) ?_
 simp only [ev,zD,zE,zF,zG]
 refine n_load rfl ((m.b 3 rfl).full agg_28 cells_28) ?_
 simp only [ev,zD,zE,zF,zG]
 refine n_load rfl ((m.b 2 rfl).full agg_28 cells_28) ?_
 simp only [ev,zD,zE,zF,zG]
 refine n_load rfl ((m.b 1 rfl).full agg_28 cells_28) ?_
 simp only [ev,zD,zE,zF,zG]
 refine n_val (r_build_59_0_1_2 rfl rfl rfl) ?_
 simp only [ev,zD,zE,zF,zG]
 refine n_load rfl ((m.b 2 rfl).full agg_28 cells_28) ?_
 simp only [ev,zD,zE,zF,zG]
 refine n_load rfl ((m.b 4 rfl).full agg_28 cells_28) ?_
 simp only [ev,zD,zE,zF,zG]
 refine n_load rfl ((m.b 1 rfl).full agg_28 cells_28) ?_
 simp only [ev,zD,zE,zF,zG]
 refine n_val (r_build_59_0_1_2 rfl rfl rfl) ?_
 simp only [ev,zD,zE,zF,zG]
 refine n_bs_24_4 rfl rfl rfl rfl ?_
 intro u g6 e hg hB; replace m := m.newB e hg hB; clear e hg hB
 refine n_val (r_assign) (n_nil (k7 _ _ ?_))
 refine c_seq fun K8 k8 => wp_region_lit (n_val (r_build_28_0_1_2 rfl rfl rfl) ?_)
 simp only [ev,zD,zE,zF,zG]
 refine n_load rfl ((m.b 1 rfl).full agg_59 cells_59) ?_
 simp only [ev,zD,zE,zF,zG]
 refine mcallP m rfl rfl (far_c (x := ⟨1, 1, 3⟩) (t := ⟨⟨0, 0, 0⟩, ⟨4, 0, 0⟩, ⟨0, 4, 0⟩⟩) (k := 9) (by decide +kernel)) ?_
 clear m; intro u m
 refine n_val (r_move) (n_want rfl (n_val (r_build_28_0_1 rfl rfl) (n_want rfl ?_)))
 simp only [ev,zD,zE,zF,zG]
 refine n_load rfl ((m.b 1 rfl).full agg_59 cells_59) ?_
 simp only [ev,zD,zE,zF,zG]
 refine n_want rfl (mcallP m rfl rfl (far_c (x := ⟨5, -1, 0⟩) (t := ⟨⟨0, 0, 0⟩, ⟨4, 0, 0⟩, ⟨0, 4, 0⟩⟩) (k := 2) (by decide +kernel)) ?_)
 clear m; intro u m
 refine n_val (r_pickT rfl) (n_val (r_move) (n_want rfl (n_val (r_build_28_0_1 rfl rfl) ?_)))
 simp only [ev,zD,zE,zF,zG]
 refine n_want rfl (n_load rfl ((m.b 1 rfl).full agg_59 cells_59) ?_)
 simp only [ev,zD,zE,zF,zG]
 refine n_want rfl (mcallP m rfl rfl (far_c (x := ⟨3, 3, 0⟩) (t := ⟨⟨0, 0, 0⟩, ⟨4, 0, 0⟩, ⟨0, 4, 0⟩⟩) (k := 2) (by decide +kernel)) ?_)
 clear m; intro u m
 refine n_val (r_pickT rfl) (n_val (r_assign) (n_nil (k8 _ _ ?_)))
 refine c_seq fun K9 k9 => wp_region_lit (n_val (r_build_28_2 rfl) ?_)
 simp only [ev,zD,zE,zF,zG]
 refine n_val (r_build_28_0_1 rfl rfl) (n_val (r_build_28_0_1 rfl rfl) (n_val (r_build_28_0_1 rfl rfl) (n_val (r_build_59_0_1_2 rfl rfl rfl) ?_)))
 simp only [ev,zD,zE,zF,zG]
 refine mcallP m rfl rfl (far_c (x := ⟨0, 0, 1⟩) (t := ⟨⟨1, 1, 0⟩, ⟨3, 1, 0⟩, ⟨2, 1, 0⟩⟩) (k := 3) (by decide +kernel)) ?_
 clear m; intro u m
 refine n_val (r_assign) (n_nil (k9 _ _ ?_))
 refine c_seq fun K10 k10 => wp_region_lit ?_
 simp only [ev,zD,zE,zF,zG]
 refine n_load rfl ((m.b 1 rfl).full agg_59 cells_59) ?_
 simp only [ev,zD,zE,zF,zG]
 refine n_bs_24_1 rfl ?_
 intro u g7 e hg hB; replace m := m.newB e hg hB; clear e hg hB
 simp only [ev,zD,zE,zF,zG]
 refine mcall m rfl rfl (Area_c (ts := [T0]) _ (TrisAt.one (t := T0) (m.b 0 rfl)) (by decide)) ?_
 clear m; rintro v u m rfl
 simp only [ev,zD,zE,zF,zG]
 rw [low0, high0]
 refine n_val (r_move) (n_val (r_extract rfl rfl) (n_val (r_extract rfl rfl) ?_))
 simp only [ev,zD,zE,zF,zG]
 refine malloc m zero_32 rfl ?_
 clear m; intro g8 u m
 simp only [ev,zD,zE,zF,zG]
 refine malloc m zero_32 rfl ?_
 clear m; intro g9 u m
 simp only [ev,zD,zE,zF,zG]
 refine mstoreA m 1 rfl rfl rfl cells_32 (leT rfl) rfl ?_
 clear m; intro u m; simp only [over,zH,zI,zJ,zK,zL,zM,zN,zO,zP,zF,zG,Nat.reduceAdd] at m
 refine mstoreA m 0 rfl rfl rfl cells_32 (leT rfl) rfl ?_
 clear m; intro u m; simp only [over,zH,zI,zJ,zK,zL,zM,zN,zO,zP,zF,zG,Nat.reduceAdd] at m
 refine n_nil (k10 _ _ ?_)
 refine c_seq fun K11 k11 => wp_region_lit (n_load rfl ((m.b 8 rfl).full agg_28 cells_28) ?_)
 simp only [ev,zD,zE,zF,zG]
 refine n_val (r_build_28_0 rfl) (n_val (r_build_28_1_2 rfl rfl) (n_val (r_build_59_0_1_2 rfl rfl rfl) ?_))
 simp only [ev,zD,zE,zF,zG]
 refine n_bs_24_1 rfl ?_
 intro u g10 e hg hB; replace m := m.newB e hg hB; clear e hg hB
 simp only [ev,zD,zE,zF,zG]
 refine mcall m rfl rfl (Area_c (ts := [T1]) _ (TrisAt.one (t := T1) (m.b 0 rfl)) (by decide)) ?_
 clear m; rintro v u m rfl
 simp only [ev,zD,zE,zF,zG]
 rw [low1, high1]
 refine n_val (r_move) (n_val (r_extract rfl rfl) (n_val (r_extract rfl rfl) ?_))
 simp only [ev,zD,zE,zF,zG]
 refine malloc m zero_32 rfl ?_
 clear m; intro g11 u m
 simp only [ev,zD,zE,zF,zG]
 refine malloc m zero_32 rfl ?_
 clear m; intro g12 u m
 simp only [ev,zD,zE,zF,zG]
 refine mstoreA m 1 rfl rfl rfl cells_32 (leT rfl) rfl ?_
 clear m; intro u m; simp only [over,zH,zI,zJ,zK,zL,zM,zN,zO,zP,zF,zG,Nat.reduceAdd] at m
 refine mstoreA m 0 rfl rfl rfl cells_32 (leT rfl) rfl ?_
 clear m; intro u m; simp only [over,zH,zI,zJ,zK,zL,zM,zN,zO,zP,zF,zG,Nat.reduceAdd] at m
 refine n_nil (k11 _ _ ?_)
 refine c_seq fun K12 k12 => wp_region_lit (n_val (r_move) ?_)
 simp only [ev,zD,zE,zF,zG]
 refine mcall m rfl rfl (Centre_c (ts := tet) _ (TrisAt.of_cells (ts := tet) (m.b 6 rfl) rfl rfl tet_it) (by decide)) ?_
 clear m; rintro v u m rfl
 simp only [ev,zD,zE,zF,zG]
 rw [tet_vol, tet_x, tet_y, tet_z, cq_one, show decide ((64 : Int) ≠ 0) = true from rfl]
 refine n_val (r_move) (n_val (r_extract rfl rfl) (n_val (r_extract rfl rfl) ?_))
 simp only [ev,zD,zE,zF,zG]
 refine malloc m zero_49 rfl ?_
 clear m; intro g13 u m
 simp only [ev,zD,zE,zF,zG]
 refine mstoreA m 0 rfl rfl rfl cells_49 (leT rfl) rfl ?_
 clear m; intro u m; simp only [over,zH,zI,zJ,zK,zL,zM,zN,zO,zP,zF,zG,Nat.reduceAdd] at m
 refine n_val (r_assign) (n_nil (k12 _ _ ?_))
 refine c_seq fun K13 k13 => ?_
 simp only [ev,zD,zE,zF,zG]
 refine mq m follows_mixed (by kernel_rfl) (ql rfl (fun u m => ((m.b 5 rfl).full agg_32 cells_32)) ?_)
 simp only [ev,zD,zE,zF,zG]
 refine qcP rfl rfl (rFrom_c Iw.h) (q_val (r_as (eq_eql_32 rfl rfl) (bool_as (decide_eq_true ⟨rfl, rfl⟩))) (q_val (r_move) (q_want rfl ?_)))
 simp only [ev,zD,zE,zF,zG]
 refine ql rfl (fun u m => ((m.b 4 rfl).full agg_32 cells_32)) ?_
 simp only [ev,zD,zE,zF,zG]
 refine q_want rfl (ql rfl (fun u m => ((m.b 5 rfl).full agg_32 cells_32)) ?_)
 simp only [ev,zD,zE,zF,zG]
 refine q_want rfl (q_val (r_as (eq_eql_32 rfl rfl) (bool_as (decide_eq_true ⟨rfl, rfl⟩))) (q_val (r_pickT rfl) (q_val (r_move) (q_want rfl ?_))))
 simp only [ev,zD,zE,zF,zG]
 refine ql rfl (fun u m => ((m.b 2 rfl).full agg_32 cells_32)) ?_
 simp only [ev,zD,zE,zF,zG]
 refine q_want rfl (qcP rfl rfl (rFrom_c Iw.h) (q_want rfl (q_val (r_as (eq_eql_32 rfl rfl) (bool_as (decide_eq_true ⟨rfl, rfl⟩))) (q_val (r_pickT rfl) (q_val (r_move) ?_)))))
 simp only [ev,zD,zE,zF,zG]
 refine q_want rfl (ql rfl (fun u m => ((m.b 1 rfl).full agg_32 cells_32)) ?_)
 simp only [ev,zD,zE,zF,zG]
 refine q_want rfl (qcP rfl rfl (rFrom_c Iw.h) (q_want rfl (q_val (r_as (eq_eql_32 rfl rfl) (bool_as (decide_eq_true ⟨rfl, rfl⟩))) (q_val (r_pickT rfl) (q_val (r_assign) ?_)))))
 simp only [ev,zD,zE,zF,zG]
 refine q_nil ?_
 clear m; intro u m
 refine k13 _ _ ?_
 refine c_seq fun K14 k14 => mq m follows_mixed (by kernel_rfl) (q_val (r_move) (q_val (r_move) (q_want rfl (q_val (r_move) (q_val (r_pickT rfl) ?_)))))
 simp only [ev,zD,zE,zF,zG]
 refine q_val (r_move) (q_want rfl (q_val (r_move) (q_val (r_pickT rfl) (q_val (r_move) ?_))))
 simp only [ev,zD,zE,zF,zG]
 refine q_want rfl (q_val (r_move) (q_val (r_pickT rfl) (q_val (r_move) (q_want rfl (q_val (r_move) ?_)))))
 simp only [ev,zD,zE,zF,zG]
 refine q_want rfl (qc rfl rfl (fun u m => Volume_c (ts := tet) _ (TrisAt.of_cells (ts := tet) ((m.b 7 rfl)) rfl rfl tet_it) (by decide)) (q_want rfl ?_))
 simp only [ev,zD,zE,zF,zG]
 refine qcP rfl rfl (lfrac_c) (q_want rfl (q_val (r_as (eq_eql_34 rfl rfl) (bool_as (decide_eq_true ⟨rfl, rfl, rfl, rfl⟩))) (q_val (r_pickT rfl) (q_val (r_move) ?_))))
 simp only [ev,zD,zE,zF,zG]
 refine q_want rfl (ql rfl (fun u m => ((m.b 0 rfl).full agg_49 cells_49)) ?_)
 simp only [ev,zD,zE,zF,zG]
 refine q_want rfl (qcP rfl rfl (lfrac_c) (q_want rfl ?_))
 simp only [ev,zD,zE,zF,zG]
 refine qcP rfl rfl (lfrac_c) (q_want rfl ?_)
 simp only [ev,zD,zE,zF,zG]
 refine qcP rfl rfl (lfrac_c) (q_want rfl (q_val (r_build_49_0_1_2 rfl rfl rfl) (q_want rfl (q_val (r_as (eq_eql_49 rfl rfl) (bool_as (decide_eq_true ⟨rfl, rfl, rfl, rfl, rfl, rfl, rfl, rfl, rfl, rfl, rfl, rfl⟩))) (q_val (r_pickT rfl) ?_)))))
 simp only [ev,zD,zE,zF,zG]
 refine q_val (r_assign) (q_nil ?_)
 clear m; intro u m
 refine k14 _ _ ?_
 refine wp_ret ?_
 simp only [ev,zD,zE,zF,zG]
 try simp only [Exit.inBlock,Exit.then,if_true]
 refine fin1 rfl rfl ?_
 try simp only [zD,zE]
 exact ⟨_, rfl, m.ext, rfl⟩

end Go.Proofs.YtmcgcnpgkkfkoaaGreatDoor
