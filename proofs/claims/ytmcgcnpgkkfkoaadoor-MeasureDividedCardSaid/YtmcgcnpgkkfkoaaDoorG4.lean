/-
  Texts of one claim, laid together: Exact2, Meas1, Meas2, Meas3, Meas4, Meas5, RefG1, RefG2, RefG3.
-/
import Derived.Test.YtmcgcnpgkkfkoaaDoorG3
set_option maxHeartbeats 8000000
set_option linter.unusedSimpArgs false
set_option linter.unusedVariables false
set_option linter.unusedSectionVars false
namespace Go.Proofs.YtmcgcnpgkkfkoaaDoor
open Go.RowKit Go.Lith
set_option maxRecDepth 100000
attribute [local irreducible] wpList wpQuiet wpMix wpMixH wpTree Code.wp
theorem exSmall_c {a b c d : P3} [I3 a] [I3 b] [I3 c] [I3 d] {g0 : Nat} (w : World) (hB0 : Blk w g0 [.int .i64 a.x,.int .i64 a.y,.int .i64 a.z,.int .i64 b.x,.int .i64 b.y,.int .i64 b.z,.int .i64 c.x,.int .i64 c.y,.int .i64 c.z,.int .i64 d.x,.int .i64 d.y,.int .i64 d.z] 23) : Does Tryd.prog 67 [.slice (some ⟨g0,0,none⟩) 4 4] w (fun v _=>∃ bo : Bool,v = .bool bo ∧ (bo = true → S3 a ∧ S3 b ∧ S3 c ∧ S3 d)):=by
 refine ⟨en_67,?_⟩
 have m:=Mem.refl w
 go_enter Tryd.func67,Tryd.ntmps67
 refine c_seq fun K1 k1=>wp_region_lit (n_val (r_assign) (n_nil (k1 _ _ ?_)))
 refine c_seq fun K2 k2=>c_seq fun K3 k3=>wp_region_lit (n_val (r_move) (n_val (r_lenS rfl Tryd.underlying129 rfl) (n_val (r_move) ?_)))
 simp only [ev,zD,zE,zF,zG]
 refine n_nil (k3 _ _ ?_)
 refine wp_block (wp_loop_rounds 5 (rounds_step (c_seq fun K4 k4=>wp_region_lit (n_val (r_lssT (m:=0) (n:=4) rfl rfl (by decide)) (n_nil (k4 _ _ ?_))))))
 refine c_seq fun K5 k5=>c_yes rfl (wp_skip (k5 _ _ ?_))
 refine c_seq fun K6 k6=>wp_block (c_seq fun K7 k7=>wp_region_lit (n_val (r_indexAddrS Tryd.underlying129 cells_23 rfl rfl (by decide) (by decide) rfl) ?_))
 simp only [ev,zD,zE,zF,zG]
 refine n_load rfl ((hB0.ext m.ext).lies agg_23 cells_23 rfl rfl) ?_
 simp only [ev,zD,zE,zF,zG,zH,zI,zJ,zK,Nat.zero_add,Nat.reduceAdd,Nat.reduceMul,Int.reduceToNat]
 refine malloc m zero_23 rfl ?_
 clear m; intro g1 u m
 simp only [ev,zD,zE,zF,zG]
 refine mstoreA m 0 rfl rfl rfl cells_23 (leT rfl) rfl ?_
 clear m; intro u m; simp only [over,zH,zI,zJ,zK,zL,zM,zN,zO,zP,zF,zG,Nat.reduceAdd] at m
 refine n_nil (k7 _ _ ?_)
 refine c_seq fun K8 k8=>wp_region_lit (n_val (r_fieldAddr (c:=0) Tryd.underlying23 rfl cells_3 rfl rfl) ?_)
 simp only [ev,zD,zE,zF,zG]
 refine n_load rfl ((m.b 0 rfl).lies1 agg_3 rfl) ?_
 simp only [ev,zD,zE,zF,zG]
 refine n_val (r_fieldAddr (c:=0) Tryd.underlying23 rfl cells_3 rfl rfl) ?_
 simp only [ev,zD,zE,zF,zG]
 refine n_load rfl ((m.b 0 rfl).lies1 agg_3 rfl) ?_
 simp only [ev,zD,zE,zF,zG]
 refine n_val (r_fieldAddr (c:=0) Tryd.underlying23 rfl cells_3 rfl rfl) ?_
 simp only [ev,zD,zE,zF,zG]
 refine n_load rfl ((m.b 0 rfl).lies1 agg_3 rfl) ?_
 simp only [ev,zD,zE,zF,zG]
 refine n_val (r_build_97_0_1_2 rfl rfl rfl) (n_val (r_move) (n_nil (k8 _ _ ?_)))
 refine wp_block (wp_loop_rounds 4 (rounds_step (c_seq fun K9 k9=>wp_region_lit (n_val (r_lssT (m:=0) (n:=3) rfl rfl (by decide)) (n_nil (k9 _ _ ?_))))))
 refine c_seq fun K10 k10=>c_yes rfl (wp_skip (k10 _ _ ?_))
 refine c_seq fun K11 k11=>wp_block (c_seq fun K12 k12=>wp_region_lit (n_val (r_index_97_0 rfl rfl) ?_))
 simp only [ev,zD,zE,zF,zG]
 refine n_val (r_assign) (n_nil (k12 _ _ ?_))
 refine c_seq fun K13 k13=>wp_region_lit (n_val (r_move) (n_val (r_move) (n_val (r_neg rfl rfl) ?_)))
 simp only [ev,zD,zE,zF,zG]
 refine n_val (r_max rfl rfl rfl) (n_val (r_conv Tryd.underlying68 Tryd.underlying3 rfl (abs64 Iw.h)) ?_)
 simp only [ev,zD,zE,zF,zG]
 refine mcall m rfl rfl (len64_c (X:=(a.x).natAbs) _ (by have:=(Iw.h : I64 a.x).natAbs; omega)) ?_
 clear m; rintro v u m ⟨n,rfl,hn0,hn1,hax⟩
 refine n_val (r_gtr rfl rfl) (n_nil (k13 _ _ ?_))
 simp only [ev,zD,zE,zF,zG]
 refine c_if rfl (fun hc3=>?_) (fun hc3=>?_)
 ·
  refine c_seq fun K14 k14=>wp_region_lit (n_val (r_assign) (n_nil (k14 _ _ ?_)))
  refine wp_ret ?_
  simp only [ev,zD,zE,zF,zG]
  try simp only [Exit.inBlock,Exit.then,if_true]
  refine fin1 rfl rfl ?_
  try simp only [zD,zE]
  exact ⟨_,rfl,m.ext,false,rfl,fun h=>by cases h⟩
 ·
  replace hax:=hax (by omega)
  clear hc3 hn0 hn1
  refine wp_skip (k11 _ _ ?_)
  refine wp_region_lit (n_val (r_add (m:=0) (n:=1) (r:=1) rfl rfl (by decide)) (n_val (r_move) (n_nil (then_rounds (c_seq fun K15 k15=>wp_region_lit (n_val (r_lssT (m:=1) (n:=3) rfl rfl (by decide)) (n_nil (k15 _ _ ?_))))))))
  refine c_seq fun K16 k16=>c_yes rfl (wp_skip (k16 _ _ ?_))
  refine c_seq fun K17 k17=>wp_block (c_seq fun K18 k18=>wp_region_lit (n_val (r_index_97_1 rfl rfl) ?_))
  simp only [ev,zD,zE,zF,zG]
  refine n_val (r_assign) (n_nil (k18 _ _ ?_))
  refine c_seq fun K19 k19=>wp_region_lit (n_val (r_move) (n_val (r_move) (n_val (r_neg rfl rfl) ?_)))
  simp only [ev,zD,zE,zF,zG]
  refine n_val (r_max rfl rfl rfl) (n_val (r_conv Tryd.underlying68 Tryd.underlying3 rfl (abs64 Iw.h)) ?_)
  simp only [ev,zD,zE,zF,zG]
  refine mcall m rfl rfl (len64_c (X:=(a.y).natAbs) _ (by have:=(Iw.h : I64 a.y).natAbs; omega)) ?_
  clear m; rintro v u m ⟨n,rfl,hn0,hn1,hay⟩
  refine n_val (r_gtr rfl rfl) (n_nil (k19 _ _ ?_))
  simp only [ev,zD,zE,zF,zG]
  refine c_if rfl (fun hc3=>?_) (fun hc3=>?_)
  ·
   refine c_seq fun K20 k20=>wp_region_lit (n_val (r_assign) (n_nil (k20 _ _ ?_)))
   refine wp_ret ?_
   simp only [ev,zD,zE,zF,zG]
   try simp only [Exit.inBlock,Exit.then,if_true]
   refine fin1 rfl rfl ?_
   try simp only [zD,zE]
   exact ⟨_,rfl,m.ext,false,rfl,fun h=>by cases h⟩
  ·
   replace hay:=hay (by omega)
   clear hc3 hn0 hn1
   refine wp_skip (k17 _ _ ?_)
   refine wp_region_lit (n_val (r_add (m:=1) (n:=1) (r:=2) rfl rfl (by decide)) (n_val (r_move) (n_nil (then_rounds (c_seq fun K21 k21=>wp_region_lit (n_val (r_lssT (m:=2) (n:=3) rfl rfl (by decide)) (n_nil (k21 _ _ ?_))))))))
   refine c_seq fun K22 k22=>c_yes rfl (wp_skip (k22 _ _ ?_))
   refine c_seq fun K23 k23=>wp_block (c_seq fun K24 k24=>wp_region_lit (n_val (r_index_97_2 rfl rfl) ?_))
   simp only [ev,zD,zE,zF,zG]
   refine n_val (r_assign) (n_nil (k24 _ _ ?_))
   refine c_seq fun K25 k25=>wp_region_lit (n_val (r_move) (n_val (r_move) (n_val (r_neg rfl rfl) ?_)))
   simp only [ev,zD,zE,zF,zG]
   refine n_val (r_max rfl rfl rfl) (n_val (r_conv Tryd.underlying68 Tryd.underlying3 rfl (abs64 Iw.h)) ?_)
   simp only [ev,zD,zE,zF,zG]
   refine mcall m rfl rfl (len64_c (X:=(a.z).natAbs) _ (by have:=(Iw.h : I64 a.z).natAbs; omega)) ?_
   clear m; rintro v u m ⟨n,rfl,hn0,hn1,haz⟩
   refine n_val (r_gtr rfl rfl) (n_nil (k25 _ _ ?_))
   simp only [ev,zD,zE,zF,zG]
   refine c_if rfl (fun hc3=>?_) (fun hc3=>?_)
   ·
    refine c_seq fun K26 k26=>wp_region_lit (n_val (r_assign) (n_nil (k26 _ _ ?_)))
    refine wp_ret ?_
    simp only [ev,zD,zE,zF,zG]
    try simp only [Exit.inBlock,Exit.then,if_true]
    refine fin1 rfl rfl ?_
    try simp only [zD,zE]
    exact ⟨_,rfl,m.ext,false,rfl,fun h=>by cases h⟩
   ·
    replace haz:=haz (by omega)
    clear hc3 hn0 hn1
    refine wp_skip (k23 _ _ ?_)
    refine wp_region_lit (n_val (r_add (m:=2) (n:=1) (r:=3) rfl rfl (by decide)) (n_val (r_move) (n_nil (then_rounds (c_seq fun K27 k27=>wp_region_lit (n_val (r_lssF (m:=3) (n:=3) rfl rfl (by decide)) (n_nil (k27 _ _ ?_))))))))
    refine c_seq fun K28 k28=>c_no rfl (wp_exit (k6 _ _ ?_))
    refine wp_region_lit (n_val (r_add (m:=0) (n:=1) (r:=1) rfl rfl (by decide)) ?_)
    simp only [ev,zD,zE,zF,zG]
    refine n_val (r_move) (n_nil (then_rounds (c_seq fun K29 k29=>wp_region_lit (n_val (r_lssT (m:=1) (n:=4) rfl rfl (by decide)) (n_nil (k29 _ _ ?_))))))
    refine c_seq fun K30 k30=>c_yes rfl (wp_skip (k30 _ _ ?_))
    refine c_seq fun K31 k31=>wp_block (c_seq fun K32 k32=>wp_region_lit (n_val (r_indexAddrS Tryd.underlying129 cells_23 rfl rfl (by decide) (by decide) rfl) ?_))
    simp only [ev,zD,zE,zF,zG]
    refine n_load rfl ((hB0.ext m.ext).lies agg_23 cells_23 rfl rfl) ?_
    simp only [ev,zD,zE,zF,zG,zH,zI,zJ,zK,Nat.zero_add,Nat.reduceAdd,Nat.reduceMul,Int.reduceToNat]
    refine malloc m zero_23 rfl ?_
    clear m; intro g2 u m
    simp only [ev,zD,zE,zF,zG]
    refine mstoreA m 0 rfl rfl rfl cells_23 (leT rfl) rfl ?_
    clear m; intro u m; simp only [over,zH,zI,zJ,zK,zL,zM,zN,zO,zP,zF,zG,Nat.reduceAdd] at m
    refine n_nil (k32 _ _ ?_)
    refine c_seq fun K33 k33=>wp_region_lit (n_val (r_fieldAddr (c:=0) Tryd.underlying23 rfl cells_3 rfl rfl) ?_)
    simp only [ev,zD,zE,zF,zG]
    refine n_load rfl ((m.b 0 rfl).lies1 agg_3 rfl) ?_
    simp only [ev,zD,zE,zF,zG]
    refine n_val (r_fieldAddr (c:=0) Tryd.underlying23 rfl cells_3 rfl rfl) ?_
    simp only [ev,zD,zE,zF,zG]
    refine n_load rfl ((m.b 0 rfl).lies1 agg_3 rfl) ?_
    simp only [ev,zD,zE,zF,zG]
    refine n_val (r_fieldAddr (c:=0) Tryd.underlying23 rfl cells_3 rfl rfl) ?_
    simp only [ev,zD,zE,zF,zG]
    refine n_load rfl ((m.b 0 rfl).lies1 agg_3 rfl) ?_
    simp only [ev,zD,zE,zF,zG]
    refine n_val (r_build_97_0_1_2 rfl rfl rfl) (n_val (r_move) (n_nil (k33 _ _ ?_)))
    refine wp_block (wp_loop_rounds 4 (rounds_step (c_seq fun K34 k34=>wp_region_lit (n_val (r_lssT (m:=0) (n:=3) rfl rfl (by decide)) (n_nil (k34 _ _ ?_))))))
    refine c_seq fun K35 k35=>c_yes rfl (wp_skip (k35 _ _ ?_))
    refine c_seq fun K36 k36=>wp_block (c_seq fun K37 k37=>wp_region_lit (n_val (r_index_97_0 rfl rfl) ?_))
    simp only [ev,zD,zE,zF,zG]
    refine n_val (r_assign) (n_nil (k37 _ _ ?_))
    refine c_seq fun K38 k38=>wp_region_lit (n_val (r_move) (n_val (r_move) (n_val (r_neg rfl rfl) ?_)))
    simp only [ev,zD,zE,zF,zG]
    refine n_val (r_max rfl rfl rfl) (n_val (r_conv Tryd.underlying68 Tryd.underlying3 rfl (abs64 Iw.h)) ?_)
    simp only [ev,zD,zE,zF,zG]
    refine mcall m rfl rfl (len64_c (X:=(b.x).natAbs) _ (by have:=(Iw.h : I64 b.x).natAbs; omega)) ?_
    clear m; rintro v u m ⟨n,rfl,hn0,hn1,hbx⟩
    refine n_val (r_gtr rfl rfl) (n_nil (k38 _ _ ?_))
    simp only [ev,zD,zE,zF,zG]
    refine c_if rfl (fun hc3=>?_) (fun hc3=>?_)
    ·
     refine c_seq fun K39 k39=>wp_region_lit (n_val (r_assign) (n_nil (k39 _ _ ?_)))
     refine wp_ret ?_
     simp only [ev,zD,zE,zF,zG]
     try simp only [Exit.inBlock,Exit.then,if_true]
     refine fin1 rfl rfl ?_
     try simp only [zD,zE]
     exact ⟨_,rfl,m.ext,false,rfl,fun h=>by cases h⟩
    ·
     replace hbx:=hbx (by omega)
     clear hc3 hn0 hn1
     refine wp_skip (k36 _ _ ?_)
     refine wp_region_lit (n_val (r_add (m:=0) (n:=1) (r:=1) rfl rfl (by decide)) (n_val (r_move) (n_nil (then_rounds (c_seq fun K40 k40=>wp_region_lit (n_val (r_lssT (m:=1) (n:=3) rfl rfl (by decide)) (n_nil (k40 _ _ ?_))))))))
     refine c_seq fun K41 k41=>c_yes rfl (wp_skip (k41 _ _ ?_))
     refine c_seq fun K42 k42=>wp_block (c_seq fun K43 k43=>wp_region_lit (n_val (r_index_97_1 rfl rfl) ?_))
     simp only [ev,zD,zE,zF,zG]
     refine n_val (r_assign) (n_nil (k43 _ _ ?_))
     refine c_seq fun K44 k44=>wp_region_lit (n_val (r_move) (n_val (r_move) (n_val (r_neg rfl rfl) ?_)))
     simp only [ev,zD,zE,zF,zG]
     refine n_val (r_max rfl rfl rfl) (n_val (r_conv Tryd.underlying68 Tryd.underlying3 rfl (abs64 Iw.h)) ?_)
     simp only [ev,zD,zE,zF,zG]
     refine mcall m rfl rfl (len64_c (X:=(b.y).natAbs) _ (by have:=(Iw.h : I64 b.y).natAbs; omega)) ?_
     clear m; rintro v u m ⟨n,rfl,hn0,hn1,hby⟩
     refine n_val (r_gtr rfl rfl) (n_nil (k44 _ _ ?_))
     simp only [ev,zD,zE,zF,zG]
     refine c_if rfl (fun hc3=>?_) (fun hc3=>?_)
     ·
      refine c_seq fun K45 k45=>wp_region_lit (n_val (r_assign) (n_nil (k45 _ _ ?_)))
      refine wp_ret ?_
      simp only [ev,zD,zE,zF,zG]
      try simp only [Exit.inBlock,Exit.then,if_true]
      refine fin1 rfl rfl ?_
      try simp only [zD,zE]
      exact ⟨_,rfl,m.ext,false,rfl,fun h=>by cases h⟩
     ·
      replace hby:=hby (by omega)
      clear hc3 hn0 hn1
      refine wp_skip (k42 _ _ ?_)
      refine wp_region_lit (n_val (r_add (m:=1) (n:=1) (r:=2) rfl rfl (by decide)) (n_val (r_move) (n_nil (then_rounds (c_seq fun K46 k46=>wp_region_lit (n_val (r_lssT (m:=2) (n:=3) rfl rfl (by decide)) (n_nil (k46 _ _ ?_))))))))
      refine c_seq fun K47 k47=>c_yes rfl (wp_skip (k47 _ _ ?_))
      refine c_seq fun K48 k48=>wp_block (c_seq fun K49 k49=>wp_region_lit (n_val (r_index_97_2 rfl rfl) ?_))
      simp only [ev,zD,zE,zF,zG]
      refine n_val (r_assign) (n_nil (k49 _ _ ?_))
      refine c_seq fun K50 k50=>wp_region_lit (n_val (r_move) (n_val (r_move) (n_val (r_neg rfl rfl) ?_)))
      simp only [ev,zD,zE,zF,zG]
      refine n_val (r_max rfl rfl rfl) (n_val (r_conv Tryd.underlying68 Tryd.underlying3 rfl (abs64 Iw.h)) ?_)
      simp only [ev,zD,zE,zF,zG]
      refine mcall m rfl rfl (len64_c (X:=(b.z).natAbs) _ (by have:=(Iw.h : I64 b.z).natAbs; omega)) ?_
      clear m; rintro v u m ⟨n,rfl,hn0,hn1,hbz⟩
      refine n_val (r_gtr rfl rfl) (n_nil (k50 _ _ ?_))
      simp only [ev,zD,zE,zF,zG]
      refine c_if rfl (fun hc3=>?_) (fun hc3=>?_)
      ·
       refine c_seq fun K51 k51=>wp_region_lit (n_val (r_assign) (n_nil (k51 _ _ ?_)))
       refine wp_ret ?_
       simp only [ev,zD,zE,zF,zG]
       try simp only [Exit.inBlock,Exit.then,if_true]
       refine fin1 rfl rfl ?_
       try simp only [zD,zE]
       exact ⟨_,rfl,m.ext,false,rfl,fun h=>by cases h⟩
      ·
       replace hbz:=hbz (by omega)
       clear hc3 hn0 hn1
       refine wp_skip (k48 _ _ ?_)
       refine wp_region_lit (n_val (r_add (m:=2) (n:=1) (r:=3) rfl rfl (by decide)) (n_val (r_move) (n_nil (then_rounds (c_seq fun K52 k52=>wp_region_lit (n_val (r_lssF (m:=3) (n:=3) rfl rfl (by decide)) (n_nil (k52 _ _ ?_))))))))
       refine c_seq fun K53 k53=>c_no rfl (wp_exit (k31 _ _ ?_))
       refine wp_region_lit (n_val (r_add (m:=1) (n:=1) (r:=2) rfl rfl (by decide)) ?_)
       simp only [ev,zD,zE,zF,zG]
       refine n_val (r_move) (n_nil (then_rounds (c_seq fun K54 k54=>wp_region_lit (n_val (r_lssT (m:=2) (n:=4) rfl rfl (by decide)) (n_nil (k54 _ _ ?_))))))
       refine c_seq fun K55 k55=>c_yes rfl (wp_skip (k55 _ _ ?_))
       refine c_seq fun K56 k56=>wp_block (c_seq fun K57 k57=>wp_region_lit (n_val (r_indexAddrS Tryd.underlying129 cells_23 rfl rfl (by decide) (by decide) rfl) ?_))
       simp only [ev,zD,zE,zF,zG]
       refine n_load rfl ((hB0.ext m.ext).lies agg_23 cells_23 rfl rfl) ?_
       simp only [ev,zD,zE,zF,zG,zH,zI,zJ,zK,Nat.zero_add,Nat.reduceAdd,Nat.reduceMul,Int.reduceToNat]
       refine malloc m zero_23 rfl ?_
       clear m; intro g3 u m
       simp only [ev,zD,zE,zF,zG]
       refine mstoreA m 0 rfl rfl rfl cells_23 (leT rfl) rfl ?_
       clear m; intro u m; simp only [over,zH,zI,zJ,zK,zL,zM,zN,zO,zP,zF,zG,Nat.reduceAdd] at m
       refine n_nil (k57 _ _ ?_)
       refine c_seq fun K58 k58=>wp_region_lit (n_val (r_fieldAddr (c:=0) Tryd.underlying23 rfl cells_3 rfl rfl) ?_)
       simp only [ev,zD,zE,zF,zG]
       refine n_load rfl ((m.b 0 rfl).lies1 agg_3 rfl) ?_
       simp only [ev,zD,zE,zF,zG]
       refine n_val (r_fieldAddr (c:=0) Tryd.underlying23 rfl cells_3 rfl rfl) ?_
       simp only [ev,zD,zE,zF,zG]
       refine n_load rfl ((m.b 0 rfl).lies1 agg_3 rfl) ?_
       simp only [ev,zD,zE,zF,zG]
       refine n_val (r_fieldAddr (c:=0) Tryd.underlying23 rfl cells_3 rfl rfl) ?_
       simp only [ev,zD,zE,zF,zG]
       refine n_load rfl ((m.b 0 rfl).lies1 agg_3 rfl) ?_
       simp only [ev,zD,zE,zF,zG]
       refine n_val (r_build_97_0_1_2 rfl rfl rfl) (n_val (r_move) (n_nil (k58 _ _ ?_)))
       refine wp_block (wp_loop_rounds 4 (rounds_step (c_seq fun K59 k59=>wp_region_lit (n_val (r_lssT (m:=0) (n:=3) rfl rfl (by decide)) (n_nil (k59 _ _ ?_))))))
       refine c_seq fun K60 k60=>c_yes rfl (wp_skip (k60 _ _ ?_))
       refine c_seq fun K61 k61=>wp_block (c_seq fun K62 k62=>wp_region_lit (n_val (r_index_97_0 rfl rfl) ?_))
       simp only [ev,zD,zE,zF,zG]
       refine n_val (r_assign) (n_nil (k62 _ _ ?_))
       refine c_seq fun K63 k63=>wp_region_lit (n_val (r_move) (n_val (r_move) (n_val (r_neg rfl rfl) ?_)))
       simp only [ev,zD,zE,zF,zG]
       refine n_val (r_max rfl rfl rfl) (n_val (r_conv Tryd.underlying68 Tryd.underlying3 rfl (abs64 Iw.h)) ?_)
       simp only [ev,zD,zE,zF,zG]
       refine mcall m rfl rfl (len64_c (X:=(c.x).natAbs) _ (by have:=(Iw.h : I64 c.x).natAbs; omega)) ?_
       clear m; rintro v u m ⟨n,rfl,hn0,hn1,hcx⟩
       refine n_val (r_gtr rfl rfl) (n_nil (k63 _ _ ?_))
       simp only [ev,zD,zE,zF,zG]
       refine c_if rfl (fun hc3=>?_) (fun hc3=>?_)
       ·
        refine c_seq fun K64 k64=>wp_region_lit (n_val (r_assign) (n_nil (k64 _ _ ?_)))
        refine wp_ret ?_
        simp only [ev,zD,zE,zF,zG]
        try simp only [Exit.inBlock,Exit.then,if_true]
        refine fin1 rfl rfl ?_
        try simp only [zD,zE]
        exact ⟨_,rfl,m.ext,false,rfl,fun h=>by cases h⟩
       ·
        replace hcx:=hcx (by omega)
        clear hc3 hn0 hn1
        refine wp_skip (k61 _ _ ?_)
        refine wp_region_lit (n_val (r_add (m:=0) (n:=1) (r:=1) rfl rfl (by decide)) (n_val (r_move) (n_nil (then_rounds (c_seq fun K65 k65=>wp_region_lit (n_val (r_lssT (m:=1) (n:=3) rfl rfl (by decide)) (n_nil (k65 _ _ ?_))))))))
        refine c_seq fun K66 k66=>c_yes rfl (wp_skip (k66 _ _ ?_))
        refine c_seq fun K67 k67=>wp_block (c_seq fun K68 k68=>wp_region_lit (n_val (r_index_97_1 rfl rfl) ?_))
        simp only [ev,zD,zE,zF,zG]
        refine n_val (r_assign) (n_nil (k68 _ _ ?_))
        refine c_seq fun K69 k69=>wp_region_lit (n_val (r_move) (n_val (r_move) (n_val (r_neg rfl rfl) ?_)))
        simp only [ev,zD,zE,zF,zG]
        refine n_val (r_max rfl rfl rfl) (n_val (r_conv Tryd.underlying68 Tryd.underlying3 rfl (abs64 Iw.h)) ?_)
        simp only [ev,zD,zE,zF,zG]
        refine mcall m rfl rfl (len64_c (X:=(c.y).natAbs) _ (by have:=(Iw.h : I64 c.y).natAbs; omega)) ?_
        clear m; rintro v u m ⟨n,rfl,hn0,hn1,hcy⟩
        refine n_val (r_gtr rfl rfl) (n_nil (k69 _ _ ?_))
        simp only [ev,zD,zE,zF,zG]
        refine c_if rfl (fun hc3=>?_) (fun hc3=>?_)
        ·
         refine c_seq fun K70 k70=>wp_region_lit (n_val (r_assign) (n_nil (k70 _ _ ?_)))
         refine wp_ret ?_
         simp only [ev,zD,zE,zF,zG]
         try simp only [Exit.inBlock,Exit.then,if_true]
         refine fin1 rfl rfl ?_
         try simp only [zD,zE]
         exact ⟨_,rfl,m.ext,false,rfl,fun h=>by cases h⟩
        ·
         replace hcy:=hcy (by omega)
         clear hc3 hn0 hn1
         refine wp_skip (k67 _ _ ?_)
         refine wp_region_lit (n_val (r_add (m:=1) (n:=1) (r:=2) rfl rfl (by decide)) (n_val (r_move) (n_nil (then_rounds (c_seq fun K71 k71=>wp_region_lit (n_val (r_lssT (m:=2) (n:=3) rfl rfl (by decide)) (n_nil (k71 _ _ ?_))))))))
         refine c_seq fun K72 k72=>c_yes rfl (wp_skip (k72 _ _ ?_))
         refine c_seq fun K73 k73=>wp_block (c_seq fun K74 k74=>wp_region_lit (n_val (r_index_97_2 rfl rfl) ?_))
         simp only [ev,zD,zE,zF,zG]
         refine n_val (r_assign) (n_nil (k74 _ _ ?_))
         refine c_seq fun K75 k75=>wp_region_lit (n_val (r_move) (n_val (r_move) (n_val (r_neg rfl rfl) ?_)))
         simp only [ev,zD,zE,zF,zG]
         refine n_val (r_max rfl rfl rfl) (n_val (r_conv Tryd.underlying68 Tryd.underlying3 rfl (abs64 Iw.h)) ?_)
         simp only [ev,zD,zE,zF,zG]
         refine mcall m rfl rfl (len64_c (X:=(c.z).natAbs) _ (by have:=(Iw.h : I64 c.z).natAbs; omega)) ?_
         clear m; rintro v u m ⟨n,rfl,hn0,hn1,hcz⟩
         refine n_val (r_gtr rfl rfl) (n_nil (k75 _ _ ?_))
         simp only [ev,zD,zE,zF,zG]
         refine c_if rfl (fun hc3=>?_) (fun hc3=>?_)
         ·
          refine c_seq fun K76 k76=>wp_region_lit (n_val (r_assign) (n_nil (k76 _ _ ?_)))
          refine wp_ret ?_
          simp only [ev,zD,zE,zF,zG]
          try simp only [Exit.inBlock,Exit.then,if_true]
          refine fin1 rfl rfl ?_
          try simp only [zD,zE]
          exact ⟨_,rfl,m.ext,false,rfl,fun h=>by cases h⟩
         ·
          replace hcz:=hcz (by omega)
          clear hc3 hn0 hn1
          refine wp_skip (k73 _ _ ?_)
          refine wp_region_lit (n_val (r_add (m:=2) (n:=1) (r:=3) rfl rfl (by decide)) (n_val (r_move) (n_nil (then_rounds (c_seq fun K77 k77=>wp_region_lit (n_val (r_lssF (m:=3) (n:=3) rfl rfl (by decide)) (n_nil (k77 _ _ ?_))))))))
          refine c_seq fun K78 k78=>c_no rfl (wp_exit (k56 _ _ ?_))
          refine wp_region_lit (n_val (r_add (m:=2) (n:=1) (r:=3) rfl rfl (by decide)) ?_)
          simp only [ev,zD,zE,zF,zG]
          refine n_val (r_move) (n_nil (then_rounds (c_seq fun K79 k79=>wp_region_lit (n_val (r_lssT (m:=3) (n:=4) rfl rfl (by decide)) (n_nil (k79 _ _ ?_))))))
          refine c_seq fun K80 k80=>c_yes rfl (wp_skip (k80 _ _ ?_))
          refine c_seq fun K81 k81=>wp_block (c_seq fun K82 k82=>wp_region_lit (n_val (r_indexAddrS Tryd.underlying129 cells_23 rfl rfl (by decide) (by decide) rfl) ?_))
          simp only [ev,zD,zE,zF,zG]
          refine n_load rfl ((hB0.ext m.ext).lies agg_23 cells_23 rfl rfl) ?_
          simp only [ev,zD,zE,zF,zG,zH,zI,zJ,zK,Nat.zero_add,Nat.reduceAdd,Nat.reduceMul,Int.reduceToNat]
          refine malloc m zero_23 rfl ?_
          clear m; intro g4 u m
          simp only [ev,zD,zE,zF,zG]
          refine mstoreA m 0 rfl rfl rfl cells_23 (leT rfl) rfl ?_
          clear m; intro u m; simp only [over,zH,zI,zJ,zK,zL,zM,zN,zO,zP,zF,zG,Nat.reduceAdd] at m
          refine n_nil (k82 _ _ ?_)
          refine c_seq fun K83 k83=>wp_region_lit (n_val (r_fieldAddr (c:=0) Tryd.underlying23 rfl cells_3 rfl rfl) ?_)
          simp only [ev,zD,zE,zF,zG]
          refine n_load rfl ((m.b 0 rfl).lies1 agg_3 rfl) ?_
          simp only [ev,zD,zE,zF,zG]
          refine n_val (r_fieldAddr (c:=0) Tryd.underlying23 rfl cells_3 rfl rfl) ?_
          simp only [ev,zD,zE,zF,zG]
          refine n_load rfl ((m.b 0 rfl).lies1 agg_3 rfl) ?_
          simp only [ev,zD,zE,zF,zG]
          refine n_val (r_fieldAddr (c:=0) Tryd.underlying23 rfl cells_3 rfl rfl) ?_
          simp only [ev,zD,zE,zF,zG]
          refine n_load rfl ((m.b 0 rfl).lies1 agg_3 rfl) ?_
          simp only [ev,zD,zE,zF,zG]
          refine n_val (r_build_97_0_1_2 rfl rfl rfl) (n_val (r_move) (n_nil (k83 _ _ ?_)))
          refine wp_block (wp_loop_rounds 4 (rounds_step (c_seq fun K84 k84=>wp_region_lit (n_val (r_lssT (m:=0) (n:=3) rfl rfl (by decide)) (n_nil (k84 _ _ ?_))))))
          refine c_seq fun K85 k85=>c_yes rfl (wp_skip (k85 _ _ ?_))
          refine c_seq fun K86 k86=>wp_block (c_seq fun K87 k87=>wp_region_lit (n_val (r_index_97_0 rfl rfl) ?_))
          simp only [ev,zD,zE,zF,zG]
          refine n_val (r_assign) (n_nil (k87 _ _ ?_))
          refine c_seq fun K88 k88=>wp_region_lit (n_val (r_move) (n_val (r_move) (n_val (r_neg rfl rfl) ?_)))
          simp only [ev,zD,zE,zF,zG]
          refine n_val (r_max rfl rfl rfl) (n_val (r_conv Tryd.underlying68 Tryd.underlying3 rfl (abs64 Iw.h)) ?_)
          simp only [ev,zD,zE,zF,zG]
          refine mcall m rfl rfl (len64_c (X:=(d.x).natAbs) _ (by have:=(Iw.h : I64 d.x).natAbs; omega)) ?_
          clear m; rintro v u m ⟨n,rfl,hn0,hn1,hdx⟩
          refine n_val (r_gtr rfl rfl) (n_nil (k88 _ _ ?_))
          simp only [ev,zD,zE,zF,zG]
          refine c_if rfl (fun hc3=>?_) (fun hc3=>?_)
          ·
           refine c_seq fun K89 k89=>wp_region_lit (n_val (r_assign) (n_nil (k89 _ _ ?_)))
           refine wp_ret ?_
           simp only [ev,zD,zE,zF,zG]
           try simp only [Exit.inBlock,Exit.then,if_true]
           refine fin1 rfl rfl ?_
           try simp only [zD,zE]
           exact ⟨_,rfl,m.ext,false,rfl,fun h=>by cases h⟩
          ·
           replace hdx:=hdx (by omega)
           clear hc3 hn0 hn1
           refine wp_skip (k86 _ _ ?_)
           refine wp_region_lit (n_val (r_add (m:=0) (n:=1) (r:=1) rfl rfl (by decide)) (n_val (r_move) (n_nil (then_rounds (c_seq fun K90 k90=>wp_region_lit (n_val (r_lssT (m:=1) (n:=3) rfl rfl (by decide)) (n_nil (k90 _ _ ?_))))))))
           refine c_seq fun K91 k91=>c_yes rfl (wp_skip (k91 _ _ ?_))
           refine c_seq fun K92 k92=>wp_block (c_seq fun K93 k93=>wp_region_lit (n_val (r_index_97_1 rfl rfl) ?_))
           simp only [ev,zD,zE,zF,zG]
           refine n_val (r_assign) (n_nil (k93 _ _ ?_))
           refine c_seq fun K94 k94=>wp_region_lit (n_val (r_move) (n_val (r_move) (n_val (r_neg rfl rfl) ?_)))
           simp only [ev,zD,zE,zF,zG]
           refine n_val (r_max rfl rfl rfl) (n_val (r_conv Tryd.underlying68 Tryd.underlying3 rfl (abs64 Iw.h)) ?_)
           simp only [ev,zD,zE,zF,zG]
           refine mcall m rfl rfl (len64_c (X:=(d.y).natAbs) _ (by have:=(Iw.h : I64 d.y).natAbs; omega)) ?_
           clear m; rintro v u m ⟨n,rfl,hn0,hn1,hdy⟩
           refine n_val (r_gtr rfl rfl) (n_nil (k94 _ _ ?_))
           simp only [ev,zD,zE,zF,zG]
           refine c_if rfl (fun hc3=>?_) (fun hc3=>?_)
           ·
            refine c_seq fun K95 k95=>wp_region_lit (n_val (r_assign) (n_nil (k95 _ _ ?_)))
            refine wp_ret ?_
            simp only [ev,zD,zE,zF,zG]
            try simp only [Exit.inBlock,Exit.then,if_true]
            refine fin1 rfl rfl ?_
            try simp only [zD,zE]
            exact ⟨_,rfl,m.ext,false,rfl,fun h=>by cases h⟩
           ·
            replace hdy:=hdy (by omega)
            clear hc3 hn0 hn1
            refine wp_skip (k92 _ _ ?_)
            refine wp_region_lit (n_val (r_add (m:=1) (n:=1) (r:=2) rfl rfl (by decide)) (n_val (r_move) (n_nil (then_rounds (c_seq fun K96 k96=>wp_region_lit (n_val (r_lssT (m:=2) (n:=3) rfl rfl (by decide)) (n_nil (k96 _ _ ?_))))))))
            refine c_seq fun K97 k97=>c_yes rfl (wp_skip (k97 _ _ ?_))
            refine c_seq fun K98 k98=>wp_block (c_seq fun K99 k99=>wp_region_lit (n_val (r_index_97_2 rfl rfl) ?_))
            simp only [ev,zD,zE,zF,zG]
            refine n_val (r_assign) (n_nil (k99 _ _ ?_))
            refine c_seq fun K100 k100=>wp_region_lit (n_val (r_move) (n_val (r_move) (n_val (r_neg rfl rfl) ?_)))
            simp only [ev,zD,zE,zF,zG]
            refine n_val (r_max rfl rfl rfl) (n_val (r_conv Tryd.underlying68 Tryd.underlying3 rfl (abs64 Iw.h)) ?_)
            simp only [ev,zD,zE,zF,zG]
            refine mcall m rfl rfl (len64_c (X:=(d.z).natAbs) _ (by have:=(Iw.h : I64 d.z).natAbs; omega)) ?_
            clear m; rintro v u m ⟨n,rfl,hn0,hn1,hdz⟩
            refine n_val (r_gtr rfl rfl) (n_nil (k100 _ _ ?_))
            simp only [ev,zD,zE,zF,zG]
            refine c_if rfl (fun hc3=>?_) (fun hc3=>?_)
            ·
             refine c_seq fun K101 k101=>wp_region_lit (n_val (r_assign) (n_nil (k101 _ _ ?_)))
             refine wp_ret ?_
             simp only [ev,zD,zE,zF,zG]
             try simp only [Exit.inBlock,Exit.then,if_true]
             refine fin1 rfl rfl ?_
             try simp only [zD,zE]
             exact ⟨_,rfl,m.ext,false,rfl,fun h=>by cases h⟩
            ·
             replace hdz:=hdz (by omega)
             clear hc3 hn0 hn1
             refine wp_skip (k98 _ _ ?_)
             refine wp_region_lit (n_val (r_add (m:=2) (n:=1) (r:=3) rfl rfl (by decide)) (n_val (r_move) (n_nil (then_rounds (c_seq fun K102 k102=>wp_region_lit (n_val (r_lssF (m:=3) (n:=3) rfl rfl (by decide)) (n_nil (k102 _ _ ?_))))))))
             refine c_seq fun K103 k103=>c_no rfl (wp_exit (k81 _ _ ?_))
             refine wp_region_lit (n_val (r_add (m:=3) (n:=1) (r:=4) rfl rfl (by decide)) ?_)
             simp only [ev,zD,zE,zF,zG]
             refine n_val (r_move) (n_nil (then_rounds (c_seq fun K104 k104=>wp_region_lit (n_val (r_lssF (m:=4) (n:=4) rfl rfl (by decide)) (n_nil (k104 _ _ ?_))))))
             refine c_seq fun K105 k105=>c_no rfl (wp_exit (k2 _ _ ?_))
             refine c_seq fun K106 k106=>wp_region_lit (n_val (r_assign) (n_nil (k106 _ _ ?_)))
             refine wp_ret ?_
             simp only [ev,zD,zE,zF,zG]
             try simp only [Exit.inBlock,Exit.then,if_true]
             refine fin1 rfl rfl ?_
             try simp only [zD,zE]
             exact ⟨_,rfl,m.ext,true,rfl,fun _=>⟨⟨hax,hay,haz⟩,⟨hbx,hby,hbz⟩,⟨hcx,hcy,hcz⟩,⟨hdx,hdy,hdz⟩⟩⟩
theorem signs_c {a b c d : P3} [I3 a] [I3 b] [I3 c] [I3 d] : Pure Tryd.prog 55 [pt a,pt b,pt c,pt d] (sg ((b.sub a).cross (d.sub c))):=by
 intro w
 refine ⟨en_55,?_⟩
 have m:=Mem.refl w
 go_enter Tryd.func55,Tryd.ntmps55
 refine c_seq fun K1 k1=>wp_region_lit (mboxA m rfl ?_)
 clear m; intro g1 u m
 simp only [ev,zD,zE,zF,zG]
 refine mboxA m rfl ?_
 clear m; intro g2 u m
 simp only [ev,zD,zE,zF,zG]
 refine mboxA m rfl ?_
 clear m; intro g3 u m
 simp only [ev,zD,zE,zF,zG]
 refine mboxA m rfl ?_
 clear m; intro g4 u m
 simp only [ev,zD,zE,zF,zG]
 refine malloc m zero_97 rfl ?_
 clear m; intro g5 u m
 refine n_nil (k1 _ _ ?_)
 refine c_seq fun K2 k2=>wp_region_lit ?_
 simp only [ev,zD,zE,zF,zG]
 refine malloc m zero_97 rfl ?_
 clear m; intro g6 u m
 refine n_nil (k2 _ _ ?_)
 refine c_seq fun K3 k3=>c_seq fun K4 k4=>wp_region_lit ?_
 simp only [ev,zD,zE,zF,zG]
 refine n_load rfl ((m.b 5 rfl).full agg_23 cells_23) ?_
 simp only [ev,zD,zE,zF,zG]
 refine n_load rfl ((m.b 4 rfl).full agg_23 cells_23) ?_
 simp only [ev,zD,zE,zF,zG]
 refine n_load rfl ((m.b 3 rfl).full agg_23 cells_23) ?_
 simp only [ev,zD,zE,zF,zG]
 refine n_load rfl ((m.b 2 rfl).full agg_23 cells_23) ?_
 simp only [ev,zD,zE,zF,zG]
 refine n_bs_129_4 rfl rfl rfl rfl ?_
 intro u g7 e hg hB; replace m:=m.newB e hg hB; clear e hg hB
 simp only [ev,zD,zE,zF,zG]
 refine mcall m rfl rfl (exSmall_c _ (m.b 0 rfl)) ?_
 clear m; rintro v u m ⟨bo,rfl,hsm⟩
 refine n_nil (k4 _ _ ?_)
 simp only [ev,zD,zE,zF,zG]
 refine c_cond rfl (fun hc1=>?_) (fun hc1=>?_)
 ·
  obtain ⟨_,_,_,_⟩:=hsm hc1
  refine c_seq fun K5 k5=>c_seq fun K6 k6=>mq m follows_mixed (by kernel_rfl) (ql rfl (fun u m=>((m.b 6 rfl).full agg_23 cells_23)) ?_)
  simp only [ev,zD,zE,zF,zG]
  refine ql rfl (fun u m=>((m.b 5 rfl).full agg_23 cells_23)) ?_
  simp only [ev,zD,zE,zF,zG]
  refine qcP rfl rfl (nearVector_c) ?_
  simp only [ev,zD,zE,zF,zG]
  refine ql rfl (fun u m=>((m.b 4 rfl).full agg_23 cells_23)) ?_
  simp only [ev,zD,zE,zF,zG]
  refine ql rfl (fun u m=>((m.b 3 rfl).full agg_23 cells_23)) ?_
  simp only [ev,zD,zE,zF,zG]
  refine qcP rfl rfl (nearVector_c) ?_
  simp only [ev,zD,zE,zF,zG]
  refine qcP rfl rfl (nearProduct_c inferInstance inferInstance) (q_val (r_move) (q_nil ?_))
  clear m; intro u m
  refine k6 _ _ ?_
  refine wp_block (wp_loop_rounds 4 (rounds_step (c_seq fun K7 k7=>wp_region_lit (n_val (r_lssT (m:=0) (n:=3) rfl rfl (by decide)) (n_nil (k7 _ _ ?_))))))
  refine c_seq fun K8 k8=>c_yes rfl (wp_skip (k8 _ _ ?_))
  refine c_seq fun K9 k9=>wp_block (c_seq fun K10 k10=>wp_region_lit (n_val (r_move) ?_))
  simp only [ev,zD,zE,zF,zG]
  refine n_val (r_index_116_0 rfl rfl) (n_val (r_assign) (n_val (r_assign) (n_nil (k10 _ _ ?_))))
  refine wp_region_lit (n_val (r_move) ?_)
  simp only [ev,zD,zE,zF,zG]
  refine n_val (r_move) ?_
  simp only [ev,zD,zE,zF,zG]
  refine mcallP m rfl rfl (sign_c) ?_
  clear m; intro u m
  refine n_val (r_indexAddrA Tryd.underlying97 cells_3 rfl rfl (by decide) (by decide) rfl) ?_
  simp only [ev,zD,zE,zF,zG]
  refine mstore1 m 1 rfl rfl rfl cells_3 (leT rfl) ⟨rfl,rfl⟩ ?_
  clear m; intro u m; simp only [over,zH,zI,zJ,zK,zL,zM,zN,zO,zP,zF,zG,Nat.reduceAdd] at m
  refine n_nil (k9 _ _ ?_)
  refine wp_region_lit (n_val (r_add (m:=0) (n:=1) (r:=1) rfl rfl (by decide)) (n_val (r_move) (n_nil (then_rounds (c_seq fun K11 k11=>wp_region_lit (n_val (r_lssT (m:=1) (n:=3) rfl rfl (by decide)) (n_nil (k11 _ _ ?_))))))))
  refine c_seq fun K12 k12=>c_yes rfl (wp_skip (k12 _ _ ?_))
  refine c_seq fun K13 k13=>wp_block (c_seq fun K14 k14=>wp_region_lit (n_val (r_move) ?_))
  simp only [ev,zD,zE,zF,zG]
  refine n_val (r_index_116_1 rfl rfl) (n_val (r_assign) (n_val (r_assign) (n_nil (k14 _ _ ?_))))
  refine wp_region_lit (n_val (r_move) ?_)
  simp only [ev,zD,zE,zF,zG]
  refine n_val (r_move) ?_
  simp only [ev,zD,zE,zF,zG]
  refine mcallP m rfl rfl (sign_c) ?_
  clear m; intro u m
  refine n_val (r_indexAddrA Tryd.underlying97 cells_3 rfl rfl (by decide) (by decide) rfl) ?_
  simp only [ev,zD,zE,zF,zG]
  refine mstore1 m 1 rfl rfl rfl cells_3 (leT rfl) ⟨rfl,rfl⟩ ?_
  clear m; intro u m; simp only [over,zH,zI,zJ,zK,zL,zM,zN,zO,zP,zF,zG,Nat.reduceAdd] at m
  refine n_nil (k13 _ _ ?_)
  refine wp_region_lit (n_val (r_add (m:=1) (n:=1) (r:=2) rfl rfl (by decide)) (n_val (r_move) (n_nil (then_rounds (c_seq fun K15 k15=>wp_region_lit (n_val (r_lssT (m:=2) (n:=3) rfl rfl (by decide)) (n_nil (k15 _ _ ?_))))))))
  refine c_seq fun K16 k16=>c_yes rfl (wp_skip (k16 _ _ ?_))
  refine c_seq fun K17 k17=>wp_block (c_seq fun K18 k18=>wp_region_lit (n_val (r_move) ?_))
  simp only [ev,zD,zE,zF,zG]
  refine n_val (r_index_116_2 rfl rfl) (n_val (r_assign) (n_val (r_assign) (n_nil (k18 _ _ ?_))))
  refine wp_region_lit (n_val (r_move) ?_)
  simp only [ev,zD,zE,zF,zG]
  refine n_val (r_move) ?_
  simp only [ev,zD,zE,zF,zG]
  refine mcallP m rfl rfl (sign_c) ?_
  clear m; intro u m
  refine n_val (r_indexAddrA Tryd.underlying97 cells_3 rfl rfl (by decide) (by decide) rfl) ?_
  simp only [ev,zD,zE,zF,zG]
  refine mstore1 m 1 rfl rfl rfl cells_3 (leT rfl) ⟨rfl,rfl⟩ ?_
  clear m; intro u m; simp only [over,zH,zI,zJ,zK,zL,zM,zN,zO,zP,zF,zG,Nat.reduceAdd] at m
  refine n_nil (k17 _ _ ?_)
  refine wp_region_lit (n_val (r_add (m:=2) (n:=1) (r:=3) rfl rfl (by decide)) (n_val (r_move) (n_nil (then_rounds (c_seq fun K19 k19=>wp_region_lit (n_val (r_lssF (m:=3) (n:=3) rfl rfl (by decide)) (n_nil (k19 _ _ ?_))))))))
  refine c_seq fun K20 k20=>c_no rfl (wp_exit (k5 _ _ ?_))
  refine c_seq fun K21 k21=>wp_region_lit ?_
  simp only [ev,zD,zE,zF,zG]
  refine n_load rfl ((m.b 1 rfl).full agg_97 cells_97) ?_
  simp only [ev,zD,zE,zF,zG]
  refine mstoreA m 2 rfl rfl rfl cells_97 (leT rfl) rfl ?_
  clear m; intro u m; simp only [over,zH,zI,zJ,zK,zL,zM,zN,zO,zP,zF,zG,Nat.reduceAdd] at m
  refine n_nil (k21 _ _ ?_)
  refine wp_ret ?_
  try simp only [Exit.inBlock,Exit.then,if_true]
  refine fin1 rfl ⟨_,rfl,((m.b 2 rfl).full agg_97 cells_97)⟩ ?_
  try simp only [zD,zE]
  exact ⟨_,rfl,m.ext,rfl⟩
 ·
  refine wp_skip (k3 _ _ ?_)
  refine c_seq fun K22 k22=>c_seq fun K23 k23=>mq m follows_mixed (by kernel_rfl) (ql rfl (fun u m=>((m.b 6 rfl).full agg_23 cells_23)) ?_)
  simp only [ev,zD,zE,zF,zG]
  refine ql rfl (fun u m=>((m.b 5 rfl).full agg_23 cells_23)) ?_
  simp only [ev,zD,zE,zF,zG]
  refine qcP rfl rfl (farVector_c) ?_
  simp only [ev,zD,zE,zF,zG]
  refine ql rfl (fun u m=>((m.b 4 rfl).full agg_23 cells_23)) ?_
  simp only [ev,zD,zE,zF,zG]
  refine ql rfl (fun u m=>((m.b 3 rfl).full agg_23 cells_23)) ?_
  simp only [ev,zD,zE,zF,zG]
  refine qcP rfl rfl (farVector_c) ?_
  simp only [ev,zD,zE,zF,zG]
  refine qcP rfl rfl (farProduct_c Bv.of Bv.of) (q_val (r_move) (q_nil ?_))
  clear m; intro u m
  refine k23 _ _ ?_
  refine wp_block (wp_loop_rounds 4 (rounds_step (c_seq fun K24 k24=>wp_region_lit (n_val (r_lssT (m:=0) (n:=3) rfl rfl (by decide)) (n_nil (k24 _ _ ?_))))))
  refine c_seq fun K25 k25=>c_yes rfl (wp_skip (k25 _ _ ?_))
  refine c_seq fun K26 k26=>wp_block (c_seq fun K27 k27=>wp_region_lit (n_val (r_move) ?_))
  simp only [ev,zD,zE,zF,zG]
  refine n_val (r_index_77_0 rfl rfl) ?_
  simp only [ev,zD,zE,zF,zG]
  refine malloc m zero_30 rfl ?_
  clear m; intro g8 u m
  refine n_val (r_assign) ?_
  simp only [ev,zD,zE,zF,zG]
  refine mstoreA m 0 rfl rfl rfl cells_30 (leT rfl) rfl ?_
  clear m; intro u m; simp only [over,zH,zI,zJ,zK,zL,zM,zN,zO,zP,zF,zG,Nat.reduceAdd] at m
  refine n_nil (k27 _ _ ?_)
  refine wp_region_lit (n_val (r_move) ?_)
  simp only [ev,zD,zE,zF,zG]
  refine n_load rfl ((m.b 0 rfl).full agg_30 cells_30) ?_
  simp only [ev,zD,zE,zF,zG]
  refine mcallP m rfl rfl (Sign_c Bw.up) ?_
  clear m; intro u m
  refine n_val (r_indexAddrA Tryd.underlying97 cells_3 rfl rfl (by decide) (by decide) rfl) ?_
  simp only [ev,zD,zE,zF,zG]
  refine mstore1 m 2 rfl rfl rfl cells_3 (leT rfl) ⟨rfl,rfl⟩ ?_
  clear m; intro u m; simp only [over,zH,zI,zJ,zK,zL,zM,zN,zO,zP,zF,zG,Nat.reduceAdd] at m
  refine n_nil (k26 _ _ ?_)
  refine wp_region_lit (n_val (r_add (m:=0) (n:=1) (r:=1) rfl rfl (by decide)) (n_val (r_move) (n_nil (then_rounds (c_seq fun K28 k28=>wp_region_lit (n_val (r_lssT (m:=1) (n:=3) rfl rfl (by decide)) (n_nil (k28 _ _ ?_))))))))
  refine c_seq fun K29 k29=>c_yes rfl (wp_skip (k29 _ _ ?_))
  refine c_seq fun K30 k30=>wp_block (c_seq fun K31 k31=>wp_region_lit (n_val (r_move) ?_))
  simp only [ev,zD,zE,zF,zG]
  refine n_val (r_index_77_1 rfl rfl) ?_
  simp only [ev,zD,zE,zF,zG]
  refine malloc m zero_30 rfl ?_
  clear m; intro g9 u m
  refine n_val (r_assign) ?_
  simp only [ev,zD,zE,zF,zG]
  refine mstoreA m 0 rfl rfl rfl cells_30 (leT rfl) rfl ?_
  clear m; intro u m; simp only [over,zH,zI,zJ,zK,zL,zM,zN,zO,zP,zF,zG,Nat.reduceAdd] at m
  refine n_nil (k31 _ _ ?_)
  refine wp_region_lit (n_val (r_move) ?_)
  simp only [ev,zD,zE,zF,zG]
  refine n_load rfl ((m.b 0 rfl).full agg_30 cells_30) ?_
  simp only [ev,zD,zE,zF,zG]
  refine mcallP m rfl rfl (Sign_c Bw.up) ?_
  clear m; intro u m
  refine n_val (r_indexAddrA Tryd.underlying97 cells_3 rfl rfl (by decide) (by decide) rfl) ?_
  simp only [ev,zD,zE,zF,zG]
  refine mstore1 m 3 rfl rfl rfl cells_3 (leT rfl) ⟨rfl,rfl⟩ ?_
  clear m; intro u m; simp only [over,zH,zI,zJ,zK,zL,zM,zN,zO,zP,zF,zG,Nat.reduceAdd] at m
  refine n_nil (k30 _ _ ?_)
  refine wp_region_lit (n_val (r_add (m:=1) (n:=1) (r:=2) rfl rfl (by decide)) (n_val (r_move) (n_nil (then_rounds (c_seq fun K32 k32=>wp_region_lit (n_val (r_lssT (m:=2) (n:=3) rfl rfl (by decide)) (n_nil (k32 _ _ ?_))))))))
  refine c_seq fun K33 k33=>c_yes rfl (wp_skip (k33 _ _ ?_))
  refine c_seq fun K34 k34=>wp_block (c_seq fun K35 k35=>wp_region_lit (n_val (r_move) ?_))
  simp only [ev,zD,zE,zF,zG]
  refine n_val (r_index_77_2 rfl rfl) ?_
  simp only [ev,zD,zE,zF,zG]
  refine malloc m zero_30 rfl ?_
  clear m; intro g10 u m
  refine n_val (r_assign) ?_
  simp only [ev,zD,zE,zF,zG]
  refine mstoreA m 0 rfl rfl rfl cells_30 (leT rfl) rfl ?_
  clear m; intro u m; simp only [over,zH,zI,zJ,zK,zL,zM,zN,zO,zP,zF,zG,Nat.reduceAdd] at m
  refine n_nil (k35 _ _ ?_)
  refine wp_region_lit (n_val (r_move) ?_)
  simp only [ev,zD,zE,zF,zG]
  refine n_load rfl ((m.b 0 rfl).full agg_30 cells_30) ?_
  simp only [ev,zD,zE,zF,zG]
  refine mcallP m rfl rfl (Sign_c Bw.up) ?_
  clear m; intro u m
  refine n_val (r_indexAddrA Tryd.underlying97 cells_3 rfl rfl (by decide) (by decide) rfl) ?_
  simp only [ev,zD,zE,zF,zG]
  refine mstore1 m 4 rfl rfl rfl cells_3 (leT rfl) ⟨rfl,rfl⟩ ?_
  clear m; intro u m; simp only [over,zH,zI,zJ,zK,zL,zM,zN,zO,zP,zF,zG,Nat.reduceAdd] at m
  refine n_nil (k34 _ _ ?_)
  refine wp_region_lit (n_val (r_add (m:=2) (n:=1) (r:=3) rfl rfl (by decide)) (n_val (r_move) (n_nil (then_rounds (c_seq fun K36 k36=>wp_region_lit (n_val (r_lssF (m:=3) (n:=3) rfl rfl (by decide)) (n_nil (k36 _ _ ?_))))))))
  refine c_seq fun K37 k37=>c_no rfl (wp_exit (k22 _ _ ?_))
  refine c_seq fun K38 k38=>wp_region_lit ?_
  simp only [ev,zD,zE,zF,zG]
  refine n_load rfl ((m.b 4 rfl).full agg_97 cells_97) ?_
  simp only [ev,zD,zE,zF,zG]
  refine mstoreA m 5 rfl rfl rfl cells_97 (leT rfl) rfl ?_
  clear m; intro u m; simp only [over,zH,zI,zJ,zK,zL,zM,zN,zO,zP,zF,zG,Nat.reduceAdd] at m
  refine n_nil (k38 _ _ ?_)
  refine wp_ret ?_
  try simp only [Exit.inBlock,Exit.then,if_true]
  refine fin1 rfl ⟨_,rfl,((m.b 5 rfl).full agg_97 cells_97)⟩ ?_
  try simp only [zD,zE]
  exact ⟨_,rfl,m.ext,rfl⟩
theorem Flat_c {t : T3} [IT t] : Pure Tryd.prog 31 [tr t] (.bool (decide (isign t.normal.x = 0 ∧ isign t.normal.y = 0 ∧ isign t.normal.z = 0))):=by
 intro w
 refine ⟨en_31,?_⟩
 have m:=Mem.refl w
 go_enter Tryd.func31,Tryd.ntmps31
 refine c_seq fun K1 k1=>wp_region_lit (mboxA m rfl ?_)
 clear m; intro g1 u m
 refine n_val (r_assign) (n_nil (k1 _ _ ?_))
 refine c_seq fun K2 k2=>wp_region_lit (n_val (r_indexAddrA Tryd.underlying25 cells_23 rfl rfl (by decide) (by decide) rfl) ?_)
 simp only [ev,zD,zE,zF,zG]
 refine n_load rfl ((m.b 0 rfl).lies agg_23 cells_23 rfl rfl) ?_
 simp only [ev,zD,zE,zF,zG,zH,zI,zJ,zK,Nat.zero_add,Nat.reduceAdd,Nat.reduceMul,Int.reduceToNat]
 refine n_val (r_indexAddrA Tryd.underlying25 cells_23 rfl rfl (by decide) (by decide) rfl) ?_
 simp only [ev,zD,zE,zF,zG]
 refine n_load rfl ((m.b 0 rfl).lies agg_23 cells_23 rfl rfl) ?_
 simp only [ev,zD,zE,zF,zG,zH,zI,zJ,zK,Nat.zero_add,Nat.reduceAdd,Nat.reduceMul,Int.reduceToNat]
 refine n_val (r_indexAddrA Tryd.underlying25 cells_23 rfl rfl (by decide) (by decide) rfl) ?_
 simp only [ev,zD,zE,zF,zG]
 refine n_load rfl ((m.b 0 rfl).lies agg_23 cells_23 rfl rfl) ?_
 simp only [ev,zD,zE,zF,zG,zH,zI,zJ,zK,Nat.zero_add,Nat.reduceAdd,Nat.reduceMul,Int.reduceToNat]
 refine n_val (r_indexAddrA Tryd.underlying25 cells_23 rfl rfl (by decide) (by decide) rfl) ?_
 simp only [ev,zD,zE,zF,zG]
 refine n_load rfl ((m.b 0 rfl).lies agg_23 cells_23 rfl rfl) ?_
 simp only [ev,zD,zE,zF,zG,zH,zI,zJ,zK,Nat.zero_add,Nat.reduceAdd,Nat.reduceMul,Int.reduceToNat]
 refine mcallP m rfl rfl (signs_c (a:=t.a) (b:=t.b) (c:=t.a) (d:=t.c)) ?_
 clear m; intro u m
 refine n_val (r_build_97_) (n_val (eq_eql_97 rfl rfl) (n_val (r_assign) ?_))
 simp only [ev,zD,zE,zF,zG]
 refine n_nil (k2 _ _ ?_)
 refine wp_ret ?_
 try simp only [Exit.inBlock,Exit.then,if_true]
 refine fin1 rfl rfl ?_
 try simp only [zD,zE]
 exact ⟨_,rfl,m.ext,rfl⟩
end Go.Proofs.YtmcgcnpgkkfkoaaDoor
namespace Go.Proofs.YtmcgcnpgkkfkoaaDoor
open Go.RowKit Go.Lith
set_option maxRecDepth 100000
attribute [local irreducible] wpList wpQuiet wpMix wpMixH wpTree Code.wp
instance : Iw 1:=⟨by unfold I64; decide⟩
instance : Iw 3:=⟨by unfold I64; decide⟩
instance : Iw 4:=⟨by unfold I64; decide⟩
instance : Iw 6:=⟨by unfold I64; decide⟩
theorem me_x {p : P3} : Pure Tryd.prog 50 [pt p] (.int .i64 p.x):=by
 intro w
 refine ⟨en_50,?_⟩
 have m:=Mem.refl w
 go_enter Tryd.func50,Tryd.ntmps50
 refine c_seq fun K1 k1=>wp_region_lit (mboxA m rfl ?_)
 clear m; intro g1 u m
 refine n_val (r_assign) (n_nil (k1 _ _ ?_))
 refine c_seq fun K2 k2=>wp_region_lit (n_val (r_fieldAddr (c:=0) Tryd.underlying65 rfl cells_3 rfl rfl) ?_)
 simp only [ev,zD,zE,zF,zG]
 refine n_load rfl ((m.b 0 rfl).lies1 agg_3 rfl) ?_
 simp only [ev,zD,zE,zF,zG]
 refine n_val (r_assign) (n_nil (k2 _ _ ?_))
 refine wp_ret ?_
 simp only [ev,zD,zE,zF,zG]
 try simp only [Exit.inBlock,Exit.then,if_true]
 refine fin1 rfl rfl ?_
 try simp only [zD,zE]
 exact ⟨_,rfl,m.ext,rfl⟩
theorem me_y {p : P3} : Pure Tryd.prog 51 [pt p] (.int .i64 p.y):=by
 intro w
 refine ⟨en_51,?_⟩
 have m:=Mem.refl w
 go_enter Tryd.func51,Tryd.ntmps51
 refine c_seq fun K1 k1=>wp_region_lit (mboxA m rfl ?_)
 clear m; intro g1 u m
 refine n_val (r_assign) (n_nil (k1 _ _ ?_))
 refine c_seq fun K2 k2=>wp_region_lit (n_val (r_fieldAddr (c:=0) Tryd.underlying65 rfl cells_3 rfl rfl) ?_)
 simp only [ev,zD,zE,zF,zG]
 refine n_load rfl ((m.b 0 rfl).lies1 agg_3 rfl) ?_
 simp only [ev,zD,zE,zF,zG]
 refine n_val (r_assign) (n_nil (k2 _ _ ?_))
 refine wp_ret ?_
 simp only [ev,zD,zE,zF,zG]
 try simp only [Exit.inBlock,Exit.then,if_true]
 refine fin1 rfl rfl ?_
 try simp only [zD,zE]
 exact ⟨_,rfl,m.ext,rfl⟩
theorem me_z {p : P3} : Pure Tryd.prog 52 [pt p] (.int .i64 p.z):=by
 intro w
 refine ⟨en_52,?_⟩
 have m:=Mem.refl w
 go_enter Tryd.func52,Tryd.ntmps52
 refine c_seq fun K1 k1=>wp_region_lit (mboxA m rfl ?_)
 clear m; intro g1 u m
 refine n_val (r_assign) (n_nil (k1 _ _ ?_))
 refine c_seq fun K2 k2=>wp_region_lit (n_val (r_fieldAddr (c:=0) Tryd.underlying65 rfl cells_3 rfl rfl) ?_)
 simp only [ev,zD,zE,zF,zG]
 refine n_load rfl ((m.b 0 rfl).lies1 agg_3 rfl) ?_
 simp only [ev,zD,zE,zF,zG]
 refine n_val (r_assign) (n_nil (k2 _ _ ?_))
 refine wp_ret ?_
 simp only [ev,zD,zE,zF,zG]
 try simp only [Exit.inBlock,Exit.then,if_true]
 refine fin1 rfl rfl ?_
 try simp only [zD,zE]
 exact ⟨_,rfl,m.ext,rfl⟩
theorem readers_c  : Pure Tryd.prog 27 [] (.agg #[.func (.func 50) #[] #[],.func (.func 51) #[] #[],.func (.func 52) #[] #[]]):=by
 intro w
 refine ⟨en_27,?_⟩
 have m:=Mem.refl w
 go_enter Tryd.func27,Tryd.ntmps27
 refine c_seq fun K1 k1=>wp_region_lit (malloc m zero_63 rfl ?_)
 clear m; intro g1 u m
 refine n_nil (k1 _ _ ?_)
 refine c_seq fun K2 k2=>wp_region_lit (n_val (r_build_63_0_1_2 rfl rfl rfl) ?_)
 simp only [ev,zD,zE,zF,zG]
 refine mstoreA m 0 rfl rfl rfl cells_63 (leT rfl) rfl ?_
 clear m; intro u m; simp only [over,zH,zI,zJ,zK,zL,zM,zN,zO,zP,zF,zG,Nat.reduceAdd] at m
 refine n_nil (k2 _ _ ?_)
 refine wp_ret ?_
 try simp only [Exit.inBlock,Exit.then,if_true]
 refine fin1 rfl ⟨_,rfl,((m.b 0 rfl).full agg_63 cells_63)⟩ ?_
 try simp only [zD,zE]
 exact ⟨_,rfl,m.ext,rfl⟩
theorem from_c {p q : P3} [I3 p] [I3 q] : Pure Tryd.prog 32 [pt p,pt q] (wv (q.sub p)):=by
 intro w
 refine ⟨en_32,?_⟩
 have m:=Mem.refl w
 go_enter Tryd.func32,Tryd.ntmps32
 refine c_seq fun K1 k1=>wp_region_lit (mboxA m rfl ?_)
 clear m; intro g1 u m
 simp only [ev,zD,zE,zF,zG]
 refine mboxA m rfl ?_
 clear m; intro g2 u m
 simp only [ev,zD,zE,zF,zG]
 refine malloc m zero_51 rfl ?_
 clear m; intro g3 u m
 refine n_nil (k1 _ _ ?_)
 refine c_seq fun K2 k2=>wp_region_lit ?_
 simp only [ev,zD,zE,zF,zG]
 refine malloc m zero_51 rfl ?_
 clear m; intro g4 u m
 refine n_nil (k2 _ _ ?_)
 refine c_seq fun K3 k3=>c_seq fun K4 k4=>wp_region_lit ?_
 simp only [ev,zD,zE,zF,zG]
 refine mcallP m rfl rfl (readers_c) ?_
 clear m; intro u m
 refine n_val (r_move) (n_nil (k4 _ _ ?_))
 refine wp_block (wp_loop_rounds 4 (rounds_step (c_seq fun K5 k5=>wp_region_lit (n_val (r_lssT (m:=0) (n:=3) rfl rfl (by decide)) (n_nil (k5 _ _ ?_))))))
 refine c_seq fun K6 k6=>c_yes rfl (wp_skip (k6 _ _ ?_))
 refine c_seq fun K7 k7=>wp_block (c_seq fun K8 k8=>wp_region_lit (n_val (r_move) ?_))
 simp only [ev,zD,zE,zF,zG]
 refine n_val (r_index_63_0 rfl rfl) (n_val (r_assign) (n_val (r_assign) (n_nil (k8 _ _ ?_))))
 simp only [ev,zD,zE,zF,zG]
 refine mq_tail m 11 follows_mixed (by kernel_rfl) ?_
 simp only [zH,zI,zJ,zK]
 refine q_val (r_move) (q_val (r_move) ?_)
 simp only [ev,zD,zE,zF,zG]
 refine ql rfl (fun u m=>((m.b 2 rfl).full agg_23 cells_23)) ?_
 simp only [ev,zD,zE,zF,zG]
 refine qcP rfl rfl (me_x) ?_
 simp only [ev,zD,zE,zF,zG]
 refine qcP rfl rfl (From_c Iw.h) (q_val (r_move) ?_)
 simp only [ev,zD,zE,zF,zG]
 refine ql rfl (fun u m=>((m.b 3 rfl).full agg_23 cells_23)) ?_
 simp only [ev,zD,zE,zF,zG]
 refine qcP rfl rfl (me_x) ?_
 simp only [ev,zD,zE,zF,zG]
 refine qcP rfl rfl (From_c Iw.h) ?_
 simp only [ev,zD,zE,zF,zG]
 refine qcP rfl rfl (Sub_c Bw.up Bw.up) (q_val (r_indexAddrA Tryd.underlying51 cells_30 rfl rfl (by decide) (by decide) rfl) (q_nil ?_))
 clear m; intro u m
 simp only [ev,zD,zE,zF,zG]
 refine mstoreA m 0 rfl rfl rfl cells_30 (leT rfl) rfl ?_
 clear m; intro u m; simp only [over,zH,zI,zJ,zK,zL,zM,zN,zO,zP,zF,zG,Nat.reduceAdd] at m
 refine n_nil (k7 _ _ ?_)
 refine wp_region_lit (n_val (r_add (m:=0) (n:=1) (r:=1) rfl rfl (by decide)) (n_val (r_move) (n_nil (then_rounds (c_seq fun K9 k9=>wp_region_lit (n_val (r_lssT (m:=1) (n:=3) rfl rfl (by decide)) (n_nil (k9 _ _ ?_))))))))
 refine c_seq fun K10 k10=>c_yes rfl (wp_skip (k10 _ _ ?_))
 refine c_seq fun K11 k11=>wp_block (c_seq fun K12 k12=>wp_region_lit (n_val (r_move) ?_))
 simp only [ev,zD,zE,zF,zG]
 refine n_val (r_index_63_1 rfl rfl) (n_val (r_assign) (n_val (r_assign) (n_nil (k12 _ _ ?_))))
 simp only [ev,zD,zE,zF,zG]
 refine mq_tail m 11 follows_mixed (by kernel_rfl) ?_
 simp only [zH,zI,zJ,zK]
 refine q_val (r_move) (q_val (r_move) ?_)
 simp only [ev,zD,zE,zF,zG]
 refine ql rfl (fun u m=>((m.b 2 rfl).full agg_23 cells_23)) ?_
 simp only [ev,zD,zE,zF,zG]
 refine qcP rfl rfl (me_y) ?_
 simp only [ev,zD,zE,zF,zG]
 refine qcP rfl rfl (From_c Iw.h) (q_val (r_move) ?_)
 simp only [ev,zD,zE,zF,zG]
 refine ql rfl (fun u m=>((m.b 3 rfl).full agg_23 cells_23)) ?_
 simp only [ev,zD,zE,zF,zG]
 refine qcP rfl rfl (me_y) ?_
 simp only [ev,zD,zE,zF,zG]
 refine qcP rfl rfl (From_c Iw.h) ?_
 simp only [ev,zD,zE,zF,zG]
 refine qcP rfl rfl (Sub_c Bw.up Bw.up) (q_val (r_indexAddrA Tryd.underlying51 cells_30 rfl rfl (by decide) (by decide) rfl) (q_nil ?_))
 clear m; intro u m
 simp only [ev,zD,zE,zF,zG]
 refine mstoreA m 0 rfl rfl rfl cells_30 (leT rfl) rfl ?_
 clear m; intro u m; simp only [over,zH,zI,zJ,zK,zL,zM,zN,zO,zP,zF,zG,Nat.reduceAdd] at m
 refine n_nil (k11 _ _ ?_)
 refine wp_region_lit (n_val (r_add (m:=1) (n:=1) (r:=2) rfl rfl (by decide)) (n_val (r_move) (n_nil (then_rounds (c_seq fun K13 k13=>wp_region_lit (n_val (r_lssT (m:=2) (n:=3) rfl rfl (by decide)) (n_nil (k13 _ _ ?_))))))))
 refine c_seq fun K14 k14=>c_yes rfl (wp_skip (k14 _ _ ?_))
 refine c_seq fun K15 k15=>wp_block (c_seq fun K16 k16=>wp_region_lit (n_val (r_move) ?_))
 simp only [ev,zD,zE,zF,zG]
 refine n_val (r_index_63_2 rfl rfl) (n_val (r_assign) (n_val (r_assign) (n_nil (k16 _ _ ?_))))
 simp only [ev,zD,zE,zF,zG]
 refine mq_tail m 11 follows_mixed (by kernel_rfl) ?_
 simp only [zH,zI,zJ,zK]
 refine q_val (r_move) (q_val (r_move) ?_)
 simp only [ev,zD,zE,zF,zG]
 refine ql rfl (fun u m=>((m.b 2 rfl).full agg_23 cells_23)) ?_
 simp only [ev,zD,zE,zF,zG]
 refine qcP rfl rfl (me_z) ?_
 simp only [ev,zD,zE,zF,zG]
 refine qcP rfl rfl (From_c Iw.h) (q_val (r_move) ?_)
 simp only [ev,zD,zE,zF,zG]
 refine ql rfl (fun u m=>((m.b 3 rfl).full agg_23 cells_23)) ?_
 simp only [ev,zD,zE,zF,zG]
 refine qcP rfl rfl (me_z) ?_
 simp only [ev,zD,zE,zF,zG]
 refine qcP rfl rfl (From_c Iw.h) ?_
 simp only [ev,zD,zE,zF,zG]
 refine qcP rfl rfl (Sub_c Bw.up Bw.up) (q_val (r_indexAddrA Tryd.underlying51 cells_30 rfl rfl (by decide) (by decide) rfl) (q_nil ?_))
 clear m; intro u m
 simp only [ev,zD,zE,zF,zG]
 refine mstoreA m 0 rfl rfl rfl cells_30 (leT rfl) rfl ?_
 clear m; intro u m; simp only [over,zH,zI,zJ,zK,zL,zM,zN,zO,zP,zF,zG,Nat.reduceAdd] at m
 refine n_nil (k15 _ _ ?_)
 refine wp_region_lit (n_val (r_add (m:=2) (n:=1) (r:=3) rfl rfl (by decide)) (n_val (r_move) (n_nil (then_rounds (c_seq fun K17 k17=>wp_region_lit (n_val (r_lssF (m:=3) (n:=3) rfl rfl (by decide)) (n_nil (k17 _ _ ?_))))))))
 refine c_seq fun K18 k18=>c_no rfl (wp_exit (k3 _ _ ?_))
 refine c_seq fun K19 k19=>wp_region_lit ?_
 simp only [ev,zD,zE,zF,zG]
 refine n_load rfl ((m.b 0 rfl).full agg_51 cells_51) ?_
 simp only [ev,zD,zE,zF,zG]
 refine mstoreA m 1 rfl rfl rfl cells_51 (leT rfl) rfl ?_
 clear m; intro u m; simp only [over,zH,zI,zJ,zK,zL,zM,zN,zO,zP,zF,zG,Nat.reduceAdd] at m
 refine n_nil (k19 _ _ ?_)
 refine wp_ret ?_
 try simp only [Exit.inBlock,Exit.then,if_true]
 refine fin1 rfl ⟨_,rfl,((m.b 1 rfl).full agg_51 cells_51)⟩ ?_
 try simp only [zD,zE]
 exact ⟨_,rfl,m.ext,rfl⟩
theorem mDot_c {u v : P3} (hu : Bv 400000 u) (hv : Bv 400000 v) : Pure Tryd.prog 18 [wv u,wv v] (W (u.dot v)):=by
 intro w
 refine ⟨en_18,?_⟩
 have m:=Mem.refl w
 go_enter Tryd.func18,Tryd.ntmps18
 refine c_seq fun K1 k1=>wp_region_lit (mboxA m rfl ?_)
 clear m; intro g1 u m
 simp only [ev,zD,zE,zF,zG]
 refine mboxA m rfl ?_
 clear m; intro g2 u m
 simp only [ev,zD,zE,zF,zG]
 refine malloc m zero_30 rfl ?_
 clear m; intro g3 u m
 refine n_nil (k1 _ _ ?_)
 refine c_seq fun K2 k2=>wp_region_lit ?_
 simp only [ev,zD,zE,zF,zG]
 refine malloc m zero_30 rfl ?_
 clear m; intro g4 u m
 refine n_nil (k2 _ _ ?_)
 refine c_seq fun K3 k3=>c_seq fun K4 k4=>wp_region_lit (n_val (r_move) (n_nil (k4 _ _ ?_)))
 refine wp_block (wp_loop_rounds 4 (rounds_step (c_seq fun K5 k5=>wp_region_lit (n_val (r_lssT (m:=0) (n:=3) rfl rfl (by decide)) (n_nil (k5 _ _ ?_))))))
 refine c_seq fun K6 k6=>c_yes rfl (wp_skip (k6 _ _ ?_))
 refine c_seq fun K7 k7=>wp_block (c_seq fun K8 k8=>wp_region_lit (n_val (r_move) ?_))
 simp only [ev,zD,zE,zF,zG]
 refine n_val (r_assign) (n_nil (k8 _ _ ?_))
 simp only [ev,zD,zE,zF,zG]
 refine mq_tail m 9 follows_mixed (by kernel_rfl) ?_
 simp only [zH,zI,zJ,zK]
 refine ql rfl (fun u m=>((m.b 0 rfl).full agg_30 cells_30)) ?_
 simp only [ev,zD,zE,zF,zG]
 refine q_val (r_move) (q_val (r_indexAddrA Tryd.underlying51 cells_30 rfl rfl (by decide) (by decide) rfl) ?_)
 simp only [ev,zD,zE,zF,zG]
 refine ql rfl (fun u m=>((m.b 3 rfl).lies agg_30 cells_30 rfl rfl)) ?_
 simp only [ev,zD,zE,zF,zG,zH,zI,zJ,zK,Nat.zero_add,Nat.reduceAdd,Nat.reduceMul,Int.reduceToNat]
 refine q_val (r_move) (q_val (r_indexAddrA Tryd.underlying51 cells_30 rfl rfl (by decide) (by decide) rfl) ?_)
 simp only [ev,zD,zE,zF,zG]
 refine ql rfl (fun u m=>((m.b 2 rfl).lies agg_30 cells_30 rfl rfl)) ?_
 simp only [ev,zD,zE,zF,zG,zH,zI,zJ,zK,Nat.zero_add,Nat.reduceAdd,Nat.reduceMul,Int.reduceToNat]
 refine qcP rfl rfl (Mul_c Bw.up Bw.up) ?_
 simp only [ev,zD,zE,zF,zG]
 refine qcP rfl rfl (Add0_c Bw.up) (q_nil ?_)
 clear m; intro u m
 simp only [ev,zD,zE,zF,zG]
 refine mstoreA m 0 rfl rfl rfl cells_30 (leT rfl) rfl ?_
 clear m; intro u m; simp only [over,zH,zI,zJ,zK,zL,zM,zN,zO,zP,zF,zG,Nat.reduceAdd] at m
 refine n_nil (k7 _ _ ?_)
 refine wp_region_lit (n_val (r_add (m:=0) (n:=1) (r:=1) rfl rfl (by decide)) (n_val (r_move) (n_nil (then_rounds (c_seq fun K9 k9=>wp_region_lit (n_val (r_lssT (m:=1) (n:=3) rfl rfl (by decide)) (n_nil (k9 _ _ ?_))))))))
 refine c_seq fun K10 k10=>c_yes rfl (wp_skip (k10 _ _ ?_))
 refine c_seq fun K11 k11=>wp_block (c_seq fun K12 k12=>wp_region_lit (n_val (r_move) ?_))
 simp only [ev,zD,zE,zF,zG]
 refine n_val (r_assign) (n_nil (k12 _ _ ?_))
 simp only [ev,zD,zE,zF,zG]
 refine mq_tail m 9 follows_mixed (by kernel_rfl) ?_
 simp only [zH,zI,zJ,zK]
 refine ql rfl (fun u m=>((m.b 0 rfl).full agg_30 cells_30)) ?_
 simp only [ev,zD,zE,zF,zG]
 refine q_val (r_move) (q_val (r_indexAddrA Tryd.underlying51 cells_30 rfl rfl (by decide) (by decide) rfl) ?_)
 simp only [ev,zD,zE,zF,zG]
 refine ql rfl (fun u m=>((m.b 3 rfl).lies agg_30 cells_30 rfl rfl)) ?_
 simp only [ev,zD,zE,zF,zG,zH,zI,zJ,zK,Nat.zero_add,Nat.reduceAdd,Nat.reduceMul,Int.reduceToNat]
 refine q_val (r_move) (q_val (r_indexAddrA Tryd.underlying51 cells_30 rfl rfl (by decide) (by decide) rfl) ?_)
 simp only [ev,zD,zE,zF,zG]
 refine ql rfl (fun u m=>((m.b 2 rfl).lies agg_30 cells_30 rfl rfl)) ?_
 simp only [ev,zD,zE,zF,zG,zH,zI,zJ,zK,Nat.zero_add,Nat.reduceAdd,Nat.reduceMul,Int.reduceToNat]
 refine qcP rfl rfl (Mul_c Bw.up Bw.up) ?_
 simp only [ev,zD,zE,zF,zG]
 refine qcP rfl rfl (Add_c Bw.up Bw.up) (q_nil ?_)
 clear m; intro u m
 simp only [ev,zD,zE,zF,zG]
 refine mstoreA m 0 rfl rfl rfl cells_30 (leT rfl) rfl ?_
 clear m; intro u m; simp only [over,zH,zI,zJ,zK,zL,zM,zN,zO,zP,zF,zG,Nat.reduceAdd] at m
 refine n_nil (k11 _ _ ?_)
 refine wp_region_lit (n_val (r_add (m:=1) (n:=1) (r:=2) rfl rfl (by decide)) (n_val (r_move) (n_nil (then_rounds (c_seq fun K13 k13=>wp_region_lit (n_val (r_lssT (m:=2) (n:=3) rfl rfl (by decide)) (n_nil (k13 _ _ ?_))))))))
 refine c_seq fun K14 k14=>c_yes rfl (wp_skip (k14 _ _ ?_))
 refine c_seq fun K15 k15=>wp_block (c_seq fun K16 k16=>wp_region_lit (n_val (r_move) ?_))
 simp only [ev,zD,zE,zF,zG]
 refine n_val (r_assign) (n_nil (k16 _ _ ?_))
 simp only [ev,zD,zE,zF,zG]
 refine mq_tail m 9 follows_mixed (by kernel_rfl) ?_
 simp only [zH,zI,zJ,zK]
 refine ql rfl (fun u m=>((m.b 0 rfl).full agg_30 cells_30)) ?_
 simp only [ev,zD,zE,zF,zG]
 refine q_val (r_move) (q_val (r_indexAddrA Tryd.underlying51 cells_30 rfl rfl (by decide) (by decide) rfl) ?_)
 simp only [ev,zD,zE,zF,zG]
 refine ql rfl (fun u m=>((m.b 3 rfl).lies agg_30 cells_30 rfl rfl)) ?_
 simp only [ev,zD,zE,zF,zG,zH,zI,zJ,zK,Nat.zero_add,Nat.reduceAdd,Nat.reduceMul,Int.reduceToNat]
 refine q_val (r_move) (q_val (r_indexAddrA Tryd.underlying51 cells_30 rfl rfl (by decide) (by decide) rfl) ?_)
 simp only [ev,zD,zE,zF,zG]
 refine ql rfl (fun u m=>((m.b 2 rfl).lies agg_30 cells_30 rfl rfl)) ?_
 simp only [ev,zD,zE,zF,zG,zH,zI,zJ,zK,Nat.zero_add,Nat.reduceAdd,Nat.reduceMul,Int.reduceToNat]
 refine qcP rfl rfl (Mul_c Bw.up Bw.up) ?_
 simp only [ev,zD,zE,zF,zG]
 refine qcP rfl rfl (Add_c Bw.up Bw.up) (q_nil ?_)
 clear m; intro u m
 simp only [ev,zD,zE,zF,zG]
 refine mstoreA m 0 rfl rfl rfl cells_30 (leT rfl) rfl ?_
 clear m; intro u m; simp only [over,zH,zI,zJ,zK,zL,zM,zN,zO,zP,zF,zG,Nat.reduceAdd] at m
 refine n_nil (k15 _ _ ?_)
 refine wp_region_lit (n_val (r_add (m:=2) (n:=1) (r:=3) rfl rfl (by decide)) (n_val (r_move) (n_nil (then_rounds (c_seq fun K17 k17=>wp_region_lit (n_val (r_lssF (m:=3) (n:=3) rfl rfl (by decide)) (n_nil (k17 _ _ ?_))))))))
 refine c_seq fun K18 k18=>c_no rfl (wp_exit (k3 _ _ ?_))
 refine c_seq fun K19 k19=>wp_region_lit ?_
 simp only [ev,zD,zE,zF,zG]
 refine n_load rfl ((m.b 0 rfl).full agg_30 cells_30) ?_
 simp only [ev,zD,zE,zF,zG]
 refine mstoreA m 1 rfl rfl rfl cells_30 (leT rfl) rfl ?_
 clear m; intro u m; simp only [over,zH,zI,zJ,zK,zL,zM,zN,zO,zP,zF,zG,Nat.reduceAdd] at m
 refine n_nil (k19 _ _ ?_)
 refine wp_ret ?_
 try simp only [Exit.inBlock,Exit.then,if_true]
 refine fin1 rfl ⟨_,rfl,((m.b 1 rfl).full agg_30 cells_30)⟩ ?_
 try simp only [zD,zE]
 exact ⟨_,rfl,m.ext,by rw [← P3.dot0]; rfl⟩
theorem mCross_c {u v : P3} (hu : Bv 400000 u) (hv : Bv 400000 v) : Pure Tryd.prog 33 [wv u,wv v] (wv (u.cross v)):=by
 intro w
 refine ⟨en_33,?_⟩
 have m:=Mem.refl w
 go_enter Tryd.func33,Tryd.ntmps33
 refine c_seq fun K1 k1=>wp_region_lit (mboxA m rfl ?_)
 clear m; intro g1 u m
 simp only [ev,zD,zE,zF,zG]
 refine mboxA m rfl ?_
 clear m; intro g2 u m
 simp only [ev,zD,zE,zF,zG]
 refine malloc m zero_51 rfl ?_
 clear m; intro g3 u m
 refine n_nil (k1 _ _ ?_)
 refine c_seq fun K2 k2=>wp_region_lit ?_
 simp only [ev,zD,zE,zF,zG]
 refine malloc m zero_51 rfl ?_
 clear m; intro g4 u m
 refine n_nil (k2 _ _ ?_)
 refine c_seq fun K3 k3=>c_seq fun K4 k4=>wp_region_lit (n_val (r_move) (n_nil (k4 _ _ ?_)))
 refine wp_block (wp_loop_rounds 4 (rounds_step (c_seq fun K5 k5=>wp_region_lit (n_val (r_lssT (m:=0) (n:=3) rfl rfl (by decide)) (n_nil (k5 _ _ ?_))))))
 refine c_seq fun K6 k6=>c_yes rfl (wp_skip (k6 _ _ ?_))
 refine c_seq fun K7 k7=>wp_block (c_seq fun K8 k8=>wp_region_lit (n_val (r_move) ?_))
 simp only [ev,zD,zE,zF,zG]
 refine n_val (r_assign) (n_nil (k8 _ _ ?_))
 refine c_seq fun K9 k9=>wp_region_lit (n_val (r_move) (n_val (r_add (m:=0) (n:=1) (r:=1) rfl rfl (by decide)) (n_val (r_rem (m:=1) (n:=3) (r:=1) rfl rfl (by decide) (by decide)) ?_)))
 simp only [ev,zD,zE,zF,zG]
 refine n_val (r_move) (n_val (r_add (m:=0) (n:=2) (r:=2) rfl rfl (by decide)) (n_val (r_rem (m:=2) (n:=3) (r:=2) rfl rfl (by decide) (by decide)) (n_val (r_assign) ?_)))
 simp only [ev,zD,zE,zF,zG]
 refine n_val (r_assign) (n_nil (k9 _ _ ?_))
 simp only [ev,zD,zE,zF,zG]
 refine mq_tail m 17 follows_mixed (by kernel_rfl) ?_
 simp only [zH,zI,zJ,zK]
 refine q_val (r_move) (q_val (r_move) (q_val (r_indexAddrA Tryd.underlying51 cells_30 rfl rfl (by decide) (by decide) rfl) ?_))
 simp only [ev,zD,zE,zF,zG]
 refine ql rfl (fun u m=>((m.b 3 rfl).lies agg_30 cells_30 rfl rfl)) ?_
 simp only [ev,zD,zE,zF,zG,zH,zI,zJ,zK,Nat.zero_add,Nat.reduceAdd,Nat.reduceMul,Int.reduceToNat]
 refine q_val (r_move) (q_val (r_indexAddrA Tryd.underlying51 cells_30 rfl rfl (by decide) (by decide) rfl) ?_)
 simp only [ev,zD,zE,zF,zG]
 refine ql rfl (fun u m=>((m.b 2 rfl).lies agg_30 cells_30 rfl rfl)) ?_
 simp only [ev,zD,zE,zF,zG,zH,zI,zJ,zK,Nat.zero_add,Nat.reduceAdd,Nat.reduceMul,Int.reduceToNat]
 refine qcP rfl rfl (Mul_c Bw.up Bw.up) (q_val (r_move) (q_val (r_indexAddrA Tryd.underlying51 cells_30 rfl rfl (by decide) (by decide) rfl) ?_))
 simp only [ev,zD,zE,zF,zG]
 refine ql rfl (fun u m=>((m.b 3 rfl).lies agg_30 cells_30 rfl rfl)) ?_
 simp only [ev,zD,zE,zF,zG,zH,zI,zJ,zK,Nat.zero_add,Nat.reduceAdd,Nat.reduceMul,Int.reduceToNat]
 refine q_val (r_move) (q_val (r_indexAddrA Tryd.underlying51 cells_30 rfl rfl (by decide) (by decide) rfl) ?_)
 simp only [ev,zD,zE,zF,zG]
 refine ql rfl (fun u m=>((m.b 2 rfl).lies agg_30 cells_30 rfl rfl)) ?_
 simp only [ev,zD,zE,zF,zG,zH,zI,zJ,zK,Nat.zero_add,Nat.reduceAdd,Nat.reduceMul,Int.reduceToNat]
 refine qcP rfl rfl (Mul_c Bw.up Bw.up) ?_
 simp only [ev,zD,zE,zF,zG]
 refine qcP rfl rfl (Sub_c Bw.up Bw.up) (q_val (r_indexAddrA Tryd.underlying51 cells_30 rfl rfl (by decide) (by decide) rfl) (q_nil ?_))
 clear m; intro u m
 simp only [ev,zD,zE,zF,zG]
 refine mstoreA m 0 rfl rfl rfl cells_30 (leT rfl) rfl ?_
 clear m; intro u m; simp only [over,zH,zI,zJ,zK,zL,zM,zN,zO,zP,zF,zG,Nat.reduceAdd] at m
 refine n_nil (k7 _ _ ?_)
 refine wp_region_lit (n_val (r_add (m:=0) (n:=1) (r:=1) rfl rfl (by decide)) (n_val (r_move) (n_nil (then_rounds (c_seq fun K10 k10=>wp_region_lit (n_val (r_lssT (m:=1) (n:=3) rfl rfl (by decide)) (n_nil (k10 _ _ ?_))))))))
 refine c_seq fun K11 k11=>c_yes rfl (wp_skip (k11 _ _ ?_))
 refine c_seq fun K12 k12=>wp_block (c_seq fun K13 k13=>wp_region_lit (n_val (r_move) ?_))
 simp only [ev,zD,zE,zF,zG]
 refine n_val (r_assign) (n_nil (k13 _ _ ?_))
 refine c_seq fun K14 k14=>wp_region_lit (n_val (r_move) (n_val (r_add (m:=1) (n:=1) (r:=2) rfl rfl (by decide)) (n_val (r_rem (m:=2) (n:=3) (r:=2) rfl rfl (by decide) (by decide)) ?_)))
 simp only [ev,zD,zE,zF,zG]
 refine n_val (r_move) (n_val (r_add (m:=1) (n:=2) (r:=3) rfl rfl (by decide)) (n_val (r_rem (m:=3) (n:=3) (r:=0) rfl rfl (by decide) (by decide)) (n_val (r_assign) ?_)))
 simp only [ev,zD,zE,zF,zG]
 refine n_val (r_assign) (n_nil (k14 _ _ ?_))
 simp only [ev,zD,zE,zF,zG]
 refine mq_tail m 17 follows_mixed (by kernel_rfl) ?_
 simp only [zH,zI,zJ,zK]
 refine q_val (r_move) (q_val (r_move) (q_val (r_indexAddrA Tryd.underlying51 cells_30 rfl rfl (by decide) (by decide) rfl) ?_))
 simp only [ev,zD,zE,zF,zG]
 refine ql rfl (fun u m=>((m.b 3 rfl).lies agg_30 cells_30 rfl rfl)) ?_
 simp only [ev,zD,zE,zF,zG,zH,zI,zJ,zK,Nat.zero_add,Nat.reduceAdd,Nat.reduceMul,Int.reduceToNat]
 refine q_val (r_move) (q_val (r_indexAddrA Tryd.underlying51 cells_30 rfl rfl (by decide) (by decide) rfl) ?_)
 simp only [ev,zD,zE,zF,zG]
 refine ql rfl (fun u m=>((m.b 2 rfl).lies agg_30 cells_30 rfl rfl)) ?_
 simp only [ev,zD,zE,zF,zG,zH,zI,zJ,zK,Nat.zero_add,Nat.reduceAdd,Nat.reduceMul,Int.reduceToNat]
 refine qcP rfl rfl (Mul_c Bw.up Bw.up) (q_val (r_move) (q_val (r_indexAddrA Tryd.underlying51 cells_30 rfl rfl (by decide) (by decide) rfl) ?_))
 simp only [ev,zD,zE,zF,zG]
 refine ql rfl (fun u m=>((m.b 3 rfl).lies agg_30 cells_30 rfl rfl)) ?_
 simp only [ev,zD,zE,zF,zG,zH,zI,zJ,zK,Nat.zero_add,Nat.reduceAdd,Nat.reduceMul,Int.reduceToNat]
 refine q_val (r_move) (q_val (r_indexAddrA Tryd.underlying51 cells_30 rfl rfl (by decide) (by decide) rfl) ?_)
 simp only [ev,zD,zE,zF,zG]
 refine ql rfl (fun u m=>((m.b 2 rfl).lies agg_30 cells_30 rfl rfl)) ?_
 simp only [ev,zD,zE,zF,zG,zH,zI,zJ,zK,Nat.zero_add,Nat.reduceAdd,Nat.reduceMul,Int.reduceToNat]
 refine qcP rfl rfl (Mul_c Bw.up Bw.up) ?_
 simp only [ev,zD,zE,zF,zG]
 refine qcP rfl rfl (Sub_c Bw.up Bw.up) (q_val (r_indexAddrA Tryd.underlying51 cells_30 rfl rfl (by decide) (by decide) rfl) (q_nil ?_))
 clear m; intro u m
 simp only [ev,zD,zE,zF,zG]
 refine mstoreA m 0 rfl rfl rfl cells_30 (leT rfl) rfl ?_
 clear m; intro u m; simp only [over,zH,zI,zJ,zK,zL,zM,zN,zO,zP,zF,zG,Nat.reduceAdd] at m
 refine n_nil (k12 _ _ ?_)
 refine wp_region_lit (n_val (r_add (m:=1) (n:=1) (r:=2) rfl rfl (by decide)) (n_val (r_move) (n_nil (then_rounds (c_seq fun K15 k15=>wp_region_lit (n_val (r_lssT (m:=2) (n:=3) rfl rfl (by decide)) (n_nil (k15 _ _ ?_))))))))
 refine c_seq fun K16 k16=>c_yes rfl (wp_skip (k16 _ _ ?_))
 refine c_seq fun K17 k17=>wp_block (c_seq fun K18 k18=>wp_region_lit (n_val (r_move) ?_))
 simp only [ev,zD,zE,zF,zG]
 refine n_val (r_assign) (n_nil (k18 _ _ ?_))
 refine c_seq fun K19 k19=>wp_region_lit (n_val (r_move) (n_val (r_add (m:=2) (n:=1) (r:=3) rfl rfl (by decide)) (n_val (r_rem (m:=3) (n:=3) (r:=0) rfl rfl (by decide) (by decide)) ?_)))
 simp only [ev,zD,zE,zF,zG]
 refine n_val (r_move) (n_val (r_add (m:=2) (n:=2) (r:=4) rfl rfl (by decide)) (n_val (r_rem (m:=4) (n:=3) (r:=1) rfl rfl (by decide) (by decide)) (n_val (r_assign) ?_)))
 simp only [ev,zD,zE,zF,zG]
 refine n_val (r_assign) (n_nil (k19 _ _ ?_))
 simp only [ev,zD,zE,zF,zG]
 refine mq_tail m 17 follows_mixed (by kernel_rfl) ?_
 simp only [zH,zI,zJ,zK]
 refine q_val (r_move) (q_val (r_move) (q_val (r_indexAddrA Tryd.underlying51 cells_30 rfl rfl (by decide) (by decide) rfl) ?_))
 simp only [ev,zD,zE,zF,zG]
 refine ql rfl (fun u m=>((m.b 3 rfl).lies agg_30 cells_30 rfl rfl)) ?_
 simp only [ev,zD,zE,zF,zG,zH,zI,zJ,zK,Nat.zero_add,Nat.reduceAdd,Nat.reduceMul,Int.reduceToNat]
 refine q_val (r_move) (q_val (r_indexAddrA Tryd.underlying51 cells_30 rfl rfl (by decide) (by decide) rfl) ?_)
 simp only [ev,zD,zE,zF,zG]
 refine ql rfl (fun u m=>((m.b 2 rfl).lies agg_30 cells_30 rfl rfl)) ?_
 simp only [ev,zD,zE,zF,zG,zH,zI,zJ,zK,Nat.zero_add,Nat.reduceAdd,Nat.reduceMul,Int.reduceToNat]
 refine qcP rfl rfl (Mul_c Bw.up Bw.up) (q_val (r_move) (q_val (r_indexAddrA Tryd.underlying51 cells_30 rfl rfl (by decide) (by decide) rfl) ?_))
 simp only [ev,zD,zE,zF,zG]
 refine ql rfl (fun u m=>((m.b 3 rfl).lies agg_30 cells_30 rfl rfl)) ?_
 simp only [ev,zD,zE,zF,zG,zH,zI,zJ,zK,Nat.zero_add,Nat.reduceAdd,Nat.reduceMul,Int.reduceToNat]
 refine q_val (r_move) (q_val (r_indexAddrA Tryd.underlying51 cells_30 rfl rfl (by decide) (by decide) rfl) ?_)
 simp only [ev,zD,zE,zF,zG]
 refine ql rfl (fun u m=>((m.b 2 rfl).lies agg_30 cells_30 rfl rfl)) ?_
 simp only [ev,zD,zE,zF,zG,zH,zI,zJ,zK,Nat.zero_add,Nat.reduceAdd,Nat.reduceMul,Int.reduceToNat]
 refine qcP rfl rfl (Mul_c Bw.up Bw.up) ?_
 simp only [ev,zD,zE,zF,zG]
 refine qcP rfl rfl (Sub_c Bw.up Bw.up) (q_val (r_indexAddrA Tryd.underlying51 cells_30 rfl rfl (by decide) (by decide) rfl) (q_nil ?_))
 clear m; intro u m
 simp only [ev,zD,zE,zF,zG]
 refine mstoreA m 0 rfl rfl rfl cells_30 (leT rfl) rfl ?_
 clear m; intro u m; simp only [over,zH,zI,zJ,zK,zL,zM,zN,zO,zP,zF,zG,Nat.reduceAdd] at m
 refine n_nil (k17 _ _ ?_)
 refine wp_region_lit (n_val (r_add (m:=2) (n:=1) (r:=3) rfl rfl (by decide)) (n_val (r_move) (n_nil (then_rounds (c_seq fun K20 k20=>wp_region_lit (n_val (r_lssF (m:=3) (n:=3) rfl rfl (by decide)) (n_nil (k20 _ _ ?_))))))))
 refine c_seq fun K21 k21=>c_no rfl (wp_exit (k3 _ _ ?_))
 refine c_seq fun K22 k22=>wp_region_lit ?_
 simp only [ev,zD,zE,zF,zG]
 refine n_load rfl ((m.b 0 rfl).full agg_51 cells_51) ?_
 simp only [ev,zD,zE,zF,zG]
 refine mstoreA m 1 rfl rfl rfl cells_51 (leT rfl) rfl ?_
 clear m; intro u m; simp only [over,zH,zI,zJ,zK,zL,zM,zN,zO,zP,zF,zG,Nat.reduceAdd] at m
 refine n_nil (k22 _ _ ?_)
 refine wp_ret ?_
 try simp only [Exit.inBlock,Exit.then,if_true]
 refine fin1 rfl ⟨_,rfl,((m.b 1 rfl).full agg_51 cells_51)⟩ ?_
 try simp only [zD,zE]
 exact ⟨_,rfl,m.ext,rfl⟩
theorem mFrac_c {n d : Int} (hn : Bd 400000 n) (hd : Bd 400000 d) (h0 : d ≠ 0) : Pure Tryd.prog 24 [W n,W d] (Q (Rat.divInt n d)):=by
 intro w
 refine ⟨en_24,?_⟩
 have m:=Mem.refl w
 go_enter Tryd.func24,Tryd.ntmps24
 refine c_seq fun K1 k1=>wp_region_lit (mboxA m rfl ?_)
 clear m; intro g1 u m
 simp only [ev,zD,zE,zF,zG]
 refine mboxA m rfl ?_
 clear m; intro g2 u m
 simp only [ev,zD,zE,zF,zG]
 refine malloc m zero_32 rfl ?_
 clear m; intro g3 u m
 refine n_nil (k1 _ _ ?_)
 refine c_seq fun K2 k2=>wp_region_lit ?_
 simp only [ev,zD,zE,zF,zG]
 refine n_load rfl ((m.b 2 rfl).full agg_30 cells_30) ?_
 simp only [ev,zD,zE,zF,zG]
 refine n_load rfl ((m.b 1 rfl).full agg_30 cells_30) ?_
 simp only [ev,zD,zE,zF,zG]
 refine mcallP m rfl rfl (Frac_c hn hd h0) ?_
 clear m; intro u m
 refine n_val (r_move) (n_val (r_extract rfl rfl) (n_val (r_extract rfl rfl) ?_))
 simp only [ev,zD,zE,zF,zG]
 refine malloc m zero_32 rfl ?_
 clear m; intro g4 u m
 simp only [ev,zD,zE,zF,zG]
 refine mstoreA m 0 rfl rfl rfl cells_32 (leT rfl) rfl ?_
 clear m; intro u m; simp only [over,zH,zI,zJ,zK,zL,zM,zN,zO,zP,zF,zG,Nat.reduceAdd] at m
 refine n_val (r_assign) (n_nil (k2 _ _ ?_))
 refine c_seq fun K3 k3=>wp_region_lit ?_
 simp only [ev,zD,zE,zF,zG]
 refine n_load rfl ((m.b 0 rfl).full agg_32 cells_32) ?_
 simp only [ev,zD,zE,zF,zG]
 refine mstoreA m 1 rfl rfl rfl cells_32 (leT rfl) rfl ?_
 clear m; intro u m; simp only [over,zH,zI,zJ,zK,zL,zM,zN,zO,zP,zF,zG,Nat.reduceAdd] at m
 refine n_nil (k3 _ _ ?_)
 refine wp_ret ?_
 try simp only [Exit.inBlock,Exit.then,if_true]
 refine fin1 rfl ⟨_,rfl,((m.b 1 rfl).full agg_32 cells_32)⟩ ?_
 try simp only [zD,zE]
 exact ⟨_,rfl,m.ext,rfl⟩
theorem whole_c {n : Int} (hn : Bd 400000 n) : Pure Tryd.prog 28 [W n] (Q (Rat.divInt n 1)):=by
 intro w
 refine ⟨en_28,?_⟩
 have m:=Mem.refl w
 go_enter Tryd.func28,Tryd.ntmps28
 refine c_seq fun K1 k1=>wp_region_lit (mboxA m rfl ?_)
 clear m; intro g1 u m
 simp only [ev,zD,zE,zF,zG]
 refine malloc m zero_32 rfl ?_
 clear m; intro g2 u m
 refine n_nil (k1 _ _ ?_)
 refine c_seq fun K2 k2=>?_
 simp only [ev,zD,zE,zF,zG]
 refine mq_tail m 3 follows_mixed (by kernel_rfl) ?_
 simp only [zH,zI,zJ,zK]
 refine ql rfl (fun u m=>((m.b 1 rfl).full agg_30 cells_30)) ?_
 simp only [ev,zD,zE,zF,zG]
 refine qcP rfl rfl (From_c Iw.h) ?_
 simp only [ev,zD,zE,zF,zG]
 refine qcP rfl rfl (mFrac_c (d:=1) hn Bw.up (by decide)) (q_nil ?_)
 clear m; intro u m
 simp only [ev,zD,zE,zF,zG]
 refine mstoreA m 0 rfl rfl rfl cells_32 (leT rfl) rfl ?_
 clear m; intro u m; simp only [over,zH,zI,zJ,zK,zL,zM,zN,zO,zP,zF,zG,Nat.reduceAdd] at m
 refine n_nil (k2 _ _ ?_)
 refine wp_ret ?_
 try simp only [Exit.inBlock,Exit.then,if_true]
 refine fin1 rfl ⟨_,rfl,((m.b 0 rfl).full agg_32 cells_32)⟩ ?_
 try simp only [zD,zE]
 exact ⟨_,rfl,m.ext,rfl⟩
theorem whole0_c : Pure Tryd.prog 28 [.agg #[.bool false,.string ⟨#[]⟩]] (Q 0):=by
 rw [← W_zero]
 exact whole_c (bd_zero _)
theorem segment_c {x p q : P3} [I3 x] [I3 p] [I3 q] : Pure Tryd.prog 36 [pt x,pt p,pt q] (Q (segq x p q)):=by
 intro w
 refine ⟨en_36,?_⟩
 have m:=Mem.refl w
 go_enter Tryd.func36,Tryd.ntmps36
 refine c_seq fun K1 k1=>wp_region_lit (mboxA m rfl ?_)
 clear m; intro g1 u m
 simp only [ev,zD,zE,zF,zG]
 refine mboxA m rfl ?_
 clear m; intro g2 u m
 simp only [ev,zD,zE,zF,zG]
 refine mboxA m rfl ?_
 clear m; intro g3 u m
 simp only [ev,zD,zE,zF,zG]
 refine malloc m zero_32 rfl ?_
 clear m; intro g4 u m
 refine n_nil (k1 _ _ ?_)
 refine c_seq fun K2 k2=>?_
 simp only [ev,zD,zE,zF,zG]
 refine wp_region_fresh 8 [0,1,2,3,4,5] [⟨6,7,51,[.bool false,.string ⟨#[]⟩,.bool false,.string ⟨#[]⟩,.bool false,.string ⟨#[]⟩]⟩,⟨7,8,51,[.bool false,.string ⟨#[]⟩,.bool false,.string ⟨#[]⟩,.bool false,.string ⟨#[]⟩]⟩] follows_mixed (by kernel_rfl) (al2 ⟨_,_,_,rfl,by kernel_rfl,_,zero_51,rfl⟩ ⟨_,_,_,rfl,by kernel_rfl,_,zero_51,rfl⟩) (ol:=?_) ?hol ?_
 case hol=>simp only [zQ,zR,zS,zT,zU,zV]; try rfl
 intro u e; replace m:=m.ext' e; clear e
 refine e_load rfl (fun u e=>(((m.ext' e).b 2 rfl).full agg_23 cells_23)) ?_
 simp only [ev,zD,zE,zF,zG]
 refine e_load rfl (fun u e=>(((m.ext' e).b 1 rfl).full agg_23 cells_23)) ?_
 simp only [ev,zD,zE,zF,zG]
 refine e_callP rfl rfl (from_c) ?_
 simp only [ev,zD,zE,zF,zG]
 refine e_load rfl (fun u e=>(((m.ext' e).b 2 rfl).full agg_23 cells_23)) ?_
 simp only [ev,zD,zE,zF,zG]
 refine e_load rfl (fun u e=>(((m.ext' e).b 3 rfl).full agg_23 cells_23)) ?_
 simp only [ev,zD,zE,zF,zG]
 refine e_callP rfl rfl (from_c) (e_nil ?_)
 simp only [ev,zD,zE,zF,zG]
 refine mf2 m (by decide) ?_
 clear m; intro g5 g6 u m
 simp only [zJ,zK,zF,zG]
 refine mstoreA m 1 rfl rfl rfl cells_51 (leT rfl) rfl ?_
 clear m; intro u m; simp only [over,zH,zI,zJ,zK,zL,zM,zN,zO,zP,zF,zG,Nat.reduceAdd] at m
 refine mstoreA m 0 rfl rfl rfl cells_51 (leT rfl) rfl ?_
 clear m; intro u m; simp only [over,zH,zI,zJ,zK,zL,zM,zN,zO,zP,zF,zG,Nat.reduceAdd] at m
 refine n_nil (k2 _ _ ?_)
 refine c_seq fun K3 k3=>?_
 refine wp_region_fresh 8 [0,1,2,3,4,5] [⟨6,9,30,[.bool false,.string ⟨#[]⟩]⟩,⟨7,10,30,[.bool false,.string ⟨#[]⟩]⟩] follows_mixed (by kernel_rfl) (al2 ⟨_,_,_,rfl,by kernel_rfl,_,zero_30,rfl⟩ ⟨_,_,_,rfl,by kernel_rfl,_,zero_30,rfl⟩) (ol:=?_) ?hol ?_
 case hol=>simp only [zQ,zR,zS,zT,zU,zV]; try rfl
 intro u e; replace m:=m.ext' e; clear e
 refine e_load rfl (fun u e=>(((m.ext' e).b 1 rfl).full agg_51 cells_51)) ?_
 simp only [ev,zD,zE,zF,zG]
 refine e_load rfl (fun u e=>(((m.ext' e).b 0 rfl).full agg_51 cells_51)) ?_
 simp only [ev,zD,zE,zF,zG]
 refine e_callP rfl rfl (mDot_c Bv.of Bv.of) ?_
 simp only [ev,zD,zE,zF,zG]
 refine e_load rfl (fun u e=>(((m.ext' e).b 1 rfl).full agg_51 cells_51)) ?_
 simp only [ev,zD,zE,zF,zG]
 refine e_load rfl (fun u e=>(((m.ext' e).b 1 rfl).full agg_51 cells_51)) ?_
 simp only [ev,zD,zE,zF,zG]
 refine e_callP rfl rfl (mDot_c Bv.of Bv.of) (e_nil ?_)
 simp only [ev,zD,zE,zF,zG]
 refine mf2 m (by decide) ?_
 clear m; intro g7 g8 u m
 simp only [zJ,zK,zF,zG]
 refine mstoreA m 1 rfl rfl rfl cells_30 (leT rfl) rfl ?_
 clear m; intro u m; simp only [over,zH,zI,zJ,zK,zL,zM,zN,zO,zP,zF,zG,Nat.reduceAdd] at m
 refine mstoreA m 0 rfl rfl rfl cells_30 (leT rfl) rfl ?_
 clear m; intro u m; simp only [over,zH,zI,zJ,zK,zL,zM,zN,zO,zP,zF,zG,Nat.reduceAdd] at m
 refine n_nil (k3 _ _ ?_)
 refine c_seq fun K4 k4=>wp_block (c_seq fun K5 k5=>wp_region_lit (n_load rfl ((m.b 1 rfl).full agg_30 cells_30) ?_))
 simp only [ev,zD,zE,zF,zG]
 refine mcallP m rfl rfl (Sign_c Bw.up) ?_
 clear m; intro u m
 refine n_val (r_leq rfl rfl) (n_val (r_assign) (n_nil (k5 _ _ ?_)))
 simp only [ev,zD,zE,zF,zG]
 refine c_if rfl (fun hc1=>?_) (fun hc1=>?_)
 ·
  refine c_seq fun K6 k6=>wp_region_lit (n_load rfl ((m.b 2 rfl).full agg_51 cells_51) ?_)
  simp only [ev,zD,zE,zF,zG]
  refine n_load rfl ((m.b 2 rfl).full agg_51 cells_51) ?_
  simp only [ev,zD,zE,zF,zG]
  refine mcallP m rfl rfl (mDot_c Bv.of Bv.of) ?_
  clear m; intro u m
  simp only [ev,zD,zE,zF,zG]
  refine mcallP m rfl rfl (whole_c Bw.up) ?_
  clear m; intro u m
  simp only [ev,zD,zE,zF,zG]
  refine mstoreA m 4 rfl rfl rfl cells_32 (leT rfl) rfl ?_
  clear m; intro u m; simp only [over,zH,zI,zJ,zK,zL,zM,zN,zO,zP,zF,zG,Nat.reduceAdd] at m
  refine n_nil (k6 _ _ ?_)
  refine wp_ret ?_
  try simp only [Exit.inBlock,Exit.then,if_true]
  refine fin1 rfl ⟨_,rfl,((m.b 4 rfl).full agg_32 cells_32)⟩ ?_
  try simp only [zD,zE]
  exact ⟨_,rfl,m.ext,by rw [segq,if_pos (isign_le.1 hc1)]; rfl⟩
 ·
  refine c_seq fun K7 k7=>wp_region_lit (n_load rfl ((m.b 1 rfl).full agg_30 cells_30) ?_)
  simp only [ev,zD,zE,zF,zG]
  refine n_load rfl ((m.b 0 rfl).full agg_30 cells_30) ?_
  simp only [ev,zD,zE,zF,zG]
  refine mcallP m rfl rfl (Cmp_c Bw.up Bw.up) ?_
  clear m; intro u m
  refine n_val (r_geq rfl rfl) (n_val (r_assign) (n_nil (k7 _ _ ?_)))
  simp only [ev,zD,zE,zF,zG]
  refine c_if rfl (fun hc2=>?_) (fun hc2=>?_)
  ·
   refine c_seq fun K8 k8=>wp_region_lit (n_load rfl ((m.b 7 rfl).full agg_23 cells_23) ?_)
   simp only [ev,zD,zE,zF,zG]
   refine n_load rfl ((m.b 5 rfl).full agg_23 cells_23) ?_
   simp only [ev,zD,zE,zF,zG]
   refine mcallP m rfl rfl (Dist2_c) ?_
   clear m; intro u m
   simp only [ev,zD,zE,zF,zG]
   refine mcallP m rfl rfl (whole_c Bw.up) ?_
   clear m; intro u m
   simp only [ev,zD,zE,zF,zG]
   refine mstoreA m 4 rfl rfl rfl cells_32 (leT rfl) rfl ?_
   clear m; intro u m; simp only [over,zH,zI,zJ,zK,zL,zM,zN,zO,zP,zF,zG,Nat.reduceAdd] at m
   refine n_nil (k8 _ _ ?_)
   refine wp_ret ?_
   try simp only [Exit.inBlock,Exit.then,if_true]
   refine fin1 rfl ⟨_,rfl,((m.b 4 rfl).full agg_32 cells_32)⟩ ?_
   try simp only [zD,zE]
   exact ⟨_,rfl,m.ext,by rw [segq,if_neg (mt isign_le.2 hc1),if_pos (by have:=isign_nn.1 hc2; omega)]; rfl⟩
  ·
   refine wp_skip (k4 _ _ ?_)
   refine c_seq fun K9 k9=>?_
   refine mq_tail m 11 follows_mixed (by kernel_rfl) ?_
   simp only [zH,zI,zJ,zK]
   refine ql rfl (fun u m=>((m.b 2 rfl).full agg_51 cells_51)) ?_
   simp only [ev,zD,zE,zF,zG]
   refine ql rfl (fun u m=>((m.b 2 rfl).full agg_51 cells_51)) ?_
   simp only [ev,zD,zE,zF,zG]
   refine qcP rfl rfl (mDot_c Bv.of Bv.of) ?_
   simp only [ev,zD,zE,zF,zG]
   refine ql rfl (fun u m=>((m.b 0 rfl).full agg_30 cells_30)) ?_
   simp only [ev,zD,zE,zF,zG]
   refine qcP rfl rfl (Mul_c Bw.up Bw.up) ?_
   simp only [ev,zD,zE,zF,zG]
   refine ql rfl (fun u m=>((m.b 1 rfl).full agg_30 cells_30)) ?_
   simp only [ev,zD,zE,zF,zG]
   refine ql rfl (fun u m=>((m.b 1 rfl).full agg_30 cells_30)) ?_
   simp only [ev,zD,zE,zF,zG]
   refine qcP rfl rfl (Mul_c Bw.up Bw.up) ?_
   simp only [ev,zD,zE,zF,zG]
   refine qcP rfl rfl (Sub_c Bw.up Bw.up) ?_
   simp only [ev,zD,zE,zF,zG]
   refine ql rfl (fun u m=>((m.b 0 rfl).full agg_30 cells_30)) ?_
   simp only [ev,zD,zE,zF,zG]
   refine qcP rfl rfl (mFrac_c Bw.up Bw.up (by have h1:=mt isign_le.2 hc1; have h2:=mt isign_nn.2 hc2; omega)) (q_nil ?_)
   clear m; intro u m
   simp only [ev,zD,zE,zF,zG]
   refine mstoreA m 4 rfl rfl rfl cells_32 (leT rfl) rfl ?_
   clear m; intro u m; simp only [over,zH,zI,zJ,zK,zL,zM,zN,zO,zP,zF,zG,Nat.reduceAdd] at m
   refine n_nil (k9 _ _ ?_)
   refine wp_ret ?_
   try simp only [Exit.inBlock,Exit.then,if_true]
   refine fin1 rfl ⟨_,rfl,((m.b 4 rfl).full agg_32 cells_32)⟩ ?_
   try simp only [zD,zE]
   exact ⟨_,rfl,m.ext,by rw [segq,if_neg (mt isign_le.2 hc1),if_neg (by have:=mt isign_nn.2 hc2; omega)]; rfl⟩
end Go.Proofs.YtmcgcnpgkkfkoaaDoor
namespace Go.Proofs.YtmcgcnpgkkfkoaaDoor
open Go.RowKit Go.Lith
set_option maxRecDepth 100000
attribute [local irreducible] wpList wpQuiet wpMix wpMixH wpTree Code.wp
theorem edge_0 {x : P3} {t : T3} [I3 x] [IT t] {g1 g2 : Nat} (w : World) (hB1 : Blk w g1 [.int .i64 x.x,.int .i64 x.y,.int .i64 x.z] 23) (hB2 : Blk w g2 [.int .i64 t.a.x,.int .i64 t.a.y,.int .i64 t.a.z,.int .i64 t.b.x,.int .i64 t.b.y,.int .i64 t.b.z,.int .i64 t.c.x,.int .i64 t.c.y,.int .i64 t.c.z] 25) : Does Tryd.prog 35 [.int .i64 0,.pointer (some ⟨g1,0,none⟩),.pointer (some ⟨g2,0,none⟩)] w (fun v _=>v = Q (segq x t.a t.b)):=by
 refine ⟨en_35,?_⟩
 have m:=Mem.refl w
 go_enter Tryd.func35,Tryd.ntmps35
 refine c_seq fun K1 k1=>wp_region_lit (malloc m zero_32 rfl ?_)
 clear m; intro g3 u m
 refine n_nil (k1 _ _ ?_)
 refine c_seq fun K2 k2=>?_
 simp only [ev,zD,zE,zF,zG]
 refine mq_tail m 10 follows_mixed (by kernel_rfl) ?_
 simp only [zH,zI,zJ,zK]
 refine ql rfl (fun u m=>((hB1.ext m.ext).lies agg_23 cells_23 rfl rfl)) ?_
 simp only [ev,zD,zE,zF,zG,zH,zI,zJ,zK,Nat.zero_add,Nat.reduceAdd,Nat.reduceMul,Int.reduceToNat]
 refine q_val (r_move) (q_val (r_indexAddrA Tryd.underlying25 cells_23 rfl rfl (by decide) (by decide) rfl) ?_)
 simp only [ev,zD,zE,zF,zG]
 refine ql rfl (fun u m=>((hB2.ext m.ext).lies agg_23 cells_23 rfl rfl)) ?_
 simp only [ev,zD,zE,zF,zG,zH,zI,zJ,zK,Nat.zero_add,Nat.reduceAdd,Nat.reduceMul,Int.reduceToNat]
 refine q_val (r_move) (q_val (r_add (m:=0) (n:=1) (r:=1) rfl rfl (by decide)) (q_val (r_rem (m:=1) (n:=3) (r:=1) rfl rfl (by decide) (by decide)) (q_val (r_indexAddrA Tryd.underlying25 cells_23 rfl rfl (by decide) (by decide) rfl) ?_)))
 simp only [ev,zD,zE,zF,zG]
 refine ql rfl (fun u m=>((hB2.ext m.ext).lies agg_23 cells_23 rfl rfl)) ?_
 simp only [ev,zD,zE,zF,zG,zH,zI,zJ,zK,Nat.zero_add,Nat.reduceAdd,Nat.reduceMul,Int.reduceToNat]
 refine qcP rfl rfl (segment_c) (q_nil ?_)
 clear m; intro u m
 simp only [ev,zD,zE,zF,zG]
 refine mstoreA m 0 rfl rfl rfl cells_32 (leT rfl) rfl ?_
 clear m; intro u m; simp only [over,zH,zI,zJ,zK,zL,zM,zN,zO,zP,zF,zG,Nat.reduceAdd] at m
 refine n_nil (k2 _ _ ?_)
 refine wp_ret ?_
 try simp only [Exit.inBlock,Exit.then,if_true]
 refine fin1 rfl ⟨_,rfl,((m.b 0 rfl).full agg_32 cells_32)⟩ ?_
 try simp only [zD,zE]
 exact ⟨_,rfl,m.ext,rfl⟩
theorem edge_1 {x : P3} {t : T3} [I3 x] [IT t] {g1 g2 : Nat} (w : World) (hB1 : Blk w g1 [.int .i64 x.x,.int .i64 x.y,.int .i64 x.z] 23) (hB2 : Blk w g2 [.int .i64 t.a.x,.int .i64 t.a.y,.int .i64 t.a.z,.int .i64 t.b.x,.int .i64 t.b.y,.int .i64 t.b.z,.int .i64 t.c.x,.int .i64 t.c.y,.int .i64 t.c.z] 25) : Does Tryd.prog 35 [.int .i64 1,.pointer (some ⟨g1,0,none⟩),.pointer (some ⟨g2,0,none⟩)] w (fun v _=>v = Q (segq x t.b t.c)):=by
 refine ⟨en_35,?_⟩
 have m:=Mem.refl w
 go_enter Tryd.func35,Tryd.ntmps35
 refine c_seq fun K1 k1=>wp_region_lit (malloc m zero_32 rfl ?_)
 clear m; intro g3 u m
 refine n_nil (k1 _ _ ?_)
 refine c_seq fun K2 k2=>?_
 simp only [ev,zD,zE,zF,zG]
 refine mq_tail m 10 follows_mixed (by kernel_rfl) ?_
 simp only [zH,zI,zJ,zK]
 refine ql rfl (fun u m=>((hB1.ext m.ext).lies agg_23 cells_23 rfl rfl)) ?_
 simp only [ev,zD,zE,zF,zG,zH,zI,zJ,zK,Nat.zero_add,Nat.reduceAdd,Nat.reduceMul,Int.reduceToNat]
 refine q_val (r_move) (q_val (r_indexAddrA Tryd.underlying25 cells_23 rfl rfl (by decide) (by decide) rfl) ?_)
 simp only [ev,zD,zE,zF,zG]
 refine ql rfl (fun u m=>((hB2.ext m.ext).lies agg_23 cells_23 rfl rfl)) ?_
 simp only [ev,zD,zE,zF,zG,zH,zI,zJ,zK,Nat.zero_add,Nat.reduceAdd,Nat.reduceMul,Int.reduceToNat]
 refine q_val (r_move) (q_val (r_add (m:=1) (n:=1) (r:=2) rfl rfl (by decide)) (q_val (r_rem (m:=2) (n:=3) (r:=2) rfl rfl (by decide) (by decide)) (q_val (r_indexAddrA Tryd.underlying25 cells_23 rfl rfl (by decide) (by decide) rfl) ?_)))
 simp only [ev,zD,zE,zF,zG]
 refine ql rfl (fun u m=>((hB2.ext m.ext).lies agg_23 cells_23 rfl rfl)) ?_
 simp only [ev,zD,zE,zF,zG,zH,zI,zJ,zK,Nat.zero_add,Nat.reduceAdd,Nat.reduceMul,Int.reduceToNat]
 refine qcP rfl rfl (segment_c) (q_nil ?_)
 clear m; intro u m
 simp only [ev,zD,zE,zF,zG]
 refine mstoreA m 0 rfl rfl rfl cells_32 (leT rfl) rfl ?_
 clear m; intro u m; simp only [over,zH,zI,zJ,zK,zL,zM,zN,zO,zP,zF,zG,Nat.reduceAdd] at m
 refine n_nil (k2 _ _ ?_)
 refine wp_ret ?_
 try simp only [Exit.inBlock,Exit.then,if_true]
 refine fin1 rfl ⟨_,rfl,((m.b 0 rfl).full agg_32 cells_32)⟩ ?_
 try simp only [zD,zE]
 exact ⟨_,rfl,m.ext,rfl⟩
theorem edge_2 {x : P3} {t : T3} [I3 x] [IT t] {g1 g2 : Nat} (w : World) (hB1 : Blk w g1 [.int .i64 x.x,.int .i64 x.y,.int .i64 x.z] 23) (hB2 : Blk w g2 [.int .i64 t.a.x,.int .i64 t.a.y,.int .i64 t.a.z,.int .i64 t.b.x,.int .i64 t.b.y,.int .i64 t.b.z,.int .i64 t.c.x,.int .i64 t.c.y,.int .i64 t.c.z] 25) : Does Tryd.prog 35 [.int .i64 2,.pointer (some ⟨g1,0,none⟩),.pointer (some ⟨g2,0,none⟩)] w (fun v _=>v = Q (segq x t.c t.a)):=by
 refine ⟨en_35,?_⟩
 have m:=Mem.refl w
 go_enter Tryd.func35,Tryd.ntmps35
 refine c_seq fun K1 k1=>wp_region_lit (malloc m zero_32 rfl ?_)
 clear m; intro g3 u m
 refine n_nil (k1 _ _ ?_)
 refine c_seq fun K2 k2=>?_
 simp only [ev,zD,zE,zF,zG]
 refine mq_tail m 10 follows_mixed (by kernel_rfl) ?_
 simp only [zH,zI,zJ,zK]
 refine ql rfl (fun u m=>((hB1.ext m.ext).lies agg_23 cells_23 rfl rfl)) ?_
 simp only [ev,zD,zE,zF,zG,zH,zI,zJ,zK,Nat.zero_add,Nat.reduceAdd,Nat.reduceMul,Int.reduceToNat]
 refine q_val (r_move) (q_val (r_indexAddrA Tryd.underlying25 cells_23 rfl rfl (by decide) (by decide) rfl) ?_)
 simp only [ev,zD,zE,zF,zG]
 refine ql rfl (fun u m=>((hB2.ext m.ext).lies agg_23 cells_23 rfl rfl)) ?_
 simp only [ev,zD,zE,zF,zG,zH,zI,zJ,zK,Nat.zero_add,Nat.reduceAdd,Nat.reduceMul,Int.reduceToNat]
 refine q_val (r_move) (q_val (r_add (m:=2) (n:=1) (r:=3) rfl rfl (by decide)) (q_val (r_rem (m:=3) (n:=3) (r:=0) rfl rfl (by decide) (by decide)) (q_val (r_indexAddrA Tryd.underlying25 cells_23 rfl rfl (by decide) (by decide) rfl) ?_)))
 simp only [ev,zD,zE,zF,zG]
 refine ql rfl (fun u m=>((hB2.ext m.ext).lies agg_23 cells_23 rfl rfl)) ?_
 simp only [ev,zD,zE,zF,zG,zH,zI,zJ,zK,Nat.zero_add,Nat.reduceAdd,Nat.reduceMul,Int.reduceToNat]
 refine qcP rfl rfl (segment_c) (q_nil ?_)
 clear m; intro u m
 simp only [ev,zD,zE,zF,zG]
 refine mstoreA m 0 rfl rfl rfl cells_32 (leT rfl) rfl ?_
 clear m; intro u m; simp only [over,zH,zI,zJ,zK,zL,zM,zN,zO,zP,zF,zG,Nat.reduceAdd] at m
 refine n_nil (k2 _ _ ?_)
 refine wp_ret ?_
 try simp only [Exit.inBlock,Exit.then,if_true]
 refine fin1 rfl ⟨_,rfl,((m.b 0 rfl).full agg_32 cells_32)⟩ ?_
 try simp only [zD,zE]
 exact ⟨_,rfl,m.ext,rfl⟩
theorem least3_c {x : P3} {t : T3} [I3 x] [IT t] {g0 g1 g2 : Nat} (w : World) (hB0 : Blk w g0 [.int .i64 0,.int .i64 1,.int .i64 2] 3) (hB1 : Blk w g1 [.int .i64 x.x,.int .i64 x.y,.int .i64 x.z] 23) (hB2 : Blk w g2 [.int .i64 t.a.x,.int .i64 t.a.y,.int .i64 t.a.z,.int .i64 t.b.x,.int .i64 t.b.y,.int .i64 t.b.z,.int .i64 t.c.x,.int .i64 t.c.y,.int .i64 t.c.z] 25) : Does Tryd.prog 34 [.slice (some ⟨g0,0,none⟩) 3 3,.func (.func 35) #[] #[.pointer (some ⟨g1,0,none⟩),.pointer (some ⟨g2,0,none⟩)]] w (fun v _=>v = .tuple #[Q (edgeq x t),.bool true]):=by
 refine ⟨en_34,?_⟩
 have m:=Mem.refl w
 go_enter Tryd.func34,Tryd.ntmps34
 refine c_seq fun K1 k1=>wp_region_lit (malloc m zero_32 rfl ?_)
 clear m; intro g3 u m
 refine n_val (r_assign) (n_nil (k1 _ _ ?_))
 refine c_seq fun K2 k2=>wp_region_lit (n_val (r_build_30_) ?_)
 simp only [ev,zD,zE,zF,zG]
 refine mcallP m rfl rfl (whole0_c) ?_
 clear m; intro u m
 simp only [ev,zD,zE,zF,zG]
 refine malloc m zero_32 rfl ?_
 clear m; intro g4 u m
 simp only [ev,zD,zE,zF,zG]
 refine mstoreA m 0 rfl rfl rfl cells_32 (leT rfl) rfl ?_
 clear m; intro u m; simp only [over,zH,zI,zJ,zK,zL,zM,zN,zO,zP,zF,zG,Nat.reduceAdd] at m
 refine n_nil (k2 _ _ ?_)
 refine c_seq fun K3 k3=>c_seq fun K4 k4=>wp_region_lit (n_val (r_move) (n_val (r_lenS rfl Tryd.underlying67 rfl) (n_val (r_move) (n_nil (k4 _ _ ?_)))))
 refine wp_block (wp_loop_rounds 4 (rounds_step (c_seq fun K5 k5=>wp_region_lit (n_val (r_lssT (m:=0) (n:=3) rfl rfl (by decide)) ?_))))
 simp only [ev,zD,zE,zF,zG]
 refine n_nil (k5 _ _ ?_)
 refine c_seq fun K6 k6=>c_yes rfl (wp_skip (k6 _ _ ?_))
 refine c_seq fun K7 k7=>wp_block (c_seq fun K8 k8=>wp_region_lit (n_val (r_move) (n_val (r_indexAddrS Tryd.underlying67 cells_3 rfl rfl (by decide) (by decide) rfl) ?_)))
 simp only [ev,zD,zE,zF,zG]
 refine n_load rfl ((hB0.ext m.ext).lies1 agg_3 rfl) ?_
 simp only [ev,zD,zE,zF,zG]
 refine n_val (r_assign) (n_val (r_assign) (n_nil (k8 _ _ ?_)))
 refine c_seq fun K9 k9=>wp_region_lit (n_val (r_move) (n_val (r_move) ?_))
 simp only [ev,zD,zE,zF,zG]
 refine mcall m rfl rfl (edge_0 _ (hB1.ext m.ext) (hB2.ext m.ext)) ?_
 clear m; rintro v u m rfl
 simp only [ev,zD,zE,zF,zG]
 refine malloc m zero_32 rfl ?_
 clear m; intro g5 u m
 simp only [ev,zD,zE,zF,zG]
 refine mstoreA m 0 rfl rfl rfl cells_32 (leT rfl) rfl ?_
 clear m; intro u m; simp only [over,zH,zI,zJ,zK,zL,zM,zN,zO,zP,zF,zG,Nat.reduceAdd] at m
 refine n_nil (k9 _ _ ?_)
 refine c_seq fun K10 k10=>wp_region_lit (n_val (r_move) (n_val (r_eqlT (m:=0) (n:=0) rfl rfl (by decide)) (n_val (r_move) (n_skipF rfl ?_))))
 simp only [ev,zD,zE,zF,zG]
 refine n_skipF rfl (n_skipF rfl (n_skipF rfl (n_val (r_pickT rfl) ?_)))
 simp only [ev,zD,zE,zF,zG]
 refine n_nil (k10 _ _ ?_)
 refine c_yes rfl (wp_region_lit (n_load rfl ((m.b 0 rfl).full agg_32 cells_32) ?_))
 simp only [ev,zD,zE,zF,zG]
 refine mstoreA m 1 rfl rfl rfl cells_32 (leT rfl) rfl ?_
 clear m; intro u m; simp only [over,zH,zI,zJ,zK,zL,zM,zN,zO,zP,zF,zG,Nat.reduceAdd] at m
 refine n_nil (k7 _ _ ?_)
 refine wp_region_lit (n_val (r_add (m:=0) (n:=1) (r:=1) rfl rfl (by decide)) (n_val (r_move) (n_nil (then_rounds (c_seq fun K11 k11=>wp_region_lit (n_val (r_lssT (m:=1) (n:=3) rfl rfl (by decide)) (n_nil (k11 _ _ ?_))))))))
 refine c_seq fun K12 k12=>c_yes rfl (wp_skip (k12 _ _ ?_))
 refine c_seq fun K13 k13=>wp_block (c_seq fun K14 k14=>wp_region_lit (n_val (r_move) ?_))
 simp only [ev,zD,zE,zF,zG]
 refine n_val (r_indexAddrS Tryd.underlying67 cells_3 rfl rfl (by decide) (by decide) rfl) ?_
 simp only [ev,zD,zE,zF,zG]
 refine n_load rfl ((hB0.ext m.ext).lies1 agg_3 rfl) ?_
 simp only [ev,zD,zE,zF,zG]
 refine n_val (r_assign) (n_val (r_assign) (n_nil (k14 _ _ ?_)))
 refine c_seq fun K15 k15=>wp_region_lit (n_val (r_move) (n_val (r_move) ?_))
 simp only [ev,zD,zE,zF,zG]
 refine mcall m rfl rfl (edge_1 _ (hB1.ext m.ext) (hB2.ext m.ext)) ?_
 clear m; rintro v u m rfl
 simp only [ev,zD,zE,zF,zG]
 refine malloc m zero_32 rfl ?_
 clear m; intro g6 u m
 simp only [ev,zD,zE,zF,zG]
 refine mstoreA m 0 rfl rfl rfl cells_32 (leT rfl) rfl ?_
 clear m; intro u m; simp only [over,zH,zI,zJ,zK,zL,zM,zN,zO,zP,zF,zG,Nat.reduceAdd] at m
 refine n_nil (k15 _ _ ?_)
 refine c_seq fun K16 k16=>wp_region_lit (n_val (r_move) (n_val (r_eqlF (m:=1) (n:=0) rfl rfl (by decide)) (n_val (r_move) (n_want rfl ?_))))
 simp only [ev,zD,zE,zF,zG]
 refine n_load rfl ((m.b 0 rfl).full agg_32 cells_32) ?_
 simp only [ev,zD,zE,zF,zG]
 refine n_want rfl (n_load rfl ((m.b 2 rfl).full agg_32 cells_32) ?_)
 simp only [ev,zD,zE,zF,zG]
 refine n_want rfl (mcallP m rfl rfl (CmpFrac_c Bq.up Bq.up) ?_)
 clear m; intro u m
 refine n_want rfl (n_val (r_lss rfl rfl) (n_val (r_pickF rfl) (n_nil (k16 _ _ ?_))))
 simp only [ev,zD,zE,zF,zG]
 refine c_if rfl (fun hc2=>?_) (fun hc2=>?_)
 ·
  have h1:=qcmp_lt.1 hc2
  refine wp_region_lit (n_load rfl ((m.b 0 rfl).full agg_32 cells_32) ?_)
  simp only [ev,zD,zE,zF,zG]
  refine mstoreA m 2 rfl rfl rfl cells_32 (leT rfl) rfl ?_
  clear m; intro u m; simp only [over,zH,zI,zJ,zK,zL,zM,zN,zO,zP,zF,zG,Nat.reduceAdd] at m
  refine n_nil (k13 _ _ ?_)
  refine wp_region_lit (n_val (r_add (m:=1) (n:=1) (r:=2) rfl rfl (by decide)) (n_val (r_move) (n_nil (then_rounds (c_seq fun K17 k17=>wp_region_lit (n_val (r_lssT (m:=2) (n:=3) rfl rfl (by decide)) (n_nil (k17 _ _ ?_))))))))
  refine c_seq fun K18 k18=>c_yes rfl (wp_skip (k18 _ _ ?_))
  refine c_seq fun K19 k19=>wp_block (c_seq fun K20 k20=>wp_region_lit (n_val (r_move) ?_))
  simp only [ev,zD,zE,zF,zG]
  refine n_val (r_indexAddrS Tryd.underlying67 cells_3 rfl rfl (by decide) (by decide) rfl) ?_
  simp only [ev,zD,zE,zF,zG]
  refine n_load rfl ((hB0.ext m.ext).lies1 agg_3 rfl) ?_
  simp only [ev,zD,zE,zF,zG]
  refine n_val (r_assign) (n_val (r_assign) (n_nil (k20 _ _ ?_)))
  refine c_seq fun K21 k21=>wp_region_lit (n_val (r_move) (n_val (r_move) ?_))
  simp only [ev,zD,zE,zF,zG]
  refine mcall m rfl rfl (edge_2 _ (hB1.ext m.ext) (hB2.ext m.ext)) ?_
  clear m; rintro v u m rfl
  simp only [ev,zD,zE,zF,zG]
  refine malloc m zero_32 rfl ?_
  clear m; intro g7 u m
  simp only [ev,zD,zE,zF,zG]
  refine mstoreA m 0 rfl rfl rfl cells_32 (leT rfl) rfl ?_
  clear m; intro u m; simp only [over,zH,zI,zJ,zK,zL,zM,zN,zO,zP,zF,zG,Nat.reduceAdd] at m
  refine n_nil (k21 _ _ ?_)
  refine c_seq fun K22 k22=>wp_region_lit (n_val (r_move) (n_val (r_eqlF (m:=2) (n:=0) rfl rfl (by decide)) (n_val (r_move) (n_want rfl ?_))))
  simp only [ev,zD,zE,zF,zG]
  refine n_load rfl ((m.b 0 rfl).full agg_32 cells_32) ?_
  simp only [ev,zD,zE,zF,zG]
  refine n_want rfl (n_load rfl ((m.b 3 rfl).full agg_32 cells_32) ?_)
  simp only [ev,zD,zE,zF,zG]
  refine n_want rfl (mcallP m rfl rfl (CmpFrac_c Bq.up Bq.up) ?_)
  clear m; intro u m
  refine n_want rfl (n_val (r_lss rfl rfl) (n_val (r_pickF rfl) (n_nil (k22 _ _ ?_))))
  simp only [ev,zD,zE,zF,zG]
  refine c_if rfl (fun hc2=>?_) (fun hc2=>?_)
  ·
   have h2:=qcmp_lt.1 hc2
   refine wp_region_lit (n_load rfl ((m.b 0 rfl).full agg_32 cells_32) ?_)
   simp only [ev,zD,zE,zF,zG]
   refine mstoreA m 3 rfl rfl rfl cells_32 (leT rfl) rfl ?_
   clear m; intro u m; simp only [over,zH,zI,zJ,zK,zL,zM,zN,zO,zP,zF,zG,Nat.reduceAdd] at m
   refine n_nil (k19 _ _ ?_)
   refine wp_region_lit (n_val (r_add (m:=2) (n:=1) (r:=3) rfl rfl (by decide)) (n_val (r_move) (n_nil (then_rounds (c_seq fun K23 k23=>wp_region_lit (n_val (r_lssF (m:=3) (n:=3) rfl rfl (by decide)) (n_nil (k23 _ _ ?_))))))))
   refine c_seq fun K24 k24=>c_no rfl (wp_exit (k3 _ _ ?_))
   refine c_seq fun K25 k25=>wp_region_lit ?_
   simp only [ev,zD,zE,zF,zG]
   refine n_load rfl ((m.b 3 rfl).full agg_32 cells_32) ?_
   simp only [ev,zD,zE,zF,zG]
   refine n_val (r_move) (n_val (r_lenS rfl Tryd.underlying67 rfl) (n_val (r_gtrT (m:=3) (n:=0) rfl rfl (by decide)) ?_))
   simp only [ev,zD,zE,zF,zG]
   refine mstoreA m 4 rfl rfl rfl cells_32 (leT rfl) rfl ?_
   clear m; intro u m; simp only [over,zH,zI,zJ,zK,zL,zM,zN,zO,zP,zF,zG,Nat.reduceAdd] at m
   refine n_val (r_assign) (n_nil (k25 _ _ ?_))
   refine wp_ret ?_
   simp only [ev,zD,zE,zF,zG]
   try simp only [Exit.inBlock,Exit.then,if_true]
   refine fin2 rfl ⟨_,rfl,((m.b 4 rfl).full agg_32 cells_32)⟩ rfl ?_
   try simp only [zD,zE]
   exact ⟨_,rfl,m.ext,by simp only [edgeq,minq,h1,h2,if_true,if_false]; rfl⟩
  ·
   have h2:=mt qcmp_lt.2 hc2
   refine wp_skip (k19 _ _ ?_)
   refine wp_region_lit (n_val (r_add (m:=2) (n:=1) (r:=3) rfl rfl (by decide)) (n_val (r_move) (n_nil (then_rounds (c_seq fun K26 k26=>wp_region_lit (n_val (r_lssF (m:=3) (n:=3) rfl rfl (by decide)) (n_nil (k26 _ _ ?_))))))))
   refine c_seq fun K27 k27=>c_no rfl (wp_exit (k3 _ _ ?_))
   refine c_seq fun K28 k28=>wp_region_lit ?_
   simp only [ev,zD,zE,zF,zG]
   refine n_load rfl ((m.b 3 rfl).full agg_32 cells_32) ?_
   simp only [ev,zD,zE,zF,zG]
   refine n_val (r_move) (n_val (r_lenS rfl Tryd.underlying67 rfl) (n_val (r_gtrT (m:=3) (n:=0) rfl rfl (by decide)) ?_))
   simp only [ev,zD,zE,zF,zG]
   refine mstoreA m 4 rfl rfl rfl cells_32 (leT rfl) rfl ?_
   clear m; intro u m; simp only [over,zH,zI,zJ,zK,zL,zM,zN,zO,zP,zF,zG,Nat.reduceAdd] at m
   refine n_val (r_assign) (n_nil (k28 _ _ ?_))
   refine wp_ret ?_
   simp only [ev,zD,zE,zF,zG]
   try simp only [Exit.inBlock,Exit.then,if_true]
   refine fin2 rfl ⟨_,rfl,((m.b 4 rfl).full agg_32 cells_32)⟩ rfl ?_
   try simp only [zD,zE]
   exact ⟨_,rfl,m.ext,by simp only [edgeq,minq,h1,h2,if_true,if_false]; rfl⟩
 ·
  have h1:=mt qcmp_lt.2 hc2
  refine wp_skip (k13 _ _ ?_)
  refine wp_region_lit (n_val (r_add (m:=1) (n:=1) (r:=2) rfl rfl (by decide)) (n_val (r_move) (n_nil (then_rounds (c_seq fun K29 k29=>wp_region_lit (n_val (r_lssT (m:=2) (n:=3) rfl rfl (by decide)) (n_nil (k29 _ _ ?_))))))))
  refine c_seq fun K30 k30=>c_yes rfl (wp_skip (k30 _ _ ?_))
  refine c_seq fun K31 k31=>wp_block (c_seq fun K32 k32=>wp_region_lit (n_val (r_move) ?_))
  simp only [ev,zD,zE,zF,zG]
  refine n_val (r_indexAddrS Tryd.underlying67 cells_3 rfl rfl (by decide) (by decide) rfl) ?_
  simp only [ev,zD,zE,zF,zG]
  refine n_load rfl ((hB0.ext m.ext).lies1 agg_3 rfl) ?_
  simp only [ev,zD,zE,zF,zG]
  refine n_val (r_assign) (n_val (r_assign) (n_nil (k32 _ _ ?_)))
  refine c_seq fun K33 k33=>wp_region_lit (n_val (r_move) (n_val (r_move) ?_))
  simp only [ev,zD,zE,zF,zG]
  refine mcall m rfl rfl (edge_2 _ (hB1.ext m.ext) (hB2.ext m.ext)) ?_
  clear m; rintro v u m rfl
  simp only [ev,zD,zE,zF,zG]
  refine malloc m zero_32 rfl ?_
  clear m; intro g7 u m
  simp only [ev,zD,zE,zF,zG]
  refine mstoreA m 0 rfl rfl rfl cells_32 (leT rfl) rfl ?_
  clear m; intro u m; simp only [over,zH,zI,zJ,zK,zL,zM,zN,zO,zP,zF,zG,Nat.reduceAdd] at m
  refine n_nil (k33 _ _ ?_)
  refine c_seq fun K34 k34=>wp_region_lit (n_val (r_move) (n_val (r_eqlF (m:=2) (n:=0) rfl rfl (by decide)) (n_val (r_move) (n_want rfl ?_))))
  simp only [ev,zD,zE,zF,zG]
  refine n_load rfl ((m.b 0 rfl).full agg_32 cells_32) ?_
  simp only [ev,zD,zE,zF,zG]
  refine n_want rfl (n_load rfl ((m.b 3 rfl).full agg_32 cells_32) ?_)
  simp only [ev,zD,zE,zF,zG]
  refine n_want rfl (mcallP m rfl rfl (CmpFrac_c Bq.up Bq.up) ?_)
  clear m; intro u m
  refine n_want rfl (n_val (r_lss rfl rfl) (n_val (r_pickF rfl) (n_nil (k34 _ _ ?_))))
  simp only [ev,zD,zE,zF,zG]
  refine c_if rfl (fun hc2=>?_) (fun hc2=>?_)
  ·
   have h2:=qcmp_lt.1 hc2
   refine wp_region_lit (n_load rfl ((m.b 0 rfl).full agg_32 cells_32) ?_)
   simp only [ev,zD,zE,zF,zG]
   refine mstoreA m 3 rfl rfl rfl cells_32 (leT rfl) rfl ?_
   clear m; intro u m; simp only [over,zH,zI,zJ,zK,zL,zM,zN,zO,zP,zF,zG,Nat.reduceAdd] at m
   refine n_nil (k31 _ _ ?_)
   refine wp_region_lit (n_val (r_add (m:=2) (n:=1) (r:=3) rfl rfl (by decide)) (n_val (r_move) (n_nil (then_rounds (c_seq fun K35 k35=>wp_region_lit (n_val (r_lssF (m:=3) (n:=3) rfl rfl (by decide)) (n_nil (k35 _ _ ?_))))))))
   refine c_seq fun K36 k36=>c_no rfl (wp_exit (k3 _ _ ?_))
   refine c_seq fun K37 k37=>wp_region_lit ?_
   simp only [ev,zD,zE,zF,zG]
   refine n_load rfl ((m.b 3 rfl).full agg_32 cells_32) ?_
   simp only [ev,zD,zE,zF,zG]
   refine n_val (r_move) (n_val (r_lenS rfl Tryd.underlying67 rfl) (n_val (r_gtrT (m:=3) (n:=0) rfl rfl (by decide)) ?_))
   simp only [ev,zD,zE,zF,zG]
   refine mstoreA m 4 rfl rfl rfl cells_32 (leT rfl) rfl ?_
   clear m; intro u m; simp only [over,zH,zI,zJ,zK,zL,zM,zN,zO,zP,zF,zG,Nat.reduceAdd] at m
   refine n_val (r_assign) (n_nil (k37 _ _ ?_))
   refine wp_ret ?_
   simp only [ev,zD,zE,zF,zG]
   try simp only [Exit.inBlock,Exit.then,if_true]
   refine fin2 rfl ⟨_,rfl,((m.b 4 rfl).full agg_32 cells_32)⟩ rfl ?_
   try simp only [zD,zE]
   exact ⟨_,rfl,m.ext,by simp only [edgeq,minq,h1,h2,if_true,if_false]; rfl⟩
  ·
   have h2:=mt qcmp_lt.2 hc2
   refine wp_skip (k31 _ _ ?_)
   refine wp_region_lit (n_val (r_add (m:=2) (n:=1) (r:=3) rfl rfl (by decide)) (n_val (r_move) (n_nil (then_rounds (c_seq fun K38 k38=>wp_region_lit (n_val (r_lssF (m:=3) (n:=3) rfl rfl (by decide)) (n_nil (k38 _ _ ?_))))))))
   refine c_seq fun K39 k39=>c_no rfl (wp_exit (k3 _ _ ?_))
   refine c_seq fun K40 k40=>wp_region_lit ?_
   simp only [ev,zD,zE,zF,zG]
   refine n_load rfl ((m.b 3 rfl).full agg_32 cells_32) ?_
   simp only [ev,zD,zE,zF,zG]
   refine n_val (r_move) (n_val (r_lenS rfl Tryd.underlying67 rfl) (n_val (r_gtrT (m:=3) (n:=0) rfl rfl (by decide)) ?_))
   simp only [ev,zD,zE,zF,zG]
   refine mstoreA m 4 rfl rfl rfl cells_32 (leT rfl) rfl ?_
   clear m; intro u m; simp only [over,zH,zI,zJ,zK,zL,zM,zN,zO,zP,zF,zG,Nat.reduceAdd] at m
   refine n_val (r_assign) (n_nil (k40 _ _ ?_))
   refine wp_ret ?_
   simp only [ev,zD,zE,zF,zG]
   try simp only [Exit.inBlock,Exit.then,if_true]
   refine fin2 rfl ⟨_,rfl,((m.b 4 rfl).full agg_32 cells_32)⟩ rfl ?_
   try simp only [zD,zE]
   exact ⟨_,rfl,m.ext,by simp only [edgeq,minq,h1,h2,if_true,if_false]; rfl⟩
theorem triangle_c {x : P3} {t : T3} [I3 x] [IT t] : Pure Tryd.prog 16 [pt x,tr t] (Q (triq x t)):=by
 intro w
 refine ⟨en_16,?_⟩
 have m:=Mem.refl w
 go_enter Tryd.func16,Tryd.ntmps16
 refine c_seq fun K1 k1=>wp_region_lit (mboxA m rfl ?_)
 clear m; intro g1 u m
 simp only [ev,zD,zE,zF,zG]
 refine mboxA m rfl ?_
 clear m; intro g2 u m
 simp only [ev,zD,zE,zF,zG]
 refine malloc m zero_32 rfl ?_
 clear m; intro g3 u m
 refine n_nil (k1 _ _ ?_)
 refine c_seq fun K2 k2=>wp_region_lit ?_
 simp only [ev,zD,zE,zF,zG]
 refine n_load rfl ((m.b 1 rfl).full agg_25 cells_25) ?_
 simp only [ev,zD,zE,zF,zG]
 refine mcallP m rfl rfl (Normal_c) ?_
 clear m; intro u m
 simp only [ev,zD,zE,zF,zG]
 refine malloc m zero_51 rfl ?_
 clear m; intro g4 u m
 simp only [ev,zD,zE,zF,zG]
 refine mstoreA m 0 rfl rfl rfl cells_51 (leT rfl) rfl ?_
 clear m; intro u m; simp only [over,zH,zI,zJ,zK,zL,zM,zN,zO,zP,zF,zG,Nat.reduceAdd] at m
 refine n_nil (k2 _ _ ?_)
 refine c_seq fun K3 k3=>wp_region_lit (n_load rfl ((m.b 2 rfl).full agg_25 cells_25) ?_)
 simp only [ev,zD,zE,zF,zG]
 refine mcallP m rfl rfl (Flat_c) ?_
 clear m; intro u m
 refine n_val (r_not rfl) (n_val (r_assign) (n_nil ?_))
 simp only [ev,zD,zE,zF,zG]
 obtain ⟨b0,hb0⟩ : ∃ b : Bool,b = !(decide (isign t.normal.x = 0 ∧ isign t.normal.y = 0 ∧ isign t.normal.z = 0)):=⟨_,rfl⟩
 rw [← hb0]
 refine k3 _ _ ?_
 refine c_seq fun K4 k4=>c_seq fun K5 k5=>wp_region_lit (n_load rfl ((m.b 2 rfl).full agg_25 cells_25) ?_)
 simp only [ev,zD,zE,zF,zG]
 refine n_val (r_move) (n_nil (k5 _ _ ?_))
 refine wp_block (wp_loop_rounds 4 (rounds_step (c_seq fun K6 k6=>wp_region_lit (n_val (r_lssT (m:=0) (n:=3) rfl rfl (by decide)) (n_nil (k6 _ _ ?_))))))
 refine c_seq fun K7 k7=>c_yes rfl (wp_skip (k7 _ _ ?_))
 refine c_seq fun K8 k8=>wp_block (c_seq fun K9 k9=>wp_region_lit (n_val (r_move) (n_val (r_index_25_0 rfl rfl) ?_)))
 simp only [ev,zD,zE,zF,zG]
 refine malloc m zero_23 rfl ?_
 clear m; intro g5 u m
 refine n_val (r_assign) ?_
 simp only [ev,zD,zE,zF,zG]
 refine mstoreA m 0 rfl rfl rfl cells_23 (leT rfl) rfl ?_
 clear m; intro u m; simp only [over,zH,zI,zJ,zK,zL,zM,zN,zO,zP,zF,zG,Nat.reduceAdd] at m
 refine n_nil (k9 _ _ ?_)
 rcases b0 with _ | _
 ·
  have hno : ¬ (¬ t.flat ∧ ins x t):=no0 hb0
  refine mq m follows_mixed (by kernel_rfl) (q_val (r_move) (q_val (r_move) (q_skipT rfl (q_skipT rfl ?_))))
  simp only [ev,zD,zE,zF,zG]
  refine q_skipT rfl (q_skipT rfl (q_skipT rfl (q_skipT rfl ?_)))
  simp only [ev,zD,zE,zF,zG]
  refine q_skipT rfl (q_skipT rfl (q_skipT rfl (q_skipT rfl ?_)))
  simp only [ev,zD,zE,zF,zG]
  refine q_skipT rfl (q_skipT rfl (q_skipT rfl (q_skipT rfl ?_)))
  simp only [ev,zD,zE,zF,zG]
  refine q_skipT rfl (q_val (r_pickF rfl) (q_val (r_assign) (q_nil ?_)))
  clear m; intro u m
  refine k8 _ _ ?_
  refine wp_region_lit (n_val (r_add (m:=0) (n:=1) (r:=1) rfl rfl (by decide)) ?_)
  simp only [ev,zD,zE,zF,zG]
  refine n_val (r_move) (n_nil (then_rounds (c_seq fun K10 k10=>wp_region_lit (n_val (r_lssT (m:=1) (n:=3) rfl rfl (by decide)) (n_nil (k10 _ _ ?_))))))
  refine c_seq fun K11 k11=>c_yes rfl (wp_skip (k11 _ _ ?_))
  refine c_seq fun K12 k12=>wp_block (c_seq fun K13 k13=>wp_region_lit (n_val (r_move) (n_val (r_index_25_1 rfl rfl) ?_)))
  simp only [ev,zD,zE,zF,zG]
  refine malloc m zero_23 rfl ?_
  clear m; intro g6 u m
  refine n_val (r_assign) ?_
  simp only [ev,zD,zE,zF,zG]
  refine mstoreA m 0 rfl rfl rfl cells_23 (leT rfl) rfl ?_
  clear m; intro u m; simp only [over,zH,zI,zJ,zK,zL,zM,zN,zO,zP,zF,zG,Nat.reduceAdd] at m
  refine n_nil (k13 _ _ ?_)
  refine mq m follows_mixed (by kernel_rfl) (q_val (r_move) (q_val (r_move) (q_skipT rfl (q_skipT rfl ?_))))
  simp only [ev,zD,zE,zF,zG]
  refine q_skipT rfl (q_skipT rfl (q_skipT rfl (q_skipT rfl ?_)))
  simp only [ev,zD,zE,zF,zG]
  refine q_skipT rfl (q_skipT rfl (q_skipT rfl (q_skipT rfl ?_)))
  simp only [ev,zD,zE,zF,zG]
  refine q_skipT rfl (q_skipT rfl (q_skipT rfl (q_skipT rfl ?_)))
  simp only [ev,zD,zE,zF,zG]
  refine q_skipT rfl (q_val (r_pickF rfl) (q_val (r_assign) (q_nil ?_)))
  clear m; intro u m
  refine k12 _ _ ?_
  refine wp_region_lit (n_val (r_add (m:=1) (n:=1) (r:=2) rfl rfl (by decide)) ?_)
  simp only [ev,zD,zE,zF,zG]
  refine n_val (r_move) (n_nil (then_rounds (c_seq fun K14 k14=>wp_region_lit (n_val (r_lssT (m:=2) (n:=3) rfl rfl (by decide)) (n_nil (k14 _ _ ?_))))))
  refine c_seq fun K15 k15=>c_yes rfl (wp_skip (k15 _ _ ?_))
  refine c_seq fun K16 k16=>wp_block (c_seq fun K17 k17=>wp_region_lit (n_val (r_move) (n_val (r_index_25_2 rfl rfl) ?_)))
  simp only [ev,zD,zE,zF,zG]
  refine malloc m zero_23 rfl ?_
  clear m; intro g7 u m
  refine n_val (r_assign) ?_
  simp only [ev,zD,zE,zF,zG]
  refine mstoreA m 0 rfl rfl rfl cells_23 (leT rfl) rfl ?_
  clear m; intro u m; simp only [over,zH,zI,zJ,zK,zL,zM,zN,zO,zP,zF,zG,Nat.reduceAdd] at m
  refine n_nil (k17 _ _ ?_)
  refine mq m follows_mixed (by kernel_rfl) (q_val (r_move) (q_val (r_move) (q_skipT rfl (q_skipT rfl ?_))))
  simp only [ev,zD,zE,zF,zG]
  refine q_skipT rfl (q_skipT rfl (q_skipT rfl (q_skipT rfl ?_)))
  simp only [ev,zD,zE,zF,zG]
  refine q_skipT rfl (q_skipT rfl (q_skipT rfl (q_skipT rfl ?_)))
  simp only [ev,zD,zE,zF,zG]
  refine q_skipT rfl (q_skipT rfl (q_skipT rfl (q_skipT rfl ?_)))
  simp only [ev,zD,zE,zF,zG]
  refine q_skipT rfl (q_val (r_pickF rfl) (q_val (r_assign) (q_nil ?_)))
  clear m; intro u m
  refine k16 _ _ ?_
  refine wp_region_lit (n_val (r_add (m:=2) (n:=1) (r:=3) rfl rfl (by decide)) ?_)
  simp only [ev,zD,zE,zF,zG]
  refine n_val (r_move) (n_nil (then_rounds (c_seq fun K18 k18=>wp_region_lit (n_val (r_lssF (m:=3) (n:=3) rfl rfl (by decide)) (n_nil (k18 _ _ ?_))))))
  refine c_seq fun K19 k19=>c_no rfl (wp_exit (k4 _ _ ?_))
  refine c_seq fun K20 k20=>c_seq fun K21 k21=>wp_region_lit (n_val (r_move) (n_nil (k21 _ _ ?_)))
  refine c_no rfl (wp_skip (k20 _ _ ?_))
  refine c_seq fun K22 k22=>wp_region_lit ?_
  simp only [ev,zD,zE,zF,zG]
  refine n_bs_67_3 rfl rfl rfl ?_
  intro u g8 e hg hB; replace m:=m.newB e hg hB; clear e hg hB
  simp only [ev,zD,zE,zF,zG]
  refine n_val (r_makeFunc) ?_
  simp only [ev,zD,zE,zF,zG,List.map_toArray,List.map_cons,List.map_nil]
  refine mcall m rfl rfl (least3_c _ (m.b 0 rfl) (m.b 7 rfl) (m.b 6 rfl)) ?_
  clear m; rintro v u m rfl
  refine n_val (r_move) (n_val (r_extract rfl rfl) (n_val (r_extract rfl rfl) ?_))
  simp only [ev,zD,zE,zF,zG]
  refine malloc m zero_32 rfl ?_
  clear m; intro g9 u m
  simp only [ev,zD,zE,zF,zG]
  refine mstoreA m 0 rfl rfl rfl cells_32 (leT rfl) rfl ?_
  clear m; intro u m; simp only [over,zH,zI,zJ,zK,zL,zM,zN,zO,zP,zF,zG,Nat.reduceAdd] at m
  refine n_val (r_assign) (n_nil (k22 _ _ ?_))
  refine c_seq fun K23 k23=>wp_region_lit ?_
  simp only [ev,zD,zE,zF,zG]
  refine n_load rfl ((m.b 0 rfl).full agg_32 cells_32) ?_
  simp only [ev,zD,zE,zF,zG]
  refine mstoreA m 6 rfl rfl rfl cells_32 (leT rfl) rfl ?_
  clear m; intro u m; simp only [over,zH,zI,zJ,zK,zL,zM,zN,zO,zP,zF,zG,Nat.reduceAdd] at m
  refine n_nil (k23 _ _ ?_)
  refine wp_ret ?_
  try simp only [Exit.inBlock,Exit.then,if_true]
  refine fin1 rfl ⟨_,rfl,((m.b 6 rfl).full agg_32 cells_32)⟩ ?_
  try simp only [zD,zE]
  exact ⟨_,rfl,m.ext,by first | exact triq_face ⟨hy0,hy1,hy2,hy3⟩ ▸ rfl | exact triq_edge hno ▸ rfl⟩
 ·
  have hy0:=yes0 hb0
  refine mq m follows_mixed (by kernel_rfl) (q_val (r_move) (q_val (r_move) (q_want rfl ?_)))
  simp only [ev,zD,zE,zF,zG]
  refine ql rfl (fun u m=>((m.b 1 rfl).full agg_51 cells_51)) ?_
  simp only [ev,zD,zE,zF,zG]
  refine q_want rfl (ql rfl (fun u m=>((m.b 0 rfl).full agg_23 cells_23)) ?_)
  simp only [ev,zD,zE,zF,zG]
  refine q_want rfl (q_val (r_move) (q_want rfl (q_val (r_add (m:=0) (n:=1) (r:=1) rfl rfl (by decide)) (q_want rfl (q_val (r_rem (m:=1) (n:=3) (r:=1) rfl rfl (by decide) (by decide)) (q_want rfl (q_val (r_indexAddrA Tryd.underlying25 cells_23 rfl rfl (by decide) (by decide) rfl) ?_)))))))
  simp only [ev,zD,zE,zF,zG]
  refine q_want rfl (ql rfl (fun u m=>((m.b 3 rfl).lies agg_23 cells_23 rfl rfl)) ?_)
  simp only [ev,zD,zE,zF,zG,zH,zI,zJ,zK,Nat.zero_add,Nat.reduceAdd,Nat.reduceMul,Int.reduceToNat]
  refine q_want rfl (qcP rfl rfl (from_c) (q_want rfl ?_))
  simp only [ev,zD,zE,zF,zG]
  refine ql rfl (fun u m=>((m.b 0 rfl).full agg_23 cells_23)) ?_
  simp only [ev,zD,zE,zF,zG]
  refine q_want rfl (ql rfl (fun u m=>((m.b 4 rfl).full agg_23 cells_23)) ?_)
  simp only [ev,zD,zE,zF,zG]
  refine q_want rfl (qcP rfl rfl (from_c) (q_want rfl ?_))
  simp only [ev,zD,zE,zF,zG]
  refine qcP rfl rfl (mCross_c Bv.of Bv.of) (q_want rfl ?_)
  simp only [ev,zD,zE,zF,zG]
  refine qcP rfl rfl (mDot_c Bv.of Bv.of) (q_want rfl ?_)
  simp only [ev,zD,zE,zF,zG]
  refine qcP rfl rfl (Sign_c Bw.up) (q_want rfl (q_val (r_geq rfl rfl) (q_val (r_pickT rfl) (q_val (r_assign) ?_))))
  simp only [ev,zD,zE,zF,zG]
  refine q_nil ?_
  clear m; intro u m
  obtain ⟨b1,hb1⟩ : ∃ b : Bool,b = decide (0 ≤ isign (t.normal.dot ((t.b.sub t.a).cross (x.sub t.a)))):=⟨_,rfl⟩
  rw [← hb1]
  refine k8 _ _ ?_
  refine wp_region_lit (n_val (r_add (m:=0) (n:=1) (r:=1) rfl rfl (by decide)) (n_val (r_move) (n_nil (then_rounds (c_seq fun K24 k24=>wp_region_lit (n_val (r_lssT (m:=1) (n:=3) rfl rfl (by decide)) (n_nil (k24 _ _ ?_))))))))
  refine c_seq fun K25 k25=>c_yes rfl (wp_skip (k25 _ _ ?_))
  refine c_seq fun K26 k26=>wp_block (c_seq fun K27 k27=>wp_region_lit (n_val (r_move) ?_))
  simp only [ev,zD,zE,zF,zG]
  refine n_val (r_index_25_1 rfl rfl) ?_
  simp only [ev,zD,zE,zF,zG]
  refine malloc m zero_23 rfl ?_
  clear m; intro g6 u m
  refine n_val (r_assign) ?_
  simp only [ev,zD,zE,zF,zG]
  refine mstoreA m 0 rfl rfl rfl cells_23 (leT rfl) rfl ?_
  clear m; intro u m; simp only [over,zH,zI,zJ,zK,zL,zM,zN,zO,zP,zF,zG,Nat.reduceAdd] at m
  refine n_nil (k27 _ _ ?_)
  rcases b1 with _ | _
  ·
   have hno : ¬ (¬ t.flat ∧ ins x t):=fun h=>no_side hb1 h.2.1
   refine mq m follows_mixed (by kernel_rfl) (q_val (r_move) (q_val (r_move) (q_skipT rfl (q_skipT rfl ?_))))
   simp only [ev,zD,zE,zF,zG]
   refine q_skipT rfl (q_skipT rfl (q_skipT rfl (q_skipT rfl ?_)))
   simp only [ev,zD,zE,zF,zG]
   refine q_skipT rfl (q_skipT rfl (q_skipT rfl (q_skipT rfl ?_)))
   simp only [ev,zD,zE,zF,zG]
   refine q_skipT rfl (q_skipT rfl (q_skipT rfl (q_skipT rfl ?_)))
   simp only [ev,zD,zE,zF,zG]
   refine q_skipT rfl (q_val (r_pickF rfl) (q_val (r_assign) (q_nil ?_)))
   clear m; intro u m
   refine k26 _ _ ?_
   refine wp_region_lit (n_val (r_add (m:=1) (n:=1) (r:=2) rfl rfl (by decide)) ?_)
   simp only [ev,zD,zE,zF,zG]
   refine n_val (r_move) (n_nil (then_rounds (c_seq fun K28 k28=>wp_region_lit (n_val (r_lssT (m:=2) (n:=3) rfl rfl (by decide)) (n_nil (k28 _ _ ?_))))))
   refine c_seq fun K29 k29=>c_yes rfl (wp_skip (k29 _ _ ?_))
   refine c_seq fun K30 k30=>wp_block (c_seq fun K31 k31=>wp_region_lit (n_val (r_move) (n_val (r_index_25_2 rfl rfl) ?_)))
   simp only [ev,zD,zE,zF,zG]
   refine malloc m zero_23 rfl ?_
   clear m; intro g7 u m
   refine n_val (r_assign) ?_
   simp only [ev,zD,zE,zF,zG]
   refine mstoreA m 0 rfl rfl rfl cells_23 (leT rfl) rfl ?_
   clear m; intro u m; simp only [over,zH,zI,zJ,zK,zL,zM,zN,zO,zP,zF,zG,Nat.reduceAdd] at m
   refine n_nil (k31 _ _ ?_)
   refine mq m follows_mixed (by kernel_rfl) (q_val (r_move) (q_val (r_move) (q_skipT rfl (q_skipT rfl ?_))))
   simp only [ev,zD,zE,zF,zG]
   refine q_skipT rfl (q_skipT rfl (q_skipT rfl (q_skipT rfl ?_)))
   simp only [ev,zD,zE,zF,zG]
   refine q_skipT rfl (q_skipT rfl (q_skipT rfl (q_skipT rfl ?_)))
   simp only [ev,zD,zE,zF,zG]
   refine q_skipT rfl (q_skipT rfl (q_skipT rfl (q_skipT rfl ?_)))
   simp only [ev,zD,zE,zF,zG]
   refine q_skipT rfl (q_val (r_pickF rfl) (q_val (r_assign) (q_nil ?_)))
   clear m; intro u m
   refine k30 _ _ ?_
   refine wp_region_lit (n_val (r_add (m:=2) (n:=1) (r:=3) rfl rfl (by decide)) ?_)
   simp only [ev,zD,zE,zF,zG]
   refine n_val (r_move) (n_nil (then_rounds (c_seq fun K32 k32=>wp_region_lit (n_val (r_lssF (m:=3) (n:=3) rfl rfl (by decide)) (n_nil (k32 _ _ ?_))))))
   refine c_seq fun K33 k33=>c_no rfl (wp_exit (k4 _ _ ?_))
   refine c_seq fun K34 k34=>c_seq fun K35 k35=>wp_region_lit (n_val (r_move) (n_nil (k35 _ _ ?_)))
   refine c_no rfl (wp_skip (k34 _ _ ?_))
   refine c_seq fun K36 k36=>wp_region_lit ?_
   simp only [ev,zD,zE,zF,zG]
   refine n_bs_67_3 rfl rfl rfl ?_
   intro u g8 e hg hB; replace m:=m.newB e hg hB; clear e hg hB
   simp only [ev,zD,zE,zF,zG]
   refine n_val (r_makeFunc) ?_
   simp only [ev,zD,zE,zF,zG,List.map_toArray,List.map_cons,List.map_nil]
   refine mcall m rfl rfl (least3_c _ (m.b 0 rfl) (m.b 7 rfl) (m.b 6 rfl)) ?_
   clear m; rintro v u m rfl
   refine n_val (r_move) (n_val (r_extract rfl rfl) (n_val (r_extract rfl rfl) ?_))
   simp only [ev,zD,zE,zF,zG]
   refine malloc m zero_32 rfl ?_
   clear m; intro g9 u m
   simp only [ev,zD,zE,zF,zG]
   refine mstoreA m 0 rfl rfl rfl cells_32 (leT rfl) rfl ?_
   clear m; intro u m; simp only [over,zH,zI,zJ,zK,zL,zM,zN,zO,zP,zF,zG,Nat.reduceAdd] at m
   refine n_val (r_assign) (n_nil (k36 _ _ ?_))
   refine c_seq fun K37 k37=>wp_region_lit ?_
   simp only [ev,zD,zE,zF,zG]
   refine n_load rfl ((m.b 0 rfl).full agg_32 cells_32) ?_
   simp only [ev,zD,zE,zF,zG]
   refine mstoreA m 6 rfl rfl rfl cells_32 (leT rfl) rfl ?_
   clear m; intro u m; simp only [over,zH,zI,zJ,zK,zL,zM,zN,zO,zP,zF,zG,Nat.reduceAdd] at m
   refine n_nil (k37 _ _ ?_)
   refine wp_ret ?_
   try simp only [Exit.inBlock,Exit.then,if_true]
   refine fin1 rfl ⟨_,rfl,((m.b 6 rfl).full agg_32 cells_32)⟩ ?_
   try simp only [zD,zE]
   exact ⟨_,rfl,m.ext,by first | exact triq_face ⟨hy0,hy1,hy2,hy3⟩ ▸ rfl | exact triq_edge hno ▸ rfl⟩
  ·
   have hy1:=yes_side hb1
   refine mq m follows_mixed (by kernel_rfl) (q_val (r_move) (q_val (r_move) (q_want rfl ?_)))
   simp only [ev,zD,zE,zF,zG]
   refine ql rfl (fun u m=>((m.b 2 rfl).full agg_51 cells_51)) ?_
   simp only [ev,zD,zE,zF,zG]
   refine q_want rfl (ql rfl (fun u m=>((m.b 0 rfl).full agg_23 cells_23)) ?_)
   simp only [ev,zD,zE,zF,zG]
   refine q_want rfl (q_val (r_move) (q_want rfl (q_val (r_add (m:=1) (n:=1) (r:=2) rfl rfl (by decide)) (q_want rfl (q_val (r_rem (m:=2) (n:=3) (r:=2) rfl rfl (by decide) (by decide)) (q_want rfl (q_val (r_indexAddrA Tryd.underlying25 cells_23 rfl rfl (by decide) (by decide) rfl) ?_)))))))
   simp only [ev,zD,zE,zF,zG]
   refine q_want rfl (ql rfl (fun u m=>((m.b 4 rfl).lies agg_23 cells_23 rfl rfl)) ?_)
   simp only [ev,zD,zE,zF,zG,zH,zI,zJ,zK,Nat.zero_add,Nat.reduceAdd,Nat.reduceMul,Int.reduceToNat]
   refine q_want rfl (qcP rfl rfl (from_c) (q_want rfl ?_))
   simp only [ev,zD,zE,zF,zG]
   refine ql rfl (fun u m=>((m.b 0 rfl).full agg_23 cells_23)) ?_
   simp only [ev,zD,zE,zF,zG]
   refine q_want rfl (ql rfl (fun u m=>((m.b 5 rfl).full agg_23 cells_23)) ?_)
   simp only [ev,zD,zE,zF,zG]
   refine q_want rfl (qcP rfl rfl (from_c) (q_want rfl ?_))
   simp only [ev,zD,zE,zF,zG]
   refine qcP rfl rfl (mCross_c Bv.of Bv.of) (q_want rfl ?_)
   simp only [ev,zD,zE,zF,zG]
   refine qcP rfl rfl (mDot_c Bv.of Bv.of) (q_want rfl ?_)
   simp only [ev,zD,zE,zF,zG]
   refine qcP rfl rfl (Sign_c Bw.up) (q_want rfl (q_val (r_geq rfl rfl) (q_val (r_pickT rfl) (q_val (r_assign) ?_))))
   simp only [ev,zD,zE,zF,zG]
   refine q_nil ?_
   clear m; intro u m
   obtain ⟨b2,hb2⟩ : ∃ b : Bool,b = decide (0 ≤ isign (t.normal.dot ((t.c.sub t.b).cross (x.sub t.b)))):=⟨_,rfl⟩
   rw [← hb2]
   refine k26 _ _ ?_
   refine wp_region_lit (n_val (r_add (m:=1) (n:=1) (r:=2) rfl rfl (by decide)) (n_val (r_move) (n_nil (then_rounds (c_seq fun K38 k38=>wp_region_lit (n_val (r_lssT (m:=2) (n:=3) rfl rfl (by decide)) (n_nil (k38 _ _ ?_))))))))
   refine c_seq fun K39 k39=>c_yes rfl (wp_skip (k39 _ _ ?_))
   refine c_seq fun K40 k40=>wp_block (c_seq fun K41 k41=>wp_region_lit (n_val (r_move) ?_))
   simp only [ev,zD,zE,zF,zG]
   refine n_val (r_index_25_2 rfl rfl) ?_
   simp only [ev,zD,zE,zF,zG]
   refine malloc m zero_23 rfl ?_
   clear m; intro g7 u m
   refine n_val (r_assign) ?_
   simp only [ev,zD,zE,zF,zG]
   refine mstoreA m 0 rfl rfl rfl cells_23 (leT rfl) rfl ?_
   clear m; intro u m; simp only [over,zH,zI,zJ,zK,zL,zM,zN,zO,zP,zF,zG,Nat.reduceAdd] at m
   refine n_nil (k41 _ _ ?_)
   rcases b2 with _ | _
   ·
    have hno : ¬ (¬ t.flat ∧ ins x t):=fun h=>no_side hb2 h.2.2.1
    refine mq m follows_mixed (by kernel_rfl) (q_val (r_move) (q_val (r_move) (q_skipT rfl (q_skipT rfl ?_))))
    simp only [ev,zD,zE,zF,zG]
    refine q_skipT rfl (q_skipT rfl (q_skipT rfl (q_skipT rfl ?_)))
    simp only [ev,zD,zE,zF,zG]
    refine q_skipT rfl (q_skipT rfl (q_skipT rfl (q_skipT rfl ?_)))
    simp only [ev,zD,zE,zF,zG]
    refine q_skipT rfl (q_skipT rfl (q_skipT rfl (q_skipT rfl ?_)))
    simp only [ev,zD,zE,zF,zG]
    refine q_skipT rfl (q_val (r_pickF rfl) (q_val (r_assign) (q_nil ?_)))
    clear m; intro u m
    refine k40 _ _ ?_
    refine wp_region_lit (n_val (r_add (m:=2) (n:=1) (r:=3) rfl rfl (by decide)) ?_)
    simp only [ev,zD,zE,zF,zG]
    refine n_val (r_move) (n_nil (then_rounds (c_seq fun K42 k42=>wp_region_lit (n_val (r_lssF (m:=3) (n:=3) rfl rfl (by decide)) (n_nil (k42 _ _ ?_))))))
    refine c_seq fun K43 k43=>c_no rfl (wp_exit (k4 _ _ ?_))
    refine c_seq fun K44 k44=>c_seq fun K45 k45=>wp_region_lit (n_val (r_move) (n_nil (k45 _ _ ?_)))
    refine c_no rfl (wp_skip (k44 _ _ ?_))
    refine c_seq fun K46 k46=>wp_region_lit ?_
    simp only [ev,zD,zE,zF,zG]
    refine n_bs_67_3 rfl rfl rfl ?_
    intro u g8 e hg hB; replace m:=m.newB e hg hB; clear e hg hB
    simp only [ev,zD,zE,zF,zG]
    refine n_val (r_makeFunc) ?_
    simp only [ev,zD,zE,zF,zG,List.map_toArray,List.map_cons,List.map_nil]
    refine mcall m rfl rfl (least3_c _ (m.b 0 rfl) (m.b 7 rfl) (m.b 6 rfl)) ?_
    clear m; rintro v u m rfl
    refine n_val (r_move) (n_val (r_extract rfl rfl) (n_val (r_extract rfl rfl) ?_))
    simp only [ev,zD,zE,zF,zG]
    refine malloc m zero_32 rfl ?_
    clear m; intro g9 u m
    simp only [ev,zD,zE,zF,zG]
    refine mstoreA m 0 rfl rfl rfl cells_32 (leT rfl) rfl ?_
    clear m; intro u m; simp only [over,zH,zI,zJ,zK,zL,zM,zN,zO,zP,zF,zG,Nat.reduceAdd] at m
    refine n_val (r_assign) (n_nil (k46 _ _ ?_))
    refine c_seq fun K47 k47=>wp_region_lit ?_
    simp only [ev,zD,zE,zF,zG]
    refine n_load rfl ((m.b 0 rfl).full agg_32 cells_32) ?_
    simp only [ev,zD,zE,zF,zG]
    refine mstoreA m 6 rfl rfl rfl cells_32 (leT rfl) rfl ?_
    clear m; intro u m; simp only [over,zH,zI,zJ,zK,zL,zM,zN,zO,zP,zF,zG,Nat.reduceAdd] at m
    refine n_nil (k47 _ _ ?_)
    refine wp_ret ?_
    try simp only [Exit.inBlock,Exit.then,if_true]
    refine fin1 rfl ⟨_,rfl,((m.b 6 rfl).full agg_32 cells_32)⟩ ?_
    try simp only [zD,zE]
    exact ⟨_,rfl,m.ext,by first | exact triq_face ⟨hy0,hy1,hy2,hy3⟩ ▸ rfl | exact triq_edge hno ▸ rfl⟩
   ·
    have hy2:=yes_side hb2
    refine mq m follows_mixed (by kernel_rfl) (q_val (r_move) (q_val (r_move) (q_want rfl ?_)))
    simp only [ev,zD,zE,zF,zG]
    refine ql rfl (fun u m=>((m.b 3 rfl).full agg_51 cells_51)) ?_
    simp only [ev,zD,zE,zF,zG]
    refine q_want rfl (ql rfl (fun u m=>((m.b 0 rfl).full agg_23 cells_23)) ?_)
    simp only [ev,zD,zE,zF,zG]
    refine q_want rfl (q_val (r_move) (q_want rfl (q_val (r_add (m:=2) (n:=1) (r:=3) rfl rfl (by decide)) (q_want rfl (q_val (r_rem (m:=3) (n:=3) (r:=0) rfl rfl (by decide) (by decide)) (q_want rfl (q_val (r_indexAddrA Tryd.underlying25 cells_23 rfl rfl (by decide) (by decide) rfl) ?_)))))))
    simp only [ev,zD,zE,zF,zG]
    refine q_want rfl (ql rfl (fun u m=>((m.b 5 rfl).lies agg_23 cells_23 rfl rfl)) ?_)
    simp only [ev,zD,zE,zF,zG,zH,zI,zJ,zK,Nat.zero_add,Nat.reduceAdd,Nat.reduceMul,Int.reduceToNat]
    refine q_want rfl (qcP rfl rfl (from_c) (q_want rfl ?_))
    simp only [ev,zD,zE,zF,zG]
    refine ql rfl (fun u m=>((m.b 0 rfl).full agg_23 cells_23)) ?_
    simp only [ev,zD,zE,zF,zG]
    refine q_want rfl (ql rfl (fun u m=>((m.b 6 rfl).full agg_23 cells_23)) ?_)
    simp only [ev,zD,zE,zF,zG]
    refine q_want rfl (qcP rfl rfl (from_c) (q_want rfl ?_))
    simp only [ev,zD,zE,zF,zG]
    refine qcP rfl rfl (mCross_c Bv.of Bv.of) (q_want rfl ?_)
    simp only [ev,zD,zE,zF,zG]
    refine qcP rfl rfl (mDot_c Bv.of Bv.of) (q_want rfl ?_)
    simp only [ev,zD,zE,zF,zG]
    refine qcP rfl rfl (Sign_c Bw.up) (q_want rfl (q_val (r_geq rfl rfl) (q_val (r_pickT rfl) (q_val (r_assign) ?_))))
    simp only [ev,zD,zE,zF,zG]
    refine q_nil ?_
    clear m; intro u m
    obtain ⟨b3,hb3⟩ : ∃ b : Bool,b = decide (0 ≤ isign (t.normal.dot ((t.a.sub t.c).cross (x.sub t.c)))):=⟨_,rfl⟩
    rw [← hb3]
    refine k40 _ _ ?_
    refine wp_region_lit (n_val (r_add (m:=2) (n:=1) (r:=3) rfl rfl (by decide)) (n_val (r_move) (n_nil (then_rounds (c_seq fun K48 k48=>wp_region_lit (n_val (r_lssF (m:=3) (n:=3) rfl rfl (by decide)) (n_nil (k48 _ _ ?_))))))))
    refine c_seq fun K49 k49=>c_no rfl (wp_exit (k4 _ _ ?_))
    refine c_seq fun K50 k50=>c_seq fun K51 k51=>wp_region_lit (n_val (r_move) ?_)
    simp only [ev,zD,zE,zF,zG]
    refine n_nil (k51 _ _ ?_)
    refine c_cond rfl (fun hc2=>?_) (fun hc2=>?_)
    ·
     have hy3:=yes_side (hb3.symm.trans hc2).symm
     refine c_seq fun K52 k52=>?_
     refine wp_region_fresh 7 [0,1,2,3,4,5] [⟨6,9,30,[.bool false,.string ⟨#[]⟩]⟩] follows_mixed (by kernel_rfl) (al1 ⟨_,_,_,rfl,by kernel_rfl,_,zero_30,rfl⟩) (ol:=?_) ?hol ?_
     case hol=>simp only [zQ,zR,zS,zT,zU,zV]; try rfl
     intro u e; replace m:=m.ext' e; clear e
     refine e_load rfl (fun u e=>(((m.ext' e).b 3 rfl).full agg_51 cells_51)) ?_
     simp only [ev,zD,zE,zF,zG]
     refine e_val (r_indexAddrA Tryd.underlying25 cells_23 rfl rfl (by decide) (by decide) rfl) ?_
     simp only [ev,zD,zE,zF,zG]
     refine e_load rfl (fun u e=>(((m.ext' e).b 5 rfl).lies agg_23 cells_23 rfl rfl)) ?_
     simp only [ev,zD,zE,zF,zG,zH,zI,zJ,zK,Nat.zero_add,Nat.reduceAdd,Nat.reduceMul,Int.reduceToNat]
     refine e_load rfl (fun u e=>(((m.ext' e).b 6 rfl).full agg_23 cells_23)) ?_
     simp only [ev,zD,zE,zF,zG]
     refine e_callP rfl rfl (from_c) ?_
     simp only [ev,zD,zE,zF,zG]
     refine e_callP rfl rfl (mDot_c Bv.of Bv.of) (e_nil ?_)
     simp only [ev,zD,zE,zF,zG]
     refine mf1 m ?_
     clear m; intro g8 u m
     simp only [zJ,zK,zF,zG]
     refine mstoreA m 0 rfl rfl rfl cells_30 (leT rfl) rfl ?_
     clear m; intro u m; simp only [over,zH,zI,zJ,zK,zL,zM,zN,zO,zP,zF,zG,Nat.reduceAdd] at m
     refine n_nil (k52 _ _ ?_)
     refine c_seq fun K53 k53=>?_
     refine mq_tail m 7 follows_mixed (by kernel_rfl) ?_
     simp only [zH,zI,zJ,zK]
     refine ql rfl (fun u m=>((m.b 0 rfl).full agg_30 cells_30)) ?_
     simp only [ev,zD,zE,zF,zG]
     refine ql rfl (fun u m=>((m.b 0 rfl).full agg_30 cells_30)) ?_
     simp only [ev,zD,zE,zF,zG]
     refine qcP rfl rfl (Mul_c Bw.up Bw.up) ?_
     simp only [ev,zD,zE,zF,zG]
     refine ql rfl (fun u m=>((m.b 4 rfl).full agg_51 cells_51)) ?_
     simp only [ev,zD,zE,zF,zG]
     refine ql rfl (fun u m=>((m.b 4 rfl).full agg_51 cells_51)) ?_
     simp only [ev,zD,zE,zF,zG]
     refine qcP rfl rfl (mDot_c Bv.of Bv.of) ?_
     simp only [ev,zD,zE,zF,zG]
     refine qcP rfl rfl (mFrac_c Bw.up Bw.up (by have:=flat_dot.2 hy0; omega)) (q_nil ?_)
     clear m; intro u m
     simp only [ev,zD,zE,zF,zG]
     refine mstoreA m 5 rfl rfl rfl cells_32 (leT rfl) rfl ?_
     clear m; intro u m; simp only [over,zH,zI,zJ,zK,zL,zM,zN,zO,zP,zF,zG,Nat.reduceAdd] at m
     refine n_nil (k53 _ _ ?_)
     refine wp_ret ?_
     try simp only [Exit.inBlock,Exit.then,if_true]
     refine fin1 rfl ⟨_,rfl,((m.b 5 rfl).full agg_32 cells_32)⟩ ?_
     try simp only [zD,zE]
     exact ⟨_,rfl,m.ext,by first | exact triq_face ⟨hy0,hy1,hy2,hy3⟩ ▸ rfl | exact triq_edge hno ▸ rfl⟩
    ·
     have hno : ¬ (¬ t.flat ∧ ins x t):=fun h=>no_side (hb3.symm.trans hc2).symm h.2.2.2
     refine wp_skip (k50 _ _ ?_)
     refine c_seq fun K54 k54=>wp_region_lit (n_bs_67_3 rfl rfl rfl ?_)
     intro u g8 e hg hB; replace m:=m.newB e hg hB; clear e hg hB
     simp only [ev,zD,zE,zF,zG]
     refine n_val (r_makeFunc) ?_
     simp only [ev,zD,zE,zF,zG,List.map_toArray,List.map_cons,List.map_nil]
     refine mcall m rfl rfl (least3_c _ (m.b 0 rfl) (m.b 7 rfl) (m.b 6 rfl)) ?_
     clear m; rintro v u m rfl
     refine n_val (r_move) (n_val (r_extract rfl rfl) (n_val (r_extract rfl rfl) ?_))
     simp only [ev,zD,zE,zF,zG]
     refine malloc m zero_32 rfl ?_
     clear m; intro g9 u m
     simp only [ev,zD,zE,zF,zG]
     refine mstoreA m 0 rfl rfl rfl cells_32 (leT rfl) rfl ?_
     clear m; intro u m; simp only [over,zH,zI,zJ,zK,zL,zM,zN,zO,zP,zF,zG,Nat.reduceAdd] at m
     refine n_val (r_assign) (n_nil (k54 _ _ ?_))
     refine c_seq fun K55 k55=>wp_region_lit ?_
     simp only [ev,zD,zE,zF,zG]
     refine n_load rfl ((m.b 0 rfl).full agg_32 cells_32) ?_
     simp only [ev,zD,zE,zF,zG]
     refine mstoreA m 6 rfl rfl rfl cells_32 (leT rfl) rfl ?_
     clear m; intro u m; simp only [over,zH,zI,zJ,zK,zL,zM,zN,zO,zP,zF,zG,Nat.reduceAdd] at m
     refine n_nil (k55 _ _ ?_)
     refine wp_ret ?_
     try simp only [Exit.inBlock,Exit.then,if_true]
     refine fin1 rfl ⟨_,rfl,((m.b 6 rfl).full agg_32 cells_32)⟩ ?_
     try simp only [zD,zE]
     exact ⟨_,rfl,m.ext,by first | exact triq_face ⟨hy0,hy1,hy2,hy3⟩ ▸ rfl | exact triq_edge hno ▸ rfl⟩
end Go.Proofs.YtmcgcnpgkkfkoaaDoor
namespace Go.Proofs.YtmcgcnpgkkfkoaaDoor
open Go.RowKit Go.Lith
set_option maxRecDepth 100000
attribute [local irreducible] wpList wpQuiet wpMix wpMixH wpTree Code.wp
theorem far1_c {x : P3} {t : T3} [I3 x] [IT t] {g1 : Nat} (w : World) (hB1 : Blk w g1 [.int .i64 x.x,.int .i64 x.y,.int .i64 x.z] 23) : Does Tryd.prog 15 [tr t,.pointer (some ⟨g1,0,none⟩)] w (fun v _=>v = Q (triq x t)):=by
 refine ⟨en_15,?_⟩
 have m:=Mem.refl w
 go_enter Tryd.func15,Tryd.ntmps15
 refine c_seq fun K1 k1=>wp_region_lit (mboxA m rfl ?_)
 clear m; intro g2 u m
 simp only [ev,zD,zE,zF,zG]
 refine malloc m zero_32 rfl ?_
 clear m; intro g3 u m
 refine n_nil (k1 _ _ ?_)
 refine c_seq fun K2 k2=>wp_region_lit ?_
 simp only [ev,zD,zE,zF,zG]
 refine n_load rfl ((hB1.ext m.ext).lies agg_23 cells_23 rfl rfl) ?_
 simp only [ev,zD,zE,zF,zG,zH,zI,zJ,zK,Nat.zero_add,Nat.reduceAdd,Nat.reduceMul,Int.reduceToNat]
 refine n_load rfl ((m.b 1 rfl).full agg_25 cells_25) ?_
 simp only [ev,zD,zE,zF,zG]
 refine mcallP m rfl rfl (triangle_c) ?_
 clear m; intro u m
 simp only [ev,zD,zE,zF,zG]
 refine mstoreA m 0 rfl rfl rfl cells_32 (leT rfl) rfl ?_
 clear m; intro u m; simp only [over,zH,zI,zJ,zK,zL,zM,zN,zO,zP,zF,zG,Nat.reduceAdd] at m
 refine n_nil (k2 _ _ ?_)
 refine wp_ret ?_
 try simp only [Exit.inBlock,Exit.then,if_true]
 refine fin1 rfl ⟨_,rfl,((m.b 0 rfl).full agg_32 cells_32)⟩ ?_
 try simp only [zD,zE]
 exact ⟨_,rfl,m.ext,rfl⟩
theorem least_c {x : P3} {ts : List T3} [I3 x] {g1 N cap : Nat} {A : Option Addr} (w : World) (hB1 : Blk w g1 [.int .i64 x.x,.int .i64 x.y,.int .i64 x.z] 23) (hT : TrisAt w A N ts) (hN : N < 4611686018427387904) : Does Tryd.prog 14 [.slice A N cap,.func (.func 15) #[] #[.pointer (some ⟨g1,0,none⟩)]] w (fun v _=>v = .tuple #[Q (farq x ts),.bool (decide ((0 : Int) < (N : Int)))]):=by
 refine ⟨en_14,?_⟩
 have m:=Mem.refl w
 go_enter Tryd.func14,Tryd.ntmps14
 refine c_seq fun K1 k1=>wp_region_lit (malloc m zero_32 rfl ?_)
 clear m; intro g2 u m
 refine n_val (r_assign) (n_nil (k1 _ _ ?_))
 refine c_seq fun K2 k2=>wp_region_lit (n_val (r_build_30_) ?_)
 simp only [ev,zD,zE,zF,zG]
 refine mcallP m rfl rfl (whole0_c) ?_
 clear m; intro u m
 simp only [ev,zD,zE,zF,zG]
 refine malloc m zero_32 rfl ?_
 clear m; intro g3 u m
 simp only [ev,zD,zE,zF,zG]
 refine mstoreA m 0 rfl rfl rfl cells_32 (leT rfl) rfl ?_
 clear m; intro u m; simp only [over,zH,zI,zJ,zK,zL,zM,zN,zO,zP,zF,zG,Nat.reduceAdd] at m
 refine n_nil (k2 _ _ ?_)
 refine c_seq fun K3 k3=>c_seq fun K4 k4=>wp_region_lit (n_val (r_move) (n_val (r_lenS rfl Tryd.underlying28 rfl) (n_val (r_move) (n_nil (k4 _ _ ?_)))))
 refine wp_block ?_
 simp only [ev,zD,zE,zF,zG]
 try simp only [Nat.zero_add,Nat.reduceAdd,Nat.reduceMul,Int.reduceToNat]
 refine c_loopg [14] [7,8,9,15,16,17,18,19,20,21,22,23,24,25,26,27,28,29,30,31] (fun n vs wl=>∃ (k : Nat),vs = [.int .i64 (k:Int)] ∧ Mem w wl [bI g3 [.bool (wneg (farq x (ts.take k)).num),.string (wmag (farq x (ts.take k)).num),.bool (wneg ((farq x (ts.take k)).den : Int)),.string (wmag ((farq x (ts.take k)).den : Int))] 32,bI g2 [.bool false,.string ⟨#[]⟩,.bool false,.string ⟨#[]⟩] 32] ∧ (k ≤ N) ∧ (n = N - k)) ?_ ?_
 ·
  apply Exists.intro
  simp only [zQ,zR,zD,zE]
  exact ⟨0,rfl,m,Nat.zero_le _,rfl⟩
 ·
  intro n vs wr hI u
  clear m
  obtain ⟨k,rfl,m,hk,hn⟩:=hI
  simp only [setG_cons,setG_nil,setMany_cons,setMany_nil,zF,zG]
  refine c_seq fun K5 k5=>wp_region_lit (n_val (r_lss rfl rfl) (n_nil (k5 _ _ ?_)))
  refine c_seq fun K6 k6=>?_
  simp only [ev,zD,zE,zF,zG]
  refine c_if rfl (fun hc1=>?_) (fun hc1=>?_)
  ·
   obtain ⟨t,ht,_,a,rfl,hrow⟩:=hT.get (i:=k) (by omega)
   refine wp_skip (k6 _ _ ?_)
   refine c_seq fun K7 k7=>wp_block (c_seq fun K8 k8=>wp_region_lit (n_val (r_move) ?_))
   simp only [ev,zD,zE,zF,zG]
   refine n_val (r_indexAddrS Tryd.underlying28 cells_25 rfl rfl (by omega) (by omega) (addrN (Int.toNat_natCast _))) ?_
   simp only [ev,zD,zE,zF,zG]
   refine n_load rfl ((hrow.ext m.ext).lies agg_25 cells_25) ?_
   simp only [ev,zD,zE,zF,zG]
   refine malloc m zero_25 rfl ?_
   clear m; intro g4 u m
   refine n_val (r_assign) ?_
   simp only [ev,zD,zE,zF,zG]
   refine mstoreA m 0 rfl rfl rfl cells_25 (leT rfl) rfl ?_
   clear m; intro u m; simp only [over,zH,zI,zJ,zK,zL,zM,zN,zO,zP,zF,zG,Nat.reduceAdd] at m
   refine n_nil (k8 _ _ ?_)
   refine c_seq fun K9 k9=>wp_region_lit (n_val (r_move) ?_)
   simp only [ev,zD,zE,zF,zG]
   refine n_load rfl ((m.b 0 rfl).full agg_25 cells_25) ?_
   simp only [ev,zD,zE,zF,zG]
   refine mcall m rfl rfl (far1_c (t:=t) _ (hB1.ext m.ext)) ?_
   clear m; rintro v u m rfl
   simp only [ev,zD,zE,zF,zG]
   refine malloc m zero_32 rfl ?_
   clear m; intro g5 u m
   simp only [ev,zD,zE,zF,zG]
   refine mstoreA m 0 rfl rfl rfl cells_32 (leT rfl) rfl ?_
   clear m; intro u m; simp only [over,zH,zI,zJ,zK,zL,zM,zN,zO,zP,zF,zG,Nat.reduceAdd] at m
   refine n_nil (k9 _ _ ?_)
   refine c_seq fun K10 k10=>?_
   rcases Nat.eq_zero_or_pos k with hk0 | hk0
   ·
    have hq : farq x (ts.take (k + 1)) = triq x t:=by subst hk0; exact farq_one ht
    refine wp_region_lit (n_val (r_move) ?_)
    simp only [ev,zD,zE,zF,zG]
    refine n_val (r_eqlT rfl rfl (by omega)) (n_val (r_move) (n_skipF rfl (n_skipF rfl ?_)))
    simp only [ev,zD,zE,zF,zG]
    refine n_skipF rfl (n_skipF rfl (n_val (r_pickT rfl) (n_nil (k10 _ _ ?_))))
    refine c_yes rfl (wp_region_lit ?_)
    simp only [ev,zD,zE,zF,zG]
    refine n_load rfl ((m.b 0 rfl).full agg_32 cells_32) ?_
    simp only [ev,zD,zE,zF,zG]
    refine mstoreA m 2 rfl rfl rfl cells_32 (leT rfl) rfl ?_
    clear m; intro u m; simp only [over,zH,zI,zJ,zK,zL,zM,zN,zO,zP,zF,zG,Nat.reduceAdd] at m
    refine n_nil (k7 _ _ ?_)
    refine wp_region_lit (n_val (r_add rfl rfl (wrap_i64 (by omega) (by omega))) (n_val (r_move) (n_nil ?_)))
    simp only [ev,zD,zE,zF,zG]
    simp only [Exit.inBlock,Exit.then]
    refine ⟨N - (k + 1),_,?_,rfl,?_,?_⟩
    · omega
    · simp only [zQ,zR,zD,zE,setG_cons,setG_nil,setMany_cons,setMany_nil,zF,zG]
    ·
     simp only [zQ,zR,zD,zE]
     exact ⟨k + 1,rfl,((m.re 2 rfl (by rw [hq]; exact (m.b 2 rfl))).sel [false,false,true,true]),by omega,rfl⟩
   ·
    refine wp_region_lit (n_val (r_move) ?_)
    simp only [ev,zD,zE,zF,zG]
    refine n_val (r_eqlF rfl rfl (by omega)) (n_val (r_move) (n_want rfl ?_))
    simp only [ev,zD,zE,zF,zG]
    refine n_load rfl ((m.b 0 rfl).full agg_32 cells_32) ?_
    simp only [ev,zD,zE,zF,zG]
    refine n_want rfl (n_load rfl ((m.b 2 rfl).full agg_32 cells_32) ?_)
    simp only [ev,zD,zE,zF,zG]
    refine n_want rfl (mcallP m rfl rfl (CmpFrac_c Bq.up (Bq.mono (farq_bq (fun u hu=>hT.it u (List.mem_of_mem_take hu))) (by decide))) ?_)
    clear m; intro u m
    refine n_want rfl (n_val (r_lss rfl rfl) (n_val (r_pickF rfl) (n_nil (k10 _ _ ?_))))
    simp only [ev,zD,zE,zF,zG]
    refine c_if rfl (fun hc2=>?_) (fun hc2=>?_)
    ·
     have hq:=(farq_step (x:=x) (by omega) ht).trans (if_pos (qcmp_lt.1 hc2))
     refine wp_region_lit (n_load rfl ((m.b 0 rfl).full agg_32 cells_32) ?_)
     simp only [ev,zD,zE,zF,zG]
     refine mstoreA m 2 rfl rfl rfl cells_32 (leT rfl) rfl ?_
     clear m; intro u m; simp only [over,zH,zI,zJ,zK,zL,zM,zN,zO,zP,zF,zG,Nat.reduceAdd] at m
     refine n_nil (k7 _ _ ?_)
     refine wp_region_lit (n_val (r_add rfl rfl (wrap_i64 (by omega) (by omega))) (n_val (r_move) (n_nil ?_)))
     simp only [ev,zD,zE,zF,zG]
     simp only [Exit.inBlock,Exit.then]
     refine ⟨N - (k + 1),_,?_,rfl,?_,?_⟩
     · omega
     · simp only [zQ,zR,zD,zE,setG_cons,setG_nil,setMany_cons,setMany_nil,zF,zG]
     ·
      simp only [zQ,zR,zD,zE]
      exact ⟨k + 1,rfl,((m.re 2 rfl (by rw [hq]; exact (m.b 2 rfl))).sel [false,false,true,true]),by omega,rfl⟩
    ·
     have hq:=(farq_step (x:=x) (by omega) ht).trans (if_neg (mt qcmp_lt.2 hc2))
     refine wp_skip (k7 _ _ ?_)
     refine wp_region_lit (n_val (r_add rfl rfl (wrap_i64 (by omega) (by omega))) (n_val (r_move) (n_nil ?_)))
     simp only [ev,zD,zE,zF,zG]
     simp only [Exit.inBlock,Exit.then]
     refine ⟨N - (k + 1),_,?_,rfl,?_,?_⟩
     · omega
     · simp only [zQ,zR,zD,zE,setG_cons,setG_nil,setMany_cons,setMany_nil,zF,zG]
     ·
      simp only [zQ,zR,zD,zE]
      exact ⟨k + 1,rfl,((m.re 2 rfl (by rw [hq]; exact (m.b 2 rfl))).sel [false,false,true,true]),by omega,rfl⟩
  ·
   have hkN : k = N:=by omega
   rw [hkN,show ts.take N = ts from List.take_of_length_le (by rw [hT.len]; exact Nat.le_refl _)] at m
   refine wp_exit (k3 _ _ ?_)
   refine c_seq fun K11 k11=>wp_region_lit (n_load rfl ((m.b 0 rfl).full agg_32 cells_32) ?_)
   simp only [ev,zD,zE,zF,zG]
   refine n_val (r_move) (n_val (r_lenS rfl Tryd.underlying28 rfl) (n_val (r_gtr rfl rfl) ?_))
   simp only [ev,zD,zE,zF,zG]
   refine mstoreA m 1 rfl rfl rfl cells_32 (leT rfl) rfl ?_
   clear m; intro u m; simp only [over,zH,zI,zJ,zK,zL,zM,zN,zO,zP,zF,zG,Nat.reduceAdd] at m
   refine n_val (r_assign) (n_nil (k11 _ _ ?_))
   refine wp_ret ?_
   simp only [ev,zD,zE,zF,zG]
   try simp only [Exit.inBlock,Exit.then,if_true]
   refine fin2 rfl ⟨_,rfl,((m.b 1 rfl).full agg_32 cells_32)⟩ rfl ?_
   try simp only [zD,zE]
   exact ⟨_,rfl,m.ext,rfl⟩
theorem Far2_c {x : P3} {ts : List T3} [I3 x] {N cap : Nat} {A : Option Addr} (w : World) (hT : TrisAt w A N ts) (hN : N < 4611686018427387904) : Does Tryd.prog 5 [pt x,.slice A N cap] w (fun v _=>v = .tuple #[Q (farq x ts),.bool (decide ((0 : Int) < (N : Int)))]):=by
 refine ⟨en_5,?_⟩
 have m:=Mem.refl w
 go_enter Tryd.func5,Tryd.ntmps5
 refine c_seq fun K1 k1=>wp_region_lit (mboxA m rfl ?_)
 clear m; intro g1 u m
 simp only [ev,zD,zE,zF,zG]
 refine malloc m zero_32 rfl ?_
 clear m; intro g2 u m
 refine n_val (r_assign) (n_nil (k1 _ _ ?_))
 refine c_seq fun K2 k2=>wp_region_lit (n_val (r_move) ?_)
 simp only [ev,zD,zE,zF,zG]
 refine n_val (r_makeFunc) ?_
 simp only [ev,zD,zE,zF,zG,List.map_toArray,List.map_cons,List.map_nil]
 refine mcall m rfl rfl (least_c _ (m.b 1 rfl) (hT.ext m.ext) hN) ?_
 clear m; rintro v u m rfl
 refine n_val (r_extract rfl rfl) (n_val (r_extract rfl rfl) ?_)
 simp only [ev,zD,zE,zF,zG]
 refine mstoreA m 0 rfl rfl rfl cells_32 (leT rfl) rfl ?_
 clear m; intro u m; simp only [over,zH,zI,zJ,zK,zL,zM,zN,zO,zP,zF,zG,Nat.reduceAdd] at m
 refine n_val (r_assign) (n_nil (k2 _ _ ?_))
 refine wp_ret ?_
 simp only [ev,zD,zE,zF,zG]
 try simp only [Exit.inBlock,Exit.then,if_true]
 refine fin2 rfl ⟨_,rfl,((m.b 0 rfl).full agg_32 cells_32)⟩ rfl ?_
 try simp only [zD,zE]
 exact ⟨_,rfl,m.ext,rfl⟩
end Go.Proofs.YtmcgcnpgkkfkoaaDoor
namespace Go.Proofs.YtmcgcnpgkkfkoaaDoor
open Go.RowKit Go.Lith
set_option maxRecDepth 100000
attribute [local irreducible] wpList wpQuiet wpMix wpMixH wpTree Code.wp
theorem Area_c {ts : List T3} {N cap : Nat} {A : Option Addr} (w : World) (hT : TrisAt w A N ts) (hN : N < 4611686018427387904) : Does Tryd.prog 6 [.slice A N cap] w (fun v _=>v = .tuple #[W (sumT lowA ts),W (sumT highA ts)]):=by
 refine ⟨en_6,?_⟩
 have m:=Mem.refl w
 go_enter Tryd.func6,Tryd.ntmps6
 refine c_seq fun K1 k1=>wp_region_lit (malloc m zero_30 rfl ?_)
 clear m; intro g1 u m
 simp only [ev,zD,zE,zF,zG]
 refine malloc m zero_30 rfl ?_
 clear m; intro g2 u m
 refine n_nil (k1 _ _ ?_)
 refine c_seq fun K2 k2=>c_seq fun K3 k3=>wp_region_lit (n_val (r_move) (n_val (r_lenS rfl Tryd.underlying28 rfl) (n_val (r_move) ?_)))
 simp only [ev,zD,zE,zF,zG]
 refine n_nil (k3 _ _ ?_)
 refine wp_block ?_
 try simp only [Nat.zero_add,Nat.reduceAdd,Nat.reduceMul,Int.reduceToNat]
 refine c_loopg [12] [5,6,7,8,9,13,14,15,16,17,18,19,20,21,22,23,24,25,26,27,28,29,30,31,32,33,34,35,36,37,38,39,40] (fun n vs wl=>∃ (k : Nat),vs = [.int .i64 (k:Int)] ∧ Mem w wl [bI g2 [.bool (wneg (sumT highA (ts.take k))),.string (wmag (sumT highA (ts.take k)))] 30,bI g1 [.bool (wneg (sumT lowA (ts.take k))),.string (wmag (sumT lowA (ts.take k)))] 30] ∧ (k ≤ N) ∧ (n = N - k)) ?_ ?_
 ·
  apply Exists.intro
  simp only [zQ,zR,zD,zE]
  exact ⟨0,rfl,m,Nat.zero_le _,rfl⟩
 ·
  intro n vs wr hI u
  clear m
  obtain ⟨k,rfl,m,hk,hn⟩:=hI
  simp only [setG_cons,setG_nil,setMany_cons,setMany_nil,zF,zG]
  refine c_seq fun K4 k4=>wp_region_lit (n_val (r_lss rfl rfl) (n_nil (k4 _ _ ?_)))
  refine c_seq fun K5 k5=>?_
  simp only [ev,zD,zE,zF,zG]
  refine c_if rfl (fun hc1=>?_) (fun hc1=>?_)
  ·
   obtain ⟨t,ht,_,a,rfl,hrow⟩:=hT.get (i:=k) (by omega)
   haveI : Bw 364 (sumT lowA (ts.take k)):=⟨sumT_bdt (m:=300) (fun u hu=>by haveI:=hT.it u hu; exact lowA_bd) (by rw [hT.len]; omega)⟩
   haveI : Bw 365 (sumT highA (ts.take k)):=⟨sumT_bdt (m:=301) (fun u hu=>by haveI:=hT.it u hu; exact highA_bd) (by rw [hT.len]; omega)⟩
   refine wp_skip (k5 _ _ ?_)
   refine c_seq fun K6 k6=>wp_block (c_seq fun K7 k7=>wp_region_lit (n_val (r_indexAddrS Tryd.underlying28 cells_25 rfl rfl (by omega) (by omega) (addrN (Int.toNat_natCast _))) ?_))
   simp only [ev,zD,zE,zF,zG]
   refine n_load rfl ((hrow.ext m.ext).lies agg_25 cells_25) ?_
   simp only [ev,zD,zE,zF,zG]
   refine malloc m zero_25 rfl ?_
   clear m; intro g3 u m
   simp only [ev,zD,zE,zF,zG]
   refine mstoreA m 0 rfl rfl rfl cells_25 (leT rfl) rfl ?_
   clear m; intro u m; simp only [over,zH,zI,zJ,zK,zL,zM,zN,zO,zP,zF,zG,Nat.reduceAdd] at m
   refine n_nil (k7 _ _ ?_)
   refine c_seq fun K8 k8=>wp_region_lit (n_load rfl ((m.b 0 rfl).full agg_25 cells_25) ?_)
   simp only [ev,zD,zE,zF,zG]
   refine mcallP m rfl rfl (Normal_c (t:=t)) ?_
   clear m; intro u m
   simp only [ev,zD,zE,zF,zG]
   refine malloc m zero_51 rfl ?_
   clear m; intro g4 u m
   simp only [ev,zD,zE,zF,zG]
   refine mstoreA m 0 rfl rfl rfl cells_51 (leT rfl) rfl ?_
   clear m; intro u m; simp only [over,zH,zI,zJ,zK,zL,zM,zN,zO,zP,zF,zG,Nat.reduceAdd] at m
   refine n_nil (k8 _ _ ?_)
   refine c_seq fun K9 k9=>wp_region_lit (n_load rfl ((m.b 0 rfl).full agg_51 cells_51) ?_)
   simp only [ev,zD,zE,zF,zG]
   refine n_load rfl ((m.b 0 rfl).full agg_51 cells_51) ?_
   simp only [ev,zD,zE,zF,zG]
   refine mcallP m rfl rfl (mDot_c Bv.of Bv.of) ?_
   clear m; intro u m
   simp only [ev,zD,zE,zF,zG]
   refine malloc m zero_30 rfl ?_
   clear m; intro g5 u m
   simp only [ev,zD,zE,zF,zG]
   refine mstoreA m 0 rfl rfl rfl cells_30 (leT rfl) rfl ?_
   clear m; intro u m; simp only [over,zH,zI,zJ,zK,zL,zM,zN,zO,zP,zF,zG,Nat.reduceAdd] at m
   refine n_nil (k9 _ _ ?_)
   refine c_seq fun K10 k10=>wp_region_lit (n_load rfl ((m.b 0 rfl).full agg_30 cells_30) ?_)
   simp only [ev,zD,zE,zF,zG]
   refine mcallP m rfl rfl (Root_c Bw.up (dot_nn _)) ?_
   clear m; intro u m
   refine n_val (r_move) (n_val (r_extract rfl rfl) (n_val (r_extract rfl rfl) ?_))
   simp only [ev,zD,zE,zF,zG]
   refine malloc m zero_30 rfl ?_
   clear m; intro g6 u m
   simp only [ev,zD,zE,zF,zG]
   refine mstoreA m 0 rfl rfl rfl cells_30 (leT rfl) rfl ?_
   clear m; intro u m; simp only [over,zH,zI,zJ,zK,zL,zM,zN,zO,zP,zF,zG,Nat.reduceAdd] at m
   refine n_val (r_assign) (n_nil ?_)
   simp only [ev,zD,zE,zF,zG]
   rw [show ((isqrt (t.normal.dot t.normal).natAbs : Nat) : Int) = lowA t from rfl] at m ⊢
   refine k10 _ _ ?_
   refine c_seq fun K11 k11=>?_
   refine mq_tail m 6 follows_mixed (by kernel_rfl) ?_
   simp only [zH,zI,zJ,zK]
   refine ql rfl (fun u m=>((m.b 5 rfl).full agg_30 cells_30)) ?_
   simp only [ev,zD,zE,zF,zG]
   refine ql rfl (fun u m=>((m.b 0 rfl).full agg_30 cells_30)) ?_
   simp only [ev,zD,zE,zF,zG]
   refine qcP rfl rfl (Add_c Bw.up Bw.up) ?_
   simp only [ev,zD,zE,zF,zG]
   refine ql rfl (fun u m=>((m.b 4 rfl).full agg_30 cells_30)) ?_
   simp only [ev,zD,zE,zF,zG]
   refine ql rfl (fun u m=>((m.b 0 rfl).full agg_30 cells_30)) ?_
   simp only [ev,zD,zE,zF,zG]
   refine qcP rfl rfl (Add_c Bw.up Bw.up) (q_nil ?_)
   clear m; intro u m
   simp only [ev,zD,zE,zF,zG]
   refine mstoreA m 5 rfl rfl rfl cells_30 (leT rfl) rfl ?_
   clear m; intro u m; simp only [over,zH,zI,zJ,zK,zL,zM,zN,zO,zP,zF,zG,Nat.reduceAdd] at m
   refine mstoreA m 4 rfl rfl rfl cells_30 (leT rfl) rfl ?_
   clear m; intro u m; simp only [over,zH,zI,zJ,zK,zL,zM,zN,zO,zP,zF,zG,Nat.reduceAdd] at m
   refine n_nil (k11 _ _ ?_)
   refine c_seq fun K12 k12=>mq m follows_mixed (by kernel_rfl) (ql rfl (fun u m=>((m.b 0 rfl).full agg_30 cells_30)) ?_)
   simp only [ev,zD,zE,zF,zG]
   refine ql rfl (fun u m=>((m.b 0 rfl).full agg_30 cells_30)) ?_
   simp only [ev,zD,zE,zF,zG]
   refine qcP rfl rfl (Mul_c Bw.up Bw.up) ?_
   simp only [ev,zD,zE,zF,zG]
   refine ql rfl (fun u m=>((m.b 1 rfl).full agg_30 cells_30)) ?_
   simp only [ev,zD,zE,zF,zG]
   refine q_val (eq_neq_30 rfl rfl) (q_nil ?_)
   clear m; intro u m
   refine k12 _ _ ?_
   simp only [ev,zD,zE,zF,zG]
   refine c_if rfl (fun hc2=>?_) (fun hc2=>?_)
   ·
    have hh:=(sumT_step (f:=highA) ht).trans (highA_ne fun e=>hc2 (W_eq_iff.2 e))
    refine mq_tail m 3 follows_mixed (by kernel_rfl) ?_
    simp only [zH,zI,zJ,zK]
    refine ql rfl (fun u m=>((m.b 4 rfl).full agg_30 cells_30)) ?_
    simp only [ev,zD,zE,zF,zG]
    refine qcP rfl rfl (From_c Iw.h) ?_
    simp only [ev,zD,zE,zF,zG]
    refine qcP rfl rfl (Add_c Bw.up Bw.up) (q_nil ?_)
    clear m; intro u m
    simp only [ev,zD,zE,zF,zG]
    refine mstoreA m 4 rfl rfl rfl cells_30 (leT rfl) rfl ?_
    clear m; intro u m; simp only [over,zH,zI,zJ,zK,zL,zM,zN,zO,zP,zF,zG,Nat.reduceAdd] at m
    refine n_nil (k6 _ _ ?_)
    refine wp_region_lit (n_val (r_add rfl rfl (wrap_i64 (by omega) (by omega))) (n_val (r_move) (n_nil ?_)))
    simp only [ev,zD,zE,zF,zG]
    simp only [Exit.inBlock,Exit.then]
    refine ⟨N - (k + 1),_,?_,rfl,?_,?_⟩
    · omega
    · simp only [zQ,zR,zD,zE,setG_cons,setG_nil,setMany_cons,setMany_nil,zF,zG]
    ·
     simp only [zQ,zR,zD,zE]
     exact ⟨k + 1,rfl,(((m.re 5 rfl (by rw [sumT_step ht]; exact (m.b 5 rfl))).re 4 rfl (by rw [hh]; exact (m.b 4 rfl))).sel [false,false,false,false,true,true]),by omega,rfl⟩
   ·
    have hh:=(sumT_step (f:=highA) ht).trans (highA_eq (W_eq_iff.1 (Decidable.of_not_not hc2)))
    refine wp_skip (k6 _ _ ?_)
    refine wp_region_lit (n_val (r_add rfl rfl (wrap_i64 (by omega) (by omega))) (n_val (r_move) (n_nil ?_)))
    simp only [ev,zD,zE,zF,zG]
    simp only [Exit.inBlock,Exit.then]
    refine ⟨N - (k + 1),_,?_,rfl,?_,?_⟩
    · omega
    · simp only [zQ,zR,zD,zE,setG_cons,setG_nil,setMany_cons,setMany_nil,zF,zG]
    ·
     simp only [zQ,zR,zD,zE]
     exact ⟨k + 1,rfl,(((m.re 5 rfl (by rw [sumT_step ht]; exact (m.b 5 rfl))).re 4 rfl (by rw [hh]; exact (m.b 4 rfl))).sel [false,false,false,false,true,true]),by omega,rfl⟩
  ·
   have hkN : k = N:=by omega
   rw [hkN,show ts.take N = ts from List.take_of_length_le (by rw [hT.len]; exact Nat.le_refl _)] at m
   refine wp_exit (k2 _ _ ?_)
   refine c_seq fun K13 k13=>?_
   refine mtree m [false,false] (.two 0 (.two 1 (.one 2 (.one 3 .nil)) 2 (.one 1 (.one 3 .nil))) 1 (.one 0 (.one 2 (.one 3 .nil)))) follows_mixed (by kernel_rfl) (panic_put (fun _ _ _ _ _ h=>h)) ?_
   clear m; intro u m
   refine t_two (by simp only [zS,zT,zU,zV]; rfl) (by simp only [zS,zT,zU,zV]; rfl) ?_ ?_
   ·
    refine n_load rfl ((m.b 1 rfl).full agg_30 cells_30) ?_
    simp only [ev,zD,zE,zF,zG]
    refine n_nil ?_
    refine ⟨m.sel [false,false],?_⟩
    refine t_two (by simp only [zS,zT,zU,zV]; rfl) (by simp only [zS,zT,zU,zV]; rfl) ?_ ?_
    ·
     refine n_load rfl ((m.b 0 rfl).full agg_30 cells_30) ?_
     simp only [ev,zD,zE,zF,zG]
     refine n_nil ?_
     refine ⟨m.sel [false,false],?_⟩
     refine t_one (by simp only [zS,zT,zU,zV]; rfl) (mstoreA m 1 rfl rfl rfl cells_30 (leT rfl) rfl ?_)
     clear m; intro u m; simp only [over,zH,zI,zJ,zK,zL,zM,zN,zO,zP,zF,zG,Nat.reduceAdd] at m
     refine n_nil ?_
     refine ⟨m.sel [false,false],?_⟩
     refine t_one (by simp only [zS,zT,zU,zV]; rfl) (mstoreA m 0 rfl rfl rfl cells_30 (leT rfl) rfl ?_)
     clear m; intro u m; simp only [over,zH,zI,zJ,zK,zL,zM,zN,zO,zP,zF,zG,Nat.reduceAdd] at m
     refine n_nil ?_
     refine ⟨m.sel [false,false],?_⟩
     refine t_nil (k13 _ _ ?_)
     refine wp_ret ?_
     try simp only [Exit.inBlock,Exit.then,if_true]
     refine fin2 rfl ⟨_,rfl,((m.b 1 rfl).full agg_30 cells_30)⟩ ⟨_,rfl,((m.b 0 rfl).full agg_30 cells_30)⟩ ?_
     try simp only [zD,zE]
     exact ⟨_,rfl,m.ext,rfl⟩
    ·
     refine mstoreA m 1 rfl rfl rfl cells_30 (leT rfl) rfl ?_
     clear m; intro u m; simp only [over,zH,zI,zJ,zK,zL,zM,zN,zO,zP,zF,zG,Nat.reduceAdd] at m
     refine n_nil ?_
     refine ⟨m.sel [false,false],?_⟩
     refine t_one (by simp only [zS,zT,zU,zV]; rfl) (n_load rfl ((m.b 0 rfl).full agg_30 cells_30) ?_)
     simp only [ev,zD,zE,zF,zG]
     refine n_nil ?_
     refine ⟨m.sel [false,false],?_⟩
     refine t_one (by simp only [zS,zT,zU,zV]; rfl) (mstoreA m 0 rfl rfl rfl cells_30 (leT rfl) rfl ?_)
     clear m; intro u m; simp only [over,zH,zI,zJ,zK,zL,zM,zN,zO,zP,zF,zG,Nat.reduceAdd] at m
     refine n_nil ?_
     refine ⟨m.sel [false,false],?_⟩
     refine t_nil (k13 _ _ ?_)
     refine wp_ret ?_
     try simp only [Exit.inBlock,Exit.then,if_true]
     refine fin2 rfl ⟨_,rfl,((m.b 1 rfl).full agg_30 cells_30)⟩ ⟨_,rfl,((m.b 0 rfl).full agg_30 cells_30)⟩ ?_
     try simp only [zD,zE]
     exact ⟨_,rfl,m.ext,rfl⟩
   ·
    refine n_load rfl ((m.b 0 rfl).full agg_30 cells_30) ?_
    simp only [ev,zD,zE,zF,zG]
    refine n_nil ?_
    refine ⟨m.sel [false,false],?_⟩
    refine t_one (by simp only [zS,zT,zU,zV]; rfl) (n_load rfl ((m.b 1 rfl).full agg_30 cells_30) ?_)
    simp only [ev,zD,zE,zF,zG]
    refine n_nil ?_
    refine ⟨m.sel [false,false],?_⟩
    refine t_one (by simp only [zS,zT,zU,zV]; rfl) (mstoreA m 1 rfl rfl rfl cells_30 (leT rfl) rfl ?_)
    clear m; intro u m; simp only [over,zH,zI,zJ,zK,zL,zM,zN,zO,zP,zF,zG,Nat.reduceAdd] at m
    refine n_nil ?_
    refine ⟨m.sel [false,false],?_⟩
    refine t_one (by simp only [zS,zT,zU,zV]; rfl) (mstoreA m 0 rfl rfl rfl cells_30 (leT rfl) rfl ?_)
    clear m; intro u m; simp only [over,zH,zI,zJ,zK,zL,zM,zN,zO,zP,zF,zG,Nat.reduceAdd] at m
    refine n_nil ?_
    refine ⟨m.sel [false,false],?_⟩
    refine t_nil (k13 _ _ ?_)
    refine wp_ret ?_
    try simp only [Exit.inBlock,Exit.then,if_true]
    refine fin2 rfl ⟨_,rfl,((m.b 1 rfl).full agg_30 cells_30)⟩ ⟨_,rfl,((m.b 0 rfl).full agg_30 cells_30)⟩ ?_
    try simp only [zD,zE]
    exact ⟨_,rfl,m.ext,rfl⟩
theorem prod3_c {x y z : Int} [Iw x] [Iw y] [Iw z] : Pure Tryd.prog 48 [.int .i64 x,.int .i64 y,.int .i64 z] (W (x * (y * z))):=by
 intro w
 refine ⟨en_48,?_⟩
 have m:=Mem.refl w
 go_enter Tryd.func48,Tryd.ntmps48
 refine c_seq fun K1 k1=>wp_region_lit (malloc m zero_30 rfl ?_)
 clear m; intro g1 u m
 refine n_nil (k1 _ _ ?_)
 refine c_seq fun K2 k2=>wp_region_lit (n_val (r_move) ?_)
 simp only [ev,zD,zE,zF,zG]
 refine mcallP m rfl rfl (From_c Iw.h) ?_
 clear m; intro u m
 refine n_val (r_move) ?_
 simp only [ev,zD,zE,zF,zG]
 refine mcallP m rfl rfl (From_c Iw.h) ?_
 clear m; intro u m
 refine n_val (r_move) ?_
 simp only [ev,zD,zE,zF,zG]
 refine mcallP m rfl rfl (From_c Iw.h) ?_
 clear m; intro u m
 simp only [ev,zD,zE,zF,zG]
 refine mcallP m rfl rfl (Mul_c Bw.up Bw.up) ?_
 clear m; intro u m
 simp only [ev,zD,zE,zF,zG]
 refine mcallP m rfl rfl (Mul_c Bw.up Bw.up) ?_
 clear m; intro u m
 simp only [ev,zD,zE,zF,zG]
 refine mstoreA m 0 rfl rfl rfl cells_30 (leT rfl) rfl ?_
 clear m; intro u m; simp only [over,zH,zI,zJ,zK,zL,zM,zN,zO,zP,zF,zG,Nat.reduceAdd] at m
 refine n_nil (k2 _ _ ?_)
 refine wp_ret ?_
 try simp only [Exit.inBlock,Exit.then,if_true]
 refine fin1 rfl ⟨_,rfl,((m.b 0 rfl).full agg_30 cells_30)⟩ ?_
 try simp only [zD,zE]
 exact ⟨_,rfl,m.ext,rfl⟩
theorem Volume6_c {ts : List T3} {N cap : Nat} {A : Option Addr} (w : World) (hT : TrisAt w A N ts) (hN : N < 4611686018427387904) : Does Tryd.prog 25 [.slice A N cap] w (fun v _=>v = W (sumT det ts)):=by
 refine ⟨en_25,?_⟩
 have m:=Mem.refl w
 go_enter Tryd.func25,Tryd.ntmps25
 refine c_seq fun K1 k1=>wp_region_lit (malloc m zero_30 rfl ?_)
 clear m; intro g1 u m
 refine n_nil (k1 _ _ ?_)
 refine c_seq fun K2 k2=>wp_region_lit ?_
 simp only [ev,zD,zE,zF,zG]
 refine malloc m zero_30 rfl ?_
 clear m; intro g2 u m
 refine n_nil (k2 _ _ ?_)
 refine c_seq fun K3 k3=>wp_region_lit (n_val (r_assign) (n_nil (k3 _ _ ?_)))
 refine c_seq fun K4 k4=>c_seq fun K5 k5=>wp_region_lit (n_val (r_move) (n_val (r_lenS rfl Tryd.underlying28 rfl) ?_))
 simp only [ev,zD,zE,zF,zG]
 refine n_val (r_move) (n_nil (k5 _ _ ?_))
 refine wp_block ?_
 simp only [ev,zD,zE,zF,zG]
 try simp only [Nat.zero_add,Nat.reduceAdd,Nat.reduceMul,Int.reduceToNat]
 refine c_loopg [16] [6,7,8,9,11,13,17,18,19,20,21,22,23,24,25,26,27,28,29,30,31,32,33,34,35,36,37,38,39,40,41,42,43,44,45,46,47,48,49,50,51,52,53,54,55,56,57,58,59,60,61,62,63,64,65,66,67,68,69,70,71,72,73,74,75,76,77,78,79,80,81,82,83,84,85,86,87,88,89,90,91,92,93,94] (fun n vs wl=>∃ (k : Nat),vs = [.int .i64 (k:Int)] ∧ Mem w wl [bI g2 [.bool (wneg (sumT det (ts.take k))),.string (wmag (sumT det (ts.take k)))] 30,bI g1 [.bool false,.string ⟨#[]⟩] 30] ∧ (k ≤ N) ∧ (n = N - k)) ?_ ?_
 ·
  apply Exists.intro
  simp only [zQ,zR,zD,zE]
  exact ⟨0,rfl,m,Nat.zero_le _,rfl⟩
 ·
  intro n vs wr hI u
  clear m
  obtain ⟨k,rfl,m,hk,hn⟩:=hI
  simp only [setG_cons,setG_nil,setMany_cons,setMany_nil,zF,zG]
  refine c_seq fun K6 k6=>wp_region_lit (n_val (r_lss rfl rfl) (n_nil (k6 _ _ ?_)))
  refine c_seq fun K7 k7=>?_
  simp only [ev,zD,zE,zF,zG]
  refine c_if rfl (fun hc1=>?_) (fun hc1=>?_)
  ·
   obtain ⟨t,ht,_,a,rfl,hrow⟩:=hT.get (i:=k) (by omega)
   haveI : Bw 264 (sumT det (ts.take k)):=⟨sumT_bdt (m:=200) (fun u hu=>by haveI:=hT.it u hu; exact det_bd) (by rw [hT.len]; omega)⟩
   refine wp_skip (k7 _ _ ?_)
   refine c_seq fun K8 k8=>wp_block (c_seq fun K9 k9=>wp_region_lit (n_val (r_indexAddrS Tryd.underlying28 cells_25 rfl rfl (by omega) (by omega) (addrN (Int.toNat_natCast _))) ?_))
   simp only [ev,zD,zE,zF,zG]
   refine n_load rfl ((hrow.ext m.ext).lies agg_25 cells_25) ?_
   simp only [ev,zD,zE,zF,zG]
   refine malloc m zero_25 rfl ?_
   clear m; intro g3 u m
   simp only [ev,zD,zE,zF,zG]
   refine mstoreA m 0 rfl rfl rfl cells_25 (leT rfl) rfl ?_
   clear m; intro u m; simp only [over,zH,zI,zJ,zK,zL,zM,zN,zO,zP,zF,zG,Nat.reduceAdd] at m
   refine n_nil (k9 _ _ ?_)
   refine c_seq fun K10 k10=>?_
   apply mcut3 m (T1:=23) (T2:=23) (T3:=23)
   ·
    refine mtree m [true,true,true] (.take 0 (.take 1 (.take 2 (.take 3 (.take 4 (.take 5 (.three 6 (.two 7 (.one 8 (.one 9 (.one 10 (.one 11 .nil)))) 8 (.one 7 (.one 9 (.one 10 (.one 11 .nil))))) 7 (.two 6 (.one 8 (.one 9 (.one 10 (.one 11 .nil)))) 8 (.one 6 (.one 9 (.one 10 (.one 11 .nil))))) 8 (.two 6 (.one 7 (.one 9 (.one 10 (.one 11 .nil)))) 7 (.one 6 (.one 9 (.one 10 (.one 11 .nil)))))))))))) follows_mixed (by kernel_rfl) (fun _ _ _ _ _ h=>by cases h.1) ?_
    intro u m
    refine t_take (by simp only [zS,zT,zU,zV]; rfl) (h_val (r_indexAddrA Tryd.underlying25 cells_23 rfl rfl (by decide) (by decide) rfl) (h_nil (t_take (by simp only [zS,zT,zU,zV]; rfl) ?_)))
    simp only [ev,zD,zE,zF,zG]
    refine h_load rfl (fun u m=>((m.b 0 rfl).lies agg_23 cells_23 rfl rfl)) ?_
    simp only [ev,zD,zE,zF,zG,zH,zI,zJ,zK,Nat.zero_add,Nat.reduceAdd,Nat.reduceMul,Int.reduceToNat]
    refine h_nil (t_take (by simp only [zS,zT,zU,zV]; rfl) (h_val (r_indexAddrA Tryd.underlying25 cells_23 rfl rfl (by decide) (by decide) rfl) (h_nil (t_take (by simp only [zS,zT,zU,zV]; rfl) ?_))))
    simp only [ev,zD,zE,zF,zG]
    refine h_load rfl (fun u m=>((m.b 0 rfl).lies agg_23 cells_23 rfl rfl)) ?_
    simp only [ev,zD,zE,zF,zG,zH,zI,zJ,zK,Nat.zero_add,Nat.reduceAdd,Nat.reduceMul,Int.reduceToNat]
    refine h_nil (t_take (by simp only [zS,zT,zU,zV]; rfl) (h_val (r_indexAddrA Tryd.underlying25 cells_23 rfl rfl (by decide) (by decide) rfl) (h_nil (t_take (by simp only [zS,zT,zU,zV]; rfl) ?_))))
    simp only [ev,zD,zE,zF,zG]
    refine h_load rfl (fun u m=>((m.b 0 rfl).lies agg_23 cells_23 rfl rfl)) ?_
    simp only [ev,zD,zE,zF,zG,zH,zI,zJ,zK,Nat.zero_add,Nat.reduceAdd,Nat.reduceMul,Int.reduceToNat]
    refine h_nil ?_
    refine t_three (by simp only [zS,zT,zU,zV]; rfl) (by simp only [zS,zT,zU,zV]; rfl) (by simp only [zS,zT,zU,zV]; rfl) ?_ ?_ ?_
    ·
     refine malloc m zero_23 rfl ?_
     clear m; intro g4 u m
     refine n_nil ?_
     refine ⟨m.sel [false,true,true,true],?_⟩
     simp only [ev,zD,zE,zF,zG]
     refine t_two (by simp only [zS,zT,zU,zV]; rfl) (by simp only [zS,zT,zU,zV]; rfl) ?_ ?_
     ·
      refine malloc m zero_23 rfl ?_
      clear m; intro g5 u m
      refine n_nil ?_
      refine ⟨m.sel [false,false,true,true,true],?_⟩
      refine t_one (by simp only [zS,zT,zU,zV]; rfl) ?_
      simp only [ev,zD,zE,zF,zG]
      refine malloc m zero_23 rfl ?_
      clear m; intro g6 u m
      refine n_nil ?_
      refine ⟨m.sel [false,false,false,true,true,true],?_⟩
      refine t_one (by simp only [zS,zT,zU,zV]; rfl) ?_
      simp only [ev,zD,zE,zF,zG]
      refine mstoreA m 2 rfl rfl rfl cells_23 (leT rfl) rfl ?_
      clear m; intro u m; simp only [over,zH,zI,zJ,zK,zL,zM,zN,zO,zP,zF,zG,Nat.reduceAdd] at m
      refine n_nil ?_
      refine ⟨m.sel [false,false,false,true,true,true],?_⟩
      refine t_one (by simp only [zS,zT,zU,zV]; rfl) (mstoreA m 1 rfl rfl rfl cells_23 (leT rfl) rfl ?_)
      clear m; intro u m; simp only [over,zH,zI,zJ,zK,zL,zM,zN,zO,zP,zF,zG,Nat.reduceAdd] at m
      refine n_nil ?_
      refine ⟨m.sel [false,false,false,true,true,true],?_⟩
      refine t_one (by simp only [zS,zT,zU,zV]; rfl) (mstoreA m 0 rfl rfl rfl cells_23 (leT rfl) rfl ?_)
      clear m; intro u m; simp only [over,zH,zI,zJ,zK,zL,zM,zN,zO,zP,zF,zG,Nat.reduceAdd] at m
      refine n_nil ?_
      refine ⟨m.sel [false,false,false,true,true,true],?_⟩
      refine t_nil ?_
      exact ⟨rfl,g4,g5,g6,rfl,m⟩
     ·
      refine malloc m zero_23 rfl ?_
      clear m; intro g5 u m
      refine n_nil ?_
      refine ⟨m.sel [false,false,true,true,true],?_⟩
      refine t_one (by simp only [zS,zT,zU,zV]; rfl) ?_
      simp only [ev,zD,zE,zF,zG]
      refine malloc m zero_23 rfl ?_
      clear m; intro g6 u m
      refine n_nil ?_
      refine ⟨m.sel [false,false,false,true,true,true],?_⟩
      refine t_one (by simp only [zS,zT,zU,zV]; rfl) ?_
      simp only [ev,zD,zE,zF,zG]
      refine mstoreA m 2 rfl rfl rfl cells_23 (leT rfl) rfl ?_
      clear m; intro u m; simp only [over,zH,zI,zJ,zK,zL,zM,zN,zO,zP,zF,zG,Nat.reduceAdd] at m
      refine n_nil ?_
      refine ⟨m.sel [false,false,false,true,true,true],?_⟩
      refine t_one (by simp only [zS,zT,zU,zV]; rfl) (mstoreA m 0 rfl rfl rfl cells_23 (leT rfl) rfl ?_)
      clear m; intro u m; simp only [over,zH,zI,zJ,zK,zL,zM,zN,zO,zP,zF,zG,Nat.reduceAdd] at m
      refine n_nil ?_
      refine ⟨m.sel [false,false,false,true,true,true],?_⟩
      refine t_one (by simp only [zS,zT,zU,zV]; rfl) (mstoreA m 1 rfl rfl rfl cells_23 (leT rfl) rfl ?_)
      clear m; intro u m; simp only [over,zH,zI,zJ,zK,zL,zM,zN,zO,zP,zF,zG,Nat.reduceAdd] at m
      refine n_nil ?_
      refine ⟨m.sel [false,false,false,true,true,true],?_⟩
      refine t_nil ?_
      exact ⟨rfl,g4,g6,g5,rfl,m.s01⟩
    ·
     refine malloc m zero_23 rfl ?_
     clear m; intro g4 u m
     refine n_nil ?_
     refine ⟨m.sel [false,true,true,true],?_⟩
     simp only [ev,zD,zE,zF,zG]
     refine t_two (by simp only [zS,zT,zU,zV]; rfl) (by simp only [zS,zT,zU,zV]; rfl) ?_ ?_
     ·
      refine malloc m zero_23 rfl ?_
      clear m; intro g5 u m
      refine n_nil ?_
      refine ⟨m.sel [false,false,true,true,true],?_⟩
      refine t_one (by simp only [zS,zT,zU,zV]; rfl) ?_
      simp only [ev,zD,zE,zF,zG]
      refine malloc m zero_23 rfl ?_
      clear m; intro g6 u m
      refine n_nil ?_
      refine ⟨m.sel [false,false,false,true,true,true],?_⟩
      refine t_one (by simp only [zS,zT,zU,zV]; rfl) ?_
      simp only [ev,zD,zE,zF,zG]
      refine mstoreA m 1 rfl rfl rfl cells_23 (leT rfl) rfl ?_
      clear m; intro u m; simp only [over,zH,zI,zJ,zK,zL,zM,zN,zO,zP,zF,zG,Nat.reduceAdd] at m
      refine n_nil ?_
      refine ⟨m.sel [false,false,false,true,true,true],?_⟩
      refine t_one (by simp only [zS,zT,zU,zV]; rfl) (mstoreA m 2 rfl rfl rfl cells_23 (leT rfl) rfl ?_)
      clear m; intro u m; simp only [over,zH,zI,zJ,zK,zL,zM,zN,zO,zP,zF,zG,Nat.reduceAdd] at m
      refine n_nil ?_
      refine ⟨m.sel [false,false,false,true,true,true],?_⟩
      refine t_one (by simp only [zS,zT,zU,zV]; rfl) (mstoreA m 0 rfl rfl rfl cells_23 (leT rfl) rfl ?_)
      clear m; intro u m; simp only [over,zH,zI,zJ,zK,zL,zM,zN,zO,zP,zF,zG,Nat.reduceAdd] at m
      refine n_nil ?_
      refine ⟨m.sel [false,false,false,true,true,true],?_⟩
      refine t_nil ?_
      exact ⟨rfl,g5,g4,g6,rfl,m.s12⟩
     ·
      refine malloc m zero_23 rfl ?_
      clear m; intro g5 u m
      refine n_nil ?_
      refine ⟨m.sel [false,false,true,true,true],?_⟩
      refine t_one (by simp only [zS,zT,zU,zV]; rfl) ?_
      simp only [ev,zD,zE,zF,zG]
      refine malloc m zero_23 rfl ?_
      clear m; intro g6 u m
      refine n_nil ?_
      refine ⟨m.sel [false,false,false,true,true,true],?_⟩
      refine t_one (by simp only [zS,zT,zU,zV]; rfl) ?_
      simp only [ev,zD,zE,zF,zG]
      refine mstoreA m 0 rfl rfl rfl cells_23 (leT rfl) rfl ?_
      clear m; intro u m; simp only [over,zH,zI,zJ,zK,zL,zM,zN,zO,zP,zF,zG,Nat.reduceAdd] at m
      refine n_nil ?_
      refine ⟨m.sel [false,false,false,true,true,true],?_⟩
      refine t_one (by simp only [zS,zT,zU,zV]; rfl) (mstoreA m 2 rfl rfl rfl cells_23 (leT rfl) rfl ?_)
      clear m; intro u m; simp only [over,zH,zI,zJ,zK,zL,zM,zN,zO,zP,zF,zG,Nat.reduceAdd] at m
      refine n_nil ?_
      refine ⟨m.sel [false,false,false,true,true,true],?_⟩
      refine t_one (by simp only [zS,zT,zU,zV]; rfl) (mstoreA m 1 rfl rfl rfl cells_23 (leT rfl) rfl ?_)
      clear m; intro u m; simp only [over,zH,zI,zJ,zK,zL,zM,zN,zO,zP,zF,zG,Nat.reduceAdd] at m
      refine n_nil ?_
      refine ⟨m.sel [false,false,false,true,true,true],?_⟩
      refine t_nil ?_
      exact ⟨rfl,g6,g4,g5,rfl,m.s01.s12⟩
    ·
     refine malloc m zero_23 rfl ?_
     clear m; intro g4 u m
     refine n_nil ?_
     refine ⟨m.sel [false,true,true,true],?_⟩
     simp only [ev,zD,zE,zF,zG]
     refine t_two (by simp only [zS,zT,zU,zV]; rfl) (by simp only [zS,zT,zU,zV]; rfl) ?_ ?_
     ·
      refine malloc m zero_23 rfl ?_
      clear m; intro g5 u m
      refine n_nil ?_
      refine ⟨m.sel [false,false,true,true,true],?_⟩
      refine t_one (by simp only [zS,zT,zU,zV]; rfl) ?_
      simp only [ev,zD,zE,zF,zG]
      refine malloc m zero_23 rfl ?_
      clear m; intro g6 u m
      refine n_nil ?_
      refine ⟨m.sel [false,false,false,true,true,true],?_⟩
      refine t_one (by simp only [zS,zT,zU,zV]; rfl) ?_
      simp only [ev,zD,zE,zF,zG]
      refine mstoreA m 1 rfl rfl rfl cells_23 (leT rfl) rfl ?_
      clear m; intro u m; simp only [over,zH,zI,zJ,zK,zL,zM,zN,zO,zP,zF,zG,Nat.reduceAdd] at m
      refine n_nil ?_
      refine ⟨m.sel [false,false,false,true,true,true],?_⟩
      refine t_one (by simp only [zS,zT,zU,zV]; rfl) (mstoreA m 0 rfl rfl rfl cells_23 (leT rfl) rfl ?_)
      clear m; intro u m; simp only [over,zH,zI,zJ,zK,zL,zM,zN,zO,zP,zF,zG,Nat.reduceAdd] at m
      refine n_nil ?_
      refine ⟨m.sel [false,false,false,true,true,true],?_⟩
      refine t_one (by simp only [zS,zT,zU,zV]; rfl) (mstoreA m 2 rfl rfl rfl cells_23 (leT rfl) rfl ?_)
      clear m; intro u m; simp only [over,zH,zI,zJ,zK,zL,zM,zN,zO,zP,zF,zG,Nat.reduceAdd] at m
      refine n_nil ?_
      refine ⟨m.sel [false,false,false,true,true,true],?_⟩
      refine t_nil ?_
      exact ⟨rfl,g5,g6,g4,rfl,m.s12.s01⟩
     ·
      refine malloc m zero_23 rfl ?_
      clear m; intro g5 u m
      refine n_nil ?_
      refine ⟨m.sel [false,false,true,true,true],?_⟩
      refine t_one (by simp only [zS,zT,zU,zV]; rfl) ?_
      simp only [ev,zD,zE,zF,zG]
      refine malloc m zero_23 rfl ?_
      clear m; intro g6 u m
      refine n_nil ?_
      refine ⟨m.sel [false,false,false,true,true,true],?_⟩
      refine t_one (by simp only [zS,zT,zU,zV]; rfl) ?_
      simp only [ev,zD,zE,zF,zG]
      refine mstoreA m 0 rfl rfl rfl cells_23 (leT rfl) rfl ?_
      clear m; intro u m; simp only [over,zH,zI,zJ,zK,zL,zM,zN,zO,zP,zF,zG,Nat.reduceAdd] at m
      refine n_nil ?_
      refine ⟨m.sel [false,false,false,true,true,true],?_⟩
      refine t_one (by simp only [zS,zT,zU,zV]; rfl) (mstoreA m 1 rfl rfl rfl cells_23 (leT rfl) rfl ?_)
      clear m; intro u m; simp only [over,zH,zI,zJ,zK,zL,zM,zN,zO,zP,zF,zG,Nat.reduceAdd] at m
      refine n_nil ?_
      refine ⟨m.sel [false,false,false,true,true,true],?_⟩
      refine t_one (by simp only [zS,zT,zU,zV]; rfl) (mstoreA m 2 rfl rfl rfl cells_23 (leT rfl) rfl ?_)
      clear m; intro u m; simp only [over,zH,zI,zJ,zK,zL,zM,zN,zO,zP,zF,zG,Nat.reduceAdd] at m
      refine n_nil ?_
      refine ⟨m.sel [false,false,false,true,true,true],?_⟩
      refine t_nil ?_
      exact ⟨rfl,g6,g5,g4,rfl,m.s01.s12.s01⟩
   intro g4 g5 g6 u m
   try dsimp only
   refine k10 _ _ ?_
   refine c_seq fun K11 k11=>c_seq fun K12 k12=>?_
   refine mh m [true,true,true,true,true,true] [(0,true),(1,true),(3,true),(5,true),(8,true),(9,true),(11,true),(13,true),(16,true),(17,true),(19,true),(21,true),(26,true),(2,true),(4,true),(6,true),(10,true),(12,true),(14,true),(18,true),(20,true),(22,true),(7,false),(15,false),(23,false),(24,false),(25,true)] follows_mixed (by kernel_rfl) (panic_put (fun _ _ _ _ _ h=>h)) (ol:=?_) ?hol ?_
   case hol=>simp only [zQ,zR,zS,zT,zU,zV]; try rfl
   clear m; intro u m
   refine h_val (r_move) (h_val (r_fieldAddr (c:=0) Tryd.underlying23 rfl cells_3 rfl rfl) (h_val (r_fieldAddr (c:=0) Tryd.underlying23 rfl cells_3 rfl rfl) (h_val (r_fieldAddr (c:=0) Tryd.underlying23 rfl cells_3 rfl rfl) ?_)))
   simp only [ev,zD,zE,zF,zG]
   refine h_val (r_move) (h_val (r_fieldAddr (c:=0) Tryd.underlying23 rfl cells_3 rfl rfl) (h_val (r_fieldAddr (c:=0) Tryd.underlying23 rfl cells_3 rfl rfl) (h_val (r_fieldAddr (c:=0) Tryd.underlying23 rfl cells_3 rfl rfl) ?_)))
   simp only [ev,zD,zE,zF,zG]
   refine h_val (r_move) (h_val (r_fieldAddr (c:=0) Tryd.underlying23 rfl cells_3 rfl rfl) (h_val (r_fieldAddr (c:=0) Tryd.underlying23 rfl cells_3 rfl rfl) (h_val (r_fieldAddr (c:=0) Tryd.underlying23 rfl cells_3 rfl rfl) ?_)))
   simp only [ev,zD,zE,zF,zG]
   refine h_val (r_move) ?_
   simp only [ev,zD,zE,zF,zG]
   refine h_load rfl (fun u m=>((m.b 2 rfl).lies1 agg_3 rfl)) ?_
   simp only [ev,zD,zE,zF,zG]
   refine h_load rfl (fun u m=>((m.b 1 rfl).lies1 agg_3 rfl)) ?_
   simp only [ev,zD,zE,zF,zG]
   refine h_load rfl (fun u m=>((m.b 0 rfl).lies1 agg_3 rfl)) ?_
   simp only [ev,zD,zE,zF,zG]
   refine h_load rfl (fun u m=>((m.b 2 rfl).lies1 agg_3 rfl)) ?_
   simp only [ev,zD,zE,zF,zG]
   refine h_load rfl (fun u m=>((m.b 1 rfl).lies1 agg_3 rfl)) ?_
   simp only [ev,zD,zE,zF,zG]
   refine h_load rfl (fun u m=>((m.b 0 rfl).lies1 agg_3 rfl)) ?_
   simp only [ev,zD,zE,zF,zG]
   refine h_load rfl (fun u m=>((m.b 2 rfl).lies1 agg_3 rfl)) ?_
   simp only [ev,zD,zE,zF,zG]
   refine h_load rfl (fun u m=>((m.b 1 rfl).lies1 agg_3 rfl)) ?_
   simp only [ev,zD,zE,zF,zG]
   refine h_load rfl (fun u m=>((m.b 0 rfl).lies1 agg_3 rfl)) ?_
   simp only [ev,zD,zE,zF,zG]
   refine h_step (mcallP m rfl rfl (prod3_c) ?_)
   clear m; intro u m
   refine n_nil ?_
   refine ⟨m,?_⟩
   refine h_step ?_
   simp only [ev,zD,zE,zF,zG]
   refine mcallP m rfl rfl (prod3_c) ?_
   clear m; intro u m
   refine n_nil ?_
   refine ⟨m,?_⟩
   refine h_step ?_
   simp only [ev,zD,zE,zF,zG]
   refine mcallP m rfl rfl (prod3_c) ?_
   clear m; intro u m
   refine n_nil ?_
   refine ⟨m,?_⟩
   refine h_step ?_
   simp only [ev,zD,zE,zF,zG]
   refine n_bs_91_3 rfl rfl rfl ?_
   intro u g7 e hg hB; replace m:=m.newB e hg hB; clear e hg hB
   refine n_nil ?_
   refine ⟨m.sel [false,true,true,true,true,true,true],?_⟩
   refine h_val (r_lenS rfl Tryd.underlying91 rfl) (h_nil (k12 _ _ ?_))
   refine wp_block (wp_loop_rounds 4 (rounds_step (c_seq fun K13 k13=>wp_region_lit (n_val (r_lssT (m:=0) (n:=3) rfl rfl (by decide)) (n_nil (k13 _ _ ?_))))))
   refine c_seq fun K14 k14=>c_yes rfl (wp_skip (k14 _ _ ?_))
   refine c_seq fun K15 k15=>wp_block (c_seq fun K16 k16=>wp_region_lit ?_)
   simp only [ev,zD,zE,zF,zG]
   refine n_val (r_indexAddrS Tryd.underlying91 cells_30 rfl rfl (by decide) (by omega) rfl) ?_
   simp only [ev,zD,zE,zF,zG]
   refine n_load rfl ((m.b 0 rfl).lies agg_30 cells_30 rfl rfl) ?_
   simp only [ev,zD,zE,zF,zG,zH,zI,zJ,zK,Nat.zero_add,Nat.reduceAdd,Nat.reduceMul,Int.reduceToNat]
   refine malloc m zero_30 rfl ?_
   clear m; intro g8 u m
   simp only [ev,zD,zE,zF,zG]
   refine mstoreA m 0 rfl rfl rfl cells_30 (leT rfl) rfl ?_
   clear m; intro u m; simp only [over,zH,zI,zJ,zK,zL,zM,zN,zO,zP,zF,zG,Nat.reduceAdd] at m
   refine n_nil (k16 _ _ ?_)
   refine wp_region_lit (n_load rfl ((m.b 6 rfl).full agg_30 cells_30) ?_)
   simp only [ev,zD,zE,zF,zG]
   refine n_load rfl ((m.b 0 rfl).full agg_30 cells_30) ?_
   simp only [ev,zD,zE,zF,zG]
   refine mcallP m rfl rfl (Add_c Bw.up Bw.up) ?_
   clear m; intro u m
   simp only [ev,zD,zE,zF,zG]
   refine mstoreA m 6 rfl rfl rfl cells_30 (leT rfl) rfl ?_
   clear m; intro u m; simp only [over,zH,zI,zJ,zK,zL,zM,zN,zO,zP,zF,zG,Nat.reduceAdd] at m
   refine n_nil (k15 _ _ ?_)
   refine wp_region_lit (n_val (r_add (m:=0) (n:=1) (r:=1) rfl rfl (by decide)) (n_val (r_move) (n_nil (then_rounds (c_seq fun K17 k17=>wp_region_lit (n_val (r_lssT (m:=1) (n:=3) rfl rfl (by decide)) (n_nil (k17 _ _ ?_))))))))
   refine c_seq fun K18 k18=>c_yes rfl (wp_skip (k18 _ _ ?_))
   refine c_seq fun K19 k19=>wp_block (c_seq fun K20 k20=>wp_region_lit ?_)
   simp only [ev,zD,zE,zF,zG]
   refine n_val (r_indexAddrS Tryd.underlying91 cells_30 rfl rfl (by decide) (by omega) rfl) ?_
   simp only [ev,zD,zE,zF,zG]
   refine n_load rfl ((m.b 1 rfl).lies agg_30 cells_30 rfl rfl) ?_
   simp only [ev,zD,zE,zF,zG,zH,zI,zJ,zK,Nat.zero_add,Nat.reduceAdd,Nat.reduceMul,Int.reduceToNat]
   refine malloc m zero_30 rfl ?_
   clear m; intro g9 u m
   simp only [ev,zD,zE,zF,zG]
   refine mstoreA m 0 rfl rfl rfl cells_30 (leT rfl) rfl ?_
   clear m; intro u m; simp only [over,zH,zI,zJ,zK,zL,zM,zN,zO,zP,zF,zG,Nat.reduceAdd] at m
   refine n_nil (k20 _ _ ?_)
   refine wp_region_lit (n_load rfl ((m.b 7 rfl).full agg_30 cells_30) ?_)
   simp only [ev,zD,zE,zF,zG]
   refine n_load rfl ((m.b 0 rfl).full agg_30 cells_30) ?_
   simp only [ev,zD,zE,zF,zG]
   refine mcallP m rfl rfl (Add_c Bw.up Bw.up) ?_
   clear m; intro u m
   simp only [ev,zD,zE,zF,zG]
   refine mstoreA m 7 rfl rfl rfl cells_30 (leT rfl) rfl ?_
   clear m; intro u m; simp only [over,zH,zI,zJ,zK,zL,zM,zN,zO,zP,zF,zG,Nat.reduceAdd] at m
   refine n_nil (k19 _ _ ?_)
   refine wp_region_lit (n_val (r_add (m:=1) (n:=1) (r:=2) rfl rfl (by decide)) (n_val (r_move) (n_nil (then_rounds (c_seq fun K21 k21=>wp_region_lit (n_val (r_lssT (m:=2) (n:=3) rfl rfl (by decide)) (n_nil (k21 _ _ ?_))))))))
   refine c_seq fun K22 k22=>c_yes rfl (wp_skip (k22 _ _ ?_))
   refine c_seq fun K23 k23=>wp_block (c_seq fun K24 k24=>wp_region_lit ?_)
   simp only [ev,zD,zE,zF,zG]
   refine n_val (r_indexAddrS Tryd.underlying91 cells_30 rfl rfl (by decide) (by omega) rfl) ?_
   simp only [ev,zD,zE,zF,zG]
   refine n_load rfl ((m.b 2 rfl).lies agg_30 cells_30 rfl rfl) ?_
   simp only [ev,zD,zE,zF,zG,zH,zI,zJ,zK,Nat.zero_add,Nat.reduceAdd,Nat.reduceMul,Int.reduceToNat]
   refine malloc m zero_30 rfl ?_
   clear m; intro g10 u m
   simp only [ev,zD,zE,zF,zG]
   refine mstoreA m 0 rfl rfl rfl cells_30 (leT rfl) rfl ?_
   clear m; intro u m; simp only [over,zH,zI,zJ,zK,zL,zM,zN,zO,zP,zF,zG,Nat.reduceAdd] at m
   refine n_nil (k24 _ _ ?_)
   refine wp_region_lit (n_load rfl ((m.b 8 rfl).full agg_30 cells_30) ?_)
   simp only [ev,zD,zE,zF,zG]
   refine n_load rfl ((m.b 0 rfl).full agg_30 cells_30) ?_
   simp only [ev,zD,zE,zF,zG]
   refine mcallP m rfl rfl (Add_c Bw.up Bw.up) ?_
   clear m; intro u m
   simp only [ev,zD,zE,zF,zG]
   refine mstoreA m 8 rfl rfl rfl cells_30 (leT rfl) rfl ?_
   clear m; intro u m; simp only [over,zH,zI,zJ,zK,zL,zM,zN,zO,zP,zF,zG,Nat.reduceAdd] at m
   refine n_nil (k23 _ _ ?_)
   refine wp_region_lit (n_val (r_add (m:=2) (n:=1) (r:=3) rfl rfl (by decide)) (n_val (r_move) (n_nil (then_rounds (c_seq fun K25 k25=>wp_region_lit (n_val (r_lssF (m:=3) (n:=3) rfl rfl (by decide)) (n_nil (k25 _ _ ?_))))))))
   refine c_seq fun K26 k26=>c_no rfl (wp_exit (k11 _ _ ?_))
   refine c_seq fun K27 k27=>?_
   simp only [ev,zD,zE,zF,zG]
   refine mh m [true,true,true,true,true,true,true,true,true,true] [(0,true),(1,true),(3,true),(5,true),(8,true),(9,true),(11,true),(13,true),(16,true),(17,true),(19,true),(21,true),(26,true),(2,true),(4,true),(6,true),(10,true),(12,true),(14,true),(18,true),(20,true),(22,true),(7,false),(15,false),(23,false),(24,false),(25,true)] follows_mixed (by kernel_rfl) (panic_put (fun _ _ _ _ _ h=>h)) (ol:=?_) ?hol ?_
   case hol=>simp only [zQ,zR,zS,zT,zU,zV]; try rfl
   clear m; intro u m
   refine h_val (r_move) (h_val (r_fieldAddr (c:=0) Tryd.underlying23 rfl cells_3 rfl rfl) (h_val (r_fieldAddr (c:=0) Tryd.underlying23 rfl cells_3 rfl rfl) (h_val (r_fieldAddr (c:=0) Tryd.underlying23 rfl cells_3 rfl rfl) ?_)))
   simp only [ev,zD,zE,zF,zG]
   refine h_val (r_move) (h_val (r_fieldAddr (c:=0) Tryd.underlying23 rfl cells_3 rfl rfl) (h_val (r_fieldAddr (c:=0) Tryd.underlying23 rfl cells_3 rfl rfl) (h_val (r_fieldAddr (c:=0) Tryd.underlying23 rfl cells_3 rfl rfl) ?_)))
   simp only [ev,zD,zE,zF,zG]
   refine h_val (r_move) (h_val (r_fieldAddr (c:=0) Tryd.underlying23 rfl cells_3 rfl rfl) (h_val (r_fieldAddr (c:=0) Tryd.underlying23 rfl cells_3 rfl rfl) (h_val (r_fieldAddr (c:=0) Tryd.underlying23 rfl cells_3 rfl rfl) ?_)))
   simp only [ev,zD,zE,zF,zG]
   refine h_val (r_move) ?_
   simp only [ev,zD,zE,zF,zG]
   refine h_load rfl (fun u m=>((m.b 6 rfl).lies1 agg_3 rfl)) ?_
   simp only [ev,zD,zE,zF,zG]
   refine h_load rfl (fun u m=>((m.b 5 rfl).lies1 agg_3 rfl)) ?_
   simp only [ev,zD,zE,zF,zG]
   refine h_load rfl (fun u m=>((m.b 4 rfl).lies1 agg_3 rfl)) ?_
   simp only [ev,zD,zE,zF,zG]
   refine h_load rfl (fun u m=>((m.b 6 rfl).lies1 agg_3 rfl)) ?_
   simp only [ev,zD,zE,zF,zG]
   refine h_load rfl (fun u m=>((m.b 5 rfl).lies1 agg_3 rfl)) ?_
   simp only [ev,zD,zE,zF,zG]
   refine h_load rfl (fun u m=>((m.b 4 rfl).lies1 agg_3 rfl)) ?_
   simp only [ev,zD,zE,zF,zG]
   refine h_load rfl (fun u m=>((m.b 6 rfl).lies1 agg_3 rfl)) ?_
   simp only [ev,zD,zE,zF,zG]
   refine h_load rfl (fun u m=>((m.b 5 rfl).lies1 agg_3 rfl)) ?_
   simp only [ev,zD,zE,zF,zG]
   refine h_load rfl (fun u m=>((m.b 4 rfl).lies1 agg_3 rfl)) ?_
   simp only [ev,zD,zE,zF,zG]
   refine h_step (mcallP m rfl rfl (prod3_c) ?_)
   clear m; intro u m
   refine n_nil ?_
   refine ⟨m,?_⟩
   refine h_step ?_
   simp only [ev,zD,zE,zF,zG]
   refine mcallP m rfl rfl (prod3_c) ?_
   clear m; intro u m
   refine n_nil ?_
   refine ⟨m,?_⟩
   refine h_step ?_
   simp only [ev,zD,zE,zF,zG]
   refine mcallP m rfl rfl (prod3_c) ?_
   clear m; intro u m
   refine n_nil ?_
   refine ⟨m,?_⟩
   refine h_step ?_
   simp only [ev,zD,zE,zF,zG]
   refine n_bs_91_3 rfl rfl rfl ?_
   intro u g11 e hg hB; replace m:=m.newB e hg hB; clear e hg hB
   refine n_nil ?_
   refine ⟨m.sel [false,true,true,true,true,true,true,true,true,true,true],?_⟩
   refine h_val (r_lenS rfl Tryd.underlying91 rfl) (h_nil (k27 _ _ ?_))
   refine wp_block (wp_loop_rounds 4 (rounds_step (c_seq fun K28 k28=>wp_region_lit (n_val (r_lssT (m:=0) (n:=3) rfl rfl (by decide)) (n_nil (k28 _ _ ?_))))))
   refine c_seq fun K29 k29=>c_yes rfl (wp_skip (k29 _ _ ?_))
   refine c_seq fun K30 k30=>wp_block (c_seq fun K31 k31=>wp_region_lit ?_)
   simp only [ev,zD,zE,zF,zG]
   refine n_val (r_indexAddrS Tryd.underlying91 cells_30 rfl rfl (by decide) (by omega) rfl) ?_
   simp only [ev,zD,zE,zF,zG]
   refine n_load rfl ((m.b 0 rfl).lies agg_30 cells_30 rfl rfl) ?_
   simp only [ev,zD,zE,zF,zG,zH,zI,zJ,zK,Nat.zero_add,Nat.reduceAdd,Nat.reduceMul,Int.reduceToNat]
   refine malloc m zero_30 rfl ?_
   clear m; intro g12 u m
   simp only [ev,zD,zE,zF,zG]
   refine mstoreA m 0 rfl rfl rfl cells_30 (leT rfl) rfl ?_
   clear m; intro u m; simp only [over,zH,zI,zJ,zK,zL,zM,zN,zO,zP,zF,zG,Nat.reduceAdd] at m
   refine n_nil (k31 _ _ ?_)
   refine wp_region_lit (n_load rfl ((m.b 10 rfl).full agg_30 cells_30) ?_)
   simp only [ev,zD,zE,zF,zG]
   refine n_load rfl ((m.b 0 rfl).full agg_30 cells_30) ?_
   simp only [ev,zD,zE,zF,zG]
   refine mcallP m rfl rfl (Sub_c Bw.up Bw.up) ?_
   clear m; intro u m
   simp only [ev,zD,zE,zF,zG]
   refine mstoreA m 10 rfl rfl rfl cells_30 (leT rfl) rfl ?_
   clear m; intro u m; simp only [over,zH,zI,zJ,zK,zL,zM,zN,zO,zP,zF,zG,Nat.reduceAdd] at m
   refine n_nil (k30 _ _ ?_)
   refine wp_region_lit (n_val (r_add (m:=0) (n:=1) (r:=1) rfl rfl (by decide)) (n_val (r_move) (n_nil (then_rounds (c_seq fun K32 k32=>wp_region_lit (n_val (r_lssT (m:=1) (n:=3) rfl rfl (by decide)) (n_nil (k32 _ _ ?_))))))))
   refine c_seq fun K33 k33=>c_yes rfl (wp_skip (k33 _ _ ?_))
   refine c_seq fun K34 k34=>wp_block (c_seq fun K35 k35=>wp_region_lit ?_)
   simp only [ev,zD,zE,zF,zG]
   refine n_val (r_indexAddrS Tryd.underlying91 cells_30 rfl rfl (by decide) (by omega) rfl) ?_
   simp only [ev,zD,zE,zF,zG]
   refine n_load rfl ((m.b 1 rfl).lies agg_30 cells_30 rfl rfl) ?_
   simp only [ev,zD,zE,zF,zG,zH,zI,zJ,zK,Nat.zero_add,Nat.reduceAdd,Nat.reduceMul,Int.reduceToNat]
   refine malloc m zero_30 rfl ?_
   clear m; intro g13 u m
   simp only [ev,zD,zE,zF,zG]
   refine mstoreA m 0 rfl rfl rfl cells_30 (leT rfl) rfl ?_
   clear m; intro u m; simp only [over,zH,zI,zJ,zK,zL,zM,zN,zO,zP,zF,zG,Nat.reduceAdd] at m
   refine n_nil (k35 _ _ ?_)
   refine wp_region_lit (n_load rfl ((m.b 11 rfl).full agg_30 cells_30) ?_)
   simp only [ev,zD,zE,zF,zG]
   refine n_load rfl ((m.b 0 rfl).full agg_30 cells_30) ?_
   simp only [ev,zD,zE,zF,zG]
   refine mcallP m rfl rfl (Sub_c Bw.up Bw.up) ?_
   clear m; intro u m
   simp only [ev,zD,zE,zF,zG]
   refine mstoreA m 11 rfl rfl rfl cells_30 (leT rfl) rfl ?_
   clear m; intro u m; simp only [over,zH,zI,zJ,zK,zL,zM,zN,zO,zP,zF,zG,Nat.reduceAdd] at m
   refine n_nil (k34 _ _ ?_)
   refine wp_region_lit (n_val (r_add (m:=1) (n:=1) (r:=2) rfl rfl (by decide)) (n_val (r_move) (n_nil (then_rounds (c_seq fun K36 k36=>wp_region_lit (n_val (r_lssT (m:=2) (n:=3) rfl rfl (by decide)) (n_nil (k36 _ _ ?_))))))))
   refine c_seq fun K37 k37=>c_yes rfl (wp_skip (k37 _ _ ?_))
   refine c_seq fun K38 k38=>wp_block (c_seq fun K39 k39=>wp_region_lit ?_)
   simp only [ev,zD,zE,zF,zG]
   refine n_val (r_indexAddrS Tryd.underlying91 cells_30 rfl rfl (by decide) (by omega) rfl) ?_
   simp only [ev,zD,zE,zF,zG]
   refine n_load rfl ((m.b 2 rfl).lies agg_30 cells_30 rfl rfl) ?_
   simp only [ev,zD,zE,zF,zG,zH,zI,zJ,zK,Nat.zero_add,Nat.reduceAdd,Nat.reduceMul,Int.reduceToNat]
   refine malloc m zero_30 rfl ?_
   clear m; intro g14 u m
   simp only [ev,zD,zE,zF,zG]
   refine mstoreA m 0 rfl rfl rfl cells_30 (leT rfl) rfl ?_
   clear m; intro u m; simp only [over,zH,zI,zJ,zK,zL,zM,zN,zO,zP,zF,zG,Nat.reduceAdd] at m
   refine n_nil (k39 _ _ ?_)
   refine wp_region_lit (n_load rfl ((m.b 12 rfl).full agg_30 cells_30) ?_)
   simp only [ev,zD,zE,zF,zG]
   refine n_load rfl ((m.b 0 rfl).full agg_30 cells_30) ?_
   simp only [ev,zD,zE,zF,zG]
   refine mcallP m rfl rfl (Sub_c Bw.up Bw.up) ?_
   clear m; intro u m
   simp only [ev,zD,zE,zF,zG]
   refine mstoreA m 12 rfl rfl rfl cells_30 (leT rfl) rfl ?_
   clear m; intro u m; simp only [over,zH,zI,zJ,zK,zL,zM,zN,zO,zP,zF,zG,Nat.reduceAdd] at m
   refine n_nil (k38 _ _ ?_)
   refine wp_region_lit (n_val (r_add (m:=2) (n:=1) (r:=3) rfl rfl (by decide)) (n_val (r_move) (n_nil (then_rounds (c_seq fun K40 k40=>wp_region_lit (n_val (r_lssF (m:=3) (n:=3) rfl rfl (by decide)) (n_nil (k40 _ _ ?_))))))))
   refine c_seq fun K41 k41=>c_no rfl (wp_exit (k8 _ _ ?_))
   refine wp_region_lit ?_
   simp only [ev,zD,zE,zF,zG]
   refine n_val (r_add rfl rfl (wrap_i64 (by omega) (by omega))) (n_val (r_move) (n_nil ?_))
   simp only [ev,zD,zE,zF,zG]
   simp only [Exit.inBlock,Exit.then]
   refine ⟨N - (k + 1),_,?_,rfl,?_,?_⟩
   · omega
   · simp only [zQ,zR,zD,zE,setG_cons,setG_nil,setMany_cons,setMany_nil,zF,zG]
   ·
    simp only [zQ,zR,zD,zE]
    exact ⟨k + 1,rfl,((m.re 12 rfl (by rw [sumT_step ht,← det_step]; exact (m.b 12 rfl))).sel [false,false,false,false,false,false,false,false,false,false,false,false,true,true]),by omega,rfl⟩
  ·
   have hkN : k = N:=by omega
   rw [hkN,show ts.take N = ts from List.take_of_length_le (by rw [hT.len]; exact Nat.le_refl _)] at m
   refine wp_exit (k4 _ _ ?_)
   refine c_seq fun K42 k42=>wp_region_lit (n_load rfl ((m.b 0 rfl).full agg_30 cells_30) ?_)
   simp only [ev,zD,zE,zF,zG]
   refine mstoreA m 1 rfl rfl rfl cells_30 (leT rfl) rfl ?_
   clear m; intro u m; simp only [over,zH,zI,zJ,zK,zL,zM,zN,zO,zP,zF,zG,Nat.reduceAdd] at m
   refine n_nil (k42 _ _ ?_)
   refine wp_ret ?_
   try simp only [Exit.inBlock,Exit.then,if_true]
   refine fin1 rfl ⟨_,rfl,((m.b 1 rfl).full agg_30 cells_30)⟩ ?_
   try simp only [zD,zE]
   exact ⟨_,rfl,m.ext,rfl⟩
end Go.Proofs.YtmcgcnpgkkfkoaaDoor
namespace Go.Proofs.YtmcgcnpgkkfkoaaDoor
open Go.RowKit Go.Lith
set_option maxRecDepth 100000
attribute [local irreducible] wpList wpQuiet wpMix wpMixH wpTree Code.wp
theorem Volume_c {ts : List T3} {N cap : Nat} {A : Option Addr} (w : World) (hT : TrisAt w A N ts) (hN : N < 4611686018427387904) : Does Tryd.prog 8 [.slice A N cap] w (fun v _=>v = Q (Rat.divInt (sumT det ts) 6)):=by
 refine ⟨en_8,?_⟩
 have m:=Mem.refl w
 haveI : Bw 264 (sumT det ts):=⟨sumT_bd (m:=200) (fun u hu=>by haveI:=hT.it u hu; exact det_bd) (by rw [hT.len]; omega)⟩
 go_enter Tryd.func8,Tryd.ntmps8
 refine c_seq fun K1 k1=>wp_region_lit (malloc m zero_32 rfl ?_)
 clear m; intro g1 u m
 refine n_nil (k1 _ _ ?_)
 refine c_seq fun K2 k2=>wp_region_lit (n_val (r_move) ?_)
 simp only [ev,zD,zE,zF,zG]
 refine mcall m rfl rfl (Volume6_c _ (hT.ext m.ext) hN) ?_
 clear m; rintro v u m rfl
 simp only [ev,zD,zE,zF,zG]
 refine mcallP m rfl rfl (From_c Iw.h) ?_
 clear m; intro u m
 simp only [ev,zD,zE,zF,zG]
 refine mcallP m rfl rfl (mFrac_c (n:=sumT det ts) (d:=6) Bw.up Bw.up (by decide)) ?_
 clear m; intro u m
 simp only [ev,zD,zE,zF,zG]
 refine mstoreA m 0 rfl rfl rfl cells_32 (leT rfl) rfl ?_
 clear m; intro u m; simp only [over,zH,zI,zJ,zK,zL,zM,zN,zO,zP,zF,zG,Nat.reduceAdd] at m
 refine n_nil (k2 _ _ ?_)
 refine wp_ret ?_
 try simp only [Exit.inBlock,Exit.then,if_true]
 refine fin1 rfl ⟨_,rfl,((m.b 0 rfl).full agg_32 cells_32)⟩ ?_
 try simp only [zD,zE]
 exact ⟨_,rfl,m.ext,rfl⟩
theorem Centre_c {ts : List T3} {N cap : Nat} {A : Option Addr} (w : World) (hT : TrisAt w A N ts) (hN : N < 4611686018427387904) : Does Tryd.prog 11 [.slice A N cap] w (fun v _=>v = .tuple #[fv (cq (sumT (mom P3.x) ts) (sumT det ts)) (cq (sumT (mom P3.y) ts) (sumT det ts)) (cq (sumT (mom P3.z) ts) (sumT det ts)),.bool (decide (sumT det ts ≠ 0))]):=by
 refine ⟨en_11,?_⟩
 have m:=Mem.refl w
 go_enter Tryd.func11,Tryd.ntmps11
 refine c_seq fun K1 k1=>wp_region_lit (malloc m zero_42 rfl ?_)
 clear m; intro g1 u m
 refine n_val (r_assign) (n_nil (k1 _ _ ?_))
 refine c_seq fun K2 k2=>wp_region_lit ?_
 simp only [ev,zD,zE,zF,zG]
 refine malloc m zero_30 rfl ?_
 clear m; intro g2 u m
 refine n_nil (k2 _ _ ?_)
 refine c_seq fun K3 k3=>wp_region_lit ?_
 simp only [ev,zD,zE,zF,zG]
 refine malloc m zero_51 rfl ?_
 clear m; intro g3 u m
 refine n_nil (k3 _ _ ?_)
 refine c_seq fun K4 k4=>c_seq fun K5 k5=>wp_region_lit (n_val (r_move) (n_val (r_lenS rfl Tryd.underlying28 rfl) (n_val (r_move) ?_)))
 simp only [ev,zD,zE,zF,zG]
 refine n_nil (k5 _ _ ?_)
 refine wp_block ?_
 try simp only [Nat.zero_add,Nat.reduceAdd,Nat.reduceMul,Int.reduceToNat]
 refine c_loopg [18] [7,8,9,10,12,19,20,21,22,23,24,25,26,27,28,29,30,31,32,33,34,35,36,37,38,39,40,41,42,43,44,45,46,47,48,49,50,51] (fun n vs wl=>∃ (k : Nat),vs = [.int .i64 (k:Int)] ∧ Mem w wl [bI g3 [.bool (wneg (sumT (mom P3.x) (ts.take k))),.string (wmag (sumT (mom P3.x) (ts.take k))),.bool (wneg (sumT (mom P3.y) (ts.take k))),.string (wmag (sumT (mom P3.y) (ts.take k))),.bool (wneg (sumT (mom P3.z) (ts.take k))),.string (wmag (sumT (mom P3.z) (ts.take k)))] 51,bI g2 [.bool (wneg (sumT det (ts.take k))),.string (wmag (sumT det (ts.take k)))] 30,bI g1 [.bool false,.string ⟨#[]⟩,.bool false,.string ⟨#[]⟩,.bool false,.string ⟨#[]⟩,.bool false,.string ⟨#[]⟩,.bool false,.string ⟨#[]⟩,.bool false,.string ⟨#[]⟩] 42] ∧ (k ≤ N) ∧ (n = N - k)) ?_ ?_
 ·
  apply Exists.intro
  simp only [zQ,zR,zD,zE]
  exact ⟨0,rfl,m,Nat.zero_le _,rfl⟩
 ·
  intro n vs wr hI u
  clear m
  obtain ⟨k,rfl,m,hk,hn⟩:=hI
  simp only [setG_cons,setG_nil,setMany_cons,setMany_nil,zF,zG]
  refine c_seq fun K6 k6=>wp_region_lit (n_val (r_lss rfl rfl) (n_nil (k6 _ _ ?_)))
  refine c_seq fun K7 k7=>?_
  simp only [ev,zD,zE,zF,zG]
  refine c_if rfl (fun hc1=>?_) (fun hc1=>?_)
  ·
   obtain ⟨t,ht,_,a,rfl,hrow⟩:=hT.get (i:=k) (by omega)
   haveI : Bw 264 (sumT det (ts.take k)):=⟨sumT_bdt (m:=200) (fun u hu=>by haveI:=hT.it u hu; exact det_bd) (by rw [hT.len]; omega)⟩
   haveI : Bw 364 (sumT (mom P3.x) (ts.take k)):=⟨sumT_bdt (m:=300) (fun u hu=>by haveI:=hT.it u hu; exact mom_bd Iw.h.bd Iw.h.bd Iw.h.bd) (by rw [hT.len]; omega)⟩
   haveI : Bw 364 (sumT (mom P3.y) (ts.take k)):=⟨sumT_bdt (m:=300) (fun u hu=>by haveI:=hT.it u hu; exact mom_bd Iw.h.bd Iw.h.bd Iw.h.bd) (by rw [hT.len]; omega)⟩
   haveI : Bw 364 (sumT (mom P3.z) (ts.take k)):=⟨sumT_bdt (m:=300) (fun u hu=>by haveI:=hT.it u hu; exact mom_bd Iw.h.bd Iw.h.bd Iw.h.bd) (by rw [hT.len]; omega)⟩
   refine wp_skip (k7 _ _ ?_)
   refine c_seq fun K8 k8=>wp_block (c_seq fun K9 k9=>wp_region_lit (n_val (r_indexAddrS Tryd.underlying28 cells_25 rfl rfl (by omega) (by omega) (addrN (Int.toNat_natCast _))) ?_))
   simp only [ev,zD,zE,zF,zG]
   refine n_load rfl ((hrow.ext m.ext).lies agg_25 cells_25) ?_
   simp only [ev,zD,zE,zF,zG]
   refine malloc m zero_25 rfl ?_
   clear m; intro g4 u m
   simp only [ev,zD,zE,zF,zG]
   refine mstoreA m 0 rfl rfl rfl cells_25 (leT rfl) rfl ?_
   clear m; intro u m; simp only [over,zH,zI,zJ,zK,zL,zM,zN,zO,zP,zF,zG,Nat.reduceAdd] at m
   refine n_nil (k9 _ _ ?_)
   refine c_seq fun K10 k10=>wp_region_lit (n_load rfl ((m.b 0 rfl).full agg_25 cells_25) ?_)
   simp only [ev,zD,zE,zF,zG]
   refine n_bs_28_1 rfl ?_
   intro u g5 e hg hB; replace m:=m.newB e hg hB; clear e hg hB
   simp only [ev,zD,zE,zF,zG]
   refine mcall m rfl rfl (Volume6_c _ (TrisAt.one (m.b 0 rfl)) (by decide)) ?_
   clear m; rintro v u m rfl
   simp only [ev,zD,zE,zF,zG]
   rw [sumT_one]
   refine malloc m zero_30 rfl ?_
   clear m; intro g6 u m
   simp only [ev,zD,zE,zF,zG]
   refine mstoreA m 0 rfl rfl rfl cells_30 (leT rfl) rfl ?_
   clear m; intro u m; simp only [over,zH,zI,zJ,zK,zL,zM,zN,zO,zP,zF,zG,Nat.reduceAdd] at m
   refine n_nil (k10 _ _ ?_)
   refine c_seq fun K11 k11=>wp_region_lit (n_load rfl ((m.b 4 rfl).full agg_30 cells_30) ?_)
   simp only [ev,zD,zE,zF,zG]
   refine n_load rfl ((m.b 0 rfl).full agg_30 cells_30) ?_
   simp only [ev,zD,zE,zF,zG]
   refine mcallP m rfl rfl (Add_c Bw.up Bw.up) ?_
   clear m; intro u m
   simp only [ev,zD,zE,zF,zG]
   refine mstoreA m 4 rfl rfl rfl cells_30 (leT rfl) rfl ?_
   clear m; intro u m; simp only [over,zH,zI,zJ,zK,zL,zM,zN,zO,zP,zF,zG,Nat.reduceAdd] at m
   refine n_nil (k11 _ _ ?_)
   refine c_seq fun K12 k12=>wp_region_lit (mcallP m rfl rfl (readers_c) ?_)
   clear m; intro u m
   refine n_val (r_move) (n_nil (k12 _ _ ?_))
   refine wp_block (wp_loop_rounds 4 (rounds_step (c_seq fun K13 k13=>wp_region_lit (n_val (r_lssT (m:=0) (n:=3) rfl rfl (by decide)) (n_nil (k13 _ _ ?_))))))
   refine c_seq fun K14 k14=>c_yes rfl (wp_skip (k14 _ _ ?_))
   refine c_seq fun K15 k15=>wp_block (c_seq fun K16 k16=>wp_region_lit (n_val (r_move) ?_))
   simp only [ev,zD,zE,zF,zG]
   refine n_val (r_index_63_0 rfl rfl) (n_val (r_assign) (n_val (r_assign) (n_nil (k16 _ _ ?_))))
   refine c_seq fun K17 k17=>wp_region_lit ?_
   simp only [ev,zD,zE,zF,zG]
   refine n_load rfl ((m.b 2 rfl).full agg_25 cells_25) ?_
   simp only [ev,zD,zE,zF,zG]
   refine n_val (r_move) (n_nil (k17 _ _ ?_))
   refine wp_block (wp_loop_rounds 4 (rounds_step (c_seq fun K18 k18=>wp_region_lit (n_val (r_lssT (m:=0) (n:=3) rfl rfl (by decide)) (n_nil (k18 _ _ ?_))))))
   refine c_seq fun K19 k19=>c_yes rfl (wp_skip (k19 _ _ ?_))
   refine c_seq fun K20 k20=>wp_block (c_seq fun K21 k21=>wp_region_lit (n_val (r_index_25_0 rfl rfl) ?_))
   simp only [ev,zD,zE,zF,zG]
   refine malloc m zero_23 rfl ?_
   clear m; intro g7 u m
   simp only [ev,zD,zE,zF,zG]
   refine mstoreA m 0 rfl rfl rfl cells_23 (leT rfl) rfl ?_
   clear m; intro u m; simp only [over,zH,zI,zJ,zK,zL,zM,zN,zO,zP,zF,zG,Nat.reduceAdd] at m
   refine n_nil (k21 _ _ ?_)
   refine mq_tail m 12 follows_mixed (by kernel_rfl) ?_
   simp only [zH,zI,zJ,zK]
   refine q_val (r_move) (q_val (r_move) (q_val (r_indexAddrA Tryd.underlying51 cells_30 rfl rfl (by decide) (by decide) rfl) ?_))
   simp only [ev,zD,zE,zF,zG]
   refine ql rfl (fun u m=>((m.b 4 rfl).lies agg_30 cells_30 rfl rfl)) ?_
   simp only [ev,zD,zE,zF,zG,zH,zI,zJ,zK,Nat.zero_add,Nat.reduceAdd,Nat.reduceMul,Int.reduceToNat]
   refine ql rfl (fun u m=>((m.b 1 rfl).full agg_30 cells_30)) ?_
   simp only [ev,zD,zE,zF,zG]
   refine q_val (r_move) ?_
   simp only [ev,zD,zE,zF,zG]
   refine ql rfl (fun u m=>((m.b 0 rfl).full agg_23 cells_23)) ?_
   simp only [ev,zD,zE,zF,zG]
   refine qcP rfl rfl (me_x) ?_
   simp only [ev,zD,zE,zF,zG]
   refine qcP rfl rfl (From_c Iw.h) ?_
   simp only [ev,zD,zE,zF,zG]
   refine qcP rfl rfl (Mul_c Bw.up Bw.up) ?_
   simp only [ev,zD,zE,zF,zG]
   refine qcP rfl rfl (Add_c Bw.up Bw.up) (q_val (r_indexAddrA Tryd.underlying51 cells_30 rfl rfl (by decide) (by decide) rfl) (q_nil ?_))
   clear m; intro u m
   simp only [ev,zD,zE,zF,zG]
   refine mstoreA m 4 rfl rfl rfl cells_30 (leT rfl) rfl ?_
   clear m; intro u m; simp only [over,zH,zI,zJ,zK,zL,zM,zN,zO,zP,zF,zG,Nat.reduceAdd] at m
   refine n_nil (k20 _ _ ?_)
   refine wp_region_lit (n_val (r_add (m:=0) (n:=1) (r:=1) rfl rfl (by decide)) (n_val (r_move) (n_nil (then_rounds (c_seq fun K22 k22=>wp_region_lit (n_val (r_lssT (m:=1) (n:=3) rfl rfl (by decide)) (n_nil (k22 _ _ ?_))))))))
   refine c_seq fun K23 k23=>c_yes rfl (wp_skip (k23 _ _ ?_))
   refine c_seq fun K24 k24=>wp_block (c_seq fun K25 k25=>wp_region_lit (n_val (r_index_25_1 rfl rfl) ?_))
   simp only [ev,zD,zE,zF,zG]
   refine malloc m zero_23 rfl ?_
   clear m; intro g8 u m
   simp only [ev,zD,zE,zF,zG]
   refine mstoreA m 0 rfl rfl rfl cells_23 (leT rfl) rfl ?_
   clear m; intro u m; simp only [over,zH,zI,zJ,zK,zL,zM,zN,zO,zP,zF,zG,Nat.reduceAdd] at m
   refine n_nil (k25 _ _ ?_)
   refine mq_tail m 12 follows_mixed (by kernel_rfl) ?_
   simp only [zH,zI,zJ,zK]
   refine q_val (r_move) (q_val (r_move) (q_val (r_indexAddrA Tryd.underlying51 cells_30 rfl rfl (by decide) (by decide) rfl) ?_))
   simp only [ev,zD,zE,zF,zG]
   refine ql rfl (fun u m=>((m.b 5 rfl).lies agg_30 cells_30 rfl rfl)) ?_
   simp only [ev,zD,zE,zF,zG,zH,zI,zJ,zK,Nat.zero_add,Nat.reduceAdd,Nat.reduceMul,Int.reduceToNat]
   refine ql rfl (fun u m=>((m.b 2 rfl).full agg_30 cells_30)) ?_
   simp only [ev,zD,zE,zF,zG]
   refine q_val (r_move) ?_
   simp only [ev,zD,zE,zF,zG]
   refine ql rfl (fun u m=>((m.b 0 rfl).full agg_23 cells_23)) ?_
   simp only [ev,zD,zE,zF,zG]
   refine qcP rfl rfl (me_x) ?_
   simp only [ev,zD,zE,zF,zG]
   refine qcP rfl rfl (From_c Iw.h) ?_
   simp only [ev,zD,zE,zF,zG]
   refine qcP rfl rfl (Mul_c Bw.up Bw.up) ?_
   simp only [ev,zD,zE,zF,zG]
   refine qcP rfl rfl (Add_c Bw.up Bw.up) (q_val (r_indexAddrA Tryd.underlying51 cells_30 rfl rfl (by decide) (by decide) rfl) (q_nil ?_))
   clear m; intro u m
   simp only [ev,zD,zE,zF,zG]
   refine mstoreA m 5 rfl rfl rfl cells_30 (leT rfl) rfl ?_
   clear m; intro u m; simp only [over,zH,zI,zJ,zK,zL,zM,zN,zO,zP,zF,zG,Nat.reduceAdd] at m
   refine n_nil (k24 _ _ ?_)
   refine wp_region_lit (n_val (r_add (m:=1) (n:=1) (r:=2) rfl rfl (by decide)) (n_val (r_move) (n_nil (then_rounds (c_seq fun K26 k26=>wp_region_lit (n_val (r_lssT (m:=2) (n:=3) rfl rfl (by decide)) (n_nil (k26 _ _ ?_))))))))
   refine c_seq fun K27 k27=>c_yes rfl (wp_skip (k27 _ _ ?_))
   refine c_seq fun K28 k28=>wp_block (c_seq fun K29 k29=>wp_region_lit (n_val (r_index_25_2 rfl rfl) ?_))
   simp only [ev,zD,zE,zF,zG]
   refine malloc m zero_23 rfl ?_
   clear m; intro g9 u m
   simp only [ev,zD,zE,zF,zG]
   refine mstoreA m 0 rfl rfl rfl cells_23 (leT rfl) rfl ?_
   clear m; intro u m; simp only [over,zH,zI,zJ,zK,zL,zM,zN,zO,zP,zF,zG,Nat.reduceAdd] at m
   refine n_nil (k29 _ _ ?_)
   refine mq_tail m 12 follows_mixed (by kernel_rfl) ?_
   simp only [zH,zI,zJ,zK]
   refine q_val (r_move) (q_val (r_move) (q_val (r_indexAddrA Tryd.underlying51 cells_30 rfl rfl (by decide) (by decide) rfl) ?_))
   simp only [ev,zD,zE,zF,zG]
   refine ql rfl (fun u m=>((m.b 6 rfl).lies agg_30 cells_30 rfl rfl)) ?_
   simp only [ev,zD,zE,zF,zG,zH,zI,zJ,zK,Nat.zero_add,Nat.reduceAdd,Nat.reduceMul,Int.reduceToNat]
   refine ql rfl (fun u m=>((m.b 3 rfl).full agg_30 cells_30)) ?_
   simp only [ev,zD,zE,zF,zG]
   refine q_val (r_move) ?_
   simp only [ev,zD,zE,zF,zG]
   refine ql rfl (fun u m=>((m.b 0 rfl).full agg_23 cells_23)) ?_
   simp only [ev,zD,zE,zF,zG]
   refine qcP rfl rfl (me_x) ?_
   simp only [ev,zD,zE,zF,zG]
   refine qcP rfl rfl (From_c Iw.h) ?_
   simp only [ev,zD,zE,zF,zG]
   refine qcP rfl rfl (Mul_c Bw.up Bw.up) ?_
   simp only [ev,zD,zE,zF,zG]
   refine qcP rfl rfl (Add_c Bw.up Bw.up) (q_val (r_indexAddrA Tryd.underlying51 cells_30 rfl rfl (by decide) (by decide) rfl) (q_nil ?_))
   clear m; intro u m
   simp only [ev,zD,zE,zF,zG]
   refine mstoreA m 6 rfl rfl rfl cells_30 (leT rfl) rfl ?_
   clear m; intro u m; simp only [over,zH,zI,zJ,zK,zL,zM,zN,zO,zP,zF,zG,Nat.reduceAdd] at m
   refine n_nil (k28 _ _ ?_)
   refine wp_region_lit (n_val (r_add (m:=2) (n:=1) (r:=3) rfl rfl (by decide)) (n_val (r_move) (n_nil (then_rounds (c_seq fun K30 k30=>wp_region_lit (n_val (r_lssF (m:=3) (n:=3) rfl rfl (by decide)) (n_nil (k30 _ _ ?_))))))))
   refine c_seq fun K31 k31=>c_no rfl (wp_exit (k15 _ _ ?_))
   refine wp_region_lit (n_val (r_add (m:=0) (n:=1) (r:=1) rfl rfl (by decide)) ?_)
   simp only [ev,zD,zE,zF,zG]
   refine n_val (r_move) (n_nil (then_rounds (c_seq fun K32 k32=>wp_region_lit (n_val (r_lssT (m:=1) (n:=3) rfl rfl (by decide)) (n_nil (k32 _ _ ?_))))))
   refine c_seq fun K33 k33=>c_yes rfl (wp_skip (k33 _ _ ?_))
   refine c_seq fun K34 k34=>wp_block (c_seq fun K35 k35=>wp_region_lit (n_val (r_move) (n_val (r_index_63_1 rfl rfl) ?_)))
   simp only [ev,zD,zE,zF,zG]
   refine n_val (r_assign) (n_val (r_assign) (n_nil (k35 _ _ ?_)))
   refine c_seq fun K36 k36=>wp_region_lit ?_
   simp only [ev,zD,zE,zF,zG]
   refine n_load rfl ((m.b 5 rfl).full agg_25 cells_25) ?_
   simp only [ev,zD,zE,zF,zG]
   refine n_val (r_move) (n_nil (k36 _ _ ?_))
   refine wp_block (wp_loop_rounds 4 (rounds_step (c_seq fun K37 k37=>wp_region_lit (n_val (r_lssT (m:=0) (n:=3) rfl rfl (by decide)) (n_nil (k37 _ _ ?_))))))
   refine c_seq fun K38 k38=>c_yes rfl (wp_skip (k38 _ _ ?_))
   refine c_seq fun K39 k39=>wp_block (c_seq fun K40 k40=>wp_region_lit (n_val (r_index_25_0 rfl rfl) ?_))
   simp only [ev,zD,zE,zF,zG]
   refine malloc m zero_23 rfl ?_
   clear m; intro g10 u m
   simp only [ev,zD,zE,zF,zG]
   refine mstoreA m 0 rfl rfl rfl cells_23 (leT rfl) rfl ?_
   clear m; intro u m; simp only [over,zH,zI,zJ,zK,zL,zM,zN,zO,zP,zF,zG,Nat.reduceAdd] at m
   refine n_nil (k40 _ _ ?_)
   refine mq_tail m 12 follows_mixed (by kernel_rfl) ?_
   simp only [zH,zI,zJ,zK]
   refine q_val (r_move) (q_val (r_move) (q_val (r_indexAddrA Tryd.underlying51 cells_30 rfl rfl (by decide) (by decide) rfl) ?_))
   simp only [ev,zD,zE,zF,zG]
   refine ql rfl (fun u m=>((m.b 7 rfl).lies agg_30 cells_30 rfl rfl)) ?_
   simp only [ev,zD,zE,zF,zG,zH,zI,zJ,zK,Nat.zero_add,Nat.reduceAdd,Nat.reduceMul,Int.reduceToNat]
   refine ql rfl (fun u m=>((m.b 4 rfl).full agg_30 cells_30)) ?_
   simp only [ev,zD,zE,zF,zG]
   refine q_val (r_move) ?_
   simp only [ev,zD,zE,zF,zG]
   refine ql rfl (fun u m=>((m.b 0 rfl).full agg_23 cells_23)) ?_
   simp only [ev,zD,zE,zF,zG]
   refine qcP rfl rfl (me_y) ?_
   simp only [ev,zD,zE,zF,zG]
   refine qcP rfl rfl (From_c Iw.h) ?_
   simp only [ev,zD,zE,zF,zG]
   refine qcP rfl rfl (Mul_c Bw.up Bw.up) ?_
   simp only [ev,zD,zE,zF,zG]
   refine qcP rfl rfl (Add_c Bw.up Bw.up) (q_val (r_indexAddrA Tryd.underlying51 cells_30 rfl rfl (by decide) (by decide) rfl) (q_nil ?_))
   clear m; intro u m
   simp only [ev,zD,zE,zF,zG]
   refine mstoreA m 7 rfl rfl rfl cells_30 (leT rfl) rfl ?_
   clear m; intro u m; simp only [over,zH,zI,zJ,zK,zL,zM,zN,zO,zP,zF,zG,Nat.reduceAdd] at m
   refine n_nil (k39 _ _ ?_)
   refine wp_region_lit (n_val (r_add (m:=0) (n:=1) (r:=1) rfl rfl (by decide)) (n_val (r_move) (n_nil (then_rounds (c_seq fun K41 k41=>wp_region_lit (n_val (r_lssT (m:=1) (n:=3) rfl rfl (by decide)) (n_nil (k41 _ _ ?_))))))))
   refine c_seq fun K42 k42=>c_yes rfl (wp_skip (k42 _ _ ?_))
   refine c_seq fun K43 k43=>wp_block (c_seq fun K44 k44=>wp_region_lit (n_val (r_index_25_1 rfl rfl) ?_))
   simp only [ev,zD,zE,zF,zG]
   refine malloc m zero_23 rfl ?_
   clear m; intro g11 u m
   simp only [ev,zD,zE,zF,zG]
   refine mstoreA m 0 rfl rfl rfl cells_23 (leT rfl) rfl ?_
   clear m; intro u m; simp only [over,zH,zI,zJ,zK,zL,zM,zN,zO,zP,zF,zG,Nat.reduceAdd] at m
   refine n_nil (k44 _ _ ?_)
   refine mq_tail m 12 follows_mixed (by kernel_rfl) ?_
   simp only [zH,zI,zJ,zK]
   refine q_val (r_move) (q_val (r_move) (q_val (r_indexAddrA Tryd.underlying51 cells_30 rfl rfl (by decide) (by decide) rfl) ?_))
   simp only [ev,zD,zE,zF,zG]
   refine ql rfl (fun u m=>((m.b 8 rfl).lies agg_30 cells_30 rfl rfl)) ?_
   simp only [ev,zD,zE,zF,zG,zH,zI,zJ,zK,Nat.zero_add,Nat.reduceAdd,Nat.reduceMul,Int.reduceToNat]
   refine ql rfl (fun u m=>((m.b 5 rfl).full agg_30 cells_30)) ?_
   simp only [ev,zD,zE,zF,zG]
   refine q_val (r_move) ?_
   simp only [ev,zD,zE,zF,zG]
   refine ql rfl (fun u m=>((m.b 0 rfl).full agg_23 cells_23)) ?_
   simp only [ev,zD,zE,zF,zG]
   refine qcP rfl rfl (me_y) ?_
   simp only [ev,zD,zE,zF,zG]
   refine qcP rfl rfl (From_c Iw.h) ?_
   simp only [ev,zD,zE,zF,zG]
   refine qcP rfl rfl (Mul_c Bw.up Bw.up) ?_
   simp only [ev,zD,zE,zF,zG]
   refine qcP rfl rfl (Add_c Bw.up Bw.up) (q_val (r_indexAddrA Tryd.underlying51 cells_30 rfl rfl (by decide) (by decide) rfl) (q_nil ?_))
   clear m; intro u m
   simp only [ev,zD,zE,zF,zG]
   refine mstoreA m 8 rfl rfl rfl cells_30 (leT rfl) rfl ?_
   clear m; intro u m; simp only [over,zH,zI,zJ,zK,zL,zM,zN,zO,zP,zF,zG,Nat.reduceAdd] at m
   refine n_nil (k43 _ _ ?_)
   refine wp_region_lit (n_val (r_add (m:=1) (n:=1) (r:=2) rfl rfl (by decide)) (n_val (r_move) (n_nil (then_rounds (c_seq fun K45 k45=>wp_region_lit (n_val (r_lssT (m:=2) (n:=3) rfl rfl (by decide)) (n_nil (k45 _ _ ?_))))))))
   refine c_seq fun K46 k46=>c_yes rfl (wp_skip (k46 _ _ ?_))
   refine c_seq fun K47 k47=>wp_block (c_seq fun K48 k48=>wp_region_lit (n_val (r_index_25_2 rfl rfl) ?_))
   simp only [ev,zD,zE,zF,zG]
   refine malloc m zero_23 rfl ?_
   clear m; intro g12 u m
   simp only [ev,zD,zE,zF,zG]
   refine mstoreA m 0 rfl rfl rfl cells_23 (leT rfl) rfl ?_
   clear m; intro u m; simp only [over,zH,zI,zJ,zK,zL,zM,zN,zO,zP,zF,zG,Nat.reduceAdd] at m
   refine n_nil (k48 _ _ ?_)
   refine mq_tail m 12 follows_mixed (by kernel_rfl) ?_
   simp only [zH,zI,zJ,zK]
   refine q_val (r_move) (q_val (r_move) (q_val (r_indexAddrA Tryd.underlying51 cells_30 rfl rfl (by decide) (by decide) rfl) ?_))
   simp only [ev,zD,zE,zF,zG]
   refine ql rfl (fun u m=>((m.b 9 rfl).lies agg_30 cells_30 rfl rfl)) ?_
   simp only [ev,zD,zE,zF,zG,zH,zI,zJ,zK,Nat.zero_add,Nat.reduceAdd,Nat.reduceMul,Int.reduceToNat]
   refine ql rfl (fun u m=>((m.b 6 rfl).full agg_30 cells_30)) ?_
   simp only [ev,zD,zE,zF,zG]
   refine q_val (r_move) ?_
   simp only [ev,zD,zE,zF,zG]
   refine ql rfl (fun u m=>((m.b 0 rfl).full agg_23 cells_23)) ?_
   simp only [ev,zD,zE,zF,zG]
   refine qcP rfl rfl (me_y) ?_
   simp only [ev,zD,zE,zF,zG]
   refine qcP rfl rfl (From_c Iw.h) ?_
   simp only [ev,zD,zE,zF,zG]
   refine qcP rfl rfl (Mul_c Bw.up Bw.up) ?_
   simp only [ev,zD,zE,zF,zG]
   refine qcP rfl rfl (Add_c Bw.up Bw.up) (q_val (r_indexAddrA Tryd.underlying51 cells_30 rfl rfl (by decide) (by decide) rfl) (q_nil ?_))
   clear m; intro u m
   simp only [ev,zD,zE,zF,zG]
   refine mstoreA m 9 rfl rfl rfl cells_30 (leT rfl) rfl ?_
   clear m; intro u m; simp only [over,zH,zI,zJ,zK,zL,zM,zN,zO,zP,zF,zG,Nat.reduceAdd] at m
   refine n_nil (k47 _ _ ?_)
   refine wp_region_lit (n_val (r_add (m:=2) (n:=1) (r:=3) rfl rfl (by decide)) (n_val (r_move) (n_nil (then_rounds (c_seq fun K49 k49=>wp_region_lit (n_val (r_lssF (m:=3) (n:=3) rfl rfl (by decide)) (n_nil (k49 _ _ ?_))))))))
   refine c_seq fun K50 k50=>c_no rfl (wp_exit (k34 _ _ ?_))
   refine wp_region_lit (n_val (r_add (m:=1) (n:=1) (r:=2) rfl rfl (by decide)) ?_)
   simp only [ev,zD,zE,zF,zG]
   refine n_val (r_move) (n_nil (then_rounds (c_seq fun K51 k51=>wp_region_lit (n_val (r_lssT (m:=2) (n:=3) rfl rfl (by decide)) (n_nil (k51 _ _ ?_))))))
   refine c_seq fun K52 k52=>c_yes rfl (wp_skip (k52 _ _ ?_))
   refine c_seq fun K53 k53=>wp_block (c_seq fun K54 k54=>wp_region_lit (n_val (r_move) (n_val (r_index_63_2 rfl rfl) ?_)))
   simp only [ev,zD,zE,zF,zG]
   refine n_val (r_assign) (n_val (r_assign) (n_nil (k54 _ _ ?_)))
   refine c_seq fun K55 k55=>wp_region_lit ?_
   simp only [ev,zD,zE,zF,zG]
   refine n_load rfl ((m.b 8 rfl).full agg_25 cells_25) ?_
   simp only [ev,zD,zE,zF,zG]
   refine n_val (r_move) (n_nil (k55 _ _ ?_))
   refine wp_block (wp_loop_rounds 4 (rounds_step (c_seq fun K56 k56=>wp_region_lit (n_val (r_lssT (m:=0) (n:=3) rfl rfl (by decide)) (n_nil (k56 _ _ ?_))))))
   refine c_seq fun K57 k57=>c_yes rfl (wp_skip (k57 _ _ ?_))
   refine c_seq fun K58 k58=>wp_block (c_seq fun K59 k59=>wp_region_lit (n_val (r_index_25_0 rfl rfl) ?_))
   simp only [ev,zD,zE,zF,zG]
   refine malloc m zero_23 rfl ?_
   clear m; intro g13 u m
   simp only [ev,zD,zE,zF,zG]
   refine mstoreA m 0 rfl rfl rfl cells_23 (leT rfl) rfl ?_
   clear m; intro u m; simp only [over,zH,zI,zJ,zK,zL,zM,zN,zO,zP,zF,zG,Nat.reduceAdd] at m
   refine n_nil (k59 _ _ ?_)
   refine mq_tail m 12 follows_mixed (by kernel_rfl) ?_
   simp only [zH,zI,zJ,zK]
   refine q_val (r_move) (q_val (r_move) (q_val (r_indexAddrA Tryd.underlying51 cells_30 rfl rfl (by decide) (by decide) rfl) ?_))
   simp only [ev,zD,zE,zF,zG]
   refine ql rfl (fun u m=>((m.b 10 rfl).lies agg_30 cells_30 rfl rfl)) ?_
   simp only [ev,zD,zE,zF,zG,zH,zI,zJ,zK,Nat.zero_add,Nat.reduceAdd,Nat.reduceMul,Int.reduceToNat]
   refine ql rfl (fun u m=>((m.b 7 rfl).full agg_30 cells_30)) ?_
   simp only [ev,zD,zE,zF,zG]
   refine q_val (r_move) ?_
   simp only [ev,zD,zE,zF,zG]
   refine ql rfl (fun u m=>((m.b 0 rfl).full agg_23 cells_23)) ?_
   simp only [ev,zD,zE,zF,zG]
   refine qcP rfl rfl (me_z) ?_
   simp only [ev,zD,zE,zF,zG]
   refine qcP rfl rfl (From_c Iw.h) ?_
   simp only [ev,zD,zE,zF,zG]
   refine qcP rfl rfl (Mul_c Bw.up Bw.up) ?_
   simp only [ev,zD,zE,zF,zG]
   refine qcP rfl rfl (Add_c Bw.up Bw.up) (q_val (r_indexAddrA Tryd.underlying51 cells_30 rfl rfl (by decide) (by decide) rfl) (q_nil ?_))
   clear m; intro u m
   simp only [ev,zD,zE,zF,zG]
   refine mstoreA m 10 rfl rfl rfl cells_30 (leT rfl) rfl ?_
   clear m; intro u m; simp only [over,zH,zI,zJ,zK,zL,zM,zN,zO,zP,zF,zG,Nat.reduceAdd] at m
   refine n_nil (k58 _ _ ?_)
   refine wp_region_lit (n_val (r_add (m:=0) (n:=1) (r:=1) rfl rfl (by decide)) (n_val (r_move) (n_nil (then_rounds (c_seq fun K60 k60=>wp_region_lit (n_val (r_lssT (m:=1) (n:=3) rfl rfl (by decide)) (n_nil (k60 _ _ ?_))))))))
   refine c_seq fun K61 k61=>c_yes rfl (wp_skip (k61 _ _ ?_))
   refine c_seq fun K62 k62=>wp_block (c_seq fun K63 k63=>wp_region_lit (n_val (r_index_25_1 rfl rfl) ?_))
   simp only [ev,zD,zE,zF,zG]
   refine malloc m zero_23 rfl ?_
   clear m; intro g14 u m
   simp only [ev,zD,zE,zF,zG]
   refine mstoreA m 0 rfl rfl rfl cells_23 (leT rfl) rfl ?_
   clear m; intro u m; simp only [over,zH,zI,zJ,zK,zL,zM,zN,zO,zP,zF,zG,Nat.reduceAdd] at m
   refine n_nil (k63 _ _ ?_)
   refine mq_tail m 12 follows_mixed (by kernel_rfl) ?_
   simp only [zH,zI,zJ,zK]
   refine q_val (r_move) (q_val (r_move) (q_val (r_indexAddrA Tryd.underlying51 cells_30 rfl rfl (by decide) (by decide) rfl) ?_))
   simp only [ev,zD,zE,zF,zG]
   refine ql rfl (fun u m=>((m.b 11 rfl).lies agg_30 cells_30 rfl rfl)) ?_
   simp only [ev,zD,zE,zF,zG,zH,zI,zJ,zK,Nat.zero_add,Nat.reduceAdd,Nat.reduceMul,Int.reduceToNat]
   refine ql rfl (fun u m=>((m.b 8 rfl).full agg_30 cells_30)) ?_
   simp only [ev,zD,zE,zF,zG]
   refine q_val (r_move) ?_
   simp only [ev,zD,zE,zF,zG]
   refine ql rfl (fun u m=>((m.b 0 rfl).full agg_23 cells_23)) ?_
   simp only [ev,zD,zE,zF,zG]
   refine qcP rfl rfl (me_z) ?_
   simp only [ev,zD,zE,zF,zG]
   refine qcP rfl rfl (From_c Iw.h) ?_
   simp only [ev,zD,zE,zF,zG]
   refine qcP rfl rfl (Mul_c Bw.up Bw.up) ?_
   simp only [ev,zD,zE,zF,zG]
   refine qcP rfl rfl (Add_c Bw.up Bw.up) (q_val (r_indexAddrA Tryd.underlying51 cells_30 rfl rfl (by decide) (by decide) rfl) (q_nil ?_))
   clear m; intro u m
   simp only [ev,zD,zE,zF,zG]
   refine mstoreA m 11 rfl rfl rfl cells_30 (leT rfl) rfl ?_
   clear m; intro u m; simp only [over,zH,zI,zJ,zK,zL,zM,zN,zO,zP,zF,zG,Nat.reduceAdd] at m
   refine n_nil (k62 _ _ ?_)
   refine wp_region_lit (n_val (r_add (m:=1) (n:=1) (r:=2) rfl rfl (by decide)) (n_val (r_move) (n_nil (then_rounds (c_seq fun K64 k64=>wp_region_lit (n_val (r_lssT (m:=2) (n:=3) rfl rfl (by decide)) (n_nil (k64 _ _ ?_))))))))
   refine c_seq fun K65 k65=>c_yes rfl (wp_skip (k65 _ _ ?_))
   refine c_seq fun K66 k66=>wp_block (c_seq fun K67 k67=>wp_region_lit (n_val (r_index_25_2 rfl rfl) ?_))
   simp only [ev,zD,zE,zF,zG]
   refine malloc m zero_23 rfl ?_
   clear m; intro g15 u m
   simp only [ev,zD,zE,zF,zG]
   refine mstoreA m 0 rfl rfl rfl cells_23 (leT rfl) rfl ?_
   clear m; intro u m; simp only [over,zH,zI,zJ,zK,zL,zM,zN,zO,zP,zF,zG,Nat.reduceAdd] at m
   refine n_nil (k67 _ _ ?_)
   refine mq_tail m 12 follows_mixed (by kernel_rfl) ?_
   simp only [zH,zI,zJ,zK]
   refine q_val (r_move) (q_val (r_move) (q_val (r_indexAddrA Tryd.underlying51 cells_30 rfl rfl (by decide) (by decide) rfl) ?_))
   simp only [ev,zD,zE,zF,zG]
   refine ql rfl (fun u m=>((m.b 12 rfl).lies agg_30 cells_30 rfl rfl)) ?_
   simp only [ev,zD,zE,zF,zG,zH,zI,zJ,zK,Nat.zero_add,Nat.reduceAdd,Nat.reduceMul,Int.reduceToNat]
   refine ql rfl (fun u m=>((m.b 9 rfl).full agg_30 cells_30)) ?_
   simp only [ev,zD,zE,zF,zG]
   refine q_val (r_move) ?_
   simp only [ev,zD,zE,zF,zG]
   refine ql rfl (fun u m=>((m.b 0 rfl).full agg_23 cells_23)) ?_
   simp only [ev,zD,zE,zF,zG]
   refine qcP rfl rfl (me_z) ?_
   simp only [ev,zD,zE,zF,zG]
   refine qcP rfl rfl (From_c Iw.h) ?_
   simp only [ev,zD,zE,zF,zG]
   refine qcP rfl rfl (Mul_c Bw.up Bw.up) ?_
   simp only [ev,zD,zE,zF,zG]
   refine qcP rfl rfl (Add_c Bw.up Bw.up) (q_val (r_indexAddrA Tryd.underlying51 cells_30 rfl rfl (by decide) (by decide) rfl) (q_nil ?_))
   clear m; intro u m
   simp only [ev,zD,zE,zF,zG]
   refine mstoreA m 12 rfl rfl rfl cells_30 (leT rfl) rfl ?_
   clear m; intro u m; simp only [over,zH,zI,zJ,zK,zL,zM,zN,zO,zP,zF,zG,Nat.reduceAdd] at m
   refine n_nil (k66 _ _ ?_)
   refine wp_region_lit (n_val (r_add (m:=2) (n:=1) (r:=3) rfl rfl (by decide)) (n_val (r_move) (n_nil (then_rounds (c_seq fun K68 k68=>wp_region_lit (n_val (r_lssF (m:=3) (n:=3) rfl rfl (by decide)) (n_nil (k68 _ _ ?_))))))))
   refine c_seq fun K69 k69=>c_no rfl (wp_exit (k53 _ _ ?_))
   refine wp_region_lit (n_val (r_add (m:=2) (n:=1) (r:=3) rfl rfl (by decide)) ?_)
   simp only [ev,zD,zE,zF,zG]
   refine n_val (r_move) (n_nil (then_rounds (c_seq fun K70 k70=>wp_region_lit (n_val (r_lssF (m:=3) (n:=3) rfl rfl (by decide)) (n_nil (k70 _ _ ?_))))))
   refine c_seq fun K71 k71=>c_no rfl (wp_exit (k8 _ _ ?_))
   refine wp_region_lit ?_
   simp only [ev,zD,zE,zF,zG]
   refine n_val (r_add rfl rfl (wrap_i64 (by omega) (by omega))) (n_val (r_move) (n_nil ?_))
   simp only [ev,zD,zE,zF,zG]
   simp only [Exit.inBlock,Exit.then]
   refine ⟨N - (k + 1),_,?_,rfl,?_,?_⟩
   · omega
   · simp only [zQ,zR,zD,zE,setG_cons,setG_nil,setMany_cons,setMany_nil,zF,zG]
   ·
    simp only [zQ,zR,zD,zE]
    exact ⟨k + 1,rfl,(((m.re 13 rfl (by rw [sumT_step ht]; exact (m.b 13 rfl))).re 12 rfl (by rw [sumT_step (f:=(mom P3.x)) ht,sumT_step (f:=(mom P3.y)) ht,sumT_step (f:=(mom P3.z)) ht,← mom_step,← mom_step,← mom_step]; exact (m.b 12 rfl))).sel [false,false,false,false,false,false,false,false,false,false,false,false,true,true,true]),by omega,rfl⟩
  ·
   have hkN : k = N:=by omega
   rw [hkN,show ts.take N = ts from List.take_of_length_le (by rw [hT.len]; exact Nat.le_refl _)] at m
   haveI : Bw 264 (sumT det ts):=⟨sumT_bd (m:=200) (fun u hu=>by haveI:=hT.it u hu; exact det_bd) (by rw [hT.len]; omega)⟩
   haveI : Bw 364 (sumT (mom P3.x) ts):=⟨sumT_bd (m:=300) (fun u hu=>by haveI:=hT.it u hu; exact mom_bd Iw.h.bd Iw.h.bd Iw.h.bd) (by rw [hT.len]; omega)⟩
   haveI : Bw 364 (sumT (mom P3.y) ts):=⟨sumT_bd (m:=300) (fun u hu=>by haveI:=hT.it u hu; exact mom_bd Iw.h.bd Iw.h.bd Iw.h.bd) (by rw [hT.len]; omega)⟩
   haveI : Bw 364 (sumT (mom P3.z) ts):=⟨sumT_bd (m:=300) (fun u hu=>by haveI:=hT.it u hu; exact mom_bd Iw.h.bd Iw.h.bd Iw.h.bd) (by rw [hT.len]; omega)⟩
   refine wp_exit (k4 _ _ ?_)
   refine c_seq fun K72 k72=>wp_region_lit (n_load rfl ((m.b 1 rfl).full agg_30 cells_30) ?_)
   simp only [ev,zD,zE,zF,zG]
   refine mcallP m rfl rfl (Sign_c Bw.up) ?_
   clear m; intro u m
   refine n_val (r_neq rfl rfl) (n_val (r_assign) (n_nil (k72 _ _ ?_)))
   refine c_seq fun K73 k73=>?_
   simp only [ev,zD,zE,zF,zG]
   rcases Decidable.em (isign (sumT det ts) ≠ 0) with hV | hV
   ·
    rw [decide_eq_true hV]
    have hV0:=mt isign_zero_iff.2 hV
    refine wp_region_lit (malloc m zero_42 rfl ?_)
    clear m; intro g4 u m
    refine n_nil (k73 _ _ ?_)
    refine c_seq fun K74 k74=>c_seq fun K75 k75=>wp_region_lit (n_val (r_move) (n_nil (k75 _ _ ?_)))
    refine wp_block (wp_loop_rounds 4 (rounds_step (c_seq fun K76 k76=>wp_region_lit (n_val (r_lssT (m:=0) (n:=3) rfl rfl (by decide)) (n_nil (k76 _ _ ?_))))))
    refine c_seq fun K77 k77=>c_yes rfl (wp_skip (k77 _ _ ?_))
    refine c_seq fun K78 k78=>wp_block (c_seq fun K79 k79=>wp_region_lit (n_val (r_move) ?_))
    simp only [ev,zD,zE,zF,zG]
    refine n_val (r_assign) (n_nil (k79 _ _ ?_))
    refine c_seq fun K80 k80=>wp_region_lit (n_val (r_move) (n_val (r_build_30_) ?_))
    simp only [ev,zD,zE,zF,zG]
    refine mcallP m rfl rfl (whole0_c) ?_
    clear m; intro u m
    refine n_val (r_indexAddrA Tryd.underlying42 cells_32 rfl rfl (by decide) (by decide) rfl) ?_
    simp only [ev,zD,zE,zF,zG]
    refine mstoreA m 0 rfl rfl rfl cells_32 (leT rfl) rfl ?_
    clear m; intro u m; simp only [over,zH,zI,zJ,zK,zL,zM,zN,zO,zP,zF,zG,Nat.reduceAdd] at m
    refine n_nil (k80 _ _ ?_)
    refine c_seq fun K81 k81=>wp_region_lit (n_val (r_move) (n_nil (k81 _ _ ?_)))
    refine c_yes rfl ?_
    simp only [ev,zD,zE,zF,zG]
    refine mq_tail m 9 follows_mixed (by kernel_rfl) ?_
    simp only [zH,zI,zJ,zK]
    refine q_val (r_move) (q_val (r_move) (q_val (r_indexAddrA Tryd.underlying51 cells_30 rfl rfl (by decide) (by decide) rfl) ?_))
    simp only [ev,zD,zE,zF,zG]
    refine ql rfl (fun u m=>((m.b 1 rfl).lies agg_30 cells_30 rfl rfl)) ?_
    simp only [ev,zD,zE,zF,zG,zH,zI,zJ,zK,Nat.zero_add,Nat.reduceAdd,Nat.reduceMul,Int.reduceToNat]
    refine ql rfl (fun u m=>((m.b 2 rfl).full agg_30 cells_30)) ?_
    simp only [ev,zD,zE,zF,zG]
    refine qcP rfl rfl (From_c Iw.h) ?_
    simp only [ev,zD,zE,zF,zG]
    refine qcP rfl rfl (Mul_c Bw.up Bw.up) ?_
    simp only [ev,zD,zE,zF,zG]
    refine qcP rfl rfl (mFrac_c Bw.up Bw.up (by have:=mt isign_zero_iff.2 hV; omega)) (q_val (r_indexAddrA Tryd.underlying42 cells_32 rfl rfl (by decide) (by decide) rfl) (q_nil ?_))
    clear m; intro u m
    simp only [ev,zD,zE,zF,zG]
    refine mstoreA m 0 rfl rfl rfl cells_32 (leT rfl) rfl ?_
    clear m; intro u m; simp only [over,zH,zI,zJ,zK,zL,zM,zN,zO,zP,zF,zG,Nat.reduceAdd] at m
    refine n_nil (k78 _ _ ?_)
    refine wp_region_lit (n_val (r_add (m:=0) (n:=1) (r:=1) rfl rfl (by decide)) (n_val (r_move) (n_nil (then_rounds (c_seq fun K82 k82=>wp_region_lit (n_val (r_lssT (m:=1) (n:=3) rfl rfl (by decide)) (n_nil (k82 _ _ ?_))))))))
    refine c_seq fun K83 k83=>c_yes rfl (wp_skip (k83 _ _ ?_))
    refine c_seq fun K84 k84=>wp_block (c_seq fun K85 k85=>wp_region_lit (n_val (r_move) ?_))
    simp only [ev,zD,zE,zF,zG]
    refine n_val (r_assign) (n_nil (k85 _ _ ?_))
    refine c_seq fun K86 k86=>wp_region_lit (n_val (r_move) (n_val (r_build_30_) ?_))
    simp only [ev,zD,zE,zF,zG]
    refine mcallP m rfl rfl (whole0_c) ?_
    clear m; intro u m
    refine n_val (r_indexAddrA Tryd.underlying42 cells_32 rfl rfl (by decide) (by decide) rfl) ?_
    simp only [ev,zD,zE,zF,zG]
    refine mstoreA m 0 rfl rfl rfl cells_32 (leT rfl) rfl ?_
    clear m; intro u m; simp only [over,zH,zI,zJ,zK,zL,zM,zN,zO,zP,zF,zG,Nat.reduceAdd] at m
    refine n_nil (k86 _ _ ?_)
    refine c_seq fun K87 k87=>wp_region_lit (n_val (r_move) (n_nil (k87 _ _ ?_)))
    refine c_yes rfl ?_
    simp only [ev,zD,zE,zF,zG]
    refine mq_tail m 9 follows_mixed (by kernel_rfl) ?_
    simp only [zH,zI,zJ,zK]
    refine q_val (r_move) (q_val (r_move) (q_val (r_indexAddrA Tryd.underlying51 cells_30 rfl rfl (by decide) (by decide) rfl) ?_))
    simp only [ev,zD,zE,zF,zG]
    refine ql rfl (fun u m=>((m.b 1 rfl).lies agg_30 cells_30 rfl rfl)) ?_
    simp only [ev,zD,zE,zF,zG,zH,zI,zJ,zK,Nat.zero_add,Nat.reduceAdd,Nat.reduceMul,Int.reduceToNat]
    refine ql rfl (fun u m=>((m.b 2 rfl).full agg_30 cells_30)) ?_
    simp only [ev,zD,zE,zF,zG]
    refine qcP rfl rfl (From_c Iw.h) ?_
    simp only [ev,zD,zE,zF,zG]
    refine qcP rfl rfl (Mul_c Bw.up Bw.up) ?_
    simp only [ev,zD,zE,zF,zG]
    refine qcP rfl rfl (mFrac_c Bw.up Bw.up (by have:=mt isign_zero_iff.2 hV; omega)) (q_val (r_indexAddrA Tryd.underlying42 cells_32 rfl rfl (by decide) (by decide) rfl) (q_nil ?_))
    clear m; intro u m
    simp only [ev,zD,zE,zF,zG]
    refine mstoreA m 0 rfl rfl rfl cells_32 (leT rfl) rfl ?_
    clear m; intro u m; simp only [over,zH,zI,zJ,zK,zL,zM,zN,zO,zP,zF,zG,Nat.reduceAdd] at m
    refine n_nil (k84 _ _ ?_)
    refine wp_region_lit (n_val (r_add (m:=1) (n:=1) (r:=2) rfl rfl (by decide)) (n_val (r_move) (n_nil (then_rounds (c_seq fun K88 k88=>wp_region_lit (n_val (r_lssT (m:=2) (n:=3) rfl rfl (by decide)) (n_nil (k88 _ _ ?_))))))))
    refine c_seq fun K89 k89=>c_yes rfl (wp_skip (k89 _ _ ?_))
    refine c_seq fun K90 k90=>wp_block (c_seq fun K91 k91=>wp_region_lit (n_val (r_move) ?_))
    simp only [ev,zD,zE,zF,zG]
    refine n_val (r_assign) (n_nil (k91 _ _ ?_))
    refine c_seq fun K92 k92=>wp_region_lit (n_val (r_move) (n_val (r_build_30_) ?_))
    simp only [ev,zD,zE,zF,zG]
    refine mcallP m rfl rfl (whole0_c) ?_
    clear m; intro u m
    refine n_val (r_indexAddrA Tryd.underlying42 cells_32 rfl rfl (by decide) (by decide) rfl) ?_
    simp only [ev,zD,zE,zF,zG]
    refine mstoreA m 0 rfl rfl rfl cells_32 (leT rfl) rfl ?_
    clear m; intro u m; simp only [over,zH,zI,zJ,zK,zL,zM,zN,zO,zP,zF,zG,Nat.reduceAdd] at m
    refine n_nil (k92 _ _ ?_)
    refine c_seq fun K93 k93=>wp_region_lit (n_val (r_move) (n_nil (k93 _ _ ?_)))
    refine c_yes rfl ?_
    simp only [ev,zD,zE,zF,zG]
    refine mq_tail m 9 follows_mixed (by kernel_rfl) ?_
    simp only [zH,zI,zJ,zK]
    refine q_val (r_move) (q_val (r_move) (q_val (r_indexAddrA Tryd.underlying51 cells_30 rfl rfl (by decide) (by decide) rfl) ?_))
    simp only [ev,zD,zE,zF,zG]
    refine ql rfl (fun u m=>((m.b 1 rfl).lies agg_30 cells_30 rfl rfl)) ?_
    simp only [ev,zD,zE,zF,zG,zH,zI,zJ,zK,Nat.zero_add,Nat.reduceAdd,Nat.reduceMul,Int.reduceToNat]
    refine ql rfl (fun u m=>((m.b 2 rfl).full agg_30 cells_30)) ?_
    simp only [ev,zD,zE,zF,zG]
    refine qcP rfl rfl (From_c Iw.h) ?_
    simp only [ev,zD,zE,zF,zG]
    refine qcP rfl rfl (Mul_c Bw.up Bw.up) ?_
    simp only [ev,zD,zE,zF,zG]
    refine qcP rfl rfl (mFrac_c Bw.up Bw.up (by have:=mt isign_zero_iff.2 hV; omega)) (q_val (r_indexAddrA Tryd.underlying42 cells_32 rfl rfl (by decide) (by decide) rfl) (q_nil ?_))
    clear m; intro u m
    simp only [ev,zD,zE,zF,zG]
    refine mstoreA m 0 rfl rfl rfl cells_32 (leT rfl) rfl ?_
    clear m; intro u m; simp only [over,zH,zI,zJ,zK,zL,zM,zN,zO,zP,zF,zG,Nat.reduceAdd] at m
    refine n_nil (k90 _ _ ?_)
    refine wp_region_lit (n_val (r_add (m:=2) (n:=1) (r:=3) rfl rfl (by decide)) (n_val (r_move) (n_nil (then_rounds (c_seq fun K94 k94=>wp_region_lit (n_val (r_lssF (m:=3) (n:=3) rfl rfl (by decide)) (n_nil (k94 _ _ ?_))))))))
    refine c_seq fun K95 k95=>c_no rfl (wp_exit (k74 _ _ ?_))
    refine c_seq fun K96 k96=>wp_region_lit ?_
    simp only [ev,zD,zE,zF,zG]
    refine n_load rfl ((m.b 0 rfl).full agg_42 cells_42) ?_
    simp only [ev,zD,zE,zF,zG]
    refine n_val (r_move) ?_
    simp only [ev,zD,zE,zF,zG]
    refine mstoreA m 3 rfl rfl rfl cells_42 (leT rfl) rfl ?_
    clear m; intro u m; simp only [over,zH,zI,zJ,zK,zL,zM,zN,zO,zP,zF,zG,Nat.reduceAdd] at m
    refine n_val (r_assign) (n_nil (k96 _ _ ?_))
    refine wp_ret ?_
    simp only [ev,zD,zE,zF,zG]
    try simp only [Exit.inBlock,Exit.then,if_true]
    refine fin2 rfl ⟨_,rfl,((m.b 3 rfl).full agg_42 cells_42)⟩ rfl ?_
    try simp only [zD,zE]
    exact ⟨_,rfl,m.ext,by first | (simp only [cq,if_neg hV0,decide_eq_true hV0]; rfl) | (simp only [cq,if_pos hV0,decide_eq_false (not_not_intro hV0)]; rfl)⟩
   ·
    rw [decide_eq_false hV]
    have hV0:=isign_zero_iff.1 (Decidable.of_not_not hV)
    refine wp_region_lit (malloc m zero_42 rfl ?_)
    clear m; intro g4 u m
    refine n_nil (k73 _ _ ?_)
    refine c_seq fun K97 k97=>c_seq fun K98 k98=>wp_region_lit (n_val (r_move) (n_nil (k98 _ _ ?_)))
    refine wp_block (wp_loop_rounds 4 (rounds_step (c_seq fun K99 k99=>wp_region_lit (n_val (r_lssT (m:=0) (n:=3) rfl rfl (by decide)) (n_nil (k99 _ _ ?_))))))
    refine c_seq fun K100 k100=>c_yes rfl (wp_skip (k100 _ _ ?_))
    refine c_seq fun K101 k101=>wp_block (c_seq fun K102 k102=>wp_region_lit (n_val (r_move) ?_))
    simp only [ev,zD,zE,zF,zG]
    refine n_val (r_assign) (n_nil (k102 _ _ ?_))
    refine c_seq fun K103 k103=>wp_region_lit (n_val (r_move) (n_val (r_build_30_) ?_))
    simp only [ev,zD,zE,zF,zG]
    refine mcallP m rfl rfl (whole0_c) ?_
    clear m; intro u m
    refine n_val (r_indexAddrA Tryd.underlying42 cells_32 rfl rfl (by decide) (by decide) rfl) ?_
    simp only [ev,zD,zE,zF,zG]
    refine mstoreA m 0 rfl rfl rfl cells_32 (leT rfl) rfl ?_
    clear m; intro u m; simp only [over,zH,zI,zJ,zK,zL,zM,zN,zO,zP,zF,zG,Nat.reduceAdd] at m
    refine n_nil (k103 _ _ ?_)
    refine c_seq fun K104 k104=>wp_region_lit (n_val (r_move) (n_nil (k104 _ _ ?_)))
    refine c_no rfl (wp_skip (k101 _ _ ?_))
    refine wp_region_lit (n_val (r_add (m:=0) (n:=1) (r:=1) rfl rfl (by decide)) (n_val (r_move) (n_nil (then_rounds (c_seq fun K105 k105=>wp_region_lit (n_val (r_lssT (m:=1) (n:=3) rfl rfl (by decide)) ?_))))))
    simp only [ev,zD,zE,zF,zG]
    refine n_nil (k105 _ _ ?_)
    refine c_seq fun K106 k106=>c_yes rfl (wp_skip (k106 _ _ ?_))
    refine c_seq fun K107 k107=>wp_block (c_seq fun K108 k108=>wp_region_lit (n_val (r_move) (n_val (r_assign) (n_nil (k108 _ _ ?_)))))
    refine c_seq fun K109 k109=>wp_region_lit (n_val (r_move) (n_val (r_build_30_) ?_))
    simp only [ev,zD,zE,zF,zG]
    refine mcallP m rfl rfl (whole0_c) ?_
    clear m; intro u m
    refine n_val (r_indexAddrA Tryd.underlying42 cells_32 rfl rfl (by decide) (by decide) rfl) ?_
    simp only [ev,zD,zE,zF,zG]
    refine mstoreA m 0 rfl rfl rfl cells_32 (leT rfl) rfl ?_
    clear m; intro u m; simp only [over,zH,zI,zJ,zK,zL,zM,zN,zO,zP,zF,zG,Nat.reduceAdd] at m
    refine n_nil (k109 _ _ ?_)
    refine c_seq fun K110 k110=>wp_region_lit (n_val (r_move) (n_nil (k110 _ _ ?_)))
    refine c_no rfl (wp_skip (k107 _ _ ?_))
    refine wp_region_lit (n_val (r_add (m:=1) (n:=1) (r:=2) rfl rfl (by decide)) (n_val (r_move) (n_nil (then_rounds (c_seq fun K111 k111=>wp_region_lit (n_val (r_lssT (m:=2) (n:=3) rfl rfl (by decide)) ?_))))))
    simp only [ev,zD,zE,zF,zG]
    refine n_nil (k111 _ _ ?_)
    refine c_seq fun K112 k112=>c_yes rfl (wp_skip (k112 _ _ ?_))
    refine c_seq fun K113 k113=>wp_block (c_seq fun K114 k114=>wp_region_lit (n_val (r_move) (n_val (r_assign) (n_nil (k114 _ _ ?_)))))
    refine c_seq fun K115 k115=>wp_region_lit (n_val (r_move) (n_val (r_build_30_) ?_))
    simp only [ev,zD,zE,zF,zG]
    refine mcallP m rfl rfl (whole0_c) ?_
    clear m; intro u m
    refine n_val (r_indexAddrA Tryd.underlying42 cells_32 rfl rfl (by decide) (by decide) rfl) ?_
    simp only [ev,zD,zE,zF,zG]
    refine mstoreA m 0 rfl rfl rfl cells_32 (leT rfl) rfl ?_
    clear m; intro u m; simp only [over,zH,zI,zJ,zK,zL,zM,zN,zO,zP,zF,zG,Nat.reduceAdd] at m
    refine n_nil (k115 _ _ ?_)
    refine c_seq fun K116 k116=>wp_region_lit (n_val (r_move) (n_nil (k116 _ _ ?_)))
    refine c_no rfl (wp_skip (k113 _ _ ?_))
    refine wp_region_lit (n_val (r_add (m:=2) (n:=1) (r:=3) rfl rfl (by decide)) (n_val (r_move) (n_nil (then_rounds (c_seq fun K117 k117=>wp_region_lit (n_val (r_lssF (m:=3) (n:=3) rfl rfl (by decide)) ?_))))))
    simp only [ev,zD,zE,zF,zG]
    refine n_nil (k117 _ _ ?_)
    refine c_seq fun K118 k118=>c_no rfl (wp_exit (k97 _ _ ?_))
    refine c_seq fun K119 k119=>wp_region_lit (n_load rfl ((m.b 0 rfl).full agg_42 cells_42) ?_)
    simp only [ev,zD,zE,zF,zG]
    refine n_val (r_move) ?_
    simp only [ev,zD,zE,zF,zG]
    refine mstoreA m 3 rfl rfl rfl cells_42 (leT rfl) rfl ?_
    clear m; intro u m; simp only [over,zH,zI,zJ,zK,zL,zM,zN,zO,zP,zF,zG,Nat.reduceAdd] at m
    refine n_val (r_assign) (n_nil (k119 _ _ ?_))
    refine wp_ret ?_
    simp only [ev,zD,zE,zF,zG]
    try simp only [Exit.inBlock,Exit.then,if_true]
    refine fin2 rfl ⟨_,rfl,((m.b 3 rfl).full agg_42 cells_42)⟩ rfl ?_
    try simp only [zD,zE]
    exact ⟨_,rfl,m.ext,by first | (simp only [cq,if_neg hV0,decide_eq_true hV0]; rfl) | (simp only [cq,if_pos hV0,decide_eq_false (not_not_intro hV0)]; rfl)⟩
end Go.Proofs.YtmcgcnpgkkfkoaaDoor
namespace Go.Proofs.YtmcgcnpgkkfkoaaDoor
open Go.RowKit Go.Lith
set_option maxRecDepth 100000
attribute [local irreducible] wpList wpQuiet wpMix wpMixH wpTree Code.wp
end Go.Proofs.YtmcgcnpgkkfkoaaDoor
namespace Go.Proofs.YtmcgcnpgkkfkoaaDoor
open Go.RowKit Go.Lith
set_option maxRecDepth 100000
attribute [local irreducible] wpList wpQuiet wpMix wpMixH wpTree Code.wp
end Go.Proofs.YtmcgcnpgkkfkoaaDoor
namespace Go.Proofs.YtmcgcnpgkkfkoaaDoor
open Go.RowKit Go.Lith
set_option maxRecDepth 100000
attribute [local irreducible] wpList wpQuiet wpMix wpMixH wpTree Code.wp
end Go.Proofs.YtmcgcnpgkkfkoaaDoor
