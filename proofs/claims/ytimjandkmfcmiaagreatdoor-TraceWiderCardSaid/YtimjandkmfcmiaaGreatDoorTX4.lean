/-
  Texts of one claim, laid together: Exact2, Geo6, Ray, Grow, Pts, Map0, Map, Map2, Sort, Sets, Guard, Open, Surf, Box, Ray2, Ray3, Ray4, Ray5, Ray6.
-/
import Derived.Sort.Grow
import Derived.Deep.Draws
import Derived.Maps.RangeRun
import Derived.Shelf.SlSortCmp.WholeK
import Derived.Shelf.SlSortCmp.NoneTotal
import Derived.OpenShut
import Derived.Lib.SmallJoins
import Derived.Deep.Slices
import Derived.Test.YtimjandkmfcmiaaGreatDoorTX3
set_option maxHeartbeats 8000000
set_option linter.unusedSimpArgs false
set_option linter.unusedVariables false
set_option linter.unusedSectionVars false
namespace Go.Proofs.YtimjandkmfcmiaaGreatDoor
open Go.RowKit Go.Lith
set_option maxRecDepth 100000
attribute [local irreducible] wpList wpQuiet wpMix wpMixH wpTree Code.wp
theorem exSmall_c {a b c d : P3} [I3 a] [I3 b] [I3 c] [I3 d] {g0 : Nat} (w : World) (hB0 : Blk w g0 [.int .i64 a.x,.int .i64 a.y,.int .i64 a.z,.int .i64 b.x,.int .i64 b.y,.int .i64 b.z,.int .i64 c.x,.int .i64 c.y,.int .i64 c.z,.int .i64 d.x,.int .i64 d.y,.int .i64 d.z] 56) : Does Tryz.prog 133 [.slice (some ⟨g0,0,none⟩) 4 4] w (fun v _=>∃ bo : Bool,v = .bool bo ∧ (bo = true → S3 a ∧ S3 b ∧ S3 c ∧ S3 d)):=by
 refine ⟨en_133,?_⟩
 have m:=Mem.refl w
 go_enter Tryz.func133,Tryz.ntmps133
 refine c_seq fun K1 k1=>wp_region_lit (n_val (r_assign) (n_nil (k1 _ _ ?_)))
 refine c_seq fun K2 k2=>c_seq fun K3 k3=>wp_region_lit (n_val (r_move) (n_val (r_lenS rfl Tryz.underlying26 rfl) (n_val (r_move) ?_)))
 simp only [ev,zD,zE,zF,zG]
 refine n_nil (k3 _ _ ?_)
 refine wp_block (wp_loop_rounds 5 (rounds_step (c_seq fun K4 k4=>wp_region_lit (n_val (r_lssT (m:=0) (n:=4) rfl rfl (by decide)) (n_nil (k4 _ _ ?_))))))
 refine c_seq fun K5 k5=>c_yes rfl (wp_skip (k5 _ _ ?_))
 refine c_seq fun K6 k6=>wp_block (c_seq fun K7 k7=>wp_region_lit (n_val (r_indexAddrS Tryz.underlying26 cells_56 rfl rfl (by decide) (by decide) rfl) ?_))
 simp only [ev,zD,zE,zF,zG]
 refine n_load rfl ((hB0.ext m.ext).lies agg_56 cells_56 rfl rfl) ?_
 simp only [ev,zD,zE,zF,zG,zH,zI,zJ,zK,Nat.zero_add,Nat.reduceAdd,Nat.reduceMul,Int.reduceToNat]
 refine malloc m zero_56 rfl ?_
 clear m; intro g1 u m
 simp only [ev,zD,zE,zF,zG]
 refine mstoreA m 0 rfl rfl rfl cells_56 (leT rfl) rfl ?_
 clear m; intro u m; simp only [over,zH,zI,zJ,zK,zL,zM,zN,zO,zP,zF,zG,Nat.reduceAdd] at m
 refine n_nil (k7 _ _ ?_)
 refine c_seq fun K8 k8=>wp_region_lit (n_val (r_fieldAddr (c:=0) Tryz.underlying56 rfl cells_3 rfl rfl) ?_)
 simp only [ev,zD,zE,zF,zG]
 refine n_load rfl ((m.b 0 rfl).lies1 agg_3 rfl) ?_
 simp only [ev,zD,zE,zF,zG]
 refine n_val (r_fieldAddr (c:=0) Tryz.underlying56 rfl cells_3 rfl rfl) ?_
 simp only [ev,zD,zE,zF,zG]
 refine n_load rfl ((m.b 0 rfl).lies1 agg_3 rfl) ?_
 simp only [ev,zD,zE,zF,zG]
 refine n_val (r_fieldAddr (c:=0) Tryz.underlying56 rfl cells_3 rfl rfl) ?_
 simp only [ev,zD,zE,zF,zG]
 refine n_load rfl ((m.b 0 rfl).lies1 agg_3 rfl) ?_
 simp only [ev,zD,zE,zF,zG]
 refine n_val (r_build_23_0_1_2 rfl rfl rfl) (n_val (r_move) (n_nil (k8 _ _ ?_)))
 refine wp_block (wp_loop_rounds 4 (rounds_step (c_seq fun K9 k9=>wp_region_lit (n_val (r_lssT (m:=0) (n:=3) rfl rfl (by decide)) (n_nil (k9 _ _ ?_))))))
 refine c_seq fun K10 k10=>c_yes rfl (wp_skip (k10 _ _ ?_))
 refine c_seq fun K11 k11=>wp_block (c_seq fun K12 k12=>wp_region_lit (n_val (r_index_23_0 rfl rfl) ?_))
 simp only [ev,zD,zE,zF,zG]
 refine n_val (r_assign) (n_nil (k12 _ _ ?_))
 refine c_seq fun K13 k13=>wp_region_lit (n_val (r_move) (n_val (r_move) (n_val (r_neg rfl rfl) ?_)))
 simp only [ev,zD,zE,zF,zG]
 refine n_val (r_max rfl rfl rfl) (n_val (r_conv Tryz.underlying101 Tryz.underlying3 rfl (abs64 Iw.h)) ?_)
 simp only [ev,zD,zE,zF,zG]
 refine mcall m rfl rfl (len64_c (X:=(a.x).natAbs) _ (by have:=(Iw.h : I64 a.x).natAbs; omega)) ?_
 clear m; rintro v u m ⟨n,rfl,hn0,hn1,hax⟩
 refine n_val (r_gtr rfl rfl) (n_nil (k13 _ _ ?_))
 simp only [ev,zD,zE,zF,zG]
 refine c_if rfl (fun hc3=>?_) (fun hc3=>?_)
 ·
  refine c_seq fun K14 k14=>wp_region_lit (n_val (r_assign) (n_nil (k14 _ _ ?_)))
  refine wp_ret ?_
  simp only [ev,zD,zE,zF,zG]
  try simp only [Exit.inBlock,Exit.then,if_true]
  refine fin1 rfl rfl ?_
  try simp only [zD,zE]
  exact ⟨_,rfl,m.ext,false,rfl,fun h=>by cases h⟩
 ·
  replace hax:=hax (by omega)
  clear hc3 hn0 hn1
  refine wp_skip (k11 _ _ ?_)
  refine wp_region_lit (n_val (r_add (m:=0) (n:=1) (r:=1) rfl rfl (by decide)) (n_val (r_move) (n_nil (then_rounds (c_seq fun K15 k15=>wp_region_lit (n_val (r_lssT (m:=1) (n:=3) rfl rfl (by decide)) (n_nil (k15 _ _ ?_))))))))
  refine c_seq fun K16 k16=>c_yes rfl (wp_skip (k16 _ _ ?_))
  refine c_seq fun K17 k17=>wp_block (c_seq fun K18 k18=>wp_region_lit (n_val (r_index_23_1 rfl rfl) ?_))
  simp only [ev,zD,zE,zF,zG]
  refine n_val (r_assign) (n_nil (k18 _ _ ?_))
  refine c_seq fun K19 k19=>wp_region_lit (n_val (r_move) (n_val (r_move) (n_val (r_neg rfl rfl) ?_)))
  simp only [ev,zD,zE,zF,zG]
  refine n_val (r_max rfl rfl rfl) (n_val (r_conv Tryz.underlying101 Tryz.underlying3 rfl (abs64 Iw.h)) ?_)
  simp only [ev,zD,zE,zF,zG]
  refine mcall m rfl rfl (len64_c (X:=(a.y).natAbs) _ (by have:=(Iw.h : I64 a.y).natAbs; omega)) ?_
  clear m; rintro v u m ⟨n,rfl,hn0,hn1,hay⟩
  refine n_val (r_gtr rfl rfl) (n_nil (k19 _ _ ?_))
  simp only [ev,zD,zE,zF,zG]
  refine c_if rfl (fun hc3=>?_) (fun hc3=>?_)
  ·
   refine c_seq fun K20 k20=>wp_region_lit (n_val (r_assign) (n_nil (k20 _ _ ?_)))
   refine wp_ret ?_
   simp only [ev,zD,zE,zF,zG]
   try simp only [Exit.inBlock,Exit.then,if_true]
   refine fin1 rfl rfl ?_
   try simp only [zD,zE]
   exact ⟨_,rfl,m.ext,false,rfl,fun h=>by cases h⟩
  ·
   replace hay:=hay (by omega)
   clear hc3 hn0 hn1
   refine wp_skip (k17 _ _ ?_)
   refine wp_region_lit (n_val (r_add (m:=1) (n:=1) (r:=2) rfl rfl (by decide)) (n_val (r_move) (n_nil (then_rounds (c_seq fun K21 k21=>wp_region_lit (n_val (r_lssT (m:=2) (n:=3) rfl rfl (by decide)) (n_nil (k21 _ _ ?_))))))))
   refine c_seq fun K22 k22=>c_yes rfl (wp_skip (k22 _ _ ?_))
   refine c_seq fun K23 k23=>wp_block (c_seq fun K24 k24=>wp_region_lit (n_val (r_index_23_2 rfl rfl) ?_))
   simp only [ev,zD,zE,zF,zG]
   refine n_val (r_assign) (n_nil (k24 _ _ ?_))
   refine c_seq fun K25 k25=>wp_region_lit (n_val (r_move) (n_val (r_move) (n_val (r_neg rfl rfl) ?_)))
   simp only [ev,zD,zE,zF,zG]
   refine n_val (r_max rfl rfl rfl) (n_val (r_conv Tryz.underlying101 Tryz.underlying3 rfl (abs64 Iw.h)) ?_)
   simp only [ev,zD,zE,zF,zG]
   refine mcall m rfl rfl (len64_c (X:=(a.z).natAbs) _ (by have:=(Iw.h : I64 a.z).natAbs; omega)) ?_
   clear m; rintro v u m ⟨n,rfl,hn0,hn1,haz⟩
   refine n_val (r_gtr rfl rfl) (n_nil (k25 _ _ ?_))
   simp only [ev,zD,zE,zF,zG]
   refine c_if rfl (fun hc3=>?_) (fun hc3=>?_)
   ·
    refine c_seq fun K26 k26=>wp_region_lit (n_val (r_assign) (n_nil (k26 _ _ ?_)))
    refine wp_ret ?_
    simp only [ev,zD,zE,zF,zG]
    try simp only [Exit.inBlock,Exit.then,if_true]
    refine fin1 rfl rfl ?_
    try simp only [zD,zE]
    exact ⟨_,rfl,m.ext,false,rfl,fun h=>by cases h⟩
   ·
    replace haz:=haz (by omega)
    clear hc3 hn0 hn1
    refine wp_skip (k23 _ _ ?_)
    refine wp_region_lit (n_val (r_add (m:=2) (n:=1) (r:=3) rfl rfl (by decide)) (n_val (r_move) (n_nil (then_rounds (c_seq fun K27 k27=>wp_region_lit (n_val (r_lssF (m:=3) (n:=3) rfl rfl (by decide)) (n_nil (k27 _ _ ?_))))))))
    refine c_seq fun K28 k28=>c_no rfl (wp_exit (k6 _ _ ?_))
    refine wp_region_lit (n_val (r_add (m:=0) (n:=1) (r:=1) rfl rfl (by decide)) ?_)
    simp only [ev,zD,zE,zF,zG]
    refine n_val (r_move) (n_nil (then_rounds (c_seq fun K29 k29=>wp_region_lit (n_val (r_lssT (m:=1) (n:=4) rfl rfl (by decide)) (n_nil (k29 _ _ ?_))))))
    refine c_seq fun K30 k30=>c_yes rfl (wp_skip (k30 _ _ ?_))
    refine c_seq fun K31 k31=>wp_block (c_seq fun K32 k32=>wp_region_lit (n_val (r_indexAddrS Tryz.underlying26 cells_56 rfl rfl (by decide) (by decide) rfl) ?_))
    simp only [ev,zD,zE,zF,zG]
    refine n_load rfl ((hB0.ext m.ext).lies agg_56 cells_56 rfl rfl) ?_
    simp only [ev,zD,zE,zF,zG,zH,zI,zJ,zK,Nat.zero_add,Nat.reduceAdd,Nat.reduceMul,Int.reduceToNat]
    refine malloc m zero_56 rfl ?_
    clear m; intro g2 u m
    simp only [ev,zD,zE,zF,zG]
    refine mstoreA m 0 rfl rfl rfl cells_56 (leT rfl) rfl ?_
    clear m; intro u m; simp only [over,zH,zI,zJ,zK,zL,zM,zN,zO,zP,zF,zG,Nat.reduceAdd] at m
    refine n_nil (k32 _ _ ?_)
    refine c_seq fun K33 k33=>wp_region_lit (n_val (r_fieldAddr (c:=0) Tryz.underlying56 rfl cells_3 rfl rfl) ?_)
    simp only [ev,zD,zE,zF,zG]
    refine n_load rfl ((m.b 0 rfl).lies1 agg_3 rfl) ?_
    simp only [ev,zD,zE,zF,zG]
    refine n_val (r_fieldAddr (c:=0) Tryz.underlying56 rfl cells_3 rfl rfl) ?_
    simp only [ev,zD,zE,zF,zG]
    refine n_load rfl ((m.b 0 rfl).lies1 agg_3 rfl) ?_
    simp only [ev,zD,zE,zF,zG]
    refine n_val (r_fieldAddr (c:=0) Tryz.underlying56 rfl cells_3 rfl rfl) ?_
    simp only [ev,zD,zE,zF,zG]
    refine n_load rfl ((m.b 0 rfl).lies1 agg_3 rfl) ?_
    simp only [ev,zD,zE,zF,zG]
    refine n_val (r_build_23_0_1_2 rfl rfl rfl) (n_val (r_move) (n_nil (k33 _ _ ?_)))
    refine wp_block (wp_loop_rounds 4 (rounds_step (c_seq fun K34 k34=>wp_region_lit (n_val (r_lssT (m:=0) (n:=3) rfl rfl (by decide)) (n_nil (k34 _ _ ?_))))))
    refine c_seq fun K35 k35=>c_yes rfl (wp_skip (k35 _ _ ?_))
    refine c_seq fun K36 k36=>wp_block (c_seq fun K37 k37=>wp_region_lit (n_val (r_index_23_0 rfl rfl) ?_))
    simp only [ev,zD,zE,zF,zG]
    refine n_val (r_assign) (n_nil (k37 _ _ ?_))
    refine c_seq fun K38 k38=>wp_region_lit (n_val (r_move) (n_val (r_move) (n_val (r_neg rfl rfl) ?_)))
    simp only [ev,zD,zE,zF,zG]
    refine n_val (r_max rfl rfl rfl) (n_val (r_conv Tryz.underlying101 Tryz.underlying3 rfl (abs64 Iw.h)) ?_)
    simp only [ev,zD,zE,zF,zG]
    refine mcall m rfl rfl (len64_c (X:=(b.x).natAbs) _ (by have:=(Iw.h : I64 b.x).natAbs; omega)) ?_
    clear m; rintro v u m ⟨n,rfl,hn0,hn1,hbx⟩
    refine n_val (r_gtr rfl rfl) (n_nil (k38 _ _ ?_))
    simp only [ev,zD,zE,zF,zG]
    refine c_if rfl (fun hc3=>?_) (fun hc3=>?_)
    ·
     refine c_seq fun K39 k39=>wp_region_lit (n_val (r_assign) (n_nil (k39 _ _ ?_)))
     refine wp_ret ?_
     simp only [ev,zD,zE,zF,zG]
     try simp only [Exit.inBlock,Exit.then,if_true]
     refine fin1 rfl rfl ?_
     try simp only [zD,zE]
     exact ⟨_,rfl,m.ext,false,rfl,fun h=>by cases h⟩
    ·
     replace hbx:=hbx (by omega)
     clear hc3 hn0 hn1
     refine wp_skip (k36 _ _ ?_)
     refine wp_region_lit (n_val (r_add (m:=0) (n:=1) (r:=1) rfl rfl (by decide)) (n_val (r_move) (n_nil (then_rounds (c_seq fun K40 k40=>wp_region_lit (n_val (r_lssT (m:=1) (n:=3) rfl rfl (by decide)) (n_nil (k40 _ _ ?_))))))))
     refine c_seq fun K41 k41=>c_yes rfl (wp_skip (k41 _ _ ?_))
     refine c_seq fun K42 k42=>wp_block (c_seq fun K43 k43=>wp_region_lit (n_val (r_index_23_1 rfl rfl) ?_))
     simp only [ev,zD,zE,zF,zG]
     refine n_val (r_assign) (n_nil (k43 _ _ ?_))
     refine c_seq fun K44 k44=>wp_region_lit (n_val (r_move) (n_val (r_move) (n_val (r_neg rfl rfl) ?_)))
     simp only [ev,zD,zE,zF,zG]
     refine n_val (r_max rfl rfl rfl) (n_val (r_conv Tryz.underlying101 Tryz.underlying3 rfl (abs64 Iw.h)) ?_)
     simp only [ev,zD,zE,zF,zG]
     refine mcall m rfl rfl (len64_c (X:=(b.y).natAbs) _ (by have:=(Iw.h : I64 b.y).natAbs; omega)) ?_
     clear m; rintro v u m ⟨n,rfl,hn0,hn1,hby⟩
     refine n_val (r_gtr rfl rfl) (n_nil (k44 _ _ ?_))
     simp only [ev,zD,zE,zF,zG]
     refine c_if rfl (fun hc3=>?_) (fun hc3=>?_)
     ·
      refine c_seq fun K45 k45=>wp_region_lit (n_val (r_assign) (n_nil (k45 _ _ ?_)))
      refine wp_ret ?_
      simp only [ev,zD,zE,zF,zG]
      try simp only [Exit.inBlock,Exit.then,if_true]
      refine fin1 rfl rfl ?_
      try simp only [zD,zE]
      exact ⟨_,rfl,m.ext,false,rfl,fun h=>by cases h⟩
     ·
      replace hby:=hby (by omega)
      clear hc3 hn0 hn1
      refine wp_skip (k42 _ _ ?_)
      refine wp_region_lit (n_val (r_add (m:=1) (n:=1) (r:=2) rfl rfl (by decide)) (n_val (r_move) (n_nil (then_rounds (c_seq fun K46 k46=>wp_region_lit (n_val (r_lssT (m:=2) (n:=3) rfl rfl (by decide)) (n_nil (k46 _ _ ?_))))))))
      refine c_seq fun K47 k47=>c_yes rfl (wp_skip (k47 _ _ ?_))
      refine c_seq fun K48 k48=>wp_block (c_seq fun K49 k49=>wp_region_lit (n_val (r_index_23_2 rfl rfl) ?_))
      simp only [ev,zD,zE,zF,zG]
      refine n_val (r_assign) (n_nil (k49 _ _ ?_))
      refine c_seq fun K50 k50=>wp_region_lit (n_val (r_move) (n_val (r_move) (n_val (r_neg rfl rfl) ?_)))
      simp only [ev,zD,zE,zF,zG]
      refine n_val (r_max rfl rfl rfl) (n_val (r_conv Tryz.underlying101 Tryz.underlying3 rfl (abs64 Iw.h)) ?_)
      simp only [ev,zD,zE,zF,zG]
      refine mcall m rfl rfl (len64_c (X:=(b.z).natAbs) _ (by have:=(Iw.h : I64 b.z).natAbs; omega)) ?_
      clear m; rintro v u m ⟨n,rfl,hn0,hn1,hbz⟩
      refine n_val (r_gtr rfl rfl) (n_nil (k50 _ _ ?_))
      simp only [ev,zD,zE,zF,zG]
      refine c_if rfl (fun hc3=>?_) (fun hc3=>?_)
      ·
       refine c_seq fun K51 k51=>wp_region_lit (n_val (r_assign) (n_nil (k51 _ _ ?_)))
       refine wp_ret ?_
       simp only [ev,zD,zE,zF,zG]
       try simp only [Exit.inBlock,Exit.then,if_true]
       refine fin1 rfl rfl ?_
       try simp only [zD,zE]
       exact ⟨_,rfl,m.ext,false,rfl,fun h=>by cases h⟩
      ·
       replace hbz:=hbz (by omega)
       clear hc3 hn0 hn1
       refine wp_skip (k48 _ _ ?_)
       refine wp_region_lit (n_val (r_add (m:=2) (n:=1) (r:=3) rfl rfl (by decide)) (n_val (r_move) (n_nil (then_rounds (c_seq fun K52 k52=>wp_region_lit (n_val (r_lssF (m:=3) (n:=3) rfl rfl (by decide)) (n_nil (k52 _ _ ?_))))))))
       refine c_seq fun K53 k53=>c_no rfl (wp_exit (k31 _ _ ?_))
       refine wp_region_lit (n_val (r_add (m:=1) (n:=1) (r:=2) rfl rfl (by decide)) ?_)
       simp only [ev,zD,zE,zF,zG]
       refine n_val (r_move) (n_nil (then_rounds (c_seq fun K54 k54=>wp_region_lit (n_val (r_lssT (m:=2) (n:=4) rfl rfl (by decide)) (n_nil (k54 _ _ ?_))))))
       refine c_seq fun K55 k55=>c_yes rfl (wp_skip (k55 _ _ ?_))
       refine c_seq fun K56 k56=>wp_block (c_seq fun K57 k57=>wp_region_lit (n_val (r_indexAddrS Tryz.underlying26 cells_56 rfl rfl (by decide) (by decide) rfl) ?_))
       simp only [ev,zD,zE,zF,zG]
       refine n_load rfl ((hB0.ext m.ext).lies agg_56 cells_56 rfl rfl) ?_
       simp only [ev,zD,zE,zF,zG,zH,zI,zJ,zK,Nat.zero_add,Nat.reduceAdd,Nat.reduceMul,Int.reduceToNat]
       refine malloc m zero_56 rfl ?_
       clear m; intro g3 u m
       simp only [ev,zD,zE,zF,zG]
       refine mstoreA m 0 rfl rfl rfl cells_56 (leT rfl) rfl ?_
       clear m; intro u m; simp only [over,zH,zI,zJ,zK,zL,zM,zN,zO,zP,zF,zG,Nat.reduceAdd] at m
       refine n_nil (k57 _ _ ?_)
       refine c_seq fun K58 k58=>wp_region_lit (n_val (r_fieldAddr (c:=0) Tryz.underlying56 rfl cells_3 rfl rfl) ?_)
       simp only [ev,zD,zE,zF,zG]
       refine n_load rfl ((m.b 0 rfl).lies1 agg_3 rfl) ?_
       simp only [ev,zD,zE,zF,zG]
       refine n_val (r_fieldAddr (c:=0) Tryz.underlying56 rfl cells_3 rfl rfl) ?_
       simp only [ev,zD,zE,zF,zG]
       refine n_load rfl ((m.b 0 rfl).lies1 agg_3 rfl) ?_
       simp only [ev,zD,zE,zF,zG]
       refine n_val (r_fieldAddr (c:=0) Tryz.underlying56 rfl cells_3 rfl rfl) ?_
       simp only [ev,zD,zE,zF,zG]
       refine n_load rfl ((m.b 0 rfl).lies1 agg_3 rfl) ?_
       simp only [ev,zD,zE,zF,zG]
       refine n_val (r_build_23_0_1_2 rfl rfl rfl) (n_val (r_move) (n_nil (k58 _ _ ?_)))
       refine wp_block (wp_loop_rounds 4 (rounds_step (c_seq fun K59 k59=>wp_region_lit (n_val (r_lssT (m:=0) (n:=3) rfl rfl (by decide)) (n_nil (k59 _ _ ?_))))))
       refine c_seq fun K60 k60=>c_yes rfl (wp_skip (k60 _ _ ?_))
       refine c_seq fun K61 k61=>wp_block (c_seq fun K62 k62=>wp_region_lit (n_val (r_index_23_0 rfl rfl) ?_))
       simp only [ev,zD,zE,zF,zG]
       refine n_val (r_assign) (n_nil (k62 _ _ ?_))
       refine c_seq fun K63 k63=>wp_region_lit (n_val (r_move) (n_val (r_move) (n_val (r_neg rfl rfl) ?_)))
       simp only [ev,zD,zE,zF,zG]
       refine n_val (r_max rfl rfl rfl) (n_val (r_conv Tryz.underlying101 Tryz.underlying3 rfl (abs64 Iw.h)) ?_)
       simp only [ev,zD,zE,zF,zG]
       refine mcall m rfl rfl (len64_c (X:=(c.x).natAbs) _ (by have:=(Iw.h : I64 c.x).natAbs; omega)) ?_
       clear m; rintro v u m ⟨n,rfl,hn0,hn1,hcx⟩
       refine n_val (r_gtr rfl rfl) (n_nil (k63 _ _ ?_))
       simp only [ev,zD,zE,zF,zG]
       refine c_if rfl (fun hc3=>?_) (fun hc3=>?_)
       ·
        refine c_seq fun K64 k64=>wp_region_lit (n_val (r_assign) (n_nil (k64 _ _ ?_)))
        refine wp_ret ?_
        simp only [ev,zD,zE,zF,zG]
        try simp only [Exit.inBlock,Exit.then,if_true]
        refine fin1 rfl rfl ?_
        try simp only [zD,zE]
        exact ⟨_,rfl,m.ext,false,rfl,fun h=>by cases h⟩
       ·
        replace hcx:=hcx (by omega)
        clear hc3 hn0 hn1
        refine wp_skip (k61 _ _ ?_)
        refine wp_region_lit (n_val (r_add (m:=0) (n:=1) (r:=1) rfl rfl (by decide)) (n_val (r_move) (n_nil (then_rounds (c_seq fun K65 k65=>wp_region_lit (n_val (r_lssT (m:=1) (n:=3) rfl rfl (by decide)) (n_nil (k65 _ _ ?_))))))))
        refine c_seq fun K66 k66=>c_yes rfl (wp_skip (k66 _ _ ?_))
        refine c_seq fun K67 k67=>wp_block (c_seq fun K68 k68=>wp_region_lit (n_val (r_index_23_1 rfl rfl) ?_))
        simp only [ev,zD,zE,zF,zG]
        refine n_val (r_assign) (n_nil (k68 _ _ ?_))
        refine c_seq fun K69 k69=>wp_region_lit (n_val (r_move) (n_val (r_move) (n_val (r_neg rfl rfl) ?_)))
        simp only [ev,zD,zE,zF,zG]
        refine n_val (r_max rfl rfl rfl) (n_val (r_conv Tryz.underlying101 Tryz.underlying3 rfl (abs64 Iw.h)) ?_)
        simp only [ev,zD,zE,zF,zG]
        refine mcall m rfl rfl (len64_c (X:=(c.y).natAbs) _ (by have:=(Iw.h : I64 c.y).natAbs; omega)) ?_
        clear m; rintro v u m ⟨n,rfl,hn0,hn1,hcy⟩
        refine n_val (r_gtr rfl rfl) (n_nil (k69 _ _ ?_))
        simp only [ev,zD,zE,zF,zG]
        refine c_if rfl (fun hc3=>?_) (fun hc3=>?_)
        ·
         refine c_seq fun K70 k70=>wp_region_lit (n_val (r_assign) (n_nil (k70 _ _ ?_)))
         refine wp_ret ?_
         simp only [ev,zD,zE,zF,zG]
         try simp only [Exit.inBlock,Exit.then,if_true]
         refine fin1 rfl rfl ?_
         try simp only [zD,zE]
         exact ⟨_,rfl,m.ext,false,rfl,fun h=>by cases h⟩
        ·
         replace hcy:=hcy (by omega)
         clear hc3 hn0 hn1
         refine wp_skip (k67 _ _ ?_)
         refine wp_region_lit (n_val (r_add (m:=1) (n:=1) (r:=2) rfl rfl (by decide)) (n_val (r_move) (n_nil (then_rounds (c_seq fun K71 k71=>wp_region_lit (n_val (r_lssT (m:=2) (n:=3) rfl rfl (by decide)) (n_nil (k71 _ _ ?_))))))))
         refine c_seq fun K72 k72=>c_yes rfl (wp_skip (k72 _ _ ?_))
         refine c_seq fun K73 k73=>wp_block (c_seq fun K74 k74=>wp_region_lit (n_val (r_index_23_2 rfl rfl) ?_))
         simp only [ev,zD,zE,zF,zG]
         refine n_val (r_assign) (n_nil (k74 _ _ ?_))
         refine c_seq fun K75 k75=>wp_region_lit (n_val (r_move) (n_val (r_move) (n_val (r_neg rfl rfl) ?_)))
         simp only [ev,zD,zE,zF,zG]
         refine n_val (r_max rfl rfl rfl) (n_val (r_conv Tryz.underlying101 Tryz.underlying3 rfl (abs64 Iw.h)) ?_)
         simp only [ev,zD,zE,zF,zG]
         refine mcall m rfl rfl (len64_c (X:=(c.z).natAbs) _ (by have:=(Iw.h : I64 c.z).natAbs; omega)) ?_
         clear m; rintro v u m ⟨n,rfl,hn0,hn1,hcz⟩
         refine n_val (r_gtr rfl rfl) (n_nil (k75 _ _ ?_))
         simp only [ev,zD,zE,zF,zG]
         refine c_if rfl (fun hc3=>?_) (fun hc3=>?_)
         ·
          refine c_seq fun K76 k76=>wp_region_lit (n_val (r_assign) (n_nil (k76 _ _ ?_)))
          refine wp_ret ?_
          simp only [ev,zD,zE,zF,zG]
          try simp only [Exit.inBlock,Exit.then,if_true]
          refine fin1 rfl rfl ?_
          try simp only [zD,zE]
          exact ⟨_,rfl,m.ext,false,rfl,fun h=>by cases h⟩
         ·
          replace hcz:=hcz (by omega)
          clear hc3 hn0 hn1
          refine wp_skip (k73 _ _ ?_)
          refine wp_region_lit (n_val (r_add (m:=2) (n:=1) (r:=3) rfl rfl (by decide)) (n_val (r_move) (n_nil (then_rounds (c_seq fun K77 k77=>wp_region_lit (n_val (r_lssF (m:=3) (n:=3) rfl rfl (by decide)) (n_nil (k77 _ _ ?_))))))))
          refine c_seq fun K78 k78=>c_no rfl (wp_exit (k56 _ _ ?_))
          refine wp_region_lit (n_val (r_add (m:=2) (n:=1) (r:=3) rfl rfl (by decide)) ?_)
          simp only [ev,zD,zE,zF,zG]
          refine n_val (r_move) (n_nil (then_rounds (c_seq fun K79 k79=>wp_region_lit (n_val (r_lssT (m:=3) (n:=4) rfl rfl (by decide)) (n_nil (k79 _ _ ?_))))))
          refine c_seq fun K80 k80=>c_yes rfl (wp_skip (k80 _ _ ?_))
          refine c_seq fun K81 k81=>wp_block (c_seq fun K82 k82=>wp_region_lit (n_val (r_indexAddrS Tryz.underlying26 cells_56 rfl rfl (by decide) (by decide) rfl) ?_))
          simp only [ev,zD,zE,zF,zG]
          refine n_load rfl ((hB0.ext m.ext).lies agg_56 cells_56 rfl rfl) ?_
          simp only [ev,zD,zE,zF,zG,zH,zI,zJ,zK,Nat.zero_add,Nat.reduceAdd,Nat.reduceMul,Int.reduceToNat]
          refine malloc m zero_56 rfl ?_
          clear m; intro g4 u m
          simp only [ev,zD,zE,zF,zG]
          refine mstoreA m 0 rfl rfl rfl cells_56 (leT rfl) rfl ?_
          clear m; intro u m; simp only [over,zH,zI,zJ,zK,zL,zM,zN,zO,zP,zF,zG,Nat.reduceAdd] at m
          refine n_nil (k82 _ _ ?_)
          refine c_seq fun K83 k83=>wp_region_lit (n_val (r_fieldAddr (c:=0) Tryz.underlying56 rfl cells_3 rfl rfl) ?_)
          simp only [ev,zD,zE,zF,zG]
          refine n_load rfl ((m.b 0 rfl).lies1 agg_3 rfl) ?_
          simp only [ev,zD,zE,zF,zG]
          refine n_val (r_fieldAddr (c:=0) Tryz.underlying56 rfl cells_3 rfl rfl) ?_
          simp only [ev,zD,zE,zF,zG]
          refine n_load rfl ((m.b 0 rfl).lies1 agg_3 rfl) ?_
          simp only [ev,zD,zE,zF,zG]
          refine n_val (r_fieldAddr (c:=0) Tryz.underlying56 rfl cells_3 rfl rfl) ?_
          simp only [ev,zD,zE,zF,zG]
          refine n_load rfl ((m.b 0 rfl).lies1 agg_3 rfl) ?_
          simp only [ev,zD,zE,zF,zG]
          refine n_val (r_build_23_0_1_2 rfl rfl rfl) (n_val (r_move) (n_nil (k83 _ _ ?_)))
          refine wp_block (wp_loop_rounds 4 (rounds_step (c_seq fun K84 k84=>wp_region_lit (n_val (r_lssT (m:=0) (n:=3) rfl rfl (by decide)) (n_nil (k84 _ _ ?_))))))
          refine c_seq fun K85 k85=>c_yes rfl (wp_skip (k85 _ _ ?_))
          refine c_seq fun K86 k86=>wp_block (c_seq fun K87 k87=>wp_region_lit (n_val (r_index_23_0 rfl rfl) ?_))
          simp only [ev,zD,zE,zF,zG]
          refine n_val (r_assign) (n_nil (k87 _ _ ?_))
          refine c_seq fun K88 k88=>wp_region_lit (n_val (r_move) (n_val (r_move) (n_val (r_neg rfl rfl) ?_)))
          simp only [ev,zD,zE,zF,zG]
          refine n_val (r_max rfl rfl rfl) (n_val (r_conv Tryz.underlying101 Tryz.underlying3 rfl (abs64 Iw.h)) ?_)
          simp only [ev,zD,zE,zF,zG]
          refine mcall m rfl rfl (len64_c (X:=(d.x).natAbs) _ (by have:=(Iw.h : I64 d.x).natAbs; omega)) ?_
          clear m; rintro v u m ⟨n,rfl,hn0,hn1,hdx⟩
          refine n_val (r_gtr rfl rfl) (n_nil (k88 _ _ ?_))
          simp only [ev,zD,zE,zF,zG]
          refine c_if rfl (fun hc3=>?_) (fun hc3=>?_)
          ·
           refine c_seq fun K89 k89=>wp_region_lit (n_val (r_assign) (n_nil (k89 _ _ ?_)))
           refine wp_ret ?_
           simp only [ev,zD,zE,zF,zG]
           try simp only [Exit.inBlock,Exit.then,if_true]
           refine fin1 rfl rfl ?_
           try simp only [zD,zE]
           exact ⟨_,rfl,m.ext,false,rfl,fun h=>by cases h⟩
          ·
           replace hdx:=hdx (by omega)
           clear hc3 hn0 hn1
           refine wp_skip (k86 _ _ ?_)
           refine wp_region_lit (n_val (r_add (m:=0) (n:=1) (r:=1) rfl rfl (by decide)) (n_val (r_move) (n_nil (then_rounds (c_seq fun K90 k90=>wp_region_lit (n_val (r_lssT (m:=1) (n:=3) rfl rfl (by decide)) (n_nil (k90 _ _ ?_))))))))
           refine c_seq fun K91 k91=>c_yes rfl (wp_skip (k91 _ _ ?_))
           refine c_seq fun K92 k92=>wp_block (c_seq fun K93 k93=>wp_region_lit (n_val (r_index_23_1 rfl rfl) ?_))
           simp only [ev,zD,zE,zF,zG]
           refine n_val (r_assign) (n_nil (k93 _ _ ?_))
           refine c_seq fun K94 k94=>wp_region_lit (n_val (r_move) (n_val (r_move) (n_val (r_neg rfl rfl) ?_)))
           simp only [ev,zD,zE,zF,zG]
           refine n_val (r_max rfl rfl rfl) (n_val (r_conv Tryz.underlying101 Tryz.underlying3 rfl (abs64 Iw.h)) ?_)
           simp only [ev,zD,zE,zF,zG]
           refine mcall m rfl rfl (len64_c (X:=(d.y).natAbs) _ (by have:=(Iw.h : I64 d.y).natAbs; omega)) ?_
           clear m; rintro v u m ⟨n,rfl,hn0,hn1,hdy⟩
           refine n_val (r_gtr rfl rfl) (n_nil (k94 _ _ ?_))
           simp only [ev,zD,zE,zF,zG]
           refine c_if rfl (fun hc3=>?_) (fun hc3=>?_)
           ·
            refine c_seq fun K95 k95=>wp_region_lit (n_val (r_assign) (n_nil (k95 _ _ ?_)))
            refine wp_ret ?_
            simp only [ev,zD,zE,zF,zG]
            try simp only [Exit.inBlock,Exit.then,if_true]
            refine fin1 rfl rfl ?_
            try simp only [zD,zE]
            exact ⟨_,rfl,m.ext,false,rfl,fun h=>by cases h⟩
           ·
            replace hdy:=hdy (by omega)
            clear hc3 hn0 hn1
            refine wp_skip (k92 _ _ ?_)
            refine wp_region_lit (n_val (r_add (m:=1) (n:=1) (r:=2) rfl rfl (by decide)) (n_val (r_move) (n_nil (then_rounds (c_seq fun K96 k96=>wp_region_lit (n_val (r_lssT (m:=2) (n:=3) rfl rfl (by decide)) (n_nil (k96 _ _ ?_))))))))
            refine c_seq fun K97 k97=>c_yes rfl (wp_skip (k97 _ _ ?_))
            refine c_seq fun K98 k98=>wp_block (c_seq fun K99 k99=>wp_region_lit (n_val (r_index_23_2 rfl rfl) ?_))
            simp only [ev,zD,zE,zF,zG]
            refine n_val (r_assign) (n_nil (k99 _ _ ?_))
            refine c_seq fun K100 k100=>wp_region_lit (n_val (r_move) (n_val (r_move) (n_val (r_neg rfl rfl) ?_)))
            simp only [ev,zD,zE,zF,zG]
            refine n_val (r_max rfl rfl rfl) (n_val (r_conv Tryz.underlying101 Tryz.underlying3 rfl (abs64 Iw.h)) ?_)
            simp only [ev,zD,zE,zF,zG]
            refine mcall m rfl rfl (len64_c (X:=(d.z).natAbs) _ (by have:=(Iw.h : I64 d.z).natAbs; omega)) ?_
            clear m; rintro v u m ⟨n,rfl,hn0,hn1,hdz⟩
            refine n_val (r_gtr rfl rfl) (n_nil (k100 _ _ ?_))
            simp only [ev,zD,zE,zF,zG]
            refine c_if rfl (fun hc3=>?_) (fun hc3=>?_)
            ·
             refine c_seq fun K101 k101=>wp_region_lit (n_val (r_assign) (n_nil (k101 _ _ ?_)))
             refine wp_ret ?_
             simp only [ev,zD,zE,zF,zG]
             try simp only [Exit.inBlock,Exit.then,if_true]
             refine fin1 rfl rfl ?_
             try simp only [zD,zE]
             exact ⟨_,rfl,m.ext,false,rfl,fun h=>by cases h⟩
            ·
             replace hdz:=hdz (by omega)
             clear hc3 hn0 hn1
             refine wp_skip (k98 _ _ ?_)
             refine wp_region_lit (n_val (r_add (m:=2) (n:=1) (r:=3) rfl rfl (by decide)) (n_val (r_move) (n_nil (then_rounds (c_seq fun K102 k102=>wp_region_lit (n_val (r_lssF (m:=3) (n:=3) rfl rfl (by decide)) (n_nil (k102 _ _ ?_))))))))
             refine c_seq fun K103 k103=>c_no rfl (wp_exit (k81 _ _ ?_))
             refine wp_region_lit (n_val (r_add (m:=3) (n:=1) (r:=4) rfl rfl (by decide)) ?_)
             simp only [ev,zD,zE,zF,zG]
             refine n_val (r_move) (n_nil (then_rounds (c_seq fun K104 k104=>wp_region_lit (n_val (r_lssF (m:=4) (n:=4) rfl rfl (by decide)) (n_nil (k104 _ _ ?_))))))
             refine c_seq fun K105 k105=>c_no rfl (wp_exit (k2 _ _ ?_))
             refine c_seq fun K106 k106=>wp_region_lit (n_val (r_assign) (n_nil (k106 _ _ ?_)))
             refine wp_ret ?_
             simp only [ev,zD,zE,zF,zG]
             try simp only [Exit.inBlock,Exit.then,if_true]
             refine fin1 rfl rfl ?_
             try simp only [zD,zE]
             exact ⟨_,rfl,m.ext,true,rfl,fun _=>⟨⟨hax,hay,haz⟩,⟨hbx,hby,hbz⟩,⟨hcx,hcy,hcz⟩,⟨hdx,hdy,hdz⟩⟩⟩
theorem signs_c {a b c d : P3} [I3 a] [I3 b] [I3 c] [I3 d] : Pure Tryz.prog 104 [pt a,pt b,pt c,pt d] (sg ((b.sub a).cross (d.sub c))):=by
 intro w
 refine ⟨en_104,?_⟩
 have m:=Mem.refl w
 go_enter Tryz.func104,Tryz.ntmps104
 refine c_seq fun K1 k1=>wp_region_lit (mboxA m rfl ?_)
 clear m; intro g1 u m
 simp only [ev,zD,zE,zF,zG]
 refine mboxA m rfl ?_
 clear m; intro g2 u m
 simp only [ev,zD,zE,zF,zG]
 refine mboxA m rfl ?_
 clear m; intro g3 u m
 simp only [ev,zD,zE,zF,zG]
 refine mboxA m rfl ?_
 clear m; intro g4 u m
 simp only [ev,zD,zE,zF,zG]
 refine malloc m zero_23 rfl ?_
 clear m; intro g5 u m
 refine n_nil (k1 _ _ ?_)
 refine c_seq fun K2 k2=>wp_region_lit ?_
 simp only [ev,zD,zE,zF,zG]
 refine malloc m zero_23 rfl ?_
 clear m; intro g6 u m
 refine n_nil (k2 _ _ ?_)
 refine c_seq fun K3 k3=>c_seq fun K4 k4=>wp_region_lit ?_
 simp only [ev,zD,zE,zF,zG]
 refine n_load rfl ((m.b 5 rfl).full agg_56 cells_56) ?_
 simp only [ev,zD,zE,zF,zG]
 refine n_load rfl ((m.b 4 rfl).full agg_56 cells_56) ?_
 simp only [ev,zD,zE,zF,zG]
 refine n_load rfl ((m.b 3 rfl).full agg_56 cells_56) ?_
 simp only [ev,zD,zE,zF,zG]
 refine n_load rfl ((m.b 2 rfl).full agg_56 cells_56) ?_
 simp only [ev,zD,zE,zF,zG]
 refine n_bs_26_4 rfl rfl rfl rfl ?_
 intro u g7 e hg hB; replace m:=m.newB e hg hB; clear e hg hB
 simp only [ev,zD,zE,zF,zG]
 refine mcall m rfl rfl (exSmall_c _ (m.b 0 rfl)) ?_
 clear m; rintro v u m ⟨bo,rfl,hsm⟩
 refine n_nil (k4 _ _ ?_)
 simp only [ev,zD,zE,zF,zG]
 refine c_cond rfl (fun hc1=>?_) (fun hc1=>?_)
 ·
  obtain ⟨_,_,_,_⟩:=hsm hc1
  refine c_seq fun K5 k5=>c_seq fun K6 k6=>mq m follows_mixed (by kernel_rfl) (ql rfl (fun u m=>((m.b 6 rfl).full agg_56 cells_56)) ?_)
  simp only [ev,zD,zE,zF,zG]
  refine ql rfl (fun u m=>((m.b 5 rfl).full agg_56 cells_56)) ?_
  simp only [ev,zD,zE,zF,zG]
  refine qcP rfl rfl (nearVector_c) ?_
  simp only [ev,zD,zE,zF,zG]
  refine ql rfl (fun u m=>((m.b 4 rfl).full agg_56 cells_56)) ?_
  simp only [ev,zD,zE,zF,zG]
  refine ql rfl (fun u m=>((m.b 3 rfl).full agg_56 cells_56)) ?_
  simp only [ev,zD,zE,zF,zG]
  refine qcP rfl rfl (nearVector_c) ?_
  simp only [ev,zD,zE,zF,zG]
  refine qcP rfl rfl (nearProduct_c inferInstance inferInstance) (q_val (r_move) (q_nil ?_))
  clear m; intro u m
  refine k6 _ _ ?_
  refine wp_block (wp_loop_rounds 4 (rounds_step (c_seq fun K7 k7=>wp_region_lit (n_val (r_lssT (m:=0) (n:=3) rfl rfl (by decide)) (n_nil (k7 _ _ ?_))))))
  refine c_seq fun K8 k8=>c_yes rfl (wp_skip (k8 _ _ ?_))
  refine c_seq fun K9 k9=>wp_block (c_seq fun K10 k10=>wp_region_lit (n_val (r_move) ?_))
  simp only [ev,zD,zE,zF,zG]
  refine n_val (r_index_176_0 rfl rfl) (n_val (r_assign) (n_val (r_assign) (n_nil (k10 _ _ ?_))))
  refine wp_region_lit (n_val (r_move) ?_)
  simp only [ev,zD,zE,zF,zG]
  refine n_val (r_move) ?_
  simp only [ev,zD,zE,zF,zG]
  refine mcallP m rfl rfl (sign_c) ?_
  clear m; intro u m
  refine n_val (r_indexAddrA Tryz.underlying23 cells_3 rfl rfl (by decide) (by decide) rfl) ?_
  simp only [ev,zD,zE,zF,zG]
  refine mstore1 m 1 rfl rfl rfl cells_3 (leT rfl) ⟨rfl,rfl⟩ ?_
  clear m; intro u m; simp only [over,zH,zI,zJ,zK,zL,zM,zN,zO,zP,zF,zG,Nat.reduceAdd] at m
  refine n_nil (k9 _ _ ?_)
  refine wp_region_lit (n_val (r_add (m:=0) (n:=1) (r:=1) rfl rfl (by decide)) (n_val (r_move) (n_nil (then_rounds (c_seq fun K11 k11=>wp_region_lit (n_val (r_lssT (m:=1) (n:=3) rfl rfl (by decide)) (n_nil (k11 _ _ ?_))))))))
  refine c_seq fun K12 k12=>c_yes rfl (wp_skip (k12 _ _ ?_))
  refine c_seq fun K13 k13=>wp_block (c_seq fun K14 k14=>wp_region_lit (n_val (r_move) ?_))
  simp only [ev,zD,zE,zF,zG]
  refine n_val (r_index_176_1 rfl rfl) (n_val (r_assign) (n_val (r_assign) (n_nil (k14 _ _ ?_))))
  refine wp_region_lit (n_val (r_move) ?_)
  simp only [ev,zD,zE,zF,zG]
  refine n_val (r_move) ?_
  simp only [ev,zD,zE,zF,zG]
  refine mcallP m rfl rfl (sign_c) ?_
  clear m; intro u m
  refine n_val (r_indexAddrA Tryz.underlying23 cells_3 rfl rfl (by decide) (by decide) rfl) ?_
  simp only [ev,zD,zE,zF,zG]
  refine mstore1 m 1 rfl rfl rfl cells_3 (leT rfl) ⟨rfl,rfl⟩ ?_
  clear m; intro u m; simp only [over,zH,zI,zJ,zK,zL,zM,zN,zO,zP,zF,zG,Nat.reduceAdd] at m
  refine n_nil (k13 _ _ ?_)
  refine wp_region_lit (n_val (r_add (m:=1) (n:=1) (r:=2) rfl rfl (by decide)) (n_val (r_move) (n_nil (then_rounds (c_seq fun K15 k15=>wp_region_lit (n_val (r_lssT (m:=2) (n:=3) rfl rfl (by decide)) (n_nil (k15 _ _ ?_))))))))
  refine c_seq fun K16 k16=>c_yes rfl (wp_skip (k16 _ _ ?_))
  refine c_seq fun K17 k17=>wp_block (c_seq fun K18 k18=>wp_region_lit (n_val (r_move) ?_))
  simp only [ev,zD,zE,zF,zG]
  refine n_val (r_index_176_2 rfl rfl) (n_val (r_assign) (n_val (r_assign) (n_nil (k18 _ _ ?_))))
  refine wp_region_lit (n_val (r_move) ?_)
  simp only [ev,zD,zE,zF,zG]
  refine n_val (r_move) ?_
  simp only [ev,zD,zE,zF,zG]
  refine mcallP m rfl rfl (sign_c) ?_
  clear m; intro u m
  refine n_val (r_indexAddrA Tryz.underlying23 cells_3 rfl rfl (by decide) (by decide) rfl) ?_
  simp only [ev,zD,zE,zF,zG]
  refine mstore1 m 1 rfl rfl rfl cells_3 (leT rfl) ⟨rfl,rfl⟩ ?_
  clear m; intro u m; simp only [over,zH,zI,zJ,zK,zL,zM,zN,zO,zP,zF,zG,Nat.reduceAdd] at m
  refine n_nil (k17 _ _ ?_)
  refine wp_region_lit (n_val (r_add (m:=2) (n:=1) (r:=3) rfl rfl (by decide)) (n_val (r_move) (n_nil (then_rounds (c_seq fun K19 k19=>wp_region_lit (n_val (r_lssF (m:=3) (n:=3) rfl rfl (by decide)) (n_nil (k19 _ _ ?_))))))))
  refine c_seq fun K20 k20=>c_no rfl (wp_exit (k5 _ _ ?_))
  refine c_seq fun K21 k21=>wp_region_lit ?_
  simp only [ev,zD,zE,zF,zG]
  refine n_load rfl ((m.b 1 rfl).full agg_23 cells_23) ?_
  simp only [ev,zD,zE,zF,zG]
  refine mstoreA m 2 rfl rfl rfl cells_23 (leT rfl) rfl ?_
  clear m; intro u m; simp only [over,zH,zI,zJ,zK,zL,zM,zN,zO,zP,zF,zG,Nat.reduceAdd] at m
  refine n_nil (k21 _ _ ?_)
  refine wp_ret ?_
  try simp only [Exit.inBlock,Exit.then,if_true]
  refine fin1 rfl ⟨_,rfl,((m.b 2 rfl).full agg_23 cells_23)⟩ ?_
  try simp only [zD,zE]
  exact ⟨_,rfl,m.ext,rfl⟩
 ·
  refine wp_skip (k3 _ _ ?_)
  refine c_seq fun K22 k22=>c_seq fun K23 k23=>mq m follows_mixed (by kernel_rfl) (ql rfl (fun u m=>((m.b 6 rfl).full agg_56 cells_56)) ?_)
  simp only [ev,zD,zE,zF,zG]
  refine ql rfl (fun u m=>((m.b 5 rfl).full agg_56 cells_56)) ?_
  simp only [ev,zD,zE,zF,zG]
  refine qcP rfl rfl (farVector_c) ?_
  simp only [ev,zD,zE,zF,zG]
  refine ql rfl (fun u m=>((m.b 4 rfl).full agg_56 cells_56)) ?_
  simp only [ev,zD,zE,zF,zG]
  refine ql rfl (fun u m=>((m.b 3 rfl).full agg_56 cells_56)) ?_
  simp only [ev,zD,zE,zF,zG]
  refine qcP rfl rfl (farVector_c) ?_
  simp only [ev,zD,zE,zF,zG]
  refine qcP rfl rfl (farProduct_c Bv.of Bv.of) (q_val (r_move) (q_nil ?_))
  clear m; intro u m
  refine k23 _ _ ?_
  refine wp_block (wp_loop_rounds 4 (rounds_step (c_seq fun K24 k24=>wp_region_lit (n_val (r_lssT (m:=0) (n:=3) rfl rfl (by decide)) (n_nil (k24 _ _ ?_))))))
  refine c_seq fun K25 k25=>c_yes rfl (wp_skip (k25 _ _ ?_))
  refine c_seq fun K26 k26=>wp_block (c_seq fun K27 k27=>wp_region_lit (n_val (r_move) ?_))
  simp only [ev,zD,zE,zF,zG]
  refine n_val (r_index_152_0 rfl rfl) ?_
  simp only [ev,zD,zE,zF,zG]
  refine malloc m zero_35 rfl ?_
  clear m; intro g8 u m
  refine n_val (r_assign) ?_
  simp only [ev,zD,zE,zF,zG]
  refine mstoreA m 0 rfl rfl rfl cells_35 (leT rfl) rfl ?_
  clear m; intro u m; simp only [over,zH,zI,zJ,zK,zL,zM,zN,zO,zP,zF,zG,Nat.reduceAdd] at m
  refine n_nil (k27 _ _ ?_)
  refine wp_region_lit (n_val (r_move) ?_)
  simp only [ev,zD,zE,zF,zG]
  refine n_load rfl ((m.b 0 rfl).full agg_35 cells_35) ?_
  simp only [ev,zD,zE,zF,zG]
  refine mcallP m rfl rfl (Sign_c Bw.up) ?_
  clear m; intro u m
  refine n_val (r_indexAddrA Tryz.underlying23 cells_3 rfl rfl (by decide) (by decide) rfl) ?_
  simp only [ev,zD,zE,zF,zG]
  refine mstore1 m 2 rfl rfl rfl cells_3 (leT rfl) ⟨rfl,rfl⟩ ?_
  clear m; intro u m; simp only [over,zH,zI,zJ,zK,zL,zM,zN,zO,zP,zF,zG,Nat.reduceAdd] at m
  refine n_nil (k26 _ _ ?_)
  refine wp_region_lit (n_val (r_add (m:=0) (n:=1) (r:=1) rfl rfl (by decide)) (n_val (r_move) (n_nil (then_rounds (c_seq fun K28 k28=>wp_region_lit (n_val (r_lssT (m:=1) (n:=3) rfl rfl (by decide)) (n_nil (k28 _ _ ?_))))))))
  refine c_seq fun K29 k29=>c_yes rfl (wp_skip (k29 _ _ ?_))
  refine c_seq fun K30 k30=>wp_block (c_seq fun K31 k31=>wp_region_lit (n_val (r_move) ?_))
  simp only [ev,zD,zE,zF,zG]
  refine n_val (r_index_152_1 rfl rfl) ?_
  simp only [ev,zD,zE,zF,zG]
  refine malloc m zero_35 rfl ?_
  clear m; intro g9 u m
  refine n_val (r_assign) ?_
  simp only [ev,zD,zE,zF,zG]
  refine mstoreA m 0 rfl rfl rfl cells_35 (leT rfl) rfl ?_
  clear m; intro u m; simp only [over,zH,zI,zJ,zK,zL,zM,zN,zO,zP,zF,zG,Nat.reduceAdd] at m
  refine n_nil (k31 _ _ ?_)
  refine wp_region_lit (n_val (r_move) ?_)
  simp only [ev,zD,zE,zF,zG]
  refine n_load rfl ((m.b 0 rfl).full agg_35 cells_35) ?_
  simp only [ev,zD,zE,zF,zG]
  refine mcallP m rfl rfl (Sign_c Bw.up) ?_
  clear m; intro u m
  refine n_val (r_indexAddrA Tryz.underlying23 cells_3 rfl rfl (by decide) (by decide) rfl) ?_
  simp only [ev,zD,zE,zF,zG]
  refine mstore1 m 3 rfl rfl rfl cells_3 (leT rfl) ⟨rfl,rfl⟩ ?_
  clear m; intro u m; simp only [over,zH,zI,zJ,zK,zL,zM,zN,zO,zP,zF,zG,Nat.reduceAdd] at m
  refine n_nil (k30 _ _ ?_)
  refine wp_region_lit (n_val (r_add (m:=1) (n:=1) (r:=2) rfl rfl (by decide)) (n_val (r_move) (n_nil (then_rounds (c_seq fun K32 k32=>wp_region_lit (n_val (r_lssT (m:=2) (n:=3) rfl rfl (by decide)) (n_nil (k32 _ _ ?_))))))))
  refine c_seq fun K33 k33=>c_yes rfl (wp_skip (k33 _ _ ?_))
  refine c_seq fun K34 k34=>wp_block (c_seq fun K35 k35=>wp_region_lit (n_val (r_move) ?_))
  simp only [ev,zD,zE,zF,zG]
  refine n_val (r_index_152_2 rfl rfl) ?_
  simp only [ev,zD,zE,zF,zG]
  refine malloc m zero_35 rfl ?_
  clear m; intro g10 u m
  refine n_val (r_assign) ?_
  simp only [ev,zD,zE,zF,zG]
  refine mstoreA m 0 rfl rfl rfl cells_35 (leT rfl) rfl ?_
  clear m; intro u m; simp only [over,zH,zI,zJ,zK,zL,zM,zN,zO,zP,zF,zG,Nat.reduceAdd] at m
  refine n_nil (k35 _ _ ?_)
  refine wp_region_lit (n_val (r_move) ?_)
  simp only [ev,zD,zE,zF,zG]
  refine n_load rfl ((m.b 0 rfl).full agg_35 cells_35) ?_
  simp only [ev,zD,zE,zF,zG]
  refine mcallP m rfl rfl (Sign_c Bw.up) ?_
  clear m; intro u m
  refine n_val (r_indexAddrA Tryz.underlying23 cells_3 rfl rfl (by decide) (by decide) rfl) ?_
  simp only [ev,zD,zE,zF,zG]
  refine mstore1 m 4 rfl rfl rfl cells_3 (leT rfl) ⟨rfl,rfl⟩ ?_
  clear m; intro u m; simp only [over,zH,zI,zJ,zK,zL,zM,zN,zO,zP,zF,zG,Nat.reduceAdd] at m
  refine n_nil (k34 _ _ ?_)
  refine wp_region_lit (n_val (r_add (m:=2) (n:=1) (r:=3) rfl rfl (by decide)) (n_val (r_move) (n_nil (then_rounds (c_seq fun K36 k36=>wp_region_lit (n_val (r_lssF (m:=3) (n:=3) rfl rfl (by decide)) (n_nil (k36 _ _ ?_))))))))
  refine c_seq fun K37 k37=>c_no rfl (wp_exit (k22 _ _ ?_))
  refine c_seq fun K38 k38=>wp_region_lit ?_
  simp only [ev,zD,zE,zF,zG]
  refine n_load rfl ((m.b 4 rfl).full agg_23 cells_23) ?_
  simp only [ev,zD,zE,zF,zG]
  refine mstoreA m 5 rfl rfl rfl cells_23 (leT rfl) rfl ?_
  clear m; intro u m; simp only [over,zH,zI,zJ,zK,zL,zM,zN,zO,zP,zF,zG,Nat.reduceAdd] at m
  refine n_nil (k38 _ _ ?_)
  refine wp_ret ?_
  try simp only [Exit.inBlock,Exit.then,if_true]
  refine fin1 rfl ⟨_,rfl,((m.b 5 rfl).full agg_23 cells_23)⟩ ?_
  try simp only [zD,zE]
  exact ⟨_,rfl,m.ext,rfl⟩
theorem Flat_c {t : T3} [IT t] : Pure Tryz.prog 64 [tr t] (.bool (decide (isign t.normal.x = 0 ∧ isign t.normal.y = 0 ∧ isign t.normal.z = 0))):=by
 intro w
 refine ⟨en_64,?_⟩
 have m:=Mem.refl w
 go_enter Tryz.func64,Tryz.ntmps64
 refine c_seq fun K1 k1=>wp_region_lit (mboxA m rfl ?_)
 clear m; intro g1 u m
 refine n_val (r_assign) (n_nil (k1 _ _ ?_))
 refine c_seq fun K2 k2=>wp_region_lit (n_val (r_indexAddrA Tryz.underlying58 cells_56 rfl rfl (by decide) (by decide) rfl) ?_)
 simp only [ev,zD,zE,zF,zG]
 refine n_load rfl ((m.b 0 rfl).lies agg_56 cells_56 rfl rfl) ?_
 simp only [ev,zD,zE,zF,zG,zH,zI,zJ,zK,Nat.zero_add,Nat.reduceAdd,Nat.reduceMul,Int.reduceToNat]
 refine n_val (r_indexAddrA Tryz.underlying58 cells_56 rfl rfl (by decide) (by decide) rfl) ?_
 simp only [ev,zD,zE,zF,zG]
 refine n_load rfl ((m.b 0 rfl).lies agg_56 cells_56 rfl rfl) ?_
 simp only [ev,zD,zE,zF,zG,zH,zI,zJ,zK,Nat.zero_add,Nat.reduceAdd,Nat.reduceMul,Int.reduceToNat]
 refine n_val (r_indexAddrA Tryz.underlying58 cells_56 rfl rfl (by decide) (by decide) rfl) ?_
 simp only [ev,zD,zE,zF,zG]
 refine n_load rfl ((m.b 0 rfl).lies agg_56 cells_56 rfl rfl) ?_
 simp only [ev,zD,zE,zF,zG,zH,zI,zJ,zK,Nat.zero_add,Nat.reduceAdd,Nat.reduceMul,Int.reduceToNat]
 refine n_val (r_indexAddrA Tryz.underlying58 cells_56 rfl rfl (by decide) (by decide) rfl) ?_
 simp only [ev,zD,zE,zF,zG]
 refine n_load rfl ((m.b 0 rfl).lies agg_56 cells_56 rfl rfl) ?_
 simp only [ev,zD,zE,zF,zG,zH,zI,zJ,zK,Nat.zero_add,Nat.reduceAdd,Nat.reduceMul,Int.reduceToNat]
 refine mcallP m rfl rfl (signs_c (a:=t.a) (b:=t.b) (c:=t.a) (d:=t.c)) ?_
 clear m; intro u m
 refine n_val (r_build_23_) (n_val (eq_eql_23 rfl rfl) (n_val (r_assign) ?_))
 simp only [ev,zD,zE,zF,zG]
 refine n_nil (k2 _ _ ?_)
 refine wp_ret ?_
 try simp only [Exit.inBlock,Exit.then,if_true]
 refine fin1 rfl rfl ?_
 try simp only [zD,zE]
 exact ⟨_,rfl,m.ext,rfl⟩
end Go.Proofs.YtimjandkmfcmiaaGreatDoor
namespace Go.Lith
open Go.RowKit
end Go.Lith
namespace Go.Lith
open Go.RowKit
structure Ray where
  s : P3
  w : Int
  d : P3
def rayV (r : Ray) : Go.Value:=.agg #[.int .i64 r.s.x,.int .i64 r.s.y,.int .i64 r.s.z,.int .i64 r.w,.int .i64 r.d.x,.int .i64 r.d.y,.int .i64 r.d.z]
class IR (r : Ray) : Prop where
  s : I3 r.s
  w : I64 r.w
  d : I3 r.d
instance {r : Ray} [h : IR r] : I3 r.s:=h.s
instance {r : Ray} [h : IR r] : I3 r.d:=h.d
instance {r : Ray} [h : IR r] : Iw r.w:=⟨h.w⟩
def Ray.ok (r : Ray) : Prop:=0 < r.w ∧ ¬ (r.d.x = 0 ∧ r.d.y = 0 ∧ r.d.z = 0)
instance (r : Ray) : Decidable r.ok:=inferInstanceAs (Decidable (_ ∧ _))
def P3.scl (v : P3) (n : Int) : P3:=⟨v.x * n,v.y * n,v.z * n⟩
def Ray.to (r : Ray) (p : P3) : P3:=(p.scl r.w).sub r.s
def sgn4 (n : Int) (v : P3) : Int:=if isign n ≠ 0 then isign n else if isign v.x ≠ 0 then isign v.x else if isign v.y ≠ 0 then isign v.y else if isign v.z ≠ 0 then isign v.z else 0
def sideR (d a b : P3) : Int:=sgn4 (d.dot (a.cross b)) (d.cross (b.sub a))
def passR (d a b c : P3) : Prop:=sideR d a b ≠ 0 ∧ sideR d b c = sideR d a b ∧ sideR d c a = sideR d a b
instance (d a b c : P3) : Decidable (passR d a b c):=inferInstanceAs (Decidable (_ ∧ _ ∧ _))
def hgtR (r : Ray) (t : T3) : Int:=t.normal.dot (r.to t.a)
def slpR (r : Ray) (t : T3) : Int:=t.normal.dot r.d
def hitsR (r : Ray) (t : T3) : Prop:=r.ok ∧ ¬ t.flat ∧ passR r.d (r.to t.a) (r.to t.b) (r.to t.c) ∧ sgn4 (hgtR r t) (P3.sub ⟨0,0,0⟩ t.normal) = isign (slpR r t)
instance (r : Ray) (t : T3) : Decidable (hitsR r t):=inferInstanceAs (Decidable (_ ∧ _ ∧ _ ∧ _))
def crossR (r : Ray) (t : T3) : Rat:=if hitsR r t then Rat.divInt (hgtR r t) (r.w * slpR r t) else 0
theorem sgn4_0 {n : Int} {v : P3} (h : sgn4 n v = 0) : v.x = 0 ∧ v.y = 0 ∧ v.z = 0:=by
  unfold sgn4 at h
  repeat' split at h
  all_goals first
    | (exact absurd h (by assumption))
    | (rename_i a b c d; exact ⟨isign_zero_iff.1 (Decidable.not_not.1 b),isign_zero_iff.1 (Decidable.not_not.1 c),isign_zero_iff.1 (Decidable.not_not.1 d)⟩)
theorem slp_ne {r : Ray} {t : T3} (hf : ¬ t.flat) (h : sgn4 (hgtR r t) (P3.sub ⟨0,0,0⟩ t.normal) = isign (slpR r t)) : slpR r t ≠ 0:=fun e=>by
  rw [e] at h
  have:=sgn4_0 (h.trans rfl)
  simp only [P3.sub] at this
  exact hf ⟨by omega,by omega,by omega⟩
def stepR (r : Ray) (b : Option (Rat × Nat)) (k : Nat) (t : T3) : Option (Rat × Nat) :=
  if hitsR r t then match b with
    | none=>some (crossR r t,k)
    | some (q,j)=>if crossR r t < q then some (crossR r t,k) else some (q,j)
  else b
def firstN (r : Ray) (ts : List T3) : Option (Rat × Nat):=ts.zipIdx.foldl (fun b x=>stepR r b x.2 x.1) none
def hitT (b : Option (Rat × Nat)) : Rat:=match b with | none=>0 | some (q,_)=>q
def hitK (b : Option (Rat × Nat)) : Nat:=match b with | none=>0 | some (_,k)=>k
theorem first_step {r : Ray} {ts : List T3} {t : T3} {k : Nat} (h : ts[k]? = some t) : firstN r (ts.take (k + 1)) = stepR r (firstN r (ts.take k)) k t:=by
  have hk : k < ts.length:=(List.getElem?_eq_some_iff.1 h).1
  unfold firstN
  rw [List.take_add_one,h,List.zipIdx_append,List.foldl_append,List.length_take,Nat.min_eq_left (Nat.le_of_lt hk)]
  simp
instance bv_to {r : Ray} {p : P3} [a : IR r] [b : I3 p] : Bv 129 (r.to p):=by
  have k : ∀ {x s : Int},I64 x → I64 s → Bd 129 (x * r.w - s):=fun hx hs=>((hx.bd.mul a.w.bd).sub hs.bd).mono (by decide)
  exact ⟨k b.x a.s.x,k b.y a.s.y,k b.z a.s.z⟩
theorem not_ok {r : Ray} {t : T3} (h : ¬ r.ok) : ¬ hitsR r t:=fun k=>h k.1
end Go.Lith
namespace Go.Lith
open Go.RowKit
structure GX (w w' : World) : Prop where
  ext : Ext w w'
  dr : w.drawn ≤ w'.drawn
theorem GX.trans {a b c : World} (h : GX a b) (k : GX b c) : GX a c:=⟨h.ext.trans k.ext,Nat.le_trans h.dr k.dr⟩
theorem GX.grow {w w' : World} (h : GX w w') : ∃ q os,w' = Sort.grow (w.drewN q) os:=by
  refine ⟨w'.drawn - w.drawn,w'.heap.extract w.heap.size w'.heap.size,?_⟩
  have e1 : w.heap ++ w'.heap.extract w.heap.size w'.heap.size = w'.heap:=by
    apply Array.ext_getElem?
    intro i
    rw [Array.getElem?_append]
    split
    · rename_i hi
      exact (Below.block h.ext i hi).symm
    · rename_i hi
      rw [Array.getElem?_extract]
      have:=h.ext.size
      split
      · congr 1; omega
      · rw [Array.getElem?_eq_none (by omega)]
  have e2 : w.drawn + (w'.drawn - w.drawn) = w'.drawn:=by have:=h.dr; omega
  have h1:=h.ext.os
  have h2:=h.ext.tape
  have h3:=h.ext.output
  cases w
  cases w'
  simp only [Sort.grow,World.drewN] at *
  subst h1 h2 h3
  rw [e1,e2]
structure MemG (w0 w : World) (is : List It) : Prop where
  ext : GX w0 w
  mem : Mem w0 w is
def GPure (P : Program) (f : FuncId) (args : List Value) (v : Value) : Prop:=∀ w,Enters P f ∧ Calls P f args.toArray w fun e w'=>∃ u,e = .returned u ∧ GX w w' ∧ u = v
theorem GPure.pure {P : Program} {f : FuncId} {args : List Value} {v : Value} (h : GPure P f args v) : Pure P f args v:=fun w=>⟨(h w).1,(h w).2.mono fun _ _ ⟨u,he,hX,hv⟩=>⟨u,he,hX.ext,hv⟩⟩
section
variable {w0 w w' : World} {is : List It}
theorem MemG.refl (w : World) : MemG w w []:=⟨⟨Ext.refl w,Nat.le_refl _⟩,Mem.refl w⟩
theorem MemG.go (m : MemG w0 w is) {js : List It} (h : Mem w0 w' js) (d : w.drawn ≤ w'.drawn) : MemG w0 w' js:=⟨⟨h.ext,Nat.le_trans m.ext.dr d⟩,h⟩
theorem MemG.ext' (m : MemG w0 w is) (e : GX w w') : MemG w0 w' is:=m.go (m.mem.ext' e.ext) e.dr
theorem MemG.b (m : MemG w0 w is) (k : Nat) {g : Nat} {cs : List Value} {t : TypeId} (hk : is[k]? = some (bI g cs t)) : Blk w g cs t:=m.mem.b k hk
theorem MemG.sel (m : MemG w0 w is) (bs : List Bool) : MemG w0 w (selB bs is):=⟨m.ext,m.mem.sel bs⟩
end
section
variable {P : Program} {ds : List Deferred} {l : List Value} {x y : Operand} {T ty : TypeId}
variable {ops : Array Oper} {Q : Exit → Act → World → Prop} {rest : List Oper} {d : Nat} {pos : String} {after : Array Edge} {w w0 : World} {is : List It} {v : Value}
theorem Gmbox {cs : List Value} (m : MemG w0 w is) (hv : (ev l x).cells = cs.toArray) (h : ∀ g u,MemG w0 u (bI g cs T :: is) → wpList P ops Q rest (Fr (l.set d (.pointer (some ⟨g,0,none⟩))) ds) u) :
    wpList P ops Q (Oper.mk (some d) (.box T x) ty pos after none :: rest) (Fr l ds) w :=
  n_newW (w':=w.alloc (.cells cs.toArray T)) (v:=.pointer (some ⟨w.heap.size,0,none⟩)) (fun o ho _=>by simp [execOp,ho,ev_eq,Instr.box,newVar,newRow,hv,newObj,Sem.run]) (h _ _ (m.go (m.mem.newB ((Ext.refl w).alloc _) (Nat.le_refl _) (blk_alloc w cs T)) (Nat.le_refl _)))
theorem GmboxA {cs : List Value} (m : MemG w0 w is) (hv : ev l x = .agg cs.toArray) (h : ∀ g u,MemG w0 u (bI g cs T :: is) → wpList P ops Q rest (Fr (l.set d (.pointer (some ⟨g,0,none⟩))) ds) u) :
    wpList P ops Q (Oper.mk (some d) (.box T x) ty pos after none :: rest) (Fr l ds) w:=Gmbox m (by rw [hv]; rfl) h
theorem Gmalloc {cs : List Value} {z : Value} (m : MemG w0 w is) (hZ : Zero P T z) (hv : z.cells = cs.toArray) (h : ∀ g u,MemG w0 u (bI g cs T :: is) → wpList P ops Q rest (Fr (l.set d (.pointer (some ⟨g,0,none⟩))) ds) u) :
    wpList P ops Q (Oper.mk (some d) (.alloc T) ty pos after none :: rest) (Fr l ds) w:=by
  obtain ⟨inf,hi,hz⟩:=hZ
  exact n_newW (w':=w.alloc (.cells cs.toArray T)) (v:=.pointer (some ⟨w.heap.size,0,none⟩)) (fun o ho _=>by simp [execOp,ho,Instr.alloc,zeroValue,typeInfo,hi,hz,newVar,newRow,hv,newObj,Sem.run]) (h _ _ (m.go (m.mem.newB ((Ext.refl w).alloc _) (Nat.le_refl _) (blk_alloc w cs T)) (Nat.le_refl _)))
theorem Gmstore {g off : Nat} {cs us : List Value} {t : TypeId} (m : MemG w0 w is) (k : Nat) (hk : is[k]? = some (bI g cs t)) (hx : ev l x = .pointer (some ⟨g,off,none⟩)) (hv : (ev l y).cells = us.toArray) (hc : Cells P T us.length) (hfit : off + us.length ≤ cs.length) (h1 : (us.all (·.oneCell')) = true)
    (h : ∀ u,MemG w0 u (is.set k (bI g (over cs off us) t)) → wpList P ops Q rest (Fr l ds) u) : wpList P ops Q (Oper.mk none (.store T x y) ty pos after none :: rest) (Fr l ds) w:=by
  have hB:=m.b k hk
  have hC:=chg_setRow w g (over cs off us).toArray
  exact n_skipW (w':=w.setRow g (over cs off us).toArray) (fun o ho=>by simp [execOp,ho,ev_eq,hx,Instr.storeAt,Instr.sureAddr,run_storeVar hc hv hB hfit (allT h1)])
    (h _ (m.go (m.mem.put k hk hC.os hC.tape hC.output (by rw [hC.size]; exact Nat.le_refl _) (fun b _ hne=>hC.block b fun e=>hne (by rw [e]; rfl)) (setRow_heap w g cs.toArray _ t _ hB) (.inl fun _ h=>h)) (Nat.le_refl _)))
theorem GmstoreA {g off : Nat} {cs us : List Value} {t : TypeId} (m : MemG w0 w is) (k : Nat) (hk : is[k]? = some (bI g cs t)) (hx : ev l x = .pointer (some ⟨g,off,none⟩)) (hv : ev l y = .agg us.toArray) (hc : Cells P T us.length) (hfit : off + us.length ≤ cs.length) (h1 : (us.all (·.oneCell')) = true)
    (h : ∀ u,MemG w0 u (is.set k (bI g (over cs off us) t)) → wpList P ops Q rest (Fr l ds) u) : wpList P ops Q (Oper.mk none (.store T x y) ty pos after none :: rest) (Fr l ds) w:=Gmstore m k hk hx (by rw [hv]; rfl) hc hfit h1 h
theorem GmcallP {f : FuncId} {fo : Operand} {xs : Array Operand} {args : List Value} {first cap : Array Value} {a0 : Array TypeId} (m : MemG w0 w is) (hf : ev l fo = .func (.func f) first cap) (hxs : first.toList ++ xs.toList.map (ev l) ++ cap.toList = args) (hc : GPure P f args v)
    (h : ∀ u,MemG w0 u is → wpList P ops Q rest (Fr (l.set d v) ds) u) : wpList P ops Q (Oper.mk (some d) (.call { callee:=.value fo,args:=xs,argTypes:=a0 }) ty pos after none :: rest) (Fr l ds) w:=by
  refine wpList_plain rfl fun K hK=>?_
  unfold Oper.wp
  rw [fr_eval,run_call (hc w).1 hf hxs _ rfl]
  refine (hc w).2.mono ?_
  rintro e w' ⟨u,rfl,hE,rfl⟩
  show K ((Fr l ds).put (some d) u) w'
  rw [fr_put]
  exact hK _ _ (h w' (m.ext' hE))
theorem MemG.drew (m : MemG w0 w is) : MemG w0 { w with drawn:=w.drawn + 1 } is:=m.ext' ⟨(Ext.refl w).drawn,Nat.le_succ _⟩
theorem Gmq {id : Nat} {a : Act} {l : List Oper} (m : MemG w0 w is) (hm : P.follows .mixedOrders = true) (hB : Region.lexB .any l.toArray = true)
    (h : wpQuiet P l.toArray (fun u=>MemG w0 u is) (fun a'=>∀ u,MemG w0 u is → Q .normal a' u) l a) : (Code.region id l.toArray true).wp P Q a w :=
  wp_region_quiet (C:=fun u=>MemG w0 u is) hm hB m.drew (by simpa using h)
end
section
variable {P : Program} {w0 : World} {is : List It} {l : List Value} {x y : Operand} {T ty : TypeId}
variable {ops : Array Oper} {Q : Act → Prop} {rest : List Oper} {d : Nat} {pos : String} {after : Array Edge} {v : Value} {ds : List Deferred}
theorem Gql {a : Addr} (hx : ev l x = .pointer (some a)) (hv : ∀ u,MemG w0 u is → Lies P u T a v) (h : wpQuiet P ops (fun u=>MemG w0 u is) Q rest (Fr (l.set d v) ds)) : wpQuiet P ops (fun u=>MemG w0 u is) Q (Oper.mk (some d) (.load T x) ty pos after none :: rest) (Fr l ds) :=
  q_valW (fun u m=>r_load hx (hv u m)) h
theorem GqcP {f : FuncId} {fo : Operand} {xs : Array Operand} {args : List Value} {first cap : Array Value} {a0 : Array TypeId} (hf : ev l fo = .func (.func f) first cap) (hxs : first.toList ++ xs.toList.map (ev l) ++ cap.toList = args) (hc : GPure P f args v)
    (h : wpQuiet P ops (fun u=>MemG w0 u is) Q rest (Fr (l.set d v) ds)) : wpQuiet P ops (fun u=>MemG w0 u is) Q (Oper.mk (some d) (.call { callee:=.value fo,args:=xs,argTypes:=a0 }) ty pos after none :: rest) (Fr l ds):=by
  refine wpQuiet_step fun K hK=>?_
  rw [if_pos (by simp [Region.wanted])]
  refine ⟨v,fun w' hw=>?_,?_⟩
  · unfold Oper.quietAt
    rw [fr_eval,run_call (hc w').1 hf hxs _ rfl]
    refine ⟨rfl,(hc w').2.mono ?_⟩
    rintro e w'' ⟨u,rfl,hE,rfl⟩
    exact ⟨rfl,hw.ext' hE⟩
  · show K ((Fr l ds).put (some d) v)
    rw [fr_put]
    exact hK _ h
end
end Go.Lith
namespace Go.Lith
open Go.RowKit
def P3.Lt (p q : P3) : Prop:=p.x < q.x ∨ p.x = q.x ∧ (p.y < q.y ∨ p.y = q.y ∧ p.z < q.z)
instance (p q : P3) : Decidable (p.Lt q):=by unfold P3.Lt; infer_instance
def cmpP (p q : P3) : Int:=if p.Lt q then -1 else if q.Lt p then 1 else 0
theorem P3.eq {p q : P3} (h1 : p.x = q.x) (h2 : p.y = q.y) (h3 : p.z = q.z) : p = q:=by
  cases p; cases q; simp_all
instance : DecidableEq P3:=fun p q=>if h : p.x = q.x ∧ p.y = q.y ∧ p.z = q.z then isTrue (P3.eq h.1 h.2.1 h.2.2) else isFalse fun e=>h (by subst e; exact ⟨rfl,rfl,rfl⟩)
theorem P3.lt_irrefl (p : P3) : ¬ p.Lt p:=by unfold P3.Lt; omega
theorem P3.lt_trans {p q r : P3} (h : p.Lt q) (k : q.Lt r) : p.Lt r:=by unfold P3.Lt at *; omega
theorem P3.lt_tri (p q : P3) : p.Lt q ∨ p = q ∨ q.Lt p:=by
  by_cases h1 : p.x = q.x
  · by_cases h2 : p.y = q.y
    · by_cases h3 : p.z = q.z
      · exact .inr (.inl (P3.eq h1 h2 h3))
      · unfold P3.Lt; omega
    · unfold P3.Lt; omega
  · unfold P3.Lt; omega
theorem P3.lt_x {p q : P3} (h : ¬ p.x = q.x) : p.Lt q ↔ p.x < q.x:=by unfold P3.Lt; omega
theorem P3.lt_y {p q : P3} (h : p.x = q.x) (h2 : ¬ p.y = q.y) : p.Lt q ↔ p.y < q.y:=by unfold P3.Lt; omega
theorem P3.lt_z {p q : P3} (h : p.x = q.x) (h2 : p.y = q.y) : p.Lt q ↔ p.z < q.z:=by unfold P3.Lt; omega
end Go.Lith
namespace Go.Lith
open Go.RowKit
def MapB (w : World) (g : Nat) (es : Array MapEntry) (c : Nat) : Prop:=w.heap[g]? = some (.map es c)
def IterB (w : World) (r g s : Nat) (seen : Array Nat) (c : Nat) : Prop:=w.heap[r]? = some (.mapIter (some g) s seen c)
theorem MapB.ext {w w' : World} {g c : Nat} {es : Array MapEntry} (h : MapB w g es c) (hE : Ext w w') : MapB w' g es c:=hE.block h
theorem IterB.ext {w w' : World} {r g s c : Nat} {seen : Array Nat} (h : IterB w r g s seen c) (hE : Ext w w') : IterB w' r g s seen c:=hE.block h
theorem MapB.chg {w w' : World} {g c k : Nat} {es : Array MapEntry} (h : MapB w g es c) (hC : Chg w w' k) (hne : g ≠ k) : MapB w' g es c:=(hC.block g hne).trans h
theorem IterB.chg {w w' : World} {r g s c k : Nat} {seen : Array Nat} (h : IterB w r g s seen c) (hC : Chg w w' k) (hne : r ≠ k) : IterB w' r g s seen c:=(hC.block r hne).trans h
theorem MapB.lt {w : World} {g c : Nat} {es : Array MapEntry} (h : MapB w g es c) : g < w.heap.size:=(Array.getElem?_eq_some_iff.1 h).1
theorem IterB.lt {w : World} {r g s c : Nat} {seen : Array Nat} (h : IterB w r g s seen c) : r < w.heap.size:=(Array.getElem?_eq_some_iff.1 h).1
section
variable {P : Program} {ds : List Deferred} {l : List Value} {x : Operand} {T ty : TypeId} {ops : Array Oper} {Q : Exit → Act → World → Prop} {rest : List Oper} {d : Nat} {pos : String} {after : Array Edge} {w : World}
theorem n_makeMap (h : ∀ w' g,Ext w w' → w.heap.size ≤ g → MapB w' g #[] 0 → wpList P ops Q rest (Fr (l.set d (.map (some g))) ds) w') : wpList P ops Q (Oper.mk (some d) (.makeMap T none) ty pos after none :: rest) (Fr l ds) w :=
  n_newW (w':=w.alloc (.map #[] 0)) (v:=.map (some w.heap.size)) (fun o ho _=>by simp [execOp,ho,Instr.makeMap,newObj,Sem.run]) (h _ _ ((Ext.refl w).alloc _) (Nat.le_refl _) (heap_alloc_new w _))
theorem n_range {k e : TypeId} {g c : Nat} {es : Array MapEntry} (hu : P.underlying T = some (.map k e)) (hx : ev l x = .map (some g)) (hM : MapB w g es c) (h : ∀ w' r,Ext w w' → w.heap.size ≤ r → IterB w' r g c #[] c → wpList P ops Q rest (Fr (l.set d (.pointer (some ⟨r,0,none⟩))) ds) w') :
    wpList P ops Q (Oper.mk (some d) (.range T x) ty pos after none :: rest) (Fr l ds) w :=
  n_newW (w':=w.alloc (.mapIter (some g) c #[] c)) (v:=.pointer (some ⟨w.heap.size,0,none⟩)) (fun o ho _=>by
    unfold MapB at hM
    simp [execOp,ho,ev_eq,hx,Instr.range,run_underlying hu,getObj,hM,newObj,Sem.run]) (h _ _ ((Ext.refl w).alloc _) (Nat.le_refl _) (heap_alloc_new w _))
end
end Go.Lith
namespace Go.Lith
open Go.RowKit Go.ChangeMaps Go.MapKept
/-! ### Lists of pairs -/
section
variable {K V : Type} [DecidableEq K]
def mput : List (K × V) → K → V → List (K × V)
  | [],k,v=>[(k,v)]
  | x :: D,k,v=>if x.1 = k then (k,v) :: D else x :: mput D k v
def mget : List (K × V) → K → Option V
  | [],_=>none
  | x :: D,k=>if x.1 = k then some x.2 else mget D k
def mdel : List (K × V) → K → List (K × V)
  | [],_=>[]
  | x :: D,k=>if x.1 = k then D else x :: mdel D k
def mfind : List (K × V) → K → Nat → Option (Nat × V)
  | [],_,_=>none
  | x :: D,k,i=>if x.1 = k then some (i,x.2) else mfind D k (i + 1)
theorem mfind_none : ∀ (D : List (K × V)) (k : K) (i : Nat),mfind D k i = none → mget D k = none ∧ (∀ u,mput D k u = D ++ [(k,u)]) ∧ mdel D k = D
  | [],_,_,_=>⟨rfl,fun _=>rfl,rfl⟩
  | x :: D,k,i,h=>by
    unfold mfind at h
    by_cases e : x.1 = k
    · rw [if_pos e] at h; cases h
    · rw [if_neg e] at h
      obtain ⟨h1,h2,h3⟩:=mfind_none D k (i + 1) h
      exact ⟨by simp [mget,e,h1],fun u=>by simp [mput,e,h2],by simp [mdel,e,h3]⟩
theorem mfind_some : ∀ (D : List (K × V)) (k : K) (i j : Nat) (v : V),mfind D k i = some (j,v) → ∃ p,j = i + p ∧ D[p]? = some (k,v) ∧ mget D k = some v ∧ (∀ u,mput D k u = D.set p (k,u)) ∧ mdel D k = D.eraseIdx p
  | [],_,_,_,_,h=>by cases h
  | x :: D,k,i,j,v,h=>by
    unfold mfind at h
    by_cases e : x.1 = k
    · rw [if_pos e] at h
      cases h
      obtain ⟨a,b⟩:=x
      obtain rfl : a = k:=e
      exact ⟨0,rfl,rfl,by simp [mget],fun u=>by simp [mput],by simp [mdel]⟩
    · rw [if_neg e] at h
      obtain ⟨p,h1,h2,h3,h4,h5⟩:=mfind_some D k (i + 1) j v h
      exact ⟨p + 1,by omega,by simpa using h2,by simp [mget,e,h3],fun u=>by simp [mput,e,h4],by simp [mdel,e,h5]⟩
theorem mput_keys : ∀ (D : List (K × V)) (k : K) (v : V),(mput D k v).map (·.1) = if k ∈ D.map (·.1) then D.map (·.1) else D.map (·.1) ++ [k]
  | [],k,v=>by simp [mput]
  | x :: D,k,v=>by
    unfold mput
    by_cases e : x.1 = k
    · simp [e]
    · have e' : ¬ k = x.1:=fun h=>e h.symm
      simp only [if_neg e,List.map_cons,mput_keys D k v,List.mem_cons,e',false_or]
      split <;> simp
theorem mput_nodup {D : List (K × V)} (h : (D.map (·.1)).Nodup) (k : K) (v : V) : ((mput D k v).map (·.1)).Nodup:=by
  rw [mput_keys]
  split
  · exact h
  · rename_i hk
    exact List.nodup_append.2 ⟨h,by simp,fun a ha b hb e=>by rw [List.mem_singleton.1 hb] at e; exact hk (e ▸ ha)⟩
end
/-! ### A map's entries -/
def mpr (e : MapEntry) : Value × Value:=(e.key,e.val)
structure MapOf {K V : Type} (ek : K → Value) (ev : V → Value) (D : List (K × V)) (es : Array MapEntry) (c : Nat) : Prop where
  cells : es.toList.map mpr = D.map fun x=>(ek x.1,ev x.2)
  born : ∀ e ∈ es.toList,e.born < c
  nd : (es.toList.map (·.born)).Nodup
theorem MapOf.nil {K V : Type} (ek : K → Value) (ev : V → Value) : MapOf ek ev ([] : List (K × V)) #[] 0:=⟨rfl,fun _ h=>by simp at h,by simp⟩
theorem MapOf.len {K V : Type} {ek : K → Value} {ev : V → Value} {D : List (K × V)} {es : Array MapEntry} {c : Nat} (h : MapOf ek ev D es c) : es.size = D.length:=by
  have:=congrArg List.length h.cells
  simpa using this
structure KeyT {K : Type} [DecidableEq K] (P : Program) (T : TypeId) (ek : K → Value) : Prop where
  chk : ∀ e k w,(Instr.checkKey e 10000 T (ek k)).run P w = .ok () w
  now : ∃ t,P.underlying T = some t ∧ ∀ a b,Instr.sameNow t (ek a) (ek b) = none ∨ Instr.sameNow t (ek a) (ek b) = some (decide (a = b))
  eq : ∀ a b w,(Op.equal T (ek a) (ek b)).run P w = .ok (decide (a = b)) w
  bits : ∀ a,Instr.sameBits 10000 (ek a) (ek a) = true
section
variable {K V : Type} [DecidableEq K] {P : Program} {T : TypeId} {ek : K → Value} {ev : V → Value}
theorem find_asking (kt : KeyT P T ek) (k : K) (w : World) : ∀ (L : List MapEntry) (D : List (K × V)) (i : Nat),L.map mpr = D.map (fun x=>(ek x.1,ev x.2)) →
    (Instr.findAsking T (ek k) L i).run P w = .ok ((mfind D k i).map fun p=>(p.1,ev p.2)) w
  | [],D,i,h=>by
    obtain rfl : D = []:=by simpa using h.symm
    simp [Instr.findAsking,mfind]
  | e :: L,[],i,h=>by simp at h
  | e :: L,x :: D,i,h=>by
    simp only [List.map_cons,List.cons.injEq,mpr,Prod.mk.injEq] at h
    obtain ⟨⟨h1,h2⟩,h3⟩:=h
    have ih:=find_asking kt k w L D (i + 1) h3
    unfold Instr.findAsking mfind
    rw [h1,h2]
    simp only [Sem.run_bind,kt.eq,Result.andThen]
    by_cases e' : x.1 = k
    · rw [if_pos (decide_eq_true e'.symm),if_pos e']
      rfl
    · rw [if_neg (by rw [decide_eq_false (Ne.symm e')]; exact Bool.false_ne_true),if_neg e']
      exact ih
theorem find_now (t : TypeDesc) (k : K) (hn : ∀ a b : K,Instr.sameNow t (ek a) (ek b) = none ∨ Instr.sameNow t (ek a) (ek b) = some (decide (a = b))) : ∀ (L : List MapEntry) (D : List (K × V)) (i : Nat),L.map mpr = D.map (fun x=>(ek x.1,ev x.2)) →
    Instr.findNow t (ek k) L i = none ∨ Instr.findNow t (ek k) L i = some ((mfind D k i).map fun p=>(p.1,ev p.2))
  | [],D,i,h=>by
    obtain rfl : D = []:=by simpa using h.symm
    simp [Instr.findNow,mfind]
  | e :: L,[],i,h=>by simp at h
  | e :: L,x :: D,i,h=>by
    simp only [List.map_cons,List.cons.injEq,mpr,Prod.mk.injEq] at h
    obtain ⟨⟨h1,h2⟩,h3⟩:=h
    have ih:=find_now t k hn L D (i + 1) h3
    unfold Instr.findNow mfind
    rw [h1,h2]
    rcases hn k x.1 with e0 | e0
    · left; rw [e0]
    · rw [e0]
      by_cases e' : x.1 = k
      · right; simp [e']
      · rw [show decide (k = x.1) = false from decide_eq_false (Ne.symm e')]
        simpa [e'] using ih
theorem find_key (kt : KeyT P T ek) (k : K) (w : World) {es : Array MapEntry} {D : List (K × V)} {c : Nat} (h : MapOf ek ev D es c) : (Instr.findKey T (ek k) es.toList).run P w = .ok ((mfind D k 0).map fun p=>(p.1,ev p.2)) w:=by
  obtain ⟨t,ht,hn⟩:=kt.now
  unfold Instr.findKey
  simp only [Sem.run_bind,run_underlying ht,Result.andThen]
  rcases find_now t k hn es.toList D 0 h.cells with e | e
  · rw [e]
    exact find_asking kt k w es.toList D 0 h.cells
  · rw [e]
    rfl
end
section
variable {K V : Type} [DecidableEq K] {P : Program} {T M E ty : TypeId} {ek : K → Value} {ev : V → Value} {w w0 : World} {g c : Nat} {es : Array MapEntry} {D : List (K × V)}
theorem run_lookupM {v0 : V} (hu : P.underlying M = some (.map T E)) (kt : KeyT P T ek) (hM : MapB w g es c) (hD : MapOf ek ev D es c) (hz : Zero P E (ev v0)) (k : K) (b : Bool) :
    (Instr.lookup M (.map (some g)) (ek k) b).run P w = .ok (if b then .tuple #[ev ((mget D k).getD v0),.bool (mget D k).isSome] else ev ((mget D k).getD v0)) w:=by
  unfold MapB at hM
  obtain ⟨inf,hi,hz⟩:=hz
  have hzv : (zeroValue E).run P w = .ok (ev v0) w:=by simp [zeroValue,typeInfo,program,Sem.run,hi,hz]
  simp only [Instr.lookup,Sem.run_bind,run_underlying hu,Result.andThen,getObj,Sem.run,hM,Sem.run_pure,kt.chk,find_key kt k w hD]
  cases hf : mfind D k 0 with
  | none =>
    obtain ⟨h1,_⟩:=mfind_none D k 0 hf
    rw [h1]
    simp only [Option.map_none,Sem.run_bind,hzv,Result.andThen,Sem.run_pure]
    cases b <;> rfl
  | some p =>
    obtain ⟨j,v⟩:=p
    obtain ⟨_,_,_,h1,_⟩:=mfind_some D k 0 j v hf
    rw [h1]
    simp only [Option.map_some,Sem.run_pure,Result.andThen]
    cases b <;> rfl
theorem heap_setBlock {g : Nat} {o o' : Obj} (hM : w.heap[g]? = some o) : (setBlock w g o').heap[g]? = some o':=by
  have:=(Array.getElem?_eq_some_iff.1 hM).1
  simp [setBlock,this]
theorem chg_setBlock {g : Nat} (o : Obj) : Chg w (setBlock w g o) g:=⟨rfl,rfl,rfl,by simp [setBlock],fun k hk=>by simp [setBlock,Array.getElem?_setIfInBounds_ne (Ne.symm hk)]⟩
theorem map_set_of {α β : Type} (f : α → β) (L : List α) (i : Nat) (x : α) (g : α → α) (hi : L[i]? = some x) : (L.modify i g).map f = (L.map f).set i (f (g x)):=by
  apply List.ext_getElem?
  intro j
  simp only [List.getElem?_map,List.getElem?_modify,List.getElem?_set,List.length_map]
  by_cases e : i = j
  · subst e
    rw [hi]
    have:=(List.getElem?_eq_some_iff.1 hi).1
    simp [this]
  · simp [e]
theorem MapOf.set (hD : MapOf ek ev D es c) {p : Nat} {k : K} {v : V} (hp : D[p]? = some (k,v)) (u : V) : MapOf ek ev (D.set p (k,u)) (es.modify p fun e=>{ e with key:=ek k,val:=ev u }) c:=by
  have hl : es.toList.length = D.length:=by have:=congrArg List.length hD.cells; simpa using this
  have hlt : p < es.toList.length:=by rw [hl]; exact (List.getElem?_eq_some_iff.1 hp).1
  have hx : es.toList[p]? = some es.toList[p]:=List.getElem?_eq_getElem hlt
  have hb : (es.modify p fun e=>{ e with key:=ek k,val:=ev u }).toList.map (·.born) = es.toList.map (·.born):=by
    rw [Array.toList_modify,map_set_of _ _ _ _ _ hx]
    apply List.ext_getElem?
    intro j
    rw [List.getElem?_set]
    split
    · rename_i e; subst e; rw [if_pos (by simpa using hlt),List.getElem?_map,hx]; rfl
    · rfl
  refine ⟨?_,fun e he=>?_,by rw [hb]; exact hD.nd⟩
  · rw [Array.toList_modify,map_set_of _ _ _ _ _ hx,hD.cells,List.map_set]
    rfl
  · have : e.born ∈ (es.modify p fun e=>{ e with key:=ek k,val:=ev u }).toList.map (·.born):=List.mem_map.2 ⟨e,he,rfl⟩
    rw [hb] at this
    obtain ⟨e',he',hh⟩:=List.mem_map.1 this
    rw [← hh]
    exact hD.born e' he'
theorem MapOf.push (hD : MapOf ek ev D es c) (k : K) (u : V) : MapOf ek ev (D ++ [(k,u)]) (es.push { key:=ek k,val:=ev u,born:=c }) (c + 1):=by
  refine ⟨by simp [hD.cells,mpr],fun e he=>?_,?_⟩
  · rw [Array.toList_push] at he
    rcases List.mem_append.1 he with he | he
    · exact Nat.lt_succ_of_lt (hD.born e he)
    · rw [List.mem_singleton.1 he]; exact Nat.lt_succ_self _
  · rw [Array.toList_push,List.map_append]
    refine List.nodup_append.2 ⟨hD.nd,by simp,fun a ha b hb e=>?_⟩
    obtain ⟨e',he',rfl⟩:=List.mem_map.1 ha
    have : b = c:=by simpa using hb
    have:=hD.born e' he'
    omega
theorem run_updateM (hu : P.underlying M = some (.map T E)) (kt : KeyT P T ek) (hM : MapB w g es c) (hD : MapOf ek ev D es c) (k : K) (u : V) :
    ∃ es' c',(Instr.mapUpdate M (.map (some g)) (ek k) (ev u)).run P w = .ok () (setBlock w g (.map es' c')) ∧ MapOf ek ev (mput D k u) es' c':=by
  unfold MapB at hM
  cases hf : mfind D k 0 with
  | none =>
    obtain ⟨_,h1,_⟩:=mfind_none D k 0 hf
    refine ⟨_,_,?_,h1 u ▸ hD.push k u⟩
    simp only [Instr.mapUpdate,Sem.run_bind,run_underlying hu,Result.andThen,getObj,Sem.run,hM,Sem.run_pure,kt.chk,find_key kt k w hD,hf,Option.map_none]
    exact run_setObj_map _ hM
  | some p =>
    obtain ⟨j,v⟩:=p
    obtain ⟨p,rfl,hp,_,h1,_⟩:=mfind_some D k 0 j v hf
    rw [Nat.zero_add] at hf
    have hl : es.toList.length = D.length:=by have:=congrArg List.length hD.cells; simpa using this
    have hlt : p < es.toList.length:=by rw [hl]; exact (List.getElem?_eq_some_iff.1 hp).1
    have hk : ((es[p]?).map (·.key)).getD (ek k) = ek k:=by
      have h2:=congrArg (fun L=>L[p]?) hD.cells
      simp only [List.getElem?_map,hp,Option.map_some] at h2
      rw [Array.getElem?_toList] at h2
      cases h3 : es[p]? with
      | none=>rfl
      | some x =>
        rw [h3] at h2
        simp only [Option.map_some,Option.some.injEq,mpr,Prod.mk.injEq] at h2
        simpa using h2.1
    refine ⟨_,_,?_,h1 u ▸ hD.set hp u⟩
    simp only [Instr.mapUpdate,Sem.run_bind,run_underlying hu,Result.andThen,getObj,Sem.run,hM,Sem.run_pure,kt.chk,find_key kt k w hD,hf,Option.map_some,hk,Instr.keyThatStays,kt.bits,if_true]
    exact run_setObj_map _ hM
/-! ### Ranges -/
def Trav (ek : K → Value) (ev : V → Value) (D : List (K × V)) (es : Array MapEntry) (seen : Array Nat) (dn rs : List (K × V)) : Prop :=
  (dn ++ rs).Perm D ∧ ∃ dE rE : List MapEntry,seen.toList = dE.map (·.born) ∧ (dE ++ rE).Perm es.toList ∧ dE.map mpr = dn.map (fun x=>(ek x.1,ev x.2)) ∧ rE.map mpr = rs.map (fun x=>(ek x.1,ev x.2))
theorem Trav.start (hD : MapOf ek ev D es c) : Trav ek ev D es #[] [] D:=⟨List.Perm.refl _,[],es.toList,rfl,List.Perm.refl _,rfl,hD.cells⟩
theorem Trav.done {seen : Array Nat} {dn : List (K × V)} (h : Trav ek ev D es seen dn []) : dn.Perm D:=by simpa using h.1
def Nxt (ek : K → Value) (ev : V → Value) (D : List (K × V)) (es : Array MapEntry) (dn rs : List (K × V)) (b : Bool) (kv vv : Value) (seen' : Array Nat) : Prop :=
  (b = false ∧ rs = []) ∨ (b = true ∧ ∃ k v rs',rs.Perm ((k,v) :: rs') ∧ kv = ek k ∧ vv = ev v ∧ Trav ek ev D es seen' (dn ++ [(k,v)]) rs')
def nextV (b : Bool) (k v : Value) : Value:=.tuple (if b then #[.bool true,k,v] else #[.bool false])
theorem run_nextM {r s : Nat} {seen : Array Nat} {dn rs : List (K × V)} (hI : IterB w r g c seen c) (hM : MapB w g es c) (hD : MapOf ek ev D es c) (hT : Trav ek ev D es seen dn rs) :
    ∃ b kv vv seen' w1,(w1 = w ∨ w1 = w.drew) ∧ (Instr.next (.pointer (some ⟨r,0,none⟩)) false ty).run P w = .ok (nextV b kv vv) (setBlock w1 r (.mapIter (some g) c seen' c)) ∧ Nxt ek ev D es dn rs b kv vv seen':=by
  obtain ⟨hp,dE,rE,h1,h2,h3,h4⟩:=hT
  have hnd : ((dE ++ rE).map (·.born)).Nodup:=(h2.map (·.born)).nodup_iff.2 hD.nd
  rw [List.map_append,List.nodup_append] at hnd
  have hleft : ∀ e,e ∈ (leftOf es seen).toList ↔ e ∈ rE:=fun e=>by
    unfold leftOf
    simp only [Array.toList_filter,List.mem_filter,Bool.not_eq_true',Array.contains_eq_mem,decide_eq_false_iff_not]
    rw [← Array.mem_toList_iff (xs:=seen),h1,← h2.mem_iff,List.mem_append]
    constructor
    · rintro ⟨h | h,hn⟩
      · exact absurd (List.mem_map.2 ⟨e,h,rfl⟩) hn
      · exact h
    · intro h
      exact ⟨.inr h,fun hm=>hnd.2.2 _ hm _ (List.mem_map.2 ⟨e,h,rfl⟩) rfl⟩
  rcases run_next_at (P:=P) w ty r g c c seen es c hI hM hD.born (Nat.le_refl _) with ⟨h0,hr⟩ | ⟨e,he,w1,hw1,hr⟩
  · refine ⟨false,default,default,seen,w,.inl rfl,?_,.inl ⟨rfl,?_⟩⟩
    · rw [hr]
      have : setBlock w r (.mapIter (some g) c seen c) = w:=by
        unfold setBlock
        have hlt:=(Array.getElem?_eq_some_iff.1 hI).1
        have : w.heap.setIfInBounds r (.mapIter (some g) c seen c) = w.heap:=by
          apply Array.ext_getElem?
          intro i
          rw [Array.getElem?_setIfInBounds]
          split
          · rename_i e; subst e; exact hI.symm
          · rfl
        rw [this]
      rw [this]
      rfl
    · cases rs with
      | nil=>rfl
      | cons x rs =>
        cases rE with
        | nil=>simp at h4
        | cons e rE =>
          have:=(hleft e).2 (List.mem_cons_self ..)
          rw [Array.eq_empty_of_size_eq_zero h0] at this
          simp at this
  · obtain ⟨s,t,rfl⟩:=List.append_of_mem ((hleft e).1 he)
    rw [List.map_append,List.map_cons] at h4
    obtain ⟨rs1,rs2,rfl,e1,e2⟩:=List.map_eq_append_iff.1 h4.symm
    obtain ⟨x,rs3,rfl,e3,e4⟩:=List.map_eq_cons_iff.1 e2
    obtain ⟨k,v⟩:=x
    simp only [mpr,Prod.mk.injEq] at e3
    refine ⟨true,e.key,e.val,seen.push e.born,w1,hw1,hr,.inr ⟨rfl,k,v,rs1 ++ rs3,List.perm_middle,e3.1.symm,e3.2.symm,?_,dE ++ [e],s ++ t,?_,?_,?_,?_⟩⟩
    · refine List.Perm.trans ?_ hp
      simp only [List.append_assoc,List.cons_append,List.nil_append]
      exact List.Perm.append_left _ List.perm_middle.symm
    · simp [h1]
    · refine List.Perm.trans ?_ h2
      simp only [List.append_assoc,List.cons_append,List.nil_append]
      exact List.Perm.append_left _ List.perm_middle.symm
    · simp [h3,mpr,e3]
    · simp [e1,e4]
theorem run_entryM {r : Nat} {seen : Array Nat} {dn rs : List (K × V)} {k : K} {v : V} (hI : IterB w r g c seen c) (hM : MapB w g es c) (hD : MapOf ek ev D es c) (hT : Trav ek ev D es seen (dn ++ [(k,v)]) rs) :
    (Instr.entry (.pointer (some ⟨r,0,none⟩))).run P w = .ok (.tuple #[ek k,ev v]) w:=by
  obtain ⟨hp,dE,rE,h1,h2,h3,h4⟩:=hT
  rw [List.map_append,List.map_cons,List.map_nil] at h3
  obtain ⟨d1,d2,rfl,e1,e2⟩:=List.map_eq_append_iff.1 h3
  obtain ⟨e,d3,rfl,e3,e4⟩:=List.map_eq_cons_iff.1 e2
  obtain rfl : d3 = []:=by simpa using e4
  simp only [mpr,Prod.mk.injEq] at e3
  have hs : seen = (d1.map (·.born)).toArray.push e.born:=by
    apply Array.toList_inj.1
    rw [h1]
    simp
  have hm : e ∈ es.toList:=h2.mem_iff.1 (by simp)
  rw [hs] at hI
  have:=run_entry_at (P:=P) w r g c _ es c e hI hM hm hD.nd
  rw [this,e3.1,e3.2]
end
/-! ### Things in memory -/
def mI (g : Nat) (es : Array MapEntry) (c : Nat) : It where
  own b:=some g = some b
  P w:=MapB w g es c
  lt w b h e:=by cases e; exact h.lt
  st w w' h _ k:=(k g rfl).trans h
def iI (r g c : Nat) (seen : Array Nat) : It where
  own b:=some r = some b
  P w:=IterB w r g c seen c
  lt w b h e:=by cases e; exact h.lt
  st w w' h _ k:=(k r rfl).trans h
theorem Mem.p {w0 w : World} {is : List It} (m : Mem w0 w is) (k : Nat) {g c : Nat} {es : Array MapEntry} (hk : is[k]? = some (mI g es c)) : MapB w g es c:=m.get k hk
theorem Mem.r {w0 w : World} {is : List It} (m : Mem w0 w is) (k : Nat) {r g c : Nat} {seen : Array Nat} (hk : is[k]? = some (iI r g c seen)) : IterB w r g c seen c:=m.get k hk
section
variable {K V : Type} [DecidableEq K] {P : Program} {T M E ty : TypeId} {ek : K → Value} {ev : V → Value} {w w0 : World} {g c : Nat} {es : Array MapEntry} {D : List (K × V)} {is : List It}
variable {ds : List Deferred} {l : List Value} {x y z : Operand} {ops : Array Oper} {Q : Exit → Act → World → Prop} {rest : List Oper} {d : Nat} {pos : String} {after : Array Edge}
theorem mmakeMap (m : Mem w0 w is) (h : ∀ g u,Mem w0 u (mI g #[] 0 :: is) → wpList P ops Q rest (Fr (l.set d (.map (some g))) ds) u) : wpList P ops Q (Oper.mk (some d) (.makeMap M none) ty pos after none :: rest) (Fr l ds) w :=
  n_makeMap fun u g e hg hM=>h g u (m.new (i:=mI g #[] 0) e hM fun b h=>by cases h; exact hg)
theorem mrange (m : Mem w0 w is) (hu : P.underlying M = some (.map T E)) (hx : Go.Lith.ev l x = .map (some g)) (hM : MapB w g es c) (h : ∀ r u,Mem w0 u (iI r g c #[] :: is) → wpList P ops Q rest (Fr (l.set d (.pointer (some ⟨r,0,none⟩))) ds) u) :
    wpList P ops Q (Oper.mk (some d) (.range M x) ty pos after none :: rest) (Fr l ds) w :=
  n_range hu hx hM fun u r e hr hI=>h r u (m.new (i:=iI r g c #[]) e hI fun b h=>by cases h; exact hr)
end
end Go.Lith
namespace Go.Lith
open Go.RowKit Go.ChangeMaps Go.MapKept
section
variable {K V : Type} [DecidableEq K] {P : Program} {T M E ty : TypeId} {ek : K → Value} {en : V → Value} {w w0 : World} {g c : Nat} {es : Array MapEntry} {D : List (K × V)} {is : List It}
variable {ds : List Deferred} {l : List Value} {x y z : Operand} {ops : Array Oper} {Q : Exit → Act → World → Prop} {rest : List Oper} {d : Nat} {pos : String} {after : Array Edge}
theorem r_lookup {v0 : V} {k : K} (hu : P.underlying M = some (.map T E)) (hz : Zero P E (en v0)) (kt : KeyT P T ek) (hx : ev l x = .map (some g)) (hy : ev l y = ek k) (hM : MapB w g es c) (hD : MapOf ek en D es c) : RunW P l (.lookup M x y false) ty (en ((mget D k).getD v0)) w:=fun o ho _=>by
  have:=run_lookupM hu kt hM hD hz k false
  simp only [Bool.false_eq_true,if_false] at this
  simp [execOp,ho,ev_eq,hx,hy,this]
theorem mupdate {v : V} {a : K} (m : Mem w0 w is) (k : Nat) (hk : is[k]? = some (mI g es c)) (hu : P.underlying M = some (.map T E)) (kt : KeyT P T ek) (hx : ev l x = .map (some g)) (hy : ev l y = ek a) (hz : ev l z = en v) (hD : MapOf ek en D es c)
    (h : ∀ es' c' u,Mem w0 u (is.set k (mI g es' c')) → MapOf ek en (mput D a v) es' c' → wpList P ops Q rest (Fr l ds) u) : wpList P ops Q (Oper.mk none (.mapUpdate M x y z) ty pos after none :: rest) (Fr l ds) w:=by
  have hM:=m.p k hk
  obtain ⟨es',c',hr,hD'⟩:=run_updateM hu kt hM hD a v
  have hC:=chg_setBlock (w:=w) (g:=g) (.map es' c')
  refine n_skipW (w':=setBlock w g (.map es' c')) (fun o ho=>by simp [execOp,ho,ev_eq,hx,hy,hz,hr]) (h es' c' _ ?_ hD')
  exact m.put k hk hC.os hC.tape hC.output (by rw [hC.size]; exact Nat.le_refl _) (fun b _ hne=>hC.block b fun e=>hne (by rw [e]; rfl)) (heap_setBlock hM) (.inl fun _ h=>h)
theorem mnext {r : Nat} {seen : Array Nat} {dn rs : List (K × V)} (m : Mem w0 w is) (k : Nat) (hk : is[k]? = some (iI r g c seen)) (hx : ev l x = .pointer (some ⟨r,0,none⟩)) (hM : MapB w g es c) (hD : MapOf ek en D es c) (hT : Trav ek en D es seen dn rs)
    (h : ∀ b kv vv seen' u,Mem w0 u (is.set k (iI r g c seen')) → Nxt ek en D es dn rs b kv vv seen' → wpList P ops Q rest (Fr (l.set d (nextV b kv vv)) ds) u) :
    wpList P ops Q (Oper.mk (some d) (.next x false) ty pos after none :: rest) (Fr l ds) w:=by
  have hI:=m.r k hk
  obtain ⟨b,kv,vv,seen',w1,hw1,hr,hN⟩:=run_nextM (P:=P) (ty:=ty) (s:=0) hI hM hD hT
  refine n_newW (w':=setBlock w1 r (.mapIter (some g) c seen' c)) (v:=nextV b kv vv) (fun o ho hty=>by simp [execOp,ho,ev_eq,hx,hty,hr]) (h b kv vv seen' _ ?_ hN)
  have e1 : w1.heap = w.heap ∧ w1.os = w.os ∧ w1.tape = w.tape ∧ w1.output = w.output:=by rcases hw1 with rfl | rfl <;> exact ⟨rfl,rfl,rfl,rfl⟩
  refine m.put k hk e1.2.1 e1.2.2.1 e1.2.2.2 (by simp [setBlock,e1.1]) (fun b' _ hne=>?_) ?_ (.inl fun _ h=>h)
  · have : b' ≠ r:=fun e=>hne (by rw [e]; rfl)
    simp only [setBlock,e1.1]
    exact Array.getElem?_setIfInBounds_ne (Ne.symm this)
  · exact heap_setBlock (w:=w1) (o:=.mapIter (some g) c seen c) (by rw [e1.1]; exact hI)
theorem r_nextB {b : Bool} {kv vv : Value} (hx : ev l x = nextV b kv vv) : Run P l (.extract x 0) ty (.bool b):=fun w o ho _=>by
  cases b <;> simp [execOp,ho,ev_eq,hx,nextV,Instr.extract]
theorem r_entry {r : Nat} {seen : Array Nat} {dn rs : List (K × V)} {k : K} {v : V} (hx : ev l x = .pointer (some ⟨r,0,none⟩)) (hI : IterB w r g c seen c) (hM : MapB w g es c) (hD : MapOf ek en D es c) (hT : Trav ek en D es seen (dn ++ [(k,v)]) rs) :
    RunW P l (.entry x) ty (.tuple #[ek k,en v]) w:=fun o ho _=>by
  have:=run_entryM (P:=P) hI hM hD hT
  simp [execOp,ho,ev_eq,hx,this]
theorem mcallF {f : FuncId} {fo : Operand} {xs : Array Operand} {args : List Value} {first cap : Array Value} {a0 : Array TypeId} {R : Value → It → Prop} (m : Mem w0 w is) (k : Nat) (hE : Enters P f) (hf : ev l fo = .func (.func f) first cap) (hxs : first.toList ++ xs.toList.map (ev l) ++ cap.toList = args)
    (hc : Mem w0 w is → Calls P f args.toArray w fun e w'=>∃ v i,e = .returned v ∧ Mem w0 w' (is.set k i) ∧ R v i) (h : ∀ v i u,Mem w0 u (is.set k i) → R v i → wpList P ops Q rest (Fr (l.set d v) ds) u) :
    wpList P ops Q (Oper.mk (some d) (.call { callee:=.value fo,args:=xs,argTypes:=a0 }) ty pos after none :: rest) (Fr l ds) w:=by
  refine wpList_plain rfl fun K hK=>?_
  unfold Oper.wp
  rw [fr_eval,run_call hE hf hxs _ rfl]
  refine (hc m).mono ?_
  rintro e w' ⟨v,i,rfl,hM,hR⟩
  show K ((Fr l ds).put (some d) v) w'
  rw [fr_put]
  exact hK _ _ (h v i w' hM hR)
end
theorem c_ifB {P : Program} {Q : Exit → Act → World → Prop} {l : List Value} {ds : List Deferred} {c1 c2 : Code} {w : World} {x : Operand} {b : Bool} (hx : ev l x = .bool b) (ht : b = true → c1.wp P Q (Fr l ds) w) (hf : b = false → c2.wp P Q (Fr l ds) w) : (Code.cond x c1 c2).wp P Q (Fr l ds) w:=c_cond hx ht hf
theorem set_same {α : Type} {is : List α} {k : Nat} {i : α} (h : is[k]? = some i) : is.set k i = is:=by
  apply List.ext_getElem?
  intro j
  rw [List.getElem?_set]
  split
  · rename_i e; subst e
    have:=(List.getElem?_eq_some_iff.1 h).1
    rw [if_pos this,h]
  · rfl
theorem mput_same {K V : Type} [DecidableEq K] : ∀ {D : List (K × V)} {k : K} {v : V},mget D k = some v → mput D k v = D
  | [],_,_,h=>by cases h
  | x :: D,k,v,h=>by
    unfold mget at h
    unfold mput
    split at h
    · rename_i e; cases h; subst e; rw [if_pos rfl]
    · rename_i e; rw [if_neg e,mput_same h]
/-! ### Keys -/
def CkR (P : Program) (e : Bool) (d : Nat) (T : TypeId) (x : Value) : Prop:=∀ w,(Instr.checkKey e d T x).run P w = .ok () w
section
variable {P : Program} {e : Bool} {d : Nat} {T E : TypeId}
theorem run_forIn_yield {β : Type} {w : World} (g : β → PUnit → Sem (ForInStep PUnit)) : ∀ (L : List β),(∀ x ∈ L,(g x ⟨⟩).run P w = .ok (.yield ⟨⟩) w) → (forIn L PUnit.unit g : Sem PUnit).run P w = .ok ⟨⟩ w
  | [],_=>by simp
  | x :: L,h=>by
    simp only [List.forIn_cons,Sem.run_bind,h x (List.mem_cons_self ..),Result.andThen_ok]
    exact run_forIn_yield g L fun y hy=>h y (List.mem_cons_of_mem _ hy)
theorem CkR.int {k k' : IntKind} {n : Int} (hu : P.underlying T = some (.int k')) : CkR P e (d + 1) T (.int k n):=fun w=>by
  unfold Instr.checkKey
  simp [run_underlying hu]
theorem CkR.struct {fs : Array Field} {cs : Array Value} (hu : P.underlying T = some (.struct fs)) (h : ∀ f ∈ fs.toList,∃ v,(∀ w,(part f.type cs f.offset).run P w = .ok v w) ∧ CkR P e d f.type v) : CkR P e (d + 1) T (.agg cs):=fun w=>by
  unfold Instr.checkKey
  simp only [Sem.run_bind,run_underlying hu,Result.andThen_ok]
  rw [← Array.forIn_toList]
  refine (congrArg (fun r=>Result.andThen r _) (run_forIn_yield _ fs.toList fun f hf=>?_)).trans (by rfl)
  obtain ⟨v,h1,h2⟩:=h f hf
  by_cases hn : f.name = "_"
  · simp [hn]
  · simp [hn,h1 w,h2 w]
theorem CkR.array {n c : Nat} {cs : Array Value} (hu : P.underlying T = some (.array n E)) (hc : Cells P E c) (h : ∀ i,i < n → ∃ v,(∀ w,(part E cs (i * c)).run P w = .ok v w) ∧ CkR P e d E v) : CkR P e (d + 1) T (.agg cs):=fun w=>by
  unfold Instr.checkKey
  simp only [Sem.run_bind,run_underlying hu,Result.andThen_ok]
  simp only [Std.Legacy.Range.forIn_eq_forIn_range',Std.Legacy.Range.size,Nat.sub_zero,Nat.add_one_sub_one,Nat.div_one]
  refine (congrArg (fun r=>Result.andThen r _) (run_forIn_yield _ (List.range' 0 n) fun i hi=>?_)).trans (by rfl)
  obtain ⟨v,h1,h2⟩:=h i (by simpa using hi)
  simp [size_run hc,h1 w,h2 w]
theorem KeyT.agg {K : Type} [DecidableEq K] {ek : K → Value} {cs : K → Array Value} (ha : ∀ k,ek k = .agg (cs k)) {t : TypeDesc} (ht : P.underlying T = some t) (hc : ∀ e k,CkR P e 10000 T (ek k)) (he : ∀ a b,EqR P 10000 T (ek a) (ek b) (a = b)) (hb : ∀ a,Instr.sameBits 10000 (ek a) (ek a) = true) : KeyT P T ek where
  chk e k w:=hc e k w
  now:=⟨t,ht,fun a b=>.inl (by rw [ha,ha]; cases t <;> rfl)⟩
  eq a b w:=eql_run (he a b) w
  bits:=hb
end
end Go.Lith
namespace Go.Lith
open Go.RowKit Go.Proofs Go.Sort Go.Shelf
theorem fm_get {α : Type} {enc : α → List Value} {k : Nat} (hk : ∀ x,(enc x).length = k) (h0 : 0 < k) : ∀ (L : List α) (t : Nat),(L.flatMap enc)[t]? = (L[t / k]?).bind fun x=>(enc x)[t % k]?
  | [],t=>by simp
  | x :: L,t=>by
    rw [List.flatMap_cons,List.getElem?_append]
    by_cases h : t < k
    · rw [if_pos (by rw [hk]; exact h),Nat.div_eq_of_lt h,Nat.mod_eq_of_lt h]
      rfl
    · rw [if_neg (by rw [hk]; exact h),hk,fm_get hk h0 L (t - k)]
      have e1 : t / k = (t - k) / k + 1:=by rw [Nat.div_eq t k,if_pos ⟨h0,Nat.le_of_not_lt h⟩]
      have e2 : t % k = (t - k) % k:=Nat.mod_eq_sub_mod (Nat.le_of_not_lt h)
      rw [e1,e2,List.getElem?_cons_succ]
theorem flatK_list {α : Type} [Inhabited α] {enc : α → List Value} {k : Nat} (hk : ∀ x,(enc x).length = k) (h0 : 0 < k) (L : List α) : (flatK enc k L.toArray).toList = L.flatMap enc:=by
  have hlen : (L.flatMap enc).length = L.length * k:=by
    induction L with
    | nil=>simp
    | cons x L ih=>rw [List.flatMap_cons,List.length_append,ih,hk,List.length_cons,Nat.add_mul]; omega
  apply List.ext_getElem?
  intro t
  by_cases ht : t < L.length * k
  · have hd : t / k < L.length:=by
      rw [Nat.div_lt_iff_lt_mul h0]
      exact ht
    have hm : t % k < k:=Nat.mod_lt _ h0
    have h1:=get_flatK enc k L.toArray t (by simpa using ht)
    rw [getElem!_pos _ t (by simpa using ht)] at h1
    rw [fm_get hk h0,List.getElem?_eq_getElem hd,Option.bind_some,Array.getElem?_toList,Array.getElem?_eq_getElem (by simpa using ht),h1,List.getElem?_eq_getElem (show t % k < (enc L[t / k]).length by rw [hk]; exact hm)]
    congr 1
    rw [getElem!_pos L.toArray _ (by simpa using hd),List.getElem_toArray,getElem!_pos _ _ (by rw [hk]; exact hm)]
  · rw [List.getElem?_eq_none (by simpa using Nat.le_of_not_lt ht),List.getElem?_eq_none (by rw [hlen]; exact Nat.le_of_not_lt ht)]
section
variable {α : Type} [Inhabited α] {P : Program} {ρ : Ren} {enc : α → List Value} {c : Nat} {E : TypeId} {w w0 : World} {is : List It} {A : Option Addr} {n cap : Nat}
theorem own_holds {g : Nat} {xs : List α} {cur : Array Value} (hk : ∀ x,(enc x).length = c) (h0 : 0 < c) (hg : w.heap[g]? = some (.cells cur E (0,0))) (h : cur.toList.take (xs.length * c) = xs.flatMap enc) : HoldsK enc c w g 0 xs.toArray:=by
  intro j hj
  have hl:=flatK_list hk h0 xs
  have hj' : j < xs.length * c:=by simpa using hj
  have e : (flatK enc c xs.toArray)[j]? = cur[j]?:=by
    rw [← Array.getElem?_toList,hl,← h,List.getElem?_take,if_pos hj',Array.getElem?_toList]
  rw [Array.getElem?_eq_getElem hj] at e
  refine ⟨?_,?_⟩
  · simp only [World.cell?,hg,Nat.zero_add,Option.isSome_none,Bool.false_eq_true,if_false]
    rw [← e,getElem!_pos _ j hj]
    rfl
  · simp [World.frozen?,hg]
theorem sortWorld_own {g : Nat} {xs ys : List α} {cur : Array Value} {q : Nat} {os : Array Obj} (hk : ∀ x,(enc x).length = c) (h0 : 0 < c) (hg : w.heap[g]? = some (.cells cur E (0,0))) (hl : xs.length * c ≤ cur.size) (hlen : ys.length = xs.length) :
    ∃ cur' : Array Value,(sortWorldK enc c w g 0 q ys.toArray os).heap[g]? = some (.cells cur' E (0,0)) ∧ cur'.size = cur.size ∧ cur'.toList.take (xs.length * c) = ys.flatMap enc:=by
  have hlt : g < w.heap.size:=(Array.getElem?_eq_some_iff.1 hg).1
  refine ⟨putCells id 0 (flatK enc c ys.toArray) cur,?_,by simp [putCells],?_⟩
  · unfold sortWorldK putRowK putRow mapBlock grow
    simp only
    rw [Array.getElem?_append_left (by simpa [ahead] using hlt),Array.getElem?_modify]
    simp [ahead,hg,onCells]
  · have hf:=flatK_list hk h0 ys
    apply List.ext_getElem?
    intro t
    rw [List.getElem?_take,← hf,Array.getElem?_toList,Array.getElem?_toList]
    have hs : (flatK enc c ys.toArray).size = xs.length * c:=by simp [hlen]
    split
    · rename_i ht
      have : t < cur.size:=Nat.lt_of_lt_of_le ht hl
      simp only [putCells,Array.getElem?_mapIdx,Array.getElem?_eq_getElem this,Option.map_some,Nat.zero_le,Nat.zero_add,true_and,Nat.sub_zero,hs,ht,if_true]
      rw [Array.getElem?_eq_getElem (by rw [hs]; exact ht),getElem!_pos _ t (by rw [hs]; exact ht)]
      rfl
    · rename_i ht
      rw [Array.getElem?_eq_none (by rw [hs]; exact Nat.le_of_not_lt ht)]
theorem sort_mem (L : SlLaysF0.n6 P ρ) (aE : ∀ w,(isAgg (ρ.t 24)).run P w = .ok true w) (zE : ∀ w,(Go.sizeOf (ρ.t 24)).run P w = .ok c w) (hk : ∀ x,(enc x).length = c) (h0 : 0 < c) (h1 : ∀ x,∀ v ∈ enc x,v.oneCell' = true)
    (cf : α → α → Int) (hO : SWO (ltOf cf)) {f : FuncId} (hcmp : ∀ x y,GPure P f [.agg (enc x).toArray,.agg (enc y).toArray] (.int .i64 (cf x y))) {xs : List α} (m : Mem w0 w is) (k : Nat) (hi : is[k]? = some (oI E c A n cap (xs.flatMap enc))) (hsz : n < 4611686018427387904) :
    Calls P (ρ.f 6) #[.slice A n cap,.func (.func f) #[] #[]] w fun e w'=>∃ v i,e = .returned v ∧ Mem w0 w' (is.set k i) ∧ (v = .tuple #[] ∧ ∃ ys : List α,i = oI E c A n cap (ys.flatMap enc) ∧ ys.Perm xs ∧ ys.Pairwise fun a b=>ltOf cf b a = false):=by
  have h : w.ownsRow 0 E c (.slice A n cap) n (xs.flatMap enc):=m.get k hi
  have hlen : (xs.flatMap enc).length = xs.length * c:=by
    have:=flatK_list hk h0 xs
    rw [← this]
    simp
  have hn : xs.length = n:=by
    have:=h.1
    rw [hlen] at this
    exact Nat.eq_of_mul_eq_mul_right h0 this
  have hge:=fun b hb=>m.ge _ (List.mem_of_getElem? hi) b hb
  rcases ownsRow_cases h with ⟨rfl,rfl,rfl,hx⟩ | ⟨g,cur,rfl,_,hg,hcap,hmax,hcur,htake⟩
  · refine (AnyF.slices_SortFunc_none L none 0 _ w).mono ?_
    rintro e w' ⟨rfl,rfl⟩
    obtain rfl : xs = []:=List.eq_nil_of_length_eq_zero hn
    refine ⟨_,oI E c none 0 0 [],rfl,?_,rfl,[],rfl,List.Perm.refl _,.nil⟩
    have : is.set k (oI E c none 0 0 []) = is:=by
      apply List.ext_getElem?
      intro j
      rw [List.getElem?_set]
      split
      · rename_i e; subst e
        have:=(List.getElem?_eq_some_iff.1 hi).1
        rw [if_pos this,hi]
        rfl
      · rfl
    rw [this]
    exact m
  · have hlt : g < w.heap.size:=(Array.getElem?_eq_some_iff.1 hg).1
    rw [← hn] at htake
    have hH:=own_holds (xs:=xs) hk h0 hg htake
    have hx:=AnyQ.slices_SortFunc L c aE zE enc hk h1 cf hO f #[] g 0 cap xs.toArray w (fun args w'=>run_callFunc (hcmp default default w').1) (fun mm os dk _ x y=>by
      have:=((hcmp x y (sortWorldK enc c w g 0 mm dk os)).2.mono fun e w' h=>(show e = .returned (.int .i64 (cf x y)) ∧ ∃ q os',w' = grow ((sortWorldK enc c w g 0 mm dk os).drewN q) os' from by obtain ⟨u,rfl,hX,rfl⟩:=h; exact ⟨rfl,hX.grow⟩))
      simpa using this) hH hlt (by simpa [hn] using hsz)
    have es : xs.toArray.size = n:=by simpa using hn
    rw [es] at hx
    refine hx.mono ?_
    rintro e w' ⟨rfl,d',q,os,hp,hs,rfl⟩
    have hd : d'.size = n:=by rw [hp.1]; exact es
    obtain ⟨ys,rfl⟩ : ∃ ys : List α,d' = ys.toArray:=⟨d'.toList,by simp⟩
    have hyl : ys.length = n:=by simpa using hd
    have hcs : xs.length * c ≤ cur.size:=by rw [hn,hcur]; exact Nat.mul_le_mul_right _ hcap
    obtain ⟨cur',e1,e2,e3⟩:=sortWorld_own (q:=q) (os:=os) (ys:=ys) hk h0 hg hcs (by rw [hyl,hn])
    refine ⟨_,oI E c (some ⟨g,0,none⟩) n cap (ys.flatMap enc),rfl,?_,rfl,ys,rfl,?_,?_⟩
    · refine m.put k hi rfl rfl rfl ?_ (fun b hb hne=>?_) ?_ (.inl fun _ h=>h)
      · simp [sortWorldK,putRowK,putRow,mapBlock,grow,ahead]
      · have hbg : g ≠ b:=fun e=>hne (by rw [e]; rfl)
        unfold sortWorldK putRowK putRow mapBlock grow
        simp only
        rw [Array.getElem?_append_left (by simpa [ahead] using hb),Array.getElem?_modify,if_neg hbg]
        rfl
      · refine ⟨?_,.inr ⟨g,cap,cur',rfl,Nat.zero_le _,e1,hcap,hmax,by rw [e2,hcur],?_⟩⟩
        · have:=flatK_list hk h0 ys
          rw [← this]
          simp [hyl]
        · rw [← hn]; exact e3
    · have:=hp.2.2
      simpa [hyl,hn,List.take_of_length_le (Nat.le_of_eq hyl),List.take_of_length_le (Nat.le_of_eq hn),List.extract_eq_take_drop] using this
    · rw [List.pairwise_iff_getElem]
      intro i j hi' hj' hij
      have:=hs i j (Nat.zero_le _) hij (by rw [← hyl]; exact hj')
      rw [getElem!_pos _ i (by simpa using hi'),getElem!_pos _ j (by simpa using hj')] at this
      simpa using this
end
end Go.Lith
namespace Go.Lith
open Go.RowKit Go.Sort
instance : Inhabited P3:=⟨⟨0,0,0⟩⟩
def ptCells (p : P3) : List Value:=[.int .i64 p.x,.int .i64 p.y,.int .i64 p.z]
theorem ptCells_one (p : P3) : ∀ v ∈ ptCells p,v.oneCell' = true:=fun v h=>by
  simp only [ptCells,List.mem_cons,List.not_mem_nil,or_false] at h
  rcases h with rfl | rfl | rfl <;> rfl
theorem cmpP_neg (p q : P3) : (cmpP p q < 0) ↔ p.Lt q:=by
  unfold cmpP
  split
  · simp [*]
  · split <;> simp [*]
theorem cmpP_swo : SWO (Go.Proofs.ltOf cmpP) where
  irrefl x:=by simp [Go.Proofs.ltOf,cmpP_neg,P3.lt_irrefl]
  trans x y z h1 h2:=by
    simp only [Go.Proofs.ltOf,decide_eq_true_eq,cmpP_neg] at *
    exact P3.lt_trans h1 h2
  ntrans x y z h1 h2:=by
    simp only [Go.Proofs.ltOf,decide_eq_false_iff_not,cmpP_neg] at *
    unfold P3.Lt at *
    omega
theorem Trav.len {K V : Type} [DecidableEq K] {ek : K → Value} {en : V → Value} {D dn rs : List (K × V)} {es : Array MapEntry} {seen : Array Nat} (h : Trav ek en D es seen dn rs) : dn.length + rs.length = D.length:=by
  have:=h.1.length_eq
  simpa using this
theorem nxt_f {K V : Type} [DecidableEq K] {ek : K → Value} {en : V → Value} {D dn rs : List (K × V)} {es : Array MapEntry} {b : Bool} {kv vv : Value} {sn : Array Nat} (hb : b = false) (h : Nxt ek en D es dn rs b kv vv sn) : rs = []:=by
  rcases h with ⟨_,h⟩ | ⟨h,_⟩
  · exact h
  · rw [h] at hb; cases hb
theorem nxt_t {K V : Type} [DecidableEq K] {ek : K → Value} {en : V → Value} {D dn rs : List (K × V)} {es : Array MapEntry} {b : Bool} {kv vv : Value} {sn : Array Nat} (hb : b = true) (h : Nxt ek en D es dn rs b kv vv sn) :
    ∃ k v rs',rs.Perm ((k,v) :: rs') ∧ Trav ek en D es sn (dn ++ [(k,v)]) rs':=by
  rcases h with ⟨h,_⟩ | ⟨_,k,v,rs',h1,_,_,h2⟩
  · rw [h] at hb; cases hb
  · exact ⟨k,v,rs',h1,h2⟩
def addsP (D : List (P3 × Bool)) (ps : List P3) : List (P3 × Bool):=ps.foldl (fun D p=>mput D p true) D
theorem mem_mput {K V : Type} [DecidableEq K] (D : List (K × V)) (k a : K) (v : V) : a ∈ (mput D k v).map (·.1) ↔ a ∈ D.map (·.1) ∨ a = k:=by
  rw [mput_keys]
  split
  · exact ⟨.inl,fun h=>h.elim id (fun e=>e ▸ ‹_›)⟩
  · simp
theorem addsP_mem : ∀ (ps : List P3) (D : List (P3 × Bool)) (a : P3),a ∈ (addsP D ps).map (·.1) ↔ a ∈ D.map (·.1) ∨ a ∈ ps
  | [],D,a=>by simp [addsP]
  | p :: ps,D,a=>by
    have:=addsP_mem ps (mput D p true) a
    unfold addsP at this ⊢
    rw [List.foldl_cons,this,mem_mput,List.mem_cons,or_assoc]
theorem addsP_nodup : ∀ (ps : List P3) (D : List (P3 × Bool)),(D.map (·.1)).Nodup → ((addsP D ps).map (·.1)).Nodup
  | [],_,h=>h
  | p :: ps,D,h=>addsP_nodup ps (mput D p true) (mput_nodup h p true)
theorem mput_length {K V : Type} [DecidableEq K] : ∀ (D : List (K × V)) (k : K) (v : V),(mput D k v).length ≤ D.length + 1
  | [],_,_=>by simp [mput]
  | x :: D,k,v=>by
    unfold mput
    split
    · simp
    · simp only [List.length_cons]
      exact Nat.succ_le_succ (mput_length D k v)
theorem addsP_length : ∀ (ps : List P3) (D : List (P3 × Bool)),(addsP D ps).length ≤ D.length + ps.length
  | [],D=>Nat.le_refl _
  | p :: ps,D=>Nat.le_trans (addsP_length ps (mput D p true)) (by
    have:=mput_length D p true
    simp only [List.length_cons]
    omega)
theorem addsP_app (D : List (P3 × Bool)) (ps qs : List P3) : addsP D (ps ++ qs) = addsP (addsP D ps) qs:=List.foldl_append ..
def corsT (ts : List T3) : List P3:=ts.flatMap fun t=>[t.a,t.b,t.c]
def Sorted (ps : List P3) : Prop:=ps.Pairwise fun a b=>a.Lt b
theorem sorted_of {ps : List P3} (hn : ps.Nodup) (h : ps.Pairwise fun a b=>¬ b.Lt a) : Sorted ps:=by
  have:=hn.and h
  exact this.imp fun {a b} h=>(P3.lt_tri a b).resolve_right (by rintro (e | e); exact h.1 e; exact h.2 e)
end Go.Lith
namespace Go.Lith
open Go.RowKit
@[irreducible] def may (c : Bool) (v : Value) : Value:=if c then v else undef
theorem may_t {v : Value} : may true v = v:=by simp [may]
theorem may_f {v : Value} : may false v = undef:=by simp [may]
theorem mayE {c : Bool} {u v : Value} (hb : c = true) (h : u = may c v) : u = v:=by rw [h,hb,may_t]
section
variable {P : Program} {ds : List Deferred} {l : List Value} {x y : Operand} {T ty : TypeId} {b c : Bool} {v : Value}
theorem r_pickAnd {z : Operand} (hz : ev l z = .bool b) (hx : ev l x = may b (.bool c)) (hy : ev l y = .bool false) : Run P l (.pick z x y) ty (.bool (b && c)):=by
  have:=r_pick (P:=P) (ty:=ty) (x:=x) (y:=y) hz
  cases b with
  | false=>simpa [hy] using this
  | true=>simpa [hx,may_t] using this
theorem r_pickOr {z : Operand} (hz : ev l z = .bool b) (hx : ev l x = .bool true) (hy : ev l y = may (!b) (.bool c)) : Run P l (.pick z x y) ty (.bool (b || c)):=by
  have:=r_pick (P:=P) (ty:=ty) (x:=x) (y:=y) hz
  cases b with
  | false=>simpa [hy,may_t] using this
  | true=>simpa [hx] using this
end
section
variable {P : Program} {ops : Array Oper} {Q : Exit → Act → World → Prop} {rest : List Oper} {d j : Nat} {op : Op} {ty : TypeId} {pos : String} {after : Array Edge} {v : Value} {b : Bool} {ds : List Deferred} {l : List Value} {w w0 : World} {is : List It}
theorem n_mayTW (hw : yielded ops l.toArray j = some b) (hr : b = true → RunW P l op ty v w) (h : wpList P ops Q rest (Fr (l.set d (may b v)) ds) w) : wpList P ops Q (Oper.mk (some d) op ty pos after (some (j,true)) :: rest) (Fr l ds) w:=by
  cases b with
  | false=>rw [may_f] at h; exact n_skipT hw h
  | true=>rw [may_t] at h; exact n_want hw (n_valW (hr rfl) h)
theorem n_mayFW (hw : yielded ops l.toArray j = some b) (hr : (!b) = true → RunW P l op ty v w) (h : wpList P ops Q rest (Fr (l.set d (may (!b) v)) ds) w) : wpList P ops Q (Oper.mk (some d) op ty pos after (some (j,false)) :: rest) (Fr l ds) w:=by
  cases b with
  | true=>rw [Bool.not_true,may_f] at h; exact n_skipF hw h
  | false=>rw [Bool.not_false,may_t] at h; exact n_want hw (n_valW (hr rfl) h)
theorem n_mayT (hw : yielded ops l.toArray j = some b) (hr : b = true → Run P l op ty v) (h : wpList P ops Q rest (Fr (l.set d (may b v)) ds) w) : wpList P ops Q (Oper.mk (some d) op ty pos after (some (j,true)) :: rest) (Fr l ds) w:=n_mayTW hw (fun e=>hr e w) h
theorem n_mayF (hw : yielded ops l.toArray j = some b) (hr : (!b) = true → Run P l op ty v) (h : wpList P ops Q rest (Fr (l.set d (may (!b) v)) ds) w) : wpList P ops Q (Oper.mk (some d) op ty pos after (some (j,false)) :: rest) (Fr l ds) w:=n_mayFW hw (fun e=>hr e w) h
end
section
variable {P : Program} {ops : Array Oper} {Q : Act → Prop} {C : World → Prop} {rest : List Oper} {d j : Nat} {op : Op} {ty : TypeId} {pos : String} {after : Array Edge} {v : Value} {b : Bool} {ds : List Deferred} {l : List Value} {w0 : World} {is : List It}
theorem q_mayFW (hw : yielded ops l.toArray j = some b) (hr : (!b) = true → ∀ u,C u → RunW P l op ty v u) (h : wpQuiet P ops C Q rest (Fr (l.set d (may (!b) v)) ds)) : wpQuiet P ops C Q (Oper.mk (some d) op ty pos after (some (j,false)) :: rest) (Fr l ds):=by
  cases b with
  | true=>rw [Bool.not_true,may_f] at h; exact q_skipF hw h
  | false=>rw [Bool.not_false,may_t] at h; exact q_want hw (q_valW (hr rfl) h)
theorem q_mayF (hw : yielded ops l.toArray j = some b) (hr : (!b) = true → Run P l op ty v) (h : wpQuiet P ops C Q rest (Fr (l.set d (may (!b) v)) ds)) : wpQuiet P ops C Q (Oper.mk (some d) op ty pos after (some (j,false)) :: rest) (Fr l ds):=q_mayFW hw (fun e u _=>hr e u) h
end
section
variable {P : Program} {ops : Array Oper} {S : World → Prop} {Q : Exit → Act → World → Prop} {rest : List (Oper × Bool)} {d j : Nat} {op : Op} {ty : TypeId} {pos : String} {after : Array Edge} {v : Value} {b : Bool} {ds : List Deferred} {l : List Value} {w : World}
end
end Go.Lith
namespace Go.Lith
open Go.RowKit Go.ChangeShapes
variable {H : Type} {enc : TypeId × Value → H} {P : Program} {w : World} {base : Nat} {spare : Nat → Bool} {held : Bool}
def intsOnly (P : Program) : Nat → TypeId → Bool
  | 0,_=>false
  | n + 1,t=>match P.underlying t with
    | some (.int .i64)=>decide (P.cellsOf t = 1)
    | some (.struct fs)=>(fs.toList.all fun f=>intsOnly P n f.type) && (List.range (P.cellsOf t)).all fun i=>fs.toList.any fun f=>decide (f.offset ≤ i) && decide (i < f.offset + P.cellsOf f.type)
    | some (.array m e)=>intsOnly P n e && decide (P.cellsOf t = m * P.cellsOf e)
    | _=>false
theorem i64_of {n : Int} (h : (Lit.int .i64 n).wf = true) : I64 n:=by
  have:=bounds_i64 h
  exact ⟨by omega,by omega⟩
theorem ints_of_trod : ∀ (n : Nat) (t : TypeId) (m : Nat) (cs : List Value) (x : DataW H × List MemPlace),intsOnly P n t = true → DataW.trod enc P w base spare held m t cs = some x →
    cs.length = P.cellsOf t ∧ ∀ v ∈ cs,∃ z,v = .int .i64 z ∧ I64 z
  | 0,t,m,cs,x,h,_=>by cases h
  | n + 1,t,m,cs,x,h,hx=>by
    unfold intsOnly at h
    split at h
    · rename_i hu
      obtain ⟨z,rfl,_,hz⟩:=DataW.trod_int hu hx
      refine ⟨by rw [of_decide_eq_true h]; rfl,fun v hv=>⟨z,by simpa using hv,i64_of hz⟩⟩
    · rename_i fs hu
      simp only [Bool.and_eq_true,List.all_eq_true,List.any_eq_true,decide_eq_true_eq,List.mem_range] at h
      obtain ⟨ys,k,_,_,hl,hlen,hf⟩:=DataW.trod_struct hu hx
      refine ⟨hl,fun v hv=>?_⟩
      obtain ⟨i,hi,rfl⟩:=List.getElem_of_mem hv
      obtain ⟨f,hfm,h1,h2⟩:=h.2 i (by rw [← hl]; exact hi)
      obtain ⟨j,hj,rfl⟩:=List.getElem_of_mem hfm
      have hj' : j < fs.size:=by simpa using hj
      have:=hf j fs[j] (Array.getElem?_eq_getElem hj')
      rw [List.getElem?_eq_getElem (by rw [hlen]; exact hj')] at this
      have hr:=(ints_of_trod n _ _ _ _ (h.1 _ (List.getElem_mem hj)) this).2
      refine hr _ ?_
      simp only [Array.getElem_toList] at h1 h2
      refine List.mem_of_getElem? (i:=i - fs[j].offset) ?_
      rw [List.getElem?_take,if_pos (by omega),List.getElem?_drop,show fs[j].offset + (i - fs[j].offset) = i by omega]
      exact List.getElem?_eq_getElem hi
    · rename_i q e hu
      simp only [Bool.and_eq_true,decide_eq_true_eq] at h
      obtain ⟨ys,k,_,_,hl,hlen,hf⟩:=DataW.trod_array hu hx
      refine ⟨hl,fun v hv=>?_⟩
      obtain ⟨i,hi,rfl⟩:=List.getElem_of_mem hv
      rw [hl,h.2] at hi
      have hc : 0 < P.cellsOf e:=by
        rcases Nat.eq_zero_or_pos (P.cellsOf e) with h0 | h0
        · rw [h0] at hi; omega
        · exact h0
      have hq : i / P.cellsOf e < q:=Nat.div_lt_of_lt_mul (by rw [Nat.mul_comm]; exact hi)
      have:=hf _ hq
      rw [List.getElem?_eq_getElem (by rw [hlen]; exact hq)] at this
      have hr:=(ints_of_trod n _ _ _ _ h.1 this).2
      refine hr _ (List.mem_of_getElem? (i:=i % P.cellsOf e) ?_)
      rw [List.getElem?_take,if_pos (Nat.mod_lt _ hc),List.getElem?_drop,Nat.mul_comm,Nat.div_add_mod]
      exact List.getElem?_eq_getElem _
    · cases h
theorem ints_list : ∀ (n : Nat) (cs : List Value),cs.length = n → (∀ v ∈ cs,∃ z,v = .int .i64 z ∧ I64 z) → ∃ zs : List Int,zs.length = n ∧ cs = zs.map (.int .i64 ·) ∧ ∀ z ∈ zs,I64 z
  | 0,[],_,_=>⟨[],rfl,rfl,fun _ h=>by cases h⟩
  | n + 1,v :: vs,h,hv=>by
    obtain ⟨zs,h1,h2,h3⟩:=ints_list n vs (by simpa using h) (fun u hu=>hv u (by simp [hu]))
    obtain ⟨z,rfl,hz⟩:=hv v (by simp)
    exact ⟨z :: zs,by simp [h1],by simp [h2],fun u hu=>by rcases List.mem_cons.1 hu with rfl | hu; exact hz; exact h3 _ hu⟩
theorem three {zs : List Int} (h : zs.length = 3) : ∃ a b c,zs = [a,b,c]:=by
  match zs,h with
  | [a,b,c],_=>exact ⟨a,b,c,rfl⟩
theorem cells?_row {a : Addr} {n : Nat} {cs : List Value} (h : w.cells? base a n = some cs) : Row w a cs ∧ base ≤ a.block:=by
  unfold World.cells? at h
  split at h
  · rename_i hb
    refine ⟨fun j u hj=>?_,hb⟩
    have hl:=mapM_some_length h
    have hj' : j < cs.length:=(List.getElem?_eq_some_iff.1 hj).1
    rw [hl] at hj'
    have:=mapM_some_get h j j (List.getElem?_eq_getElem hj' ▸ by simp)
    rw [this,hj]
  · cases h
theorem open_rows {n m : Nat} {t e : TypeId} {fuel : Nat} {cs : List Value} {x : DataW H × List MemPlace} (hu : P.underlying t = some (.slice e)) (hi : intsOnly P n e = true) (hc : P.cellsOf e = m) (h : DataW.trod enc P w base spare held fuel t cs = some x) :
    ∃ (A : Option Addr) (len cap : Nat),cs = [.slice A len cap] ∧ len ≤ cap ∧ cap ≤ maxLen ∧ (A = none → len = 0) ∧ ∀ i,i < len → ∃ (a : Addr) (zs : List Int),A = some a ∧ base ≤ a.block ∧ Row w (a.add (i * m)) (zs.map (Value.int .i64 ·)) ∧ zs.length = m ∧ ∀ z ∈ zs,I64 z:=by
  rcases Deep.open_slice hu h with ⟨rfl,_⟩ | ⟨a,len,cap,k,q,D,Pl,rfl,hb,hl,hm,hk,_,hx⟩
  · exact ⟨none,0,0,rfl,Nat.le_refl _,Nat.zero_le _,fun _=>rfl,fun i hi=>absurd hi (Nat.not_lt_zero _)⟩
  · refine ⟨some a,len,cap,rfl,hl,hm,fun h=>(by cases h),fun i hi'=>?_⟩
    obtain ⟨cs',h1,h2⟩:=hx i (by rw [hk]; split <;> omega)
    obtain ⟨h3,h4⟩:=ints_of_trod n e q _ _ hi h2
    obtain ⟨zs,h5,rfl,h6⟩:=ints_list m cs' (by rw [← hc]; exact h3) h4
    rw [hc] at h1
    exact ⟨a,zs,rfl,hb,(cells?_row h1).1,h5,h6⟩
theorem choose_list {α : Type} {p : Nat → α → Prop} : ∀ (n : Nat),(∀ i,i < n → ∃ x,p i x) → ∃ l : List α,l.length = n ∧ ∀ i x,l[i]? = some x → p i x
  | 0,_=>⟨[],rfl,fun i x h=>by simp at h⟩
  | n + 1,h=>by
    obtain ⟨l,h1,h2⟩:=choose_list n (fun i hi=>h i (by omega))
    obtain ⟨x,hx⟩:=h n (by omega)
    refine ⟨l ++ [x],by simp [h1],fun i y hy=>?_⟩
    rcases Nat.lt_trichotomy i n with hi | hi | hi
    · exact h2 i y (by rwa [List.getElem?_append_left (by omega)] at hy)
    · subst hi
      rw [List.getElem?_append_right (by omega),h1,Nat.sub_self] at hy
      cases hy
      exact hx
    · rw [List.getElem?_append_right (by omega),h1] at hy
      have : i - n ≠ 0:=by omega
      cases hd : i - n with
      | zero=>omega
      | succ j=>rw [hd] at hy; simp at hy
structure IntsAt (w : World) (A : Option Addr) (n : Nat) (zs : List Int) : Prop where
  len : zs.length = n
  it : ∀ z ∈ zs,I64 z
  row : ∀ i z,zs[i]? = some z → ∃ a,A = some a ∧ w.cell? (a.add i) = some (.int .i64 z)
theorem IntsAt.ext {w' : World} {A : Option Addr} {n : Nat} {zs : List Int} (h : IntsAt w A n zs) (hE : Ext w w') : IntsAt w' A n zs :=
  ⟨h.len,h.it,fun i z hi=>let ⟨a,e,hr⟩:=h.row i z hi; ⟨a,e,hE.cell hr⟩⟩
theorem IntsAt.get {A : Option Addr} {n : Nat} {zs : List Int} (h : IntsAt w A n zs) {i : Nat} (hi : i < n) : ∃ z,zs[i]? = some z ∧ Iw z ∧ ∃ a,A = some a ∧ w.cell? (a.add i) = some (.int .i64 z):=by
  have hl : i < zs.length:=by rw [h.len]; exact hi
  exact ⟨zs[i],List.getElem?_eq_getElem hl,⟨h.it _ (List.getElem_mem hl)⟩,h.row i _ (List.getElem?_eq_getElem hl)⟩
theorem open_intsl {n : Nat} {t e : TypeId} {fuel : Nat} {cs : List Value} {x : DataW H × List MemPlace} (hu : P.underlying t = some (.slice e)) (hi : intsOnly P n e = true) (hc : P.cellsOf e = 1) (h : DataW.trod enc P w base spare held fuel t cs = some x) :
    ∃ (A : Option Addr) (len cap : Nat) (zs : List Int),cs = [.slice A len cap] ∧ len ≤ cap ∧ cap ≤ maxLen ∧ (A = none → len = 0) ∧ IntsAt w A len zs:=by
  obtain ⟨A,len,cap,rfl,h1,h2,h3,h4⟩:=open_rows hu hi hc h
  obtain ⟨zs,h5,h6⟩:=choose_list (p:=fun i (z : Int)=>I64 z ∧ ∃ a,A = some a ∧ w.cell? (a.add i) = some (.int .i64 z)) len (fun i hi=>by
    obtain ⟨a,zs,rfl,_,hr,hl,hz⟩:=h4 i hi
    match zs,hl with
    | [z],_=>exact ⟨z,hz _ (by simp),a,rfl,by have:=hr 0 _ rfl; rwa [Nat.mul_one,addr_add_add,Nat.add_zero] at this⟩)
  refine ⟨A,len,cap,zs,rfl,h1,h2,h3,h5,fun z hz=>?_,fun i z hz=>(h6 i z hz).2⟩
  obtain ⟨i,hi,rfl⟩:=List.getElem_of_mem hz
  exact (h6 i _ (List.getElem?_eq_getElem hi)).1
end Go.Lith
namespace Go.Lith
open Go.RowKit
theorem tm_bd {n m : Int} (hm : 0 < m) : -m < n.tmod m ∧ n.tmod m < m:=by
  have h1:=Int.tmod_lt_of_pos n hm
  have h2:=Int.tmod_lt_of_pos (-n) hm
  rw [Int.neg_tmod] at h2
  omega
theorem mod_law {n m : Int} (hm : 0 < m) : (n.tmod m + m).tmod m = n % m:=by
  have hb:=tm_bd (n:=n) hm
  rw [Int.tmod_eq_emod_of_nonneg (by omega)]
  rcases Int.le_total 0 n with h | h
  · rw [Int.tmod_eq_emod_of_nonneg h]
    simp
  · have e : n.tmod m = -((-n) % m):=by
      rw [← Int.tmod_eq_emod_of_nonneg (show 0 ≤ -n by omega),Int.neg_tmod,Int.neg_neg]
    rw [e,Int.add_emod_right]
    have h2:=Int.emod_add_mul_ediv (-n) m
    have h3 : -((-n) % m) = n + m * (-n / m):=by omega
    rw [h3,Int.add_mul_emod_self_left]
theorem emod_bd {n m : Int} (hm : 0 < m) : 0 ≤ n % m ∧ n % m < m:=⟨Int.emod_nonneg _ (by omega),Int.emod_lt_of_pos _ hm⟩
/-! ### Hills -/
def hgt (zs : List Int) (x y : Nat) : Int:=(zs[(y * 7 + x) % zs.length]?.getD 0) % 64
theorem hgt_bd (zs : List Int) (x y : Nat) : 0 ≤ hgt zs x y ∧ hgt zs x y < 64:=emod_bd (by decide)
def hillP (s : Int) (zs : List Int) (x y : Nat) : P3:=⟨(x : Int) * s,(y : Int) * s,100 + hgt zs x y⟩
def quadT (a b c d : P3) : List T3:=[⟨a,b,c⟩,⟨a,c,d⟩]
def hillQ (s : Int) (zs : List Int) (y x : Nat) : List T3:=quadT (hillP s zs x y) (hillP s zs (x + 1) y) (hillP s zs (x + 1) (y + 1)) (hillP s zs x (y + 1))
def hillsPre (s : Int) (zs : List Int) (n y x : Nat) : List T3:=((List.range y).flatMap fun y=>(List.range n).flatMap (hillQ s zs y)) ++ (List.range x).flatMap (hillQ s zs y)
def hillsT (s : Int) (zs : List Int) (n : Nat) : List T3:=(List.range n).flatMap fun y=>(List.range n).flatMap (hillQ s zs y)
theorem hillsPre_end {s : Int} {zs : List Int} {n : Nat} : hillsPre s zs n n 0 = hillsT s zs n:=by simp [hillsPre,hillsT]
theorem hillsPre_row {s : Int} {zs : List Int} {n y : Nat} : hillsPre s zs n y n = hillsPre s zs n (y + 1) 0:=by
  simp [hillsPre,List.range_succ,List.flatMap_append]
theorem hillsPre_step {s : Int} {zs : List Int} {n y x : Nat} : hillsPre s zs n y (x + 1) = hillsPre s zs n y x ++ hillQ s zs y x:=by
  simp [hillsPre,List.range_succ,List.flatMap_append]
theorem flatMap_len {α β : Type} {f : α → List β} {k : Nat} : ∀ (l : List α),(∀ x ∈ l,(f x).length = k) → (l.flatMap f).length = l.length * k
  | [],_=>by simp
  | x :: l,h=>by
    rw [List.flatMap_cons,List.length_append,h x (by simp),flatMap_len l (fun y hy=>h y (by simp [hy])),List.length_cons,Nat.add_mul,Nat.one_mul,Nat.add_comm]
theorem hillsPre_length {s : Int} {zs : List Int} {n y x : Nat} : (hillsPre s zs n y x).length = y * (n * 2) + x * 2:=by
  unfold hillsPre
  rw [List.length_append,flatMap_len (k:=n * 2) _ (fun y _=>by rw [flatMap_len (k:=2) _ (fun _ _=>rfl),List.length_range]),flatMap_len (k:=2) _ (fun _ _=>rfl),List.length_range,List.length_range]
def Sm (k : Int) (p : P3) : Prop:=(0 ≤ p.x ∧ p.x ≤ k) ∧ (0 ≤ p.y ∧ p.y ≤ k) ∧ (0 ≤ p.z ∧ p.z ≤ k)
def SmT (k : Int) (t : T3) : Prop:=Sm k t.a ∧ Sm k t.b ∧ Sm k t.c
theorem Sm.i3 {k : Int} {p : P3} (h : Sm k p) (hk : k < 9223372036854775808) : I3 p:=⟨⟨by have:=h.1; omega,by have:=h.1; omega⟩,⟨by have:=h.2.1; omega,by have:=h.2.1; omega⟩,⟨by have:=h.2.2; omega,by have:=h.2.2; omega⟩⟩
theorem SmT.it {k : Int} {t : T3} (h : SmT k t) (hk : k < 9223372036854775808) : IT t:=⟨h.1.i3 hk,h.2.1.i3 hk,h.2.2.i3 hk⟩
theorem quad_sm {k : Int} {a b c d : P3} (ha : Sm k a) (hb : Sm k b) (hc : Sm k c) (hd : Sm k d) : ∀ t ∈ quadT a b c d,SmT k t:=fun t ht=>by
  simp only [quadT,List.mem_cons,List.not_mem_nil,or_false] at ht
  rcases ht with rfl | rfl
  · exact ⟨ha,hb,hc⟩
  · exact ⟨ha,hc,hd⟩
theorem hillP_sm {zs : List Int} {x y : Nat} (hx : x ≤ 6) (hy : y ≤ 6) : Sm 200 (hillP 10 zs x y):=by
  have:=hgt_bd zs x y
  simp only [Sm,hillP]
  omega
theorem hillQ_sm {zs : List Int} {x y : Nat} (hx : x < 6) (hy : y < 6) : ∀ t ∈ hillQ 10 zs y x,SmT 200 t :=
  quad_sm (hillP_sm (by omega) (by omega)) (hillP_sm (by omega) (by omega)) (hillP_sm (by omega) (by omega)) (hillP_sm (by omega) (by omega))
theorem hillsPre_sm {zs : List Int} {n x y : Nat} (hn : n ≤ 6) (hx : x ≤ 6) (hy : y ≤ 6) (hxy : x = 0 ∨ y < 6) : ∀ t ∈ hillsPre 10 zs n y x,SmT 200 t:=fun t ht=>by
  rcases List.mem_append.1 ht with h | h
  · obtain ⟨v,hv,h⟩:=List.mem_flatMap.1 h
    obtain ⟨u,hu,h⟩:=List.mem_flatMap.1 h
    exact hillQ_sm (by have:=List.mem_range.1 hu; omega) (by have:=List.mem_range.1 hv; omega) t h
  · obtain ⟨u,hu,h⟩:=List.mem_flatMap.1 h
    have:=List.mem_range.1 hu
    exact hillQ_sm (by omega) (by omega) t h
/-! ### Cubes -/
def cubeC (p : P3) (s : Int) (n : Nat) : P3:=⟨p.x + ((n % 2 : Nat) : Int) * s,p.y + ((n / 2 % 2 : Nat) : Int) * s,p.z + ((n / 4 : Nat) : Int) * s⟩
def cubeT (p : P3) (s : Int) : List T3:=quadT (cubeC p s 0) (cubeC p s 2) (cubeC p s 3) (cubeC p s 1) ++ quadT (cubeC p s 4) (cubeC p s 5) (cubeC p s 7) (cubeC p s 6) ++ quadT (cubeC p s 0) (cubeC p s 1) (cubeC p s 5) (cubeC p s 4)
  ++ quadT (cubeC p s 2) (cubeC p s 6) (cubeC p s 7) (cubeC p s 3) ++ quadT (cubeC p s 0) (cubeC p s 4) (cubeC p s 6) (cubeC p s 2) ++ quadT (cubeC p s 1) (cubeC p s 3) (cubeC p s 7) (cubeC p s 5)
theorem cubeT_length (p : P3) (s : Int) : (cubeT p s).length = 12:=rfl
def vP (n : Nat) : P3:=⟨4 + ((n % 3 : Nat) : Int) * 8,5 + ((n / 3 % 3 : Nat) : Int) * 8,6 + ((n / 9 : Nat) : Int) * 8⟩
def stx (f : Nat) : Int:=if f = 4 then -1 else if f = 5 then 1 else 0
def sty (f : Nat) : Int:=if f = 2 then -1 else if f = 3 then 1 else 0
def stz (f : Nat) : Int:=if f = 0 then -1 else if f = 1 then 1 else 0
def vbit (b : Nat) (n : Nat) : Bool:=decide (b / 2 ^ n % 2 = 1)
def vface (b n f : Nat) : Bool :=
  let u:=((n % 3 : Nat) : Int) + stx f
  let v:=((n / 3 % 3 : Nat) : Int) + sty f
  let w:=((n / 9 : Nat) : Int) + stz f
  !(decide (0 ≤ u) && decide (u < 3) && decide (0 ≤ v) && decide (v < 3) && decide (0 ≤ w) && decide (w < 3)) || !vbit b ((w * 3 + v) * 3 + u).toNat
def vpair (n f : Nat) : List T3:=((cubeT (vP n) 8).drop (2 * f)).take 2
def vfaces (b n f : Nat) : List T3:=(List.range f).flatMap fun f=>if vface b n f then vpair n f else []
def voxPre (b n f : Nat) : List T3:=((List.range n).flatMap fun n=>if vbit b n then vfaces b n 6 else []) ++ vfaces b n f
def voxT (b : Nat) : List T3:=(List.range 27).flatMap fun n=>if vbit b n then vfaces b n 6 else []
theorem voxPre_end {b : Nat} : voxPre b 27 0 = voxT b:=by simp [voxPre,voxT,vfaces]
theorem voxPre_yes {b n : Nat} (h : vbit b n = true) : voxPre b n 6 = voxPre b (n + 1) 0:=by
  simp [voxPre,List.range_succ (n:=n),List.flatMap_append,h,vfaces]
theorem voxPre_no {b n : Nat} (h : vbit b n = false) : voxPre b n 0 = voxPre b (n + 1) 0:=by
  simp [voxPre,List.range_succ (n:=n),List.flatMap_append,h,vfaces]
theorem voxPre_in {b n f : Nat} (h : vface b n f = true) : voxPre b n (f + 1) = voxPre b n f ++ vpair n f:=by
  simp [voxPre,vfaces,List.range_succ (n:=f),List.flatMap_append,h]
theorem voxPre_out {b n f : Nat} (h : vface b n f = false) : voxPre b n (f + 1) = voxPre b n f:=by
  simp [voxPre,vfaces,List.range_succ (n:=f),List.flatMap_append,h]
/-! ### What the walks ask for -/
theorem tmodN {k c : Nat} : (k : Int).tmod (c : Int) = ((k % c : Nat) : Int):=rfl
theorem shrI {b : Nat} {n : Int} (h0 : 0 ≤ n) (h : n ≤ 63) : (b : Int).fdiv (2 ^ (min n.toNat IntKind.i64.bits)) = ((b / 2 ^ n.toNat : Nat) : Int):=by
  have e : min n.toNat IntKind.i64.bits = n.toNat:=Nat.min_eq_left (by show n.toNat ≤ 64; omega)
  rw [e,Int.fdiv_eq_ediv_of_nonneg _ (by exact Int.le_of_lt (Int.pow_pos (by decide)))]
  simp
theorem and1 {x : Nat} (h : x < 9223372036854775808) : IntKind.i64.wrap ((BitVec.ofInt IntKind.i64.bits (x : Int) &&& BitVec.ofInt IntKind.i64.bits 1).toNat : Int) = ((x % 2 : Nat) : Int):=by
  have e : (BitVec.ofInt IntKind.i64.bits (x : Int) &&& BitVec.ofInt IntKind.i64.bits 1).toNat = x % 2:=by
    show (BitVec.ofInt 64 (x : Int) &&& BitVec.ofInt 64 1).toNat = x % 2
    rw [BitVec.toNat_and,BitVec.toNat_ofInt,BitVec.toNat_ofInt]
    have h1 : ((x : Int) % ((2 ^ 64 : Nat) : Int)).toNat = x:=by
      have : ((2 ^ 64 : Nat) : Int) = 18446744073709551616:=rfl
      rw [this]; omega
    have h2 : ((1 : Int) % ((2 ^ 64 : Nat) : Int)).toNat = 1:=rfl
    rw [h1,h2,Nat.and_one_is_mod]
  rw [e]
  exact wrap_i64 (by omega) (by omega)
theorem div_le {b n : Nat} (h : b < 134217728) : b / 2 ^ n < 9223372036854775808:=Nat.lt_of_le_of_lt (Nat.div_le_self _ _) (by omega)
theorem hgt_some {zs : List Int} {x y N : Nat} {z : Int} (hl : zs.length = N) (hz : zs[(y * 7 + x) % N]? = some z) : hgt zs x y = z % 64:=by
  unfold hgt
  rw [hl,hz]
  rfl
theorem hgt_nil {zs : List Int} {x y N : Nat} (hl : zs.length = N) (h : ¬ (0 : Int) < (N : Int)) : hgt zs x y = 0:=by
  have : zs = []:=List.eq_nil_of_length_eq_zero (by omega)
  subst this
  rfl
theorem hp_cells {s : Int} {zs : List Int} {n y x : Nat} : (hillsPre s zs n y x).flatMap triCells ++ (quadT (hillP s zs x y) (hillP s zs (x + 1) y) (hillP s zs (x + 1) (y + 1)) (hillP s zs x (y + 1))).flatMap triCells = (hillsPre s zs n y (x + 1)).flatMap triCells:=by
  rw [hillsPre_step,List.flatMap_append]
  rfl
theorem hp_len {s : Int} {zs : List Int} {n y x : Nat} {a b c d : P3} : (hillsPre s zs n y x).length + (quadT a b c d).length = (hillsPre s zs n y (x + 1)).length:=by
  rw [hillsPre_length,hillsPre_length]
  show _ + 2 = _
  omega
theorem hillsPre_le {s : Int} {zs : List Int} {n y x : Nat} (hn : n ≤ 6) (hy : y ≤ 6) (hx : x ≤ 6) : (hillsPre s zs n y x).length ≤ 84:=by
  rw [hillsPre_length]
  have : y * (n * 2) ≤ 6 * (6 * 2):=Nat.mul_le_mul hy (by omega)
  omega
theorem hillsT_sm {zs : List Int} {n : Nat} (hn : n ≤ 6) : ∀ t ∈ hillsT 10 zs n,SmT 200 t:=by
  rw [← hillsPre_end]
  exact hillsPre_sm hn (by omega) hn (.inl rfl)
def TS (E : TypeId) (ts : List T3) (w : World) (v : Value) (w' : World) : Prop:=∃ A cap n,n = ts.length ∧ v = .slice A n cap ∧ Ow w w' [] E 9 A n cap (ts.flatMap triCells)
theorem Ow.tri {w0 w : World} {S : List (Option Nat)} {E : TypeId} {n cap g i : Nat} {ts : List T3} {t : T3} (h : Ow w0 w S E 9 (Option.some ⟨g,0,none⟩) n cap (ts.flatMap triCells)) (ht : ts[i]? = Option.some t) : Row w ((⟨g,0,none⟩ : Addr).add (i * 9)) [.int .i64 t.a.x,.int .i64 t.a.y,.int .i64 t.a.z,.int .i64 t.b.x,.int .i64 t.b.y,.int .i64 t.b.z,.int .i64 t.c.x,.int .i64 t.c.y,.int .i64 t.c.z]:=by
  show Row w _ (triCells t)
  intro j u hj
  have hj' : j < (triCells t).length:=(List.getElem?_eq_some_iff.1 hj).1
  rw [addr_add_add]
  refine h.rows _ _ ?_
  rw [← List.getElem?_drop,drop_flat ts i t ht,List.getElem?_append_left hj']
  exact hj
theorem vP_sm {n : Nat} (h : n < 27) : Sm 100 (vP n):=by
  simp only [Sm,vP]
  omega
theorem cubeC_sm {p : P3} {n : Nat} (h : Sm 100 p) (hn : n < 8) : Sm 200 (cubeC p 8 n):=by
  simp only [Sm,cubeC] at h ⊢
  omega
theorem cubeT_sm {p : P3} (h : Sm 100 p) : ∀ t ∈ cubeT p 8,SmT 200 t:=fun t ht=>by
  have c : ∀ n,n < 8 → Sm 200 (cubeC p 8 n):=fun n hn=>cubeC_sm h hn
  simp only [cubeT,List.mem_append] at ht
  rcases ht with ((((ht | ht) | ht) | ht) | ht) | ht <;> exact quad_sm (c _ (by decide)) (c _ (by decide)) (c _ (by decide)) (c _ (by decide)) t ht
theorem vpair_sm {n f : Nat} (h : n < 27) : ∀ t ∈ vpair n f,SmT 200 t:=fun t ht=>cubeT_sm (vP_sm h) t (List.mem_of_mem_drop (List.mem_of_mem_take ht))
theorem vfaces_sm {b n f : Nat} (h : n < 27) : ∀ t ∈ vfaces b n f,SmT 200 t:=fun t ht=>by
  obtain ⟨k,_,h2⟩:=List.mem_flatMap.1 ht
  split at h2
  · exact vpair_sm h t h2
  · cases h2
theorem voxT_sm {b : Nat} : ∀ t ∈ voxT b,SmT 200 t:=fun t ht=>by
  obtain ⟨k,hk,h2⟩:=List.mem_flatMap.1 ht
  split at h2
  · exact vfaces_sm (List.mem_range.1 hk) t h2
  · cases h2
theorem flatMap_le {α β : Type} {f : α → List β} {k : Nat} : ∀ (l : List α),(∀ x ∈ l,(f x).length ≤ k) → (l.flatMap f).length ≤ l.length * k
  | [],_=>by simp
  | x :: l,h=>by
    have h1:=h x (by simp)
    have h2:=flatMap_le l (fun y hy=>h y (by simp [hy]))
    rw [List.flatMap_cons,List.length_append,List.length_cons,Nat.add_mul,Nat.one_mul]
    omega
theorem vpair_le {n f : Nat} : (vpair n f).length ≤ 2:=by unfold vpair; rw [List.length_take]; omega
theorem vfaces_le {b n f : Nat} : (vfaces b n f).length ≤ f * 2:=by
  have:=flatMap_le (f:=fun f=>if vface b n f then vpair n f else []) (k:=2) (List.range f) (fun x _=>by
    show (if vface b n x = true then vpair n x else []).length ≤ 2
    split
    · exact vpair_le
    · exact Nat.zero_le _)
  rwa [List.length_range] at this
theorem voxPre_le {b n f : Nat} (hn : n ≤ 27) (hf : f ≤ 6) : (voxPre b n f).length ≤ 400:=by
  have h1:=flatMap_le (f:=fun n=>if vbit b n then vfaces b n 6 else []) (k:=12) (List.range n) (fun x _=>by
    show (if vbit b x = true then vfaces b x 6 else []).length ≤ 12
    split
    · exact vfaces_le
    · exact Nat.zero_le _)
  have h2:=vfaces_le (b:=b) (n:=n) (f:=f)
  rw [List.length_range] at h1
  unfold voxPre
  rw [List.length_append]
  omega
def stepCells : List Value:=[.int .i64 0,.int .i64 0,.int .i64 (-1),.int .i64 0,.int .i64 0,.int .i64 1,.int .i64 0,.int .i64 (-1),.int .i64 0,.int .i64 0,.int .i64 1,.int .i64 0,.int .i64 (-1),.int .i64 0,.int .i64 0,.int .i64 1,.int .i64 0,.int .i64 0]
theorem st_cases {f : Nat} (h : f < 6) : f = 0 ∨ f = 1 ∨ f = 2 ∨ f = 3 ∨ f = 4 ∨ f = 5:=by omega
theorem stc_x {f : Nat} (h : f < 6) : stepCells[f * 3]? = some (.int .i64 (stx f)):=by rcases st_cases h with rfl | rfl | rfl | rfl | rfl | rfl <;> rfl
theorem stc_y {f : Nat} (h : f < 6) : stepCells[f * 3 + 1]? = some (.int .i64 (sty f)):=by rcases st_cases h with rfl | rfl | rfl | rfl | rfl | rfl <;> rfl
theorem stc_z {f : Nat} (h : f < 6) : stepCells[f * 3 + 2]? = some (.int .i64 (stz f)):=by rcases st_cases h with rfl | rfl | rfl | rfl | rfl | rfl <;> rfl
theorem st_bd (f : Nat) : (-1 ≤ stx f ∧ stx f ≤ 1) ∧ (-1 ≤ sty f ∧ sty f ≤ 1) ∧ (-1 ≤ stz f ∧ stz f ≤ 1):=by
  unfold stx sty stz
  repeat' split
  all_goals omega
theorem vin {u v w : Int} (hb : (!(!(decide (0 ≤ u) && decide (u < 3) && decide (0 ≤ v) && decide (v < 3) && decide (0 ≤ w) && decide (w < 3)))) = true) : (0 ≤ u ∧ u < 3) ∧ (0 ≤ v ∧ v < 3) ∧ 0 ≤ w ∧ w < 3:=by
  simp only [Bool.not_not,Bool.and_eq_true,decide_eq_true_eq] at hb
  omega
theorem vface_eq {b n f : Nat} : (!(decide ((0 : Int) ≤ ((n % 3 : Nat) : Int) + stx f) && decide (((n % 3 : Nat) : Int) + stx f < 3) && decide ((0 : Int) ≤ ((n / 3 % 3 : Nat) : Int) + sty f) && decide (((n / 3 % 3 : Nat) : Int) + sty f < 3) && decide ((0 : Int) ≤ ((n / 9 : Nat) : Int) + stz f) && decide (((n / 9 : Nat) : Int) + stz f < 3)) ||
    decide (((b / 2 ^ (((((n / 9 : Nat) : Int) + stz f) * 3 + (((n / 3 % 3 : Nat) : Int) + sty f)) * 3 + (((n % 3 : Nat) : Int) + stx f)).toNat % 2 : Nat) : Int) = 0)) = vface b n f:=by
  unfold vface vbit
  simp only
  congr 1
  rw [← decide_not]
  congr 1
  apply propext
  constructor <;> intro h <;> omega
theorem vox_at {n f : Nat} (h : f < 6) : ∃ t u,(cubeT (vP n) 8)[2 * f]? = some t ∧ (cubeT (vP n) 8)[2 * f + 1]? = some u ∧ vpair n f = [t,u]:=by
  have h1 : 2 * f < (cubeT (vP n) 8).length:=by rw [cubeT_length]; omega
  have h2 : 2 * f + 1 < (cubeT (vP n) 8).length:=by rw [cubeT_length]; omega
  refine ⟨_,_,List.getElem?_eq_getElem h1,List.getElem?_eq_getElem h2,?_⟩
  unfold vpair
  rw [List.drop_eq_getElem_cons h1,List.drop_eq_getElem_cons h2]
  rfl
theorem vox_cells {b n f : Nat} {t u : T3} (hp : vpair n f = [t,u]) (h : vface b n f = true) : (voxPre b n f).flatMap triCells ++ [.int .i64 t.a.x,.int .i64 t.a.y,.int .i64 t.a.z,.int .i64 t.b.x,.int .i64 t.b.y,.int .i64 t.b.z,.int .i64 t.c.x,.int .i64 t.c.y,.int .i64 t.c.z,.int .i64 u.a.x,.int .i64 u.a.y,.int .i64 u.a.z,.int .i64 u.b.x,.int .i64 u.b.y,.int .i64 u.b.z,.int .i64 u.c.x,.int .i64 u.c.y,.int .i64 u.c.z] = (voxPre b n (f + 1)).flatMap triCells:=by
  rw [voxPre_in h,List.flatMap_append,hp]
  rfl
theorem vox_len {b n f : Nat} (hf : f < 6) (h : vface b n f = true) : (voxPre b n f).length + 2 = (voxPre b n (f + 1)).length:=by
  obtain ⟨t,u,_,_,hp⟩:=vox_at (n:=n) hf
  rw [voxPre_in h,List.length_append,hp]
  rfl
def baseT (kind bits : Int) (zs : List Int) : List T3:=if kind % 3 = 0 then voxT (bits % 134217728).toNat else hillsT 10 zs (1 + kind.tdiv 3 % 6).toNat
theorem tdiv3_bd {z : Int} (h : I64 z) : IntKind.i64.wrap (z.tdiv 3) = z.tdiv 3 ∧ I64 (z.tdiv 3):=by
  obtain ⟨h1,h2⟩:=h
  have hb : -9223372036854775808 ≤ z.tdiv 3 ∧ z.tdiv 3 < 9223372036854775808:=by
    rcases Int.le_total 0 z with hz | hz
    · rw [Int.tdiv_eq_ediv_of_nonneg hz]; omega
    · have e : z.tdiv 3 = -((-z) / 3):=by
        rw [← Int.tdiv_eq_ediv_of_nonneg (show 0 ≤ -z by omega),Int.neg_tdiv,Int.neg_neg]
      rw [e]; omega
  exact ⟨wrap_i64 hb.1 hb.2,hb⟩
theorem baseT_sm {kind bits : Int} {zs : List Int} : ∀ t ∈ baseT kind bits zs,SmT 200 t:=by
  unfold baseT
  split
  · exact voxT_sm
  · exact hillsT_sm (by omega)
end Go.Lith
namespace Go.Lith
open Go.RowKit
def minP (p q : P3) : P3:=⟨if q.x < p.x then q.x else p.x,if q.y < p.y then q.y else p.y,if q.z < p.z then q.z else p.z⟩
def maxP (p q : P3) : P3:=⟨if p.x < q.x then q.x else p.x,if p.y < q.y then q.y else p.y,if p.z < q.z then q.z else p.z⟩
def loP : List P3 → P3
  | []=>⟨0,0,0⟩
  | p :: ps=>ps.foldl minP p
def hiP : List P3 → P3
  | []=>⟨0,0,0⟩
  | p :: ps=>ps.foldl maxP p
theorem minP_self (p : P3) : minP p p = p:=by simp [minP]
theorem maxP_self (p : P3) : maxP p p = p:=by simp [maxP]
theorem take_one' {α : Type} {ps : List α} {k : Nat} {p : α} (h : ps[k]? = some p) : ps.take (k + 1) = ps.take k ++ [p]:=by
  rw [List.take_add_one,h]
  rfl
theorem loP_step {ps : List P3} {k : Nat} {p : P3} (hp : ps[k]? = some p) (hk : 0 < k) : loP (ps.take (k + 1)) = minP (loP (ps.take k)) p:=by
  obtain ⟨j,rfl⟩ : ∃ j,k = j + 1:=⟨k - 1,by omega⟩
  cases ps with
  | nil=>cases hp
  | cons a ps =>
    rw [List.getElem?_cons_succ] at hp
    rw [List.take_succ_cons,List.take_succ_cons,take_one' hp]
    simp [loP,List.foldl_append]
theorem hiP_step {ps : List P3} {k : Nat} {p : P3} (hp : ps[k]? = some p) (hk : 0 < k) : hiP (ps.take (k + 1)) = maxP (hiP (ps.take k)) p:=by
  obtain ⟨j,rfl⟩ : ∃ j,k = j + 1:=⟨k - 1,by omega⟩
  cases ps with
  | nil=>cases hp
  | cons a ps =>
    rw [List.getElem?_cons_succ] at hp
    rw [List.take_succ_cons,List.take_succ_cons,take_one' hp]
    simp [hiP,List.foldl_append]
theorem loP_one {ps : List P3} {p : P3} (hp : ps[0]? = some p) : loP (ps.take 1) = minP p p:=by
  cases ps with
  | nil=>cases hp
  | cons a ps=>cases hp; rw [minP_self]; rfl
theorem hiP_one {ps : List P3} {p : P3} (hp : ps[0]? = some p) : hiP (ps.take 1) = maxP p p:=by
  cases ps with
  | nil=>cases hp
  | cons a ps=>cases hp; rw [maxP_self]; rfl
theorem loP_one1 {ps : List P3} {k : Nat} {p : P3} (hk : k = 0) (hp : ps[k]? = some p) : loP (ps.take (k + 1)) = minP p p:=by subst hk; exact loP_one hp
theorem hiP_one1 {ps : List P3} {k : Nat} {p : P3} (hk : k = 0) (hp : ps[k]? = some p) : hiP (ps.take (k + 1)) = maxP p p:=by subst hk; exact hiP_one hp
theorem fold_lo : ∀ (ps : List P3) (p : P3),(∀ a ∈ p :: ps,(ps.foldl minP p).x ≤ a.x ∧ (ps.foldl minP p).y ≤ a.y ∧ (ps.foldl minP p).z ≤ a.z) ∧
    (∃ a ∈ p :: ps,(ps.foldl minP p).x = a.x) ∧ (∃ a ∈ p :: ps,(ps.foldl minP p).y = a.y) ∧ ∃ a ∈ p :: ps,(ps.foldl minP p).z = a.z
  | [],p=>⟨fun a h=>by rw [List.mem_singleton.1 h]; exact ⟨Int.le_refl _,Int.le_refl _,Int.le_refl _⟩,⟨p,by simp,rfl⟩,⟨p,by simp,rfl⟩,⟨p,by simp,rfl⟩⟩
  | q :: ps,p=>by
    obtain ⟨h,⟨ax,hx,ex⟩,⟨ay,hy,ey⟩,⟨az,hz,ez⟩⟩:=fold_lo ps (minP p q)
    rw [List.foldl_cons]
    have hm:=h _ (List.mem_cons_self ..)
    have m1 : (minP p q).x ≤ p.x ∧ (minP p q).x ≤ q.x ∧ ((minP p q).x = p.x ∨ (minP p q).x = q.x):=by simp only [minP]; split <;> omega
    have m2 : (minP p q).y ≤ p.y ∧ (minP p q).y ≤ q.y ∧ ((minP p q).y = p.y ∨ (minP p q).y = q.y):=by simp only [minP]; split <;> omega
    have m3 : (minP p q).z ≤ p.z ∧ (minP p q).z ≤ q.z ∧ ((minP p q).z = p.z ∨ (minP p q).z = q.z):=by simp only [minP]; split <;> omega
    refine ⟨fun a ha=>?_,?_,?_,?_⟩
    · rcases List.mem_cons.1 ha with rfl | ha
      · omega
      · rcases List.mem_cons.1 ha with rfl | ha
        · omega
        · exact h a (List.mem_cons_of_mem _ ha)
    · rcases List.mem_cons.1 hx with rfl | hx
      · rcases m1.2.2 with e | e
        · exact ⟨p,by simp,by omega⟩
        · exact ⟨q,by simp,by omega⟩
      · exact ⟨ax,by simp [hx],ex⟩
    · rcases List.mem_cons.1 hy with rfl | hy
      · rcases m2.2.2 with e | e
        · exact ⟨p,by simp,by omega⟩
        · exact ⟨q,by simp,by omega⟩
      · exact ⟨ay,by simp [hy],ey⟩
    · rcases List.mem_cons.1 hz with rfl | hz
      · rcases m3.2.2 with e | e
        · exact ⟨p,by simp,by omega⟩
        · exact ⟨q,by simp,by omega⟩
      · exact ⟨az,by simp [hz],ez⟩
theorem fold_hi : ∀ (ps : List P3) (p : P3),(∀ a ∈ p :: ps,a.x ≤ (ps.foldl maxP p).x ∧ a.y ≤ (ps.foldl maxP p).y ∧ a.z ≤ (ps.foldl maxP p).z) ∧
    (∃ a ∈ p :: ps,(ps.foldl maxP p).x = a.x) ∧ (∃ a ∈ p :: ps,(ps.foldl maxP p).y = a.y) ∧ ∃ a ∈ p :: ps,(ps.foldl maxP p).z = a.z
  | [],p=>⟨fun a h=>by rw [List.mem_singleton.1 h]; exact ⟨Int.le_refl _,Int.le_refl _,Int.le_refl _⟩,⟨p,by simp,rfl⟩,⟨p,by simp,rfl⟩,⟨p,by simp,rfl⟩⟩
  | q :: ps,p=>by
    obtain ⟨h,⟨ax,hx,ex⟩,⟨ay,hy,ey⟩,⟨az,hz,ez⟩⟩:=fold_hi ps (maxP p q)
    rw [List.foldl_cons]
    have hm:=h _ (List.mem_cons_self ..)
    have m1 : p.x ≤ (maxP p q).x ∧ q.x ≤ (maxP p q).x ∧ ((maxP p q).x = p.x ∨ (maxP p q).x = q.x):=by simp only [maxP]; split <;> omega
    have m2 : p.y ≤ (maxP p q).y ∧ q.y ≤ (maxP p q).y ∧ ((maxP p q).y = p.y ∨ (maxP p q).y = q.y):=by simp only [maxP]; split <;> omega
    have m3 : p.z ≤ (maxP p q).z ∧ q.z ≤ (maxP p q).z ∧ ((maxP p q).z = p.z ∨ (maxP p q).z = q.z):=by simp only [maxP]; split <;> omega
    refine ⟨fun a ha=>?_,?_,?_,?_⟩
    · rcases List.mem_cons.1 ha with rfl | ha
      · omega
      · rcases List.mem_cons.1 ha with rfl | ha
        · omega
        · exact h a (List.mem_cons_of_mem _ ha)
    · rcases List.mem_cons.1 hx with rfl | hx
      · rcases m1.2.2 with e | e
        · exact ⟨p,by simp,by omega⟩
        · exact ⟨q,by simp,by omega⟩
      · exact ⟨ax,by simp [hx],ex⟩
    · rcases List.mem_cons.1 hy with rfl | hy
      · rcases m2.2.2 with e | e
        · exact ⟨p,by simp,by omega⟩
        · exact ⟨q,by simp,by omega⟩
      · exact ⟨ay,by simp [hy],ey⟩
    · rcases List.mem_cons.1 hz with rfl | hz
      · rcases m3.2.2 with e | e
        · exact ⟨p,by simp,by omega⟩
        · exact ⟨q,by simp,by omega⟩
      · exact ⟨az,by simp [hz],ez⟩
theorem loP_ext {ps qs : List P3} (h : ∀ a,a ∈ ps ↔ a ∈ qs) : loP ps = loP qs:=by
  cases ps with
  | nil=>cases qs with
    | nil=>rfl
    | cons q qs=>have:=(h q).2 (List.mem_cons_self ..); cases this
  | cons p ps=>cases qs with
    | nil=>have:=(h p).1 (List.mem_cons_self ..); cases this
    | cons q qs =>
      obtain ⟨h1,⟨a,ha,ea⟩,⟨b,hb,eb⟩,⟨c,hc,ec⟩⟩:=fold_lo ps p
      obtain ⟨k1,⟨a',ha',ea'⟩,⟨b',hb',eb'⟩,⟨c',hc',ec'⟩⟩:=fold_lo qs q
      have x1:=h1 a' ((h a').2 ha'); have y1:=h1 b' ((h b').2 hb'); have z1:=h1 c' ((h c').2 hc')
      have x2:=k1 a ((h a).1 ha); have y2:=k1 b ((h b).1 hb); have z2:=k1 c ((h c).1 hc)
      apply P3.eq <;> simp only [loP] <;> omega
theorem hiP_ext {ps qs : List P3} (h : ∀ a,a ∈ ps ↔ a ∈ qs) : hiP ps = hiP qs:=by
  cases ps with
  | nil=>cases qs with
    | nil=>rfl
    | cons q qs=>have:=(h q).2 (List.mem_cons_self ..); cases this
  | cons p ps=>cases qs with
    | nil=>have:=(h p).1 (List.mem_cons_self ..); cases this
    | cons q qs =>
      obtain ⟨h1,⟨a,ha,ea⟩,⟨b,hb,eb⟩,⟨c,hc,ec⟩⟩:=fold_hi ps p
      obtain ⟨k1,⟨a',ha',ea'⟩,⟨b',hb',eb'⟩,⟨c',hc',ec'⟩⟩:=fold_hi qs q
      have x1:=h1 a' ((h a').2 ha'); have y1:=h1 b' ((h b').2 hb'); have z1:=h1 c' ((h c').2 hc')
      have x2:=k1 a ((h a).1 ha); have y2:=k1 b ((h b).1 hb); have z2:=k1 c ((h c).1 hc)
      apply P3.eq <;> simp only [hiP] <;> omega
theorem corsT_step {ts : List T3} {k : Nat} {t : T3} (h : ts[k]? = some t) : corsT (ts.take (k + 1)) = corsT (ts.take k) ++ [t.a,t.b,t.c]:=by
  unfold corsT
  rw [take_one' h,List.flatMap_append]
  simp
theorem addsP_step {ts : List T3} {k : Nat} {t : T3} (h : ts[k]? = some t) : addsP [] (corsT (ts.take (k + 1))) = mput (mput (mput (addsP [] (corsT (ts.take k))) t.a true) t.b true) t.c true:=by
  rw [corsT_step h,addsP_app]
  rfl
theorem corsT_length (ts : List T3) : (corsT ts).length = ts.length * 3:=by
  unfold corsT
  induction ts with
  | nil=>rfl
  | cons t ts ih=>rw [List.flatMap_cons,List.length_append,ih]; simp only [List.length_cons,List.length_nil]; omega
theorem drop_flatP : ∀ (ps : List P3) (i : Nat) (p : P3),ps[i]? = some p → (ps.flatMap ptCells).drop (i * 3) = ptCells p ++ (ps.drop (i + 1)).flatMap ptCells
  | [],_,_,h=>by cases h
  | q :: ps,0,p,h=>by cases h; simp
  | q :: ps,i + 1,p,h=>by
    rw [List.flatMap_cons,List.drop_append,show (ptCells q).length = 3 from rfl,List.drop_eq_nil_of_le (show (ptCells q).length ≤ (i + 1) * 3 from by show 3 ≤ _; omega),List.nil_append,show (i + 1) * 3 - 3 = i * 3 by omega,drop_flatP ps i p h]
    rfl
theorem Ow.pt {w0 w : World} {S : List (Option Nat)} {E : TypeId} {n cap g i : Nat} {ps : List P3} {p : P3} (h : Ow w0 w S E 3 (Option.some ⟨g,0,none⟩) n cap (ps.flatMap ptCells)) (hp : ps[i]? = Option.some p) : Row w ((⟨g,0,none⟩ : Addr).add (i * 3)) [.int .i64 p.x,.int .i64 p.y,.int .i64 p.z]:=by
  show Row w _ (ptCells p)
  intro j u hj
  have hj' : j < (ptCells p).length:=(List.getElem?_eq_some_iff.1 hj).1
  rw [addr_add_add]
  refine h.rows _ _ ?_
  rw [← List.getElem?_drop,drop_flatP ps i p hp,List.getElem?_append_left hj']
  exact hj
theorem Ow.max {w0 w : World} {S : List (Option Nat)} {E : TypeId} {c n cap : Nat} {A : Option Addr} {xs : List Value} (h : Ow w0 w S E c A n cap xs) : cap ≤ 9223372036854775807:=by
  rcases h.cases with ⟨_,_,rfl,_⟩ | ⟨_,_,_,_,_,_,h,_⟩
  · exact Nat.zero_le _
  · exact h
theorem ptsLen {ps : List P3} : (ps.flatMap ptCells).length = ps.length * 3:=by
  induction ps with
  | nil=>rfl
  | cons p ps ih=>rw [List.flatMap_cons,List.length_append,ih,show (ptCells p).length = 3 from rfl,List.length_cons]; omega
end Go.Lith
namespace Go.Lith
open Go.RowKit
def axFr (r : Ray) (n f d : Int) : Rat:=if d < 0 then Rat.divInt f (r.w * d) else Rat.divInt n (r.w * d)
def axTo (r : Ray) (n f d : Int) : Rat:=if d < 0 then Rat.divInt n (r.w * d) else Rat.divInt f (r.w * d)
def axOff (n f d : Int) : Prop:=f < n ∨ d = 0 ∧ (0 < n ∨ f < 0)
instance (n f d : Int) : Decidable (axOff n f d):=inferInstanceAs (Decidable (_ ∨ _ ∧ (_ ∨ _)))
def maxQ (p q : Rat) : Rat:=if p < q then q else p
def minO (o : Option Rat) (q : Rat) : Rat:=match o with | none=>q | some p=>if q < p then q else p
def axR (r : Ray) (n f d : Int) (st : Rat × Option Rat) : Option (Rat × Option Rat) :=
  if axOff n f d then none else if d = 0 then some st
  else some (maxQ st.1 (axFr r n f d),some (minO st.2 (axTo r n f d)))
def P3.at (p : P3) : Nat → Int
  | 0=>p.x
  | 1=>p.y
  | _=>p.z
def axN (r : Ray) (lo hi : P3) : Nat → Option (Rat × Option Rat)
  | 0=>some (0,none)
  | k + 1=>(axN r lo hi k).bind (axR r ((r.to lo).at k) ((r.to hi).at k) (r.d.at k))
def boxR (r : Ray) (lo hi : P3) : Option (Rat × Rat) :=
  if r.ok then (axN r lo hi 3).bind fun s=>match s.2 with | none=>none | some q=>if q < s.1 then none else some (s.1,q) else none
inductive Kd where
  | no
  | ex
  | unk
  | near (lo hi : P3)
def fitsR (lo hi : P3) (b : Int) : Prop :=
  -9223372036854775808 + b ≤ min (min lo.x lo.y) lo.z ∧ max (max hi.x hi.y) hi.z ≤ 9223372036854775807 - b
instance (lo hi : P3) (b : Int) : Decidable (fitsR lo hi b):=inferInstanceAs (Decidable (_ ∧ _))
def P3.all (b : Int) : P3:=⟨b,b,b⟩
def P3.pls (p q : P3) : P3:=⟨p.x + q.x,p.y + q.y,p.z + q.z⟩
def cornersL (ts : List T3) : List P3:=ts.flatMap fun t=>[t.a,t.b,t.c]
def kdR (ts : List T3) (b : Int) : Kd :=
  if b < 0 then .unk else if b = 0 then .ex else if ts = [] then .no
  else if fitsR (loP (cornersL ts)) (hiP (cornersL ts)) b then .near ((loP (cornersL ts)).sub (P3.all b)) ((hiP (cornersL ts)).pls (P3.all b)) else .unk
def bndAt (bs : List Int) (i : Nat) : Int:=(bs[i]?).getD (-1)
def beginR (r : Ray) : Kd → Option Rat
  | .unk=>some 0
  | .near lo hi=>(boxR r lo hi).map (·.1)
  | _=>none
def Kd.isEx : Kd → Bool
  | .ex=>true
  | _=>false
def sureL (bs : List Int) (ls : List (List T3)) : List T3:=ls.zipIdx.flatMap fun x=>if (kdR x.1 (bndAt bs x.2)).isEx then x.1 else []
def Kd.other : Kd → Bool
  | .ex=>false
  | .no=>false
  | _=>true
def restL (bs : List Int) (ls : List (List T3)) : List (Nat × Kd):=ls.zipIdx.flatMap fun x=>if (kdR x.1 (bndAt bs x.2)).other then [(x.2,kdR x.1 (bndAt bs x.2))] else []
def openK (r : Ray) (h : Option (Rat × Nat)) (x : Nat × Kd) : List (Nat × Rat) :=
  match beginR r x.2 with
  | none=>[]
  | some q=>match h with
    | none=>[(x.1,q)]
    | some (t,_)=>if q < t then [(x.1,q)] else []
def openL (r : Ray) (h : Option (Rat × Nat)) (xs : List (Nat × Kd)) : List (Nat × Rat):=xs.flatMap (openK r h)
def loQ : List (Nat × Rat) → Rat
  | []=>0
  | x :: xs=>xs.foldl (fun a y=>if y.2 < a then y.2 else a) x.2
structure Ans where
  kind : Int
  lo : Rat
  hi : Rat
  sure : Bool
  opn : List Int
def Ans.miss : Ans:=⟨2,0,0,false,[]⟩
def ansR (h : Option (Rat × Nat)) (o : List (Nat × Rat)) : Ans :=
  if o ≠ [] then ⟨3,loQ o,hitT h,h.isSome,o.map fun x=>(x.1 : Int)⟩
  else match h with
    | none=>.miss
    | some (t,_)=>⟨1,t,t,false,[]⟩
def askR (r : Ray) (ls : List (List T3)) (bs : List Int) : Ans :=
  if r.ok then ansR (firstN r (sureL bs ls)) (openL r (firstN r (sureL bs ls)) (restL bs ls)) else .miss
theorem zip_step {α β : Type} {ls : List α} {k : Nat} {l : α} (f : α × Nat → List β) (h : ls[k]? = some l) : (ls.take (k + 1)).zipIdx.flatMap f = (ls.take k).zipIdx.flatMap f ++ f (l,k):=by
  have hk : k < ls.length:=(List.getElem?_eq_some_iff.1 h).1
  rw [List.take_add_one,h,List.zipIdx_append,List.flatMap_append,List.length_take,Nat.min_eq_left (Nat.le_of_lt hk)]
  simp
theorem sure_step {bs : List Int} {ls : List (List T3)} {k : Nat} {l : List T3} (h : ls[k]? = some l) : sureL bs (ls.take (k + 1)) = sureL bs (ls.take k) ++ if (kdR l (bndAt bs k)).isEx then l else []:=zip_step _ h
theorem rest_step {bs : List Int} {ls : List (List T3)} {k : Nat} {l : List T3} (h : ls[k]? = some l) : restL bs (ls.take (k + 1)) = restL bs (ls.take k) ++ if (kdR l (bndAt bs k)).other then [(k,kdR l (bndAt bs k))] else []:=zip_step _ h
theorem open_step {r : Ray} {h : Option (Rat × Nat)} {xs : List (Nat × Kd)} {k : Nat} {x : Nat × Kd} (hx : xs[k]? = some x) : openL r h (xs.take (k + 1)) = openL r h (xs.take k) ++ openK r h x:=by
  unfold openL
  rw [List.take_add_one,hx,List.flatMap_append]
  simp
theorem loQ_step {xs : List (Nat × Rat)} {x : Nat × Rat} (h : xs ≠ []) : loQ (xs ++ [x]) = if x.2 < loQ xs then x.2 else loQ xs:=by
  cases xs with
  | nil=>exact absurd rfl h
  | cons y ys =>
    simp only [loQ,List.cons_append,List.foldl_append,List.foldl_cons,List.foldl_nil]
    rfl
end Go.Lith
namespace Go.Lith
open Go.RowKit
theorem divLe {a b c d : Int} (hb : 0 < b) (hd : 0 < d) : Rat.divInt a b ≤ Rat.divInt c d ↔ a * d ≤ c * b:=by
  rw [Rat.le_iff_sub_nonneg,Rat.divInt_sub_divInt _ _ (by omega) (by omega),Rat.divInt_nonneg_iff_of_pos_right (Int.mul_pos hd hb)]
  omega
def FirstIs (r : Ray) (ts : List T3) (b : Option (Rat × Nat)) : Prop :=
  (b = none → ∀ t ∈ ts,¬ hitsR r t) ∧ ∀ q k,b = some (q,k) → (∃ t,ts[k]? = some t ∧ hitsR r t ∧ crossR r t = q) ∧ ∀ t ∈ ts,hitsR r t → q ≤ crossR r t
theorem first_is (r : Ray) (ts : List T3) : FirstIs r ts (firstN r ts):=by
  have H : ∀ k,k ≤ ts.length → FirstIs r (ts.take k) (firstN r (ts.take k)):=by
    intro k
    induction k with
    | zero=>exact fun _=>⟨fun _ t h=>by simp at h,fun q k h=>by simp [firstN] at h⟩
    | succ k ih =>
      intro hk
      have ih:=ih (by omega)
      obtain ⟨t,ht⟩ : ∃ t,ts[k]? = some t:=⟨_,List.getElem?_eq_getElem (by omega)⟩
      have ht' : ts.take (k + 1) = ts.take k ++ [t]:=take_one' ht
      have hat : (ts.take (k + 1))[k]? = some t:=by rw [List.getElem?_take_of_lt (by omega)]; exact ht
      have up : ∀ {j u},(ts.take k)[j]? = some u → (ts.take (k + 1))[j]? = some u:=fun h=>by
        rw [ht',List.getElem?_append_left (List.getElem?_eq_some_iff.1 h).1]; exact h
      rw [first_step ht]
      unfold stepR
      by_cases hh : hitsR r t
      · rw [if_pos hh]
        cases hb : firstN r (ts.take k) with
        | none =>
          refine ⟨fun h=>(by cases h),fun q j h=>?_⟩
          cases h
          refine ⟨⟨t,hat,hh,rfl⟩,fun u hu hu'=>?_⟩
          rw [ht'] at hu
          rcases List.mem_append.1 hu with hu | hu
          · exact absurd hu' (ih.1 hb u hu)
          · rw [List.mem_singleton.1 hu]; exact Rat.le_refl
        | some x =>
          obtain ⟨q,j⟩:=x
          obtain ⟨⟨v,hv,hv1,hv2⟩,hl⟩:=ih.2 q j hb
          dsimp only
          by_cases hq : crossR r t < q
          · rw [if_pos hq]
            refine ⟨fun h=>(by cases h),fun q' j' h=>?_⟩
            cases h
            refine ⟨⟨t,hat,hh,rfl⟩,fun u hu hu'=>?_⟩
            rw [ht'] at hu
            rcases List.mem_append.1 hu with hu | hu
            · exact Rat.le_trans (Rat.le_of_lt hq) (hl u hu hu')
            · rw [List.mem_singleton.1 hu]; exact Rat.le_refl
          · rw [if_neg hq]
            refine ⟨fun h=>(by cases h),fun q' j' h=>?_⟩
            cases h
            refine ⟨⟨v,up hv,hv1,hv2⟩,fun u hu hu'=>?_⟩
            rw [ht'] at hu
            rcases List.mem_append.1 hu with hu | hu
            · exact hl u hu hu'
            · rw [List.mem_singleton.1 hu]; exact Rat.not_lt.1 hq
      · rw [if_neg hh]
        refine ⟨fun h u hu hu'=>?_,fun q j h=>?_⟩
        · rw [ht'] at hu
          rcases List.mem_append.1 hu with hu | hu
          · exact ih.1 h u hu hu'
          · rw [List.mem_singleton.1 hu] at hu'; exact hh hu'
        · obtain ⟨⟨v,hv,hv1,hv2⟩,hl⟩:=ih.2 q j h
          refine ⟨⟨v,up hv,hv1,hv2⟩,fun u hu hu'=>?_⟩
          rw [ht'] at hu
          rcases List.mem_append.1 hu with hu | hu
          · exact hl u hu hu'
          · rw [List.mem_singleton.1 hu] at hu'; exact absurd hu' hh
  have h:=H ts.length (Nat.le_refl _)
  rwa [List.take_length] at h
theorem first_hit {r : Ray} {ts : List T3} {t : T3} (ht : t ∈ ts) (h : hitsR r t) : ∃ q k,firstN r ts = some (q,k) ∧ q ≤ crossR r t:=by
  cases hb : firstN r ts with
  | none=>exact absurd h ((first_is r ts).1 hb t ht)
  | some x=>exact ⟨x.1,x.2,rfl,((first_is r ts).2 x.1 x.2 hb).2 t ht h⟩
theorem first_at {r : Ray} {ts : List T3} {q : Rat} {k : Nat} (h : firstN r ts = some (q,k)) : ∃ t ∈ ts,hitsR r t ∧ crossR r t = q:=by
  obtain ⟨⟨t,ht,h1,h2⟩,_⟩:=(first_is r ts).2 q k h
  exact ⟨t,List.mem_of_getElem? ht,h1,h2⟩
theorem first_sub {r : Ray} {ts us : List T3} (hs : ∀ t ∈ ts,t ∈ us) {q : Rat} {k : Nat} (h : firstN r ts = some (q,k)) : ∃ q' k',firstN r us = some (q',k') ∧ q' ≤ q:=by
  obtain ⟨t,ht,h1,h2⟩:=first_at h
  rw [← h2]
  exact first_hit (hs t ht) h1
theorem sgn4_pos {n : Int} {v : P3} (h : sgn4 n v = 1) : 0 ≤ n:=by
  unfold sgn4 at h
  split at h
  · exact isign_nn.1 (by omega)
  · rename_i h'
    have:=isign_zero_iff.1 (Decidable.not_not.1 h')
    omega
theorem sgn4_neg {n : Int} {v : P3} (h : sgn4 n v = -1) : n ≤ 0:=by
  unfold sgn4 at h
  split at h
  · have:=isign_gt (n:=n); have:=Int.not_lt.1 (fun k=>by have:=this.2 k; omega); exact this
  · rename_i h'
    have:=isign_zero_iff.1 (Decidable.not_not.1 h')
    omega
theorem isign_3 (n : Int) : isign n = 1 ∨ isign n = 0 ∨ isign n = -1:=by
  unfold isign
  split
  · omega
  · split <;> omega
theorem sgn4_3 (n : Int) (v : P3) : sgn4 n v = 1 ∨ sgn4 n v = 0 ∨ sgn4 n v = -1:=by
  unfold sgn4
  repeat' split
  all_goals first | exact isign_3 _ | exact .inr (.inl rfl)
theorem cramer (d a b c : P3) : d.dot (b.cross c) * a.x + d.dot (c.cross a) * b.x + d.dot (a.cross b) * c.x = a.dot (b.cross c) * d.x ∧
    d.dot (b.cross c) * a.y + d.dot (c.cross a) * b.y + d.dot (a.cross b) * c.y = a.dot (b.cross c) * d.y ∧
    d.dot (b.cross c) * a.z + d.dot (c.cross a) * b.z + d.dot (a.cross b) * c.z = a.dot (b.cross c) * d.z:=by
  simp only [P3.dot,P3.cross]
  refine ⟨?_,?_,?_⟩ <;> grind
theorem slp_sum (r : Ray) (t : T3) : r.d.dot ((r.to t.b).cross (r.to t.c)) + r.d.dot ((r.to t.c).cross (r.to t.a)) + r.d.dot ((r.to t.a).cross (r.to t.b)) = r.w * r.w * slpR r t:=by
  simp only [slpR,T3.normal,Ray.to,P3.scl,P3.dot,P3.cross,P3.sub]
  grind
theorem hgt_vol (r : Ray) (t : T3) : (r.to t.a).dot ((r.to t.b).cross (r.to t.c)) = r.w * r.w * hgtR r t:=by
  simp only [hgtR,T3.normal,Ray.to,P3.scl,P3.dot,P3.cross,P3.sub]
  grind
theorem axis_le {α β γ a b c n w S H d : Int} (hα : 0 ≤ α) (hβ : 0 ≤ β) (hγ : 0 ≤ γ) (ha : n ≤ a) (hb : n ≤ b) (hc : n ≤ c) (hw : 0 < w) (hS : α + β + γ = w * w * S) (hH : α * a + β * b + γ * c = w * w * H * d) : n * S ≤ H * d:=by
  have h1:=Int.mul_le_mul_of_nonneg_left ha hα
  have h2:=Int.mul_le_mul_of_nonneg_left hb hβ
  have h3:=Int.mul_le_mul_of_nonneg_left hc hγ
  have h4 : (w * w) * (n * S) ≤ (w * w) * (H * d):=by
    have e : (w * w) * (n * S) = α * n + β * n + γ * n:=by
      rw [← Int.add_mul,← Int.add_mul,hS]; grind
    rw [e,← Int.mul_assoc,← hH]
    omega
  exact Int.le_of_mul_le_mul_left h4 (Int.mul_pos hw hw)
theorem axis_ge {α β γ a b c n w S H d : Int} (hα : 0 ≤ α) (hβ : 0 ≤ β) (hγ : 0 ≤ γ) (ha : a ≤ n) (hb : b ≤ n) (hc : c ≤ n) (hw : 0 < w) (hS : α + β + γ = w * w * S) (hH : α * a + β * b + γ * c = w * w * H * d) : H * d ≤ n * S:=by
  have h:=axis_le (a:=-a) (b:=-b) (c:=-c) (n:=-n) (d:=-d) hα hβ hγ (by omega) (by omega) (by omega) hw hS (by rw [Int.mul_neg,Int.mul_neg,Int.mul_neg,Int.mul_neg,← hH]; omega)
  rw [Int.neg_mul,Int.mul_neg] at h
  omega
def P3.le (p q : P3) : Prop:=p.x ≤ q.x ∧ p.y ≤ q.y ∧ p.z ≤ q.z
theorem to_le {r : Ray} {p q : P3} (hw : 0 < r.w) (h : p.le q) (k : Nat) : (r.to p).at k ≤ (r.to q).at k:=by
  have m : ∀ {a b : Int},a ≤ b → a * r.w ≤ b * r.w:=fun hab=>Int.mul_le_mul_of_nonneg_right hab (by omega)
  have hx:=m h.1
  have hy:=m h.2.1
  have hz:=m h.2.2
  match k with
  | 0=>show p.x * r.w - r.s.x ≤ q.x * r.w - r.s.x; omega
  | 1=>show p.y * r.w - r.s.y ≤ q.y * r.w - r.s.y; omega
  | k + 2=>show p.z * r.w - r.s.z ≤ q.z * r.w - r.s.z; omega
theorem hit_at {r : Ray} {t : T3} (h : hitsR r t) : ∃ S H : Int,0 < S ∧ 0 ≤ H ∧ crossR r t = Rat.divInt H (r.w * S) ∧
    ∀ lo hi : P3,lo.le t.a → lo.le t.b → lo.le t.c → t.a.le hi → t.b.le hi → t.c.le hi → ∀ k,(r.to lo).at k * S ≤ H * r.d.at k ∧ H * r.d.at k ≤ (r.to hi).at k * S:=by
  obtain ⟨hok,hf,⟨hp0,hp1,hp2⟩,hs⟩:=id h
  have hne:=slp_ne hf hs
  have hw:=hok.1
  have hsum:=slp_sum r t
  have hvol:=hgt_vol r t
  obtain ⟨cx,cy,cz⟩:=cramer r.d (r.to t.a) (r.to t.b) (r.to t.c)
  rw [hvol] at cx cy cz
  unfold sideR at hp0 hp1 hp2
  rw [crossR,if_pos h]
  have hww : 0 < r.w * r.w:=Int.mul_pos hw hw
  rcases sgn4_3 (r.d.dot ((r.to t.a).cross (r.to t.b))) (r.d.cross ((r.to t.b).sub (r.to t.a))) with e | e | e
  · rw [e] at hp1 hp2
    have g0:=sgn4_pos e
    have g1:=sgn4_pos hp1
    have g2:=sgn4_pos hp2
    have hS : 0 < slpR r t:=by
      have : 0 ≤ r.w * r.w * slpR r t:=by omega
      have:=Int.nonneg_of_mul_nonneg_right this hww
      omega
    have hH : 0 ≤ hgtR r t:=sgn4_pos (hs.trans (isign_pos hS))
    refine ⟨slpR r t,hgtR r t,hS,hH,rfl,fun lo hi a1 a2 a3 b1 b2 b3 k=>?_⟩
    match k with
    | 0=>exact ⟨axis_le g1 g2 g0 (to_le hw a1 0) (to_le hw a2 0) (to_le hw a3 0) hw hsum cx,axis_ge g1 g2 g0 (to_le hw b1 0) (to_le hw b2 0) (to_le hw b3 0) hw hsum cx⟩
    | 1=>exact ⟨axis_le g1 g2 g0 (to_le hw a1 1) (to_le hw a2 1) (to_le hw a3 1) hw hsum cy,axis_ge g1 g2 g0 (to_le hw b1 1) (to_le hw b2 1) (to_le hw b3 1) hw hsum cy⟩
    | k + 2=>exact ⟨axis_le g1 g2 g0 (to_le hw a1 2) (to_le hw a2 2) (to_le hw a3 2) hw hsum cz,axis_ge g1 g2 g0 (to_le hw b1 2) (to_le hw b2 2) (to_le hw b3 2) hw hsum cz⟩
  · exact absurd e hp0
  · rw [e] at hp1 hp2
    have g0:=sgn4_neg e
    have g1:=sgn4_neg hp1
    have g2:=sgn4_neg hp2
    have hS : slpR r t < 0:=by
      have h0 : 0 ≤ r.w * r.w * -slpR r t:=by rw [Int.mul_neg]; omega
      have:=Int.nonneg_of_mul_nonneg_right h0 hww
      omega
    have hH : hgtR r t ≤ 0:=sgn4_neg (hs.trans (isign_neg hS))
    have hsum' : -(r.d.dot ((r.to t.b).cross (r.to t.c))) + -(r.d.dot ((r.to t.c).cross (r.to t.a))) + -(r.d.dot ((r.to t.a).cross (r.to t.b))) = r.w * r.w * -slpR r t:=by rw [Int.mul_neg,← hsum]; omega
    have neg : ∀ {α β γ a b c d : Int},α * a + β * b + γ * c = r.w * r.w * hgtR r t * d → -α * a + -β * b + -γ * c = r.w * r.w * -hgtR r t * d:=fun e=>by
      rw [Int.neg_mul,Int.neg_mul,Int.neg_mul,Int.mul_neg,Int.neg_mul,← e]; omega
    have cx:=neg cx
    have cy:=neg cy
    have cz:=neg cz
    refine ⟨-slpR r t,-hgtR r t,by omega,by omega,?_,fun lo hi a1 a2 a3 b1 b2 b3 k=>?_⟩
    · rw [Int.mul_neg,Rat.neg_divInt_neg]
    have g0' : 0 ≤ -(r.d.dot ((r.to t.a).cross (r.to t.b))):=by omega
    have g1' : 0 ≤ -(r.d.dot ((r.to t.b).cross (r.to t.c))):=by omega
    have g2' : 0 ≤ -(r.d.dot ((r.to t.c).cross (r.to t.a))):=by omega
    match k with
    | 0=>exact ⟨axis_le g1' g2' g0' (to_le hw a1 0) (to_le hw a2 0) (to_le hw a3 0) hw hsum' cx,axis_ge g1' g2' g0' (to_le hw b1 0) (to_le hw b2 0) (to_le hw b3 0) hw hsum' cx⟩
    | 1=>exact ⟨axis_le g1' g2' g0' (to_le hw a1 1) (to_le hw a2 1) (to_le hw a3 1) hw hsum' cy,axis_ge g1' g2' g0' (to_le hw b1 1) (to_le hw b2 1) (to_le hw b3 1) hw hsum' cy⟩
    | k + 2=>exact ⟨axis_le g1' g2' g0' (to_le hw a1 2) (to_le hw a2 2) (to_le hw a3 2) hw hsum' cz,axis_ge g1' g2' g0' (to_le hw b1 2) (to_le hw b2 2) (to_le hw b3 2) hw hsum' cz⟩
theorem axR_in {r : Ray} {n f d S H : Int} {st : Rat × Option Rat} (hw : 0 < r.w) (hS : 0 < S) (h1 : n * S ≤ H * d) (h2 : H * d ≤ f * S) (hi : st.1 ≤ Rat.divInt H (r.w * S)) (ho : ∀ q,st.2 = some q → Rat.divInt H (r.w * S) ≤ q) :
    ∃ st',axR r n f d st = some st' ∧ st'.1 ≤ Rat.divInt H (r.w * S) ∧ (∀ q,st'.2 = some q → Rat.divInt H (r.w * S) ≤ q) ∧ (st.2.isSome = true → st'.2.isSome = true) ∧ (d ≠ 0 → st'.2.isSome = true):=by
  have hnf : n ≤ f:=Int.le_of_mul_le_mul_right (Int.le_trans h1 h2) hS
  have hwS:=Int.mul_pos hw hS
  unfold axR
  by_cases hd : d = 0
  · subst hd
    rw [Int.mul_zero] at h1 h2
    have hn : n ≤ 0:=Int.not_lt.1 fun k=>by have:=Int.mul_pos k hS; omega
    have hf : 0 ≤ f:=Int.not_lt.1 fun k=>by have:=Int.mul_pos (show 0 < -f by omega) hS; rw [Int.neg_mul] at this; omega
    rw [if_neg (by unfold axOff; omega),if_pos rfl]
    exact ⟨st,rfl,hi,ho,id,fun k=>absurd rfl k⟩
  · rw [if_neg (by unfold axOff; omega),if_neg hd]
    have hin : axFr r n f d ≤ Rat.divInt H (r.w * S):=by
      unfold axFr
      by_cases h0 : d < 0
      · rw [if_pos h0,show r.w * d = -(r.w * -d) by rw [Int.mul_neg,Int.neg_neg],Rat.divInt_neg',divLe (Int.mul_pos hw (by omega)) hwS]
        have:=Int.mul_le_mul_of_nonneg_left h2 (show 0 ≤ r.w by omega)
        grind
      · rw [if_neg h0,divLe (Int.mul_pos hw (by omega)) hwS]
        have:=Int.mul_le_mul_of_nonneg_left h1 (show 0 ≤ r.w by omega)
        grind
    have hout : Rat.divInt H (r.w * S) ≤ axTo r n f d:=by
      unfold axTo
      by_cases h0 : d < 0
      · rw [if_pos h0,show r.w * d = -(r.w * -d) by rw [Int.mul_neg,Int.neg_neg],Rat.divInt_neg',divLe hwS (Int.mul_pos hw (by omega))]
        have:=Int.mul_le_mul_of_nonneg_left h1 (show 0 ≤ r.w by omega)
        grind
      · rw [if_neg h0,divLe hwS (Int.mul_pos hw (by omega))]
        have:=Int.mul_le_mul_of_nonneg_left h2 (show 0 ≤ r.w by omega)
        grind
    refine ⟨_,rfl,?_,fun q hq=>?_,fun _=>rfl,fun _=>rfl⟩
    · show maxQ _ _ ≤ _
      unfold maxQ
      split
      · exact hin
      · exact hi
    · cases hq
      show _ ≤ minO _ _
      unfold minO
      split
      · exact hout
      · split
        · exact hout
        · exact ho _ (by assumption)
theorem box_hit {r : Ray} {t : T3} {lo hi : P3} (h : hitsR r t) (a1 : lo.le t.a) (a2 : lo.le t.b) (a3 : lo.le t.c) (b1 : t.a.le hi) (b2 : t.b.le hi) (b3 : t.c.le hi) :
    ∃ q p,boxR r lo hi = some (q,p) ∧ q ≤ crossR r t:=by
  obtain ⟨S,H,hS,hH,hc,hax⟩:=hit_at h
  have hok:=h.1
  have hw:=hok.1
  have hax:=hax lo hi a1 a2 a3 b1 b2 b3
  rw [hc]
  have h0 : (0 : Rat) ≤ Rat.divInt H (r.w * S):=Rat.divInt_nonneg hH (Int.le_of_lt (Int.mul_pos hw hS))
  obtain ⟨s1,e1,i1,o1,m1,n1⟩:=axR_in (st:=(0,none)) hw hS (hax 0).1 (hax 0).2 h0 (fun q h=>by cases h)
  obtain ⟨s2,e2,i2,o2,m2,n2⟩:=axR_in (st:=s1) hw hS (hax 1).1 (hax 1).2 i1 o1
  obtain ⟨s3,e3,i3,o3,m3,n3⟩:=axR_in (st:=s2) hw hS (hax 2).1 (hax 2).2 i2 o2
  have hsome : s3.2.isSome = true:=by
    by_cases hx : r.d.x = 0
    · by_cases hy : r.d.y = 0
      · exact n3 fun hz=>hok.2 ⟨hx,hy,hz⟩
      · exact m3 (n2 hy)
    · exact m3 (m2 (n1 hx))
  obtain ⟨q,hq⟩:=Option.isSome_iff_exists.1 hsome
  refine ⟨s3.1,q,?_,i3⟩
  rw [boxR,if_pos hok]
  simp only [axN,Option.bind_some,e1,e2,e3,hq]
  rw [if_neg (Rat.not_lt.2 (Rat.le_trans i3 (o3 q hq)))]
end Go.Lith
namespace Go.Lith
open Go.RowKit
theorem kd_ex {l : List T3} {b : Int} : (kdR l b).isEx = true ↔ b = 0:=by
  unfold kdR
  repeat' split
  all_goals (simp only [Kd.isEx]; constructor <;> intro h <;> first | omega | (cases h; done) | rfl | trivial)
theorem mem_sure {bs : List Int} {ls : List (List T3)} {t : T3} : t ∈ sureL bs ls ↔ ∃ i l,ls[i]? = some l ∧ bndAt bs i = 0 ∧ t ∈ l:=by
  unfold sureL
  rw [List.mem_flatMap]
  constructor
  · rintro ⟨⟨l,i⟩,hx,ht⟩
    split at ht
    · rename_i hk
      exact ⟨i,l,List.mk_mem_zipIdx_iff_getElem?.1 hx,kd_ex.1 hk,ht⟩
    · cases ht
  · rintro ⟨i,l,hl,hb,ht⟩
    refine ⟨(l,i),List.mk_mem_zipIdx_iff_getElem?.2 hl,?_⟩
    rw [if_pos (kd_ex.2 hb)]
    exact ht
theorem mem_rest {bs : List Int} {ls : List (List T3)} {i : Nat} {kd : Kd} : (i,kd) ∈ restL bs ls ↔ ∃ l,ls[i]? = some l ∧ kd = kdR l (bndAt bs i) ∧ kd.other = true:=by
  unfold restL
  rw [List.mem_flatMap]
  constructor
  · rintro ⟨⟨l,j⟩,hx,ht⟩
    split at ht
    · rename_i hk
      obtain ⟨e1,e2⟩:=Prod.mk.inj (List.mem_singleton.1 ht)
      subst e1
      exact ⟨l,List.mk_mem_zipIdx_iff_getElem?.1 hx,e2,by rw [e2]; exact hk⟩
    · cases ht
  · rintro ⟨l,hl,hb,ht⟩
    refine ⟨(l,i),List.mk_mem_zipIdx_iff_getElem?.2 hl,?_⟩
    rw [if_pos (by rw [← hb]; exact ht),← hb]
    exact List.mem_singleton.2 rfl
theorem open_mem {r : Ray} {h : Option (Rat × Nat)} {xs : List (Nat × Kd)} {i : Nat} {q : Rat} : (i,q) ∈ openL r h xs ↔ ∃ kd,(i,kd) ∈ xs ∧ beginR r kd = some q ∧ ∀ t k,h = some (t,k) → q < t:=by
  unfold openL
  rw [List.mem_flatMap]
  constructor
  · rintro ⟨⟨j,kd⟩,hx,ht⟩
    unfold openK at ht
    cases hb : beginR r kd with
    | none=>simp [hb] at ht
    | some p =>
      simp only [hb] at ht
      cases h with
      | none =>
        obtain ⟨e1,e2⟩:=Prod.mk.inj (List.mem_singleton.1 ht)
        subst e1 e2
        exact ⟨kd,hx,hb,fun t k e=>by cases e⟩
      | some y =>
        obtain ⟨y1,y2⟩:=y
        simp only at ht
        split at ht
        · rename_i hlt
          obtain ⟨e1,e2⟩:=Prod.mk.inj (List.mem_singleton.1 ht)
          subst e1 e2
          exact ⟨kd,hx,hb,fun t k e=>by cases e; exact hlt⟩
        · cases ht
  · rintro ⟨kd,hx,hb,hq⟩
    refine ⟨(i,kd),hx,?_⟩
    unfold openK
    simp only [hb]
    cases h with
    | none=>exact List.mem_singleton.2 rfl
    | some y=>simp only [if_pos (hq y.1 y.2 rfl)]; exact List.mem_singleton.2 rfl
theorem loQ_fold : ∀ (xs : List (Nat × Rat)) (a : Rat),xs.foldl (fun a y=>if y.2 < a then y.2 else a) a ≤ a ∧ (∀ x ∈ xs,xs.foldl (fun a y=>if y.2 < a then y.2 else a) a ≤ x.2) ∧
    (xs.foldl (fun a y=>if y.2 < a then y.2 else a) a = a ∨ ∃ x ∈ xs,xs.foldl (fun a y=>if y.2 < a then y.2 else a) a = x.2)
  | [],a=>⟨Rat.le_refl,fun x h=>(by cases h),.inl rfl⟩
  | y :: ys,a=>by
    rw [List.foldl_cons]
    obtain ⟨h1,h2,h3⟩:=loQ_fold ys (if y.2 < a then y.2 else a)
    have k : (if y.2 < a then y.2 else a) ≤ a ∧ (if y.2 < a then y.2 else a) ≤ y.2 ∧ ((if y.2 < a then y.2 else a) = a ∨ (if y.2 < a then y.2 else a) = y.2):=by
      split
      · rename_i h; exact ⟨Rat.le_of_lt h,Rat.le_refl,.inr rfl⟩
      · rename_i h; exact ⟨Rat.le_refl,Rat.not_lt.1 h,.inl rfl⟩
    refine ⟨Rat.le_trans h1 k.1,fun x hx=>?_,?_⟩
    · rcases List.mem_cons.1 hx with rfl | hx
      · exact Rat.le_trans h1 k.2.1
      · exact h2 x hx
    · rcases h3 with h3 | ⟨x,hx,h3⟩
      · rw [h3]
        rcases k.2.2 with k | k
        · exact .inl k
        · exact .inr ⟨y,List.mem_cons_self ..,k⟩
      · exact .inr ⟨x,List.mem_cons_of_mem _ hx,h3⟩
theorem loQ_le {xs : List (Nat × Rat)} {x : Nat × Rat} (h : x ∈ xs) : loQ xs ≤ x.2:=by
  cases xs with
  | nil=>cases h
  | cons y ys =>
    rcases List.mem_cons.1 h with rfl | h
    · exact (loQ_fold ys x.2).1
    · exact (loQ_fold ys y.2).2.1 x h
theorem loQ_mem {xs : List (Nat × Rat)} (h : xs ≠ []) : ∃ x ∈ xs,loQ xs = x.2:=by
  cases xs with
  | nil=>exact absurd rfl h
  | cons y ys =>
    rcases (loQ_fold ys y.2).2.2 with h | ⟨x,hx,h⟩
    · exact ⟨y,List.mem_cons_self ..,h⟩
    · exact ⟨x,List.mem_cons_of_mem _ hx,h⟩
def containsR (a : Ans) (h : Option (Rat × Nat)) : Prop :=
  (a.kind = 1 ∧ h.isSome = true ∧ a.lo = hitT h ∧ a.hi = hitT h ∧ a.opn = []) ∨
  (a.kind = 2 ∧ h = none ∧ a.opn = []) ∨
  (a.kind = 3 ∧ ¬ (h.isSome = true ∧ hitT h < a.lo) ∧ ¬ (a.sure = true ∧ (h = none ∨ a.hi < hitT h)) ∧ a.opn ≠ [])
theorem contains_ans {h hs : Option (Rat × Nat)} {o : List (Nat × Rat)} (H1 : ∀ q k,h = some (q,k) → ∃ q' k',hs = some (q',k') ∧ q' ≤ q)
    (H2 : ∀ T k,hs = some (T,k) → (∃ q k,h = some (q,k) ∧ q ≤ T) ∨ ∃ x ∈ o,x.2 ≤ T) (H3 : ∀ x ∈ o,∀ q k,h = some (q,k) → x.2 < q) : containsR (ansR h o) hs:=by
  unfold ansR
  by_cases ho : o = []
  · subst ho
    rw [if_neg (fun h=>h rfl)]
    cases h with
    | none =>
      refine .inr (.inl ⟨rfl,?_,rfl⟩)
      cases hs with
      | none=>rfl
      | some x =>
        rcases H2 x.1 x.2 rfl with ⟨q,k,e,_⟩ | ⟨y,hy,_⟩
        · cases e
        · cases hy
    | some x =>
      obtain ⟨q,k⟩:=x
      obtain ⟨q',k',e,hq⟩:=H1 q k rfl
      subst e
      have : q = q':=by
        rcases H2 q' k' rfl with ⟨p,j,e,hp⟩ | ⟨y,hy,_⟩
        · cases e; exact Rat.le_antisymm hp hq
        · cases hy
      subst this
      exact .inl ⟨rfl,rfl,rfl,rfl,rfl⟩
  · rw [if_pos ho]
    refine .inr (.inr ⟨rfl,?_,?_,fun e=>ho (List.map_eq_nil_iff.1 e)⟩)
    · rintro ⟨h1,h2⟩
      obtain ⟨⟨T,k⟩,rfl⟩:=Option.isSome_iff_exists.1 h1
      have h2 : T < loQ o:=h2
      refine Rat.not_lt.2 ?_ h2
      rcases H2 T k rfl with ⟨q,j,e,hq⟩ | ⟨x,hx,hq⟩
      · obtain ⟨x,hx,e'⟩:=loQ_mem ho
        rw [e']
        exact Rat.le_trans (Rat.le_of_lt (H3 x hx q j e)) hq
      · exact Rat.le_trans (loQ_le hx) hq
    · rintro ⟨h1,h2⟩
      have h1 : h.isSome = true:=h1
      obtain ⟨⟨q,k⟩,rfl⟩:=Option.isSome_iff_exists.1 h1
      obtain ⟨q',k',rfl,hq⟩:=H1 q k rfl
      rcases h2 with h2 | h2
      · cases h2
      · exact Rat.not_lt.2 hq h2
def Within (b : Int) (m : List T3) (p : P3) : Prop:=((loP (cornersL m)).sub (P3.all b)).le p ∧ p.le ((hiP (cornersL m)).pls (P3.all b))
structure Shows (bs : List Int) (fine xs : List (List T3)) : Prop where
  len : xs.length = fine.length
  ex : ∀ i l,fine[i]? = some l → bndAt bs i = 0 → xs[i]? = some l
  near : ∀ i l,fine[i]? = some l → 0 < bndAt bs i → ∃ m,xs[i]? = some m ∧ ∀ t ∈ l,m ≠ [] ∧ Within (bndAt bs i) m t.a ∧ Within (bndAt bs i) m t.b ∧ Within (bndAt bs i) m t.c
theorem cross_nn {r : Ray} {t : T3} (h : hitsR r t) : 0 ≤ crossR r t:=by
  obtain ⟨S,H,hS,hH,hc,_⟩:=hit_at h
  rw [hc]
  exact Rat.divInt_nonneg hH (Int.le_of_lt (Int.mul_pos h.1.1 hS))
theorem Shows.hit {bs : List Int} {fine xs : List (List T3)} {r : Ray} (s : Shows bs fine xs) {t : T3} (ht : t ∈ fine.flatten) (h : hitsR r t) :
    (∃ q k,firstN r (sureL bs xs) = some (q,k) ∧ q ≤ crossR r t) ∨ ∃ i kd q,(i,kd) ∈ restL bs xs ∧ beginR r kd = some q ∧ q ≤ crossR r t:=by
  obtain ⟨l,hl,htl⟩:=List.mem_flatten.1 ht
  obtain ⟨i,hi⟩:=List.mem_iff_getElem?.1 hl
  rcases Int.lt_trichotomy (bndAt bs i) 0 with hb | hb | hb
  · have hlt : i < xs.length:=by rw [s.len]; exact (List.getElem?_eq_some_iff.1 hi).1
    refine .inr ⟨i,.unk,0,mem_rest.2 ⟨xs[i],List.getElem?_eq_getElem hlt,?_,rfl⟩,rfl,cross_nn h⟩
    rw [kdR,if_pos hb]
  · exact .inl (first_hit (mem_sure.2 ⟨i,l,s.ex i l hi hb,hb,htl⟩) h)
  · obtain ⟨m,hm,hin⟩:=s.near i l hi hb
    obtain ⟨hne,wa,wb,wc⟩:=hin t htl
    by_cases hf : fitsR (loP (cornersL m)) (hiP (cornersL m)) (bndAt bs i)
    · obtain ⟨q,p,hq,hle⟩:=box_hit h wa.1 wb.1 wc.1 wa.2 wb.2 wc.2
      refine .inr ⟨i,.near ((loP (cornersL m)).sub (P3.all (bndAt bs i))) ((hiP (cornersL m)).pls (P3.all (bndAt bs i))),q,mem_rest.2 ⟨m,hm,?_,rfl⟩,?_,hle⟩
      · rw [kdR,if_neg (by omega),if_neg (by omega),if_neg hne,if_pos hf]
      · rw [beginR,hq]; rfl
    · refine .inr ⟨i,.unk,0,mem_rest.2 ⟨m,hm,?_,rfl⟩,rfl,cross_nn h⟩
      rw [kdR,if_neg (by omega),if_neg (by omega),if_neg hne,if_neg hf]
theorem Shows.sub {bs : List Int} {fine xs : List (List T3)} (s : Shows bs fine xs) : ∀ t ∈ sureL bs xs,t ∈ fine.flatten:=by
  intro t ht
  obtain ⟨i,l,hi,hb,htl⟩:=mem_sure.1 ht
  have hlt : i < fine.length:=by rw [← s.len]; exact (List.getElem?_eq_some_iff.1 hi).1
  have:=s.ex i fine[i] (List.getElem?_eq_getElem hlt) hb
  rw [hi] at this
  cases this
  exact List.mem_flatten.2 ⟨_,List.getElem_mem hlt,htl⟩
theorem first_no {r : Ray} (h : ¬ r.ok) (ts : List T3) : firstN r ts = none:=by
  cases hb : firstN r ts with
  | none=>rfl
  | some x=>obtain ⟨t,_,ht,_⟩:=first_at (q:=x.1) (k:=x.2) hb; exact absurd ht.1 h
theorem Shows.right {bs : List Int} {fine xs : List (List T3)} (s : Shows bs fine xs) (r : Ray) : containsR (askR r xs bs) (firstN r fine.flatten):=by
  unfold askR
  by_cases hok : r.ok
  · rw [if_pos hok]
    refine contains_ans (fun q k h=>first_sub s.sub h) (fun T k h=>?_) (fun x hx q k h=>?_)
    · obtain ⟨t,ht,hh,hT⟩:=first_at h
      rcases s.hit ht hh with ⟨q,j,e,hq⟩ | ⟨i,kd,q,hm,hb,hq⟩
      · exact .inl ⟨q,j,e,hT ▸ hq⟩
      · rw [hT] at hq
        cases hs : firstN r (sureL bs xs) with
        | none=>exact .inr ⟨(i,q),open_mem.2 ⟨kd,hm,hb,fun _ _ e=>by cases e⟩,hq⟩
        | some y =>
          by_cases hlt : q < y.1
          · exact .inr ⟨(i,q),open_mem.2 ⟨kd,hm,hb,fun _ _ e=>by cases e; exact hlt⟩,hq⟩
          · exact .inl ⟨y.1,y.2,rfl,Rat.le_trans (Rat.not_lt.1 hlt) hq⟩
    · obtain ⟨kd,_,_,hlt⟩:=open_mem.1 (show (x.1,x.2) ∈ _ from hx)
      exact hlt q k h
  · rw [if_neg hok,first_no hok]
    exact .inr (.inl ⟨rfl,rfl,rfl⟩)
theorem ans_3 {h : Option (Rat × Nat)} {o : List (Nat × Rat)} : (ansR h o).kind = 3 ↔ o ≠ []:=by
  unfold ansR
  by_cases ho : o = []
  · rw [if_neg (fun k=>k ho)]
    cases h with
    | none=>simp [Ans.miss,ho]
    | some x=>simp [ho]
  · rw [if_pos ho]; simp [ho]
structure Decd (r : Ray) (bs bs' : List Int) (xs xs' : List (List T3)) : Prop where
  sub : ∀ t ∈ sureL bs xs,t ∈ sureL bs' xs'
  rest : ∀ i kd,(i,kd) ∈ restL bs' xs' → (i,kd) ∈ restL bs xs ∧ ∀ q,(i,q) ∉ openL r (firstN r (sureL bs xs)) (restL bs xs)
theorem Decd.done {r : Ray} {bs bs' : List Int} {xs xs' : List (List T3)} (d : Decd r bs bs' xs xs') : (askR r xs' bs').kind ≠ 3:=by
  unfold askR
  by_cases hok : r.ok
  · rw [if_pos hok,Ne,ans_3,Decidable.not_not]
    refine List.eq_nil_iff_forall_not_mem.2 fun ⟨i,q⟩ hx=>?_
    obtain ⟨kd,hm,hb,hlt⟩:=open_mem.1 hx
    obtain ⟨hm',hno⟩:=d.rest i kd hm
    refine hno q (open_mem.2 ⟨kd,hm',hb,fun t k e=>?_⟩)
    obtain ⟨q',k',e',hq⟩:=first_sub d.sub e
    exact Rat.not_le.1 fun h=>Rat.not_lt.2 (Rat.le_trans hq h) (hlt q' k' e')
  · rw [if_neg hok]
    exact fun e=>by simp [Ans.miss] at e
end Go.Lith
namespace Go.Lith
open Go.RowKit
theorem axOff_mono {n f n' f' d : Int} (hn : n' ≤ n) (hf : f ≤ f') (h : ¬ axOff n f d) : ¬ axOff n' f' d:=by
  unfold axOff at h ⊢
  omega
theorem axFr_mono {r : Ray} {n f n' f' d : Int} (hw : 0 < r.w) (hd : d ≠ 0) (hn : n' ≤ n) (hf : f ≤ f') : axFr r n' f' d ≤ axFr r n f d:=by
  unfold axFr
  by_cases h0 : d < 0
  · have hp : 0 < r.w * -d:=Int.mul_pos hw (by omega)
    rw [if_pos h0,if_pos h0,show r.w * d = -(r.w * -d) by rw [Int.mul_neg,Int.neg_neg],Rat.divInt_neg',Rat.divInt_neg',divLe hp hp]
    exact Int.mul_le_mul_of_nonneg_right (by omega) (by omega)
  · have hp : 0 < r.w * d:=Int.mul_pos hw (by omega)
    rw [if_neg h0,if_neg h0,divLe hp hp]
    exact Int.mul_le_mul_of_nonneg_right hn (by omega)
theorem axTo_mono {r : Ray} {n f n' f' d : Int} (hw : 0 < r.w) (hd : d ≠ 0) (hn : n' ≤ n) (hf : f ≤ f') : axTo r n f d ≤ axTo r n' f' d:=by
  unfold axTo
  by_cases h0 : d < 0
  · have hp : 0 < r.w * -d:=Int.mul_pos hw (by omega)
    rw [if_pos h0,if_pos h0,show r.w * d = -(r.w * -d) by rw [Int.mul_neg,Int.neg_neg],Rat.divInt_neg',Rat.divInt_neg',divLe hp hp]
    exact Int.mul_le_mul_of_nonneg_right (by omega) (by omega)
  · have hp : 0 < r.w * d:=Int.mul_pos hw (by omega)
    rw [if_neg h0,if_neg h0,divLe hp hp]
    exact Int.mul_le_mul_of_nonneg_right hf (by omega)
theorem maxQ_mono {p p' q q' : Rat} (h1 : p' ≤ p) (h2 : q' ≤ q) : maxQ p' q' ≤ maxQ p q:=by
  unfold maxQ
  split <;> split
  · exact h2
  · rename_i a b; exact Rat.le_trans h2 (Rat.not_lt.1 b)
  · rename_i a b; exact Rat.le_trans h1 (Rat.le_of_lt b)
  · exact h1
theorem minO_mono {o o' : Option Rat} {q q' : Rat} (h : o.isSome = o'.isSome) (h1 : ∀ p p',o = some p → o' = some p' → p ≤ p') (h2 : q ≤ q') : minO o q ≤ minO o' q':=by
  cases o with
  | none=>cases o' with
    | none=>exact h2
    | some p'=>cases h
  | some p=>cases o' with
    | none=>cases h
    | some p' =>
      have:=h1 p p' rfl rfl
      unfold minO
      dsimp only
      split <;> split
      · exact h2
      · rename_i a b; exact Rat.le_trans (Rat.le_of_lt a) this
      · rename_i a b; exact Rat.le_trans (Rat.not_lt.1 a) h2
      · exact this
theorem axR_mono {r : Ray} {n f n' f' d : Int} {s t : Rat × Option Rat} {s' : Rat × Option Rat} (hw : 0 < r.w) (hn : n' ≤ n) (hf : f ≤ f') (h : axR r n f d s = some t) (h1 : s'.1 ≤ s.1) (h2 : s.2.isSome = s'.2.isSome) (h3 : ∀ p p',s.2 = some p → s'.2 = some p' → p ≤ p') :
    ∃ t',axR r n' f' d s' = some t' ∧ t'.1 ≤ t.1 ∧ t.2.isSome = t'.2.isSome ∧ ∀ p p',t.2 = some p → t'.2 = some p' → p ≤ p':=by
  unfold axR at h ⊢
  by_cases ho : axOff n f d
  · rw [if_pos ho] at h; cases h
  rw [if_neg ho] at h
  rw [if_neg (axOff_mono hn hf ho)]
  by_cases hd : d = 0
  · rw [if_pos hd] at h ⊢
    cases h
    exact ⟨s',rfl,h1,h2,h3⟩
  · rw [if_neg hd] at h ⊢
    cases h
    refine ⟨_,rfl,maxQ_mono h1 (axFr_mono hw hd hn hf),rfl,fun p p' e e'=>?_⟩
    cases e
    cases e'
    exact minO_mono h2 h3 (axTo_mono hw hd hn hf)
theorem box_mono {r : Ray} {lo hi lo' hi' : P3} {q p : Rat} (hl : lo'.le lo) (hh : hi.le hi') (h : boxR r lo hi = some (q,p)) : ∃ q' p',boxR r lo' hi' = some (q',p') ∧ q' ≤ q:=by
  unfold boxR at h ⊢
  by_cases hok : r.ok
  · rw [if_pos hok] at h ⊢
    have hw:=hok.1
    have H : ∀ k t,axN r lo hi k = some t → ∃ t',axN r lo' hi' k = some t' ∧ t'.1 ≤ t.1 ∧ t.2.isSome = t'.2.isSome ∧ ∀ p p',t.2 = some p → t'.2 = some p' → p ≤ p':=by
      intro k
      induction k with
      | zero=>intro t e; cases e; exact ⟨_,rfl,Rat.le_refl,rfl,fun p p' e=>by cases e⟩
      | succ k ih =>
        intro t e
        rw [axN] at e ⊢
        obtain ⟨s,hs,e⟩:=Option.bind_eq_some_iff.1 e
        obtain ⟨s',hs',i1,i2,i3⟩:=ih s hs
        rw [hs',Option.bind_some]
        exact axR_mono hw (to_le hw hl k) (to_le hw hh k) e i1 i2 i3
    obtain ⟨s,hs,e⟩:=Option.bind_eq_some_iff.1 h
    obtain ⟨s',hs',i1,i2,i3⟩:=H 3 s hs
    cases hq : s.2 with
    | none=>rw [hq] at e; cases e
    | some x =>
      rw [hq] at e i2
      obtain ⟨x',hx'⟩:=Option.isSome_iff_exists.1 i2.symm
      dsimp only at e
      split at e
      · cases e
      · rename_i hlt
        cases e
        refine ⟨s'.1,x',?_,i1⟩
        rw [hs',Option.bind_some,hx']
        dsimp only
        exact if_neg (Rat.not_lt.2 (Rat.le_trans i1 (Rat.le_trans (Rat.not_lt.1 hlt) (i3 _ _ hq hx'))))
  · rw [if_neg hok] at h; cases h
theorem box_nn {r : Ray} {lo hi : P3} {q p : Rat} (h : boxR r lo hi = some (q,p)) : 0 ≤ q:=by
  unfold boxR at h
  by_cases hok : r.ok
  · rw [if_pos hok] at h
    have H : ∀ k t,axN r lo hi k = some t → 0 ≤ t.1:=by
      intro k
      induction k with
      | zero=>intro t e; cases e; exact Rat.le_refl
      | succ k ih =>
        intro t e
        rw [axN] at e
        obtain ⟨s,hs,e⟩:=Option.bind_eq_some_iff.1 e
        have:=ih s hs
        unfold axR at e
        split at e
        · cases e
        · split at e
          · cases e; exact this
          · cases e
            show 0 ≤ maxQ _ _
            unfold maxQ
            split
            · exact Rat.le_trans this (Rat.le_of_lt (by assumption))
            · exact this
    obtain ⟨s,hs,e⟩:=Option.bind_eq_some_iff.1 h
    have:=H 3 s hs
    split at e
    · cases e
    · split at e
      · cases e
      · cases e; exact this
  · rw [if_neg hok] at h; cases h
def Wider (bs bs' : List Int) : Prop:=∀ i,(bndAt bs i ≤ 0 → bndAt bs' i = bndAt bs i) ∧ (0 < bndAt bs i → bndAt bs' i < 0 ∨ bndAt bs i ≤ bndAt bs' i)
theorem fits_mono {lo hi : P3} {b b' : Int} (h : b ≤ b') (hf : fitsR lo hi b') : fitsR lo hi b:=by
  unfold fitsR at hf ⊢
  omega
theorem kd_wider {l : List T3} {b b' : Int} {r : Ray} {q : Rat} (h1 : b ≤ 0 → b' = b) (h2 : 0 < b → b' < 0 ∨ b ≤ b') (ho : (kdR l b).other = true) (hq : beginR r (kdR l b) = some q) :
    (kdR l b').other = true ∧ ∃ q',beginR r (kdR l b') = some q' ∧ q' ≤ q:=by
  have nn : 0 ≤ q:=by
    cases hk : kdR l b with
    | no=>rw [hk] at ho; cases ho
    | ex=>rw [hk] at ho; cases ho
    | unk=>rw [hk] at hq; cases hq; exact Rat.le_refl
    | near lo hi =>
      rw [hk,beginR] at hq
      obtain ⟨x,hx,rfl⟩:=Option.map_eq_some_iff.1 hq
      exact box_nn (p:=x.2) hx
  by_cases hb : b ≤ 0
  · rw [h1 hb]; exact ⟨ho,q,hq,Rat.le_refl⟩
  · rcases h2 (by omega) with hb' | hb'
    · rw [show kdR l b' = .unk by rw [kdR,if_pos hb']]
      exact ⟨rfl,0,rfl,nn⟩
    · have e' : kdR l b' = if l = [] then .no else if fitsR (loP (cornersL l)) (hiP (cornersL l)) b' then .near ((loP (cornersL l)).sub (P3.all b')) ((hiP (cornersL l)).pls (P3.all b')) else .unk:=by
        rw [kdR,if_neg (by omega),if_neg (by omega)]
      have e : kdR l b = if l = [] then .no else if fitsR (loP (cornersL l)) (hiP (cornersL l)) b then .near ((loP (cornersL l)).sub (P3.all b)) ((hiP (cornersL l)).pls (P3.all b)) else .unk:=by
        rw [kdR,if_neg (by omega),if_neg (by omega)]
      rw [e] at ho hq
      rw [e']
      by_cases hl : l = []
      · rw [if_pos hl] at ho; cases ho
      · rw [if_neg hl] at ho hq ⊢
        by_cases hf : fitsR (loP (cornersL l)) (hiP (cornersL l)) b'
        · rw [if_pos (fits_mono hb' hf)] at hq
          rw [if_pos hf]
          rw [beginR] at hq
          obtain ⟨x,hx,rfl⟩:=Option.map_eq_some_iff.1 hq
          obtain ⟨q',p',e1,e2⟩:=box_mono (lo':=(loP (cornersL l)).sub (P3.all b')) (hi':=(hiP (cornersL l)).pls (P3.all b')) (p:=x.2)
            (by simp only [P3.le,P3.sub,P3.all]; omega) (by simp only [P3.le,P3.pls,P3.all]; omega) hx
          exact ⟨rfl,q',by rw [beginR,e1]; rfl,e2⟩
        · rw [if_neg hf]
          exact ⟨rfl,0,rfl,nn⟩
theorem flat_len {α β γ : Type} {f : α → List β} {g : α → List γ} : ∀ {xs : List α},(∀ x ∈ xs,(f x).length ≤ (g x).length) → (xs.flatMap f).length ≤ (xs.flatMap g).length
  | [],_=>Nat.le_refl _
  | x :: xs,h=>by
    rw [List.flatMap_cons,List.flatMap_cons,List.length_append,List.length_append]
    have h1:=h x (List.mem_cons_self ..)
    have h2:=flat_len (xs:=xs) fun y hy=>h y (List.mem_cons_of_mem _ hy)
    omega
theorem open_rest {r : Ray} {h : Option (Rat × Nat)} {bs : List Int} {ls : List (List T3)} : openL r h (restL bs ls) = ls.zipIdx.flatMap fun x=>if (kdR x.1 (bndAt bs x.2)).other then openK r h (x.2,kdR x.1 (bndAt bs x.2)) else []:=by
  unfold openL restL
  rw [List.flatMap_assoc]
  congr 1
  funext x
  split <;> simp
theorem openK_len {r : Ray} {h : Option (Rat × Nat)} {x : Nat × Kd} : (openK r h x).length ≤ 1:=by
  unfold openK
  split
  · exact Nat.zero_le _
  · split
    · exact Nat.le_refl _
    · split
      · exact Nat.le_refl _
      · exact Nat.zero_le _
theorem sure_wider {bs bs' : List Int} {ls : List (List T3)} (w : Wider bs bs') : sureL bs' ls = sureL bs ls:=by
  unfold sureL
  congr 1
  funext x
  have e : (kdR x.1 (bndAt bs' x.2)).isEx = (kdR x.1 (bndAt bs x.2)).isEx:=by
    apply Bool.eq_iff_iff.2
    rw [kd_ex,kd_ex]
    have:=w x.2
    omega
  rw [e]
theorem wider_right {bs bs' : List Int} {ls : List (List T3)} (w : Wider bs bs') (r : Ray) :
    (∀ i ∈ (askR r ls bs).opn,i ∈ (askR r ls bs').opn) ∧ (askR r ls bs).opn.length ≤ (askR r ls bs').opn.length ∧
    ((askR r ls bs).kind = 3 → (askR r ls bs').lo ≤ (askR r ls bs).lo) ∧ ((askR r ls bs).kind = 1 → (askR r ls bs').lo ≤ (askR r ls bs).lo):=by
  unfold askR
  by_cases hok : r.ok
  · rw [if_pos hok,if_pos hok,sure_wider w]
    generalize hh : firstN r (sureL bs ls) = h
    have K : ∀ i q,(i,q) ∈ openL r h (restL bs ls) → ∃ q',(i,q') ∈ openL r h (restL bs' ls) ∧ q' ≤ q:=by
      intro i q hx
      obtain ⟨kd,hm,hb,hlt⟩:=open_mem.1 hx
      obtain ⟨l,hl,rfl,ho⟩:=mem_rest.1 hm
      obtain ⟨ho',q',hb',hle⟩:=kd_wider (w i).1 (w i).2 ho hb
      exact ⟨q',open_mem.2 ⟨_,mem_rest.2 ⟨l,hl,rfl,ho'⟩,hb',fun t k e=>Rat.not_le.1 fun k'=>Rat.not_lt.2 (Rat.le_trans k' hle) (hlt t k e)⟩,hle⟩
    have L : (openL r h (restL bs ls)).length ≤ (openL r h (restL bs' ls)).length:=by
      rw [open_rest,open_rest]
      refine flat_len fun ⟨l,i⟩ hx=>?_
      have hl:=List.mk_mem_zipIdx_iff_getElem?.1 hx
      dsimp only
      split
      · rename_i ho
        cases hb : beginR r (kdR l (bndAt bs i)) with
        | none=>rw [openK,hb]; exact Nat.zero_le _
        | some q =>
          obtain ⟨ho',q',hb',hle⟩:=kd_wider (w i).1 (w i).2 ho hb
          rw [if_pos ho']
          simp only [openK,hb,hb']
          cases h with
          | none=>exact Nat.le_refl _
          | some y =>
            dsimp only
            split
            · rename_i hlt
              rw [if_pos (Rat.not_le.1 fun k'=>Rat.not_lt.2 (Rat.le_trans k' hle) hlt)]
              exact Nat.le_refl _
            · exact Nat.zero_le _
      · exact Nat.zero_le _
    have opn : ∀ o : List (Nat × Rat),(ansR h o).opn = o.map fun x=>(x.1 : Int):=by
      intro o
      unfold ansR
      by_cases ho : o = []
      · rw [if_neg (fun k=>k ho),ho]; cases h <;> rfl
      · rw [if_pos ho]
    refine ⟨fun i hi=>?_,?_,fun hk=>?_,fun hk=>?_⟩
    · rw [opn] at hi ⊢
      obtain ⟨⟨j,q⟩,hx,rfl⟩:=List.mem_map.1 hi
      obtain ⟨q',hx',_⟩:=K j q hx
      exact List.mem_map.2 ⟨(j,q'),hx',rfl⟩
    · rw [opn,opn,List.length_map,List.length_map]
      exact L
    · have ho:=ans_3.1 hk
      have ho' : openL r h (restL bs' ls) ≠ []:=fun e=>by
        rw [e] at L
        exact ho (List.eq_nil_of_length_eq_zero (Nat.le_zero.1 L))
      unfold ansR
      rw [if_pos ho,if_pos ho']
      obtain ⟨⟨j,q⟩,hx,e⟩:=loQ_mem ho
      obtain ⟨q',hx',hle⟩:=K j q hx
      show loQ _ ≤ loQ _
      rw [e]
      exact Rat.le_trans (loQ_le hx') hle
    · have ho : openL r h (restL bs ls) = []:=Decidable.not_not.1 fun k=>by rw [ans_3.2 k] at hk; cases hk
      rw [ho] at hk ⊢
      cases h with
      | none=>simp [ansR,Ans.miss] at hk
      | some y =>
        obtain ⟨t,k⟩:=y
        unfold ansR
        by_cases ho' : openL r (some (t,k)) (restL bs' ls) = []
        · rw [ho']; exact Rat.le_refl
        · rw [if_pos ho',if_neg (fun k=>k rfl)]
          obtain ⟨⟨j,q⟩,hx,e⟩:=loQ_mem ho'
          obtain ⟨kd,_,_,hlt⟩:=open_mem.1 hx
          show loQ _ ≤ t
          rw [e]
          exact Rat.le_of_lt (hlt t k rfl)
  · rw [if_neg hok,if_neg hok]
    refine ⟨fun i hi=>hi,Nat.le_refl _,fun _=>Rat.le_refl,fun _=>Rat.le_refl⟩
end Go.Lith
namespace Go.Proofs.YtimjandkmfcmiaaGreatDoor
open Go.RowKit Go.Lith
set_option maxRecDepth 100000
attribute [local irreducible] wpList wpQuiet wpMix wpMixH wpTree Code.wp
theorem of_c {x y z : Int} [Iw x] [Iw y] [Iw z] : Pure Tryz.prog 65 [.int .i64 x,.int .i64 y,.int .i64 z] (wv ⟨x,y,z⟩):=by
 intro w
 refine ⟨en_65,?_⟩
 have m:=Mem.refl w
 go_enter Tryz.func65,Tryz.ntmps65
 refine c_seq fun K1 k1=>wp_region_lit (malloc m zero_108 rfl ?_)
 clear m; intro g1 u m
 refine n_nil (k1 _ _ ?_)
 refine c_seq fun K2 k2=>wp_region_lit (n_val (r_move) ?_)
 simp only [ev,zD,zE,zF,zG]
 refine mcallP m rfl rfl (From_c Iw.h) ?_
 clear m; intro u m
 refine n_val (r_move) ?_
 simp only [ev,zD,zE,zF,zG]
 refine mcallP m rfl rfl (From_c Iw.h) ?_
 clear m; intro u m
 refine n_val (r_move) ?_
 simp only [ev,zD,zE,zF,zG]
 refine mcallP m rfl rfl (From_c Iw.h) ?_
 clear m; intro u m
 refine n_val (r_build_108_0_1_2 rfl rfl rfl) ?_
 simp only [ev,zD,zE,zF,zG]
 refine mstoreA m 0 rfl rfl rfl cells_108 (leT rfl) rfl ?_
 clear m; intro u m; simp only [over,zH,zI,zJ,zK,zL,zM,zN,zO,zP,zF,zG,Nat.reduceAdd] at m
 refine n_nil (k2 _ _ ?_)
 refine wp_ret ?_
 try simp only [Exit.inBlock,Exit.then,if_true]
 refine fin1 rfl ⟨_,rfl,((m.b 0 rfl).full agg_108 cells_108)⟩ ?_
 try simp only [zD,zE]
 exact ⟨_,rfl,m.ext,rfl⟩
theorem rayPoint_c {p : P3} [I3 p] : Pure Tryz.prog 66 [pt p] (wv p):=by
 intro w
 refine ⟨en_66,?_⟩
 have m:=Mem.refl w
 go_enter Tryz.func66,Tryz.ntmps66
 refine c_seq fun K1 k1=>wp_region_lit (mboxA m rfl ?_)
 clear m; intro g1 u m
 simp only [ev,zD,zE,zF,zG]
 refine malloc m zero_108 rfl ?_
 clear m; intro g2 u m
 refine n_nil (k1 _ _ ?_)
 refine c_seq fun K2 k2=>wp_region_lit (n_val (r_fieldAddr (c:=0) Tryz.underlying56 rfl cells_3 rfl rfl) ?_)
 simp only [ev,zD,zE,zF,zG]
 refine n_load rfl ((m.b 1 rfl).lies1 agg_3 rfl) ?_
 simp only [ev,zD,zE,zF,zG]
 refine n_val (r_fieldAddr (c:=0) Tryz.underlying56 rfl cells_3 rfl rfl) ?_
 simp only [ev,zD,zE,zF,zG]
 refine n_load rfl ((m.b 1 rfl).lies1 agg_3 rfl) ?_
 simp only [ev,zD,zE,zF,zG]
 refine n_val (r_fieldAddr (c:=0) Tryz.underlying56 rfl cells_3 rfl rfl) ?_
 simp only [ev,zD,zE,zF,zG]
 refine n_load rfl ((m.b 1 rfl).lies1 agg_3 rfl) ?_
 simp only [ev,zD,zE,zF,zG]
 refine mcallP m rfl rfl (of_c (x:=p.x) (y:=p.y) (z:=p.z)) ?_
 clear m; intro u m
 simp only [ev,zD,zE,zF,zG]
 refine mstoreA m 0 rfl rfl rfl cells_108 (leT rfl) rfl ?_
 clear m; intro u m; simp only [over,zH,zI,zJ,zK,zL,zM,zN,zO,zP,zF,zG,Nat.reduceAdd] at m
 refine n_nil (k2 _ _ ?_)
 refine wp_ret ?_
 try simp only [Exit.inBlock,Exit.then,if_true]
 refine fin1 rfl ⟨_,rfl,((m.b 0 rfl).full agg_108 cells_108)⟩ ?_
 try simp only [zD,zE]
 exact ⟨_,rfl,m.ext,rfl⟩
theorem vTimes_c {u : P3} {n : Int} (hu : Bv 300000 u) (hn : Bw 300000 n) : Pure Tryz.prog 67 [wv u,W n] (wv (u.scl n)):=by
 intro w
 refine ⟨en_67,?_⟩
 have m:=Mem.refl w
 go_enter Tryz.func67,Tryz.ntmps67
 refine c_seq fun K1 k1=>wp_region_lit (mboxA m rfl ?_)
 clear m; intro g1 u m
 simp only [ev,zD,zE,zF,zG]
 refine mboxA m rfl ?_
 clear m; intro g2 u m
 simp only [ev,zD,zE,zF,zG]
 refine malloc m zero_108 rfl ?_
 clear m; intro g3 u m
 refine n_nil (k1 _ _ ?_)
 refine c_seq fun K2 k2=>c_seq fun K3 k3=>wp_region_lit (n_val (r_move) (n_nil (k3 _ _ ?_)))
 refine wp_block (wp_loop_rounds 4 (rounds_step (c_seq fun K4 k4=>wp_region_lit (n_val (r_lssT (m:=0) (n:=3) rfl rfl (by decide)) (n_nil (k4 _ _ ?_))))))
 refine c_seq fun K5 k5=>c_yes rfl (wp_skip (k5 _ _ ?_))
 refine c_seq fun K6 k6=>wp_block (c_seq fun K7 k7=>wp_region_lit (n_val (r_move) ?_))
 simp only [ev,zD,zE,zF,zG]
 refine n_val (r_assign) (n_nil (k7 _ _ ?_))
 simp only [ev,zD,zE,zF,zG]
 refine mq_tail m 7 follows_mixed (by kernel_rfl) ?_
 simp only [zH,zI,zJ,zK]
 refine q_val (r_move) (q_val (r_move) (q_val (r_indexAddrA Tryz.underlying108 cells_35 rfl rfl (by decide) (by decide) rfl) ?_))
 simp only [ev,zD,zE,zF,zG]
 refine ql rfl (fun u m=>((m.b 2 rfl).lies agg_35 cells_35 rfl rfl)) ?_
 simp only [ev,zD,zE,zF,zG,zH,zI,zJ,zK,Nat.zero_add,Nat.reduceAdd,Nat.reduceMul,Int.reduceToNat]
 refine ql rfl (fun u m=>((m.b 1 rfl).full agg_35 cells_35)) ?_
 simp only [ev,zD,zE,zF,zG]
 refine qcP rfl rfl (Mul_c Bw.up Bw.up) (q_val (r_indexAddrA Tryz.underlying108 cells_35 rfl rfl (by decide) (by decide) rfl) (q_nil ?_))
 clear m; intro u m
 simp only [ev,zD,zE,zF,zG]
 refine mstoreA m 2 rfl rfl rfl cells_35 (leT rfl) rfl ?_
 clear m; intro u m; simp only [over,zH,zI,zJ,zK,zL,zM,zN,zO,zP,zF,zG,Nat.reduceAdd] at m
 refine n_nil (k6 _ _ ?_)
 refine wp_region_lit (n_val (r_add (m:=0) (n:=1) (r:=1) rfl rfl (by decide)) (n_val (r_move) (n_nil (then_rounds (c_seq fun K8 k8=>wp_region_lit (n_val (r_lssT (m:=1) (n:=3) rfl rfl (by decide)) (n_nil (k8 _ _ ?_))))))))
 refine c_seq fun K9 k9=>c_yes rfl (wp_skip (k9 _ _ ?_))
 refine c_seq fun K10 k10=>wp_block (c_seq fun K11 k11=>wp_region_lit (n_val (r_move) ?_))
 simp only [ev,zD,zE,zF,zG]
 refine n_val (r_assign) (n_nil (k11 _ _ ?_))
 simp only [ev,zD,zE,zF,zG]
 refine mq_tail m 7 follows_mixed (by kernel_rfl) ?_
 simp only [zH,zI,zJ,zK]
 refine q_val (r_move) (q_val (r_move) (q_val (r_indexAddrA Tryz.underlying108 cells_35 rfl rfl (by decide) (by decide) rfl) ?_))
 simp only [ev,zD,zE,zF,zG]
 refine ql rfl (fun u m=>((m.b 2 rfl).lies agg_35 cells_35 rfl rfl)) ?_
 simp only [ev,zD,zE,zF,zG,zH,zI,zJ,zK,Nat.zero_add,Nat.reduceAdd,Nat.reduceMul,Int.reduceToNat]
 refine ql rfl (fun u m=>((m.b 1 rfl).full agg_35 cells_35)) ?_
 simp only [ev,zD,zE,zF,zG]
 refine qcP rfl rfl (Mul_c Bw.up Bw.up) (q_val (r_indexAddrA Tryz.underlying108 cells_35 rfl rfl (by decide) (by decide) rfl) (q_nil ?_))
 clear m; intro u m
 simp only [ev,zD,zE,zF,zG]
 refine mstoreA m 2 rfl rfl rfl cells_35 (leT rfl) rfl ?_
 clear m; intro u m; simp only [over,zH,zI,zJ,zK,zL,zM,zN,zO,zP,zF,zG,Nat.reduceAdd] at m
 refine n_nil (k10 _ _ ?_)
 refine wp_region_lit (n_val (r_add (m:=1) (n:=1) (r:=2) rfl rfl (by decide)) (n_val (r_move) (n_nil (then_rounds (c_seq fun K12 k12=>wp_region_lit (n_val (r_lssT (m:=2) (n:=3) rfl rfl (by decide)) (n_nil (k12 _ _ ?_))))))))
 refine c_seq fun K13 k13=>c_yes rfl (wp_skip (k13 _ _ ?_))
 refine c_seq fun K14 k14=>wp_block (c_seq fun K15 k15=>wp_region_lit (n_val (r_move) ?_))
 simp only [ev,zD,zE,zF,zG]
 refine n_val (r_assign) (n_nil (k15 _ _ ?_))
 simp only [ev,zD,zE,zF,zG]
 refine mq_tail m 7 follows_mixed (by kernel_rfl) ?_
 simp only [zH,zI,zJ,zK]
 refine q_val (r_move) (q_val (r_move) (q_val (r_indexAddrA Tryz.underlying108 cells_35 rfl rfl (by decide) (by decide) rfl) ?_))
 simp only [ev,zD,zE,zF,zG]
 refine ql rfl (fun u m=>((m.b 2 rfl).lies agg_35 cells_35 rfl rfl)) ?_
 simp only [ev,zD,zE,zF,zG,zH,zI,zJ,zK,Nat.zero_add,Nat.reduceAdd,Nat.reduceMul,Int.reduceToNat]
 refine ql rfl (fun u m=>((m.b 1 rfl).full agg_35 cells_35)) ?_
 simp only [ev,zD,zE,zF,zG]
 refine qcP rfl rfl (Mul_c Bw.up Bw.up) (q_val (r_indexAddrA Tryz.underlying108 cells_35 rfl rfl (by decide) (by decide) rfl) (q_nil ?_))
 clear m; intro u m
 simp only [ev,zD,zE,zF,zG]
 refine mstoreA m 2 rfl rfl rfl cells_35 (leT rfl) rfl ?_
 clear m; intro u m; simp only [over,zH,zI,zJ,zK,zL,zM,zN,zO,zP,zF,zG,Nat.reduceAdd] at m
 refine n_nil (k14 _ _ ?_)
 refine wp_region_lit (n_val (r_add (m:=2) (n:=1) (r:=3) rfl rfl (by decide)) (n_val (r_move) (n_nil (then_rounds (c_seq fun K16 k16=>wp_region_lit (n_val (r_lssF (m:=3) (n:=3) rfl rfl (by decide)) (n_nil (k16 _ _ ?_))))))))
 refine c_seq fun K17 k17=>c_no rfl (wp_exit (k2 _ _ ?_))
 refine c_seq fun K18 k18=>wp_region_lit ?_
 simp only [ev,zD,zE,zF,zG]
 refine n_load rfl ((m.b 2 rfl).full agg_108 cells_108) ?_
 simp only [ev,zD,zE,zF,zG]
 refine mstoreA m 0 rfl rfl rfl cells_108 (leT rfl) rfl ?_
 clear m; intro u m; simp only [over,zH,zI,zJ,zK,zL,zM,zN,zO,zP,zF,zG,Nat.reduceAdd] at m
 refine n_nil (k18 _ _ ?_)
 refine wp_ret ?_
 try simp only [Exit.inBlock,Exit.then,if_true]
 refine fin1 rfl ⟨_,rfl,((m.b 0 rfl).full agg_108 cells_108)⟩ ?_
 try simp only [zD,zE]
 exact ⟨_,rfl,m.ext,rfl⟩
theorem vMinus_c {u v : P3} (hu : Bv 300000 u) (hv : Bv 300000 v) : Pure Tryz.prog 68 [wv u,wv v] (wv (u.sub v)):=by
 intro w
 refine ⟨en_68,?_⟩
 have m:=Mem.refl w
 go_enter Tryz.func68,Tryz.ntmps68
 refine c_seq fun K1 k1=>wp_region_lit (mboxA m rfl ?_)
 clear m; intro g1 u m
 simp only [ev,zD,zE,zF,zG]
 refine mboxA m rfl ?_
 clear m; intro g2 u m
 simp only [ev,zD,zE,zF,zG]
 refine malloc m zero_108 rfl ?_
 clear m; intro g3 u m
 refine n_nil (k1 _ _ ?_)
 refine c_seq fun K2 k2=>c_seq fun K3 k3=>wp_region_lit (n_val (r_move) (n_nil (k3 _ _ ?_)))
 refine wp_block (wp_loop_rounds 4 (rounds_step (c_seq fun K4 k4=>wp_region_lit (n_val (r_lssT (m:=0) (n:=3) rfl rfl (by decide)) (n_nil (k4 _ _ ?_))))))
 refine c_seq fun K5 k5=>c_yes rfl (wp_skip (k5 _ _ ?_))
 refine c_seq fun K6 k6=>wp_block (c_seq fun K7 k7=>wp_region_lit (n_val (r_move) ?_))
 simp only [ev,zD,zE,zF,zG]
 refine n_val (r_assign) (n_nil (k7 _ _ ?_))
 simp only [ev,zD,zE,zF,zG]
 refine mq_tail m 9 follows_mixed (by kernel_rfl) ?_
 simp only [zH,zI,zJ,zK]
 refine q_val (r_move) (q_val (r_move) (q_val (r_indexAddrA Tryz.underlying108 cells_35 rfl rfl (by decide) (by decide) rfl) ?_))
 simp only [ev,zD,zE,zF,zG]
 refine ql rfl (fun u m=>((m.b 2 rfl).lies agg_35 cells_35 rfl rfl)) ?_
 simp only [ev,zD,zE,zF,zG,zH,zI,zJ,zK,Nat.zero_add,Nat.reduceAdd,Nat.reduceMul,Int.reduceToNat]
 refine q_val (r_move) (q_val (r_indexAddrA Tryz.underlying108 cells_35 rfl rfl (by decide) (by decide) rfl) ?_)
 simp only [ev,zD,zE,zF,zG]
 refine ql rfl (fun u m=>((m.b 1 rfl).lies agg_35 cells_35 rfl rfl)) ?_
 simp only [ev,zD,zE,zF,zG,zH,zI,zJ,zK,Nat.zero_add,Nat.reduceAdd,Nat.reduceMul,Int.reduceToNat]
 refine qcP rfl rfl (Sub_c Bw.up Bw.up) (q_val (r_indexAddrA Tryz.underlying108 cells_35 rfl rfl (by decide) (by decide) rfl) (q_nil ?_))
 clear m; intro u m
 simp only [ev,zD,zE,zF,zG]
 refine mstoreA m 2 rfl rfl rfl cells_35 (leT rfl) rfl ?_
 clear m; intro u m; simp only [over,zH,zI,zJ,zK,zL,zM,zN,zO,zP,zF,zG,Nat.reduceAdd] at m
 refine n_nil (k6 _ _ ?_)
 refine wp_region_lit (n_val (r_add (m:=0) (n:=1) (r:=1) rfl rfl (by decide)) (n_val (r_move) (n_nil (then_rounds (c_seq fun K8 k8=>wp_region_lit (n_val (r_lssT (m:=1) (n:=3) rfl rfl (by decide)) (n_nil (k8 _ _ ?_))))))))
 refine c_seq fun K9 k9=>c_yes rfl (wp_skip (k9 _ _ ?_))
 refine c_seq fun K10 k10=>wp_block (c_seq fun K11 k11=>wp_region_lit (n_val (r_move) ?_))
 simp only [ev,zD,zE,zF,zG]
 refine n_val (r_assign) (n_nil (k11 _ _ ?_))
 simp only [ev,zD,zE,zF,zG]
 refine mq_tail m 9 follows_mixed (by kernel_rfl) ?_
 simp only [zH,zI,zJ,zK]
 refine q_val (r_move) (q_val (r_move) (q_val (r_indexAddrA Tryz.underlying108 cells_35 rfl rfl (by decide) (by decide) rfl) ?_))
 simp only [ev,zD,zE,zF,zG]
 refine ql rfl (fun u m=>((m.b 2 rfl).lies agg_35 cells_35 rfl rfl)) ?_
 simp only [ev,zD,zE,zF,zG,zH,zI,zJ,zK,Nat.zero_add,Nat.reduceAdd,Nat.reduceMul,Int.reduceToNat]
 refine q_val (r_move) (q_val (r_indexAddrA Tryz.underlying108 cells_35 rfl rfl (by decide) (by decide) rfl) ?_)
 simp only [ev,zD,zE,zF,zG]
 refine ql rfl (fun u m=>((m.b 1 rfl).lies agg_35 cells_35 rfl rfl)) ?_
 simp only [ev,zD,zE,zF,zG,zH,zI,zJ,zK,Nat.zero_add,Nat.reduceAdd,Nat.reduceMul,Int.reduceToNat]
 refine qcP rfl rfl (Sub_c Bw.up Bw.up) (q_val (r_indexAddrA Tryz.underlying108 cells_35 rfl rfl (by decide) (by decide) rfl) (q_nil ?_))
 clear m; intro u m
 simp only [ev,zD,zE,zF,zG]
 refine mstoreA m 2 rfl rfl rfl cells_35 (leT rfl) rfl ?_
 clear m; intro u m; simp only [over,zH,zI,zJ,zK,zL,zM,zN,zO,zP,zF,zG,Nat.reduceAdd] at m
 refine n_nil (k10 _ _ ?_)
 refine wp_region_lit (n_val (r_add (m:=1) (n:=1) (r:=2) rfl rfl (by decide)) (n_val (r_move) (n_nil (then_rounds (c_seq fun K12 k12=>wp_region_lit (n_val (r_lssT (m:=2) (n:=3) rfl rfl (by decide)) (n_nil (k12 _ _ ?_))))))))
 refine c_seq fun K13 k13=>c_yes rfl (wp_skip (k13 _ _ ?_))
 refine c_seq fun K14 k14=>wp_block (c_seq fun K15 k15=>wp_region_lit (n_val (r_move) ?_))
 simp only [ev,zD,zE,zF,zG]
 refine n_val (r_assign) (n_nil (k15 _ _ ?_))
 simp only [ev,zD,zE,zF,zG]
 refine mq_tail m 9 follows_mixed (by kernel_rfl) ?_
 simp only [zH,zI,zJ,zK]
 refine q_val (r_move) (q_val (r_move) (q_val (r_indexAddrA Tryz.underlying108 cells_35 rfl rfl (by decide) (by decide) rfl) ?_))
 simp only [ev,zD,zE,zF,zG]
 refine ql rfl (fun u m=>((m.b 2 rfl).lies agg_35 cells_35 rfl rfl)) ?_
 simp only [ev,zD,zE,zF,zG,zH,zI,zJ,zK,Nat.zero_add,Nat.reduceAdd,Nat.reduceMul,Int.reduceToNat]
 refine q_val (r_move) (q_val (r_indexAddrA Tryz.underlying108 cells_35 rfl rfl (by decide) (by decide) rfl) ?_)
 simp only [ev,zD,zE,zF,zG]
 refine ql rfl (fun u m=>((m.b 1 rfl).lies agg_35 cells_35 rfl rfl)) ?_
 simp only [ev,zD,zE,zF,zG,zH,zI,zJ,zK,Nat.zero_add,Nat.reduceAdd,Nat.reduceMul,Int.reduceToNat]
 refine qcP rfl rfl (Sub_c Bw.up Bw.up) (q_val (r_indexAddrA Tryz.underlying108 cells_35 rfl rfl (by decide) (by decide) rfl) (q_nil ?_))
 clear m; intro u m
 simp only [ev,zD,zE,zF,zG]
 refine mstoreA m 2 rfl rfl rfl cells_35 (leT rfl) rfl ?_
 clear m; intro u m; simp only [over,zH,zI,zJ,zK,zL,zM,zN,zO,zP,zF,zG,Nat.reduceAdd] at m
 refine n_nil (k14 _ _ ?_)
 refine wp_region_lit (n_val (r_add (m:=2) (n:=1) (r:=3) rfl rfl (by decide)) (n_val (r_move) (n_nil (then_rounds (c_seq fun K16 k16=>wp_region_lit (n_val (r_lssF (m:=3) (n:=3) rfl rfl (by decide)) (n_nil (k16 _ _ ?_))))))))
 refine c_seq fun K17 k17=>c_no rfl (wp_exit (k2 _ _ ?_))
 refine c_seq fun K18 k18=>wp_region_lit ?_
 simp only [ev,zD,zE,zF,zG]
 refine n_load rfl ((m.b 2 rfl).full agg_108 cells_108) ?_
 simp only [ev,zD,zE,zF,zG]
 refine mstoreA m 0 rfl rfl rfl cells_108 (leT rfl) rfl ?_
 clear m; intro u m; simp only [over,zH,zI,zJ,zK,zL,zM,zN,zO,zP,zF,zG,Nat.reduceAdd] at m
 refine n_nil (k18 _ _ ?_)
 refine wp_ret ?_
 try simp only [Exit.inBlock,Exit.then,if_true]
 refine fin1 rfl ⟨_,rfl,((m.b 0 rfl).full agg_108 cells_108)⟩ ?_
 try simp only [zD,zE]
 exact ⟨_,rfl,m.ext,rfl⟩
theorem vDot_c {u v : P3} (hu : Bv 300000 u) (hv : Bv 300000 v) : Pure Tryz.prog 71 [wv u,wv v] (W (u.dot v)):=by
 intro w
 refine ⟨en_71,?_⟩
 have m:=Mem.refl w
 go_enter Tryz.func71,Tryz.ntmps71
 refine c_seq fun K1 k1=>wp_region_lit (mboxA m rfl ?_)
 clear m; intro g1 u m
 simp only [ev,zD,zE,zF,zG]
 refine mboxA m rfl ?_
 clear m; intro g2 u m
 simp only [ev,zD,zE,zF,zG]
 refine malloc m zero_35 rfl ?_
 clear m; intro g3 u m
 refine n_nil (k1 _ _ ?_)
 refine c_seq fun K2 k2=>wp_region_lit ?_
 simp only [ev,zD,zE,zF,zG]
 refine malloc m zero_35 rfl ?_
 clear m; intro g4 u m
 refine n_nil (k2 _ _ ?_)
 refine c_seq fun K3 k3=>c_seq fun K4 k4=>wp_region_lit (n_val (r_move) (n_nil (k4 _ _ ?_)))
 refine wp_block (wp_loop_rounds 4 (rounds_step (c_seq fun K5 k5=>wp_region_lit (n_val (r_lssT (m:=0) (n:=3) rfl rfl (by decide)) (n_nil (k5 _ _ ?_))))))
 refine c_seq fun K6 k6=>c_yes rfl (wp_skip (k6 _ _ ?_))
 refine c_seq fun K7 k7=>wp_block (c_seq fun K8 k8=>wp_region_lit (n_val (r_move) ?_))
 simp only [ev,zD,zE,zF,zG]
 refine n_val (r_assign) (n_nil (k8 _ _ ?_))
 simp only [ev,zD,zE,zF,zG]
 refine mq_tail m 9 follows_mixed (by kernel_rfl) ?_
 simp only [zH,zI,zJ,zK]
 refine ql rfl (fun u m=>((m.b 0 rfl).full agg_35 cells_35)) ?_
 simp only [ev,zD,zE,zF,zG]
 refine q_val (r_move) (q_val (r_indexAddrA Tryz.underlying108 cells_35 rfl rfl (by decide) (by decide) rfl) ?_)
 simp only [ev,zD,zE,zF,zG]
 refine ql rfl (fun u m=>((m.b 3 rfl).lies agg_35 cells_35 rfl rfl)) ?_
 simp only [ev,zD,zE,zF,zG,zH,zI,zJ,zK,Nat.zero_add,Nat.reduceAdd,Nat.reduceMul,Int.reduceToNat]
 refine q_val (r_move) (q_val (r_indexAddrA Tryz.underlying108 cells_35 rfl rfl (by decide) (by decide) rfl) ?_)
 simp only [ev,zD,zE,zF,zG]
 refine ql rfl (fun u m=>((m.b 2 rfl).lies agg_35 cells_35 rfl rfl)) ?_
 simp only [ev,zD,zE,zF,zG,zH,zI,zJ,zK,Nat.zero_add,Nat.reduceAdd,Nat.reduceMul,Int.reduceToNat]
 refine qcP rfl rfl (Mul_c Bw.up Bw.up) ?_
 simp only [ev,zD,zE,zF,zG]
 refine qcP rfl rfl (Add0_c Bw.up) (q_nil ?_)
 clear m; intro u m
 simp only [ev,zD,zE,zF,zG]
 refine mstoreA m 0 rfl rfl rfl cells_35 (leT rfl) rfl ?_
 clear m; intro u m; simp only [over,zH,zI,zJ,zK,zL,zM,zN,zO,zP,zF,zG,Nat.reduceAdd] at m
 refine n_nil (k7 _ _ ?_)
 refine wp_region_lit (n_val (r_add (m:=0) (n:=1) (r:=1) rfl rfl (by decide)) (n_val (r_move) (n_nil (then_rounds (c_seq fun K9 k9=>wp_region_lit (n_val (r_lssT (m:=1) (n:=3) rfl rfl (by decide)) (n_nil (k9 _ _ ?_))))))))
 refine c_seq fun K10 k10=>c_yes rfl (wp_skip (k10 _ _ ?_))
 refine c_seq fun K11 k11=>wp_block (c_seq fun K12 k12=>wp_region_lit (n_val (r_move) ?_))
 simp only [ev,zD,zE,zF,zG]
 refine n_val (r_assign) (n_nil (k12 _ _ ?_))
 simp only [ev,zD,zE,zF,zG]
 refine mq_tail m 9 follows_mixed (by kernel_rfl) ?_
 simp only [zH,zI,zJ,zK]
 refine ql rfl (fun u m=>((m.b 0 rfl).full agg_35 cells_35)) ?_
 simp only [ev,zD,zE,zF,zG]
 refine q_val (r_move) (q_val (r_indexAddrA Tryz.underlying108 cells_35 rfl rfl (by decide) (by decide) rfl) ?_)
 simp only [ev,zD,zE,zF,zG]
 refine ql rfl (fun u m=>((m.b 3 rfl).lies agg_35 cells_35 rfl rfl)) ?_
 simp only [ev,zD,zE,zF,zG,zH,zI,zJ,zK,Nat.zero_add,Nat.reduceAdd,Nat.reduceMul,Int.reduceToNat]
 refine q_val (r_move) (q_val (r_indexAddrA Tryz.underlying108 cells_35 rfl rfl (by decide) (by decide) rfl) ?_)
 simp only [ev,zD,zE,zF,zG]
 refine ql rfl (fun u m=>((m.b 2 rfl).lies agg_35 cells_35 rfl rfl)) ?_
 simp only [ev,zD,zE,zF,zG,zH,zI,zJ,zK,Nat.zero_add,Nat.reduceAdd,Nat.reduceMul,Int.reduceToNat]
 refine qcP rfl rfl (Mul_c Bw.up Bw.up) ?_
 simp only [ev,zD,zE,zF,zG]
 refine qcP rfl rfl (Add_c Bw.up Bw.up) (q_nil ?_)
 clear m; intro u m
 simp only [ev,zD,zE,zF,zG]
 refine mstoreA m 0 rfl rfl rfl cells_35 (leT rfl) rfl ?_
 clear m; intro u m; simp only [over,zH,zI,zJ,zK,zL,zM,zN,zO,zP,zF,zG,Nat.reduceAdd] at m
 refine n_nil (k11 _ _ ?_)
 refine wp_region_lit (n_val (r_add (m:=1) (n:=1) (r:=2) rfl rfl (by decide)) (n_val (r_move) (n_nil (then_rounds (c_seq fun K13 k13=>wp_region_lit (n_val (r_lssT (m:=2) (n:=3) rfl rfl (by decide)) (n_nil (k13 _ _ ?_))))))))
 refine c_seq fun K14 k14=>c_yes rfl (wp_skip (k14 _ _ ?_))
 refine c_seq fun K15 k15=>wp_block (c_seq fun K16 k16=>wp_region_lit (n_val (r_move) ?_))
 simp only [ev,zD,zE,zF,zG]
 refine n_val (r_assign) (n_nil (k16 _ _ ?_))
 simp only [ev,zD,zE,zF,zG]
 refine mq_tail m 9 follows_mixed (by kernel_rfl) ?_
 simp only [zH,zI,zJ,zK]
 refine ql rfl (fun u m=>((m.b 0 rfl).full agg_35 cells_35)) ?_
 simp only [ev,zD,zE,zF,zG]
 refine q_val (r_move) (q_val (r_indexAddrA Tryz.underlying108 cells_35 rfl rfl (by decide) (by decide) rfl) ?_)
 simp only [ev,zD,zE,zF,zG]
 refine ql rfl (fun u m=>((m.b 3 rfl).lies agg_35 cells_35 rfl rfl)) ?_
 simp only [ev,zD,zE,zF,zG,zH,zI,zJ,zK,Nat.zero_add,Nat.reduceAdd,Nat.reduceMul,Int.reduceToNat]
 refine q_val (r_move) (q_val (r_indexAddrA Tryz.underlying108 cells_35 rfl rfl (by decide) (by decide) rfl) ?_)
 simp only [ev,zD,zE,zF,zG]
 refine ql rfl (fun u m=>((m.b 2 rfl).lies agg_35 cells_35 rfl rfl)) ?_
 simp only [ev,zD,zE,zF,zG,zH,zI,zJ,zK,Nat.zero_add,Nat.reduceAdd,Nat.reduceMul,Int.reduceToNat]
 refine qcP rfl rfl (Mul_c Bw.up Bw.up) ?_
 simp only [ev,zD,zE,zF,zG]
 refine qcP rfl rfl (Add_c Bw.up Bw.up) (q_nil ?_)
 clear m; intro u m
 simp only [ev,zD,zE,zF,zG]
 refine mstoreA m 0 rfl rfl rfl cells_35 (leT rfl) rfl ?_
 clear m; intro u m; simp only [over,zH,zI,zJ,zK,zL,zM,zN,zO,zP,zF,zG,Nat.reduceAdd] at m
 refine n_nil (k15 _ _ ?_)
 refine wp_region_lit (n_val (r_add (m:=2) (n:=1) (r:=3) rfl rfl (by decide)) (n_val (r_move) (n_nil (then_rounds (c_seq fun K17 k17=>wp_region_lit (n_val (r_lssF (m:=3) (n:=3) rfl rfl (by decide)) (n_nil (k17 _ _ ?_))))))))
 refine c_seq fun K18 k18=>c_no rfl (wp_exit (k3 _ _ ?_))
 refine c_seq fun K19 k19=>wp_region_lit ?_
 simp only [ev,zD,zE,zF,zG]
 refine n_load rfl ((m.b 0 rfl).full agg_35 cells_35) ?_
 simp only [ev,zD,zE,zF,zG]
 refine mstoreA m 1 rfl rfl rfl cells_35 (leT rfl) rfl ?_
 clear m; intro u m; simp only [over,zH,zI,zJ,zK,zL,zM,zN,zO,zP,zF,zG,Nat.reduceAdd] at m
 refine n_nil (k19 _ _ ?_)
 refine wp_ret ?_
 try simp only [Exit.inBlock,Exit.then,if_true]
 refine fin1 rfl ⟨_,rfl,((m.b 1 rfl).full agg_35 cells_35)⟩ ?_
 try simp only [zD,zE]
 exact ⟨_,rfl,m.ext,by rw [← P3.dot0]; rfl⟩
theorem vCross_c {u v : P3} (hu : Bv 300000 u) (hv : Bv 300000 v) : Pure Tryz.prog 106 [wv u,wv v] (wv (u.cross v)):=by
 intro w
 refine ⟨en_106,?_⟩
 have m:=Mem.refl w
 go_enter Tryz.func106,Tryz.ntmps106
 refine c_seq fun K1 k1=>wp_region_lit (mboxA m rfl ?_)
 clear m; intro g1 u m
 simp only [ev,zD,zE,zF,zG]
 refine mboxA m rfl ?_
 clear m; intro g2 u m
 simp only [ev,zD,zE,zF,zG]
 refine malloc m zero_108 rfl ?_
 clear m; intro g3 u m
 refine n_nil (k1 _ _ ?_)
 refine c_seq fun K2 k2=>wp_region_lit ?_
 simp only [ev,zD,zE,zF,zG]
 refine malloc m zero_108 rfl ?_
 clear m; intro g4 u m
 refine n_nil (k2 _ _ ?_)
 refine c_seq fun K3 k3=>c_seq fun K4 k4=>wp_region_lit (n_val (r_move) (n_nil (k4 _ _ ?_)))
 refine wp_block (wp_loop_rounds 4 (rounds_step (c_seq fun K5 k5=>wp_region_lit (n_val (r_lssT (m:=0) (n:=3) rfl rfl (by decide)) (n_nil (k5 _ _ ?_))))))
 refine c_seq fun K6 k6=>c_yes rfl (wp_skip (k6 _ _ ?_))
 refine c_seq fun K7 k7=>wp_block (c_seq fun K8 k8=>wp_region_lit (n_val (r_move) ?_))
 simp only [ev,zD,zE,zF,zG]
 refine n_val (r_assign) (n_nil (k8 _ _ ?_))
 refine c_seq fun K9 k9=>wp_region_lit (n_val (r_move) (n_val (r_add (m:=0) (n:=1) (r:=1) rfl rfl (by decide)) (n_val (r_rem (m:=1) (n:=3) (r:=1) rfl rfl (by decide) (by decide)) ?_)))
 simp only [ev,zD,zE,zF,zG]
 refine n_val (r_move) (n_val (r_add (m:=0) (n:=2) (r:=2) rfl rfl (by decide)) (n_val (r_rem (m:=2) (n:=3) (r:=2) rfl rfl (by decide) (by decide)) (n_val (r_assign) ?_)))
 simp only [ev,zD,zE,zF,zG]
 refine n_val (r_assign) (n_nil (k9 _ _ ?_))
 simp only [ev,zD,zE,zF,zG]
 refine mq_tail m 17 follows_mixed (by kernel_rfl) ?_
 simp only [zH,zI,zJ,zK]
 refine q_val (r_move) (q_val (r_move) (q_val (r_indexAddrA Tryz.underlying108 cells_35 rfl rfl (by decide) (by decide) rfl) ?_))
 simp only [ev,zD,zE,zF,zG]
 refine ql rfl (fun u m=>((m.b 3 rfl).lies agg_35 cells_35 rfl rfl)) ?_
 simp only [ev,zD,zE,zF,zG,zH,zI,zJ,zK,Nat.zero_add,Nat.reduceAdd,Nat.reduceMul,Int.reduceToNat]
 refine q_val (r_move) (q_val (r_indexAddrA Tryz.underlying108 cells_35 rfl rfl (by decide) (by decide) rfl) ?_)
 simp only [ev,zD,zE,zF,zG]
 refine ql rfl (fun u m=>((m.b 2 rfl).lies agg_35 cells_35 rfl rfl)) ?_
 simp only [ev,zD,zE,zF,zG,zH,zI,zJ,zK,Nat.zero_add,Nat.reduceAdd,Nat.reduceMul,Int.reduceToNat]
 refine qcP rfl rfl (Mul_c Bw.up Bw.up) (q_val (r_move) (q_val (r_indexAddrA Tryz.underlying108 cells_35 rfl rfl (by decide) (by decide) rfl) ?_))
 simp only [ev,zD,zE,zF,zG]
 refine ql rfl (fun u m=>((m.b 3 rfl).lies agg_35 cells_35 rfl rfl)) ?_
 simp only [ev,zD,zE,zF,zG,zH,zI,zJ,zK,Nat.zero_add,Nat.reduceAdd,Nat.reduceMul,Int.reduceToNat]
 refine q_val (r_move) (q_val (r_indexAddrA Tryz.underlying108 cells_35 rfl rfl (by decide) (by decide) rfl) ?_)
 simp only [ev,zD,zE,zF,zG]
 refine ql rfl (fun u m=>((m.b 2 rfl).lies agg_35 cells_35 rfl rfl)) ?_
 simp only [ev,zD,zE,zF,zG,zH,zI,zJ,zK,Nat.zero_add,Nat.reduceAdd,Nat.reduceMul,Int.reduceToNat]
 refine qcP rfl rfl (Mul_c Bw.up Bw.up) ?_
 simp only [ev,zD,zE,zF,zG]
 refine qcP rfl rfl (Sub_c Bw.up Bw.up) (q_val (r_indexAddrA Tryz.underlying108 cells_35 rfl rfl (by decide) (by decide) rfl) (q_nil ?_))
 clear m; intro u m
 simp only [ev,zD,zE,zF,zG]
 refine mstoreA m 0 rfl rfl rfl cells_35 (leT rfl) rfl ?_
 clear m; intro u m; simp only [over,zH,zI,zJ,zK,zL,zM,zN,zO,zP,zF,zG,Nat.reduceAdd] at m
 refine n_nil (k7 _ _ ?_)
 refine wp_region_lit (n_val (r_add (m:=0) (n:=1) (r:=1) rfl rfl (by decide)) (n_val (r_move) (n_nil (then_rounds (c_seq fun K10 k10=>wp_region_lit (n_val (r_lssT (m:=1) (n:=3) rfl rfl (by decide)) (n_nil (k10 _ _ ?_))))))))
 refine c_seq fun K11 k11=>c_yes rfl (wp_skip (k11 _ _ ?_))
 refine c_seq fun K12 k12=>wp_block (c_seq fun K13 k13=>wp_region_lit (n_val (r_move) ?_))
 simp only [ev,zD,zE,zF,zG]
 refine n_val (r_assign) (n_nil (k13 _ _ ?_))
 refine c_seq fun K14 k14=>wp_region_lit (n_val (r_move) (n_val (r_add (m:=1) (n:=1) (r:=2) rfl rfl (by decide)) (n_val (r_rem (m:=2) (n:=3) (r:=2) rfl rfl (by decide) (by decide)) ?_)))
 simp only [ev,zD,zE,zF,zG]
 refine n_val (r_move) (n_val (r_add (m:=1) (n:=2) (r:=3) rfl rfl (by decide)) (n_val (r_rem (m:=3) (n:=3) (r:=0) rfl rfl (by decide) (by decide)) (n_val (r_assign) ?_)))
 simp only [ev,zD,zE,zF,zG]
 refine n_val (r_assign) (n_nil (k14 _ _ ?_))
 simp only [ev,zD,zE,zF,zG]
 refine mq_tail m 17 follows_mixed (by kernel_rfl) ?_
 simp only [zH,zI,zJ,zK]
 refine q_val (r_move) (q_val (r_move) (q_val (r_indexAddrA Tryz.underlying108 cells_35 rfl rfl (by decide) (by decide) rfl) ?_))
 simp only [ev,zD,zE,zF,zG]
 refine ql rfl (fun u m=>((m.b 3 rfl).lies agg_35 cells_35 rfl rfl)) ?_
 simp only [ev,zD,zE,zF,zG,zH,zI,zJ,zK,Nat.zero_add,Nat.reduceAdd,Nat.reduceMul,Int.reduceToNat]
 refine q_val (r_move) (q_val (r_indexAddrA Tryz.underlying108 cells_35 rfl rfl (by decide) (by decide) rfl) ?_)
 simp only [ev,zD,zE,zF,zG]
 refine ql rfl (fun u m=>((m.b 2 rfl).lies agg_35 cells_35 rfl rfl)) ?_
 simp only [ev,zD,zE,zF,zG,zH,zI,zJ,zK,Nat.zero_add,Nat.reduceAdd,Nat.reduceMul,Int.reduceToNat]
 refine qcP rfl rfl (Mul_c Bw.up Bw.up) (q_val (r_move) (q_val (r_indexAddrA Tryz.underlying108 cells_35 rfl rfl (by decide) (by decide) rfl) ?_))
 simp only [ev,zD,zE,zF,zG]
 refine ql rfl (fun u m=>((m.b 3 rfl).lies agg_35 cells_35 rfl rfl)) ?_
 simp only [ev,zD,zE,zF,zG,zH,zI,zJ,zK,Nat.zero_add,Nat.reduceAdd,Nat.reduceMul,Int.reduceToNat]
 refine q_val (r_move) (q_val (r_indexAddrA Tryz.underlying108 cells_35 rfl rfl (by decide) (by decide) rfl) ?_)
 simp only [ev,zD,zE,zF,zG]
 refine ql rfl (fun u m=>((m.b 2 rfl).lies agg_35 cells_35 rfl rfl)) ?_
 simp only [ev,zD,zE,zF,zG,zH,zI,zJ,zK,Nat.zero_add,Nat.reduceAdd,Nat.reduceMul,Int.reduceToNat]
 refine qcP rfl rfl (Mul_c Bw.up Bw.up) ?_
 simp only [ev,zD,zE,zF,zG]
 refine qcP rfl rfl (Sub_c Bw.up Bw.up) (q_val (r_indexAddrA Tryz.underlying108 cells_35 rfl rfl (by decide) (by decide) rfl) (q_nil ?_))
 clear m; intro u m
 simp only [ev,zD,zE,zF,zG]
 refine mstoreA m 0 rfl rfl rfl cells_35 (leT rfl) rfl ?_
 clear m; intro u m; simp only [over,zH,zI,zJ,zK,zL,zM,zN,zO,zP,zF,zG,Nat.reduceAdd] at m
 refine n_nil (k12 _ _ ?_)
 refine wp_region_lit (n_val (r_add (m:=1) (n:=1) (r:=2) rfl rfl (by decide)) (n_val (r_move) (n_nil (then_rounds (c_seq fun K15 k15=>wp_region_lit (n_val (r_lssT (m:=2) (n:=3) rfl rfl (by decide)) (n_nil (k15 _ _ ?_))))))))
 refine c_seq fun K16 k16=>c_yes rfl (wp_skip (k16 _ _ ?_))
 refine c_seq fun K17 k17=>wp_block (c_seq fun K18 k18=>wp_region_lit (n_val (r_move) ?_))
 simp only [ev,zD,zE,zF,zG]
 refine n_val (r_assign) (n_nil (k18 _ _ ?_))
 refine c_seq fun K19 k19=>wp_region_lit (n_val (r_move) (n_val (r_add (m:=2) (n:=1) (r:=3) rfl rfl (by decide)) (n_val (r_rem (m:=3) (n:=3) (r:=0) rfl rfl (by decide) (by decide)) ?_)))
 simp only [ev,zD,zE,zF,zG]
 refine n_val (r_move) (n_val (r_add (m:=2) (n:=2) (r:=4) rfl rfl (by decide)) (n_val (r_rem (m:=4) (n:=3) (r:=1) rfl rfl (by decide) (by decide)) (n_val (r_assign) ?_)))
 simp only [ev,zD,zE,zF,zG]
 refine n_val (r_assign) (n_nil (k19 _ _ ?_))
 simp only [ev,zD,zE,zF,zG]
 refine mq_tail m 17 follows_mixed (by kernel_rfl) ?_
 simp only [zH,zI,zJ,zK]
 refine q_val (r_move) (q_val (r_move) (q_val (r_indexAddrA Tryz.underlying108 cells_35 rfl rfl (by decide) (by decide) rfl) ?_))
 simp only [ev,zD,zE,zF,zG]
 refine ql rfl (fun u m=>((m.b 3 rfl).lies agg_35 cells_35 rfl rfl)) ?_
 simp only [ev,zD,zE,zF,zG,zH,zI,zJ,zK,Nat.zero_add,Nat.reduceAdd,Nat.reduceMul,Int.reduceToNat]
 refine q_val (r_move) (q_val (r_indexAddrA Tryz.underlying108 cells_35 rfl rfl (by decide) (by decide) rfl) ?_)
 simp only [ev,zD,zE,zF,zG]
 refine ql rfl (fun u m=>((m.b 2 rfl).lies agg_35 cells_35 rfl rfl)) ?_
 simp only [ev,zD,zE,zF,zG,zH,zI,zJ,zK,Nat.zero_add,Nat.reduceAdd,Nat.reduceMul,Int.reduceToNat]
 refine qcP rfl rfl (Mul_c Bw.up Bw.up) (q_val (r_move) (q_val (r_indexAddrA Tryz.underlying108 cells_35 rfl rfl (by decide) (by decide) rfl) ?_))
 simp only [ev,zD,zE,zF,zG]
 refine ql rfl (fun u m=>((m.b 3 rfl).lies agg_35 cells_35 rfl rfl)) ?_
 simp only [ev,zD,zE,zF,zG,zH,zI,zJ,zK,Nat.zero_add,Nat.reduceAdd,Nat.reduceMul,Int.reduceToNat]
 refine q_val (r_move) (q_val (r_indexAddrA Tryz.underlying108 cells_35 rfl rfl (by decide) (by decide) rfl) ?_)
 simp only [ev,zD,zE,zF,zG]
 refine ql rfl (fun u m=>((m.b 2 rfl).lies agg_35 cells_35 rfl rfl)) ?_
 simp only [ev,zD,zE,zF,zG,zH,zI,zJ,zK,Nat.zero_add,Nat.reduceAdd,Nat.reduceMul,Int.reduceToNat]
 refine qcP rfl rfl (Mul_c Bw.up Bw.up) ?_
 simp only [ev,zD,zE,zF,zG]
 refine qcP rfl rfl (Sub_c Bw.up Bw.up) (q_val (r_indexAddrA Tryz.underlying108 cells_35 rfl rfl (by decide) (by decide) rfl) (q_nil ?_))
 clear m; intro u m
 simp only [ev,zD,zE,zF,zG]
 refine mstoreA m 0 rfl rfl rfl cells_35 (leT rfl) rfl ?_
 clear m; intro u m; simp only [over,zH,zI,zJ,zK,zL,zM,zN,zO,zP,zF,zG,Nat.reduceAdd] at m
 refine n_nil (k17 _ _ ?_)
 refine wp_region_lit (n_val (r_add (m:=2) (n:=1) (r:=3) rfl rfl (by decide)) (n_val (r_move) (n_nil (then_rounds (c_seq fun K20 k20=>wp_region_lit (n_val (r_lssF (m:=3) (n:=3) rfl rfl (by decide)) (n_nil (k20 _ _ ?_))))))))
 refine c_seq fun K21 k21=>c_no rfl (wp_exit (k3 _ _ ?_))
 refine c_seq fun K22 k22=>wp_region_lit ?_
 simp only [ev,zD,zE,zF,zG]
 refine n_load rfl ((m.b 0 rfl).full agg_108 cells_108) ?_
 simp only [ev,zD,zE,zF,zG]
 refine mstoreA m 1 rfl rfl rfl cells_108 (leT rfl) rfl ?_
 clear m; intro u m; simp only [over,zH,zI,zJ,zK,zL,zM,zN,zO,zP,zF,zG,Nat.reduceAdd] at m
 refine n_nil (k22 _ _ ?_)
 refine wp_ret ?_
 try simp only [Exit.inBlock,Exit.then,if_true]
 refine fin1 rfl ⟨_,rfl,((m.b 1 rfl).full agg_108 cells_108)⟩ ?_
 try simp only [zD,zE]
 exact ⟨_,rfl,m.ext,rfl⟩
theorem sign4_c {n : Int} {v : P3} {g0 : Nat} (w : World) (hn : Bd 400000 n) (hv : Bv 400000 v) (hB0 : Blk w g0 [.bool (wneg n),.string (wmag n),.bool (wneg v.x),.string (wmag v.x),.bool (wneg v.y),.string (wmag v.y),.bool (wneg v.z),.string (wmag v.z)] 35) : Does Tryz.prog 73 [.slice (some ⟨g0,0,none⟩) 4 4] w (fun x _=>x = .int .i64 (sgn4 n v)):=by
 refine ⟨en_73,?_⟩
 have m:=Mem.refl w
 go_enter Tryz.func73,Tryz.ntmps73
 refine c_seq fun K1 k1=>wp_region_lit (n_val (r_assign) (n_nil (k1 _ _ ?_)))
 refine c_seq fun K2 k2=>c_seq fun K3 k3=>wp_region_lit (n_val (r_move) (n_val (r_lenS rfl Tryz.underlying155 rfl) (n_val (r_move) ?_)))
 simp only [ev,zD,zE,zF,zG]
 refine n_nil (k3 _ _ ?_)
 refine wp_block (wp_loop_rounds 5 (rounds_step (c_seq fun K4 k4=>wp_region_lit (n_val (r_lssT (m:=0) (n:=4) rfl rfl (by decide)) (n_nil (k4 _ _ ?_))))))
 refine c_seq fun K5 k5=>c_yes rfl (wp_skip (k5 _ _ ?_))
 refine c_seq fun K6 k6=>wp_block (c_seq fun K7 k7=>wp_region_lit ?_)
 simp only [ev,zD,zE,zF,zG]
 refine n_val (r_indexAddrS Tryz.underlying155 cells_35 rfl rfl (by decide) (by omega) rfl) ?_
 simp only [ev,zD,zE,zF,zG]
 refine n_load rfl ((hB0.ext m.ext).lies agg_35 cells_35 rfl rfl) ?_
 simp only [ev,zD,zE,zF,zG,zH,zI,zJ,zK,Nat.zero_add,Nat.reduceAdd,Nat.reduceMul,Int.reduceToNat]
 refine malloc m zero_35 rfl ?_
 clear m; intro g1 u m
 simp only [ev,zD,zE,zF,zG]
 refine mstoreA m 0 rfl rfl rfl cells_35 (leT rfl) rfl ?_
 clear m; intro u m; simp only [over,zH,zI,zJ,zK,zL,zM,zN,zO,zP,zF,zG,Nat.reduceAdd] at m
 refine n_nil (k7 _ _ ?_)
 refine c_seq fun K8 k8=>wp_region_lit (n_load rfl ((m.b 0 rfl).full agg_35 cells_35) ?_)
 simp only [ev,zD,zE,zF,zG]
 refine mcallP m rfl rfl (Sign_c (a:=n) (hn.mono (by decide))) ?_
 clear m; intro u m
 refine n_val (r_assign) (n_nil (k8 _ _ ?_))
 refine c_seq fun K9 k9=>wp_region_lit (n_val (r_move) (n_val (r_neq rfl rfl) ?_))
 simp only [ev,zD,zE,zF,zG]
 refine n_nil (k9 _ _ ?_)
 refine c_if rfl (fun hc2=>?_) (fun hc2=>?_)
 ·
  refine c_seq fun K10 k10=>wp_region_lit (n_val (r_move) (n_val (r_assign) (n_nil (k10 _ _ ?_))))
  refine wp_ret ?_
  simp only [ev,zD,zE,zF,zG]
  try simp only [Exit.inBlock,Exit.then,if_true]
  refine fin1 rfl rfl ?_
  try simp only [zD,zE]
  exact ⟨_,rfl,m.ext,by rw [sgn4,if_pos hc2]⟩
 ·
  have e0 : isign n = 0:=Decidable.not_not.1 hc2
  refine wp_skip (k6 _ _ ?_)
  refine wp_region_lit (n_val (r_add (m:=0) (n:=1) (r:=1) rfl rfl (by decide)) (n_val (r_move) (n_nil (then_rounds (c_seq fun K11 k11=>wp_region_lit (n_val (r_lssT (m:=1) (n:=4) rfl rfl (by decide)) (n_nil (k11 _ _ ?_))))))))
  refine c_seq fun K12 k12=>c_yes rfl (wp_skip (k12 _ _ ?_))
  refine c_seq fun K13 k13=>wp_block (c_seq fun K14 k14=>wp_region_lit ?_)
  simp only [ev,zD,zE,zF,zG]
  refine n_val (r_indexAddrS Tryz.underlying155 cells_35 rfl rfl (by decide) (by omega) rfl) ?_
  simp only [ev,zD,zE,zF,zG]
  refine n_load rfl ((hB0.ext m.ext).lies agg_35 cells_35 rfl rfl) ?_
  simp only [ev,zD,zE,zF,zG,zH,zI,zJ,zK,Nat.zero_add,Nat.reduceAdd,Nat.reduceMul,Int.reduceToNat]
  refine malloc m zero_35 rfl ?_
  clear m; intro g2 u m
  simp only [ev,zD,zE,zF,zG]
  refine mstoreA m 0 rfl rfl rfl cells_35 (leT rfl) rfl ?_
  clear m; intro u m; simp only [over,zH,zI,zJ,zK,zL,zM,zN,zO,zP,zF,zG,Nat.reduceAdd] at m
  refine n_nil (k14 _ _ ?_)
  refine c_seq fun K15 k15=>wp_region_lit (n_load rfl ((m.b 0 rfl).full agg_35 cells_35) ?_)
  simp only [ev,zD,zE,zF,zG]
  refine mcallP m rfl rfl (Sign_c (a:=v.x) (hv.x.mono (by decide))) ?_
  clear m; intro u m
  refine n_val (r_assign) (n_nil (k15 _ _ ?_))
  refine c_seq fun K16 k16=>wp_region_lit (n_val (r_move) (n_val (r_neq rfl rfl) ?_))
  simp only [ev,zD,zE,zF,zG]
  refine n_nil (k16 _ _ ?_)
  refine c_if rfl (fun hc2=>?_) (fun hc2=>?_)
  ·
   refine c_seq fun K17 k17=>wp_region_lit (n_val (r_move) (n_val (r_assign) (n_nil (k17 _ _ ?_))))
   refine wp_ret ?_
   simp only [ev,zD,zE,zF,zG]
   try simp only [Exit.inBlock,Exit.then,if_true]
   refine fin1 rfl rfl ?_
   try simp only [zD,zE]
   exact ⟨_,rfl,m.ext,by rw [sgn4,if_neg (fun h=>h e0),if_pos hc2]⟩
  ·
   have e1 : isign v.x = 0:=Decidable.not_not.1 hc2
   refine wp_skip (k13 _ _ ?_)
   refine wp_region_lit (n_val (r_add (m:=1) (n:=1) (r:=2) rfl rfl (by decide)) (n_val (r_move) (n_nil (then_rounds (c_seq fun K18 k18=>wp_region_lit (n_val (r_lssT (m:=2) (n:=4) rfl rfl (by decide)) (n_nil (k18 _ _ ?_))))))))
   refine c_seq fun K19 k19=>c_yes rfl (wp_skip (k19 _ _ ?_))
   refine c_seq fun K20 k20=>wp_block (c_seq fun K21 k21=>wp_region_lit ?_)
   simp only [ev,zD,zE,zF,zG]
   refine n_val (r_indexAddrS Tryz.underlying155 cells_35 rfl rfl (by decide) (by omega) rfl) ?_
   simp only [ev,zD,zE,zF,zG]
   refine n_load rfl ((hB0.ext m.ext).lies agg_35 cells_35 rfl rfl) ?_
   simp only [ev,zD,zE,zF,zG,zH,zI,zJ,zK,Nat.zero_add,Nat.reduceAdd,Nat.reduceMul,Int.reduceToNat]
   refine malloc m zero_35 rfl ?_
   clear m; intro g3 u m
   simp only [ev,zD,zE,zF,zG]
   refine mstoreA m 0 rfl rfl rfl cells_35 (leT rfl) rfl ?_
   clear m; intro u m; simp only [over,zH,zI,zJ,zK,zL,zM,zN,zO,zP,zF,zG,Nat.reduceAdd] at m
   refine n_nil (k21 _ _ ?_)
   refine c_seq fun K22 k22=>wp_region_lit (n_load rfl ((m.b 0 rfl).full agg_35 cells_35) ?_)
   simp only [ev,zD,zE,zF,zG]
   refine mcallP m rfl rfl (Sign_c (a:=v.y) (hv.y.mono (by decide))) ?_
   clear m; intro u m
   refine n_val (r_assign) (n_nil (k22 _ _ ?_))
   refine c_seq fun K23 k23=>wp_region_lit (n_val (r_move) (n_val (r_neq rfl rfl) ?_))
   simp only [ev,zD,zE,zF,zG]
   refine n_nil (k23 _ _ ?_)
   refine c_if rfl (fun hc2=>?_) (fun hc2=>?_)
   ·
    refine c_seq fun K24 k24=>wp_region_lit (n_val (r_move) (n_val (r_assign) (n_nil (k24 _ _ ?_))))
    refine wp_ret ?_
    simp only [ev,zD,zE,zF,zG]
    try simp only [Exit.inBlock,Exit.then,if_true]
    refine fin1 rfl rfl ?_
    try simp only [zD,zE]
    exact ⟨_,rfl,m.ext,by rw [sgn4,if_neg (fun h=>h e0),if_neg (fun h=>h e1),if_pos hc2]⟩
   ·
    have e2 : isign v.y = 0:=Decidable.not_not.1 hc2
    refine wp_skip (k20 _ _ ?_)
    refine wp_region_lit (n_val (r_add (m:=2) (n:=1) (r:=3) rfl rfl (by decide)) (n_val (r_move) (n_nil (then_rounds (c_seq fun K25 k25=>wp_region_lit (n_val (r_lssT (m:=3) (n:=4) rfl rfl (by decide)) (n_nil (k25 _ _ ?_))))))))
    refine c_seq fun K26 k26=>c_yes rfl (wp_skip (k26 _ _ ?_))
    refine c_seq fun K27 k27=>wp_block (c_seq fun K28 k28=>wp_region_lit ?_)
    simp only [ev,zD,zE,zF,zG]
    refine n_val (r_indexAddrS Tryz.underlying155 cells_35 rfl rfl (by decide) (by omega) rfl) ?_
    simp only [ev,zD,zE,zF,zG]
    refine n_load rfl ((hB0.ext m.ext).lies agg_35 cells_35 rfl rfl) ?_
    simp only [ev,zD,zE,zF,zG,zH,zI,zJ,zK,Nat.zero_add,Nat.reduceAdd,Nat.reduceMul,Int.reduceToNat]
    refine malloc m zero_35 rfl ?_
    clear m; intro g4 u m
    simp only [ev,zD,zE,zF,zG]
    refine mstoreA m 0 rfl rfl rfl cells_35 (leT rfl) rfl ?_
    clear m; intro u m; simp only [over,zH,zI,zJ,zK,zL,zM,zN,zO,zP,zF,zG,Nat.reduceAdd] at m
    refine n_nil (k28 _ _ ?_)
    refine c_seq fun K29 k29=>wp_region_lit (n_load rfl ((m.b 0 rfl).full agg_35 cells_35) ?_)
    simp only [ev,zD,zE,zF,zG]
    refine mcallP m rfl rfl (Sign_c (a:=v.z) (hv.z.mono (by decide))) ?_
    clear m; intro u m
    refine n_val (r_assign) (n_nil (k29 _ _ ?_))
    refine c_seq fun K30 k30=>wp_region_lit (n_val (r_move) (n_val (r_neq rfl rfl) ?_))
    simp only [ev,zD,zE,zF,zG]
    refine n_nil (k30 _ _ ?_)
    refine c_if rfl (fun hc2=>?_) (fun hc2=>?_)
    ·
     refine c_seq fun K31 k31=>wp_region_lit (n_val (r_move) (n_val (r_assign) (n_nil (k31 _ _ ?_))))
     refine wp_ret ?_
     simp only [ev,zD,zE,zF,zG]
     try simp only [Exit.inBlock,Exit.then,if_true]
     refine fin1 rfl rfl ?_
     try simp only [zD,zE]
     exact ⟨_,rfl,m.ext,by rw [sgn4,if_neg (fun h=>h e0),if_neg (fun h=>h e1),if_neg (fun h=>h e2),if_pos hc2]⟩
    ·
     have e3 : isign v.z = 0:=Decidable.not_not.1 hc2
     refine wp_skip (k27 _ _ ?_)
     refine wp_region_lit (n_val (r_add (m:=3) (n:=1) (r:=4) rfl rfl (by decide)) (n_val (r_move) (n_nil (then_rounds (c_seq fun K32 k32=>wp_region_lit (n_val (r_lssF (m:=4) (n:=4) rfl rfl (by decide)) (n_nil (k32 _ _ ?_))))))))
     refine c_seq fun K33 k33=>c_no rfl (wp_exit (k2 _ _ ?_))
     refine c_seq fun K34 k34=>wp_region_lit (n_val (r_assign) ?_)
     simp only [ev,zD,zE,zF,zG]
     refine n_nil (k34 _ _ ?_)
     refine wp_ret ?_
     try simp only [Exit.inBlock,Exit.then,if_true]
     refine fin1 rfl rfl ?_
     try simp only [zD,zE]
     exact ⟨_,rfl,m.ext,by rw [sgn4,if_neg (fun h=>h e0),if_neg (fun h=>h e1),if_neg (fun h=>h e2),if_neg (fun h=>h e3)]⟩
theorem sign1_c {n : Int} {g0 : Nat} (w : World) (hn : Bd 400000 n) (hB0 : Blk w g0 [.bool (wneg n),.string (wmag n)] 35) : Does Tryz.prog 73 [.slice (some ⟨g0,0,none⟩) 1 1] w (fun x _=>x = .int .i64 (isign n)):=by
 refine ⟨en_73,?_⟩
 have m:=Mem.refl w
 go_enter Tryz.func73,Tryz.ntmps73
 refine c_seq fun K1 k1=>wp_region_lit (n_val (r_assign) (n_nil (k1 _ _ ?_)))
 refine c_seq fun K2 k2=>c_seq fun K3 k3=>wp_region_lit (n_val (r_move) (n_val (r_lenS rfl Tryz.underlying155 rfl) (n_val (r_move) ?_)))
 simp only [ev,zD,zE,zF,zG]
 refine n_nil (k3 _ _ ?_)
 refine wp_block (wp_loop_rounds 2 (rounds_step (c_seq fun K4 k4=>wp_region_lit (n_val (r_lssT (m:=0) (n:=1) rfl rfl (by decide)) (n_nil (k4 _ _ ?_))))))
 refine c_seq fun K5 k5=>c_yes rfl (wp_skip (k5 _ _ ?_))
 refine c_seq fun K6 k6=>wp_block (c_seq fun K7 k7=>wp_region_lit ?_)
 simp only [ev,zD,zE,zF,zG]
 refine n_val (r_indexAddrS Tryz.underlying155 cells_35 rfl rfl (by decide) (by omega) rfl) ?_
 simp only [ev,zD,zE,zF,zG]
 refine n_load rfl ((hB0.ext m.ext).lies agg_35 cells_35 rfl rfl) ?_
 simp only [ev,zD,zE,zF,zG,zH,zI,zJ,zK,Nat.zero_add,Nat.reduceAdd,Nat.reduceMul,Int.reduceToNat]
 refine malloc m zero_35 rfl ?_
 clear m; intro g1 u m
 simp only [ev,zD,zE,zF,zG]
 refine mstoreA m 0 rfl rfl rfl cells_35 (leT rfl) rfl ?_
 clear m; intro u m; simp only [over,zH,zI,zJ,zK,zL,zM,zN,zO,zP,zF,zG,Nat.reduceAdd] at m
 refine n_nil (k7 _ _ ?_)
 refine c_seq fun K8 k8=>wp_region_lit (n_load rfl ((m.b 0 rfl).full agg_35 cells_35) ?_)
 simp only [ev,zD,zE,zF,zG]
 refine mcallP m rfl rfl (Sign_c (a:=n) (hn.mono (by decide))) ?_
 clear m; intro u m
 refine n_val (r_assign) (n_nil (k8 _ _ ?_))
 refine c_seq fun K9 k9=>wp_region_lit (n_val (r_move) (n_val (r_neq rfl rfl) ?_))
 simp only [ev,zD,zE,zF,zG]
 refine n_nil (k9 _ _ ?_)
 refine c_if rfl (fun hc2=>?_) (fun hc2=>?_)
 ·
  refine c_seq fun K10 k10=>wp_region_lit (n_val (r_move) (n_val (r_assign) (n_nil (k10 _ _ ?_))))
  refine wp_ret ?_
  simp only [ev,zD,zE,zF,zG]
  try simp only [Exit.inBlock,Exit.then,if_true]
  refine fin1 rfl rfl ?_
  try simp only [zD,zE]
  exact ⟨_,rfl,m.ext,rfl⟩
 ·
  refine wp_skip (k6 _ _ ?_)
  refine wp_region_lit (n_val (r_add (m:=0) (n:=1) (r:=1) rfl rfl (by decide)) (n_val (r_move) (n_nil (then_rounds (c_seq fun K11 k11=>wp_region_lit (n_val (r_lssF (m:=1) (n:=1) rfl rfl (by decide)) (n_nil (k11 _ _ ?_))))))))
  refine c_seq fun K12 k12=>c_no rfl (wp_exit (k2 _ _ ?_))
  refine c_seq fun K13 k13=>wp_region_lit (n_val (r_assign) ?_)
  simp only [ev,zD,zE,zF,zG]
  refine n_nil (k13 _ _ ?_)
  refine wp_ret ?_
  try simp only [Exit.inBlock,Exit.then,if_true]
  refine fin1 rfl rfl ?_
  try simp only [zD,zE]
  exact ⟨_,rfl,m.ext,by rw [Decidable.not_not.1 hc2]⟩
theorem raySigns_c {n : Int} {v : P3} (hn : Bd 400000 n) (hv : Bv 400000 v) : Pure Tryz.prog 72 [W n,wv v] (.int .i64 (sgn4 n v)):=by
 intro w
 refine ⟨en_72,?_⟩
 have m:=Mem.refl w
 go_enter Tryz.func72,Tryz.ntmps72
 refine c_seq fun K1 k1=>wp_region_lit (mboxA m rfl ?_)
 clear m; intro g1 u m
 simp only [ev,zD,zE,zF,zG]
 refine mboxA m rfl ?_
 clear m; intro g2 u m
 refine n_val (r_assign) (n_nil (k1 _ _ ?_))
 refine c_seq fun K2 k2=>wp_region_lit ?_
 simp only [ev,zD,zE,zF,zG]
 refine n_load rfl ((m.b 1 rfl).full agg_35 cells_35) ?_
 simp only [ev,zD,zE,zF,zG]
 refine n_val (r_indexAddrA Tryz.underlying108 cells_35 rfl rfl (by decide) (by decide) rfl) ?_
 simp only [ev,zD,zE,zF,zG]
 refine n_load rfl ((m.b 0 rfl).lies agg_35 cells_35 rfl rfl) ?_
 simp only [ev,zD,zE,zF,zG,zH,zI,zJ,zK,Nat.zero_add,Nat.reduceAdd,Nat.reduceMul,Int.reduceToNat]
 refine n_val (r_indexAddrA Tryz.underlying108 cells_35 rfl rfl (by decide) (by decide) rfl) ?_
 simp only [ev,zD,zE,zF,zG]
 refine n_load rfl ((m.b 0 rfl).lies agg_35 cells_35 rfl rfl) ?_
 simp only [ev,zD,zE,zF,zG,zH,zI,zJ,zK,Nat.zero_add,Nat.reduceAdd,Nat.reduceMul,Int.reduceToNat]
 refine n_val (r_indexAddrA Tryz.underlying108 cells_35 rfl rfl (by decide) (by decide) rfl) ?_
 simp only [ev,zD,zE,zF,zG]
 refine n_load rfl ((m.b 0 rfl).lies agg_35 cells_35 rfl rfl) ?_
 simp only [ev,zD,zE,zF,zG,zH,zI,zJ,zK,Nat.zero_add,Nat.reduceAdd,Nat.reduceMul,Int.reduceToNat]
 refine n_bs_155_4 rfl rfl rfl rfl ?_
 intro u g3 e hg hB; replace m:=m.newB e hg hB; clear e hg hB
 simp only [ev,zD,zE,zF,zG]
 refine mcall m rfl rfl (sign4_c (n:=n) (v:=v) _ hn hv (m.b 0 rfl)) ?_
 clear m; rintro v u m rfl
 refine n_val (r_assign) (n_nil (k2 _ _ ?_))
 refine wp_ret ?_
 simp only [ev,zD,zE,zF,zG]
 try simp only [Exit.inBlock,Exit.then,if_true]
 refine fin1 rfl rfl ?_
 try simp only [zD,zE]
 exact ⟨_,rfl,m.ext,rfl⟩
theorem rayFrac_c {n d : Int} (hn : Bd 400000 n) (hd : Bd 400000 d) (h0 : d ≠ 0) : Pure Tryz.prog 62 [W n,W d] (Q (Rat.divInt n d)):=by
 intro w
 refine ⟨en_62,?_⟩
 have m:=Mem.refl w
 go_enter Tryz.func62,Tryz.ntmps62
 refine c_seq fun K1 k1=>wp_region_lit (mboxA m rfl ?_)
 clear m; intro g1 u m
 simp only [ev,zD,zE,zF,zG]
 refine mboxA m rfl ?_
 clear m; intro g2 u m
 simp only [ev,zD,zE,zF,zG]
 refine malloc m zero_37 rfl ?_
 clear m; intro g3 u m
 refine n_nil (k1 _ _ ?_)
 refine c_seq fun K2 k2=>wp_region_lit ?_
 simp only [ev,zD,zE,zF,zG]
 refine n_load rfl ((m.b 2 rfl).full agg_35 cells_35) ?_
 simp only [ev,zD,zE,zF,zG]
 refine n_load rfl ((m.b 1 rfl).full agg_35 cells_35) ?_
 simp only [ev,zD,zE,zF,zG]
 refine mcallP m rfl rfl (Frac_c hn hd h0) ?_
 clear m; intro u m
 refine n_val (r_move) (n_val (r_extract rfl rfl) (n_val (r_extract rfl rfl) ?_))
 simp only [ev,zD,zE,zF,zG]
 refine malloc m zero_37 rfl ?_
 clear m; intro g4 u m
 simp only [ev,zD,zE,zF,zG]
 refine mstoreA m 0 rfl rfl rfl cells_37 (leT rfl) rfl ?_
 clear m; intro u m; simp only [over,zH,zI,zJ,zK,zL,zM,zN,zO,zP,zF,zG,Nat.reduceAdd] at m
 refine n_val (r_assign) (n_nil (k2 _ _ ?_))
 refine c_seq fun K3 k3=>wp_region_lit ?_
 simp only [ev,zD,zE,zF,zG]
 refine n_load rfl ((m.b 0 rfl).full agg_37 cells_37) ?_
 simp only [ev,zD,zE,zF,zG]
 refine mstoreA m 1 rfl rfl rfl cells_37 (leT rfl) rfl ?_
 clear m; intro u m; simp only [over,zH,zI,zJ,zK,zL,zM,zN,zO,zP,zF,zG,Nat.reduceAdd] at m
 refine n_nil (k3 _ _ ?_)
 refine wp_ret ?_
 try simp only [Exit.inBlock,Exit.then,if_true]
 refine fin1 rfl ⟨_,rfl,((m.b 1 rfl).full agg_37 cells_37)⟩ ?_
 try simp only [zD,zE]
 exact ⟨_,rfl,m.ext,rfl⟩
theorem rayNone_c  : Pure Tryz.prog 43 [] (Q 0):=by
 intro w
 refine ⟨en_43,?_⟩
 have m:=Mem.refl w
 go_enter Tryz.func43,Tryz.ntmps43
 refine c_seq fun K1 k1=>wp_region_lit (malloc m zero_37 rfl ?_)
 clear m; intro g1 u m
 refine n_nil (k1 _ _ ?_)
 refine c_seq fun K2 k2=>?_
 simp only [ev,zD,zE,zF,zG]
 haveI : Iw (1 : Int):=⟨⟨by decide,by decide⟩⟩
 refine wp_region_lit (n_val (r_build_35_) ?_)
 simp only [ev,zD,zE,zF,zG]
 refine mcallP m rfl rfl (From_c (n:=1) Iw.h) ?_
 clear m; intro u m
 simp only [ev,zD,zE,zF,zG]
 refine mcallP m rfl rfl (rayFrac_c (n:=0) (d:=1) (bd_zero _) Bw.up (by decide)) ?_
 clear m; intro u m
 simp only [ev,zD,zE,zF,zG]
 refine mstoreA m 0 rfl rfl rfl cells_37 (leT rfl) rfl ?_
 clear m; intro u m; simp only [over,zH,zI,zJ,zK,zL,zM,zN,zO,zP,zF,zG,Nat.reduceAdd] at m
 refine n_nil (k2 _ _ ?_)
 refine wp_ret ?_
 try simp only [Exit.inBlock,Exit.then,if_true]
 refine fin1 rfl ⟨_,rfl,((m.b 0 rfl).full agg_37 cells_37)⟩ ?_
 try simp only [zD,zE]
 exact ⟨_,rfl,m.ext,by rw [Rat.zero_divInt]; rfl⟩
theorem permitted_c {r : Ray} [IR r] : Pure Tryz.prog 63 [rayV r] (.bool (decide r.ok)):=by
 intro w
 refine ⟨en_63,?_⟩
 have m:=Mem.refl w
 go_enter Tryz.func63,Tryz.ntmps63
 refine c_seq fun K1 k1=>wp_region_lit (mboxA m rfl ?_)
 clear m; intro g1 u m
 refine n_val (r_assign) (n_nil (k1 _ _ ?_))
 refine c_seq fun K2 k2=>wp_region_lit (n_val (r_fieldAddr (c:=0) Tryz.underlying25 rfl cells_3 rfl rfl) ?_)
 simp only [ev,zD,zE,zF,zG]
 refine n_load rfl ((m.b 0 rfl).lies1 agg_3 rfl) ?_
 simp only [ev,zD,zE,zF,zG]
 refine n_val (r_gtr rfl rfl) (n_val (r_move) (n_mayT rfl (fun hb=>r_fieldAddr (c:=2) Tryz.underlying25 rfl cells_23 rfl rfl) ?_))
 simp only [ev,zD,zE,zF,zG]
 refine n_mayTW rfl (fun hb=>r_load (mayE hb rfl) ((m.b 0 rfl).lies agg_23 cells_23 rfl rfl)) ?_
 simp only [ev,zD,zE,zF,zG,zH,zI,zJ,zK,Nat.zero_add,Nat.reduceAdd,Nat.reduceMul,Int.reduceToNat]
 refine n_mayT rfl (fun hb=>r_build_23_) (n_mayT rfl (fun hb=>eq_neq_23 (mayE hb rfl) (mayE hb rfl)) (n_val (r_pickAnd rfl rfl rfl) (n_val (r_assign) ?_)))
 simp only [ev,zD,zE,zF,zG]
 refine n_nil (k2 _ _ ?_)
 refine wp_ret ?_
 try simp only [Exit.inBlock,Exit.then,if_true]
 refine fin1 rfl rfl ?_
 try simp only [zD,zE]
 exact ⟨_,rfl,m.ext,bool_as (Bool.decide_and _ _).symm⟩
end Go.Proofs.YtimjandkmfcmiaaGreatDoor
