/-
  Texts of one claim, laid together: Box0, Geo6, Empty, Join, Open, JoinEmpty.
-/
import Derived.OpenVars
import Derived.OpenShut
import Derived.WalkKit
import Derived.ProofKit
import Derived.Lib.SmallJoins
import Derived.Deep.Slices
import Derived.Test.YtmcgcnpgkkfkoaaGreatDoorCards
import Derived.Test.YtmcgcnpgkkfkoaaGreatDoorTie
import Derived.Deep.DeepHandedRow
import Derived.Lib.LaidTab
import Derived.Test.YtmcgcnpgkkfkoaaGreatDoorE6
set_option linter.unusedSimpArgs false
set_option linter.unusedVariables false
namespace Go.Proofs.YtmcgcnpgkkfkoaaGreatDoor
open Go.RowKit Go.Lith
set_option maxRecDepth 100000
attribute [local irreducible] wpList wpQuiet wpMix wpMixH wpTree Code.wp
set_option maxHeartbeats 400000 in
theorem ins0_c {c : Value} : Pure Tryz.prog 182 [.slice none 0 0, .int .i64 0, .int .i64 0, c] (.tuple #[]) := by
  intro w
  refine ⟨en_182, ?_⟩
  have m := Mem.refl w
  go_enter Tryz.func182, Tryz.ntmps182
  refine c_seq fun K1 k1 => wp_region_lit (n_val (r_move) (n_val (r_add (m := 0) (n := 1) (r := 1) rfl rfl (by decide)) (n_val (r_assign) (n_nil (k1 _ _ ?_)))))
  try clear k1 K1
  refine wp_block (wp_loop_rounds 1 (rounds_step (c_seq fun K2 k2 => c_seq fun K3 k3 => wp_region_lit (n_val (r_move) ?_))))
  simp only [zA, zB, zC, zD, zE, zF, zG]
  refine n_val (r_move) (n_val (r_lssF (m := 1) (n := 0) rfl rfl (by decide)) (n_nil (k3 _ _ ?_)))
  try clear k3 K3
  refine c_no rfl (wp_exit ?_)
  try simp only [Exit.inBlock, Exit.then, if_true]
  exact fin0n rfl (⟨_, rfl, m.ext, rfl⟩)

set_option maxHeartbeats 400000 in
theorem pdq0_c {c : Value} {n : Int} : Pure Tryz.prog 177 [.slice none 0 0, .int .i64 0, .int .i64 0, .int .i64 n, c] (.tuple #[]) := by
  intro w
  refine ⟨en_177, ?_⟩
  have m := Mem.refl w
  go_enter Tryz.func177, Tryz.ntmps177
  refine c_seq fun K1 k1 => wp_region_lit (n_val (r_assign) (n_nil (k1 _ _ ?_)))
  try clear k1 K1
  refine c_seq fun K2 k2 => wp_region_lit (n_val (r_assign) (n_nil (k2 _ _ ?_)))
  try clear k2 K2
  refine wp_block (wp_loop_rounds 2 (rounds_step (wp_block (c_seq fun K3 k3 => wp_region_lit (n_val (r_move) (n_val (r_move) ?_))))))
  simp only [zA, zB, zC, zD, zE, zF, zG]
  refine n_val (r_sub (m := 0) (n := 0) (r := 0) rfl rfl (by decide)) (n_val (r_assign) (n_nil (k3 _ _ ?_)))
  try clear k3 K3
  refine c_seq fun K4 k4 => c_seq fun K5 k5 => wp_region_lit (n_val (r_move) (n_val (r_leqT (m := 0) (n := 12) rfl rfl (by decide)) ?_))
  simp only [zA, zB, zC, zD, zE, zF, zG]
  refine n_nil (k5 _ _ ?_)
  try clear k5 K5
  refine c_yes rfl (c_seq fun K6 k6 => wp_region_lit (n_val (r_move) (n_val (r_move) (n_val (r_move) (n_val (r_move) ?_)))))
  simp only [zA, zB, zC, zD, zE, zF, zG]
  refine mcallP m rfl rfl (ins0_c) ?_
  clear m; intro u m
  refine n_nil (k6 _ _ ?_)
  try clear k6 K6
  refine wp_ret ?_
  try simp only [Exit.inBlock, Exit.then, if_true]
  exact fin0 rfl (⟨_, rfl, m.ext, rfl⟩)

set_option maxHeartbeats 400000 in
theorem len0_c  (w : World) : Does Tryz.prog 178 [.int .u64 0] w (fun v _ => ∃ n : Int, v = .int .i64 n) := by
  refine ⟨en_178, ?_⟩
  have m := Mem.refl w
  go_enter Tryz.func178, Tryz.ntmps178
  refine c_seq fun K1 k1 => wp_region_lit (n_val (r_assign) (n_nil (k1 _ _ ?_)))
  try clear k1 K1
  refine c_seq fun K2 k2 => c_no rfl (wp_skip (k2 _ _ ?_))
  try clear k2 K2
  refine c_seq fun K3 k3 => wp_region_lit (n_val (r_move) ?_)
  simp only [zA, zB, zC, zD, zE, zF, zG]
  refine mcall m rfl rfl (len64_c (X := 0) _ (by decide)) ?_
  clear m; rintro v u m ⟨n, rfl, _, _, _⟩
  refine n_val (r_assign) (n_nil (k3 _ _ ?_))
  try clear k3 K3
  refine wp_ret ?_
  simp only [zA, zB, zC, zD, zE, zF, zG]
  try simp only [Exit.inBlock, Exit.then, if_true]
  refine fin1 rfl rfl ?_
  try simp only [zD, zE]
  exact ⟨_, rfl, m.ext, _, rfl⟩

set_option maxHeartbeats 400000 in
theorem sort0_c {c : Value} : Pure Tryz.prog 169 [.slice none 0 0, c] (.tuple #[]) := by
  intro w
  refine ⟨en_169, ?_⟩
  have m := Mem.refl w
  go_enter Tryz.func169, Tryz.ntmps169
  refine c_seq fun K1 k1 => wp_region_lit (n_val (r_move) (n_val (r_lenS rfl Tryz.underlying118 rfl) (n_val (r_assign) (n_nil (k1 _ _ ?_)))))
  try clear k1 K1
  refine wp_region_lit (n_val (r_move) ?_)
  simp only [zA, zB, zC, zD, zE, zF, zG]
  refine n_val (r_move) (n_val (r_move) (n_val (r_conv Tryz.underlying89 Tryz.underlying3 rfl (show IntKind.u64.wrap ((0 : Nat) : Int) = 0 from rfl)) ?_))
  simp only [zA, zB, zC, zD, zE, zF, zG]
  refine mcall m rfl rfl (len0_c _) ?_
  clear m; rintro v u m ⟨n, rfl⟩
  refine n_val (r_move) ?_
  simp only [zA, zB, zC, zD, zE, zF, zG]
  refine mcallP m rfl rfl (pdq0_c) ?_
  clear m; intro u m
  refine n_nil ?_
  try simp only [Exit.inBlock, Exit.then, if_true]
  exact fin0n rfl (⟨_, rfl, m.ext, rfl⟩)

set_option maxHeartbeats 400000 in
theorem sorted0_c {g c : Nat} {f : Value} (w : World) (hM : MapB w g #[] c) : Does Tryz.prog 143 [.map (some g), f] w (fun v _ => v = .slice none 0 0) := by
  refine ⟨en_143, ?_⟩
  have m := Mem.refl w
  go_enter Tryz.func143, Tryz.ntmps143
  refine c_seq fun K1 k1 => wp_region_lit (n_val (r_assign) (n_nil (k1 _ _ ?_)))
  try clear k1 K1
  refine c_seq fun K2 k2 => wp_region_lit (n_val (r_assign) (n_nil (k2 _ _ ?_)))
  try clear k2 K2
  refine c_seq fun K3 k3 => c_seq fun K4 k4 => wp_region_lit (n_val (r_move) ?_)
  simp only [zA, zB, zC, zD, zE, zF, zG]
  refine n_range Tryz.underlying173 rfl (hM.ext m.ext) ?_
  intro w8 r hE hr hI
  replace m := m.ext' hE
  clear hE
  simp only [zA, zB, zC, zD, zE, zF, zG]
  refine n_nil (k4 _ _ ?_)
  try clear k4 K4
  refine wp_block (wp_loop_rounds 1 (rounds_step (c_seq fun K5 k5 => wp_region_lit ?_)))
  refine n_next0 rfl hI (hM.ext m.ext) ?_
  simp only [zA, zB, zC, zD, zE, zF, zG]
  refine n_val (r_extract rfl rfl) (n_nil (k5 _ _ ?_))
  try clear k5 K5
  refine c_seq fun K6 k6 => c_no rfl (wp_exit (k3 _ _ ?_))
  try clear k3 K3
  refine c_seq fun K7 k7 => wp_region_lit (n_val (r_move) (n_val (r_move) ?_))
  simp only [zA, zB, zC, zD, zE, zF, zG]
  refine mcallP m rfl rfl (sort0_c) ?_
  clear m; intro u m
  refine n_nil (k7 _ _ ?_)
  try clear k7 K7
  refine c_seq fun K8 k8 => wp_region_lit (n_val (r_move) (n_val (r_assign) (n_nil (k8 _ _ ?_))))
  try clear k8 K8
  refine wp_ret ?_
  simp only [zA, zB, zC, zD, zE, zF, zG]
  try simp only [Exit.inBlock, Exit.then, if_true]
  refine fin1 rfl rfl ?_
  try simp only [zD, zE]
  exact ⟨_, rfl, m.ext, rfl⟩

set_option maxHeartbeats 400000 in
theorem corners0_c {cap : Nat} {A : Option Addr} : Pure Tryz.prog 84 [.slice A 0 cap] (.slice none 0 0) := by
  intro w
  refine ⟨en_84, ?_⟩
  have m := Mem.refl w
  go_enter Tryz.func84, Tryz.ntmps84
  refine c_seq fun K1 k1 => wp_region_lit (n_val (r_assign) (n_nil (k1 _ _ ?_)))
  try clear k1 K1
  refine c_seq fun K2 k2 => wp_region_lit ?_
  simp only [zA, zB, zC, zD, zE, zF, zG]
  refine n_makeMap ?_
  intro w8 g hE hg hM
  replace m := m.ext' hE
  clear hE
  simp only [zA, zB, zC, zD, zE, zF, zG]
  refine n_val (r_assign) (n_nil (k2 _ _ ?_))
  try clear k2 K2
  refine c_seq fun K3 k3 => c_seq fun K4 k4 => wp_region_lit (n_val (r_move) (n_val (r_lenS rfl Tryz.underlying24 rfl) (n_val (r_move) ?_)))
  simp only [zA, zB, zC, zD, zE, zF, zG]
  refine n_nil (k4 _ _ ?_)
  try clear k4 K4
  refine wp_block (wp_loop_rounds 1 (rounds_step (c_seq fun K5 k5 => wp_region_lit (n_val (r_lssF (m := 0) (n := 0) rfl rfl (by decide)) (n_nil (k5 _ _ ?_))))))
  try clear k5 K5
  refine c_seq fun K6 k6 => c_no rfl (wp_exit (k3 _ _ ?_))
  try clear k3 K3
  refine c_seq fun K7 k7 => wp_region_lit (n_val (r_move) ?_)
  simp only [zA, zB, zC, zD, zE, zF, zG]
  refine mcall m rfl rfl (sorted0_c _ hM) ?_
  clear m; rintro v u m rfl
  refine n_val (r_assign) (n_nil (k7 _ _ ?_))
  try clear k7 K7
  refine wp_ret ?_
  simp only [zA, zB, zC, zD, zE, zF, zG]
  try simp only [Exit.inBlock, Exit.then, if_true]
  refine fin1 rfl rfl ?_
  try simp only [zD, zE]
  exact ⟨_, rfl, m.ext, rfl⟩

set_option maxHeartbeats 400000 in
theorem box0_c {cap : Nat} {A : Option Addr} : Pure Tryz.prog 32 [.slice A 0 cap] (.tuple #[pt ⟨0, 0, 0⟩, pt ⟨0, 0, 0⟩, .bool false]) := by
  intro w
  refine ⟨en_32, ?_⟩
  have m := Mem.refl w
  go_enter Tryz.func32, Tryz.ntmps32
  refine c_seq fun K1 k1 => wp_region_lit (malloc m zero_28 rfl ?_)
  clear m; intro g1 u m
  simp only [zA, zB, zC, zD, zE, zF, zG]
  refine malloc m zero_28 rfl ?_
  clear m; intro g2 u m
  refine n_val (r_assign) (n_nil (k1 _ _ ?_))
  try clear k1 K1
  refine c_seq fun K2 k2 => c_seq fun K3 k3 => wp_region_lit (n_val (r_move) ?_)
  simp only [zA, zB, zC, zD, zE, zF, zG]
  refine mcallP m rfl rfl (corners0_c) ?_
  clear m; intro u m
  refine n_val (r_lenS rfl Tryz.underlying118 rfl) (n_val (r_move) (n_nil (k3 _ _ ?_)))
  try clear k3 K3
  refine wp_block (wp_loop_rounds 1 (rounds_step (c_seq fun K4 k4 => wp_region_lit (n_val (r_lssF (m := 0) (n := 0) rfl rfl (by decide)) ?_))))
  simp only [zA, zB, zC, zD, zE, zF, zG]
  refine n_nil (k4 _ _ ?_)
  try clear k4 K4
  refine c_seq fun K5 k5 => c_no rfl (wp_exit (k2 _ _ ?_))
  try clear k2 K2
  refine c_seq fun K6 k6 => ?_
  refine mtree m [false, false] (.take 2 (.take 3 (.take 4 (.two 0 (.two 1 (.one 5 (.one 6 (.take 7 .nil))) 5 (.one 1 (.one 6 (.take 7 .nil)))) 1 (.one 0 (.one 5 (.one 6 (.take 7 .nil)))))))) follows_mixed (by kernel_rfl) (panic_put (fun _ _ _ _ _ h => h)) ?_
  clear m; intro u m
  refine t_take (by simp only [zS, zT, zU, zV]; rfl) (h_val (r_move) (h_nil (t_take (by simp only [zS, zT, zU, zV]; rfl) (h_val (r_lenS rfl Tryz.underlying24 rfl) (h_nil (t_take (by simp only [zS, zT, zU, zV]; rfl) (h_val (r_gtrF (m := 0) (n := 0) rfl rfl (by decide)) (h_nil ?_))))))))
  simp only [zA, zB, zC, zD, zE, zF, zG]
  refine t_two (by simp only [zS, zT, zU, zV]; rfl) (by simp only [zS, zT, zU, zV]; rfl) ?_ ?_
  · skip
    refine n_load rfl ((m.b 1 rfl).full agg_28 cells_28) ?_
    simp only [zA, zB, zC, zD, zE, zF, zG]
    refine n_nil ?_
    refine ⟨m.sel [false, false], ?_⟩
    refine t_two (by simp only [zS, zT, zU, zV]; rfl) (by simp only [zS, zT, zU, zV]; rfl) ?_ ?_
    · skip
      refine n_load rfl ((m.b 0 rfl).full agg_28 cells_28) ?_
      simp only [zA, zB, zC, zD, zE, zF, zG]
      refine n_nil ?_
      refine ⟨m.sel [false, false], ?_⟩
      refine t_one (by simp only [zS, zT, zU, zV]; rfl) (mstoreA m 1 rfl rfl rfl cells_28 (leT rfl) rfl ?_)
      clear m; intro u m; simp only [over, zH, zI, zJ, zK, zL, zM, zN, zO, zP, zF, zG, Nat.reduceAdd] at m
      refine n_nil ?_
      refine ⟨m.sel [false, false], ?_⟩
      refine t_one (by simp only [zS, zT, zU, zV]; rfl) (mstoreA m 0 rfl rfl rfl cells_28 (leT rfl) rfl ?_)
      clear m; intro u m; simp only [over, zH, zI, zJ, zK, zL, zM, zN, zO, zP, zF, zG, Nat.reduceAdd] at m
      refine n_nil ?_
      refine ⟨m.sel [false, false], ?_⟩
      refine t_take (by simp only [zS, zT, zU, zV]; rfl) (h_val (r_assign) (h_nil (t_nil (k6 _ _ ?_))))
      try clear k6 K6
      refine wp_ret ?_
      simp only [zA, zB, zC, zD, zE, zF, zG]
      try simp only [Exit.inBlock, Exit.then, if_true]
      refine fin3 rfl ⟨_, rfl, ((m.b 1 rfl).full agg_28 cells_28)⟩ ⟨_, rfl, ((m.b 0 rfl).full agg_28 cells_28)⟩ rfl ?_
      try simp only [zD, zE]
      exact ⟨_, rfl, m.ext, rfl⟩
    · skip
      refine mstoreA m 1 rfl rfl rfl cells_28 (leT rfl) rfl ?_
      clear m; intro u m; simp only [over, zH, zI, zJ, zK, zL, zM, zN, zO, zP, zF, zG, Nat.reduceAdd] at m
      refine n_nil ?_
      refine ⟨m.sel [false, false], ?_⟩
      refine t_one (by simp only [zS, zT, zU, zV]; rfl) (n_load rfl ((m.b 0 rfl).full agg_28 cells_28) ?_)
      simp only [zA, zB, zC, zD, zE, zF, zG]
      refine n_nil ?_
      refine ⟨m.sel [false, false], ?_⟩
      refine t_one (by simp only [zS, zT, zU, zV]; rfl) (mstoreA m 0 rfl rfl rfl cells_28 (leT rfl) rfl ?_)
      clear m; intro u m; simp only [over, zH, zI, zJ, zK, zL, zM, zN, zO, zP, zF, zG, Nat.reduceAdd] at m
      refine n_nil ?_
      refine ⟨m.sel [false, false], ?_⟩
      refine t_take (by simp only [zS, zT, zU, zV]; rfl) (h_val (r_assign) (h_nil (t_nil (k6 _ _ ?_))))
      try clear k6 K6
      refine wp_ret ?_
      simp only [zA, zB, zC, zD, zE, zF, zG]
      try simp only [Exit.inBlock, Exit.then, if_true]
      refine fin3 rfl ⟨_, rfl, ((m.b 1 rfl).full agg_28 cells_28)⟩ ⟨_, rfl, ((m.b 0 rfl).full agg_28 cells_28)⟩ rfl ?_
      try simp only [zD, zE]
      exact ⟨_, rfl, m.ext, rfl⟩
  · skip
    refine n_load rfl ((m.b 0 rfl).full agg_28 cells_28) ?_
    simp only [zA, zB, zC, zD, zE, zF, zG]
    refine n_nil ?_
    refine ⟨m.sel [false, false], ?_⟩
    refine t_one (by simp only [zS, zT, zU, zV]; rfl) (n_load rfl ((m.b 1 rfl).full agg_28 cells_28) ?_)
    simp only [zA, zB, zC, zD, zE, zF, zG]
    refine n_nil ?_
    refine ⟨m.sel [false, false], ?_⟩
    refine t_one (by simp only [zS, zT, zU, zV]; rfl) (mstoreA m 1 rfl rfl rfl cells_28 (leT rfl) rfl ?_)
    clear m; intro u m; simp only [over, zH, zI, zJ, zK, zL, zM, zN, zO, zP, zF, zG, Nat.reduceAdd] at m
    refine n_nil ?_
    refine ⟨m.sel [false, false], ?_⟩
    refine t_one (by simp only [zS, zT, zU, zV]; rfl) (mstoreA m 0 rfl rfl rfl cells_28 (leT rfl) rfl ?_)
    clear m; intro u m; simp only [over, zH, zI, zJ, zK, zL, zM, zN, zO, zP, zF, zG, Nat.reduceAdd] at m
    refine n_nil ?_
    refine ⟨m.sel [false, false], ?_⟩
    refine t_take (by simp only [zS, zT, zU, zV]; rfl) (h_val (r_assign) (h_nil (t_nil (k6 _ _ ?_))))
    try clear k6 K6
    refine wp_ret ?_
    simp only [zA, zB, zC, zD, zE, zF, zG]
    try simp only [Exit.inBlock, Exit.then, if_true]
    refine fin3 rfl ⟨_, rfl, ((m.b 1 rfl).full agg_28 cells_28)⟩ ⟨_, rfl, ((m.b 0 rfl).full agg_28 cells_28)⟩ rfl ?_
    try simp only [zD, zE]
    exact ⟨_, rfl, m.ext, rfl⟩

end Go.Proofs.YtmcgcnpgkkfkoaaGreatDoor
namespace Go.Lith
open Go.RowKit
theorem sub_self' (p : P3) : p.sub p = ⟨0, 0, 0⟩ := by simp only [P3.sub, Int.sub_self]
theorem dot_zero (u : P3) : u.dot ⟨0, 0, 0⟩ = 0 := by simp [P3.dot]
theorem zero_dot (u : P3) : P3.dot ⟨0, 0, 0⟩ u = 0 := by simp [P3.dot]
theorem cross_zero (u : P3) : u.cross ⟨0, 0, 0⟩ = ⟨0, 0, 0⟩ := by simp [P3.cross]
theorem deg_normal (p q : P3) : (⟨p, q, p⟩ : T3).normal = ⟨0, 0, 0⟩ := by
  show (q.sub p).cross (p.sub p) = _
  rw [sub_self', cross_zero]
theorem deg_flat (p q : P3) : (⟨p, q, p⟩ : T3).flat := by
  unfold T3.flat
  rw [deg_normal]
  exact ⟨rfl, rfl, rfl⟩
theorem deg_nn (p q : P3) : nn ⟨p, q, p⟩ = 0 := by
  unfold nn
  rw [deg_normal]
  rfl
theorem deg_low (p q : P3) : sumT lowA [⟨p, q, p⟩] = 0 := by
  rw [sumT_one, lowA, deg_nn]
  rfl
theorem deg_high (p q : P3) : sumT highA [⟨p, q, p⟩] = 0 := by
  rw [sumT_one, highA, lowA, deg_nn]
  rfl
theorem divInt_one_num (n : Int) : (Rat.divInt n 1).num = n ∧ ((Rat.divInt n 1).den : Int) = 1 := by
  rw [Rat.num_divInt, Rat.den_divInt]
  constructor <;> simp
theorem divInt_one_nn {n : Int} (h : 0 ≤ n) : ¬ Rat.divInt n 1 < 0 := by
  intro h'
  rw [Rat.lt_iff, (divInt_one_num n).1, (divInt_one_num n).2] at h'
  have e2 : ((0 : Rat)).num = 0 := rfl
  have e3 : ((0 : Rat)).den = 1 := rfl
  rw [e2, e3] at h'
  omega
theorem seg_deg (x p : P3) : segq x p p = Rat.divInt ((x.sub p).dot (x.sub p)) 1 := by
  rw [segq, if_pos (by rw [sub_self', zero_dot]; exact Int.le_refl _)]
theorem seg_start (p q : P3) : segq p p q = 0 := by
  rw [segq, if_pos (by rw [sub_self', dot_zero]; exact Int.le_refl _), sub_self', dot_zero]
  rfl
theorem seg_end (p q : P3) : segq q p q = 0 := by
  unfold segq
  split
  · rename_i h
    have h0 := dot_nn (q.sub p)
    rw [show (q.sub p).dot (q.sub p) = 0 by omega]
    rfl
  · rw [if_pos (Int.le_refl _), sub_self', dot_zero]
    rfl
theorem minq_same (m : Rat) : minq m m = m := by unfold minq; split <;> rfl
theorem deg_far_q (p q : P3) : farq q [⟨p, q, p⟩] = 0 := by
  show triq q ⟨p, q, p⟩ = 0
  rw [← triq_edge (fun h => h.1 (deg_flat p q))]
  show minq (minq (segq q p q) (segq q q p)) (segq q p p) = 0
  rw [seg_end, seg_start, seg_deg, minq_same, minq, if_neg (divInt_one_nn (dot_nn _))]
theorem deg_far_p (x p : P3) : farq x [⟨p, p, p⟩] = Rat.divInt ((x.sub p).dot (x.sub p)) 1 := by
  show triq x ⟨p, p, p⟩ = _
  rw [← triq_edge (fun h => h.1 (deg_flat p p))]
  show minq (minq (segq x p p) (segq x p p)) (segq x p p) = _
  rw [minq_same, minq_same, seg_deg]
theorem q_eqs {q : Rat} {n d : Int} (hn : q.num = n) (hd : (q.den : Int) = d) : wneg q.num = wneg n ∧ wmag q.num = wmag n ∧ wneg (q.den : Int) = wneg d ∧ wmag (q.den : Int) = wmag d := by
  rw [hn, hd]; exact ⟨rfl, rfl, rfl, rfl⟩
theorem q1_eqs {q : Rat} {n : Int} (h : q = Rat.divInt n 1) : wneg q.num = wneg n ∧ wmag q.num = wmag n ∧ wneg (q.den : Int) = wneg 1 ∧ wmag (q.den : Int) = wmag 1 := by
  rw [h]; exact q_eqs (divInt_one_num n).1 (divInt_one_num n).2
theorem pt_ne {p q : P3} (h : p ≠ q) : ¬ (p.x = q.x ∧ p.y = q.y ∧ p.z = q.z) := fun ⟨h1, h2, h3⟩ => h (by cases p; cases q; simp_all)
theorem deg_far_pq {x p q : P3} (h : p = q) : farq x [⟨p, q, p⟩] = Rat.divInt ((x.sub p).dot (x.sub p)) 1 := by subst h; exact deg_far_p x p
theorem pt_eq {p q : P3} (h : p = q) : p.x = q.x ∧ p.y = q.y ∧ p.z = q.z := by subst h; exact ⟨rfl, rfl, rfl⟩
end Go.Lith
namespace Go.Proofs.YtmcgcnpgkkfkoaaGreatDoor
open Go.RowKit Go.Lith
set_option maxRecDepth 100000
attribute [local irreducible] wpList wpQuiet wpMix wpMixH wpTree Code.wp
set_option maxHeartbeats 4000000 in
theorem MeasureEmpty_c {p q : P3} [I3 p] [I3 q] {t : Int} [Iw t] : Pure Tryz.prog 8 [pt p, pt q, .int .i64 t] (.bool true) := by
  intro w
  refine ⟨en_8, ?_⟩
  have m := Mem.refl w
  go_enter Tryz.func8, Tryz.ntmps8
  refine c_seq fun K1 k1 => ?_
  rcases Classical.em (p ≠ q) with hpq | hpq
  · skip
    refine wp_region_lit (mboxA m rfl ?_)
    clear m; intro g1 u m
    simp only [zA, zB, zC, zD, zE, zF, zG]
    refine mboxA m rfl ?_
    clear m; intro g2 u m
    refine n_val (r_assign) (n_nil (k1 _ _ ?_))
    try clear k1 K1
    refine c_seq fun K2 k2 => wp_region_lit ?_
    simp only [zA, zB, zC, zD, zE, zF, zG]
    refine mcallP m rfl rfl (sanity_c) ?_
    clear m; intro u m
    refine n_val (r_assign) (n_nil (k2 _ _ ?_))
    try clear k2 K2
    refine c_seq fun K3 k3 => wp_region_lit ?_
    simp only [zA, zB, zC, zD, zE, zF, zG]
    refine mcallP m rfl rfl (box0_c) ?_
    clear m; intro u m
    refine n_val (r_move) (n_val (r_extract rfl rfl) (n_val (r_extract rfl rfl) ?_))
    simp only [zA, zB, zC, zD, zE, zF, zG]
    refine n_val (r_extract rfl rfl) ?_
    simp only [zA, zB, zC, zD, zE, zF, zG]
    refine malloc m zero_28 rfl ?_
    clear m; intro g3 u m
    simp only [zA, zB, zC, zD, zE, zF, zG]
    refine malloc m zero_28 rfl ?_
    clear m; intro g4 u m
    simp only [zA, zB, zC, zD, zE, zF, zG]
    refine mstoreA m 1 rfl rfl rfl cells_28 (leT rfl) rfl ?_
    clear m; intro u m; simp only [over, zH, zI, zJ, zK, zL, zM, zN, zO, zP, zF, zG, Nat.reduceAdd] at m
    refine mstoreA m 0 rfl rfl rfl cells_28 (leT rfl) rfl ?_
    clear m; intro u m; simp only [over, zH, zI, zJ, zK, zL, zM, zN, zO, zP, zF, zG, Nat.reduceAdd] at m
    refine n_val (r_assign) (n_nil (k3 _ _ ?_))
    try clear k3 K3
    refine c_seq fun K4 k4 => wp_region_lit ?_
    simp only [zA, zB, zC, zD, zE, zF, zG]
    refine n_load rfl ((m.b 3 rfl).full agg_28 cells_28) ?_
    simp only [zA, zB, zC, zD, zE, zF, zG]
    refine mcall m rfl rfl (Far2_c (ts := []) _ (TrisAt.nil _ _) (by decide)) ?_
    clear m; rintro v u m rfl
    simp only [zA, zB, zC, zD, zE, zF, zG]
    rw [show farq p [] = 0 from rfl, show decide ((0 : Int) < ((0 : Nat) : Int)) = false from rfl]
    refine n_val (r_move) (n_val (r_extract rfl rfl) (n_val (r_extract rfl rfl) ?_))
    simp only [zA, zB, zC, zD, zE, zF, zG]
    refine malloc m zero_34 rfl ?_
    clear m; intro g5 u m
    simp only [zA, zB, zC, zD, zE, zF, zG]
    refine mstoreA m 0 rfl rfl rfl cells_34 (leT rfl) rfl ?_
    clear m; intro u m; simp only [over, zH, zI, zJ, zK, zL, zM, zN, zO, zP, zF, zG, Nat.reduceAdd] at m
    refine n_val (r_assign) (n_nil (k4 _ _ ?_))
    try clear k4 K4
    refine c_seq fun K5 k5 => wp_region_lit ?_
    simp only [zA, zB, zC, zD, zE, zF, zG]
    refine mcall m rfl rfl (Centre_c (ts := []) _ (TrisAt.nil _ _) (by decide)) ?_
    clear m; rintro v u m rfl
    simp only [zA, zB, zC, zD, zE, zF, zG]
    rw [show cq (sumT (mom P3.x) []) (sumT det []) = 0 from rfl, show cq (sumT (mom P3.y) []) (sumT det []) = 0 from rfl, show cq (sumT (mom P3.z) []) (sumT det []) = 0 from rfl, show decide (sumT det [] ≠ 0) = false from rfl]
    refine n_val (r_move) (n_val (r_extract rfl rfl) (n_val (r_extract rfl rfl) ?_))
    simp only [zA, zB, zC, zD, zE, zF, zG]
    refine malloc m zero_49 rfl ?_
    clear m; intro g6 u m
    simp only [zA, zB, zC, zD, zE, zF, zG]
    refine mstoreA m 0 rfl rfl rfl cells_49 (leT rfl) rfl ?_
    clear m; intro u m; simp only [over, zH, zI, zJ, zK, zL, zM, zN, zO, zP, zF, zG, Nat.reduceAdd] at m
    refine n_val (r_assign) (n_nil (k5 _ _ ?_))
    try clear k5 K5
    refine c_seq fun K6 k6 => wp_region_lit ?_
    simp only [zA, zB, zC, zD, zE, zF, zG]
    refine mcall m rfl rfl (Area_c (ts := []) _ (TrisAt.nil _ _) (by decide)) ?_
    clear m; rintro v u m rfl
    simp only [zA, zB, zC, zD, zE, zF, zG]
    rw [show sumT lowA [] = 0 from rfl, show sumT highA [] = 0 from rfl]
    refine n_val (r_move) (n_val (r_extract rfl rfl) (n_val (r_extract rfl rfl) ?_))
    simp only [zA, zB, zC, zD, zE, zF, zG]
    refine malloc m zero_32 rfl ?_
    clear m; intro g7 u m
    simp only [zA, zB, zC, zD, zE, zF, zG]
    refine malloc m zero_32 rfl ?_
    clear m; intro g8 u m
    simp only [zA, zB, zC, zD, zE, zF, zG]
    refine mstoreA m 1 rfl rfl rfl cells_32 (leT rfl) rfl ?_
    clear m; intro u m; simp only [over, zH, zI, zJ, zK, zL, zM, zN, zO, zP, zF, zG, Nat.reduceAdd] at m
    refine mstoreA m 0 rfl rfl rfl cells_32 (leT rfl) rfl ?_
    clear m; intro u m; simp only [over, zH, zI, zJ, zK, zL, zM, zN, zO, zP, zF, zG, Nat.reduceAdd] at m
    refine n_nil (k6 _ _ ?_)
    try clear k6 K6
    refine c_seq fun K7 k7 => wp_region_lit (n_load rfl ((m.b 7 rfl).full agg_28 cells_28) ?_)
    simp only [zA, zB, zC, zD, zE, zF, zG]
    refine n_load rfl ((m.b 6 rfl).full agg_28 cells_28) ?_
    simp only [zA, zB, zC, zD, zE, zF, zG]
    refine n_load rfl ((m.b 7 rfl).full agg_28 cells_28) ?_
    simp only [zA, zB, zC, zD, zE, zF, zG]
    refine n_val (r_build_59_0_1_2 rfl rfl rfl) ?_
    simp only [zA, zB, zC, zD, zE, zF, zG]
    refine n_bs_24_1 rfl ?_
    intro u g9 e hg hB; replace m := m.newB e hg hB; clear e hg hB
    refine n_val (r_assign) (n_nil (k7 _ _ ?_))
    try clear k7 K7
    refine c_seq fun K8 k8 => wp_region_lit (n_val (r_move) ?_)
    simp only [zA, zB, zC, zD, zE, zF, zG]
    refine mcall m rfl rfl (Area_c (ts := [⟨p, q, p⟩]) _ (TrisAt.one (t := ⟨p, q, p⟩) (m.b 0 rfl)) (by decide)) ?_
    clear m; rintro v u m rfl
    simp only [zA, zB, zC, zD, zE, zF, zG]
    rw [deg_low, deg_high]
    refine n_val (r_move) (n_val (r_extract rfl rfl) (n_val (r_extract rfl rfl) ?_))
    simp only [zA, zB, zC, zD, zE, zF, zG]
    refine malloc m zero_32 rfl ?_
    clear m; intro g10 u m
    simp only [zA, zB, zC, zD, zE, zF, zG]
    refine malloc m zero_32 rfl ?_
    clear m; intro g11 u m
    simp only [zA, zB, zC, zD, zE, zF, zG]
    refine mstoreA m 1 rfl rfl rfl cells_32 (leT rfl) rfl ?_
    clear m; intro u m; simp only [over, zH, zI, zJ, zK, zL, zM, zN, zO, zP, zF, zG, Nat.reduceAdd] at m
    refine mstoreA m 0 rfl rfl rfl cells_32 (leT rfl) rfl ?_
    clear m; intro u m; simp only [over, zH, zI, zJ, zK, zL, zM, zN, zO, zP, zF, zG, Nat.reduceAdd] at m
    refine n_nil (k8 _ _ ?_)
    try clear k8 K8
    refine c_seq fun K9 k9 => wp_region_lit (n_load rfl ((m.b 9 rfl).full agg_28 cells_28) ?_)
    simp only [zA, zB, zC, zD, zE, zF, zG]
    refine n_val (r_move) ?_
    simp only [zA, zB, zC, zD, zE, zF, zG]
    refine mcall m rfl rfl (Far2_c (ts := [⟨p, q, p⟩]) _ (TrisAt.one (t := ⟨p, q, p⟩) (m.b 2 rfl)) (by decide)) ?_
    clear m; rintro v u m rfl
    simp only [zA, zB, zC, zD, zE, zF, zG]
    rw [deg_far_q, show decide ((0 : Int) < ((1 : Nat) : Int)) = true from rfl]
    refine n_val (r_move) (n_val (r_extract rfl rfl) (n_val (r_extract rfl rfl) ?_))
    simp only [zA, zB, zC, zD, zE, zF, zG]
    refine malloc m zero_34 rfl ?_
    clear m; intro g12 u m
    simp only [zA, zB, zC, zD, zE, zF, zG]
    refine mstoreA m 0 rfl rfl rfl cells_34 (leT rfl) rfl ?_
    clear m; intro u m; simp only [over, zH, zI, zJ, zK, zL, zM, zN, zO, zP, zF, zG, Nat.reduceAdd] at m
    refine n_val (r_assign) (n_nil (k9 _ _ ?_))
    try clear k9 K9
    refine c_seq fun K10 k10 => wp_region_lit (n_val (r_move) (n_val (r_build_28_0 rfl) (n_val (r_move) ?_)))
    simp only [zA, zB, zC, zD, zE, zF, zG]
    refine mcall m rfl rfl (Far2_c (x := ⟨t, 0, 0⟩) (ts := [⟨p, q, p⟩]) _ (TrisAt.one (t := ⟨p, q, p⟩) (m.b 3 rfl)) (by decide)) ?_
    clear m; rintro v u m rfl
    simp only [zA, zB, zC, zD, zE, zF, zG]
    rw [show decide ((0 : Int) < ((1 : Nat) : Int)) = true from rfl]
    refine n_val (r_move) (n_val (r_extract rfl rfl) (n_val (r_extract rfl rfl) ?_))
    simp only [zA, zB, zC, zD, zE, zF, zG]
    refine malloc m zero_34 rfl ?_
    clear m; intro g13 u m
    simp only [zA, zB, zC, zD, zE, zF, zG]
    refine mstoreA m 0 rfl rfl rfl cells_34 (leT rfl) rfl ?_
    clear m; intro u m; simp only [over, zH, zI, zJ, zK, zL, zM, zN, zO, zP, zF, zG, Nat.reduceAdd] at m
    refine n_val (r_assign) (n_nil (k10 _ _ ?_))
    try clear k10 K10
    refine c_seq fun K11 k11 => wp_region_lit (n_val (r_move) (n_val (r_build_28_0 rfl) (n_val (r_move) ?_)))
    simp only [zA, zB, zC, zD, zE, zF, zG]
    refine n_val (r_indexAddrS Tryz.underlying24 cells_59 rfl rfl (by decide) (by decide) rfl) ?_
    simp only [zA, zB, zC, zD, zE, zF, zG]
    refine n_load rfl ((m.b 4 rfl).lies agg_59 cells_59 rfl rfl) ?_
    simp only [zA, zB, zC, zD, zE, zF, zG, zH, zI, zJ, zK, Nat.zero_add, Nat.reduceAdd, Nat.reduceMul, Int.reduceToNat]
    refine mcallP m rfl rfl (One_c (x := ⟨t, 0, 0⟩) (t := ⟨p, q, p⟩)) ?_
    clear m; intro u m
    simp only [zA, zB, zC, zD, zE, zF, zG]
    refine malloc m zero_34 rfl ?_
    clear m; intro g14 u m
    simp only [zA, zB, zC, zD, zE, zF, zG]
    refine mstoreA m 0 rfl rfl rfl cells_34 (leT rfl) rfl ?_
    clear m; intro u m; simp only [over, zH, zI, zJ, zK, zL, zM, zN, zO, zP, zF, zG, Nat.reduceAdd] at m
    refine n_nil (k11 _ _ ?_)
    try clear k11 K11
    refine c_seq fun K12 k12 => wp_region_lit (mcallP m rfl rfl (lfrac_c) ?_)
    clear m; intro u m
    simp only [zA, zB, zC, zD, zE, zF, zG]
    refine malloc m zero_34 rfl ?_
    clear m; intro g15 u m
    simp only [zA, zB, zC, zD, zE, zF, zG]
    refine mstoreA m 0 rfl rfl rfl cells_34 (leT rfl) rfl ?_
    clear m; intro u m; simp only [over, zH, zI, zJ, zK, zL, zM, zN, zO, zP, zF, zG, Nat.reduceAdd] at m
    refine n_nil (k12 _ _ ?_)
    try clear k12 K12
    refine c_seq fun K13 k13 => mq m follows_mixed (by kernel_rfl) (ql rfl (fun u m => ((m.b 8 rfl).full agg_32 cells_32)) ?_)
    simp only [zA, zB, zC, zD, zE, zF, zG]
    refine q_val (r_build_32_) (q_val (r_as (eq_eql_32 rfl rfl) (bool_as (decide_eq_true ⟨rfl, wmag_zero⟩))) (q_val (r_move) (q_want rfl ?_)))
    simp only [zA, zB, zC, zD, zE, zF, zG]
    refine ql rfl (fun u m => ((m.b 7 rfl).full agg_32 cells_32)) ?_
    simp only [zA, zB, zC, zD, zE, zF, zG]
    refine q_want rfl (q_val (r_build_32_) (q_want rfl (q_val (r_as (eq_eql_32 rfl rfl) (bool_as (decide_eq_true ⟨rfl, wmag_zero⟩))) (q_val (r_pickT rfl) (q_val (r_move) ?_)))))
    simp only [zA, zB, zC, zD, zE, zF, zG]
    refine q_want rfl (ql rfl (fun u m => ((m.b 5 rfl).full agg_32 cells_32)) ?_)
    simp only [zA, zB, zC, zD, zE, zF, zG]
    refine q_want rfl (q_val (r_build_32_) (q_want rfl (q_val (r_as (eq_eql_32 rfl rfl) (bool_as (decide_eq_true ⟨rfl, wmag_zero⟩))) (q_val (r_pickT rfl) (q_val (r_move) ?_)))))
    simp only [zA, zB, zC, zD, zE, zF, zG]
    refine q_want rfl (ql rfl (fun u m => ((m.b 4 rfl).full agg_32 cells_32)) ?_)
    simp only [zA, zB, zC, zD, zE, zF, zG]
    refine q_want rfl (q_val (r_build_32_) (q_want rfl (q_val (r_as (eq_eql_32 rfl rfl) (bool_as (decide_eq_true ⟨rfl, wmag_zero⟩))) (q_val (r_pickT rfl) (q_val (r_move) ?_)))))
    simp only [zA, zB, zC, zD, zE, zF, zG]
    refine q_want rfl (qc rfl rfl (fun u m => Volume_c (ts := []) _ (TrisAt.nil _ _) (by decide)) (q_want rfl ?_))
    simp only [zA, zB, zC, zD, zE, zF, zG]
    refine ql rfl (fun u m => ((m.b 0 rfl).full agg_34 cells_34)) ?_
    simp only [zA, zB, zC, zD, zE, zF, zG]
    refine q_want rfl (q_val (r_as (eq_eql_34 rfl rfl) (bool_as (decide_eq_true ⟨rfl, rfl, rfl, rfl⟩))) (q_val (r_pickT rfl) (q_val (r_assign) (q_nil ?_))))
    clear m; intro u m
    refine k13 _ _ ?_
    try clear k13 K13
    refine c_seq fun K14 k14 => ?_
    simp only [zA, zB, zC, zD, zE, zF, zG]
    refine mq m follows_mixed (by kernel_rfl) (q_val (r_move) (q_val (r_move) (q_want rfl (q_val (r_move) (q_want rfl (q_val (r_not rfl) ?_))))))
    simp only [zA, zB, zC, zD, zE, zF, zG]
    refine q_val (r_pickT rfl) (q_val (r_move) (q_want rfl (q_val (r_move) (q_want rfl (q_val (r_not rfl) ?_)))))
    simp only [zA, zB, zC, zD, zE, zF, zG]
    refine q_val (r_pickT rfl) (q_val (r_move) (q_want rfl (q_val (r_move) (q_want rfl (q_val (r_not rfl) ?_)))))
    simp only [zA, zB, zC, zD, zE, zF, zG]
    refine q_val (r_pickT rfl) (q_val (r_move) (q_want rfl ?_))
    simp only [zA, zB, zC, zD, zE, zF, zG]
    refine ql rfl (fun u m => ((m.b 10 rfl).full agg_34 cells_34)) ?_
    simp only [zA, zB, zC, zD, zE, zF, zG]
    refine q_want rfl (ql rfl (fun u m => ((m.b 0 rfl).full agg_34 cells_34)) ?_)
    simp only [zA, zB, zC, zD, zE, zF, zG]
    refine q_want rfl (q_val (r_as (eq_eql_34 rfl rfl) (bool_as (decide_eq_true ⟨rfl, rfl, rfl, rfl⟩))) (q_val (r_pickT rfl) (q_val (r_move) (q_want rfl ?_))))
    simp only [zA, zB, zC, zD, zE, zF, zG]
    refine ql rfl (fun u m => ((m.b 9 rfl).full agg_49 cells_49)) ?_
    simp only [zA, zB, zC, zD, zE, zF, zG]
    refine q_want rfl (ql rfl (fun u m => ((m.b 0 rfl).full agg_34 cells_34)) ?_)
    simp only [zA, zB, zC, zD, zE, zF, zG]
    refine q_want rfl (ql rfl (fun u m => ((m.b 0 rfl).full agg_34 cells_34)) ?_)
    simp only [zA, zB, zC, zD, zE, zF, zG]
    refine q_want rfl (ql rfl (fun u m => ((m.b 0 rfl).full agg_34 cells_34)) ?_)
    simp only [zA, zB, zC, zD, zE, zF, zG]
    refine q_want rfl (q_val (r_build_49_0_1_2 rfl rfl rfl) (q_want rfl (q_val (r_as (eq_eql_49 rfl rfl) (bool_as (decide_eq_true ⟨rfl, rfl, rfl, rfl, rfl, rfl, rfl, rfl, rfl, rfl, rfl, rfl⟩))) (q_val (r_pickT rfl) (q_val (r_move) ?_)))))
    simp only [zA, zB, zC, zD, zE, zF, zG]
    refine q_want rfl (q_val (r_move) (q_val (r_pickT rfl) (q_val (r_move) (q_want rfl (q_val (r_move) ?_)))))
    simp only [zA, zB, zC, zD, zE, zF, zG]
    refine q_val (r_pickT rfl) (q_val (r_move) (q_want rfl ?_))
    simp only [zA, zB, zC, zD, zE, zF, zG]
    refine ql rfl (fun u m => ((m.b 3 rfl).full agg_34 cells_34)) ?_
    simp only [zA, zB, zC, zD, zE, zF, zG]
    refine q_want rfl (ql rfl (fun u m => ((m.b 0 rfl).full agg_34 cells_34)) ?_)
    simp only [zA, zB, zC, zD, zE, zF, zG]
    refine q_want rfl (q_val (r_as (eq_eql_34 rfl rfl) (bool_as (decide_eq_true ⟨rfl, rfl, rfl, rfl⟩))) (q_val (r_pickT rfl) (q_val (r_move) (q_want rfl ?_))))
    simp only [zA, zB, zC, zD, zE, zF, zG]
    refine ql rfl (fun u m => ((m.b 2 rfl).full agg_34 cells_34)) ?_
    simp only [zA, zB, zC, zD, zE, zF, zG]
    refine q_want rfl (ql rfl (fun u m => ((m.b 1 rfl).full agg_34 cells_34)) ?_)
    simp only [zA, zB, zC, zD, zE, zF, zG]
    refine q_want rfl (q_val (r_as (eq_eql_34 rfl rfl) (bool_as (decide_eq_true ⟨rfl, rfl, rfl, rfl⟩))) (q_val (r_pickT rfl) (q_val (r_move) (q_want rfl ?_))))
    simp only [zA, zB, zC, zD, zE, zF, zG]
    refine ql rfl (fun u m => ((m.b 14 rfl).full agg_28 cells_28)) ?_
    simp only [zA, zB, zC, zD, zE, zF, zG]
    refine q_want rfl (ql rfl (fun u m => ((m.b 13 rfl).full agg_28 cells_28)) ?_)
    simp only [zA, zB, zC, zD, zE, zF, zG]
    refine q_want rfl (q_val (r_as (eq_neq_28 rfl rfl) (bool_as (decide_eq_true (pt_ne hpq)))) (q_want rfl (q_val (r_move) (q_skipF rfl (q_skipF rfl ?_)))))
    simp only [zA, zB, zC, zD, zE, zF, zG]
    refine q_skipF rfl (q_skipF rfl (q_skipF rfl (q_skipF rfl ?_)))
    simp only [zA, zB, zC, zD, zE, zF, zG]
    refine q_skipF rfl (q_skipF rfl (q_want rfl (q_val (r_pickT rfl) (q_val (r_pickT rfl) ?_))))
    simp only [zA, zB, zC, zD, zE, zF, zG]
    refine q_val (r_assign) (q_nil ?_)
    clear m; intro u m
    refine k14 _ _ ?_
    try clear k14 K14
    refine wp_ret ?_
    simp only [zA, zB, zC, zD, zE, zF, zG]
    try simp only [Exit.inBlock, Exit.then, if_true]
    refine fin1 rfl rfl ?_
    try simp only [zD, zE]
    exact ⟨_, rfl, m.ext, rfl⟩
  · skip
    have hpe := Classical.not_not.1 hpq
    refine wp_region_lit (mboxA m rfl ?_)
    clear m; intro g1 u m
    simp only [zA, zB, zC, zD, zE, zF, zG]
    refine mboxA m rfl ?_
    clear m; intro g2 u m
    refine n_val (r_assign) (n_nil (k1 _ _ ?_))
    try clear k1 K1
    refine c_seq fun K15 k15 => wp_region_lit ?_
    simp only [zA, zB, zC, zD, zE, zF, zG]
    refine mcallP m rfl rfl (sanity_c) ?_
    clear m; intro u m
    refine n_val (r_assign) (n_nil (k15 _ _ ?_))
    try clear k15 K15
    refine c_seq fun K16 k16 => wp_region_lit ?_
    simp only [zA, zB, zC, zD, zE, zF, zG]
    refine mcallP m rfl rfl (box0_c) ?_
    clear m; intro u m
    refine n_val (r_move) (n_val (r_extract rfl rfl) (n_val (r_extract rfl rfl) ?_))
    simp only [zA, zB, zC, zD, zE, zF, zG]
    refine n_val (r_extract rfl rfl) ?_
    simp only [zA, zB, zC, zD, zE, zF, zG]
    refine malloc m zero_28 rfl ?_
    clear m; intro g3 u m
    simp only [zA, zB, zC, zD, zE, zF, zG]
    refine malloc m zero_28 rfl ?_
    clear m; intro g4 u m
    simp only [zA, zB, zC, zD, zE, zF, zG]
    refine mstoreA m 1 rfl rfl rfl cells_28 (leT rfl) rfl ?_
    clear m; intro u m; simp only [over, zH, zI, zJ, zK, zL, zM, zN, zO, zP, zF, zG, Nat.reduceAdd] at m
    refine mstoreA m 0 rfl rfl rfl cells_28 (leT rfl) rfl ?_
    clear m; intro u m; simp only [over, zH, zI, zJ, zK, zL, zM, zN, zO, zP, zF, zG, Nat.reduceAdd] at m
    refine n_val (r_assign) (n_nil (k16 _ _ ?_))
    try clear k16 K16
    refine c_seq fun K17 k17 => wp_region_lit ?_
    simp only [zA, zB, zC, zD, zE, zF, zG]
    refine n_load rfl ((m.b 3 rfl).full agg_28 cells_28) ?_
    simp only [zA, zB, zC, zD, zE, zF, zG]
    refine mcall m rfl rfl (Far2_c (ts := []) _ (TrisAt.nil _ _) (by decide)) ?_
    clear m; rintro v u m rfl
    simp only [zA, zB, zC, zD, zE, zF, zG]
    rw [show farq p [] = 0 from rfl, show decide ((0 : Int) < ((0 : Nat) : Int)) = false from rfl]
    refine n_val (r_move) (n_val (r_extract rfl rfl) (n_val (r_extract rfl rfl) ?_))
    simp only [zA, zB, zC, zD, zE, zF, zG]
    refine malloc m zero_34 rfl ?_
    clear m; intro g5 u m
    simp only [zA, zB, zC, zD, zE, zF, zG]
    refine mstoreA m 0 rfl rfl rfl cells_34 (leT rfl) rfl ?_
    clear m; intro u m; simp only [over, zH, zI, zJ, zK, zL, zM, zN, zO, zP, zF, zG, Nat.reduceAdd] at m
    refine n_val (r_assign) (n_nil (k17 _ _ ?_))
    try clear k17 K17
    refine c_seq fun K18 k18 => wp_region_lit ?_
    simp only [zA, zB, zC, zD, zE, zF, zG]
    refine mcall m rfl rfl (Centre_c (ts := []) _ (TrisAt.nil _ _) (by decide)) ?_
    clear m; rintro v u m rfl
    simp only [zA, zB, zC, zD, zE, zF, zG]
    rw [show cq (sumT (mom P3.x) []) (sumT det []) = 0 from rfl, show cq (sumT (mom P3.y) []) (sumT det []) = 0 from rfl, show cq (sumT (mom P3.z) []) (sumT det []) = 0 from rfl, show decide (sumT det [] ≠ 0) = false from rfl]
    refine n_val (r_move) (n_val (r_extract rfl rfl) (n_val (r_extract rfl rfl) ?_))
    simp only [zA, zB, zC, zD, zE, zF, zG]
    refine malloc m zero_49 rfl ?_
    clear m; intro g6 u m
    simp only [zA, zB, zC, zD, zE, zF, zG]
    refine mstoreA m 0 rfl rfl rfl cells_49 (leT rfl) rfl ?_
    clear m; intro u m; simp only [over, zH, zI, zJ, zK, zL, zM, zN, zO, zP, zF, zG, Nat.reduceAdd] at m
    refine n_val (r_assign) (n_nil (k18 _ _ ?_))
    try clear k18 K18
    refine c_seq fun K19 k19 => wp_region_lit ?_
    simp only [zA, zB, zC, zD, zE, zF, zG]
    refine mcall m rfl rfl (Area_c (ts := []) _ (TrisAt.nil _ _) (by decide)) ?_
    clear m; rintro v u m rfl
    simp only [zA, zB, zC, zD, zE, zF, zG]
    rw [show sumT lowA [] = 0 from rfl, show sumT highA [] = 0 from rfl]
    refine n_val (r_move) (n_val (r_extract rfl rfl) (n_val (r_extract rfl rfl) ?_))
    simp only [zA, zB, zC, zD, zE, zF, zG]
    refine malloc m zero_32 rfl ?_
    clear m; intro g7 u m
    simp only [zA, zB, zC, zD, zE, zF, zG]
    refine malloc m zero_32 rfl ?_
    clear m; intro g8 u m
    simp only [zA, zB, zC, zD, zE, zF, zG]
    refine mstoreA m 1 rfl rfl rfl cells_32 (leT rfl) rfl ?_
    clear m; intro u m; simp only [over, zH, zI, zJ, zK, zL, zM, zN, zO, zP, zF, zG, Nat.reduceAdd] at m
    refine mstoreA m 0 rfl rfl rfl cells_32 (leT rfl) rfl ?_
    clear m; intro u m; simp only [over, zH, zI, zJ, zK, zL, zM, zN, zO, zP, zF, zG, Nat.reduceAdd] at m
    refine n_nil (k19 _ _ ?_)
    try clear k19 K19
    refine c_seq fun K20 k20 => wp_region_lit (n_load rfl ((m.b 7 rfl).full agg_28 cells_28) ?_)
    simp only [zA, zB, zC, zD, zE, zF, zG]
    refine n_load rfl ((m.b 6 rfl).full agg_28 cells_28) ?_
    simp only [zA, zB, zC, zD, zE, zF, zG]
    refine n_load rfl ((m.b 7 rfl).full agg_28 cells_28) ?_
    simp only [zA, zB, zC, zD, zE, zF, zG]
    refine n_val (r_build_59_0_1_2 rfl rfl rfl) ?_
    simp only [zA, zB, zC, zD, zE, zF, zG]
    refine n_bs_24_1 rfl ?_
    intro u g9 e hg hB; replace m := m.newB e hg hB; clear e hg hB
    refine n_val (r_assign) (n_nil (k20 _ _ ?_))
    try clear k20 K20
    refine c_seq fun K21 k21 => wp_region_lit (n_val (r_move) ?_)
    simp only [zA, zB, zC, zD, zE, zF, zG]
    refine mcall m rfl rfl (Area_c (ts := [⟨p, q, p⟩]) _ (TrisAt.one (t := ⟨p, q, p⟩) (m.b 0 rfl)) (by decide)) ?_
    clear m; rintro v u m rfl
    simp only [zA, zB, zC, zD, zE, zF, zG]
    rw [deg_low, deg_high]
    refine n_val (r_move) (n_val (r_extract rfl rfl) (n_val (r_extract rfl rfl) ?_))
    simp only [zA, zB, zC, zD, zE, zF, zG]
    refine malloc m zero_32 rfl ?_
    clear m; intro g10 u m
    simp only [zA, zB, zC, zD, zE, zF, zG]
    refine malloc m zero_32 rfl ?_
    clear m; intro g11 u m
    simp only [zA, zB, zC, zD, zE, zF, zG]
    refine mstoreA m 1 rfl rfl rfl cells_32 (leT rfl) rfl ?_
    clear m; intro u m; simp only [over, zH, zI, zJ, zK, zL, zM, zN, zO, zP, zF, zG, Nat.reduceAdd] at m
    refine mstoreA m 0 rfl rfl rfl cells_32 (leT rfl) rfl ?_
    clear m; intro u m; simp only [over, zH, zI, zJ, zK, zL, zM, zN, zO, zP, zF, zG, Nat.reduceAdd] at m
    refine n_nil (k21 _ _ ?_)
    try clear k21 K21
    refine c_seq fun K22 k22 => wp_region_lit (n_load rfl ((m.b 9 rfl).full agg_28 cells_28) ?_)
    simp only [zA, zB, zC, zD, zE, zF, zG]
    refine n_val (r_move) ?_
    simp only [zA, zB, zC, zD, zE, zF, zG]
    refine mcall m rfl rfl (Far2_c (ts := [⟨p, q, p⟩]) _ (TrisAt.one (t := ⟨p, q, p⟩) (m.b 2 rfl)) (by decide)) ?_
    clear m; rintro v u m rfl
    simp only [zA, zB, zC, zD, zE, zF, zG]
    rw [deg_far_q, show decide ((0 : Int) < ((1 : Nat) : Int)) = true from rfl]
    refine n_val (r_move) (n_val (r_extract rfl rfl) (n_val (r_extract rfl rfl) ?_))
    simp only [zA, zB, zC, zD, zE, zF, zG]
    refine malloc m zero_34 rfl ?_
    clear m; intro g12 u m
    simp only [zA, zB, zC, zD, zE, zF, zG]
    refine mstoreA m 0 rfl rfl rfl cells_34 (leT rfl) rfl ?_
    clear m; intro u m; simp only [over, zH, zI, zJ, zK, zL, zM, zN, zO, zP, zF, zG, Nat.reduceAdd] at m
    refine n_val (r_assign) (n_nil (k22 _ _ ?_))
    try clear k22 K22
    refine c_seq fun K23 k23 => wp_region_lit (n_val (r_move) (n_val (r_build_28_0 rfl) (n_val (r_move) ?_)))
    simp only [zA, zB, zC, zD, zE, zF, zG]
    refine mcall m rfl rfl (Far2_c (x := ⟨t, 0, 0⟩) (ts := [⟨p, q, p⟩]) _ (TrisAt.one (t := ⟨p, q, p⟩) (m.b 3 rfl)) (by decide)) ?_
    clear m; rintro v u m rfl
    simp only [zA, zB, zC, zD, zE, zF, zG]
    rw [show decide ((0 : Int) < ((1 : Nat) : Int)) = true from rfl]
    refine n_val (r_move) (n_val (r_extract rfl rfl) (n_val (r_extract rfl rfl) ?_))
    simp only [zA, zB, zC, zD, zE, zF, zG]
    refine malloc m zero_34 rfl ?_
    clear m; intro g13 u m
    simp only [zA, zB, zC, zD, zE, zF, zG]
    refine mstoreA m 0 rfl rfl rfl cells_34 (leT rfl) rfl ?_
    clear m; intro u m; simp only [over, zH, zI, zJ, zK, zL, zM, zN, zO, zP, zF, zG, Nat.reduceAdd] at m
    refine n_val (r_assign) (n_nil (k23 _ _ ?_))
    try clear k23 K23
    refine c_seq fun K24 k24 => wp_region_lit (n_val (r_move) (n_val (r_build_28_0 rfl) (n_val (r_move) ?_)))
    simp only [zA, zB, zC, zD, zE, zF, zG]
    refine n_val (r_indexAddrS Tryz.underlying24 cells_59 rfl rfl (by decide) (by decide) rfl) ?_
    simp only [zA, zB, zC, zD, zE, zF, zG]
    refine n_load rfl ((m.b 4 rfl).lies agg_59 cells_59 rfl rfl) ?_
    simp only [zA, zB, zC, zD, zE, zF, zG, zH, zI, zJ, zK, Nat.zero_add, Nat.reduceAdd, Nat.reduceMul, Int.reduceToNat]
    refine mcallP m rfl rfl (One_c (x := ⟨t, 0, 0⟩) (t := ⟨p, q, p⟩)) ?_
    clear m; intro u m
    simp only [zA, zB, zC, zD, zE, zF, zG]
    refine malloc m zero_34 rfl ?_
    clear m; intro g14 u m
    simp only [zA, zB, zC, zD, zE, zF, zG]
    refine mstoreA m 0 rfl rfl rfl cells_34 (leT rfl) rfl ?_
    clear m; intro u m; simp only [over, zH, zI, zJ, zK, zL, zM, zN, zO, zP, zF, zG, Nat.reduceAdd] at m
    refine n_nil (k24 _ _ ?_)
    try clear k24 K24
    refine c_seq fun K25 k25 => wp_region_lit (mcallP m rfl rfl (lfrac_c) ?_)
    clear m; intro u m
    simp only [zA, zB, zC, zD, zE, zF, zG]
    refine malloc m zero_34 rfl ?_
    clear m; intro g15 u m
    simp only [zA, zB, zC, zD, zE, zF, zG]
    refine mstoreA m 0 rfl rfl rfl cells_34 (leT rfl) rfl ?_
    clear m; intro u m; simp only [over, zH, zI, zJ, zK, zL, zM, zN, zO, zP, zF, zG, Nat.reduceAdd] at m
    refine n_nil (k25 _ _ ?_)
    try clear k25 K25
    refine c_seq fun K26 k26 => mq m follows_mixed (by kernel_rfl) (ql rfl (fun u m => ((m.b 8 rfl).full agg_32 cells_32)) ?_)
    simp only [zA, zB, zC, zD, zE, zF, zG]
    refine q_val (r_build_32_) (q_val (r_as (eq_eql_32 rfl rfl) (bool_as (decide_eq_true ⟨rfl, wmag_zero⟩))) (q_val (r_move) (q_want rfl ?_)))
    simp only [zA, zB, zC, zD, zE, zF, zG]
    refine ql rfl (fun u m => ((m.b 7 rfl).full agg_32 cells_32)) ?_
    simp only [zA, zB, zC, zD, zE, zF, zG]
    refine q_want rfl (q_val (r_build_32_) (q_want rfl (q_val (r_as (eq_eql_32 rfl rfl) (bool_as (decide_eq_true ⟨rfl, wmag_zero⟩))) (q_val (r_pickT rfl) (q_val (r_move) ?_)))))
    simp only [zA, zB, zC, zD, zE, zF, zG]
    refine q_want rfl (ql rfl (fun u m => ((m.b 5 rfl).full agg_32 cells_32)) ?_)
    simp only [zA, zB, zC, zD, zE, zF, zG]
    refine q_want rfl (q_val (r_build_32_) (q_want rfl (q_val (r_as (eq_eql_32 rfl rfl) (bool_as (decide_eq_true ⟨rfl, wmag_zero⟩))) (q_val (r_pickT rfl) (q_val (r_move) ?_)))))
    simp only [zA, zB, zC, zD, zE, zF, zG]
    refine q_want rfl (ql rfl (fun u m => ((m.b 4 rfl).full agg_32 cells_32)) ?_)
    simp only [zA, zB, zC, zD, zE, zF, zG]
    refine q_want rfl (q_val (r_build_32_) (q_want rfl (q_val (r_as (eq_eql_32 rfl rfl) (bool_as (decide_eq_true ⟨rfl, wmag_zero⟩))) (q_val (r_pickT rfl) (q_val (r_move) ?_)))))
    simp only [zA, zB, zC, zD, zE, zF, zG]
    refine q_want rfl (qc rfl rfl (fun u m => Volume_c (ts := []) _ (TrisAt.nil _ _) (by decide)) (q_want rfl ?_))
    simp only [zA, zB, zC, zD, zE, zF, zG]
    refine ql rfl (fun u m => ((m.b 0 rfl).full agg_34 cells_34)) ?_
    simp only [zA, zB, zC, zD, zE, zF, zG]
    refine q_want rfl (q_val (r_as (eq_eql_34 rfl rfl) (bool_as (decide_eq_true ⟨rfl, rfl, rfl, rfl⟩))) (q_val (r_pickT rfl) (q_val (r_assign) (q_nil ?_))))
    clear m; intro u m
    refine k26 _ _ ?_
    try clear k26 K26
    refine c_seq fun K27 k27 => ?_
    simp only [zA, zB, zC, zD, zE, zF, zG]
    refine mq m follows_mixed (by kernel_rfl) (q_val (r_move) (q_val (r_move) (q_want rfl (q_val (r_move) (q_want rfl (q_val (r_not rfl) ?_))))))
    simp only [zA, zB, zC, zD, zE, zF, zG]
    refine q_val (r_pickT rfl) (q_val (r_move) (q_want rfl (q_val (r_move) (q_want rfl (q_val (r_not rfl) ?_)))))
    simp only [zA, zB, zC, zD, zE, zF, zG]
    refine q_val (r_pickT rfl) (q_val (r_move) (q_want rfl (q_val (r_move) (q_want rfl (q_val (r_not rfl) ?_)))))
    simp only [zA, zB, zC, zD, zE, zF, zG]
    refine q_val (r_pickT rfl) (q_val (r_move) (q_want rfl ?_))
    simp only [zA, zB, zC, zD, zE, zF, zG]
    refine ql rfl (fun u m => ((m.b 10 rfl).full agg_34 cells_34)) ?_
    simp only [zA, zB, zC, zD, zE, zF, zG]
    refine q_want rfl (ql rfl (fun u m => ((m.b 0 rfl).full agg_34 cells_34)) ?_)
    simp only [zA, zB, zC, zD, zE, zF, zG]
    refine q_want rfl (q_val (r_as (eq_eql_34 rfl rfl) (bool_as (decide_eq_true ⟨rfl, rfl, rfl, rfl⟩))) (q_val (r_pickT rfl) (q_val (r_move) (q_want rfl ?_))))
    simp only [zA, zB, zC, zD, zE, zF, zG]
    refine ql rfl (fun u m => ((m.b 9 rfl).full agg_49 cells_49)) ?_
    simp only [zA, zB, zC, zD, zE, zF, zG]
    refine q_want rfl (ql rfl (fun u m => ((m.b 0 rfl).full agg_34 cells_34)) ?_)
    simp only [zA, zB, zC, zD, zE, zF, zG]
    refine q_want rfl (ql rfl (fun u m => ((m.b 0 rfl).full agg_34 cells_34)) ?_)
    simp only [zA, zB, zC, zD, zE, zF, zG]
    refine q_want rfl (ql rfl (fun u m => ((m.b 0 rfl).full agg_34 cells_34)) ?_)
    simp only [zA, zB, zC, zD, zE, zF, zG]
    refine q_want rfl (q_val (r_build_49_0_1_2 rfl rfl rfl) (q_want rfl (q_val (r_as (eq_eql_49 rfl rfl) (bool_as (decide_eq_true ⟨rfl, rfl, rfl, rfl, rfl, rfl, rfl, rfl, rfl, rfl, rfl, rfl⟩))) (q_val (r_pickT rfl) (q_val (r_move) ?_)))))
    simp only [zA, zB, zC, zD, zE, zF, zG]
    refine q_want rfl (q_val (r_move) (q_val (r_pickT rfl) (q_val (r_move) (q_want rfl (q_val (r_move) ?_)))))
    simp only [zA, zB, zC, zD, zE, zF, zG]
    refine q_val (r_pickT rfl) (q_val (r_move) (q_want rfl ?_))
    simp only [zA, zB, zC, zD, zE, zF, zG]
    refine ql rfl (fun u m => ((m.b 3 rfl).full agg_34 cells_34)) ?_
    simp only [zA, zB, zC, zD, zE, zF, zG]
    refine q_want rfl (ql rfl (fun u m => ((m.b 0 rfl).full agg_34 cells_34)) ?_)
    simp only [zA, zB, zC, zD, zE, zF, zG]
    refine q_want rfl (q_val (r_as (eq_eql_34 rfl rfl) (bool_as (decide_eq_true ⟨rfl, rfl, rfl, rfl⟩))) (q_val (r_pickT rfl) (q_val (r_move) (q_want rfl ?_))))
    simp only [zA, zB, zC, zD, zE, zF, zG]
    refine ql rfl (fun u m => ((m.b 2 rfl).full agg_34 cells_34)) ?_
    simp only [zA, zB, zC, zD, zE, zF, zG]
    refine q_want rfl (ql rfl (fun u m => ((m.b 1 rfl).full agg_34 cells_34)) ?_)
    simp only [zA, zB, zC, zD, zE, zF, zG]
    refine q_want rfl (q_val (r_as (eq_eql_34 rfl rfl) (bool_as (decide_eq_true ⟨rfl, rfl, rfl, rfl⟩))) (q_val (r_pickT rfl) (q_val (r_move) (q_want rfl ?_))))
    simp only [zA, zB, zC, zD, zE, zF, zG]
    refine ql rfl (fun u m => ((m.b 14 rfl).full agg_28 cells_28)) ?_
    simp only [zA, zB, zC, zD, zE, zF, zG]
    refine q_want rfl (ql rfl (fun u m => ((m.b 13 rfl).full agg_28 cells_28)) ?_)
    simp only [zA, zB, zC, zD, zE, zF, zG]
    refine q_want rfl (q_val (r_as (eq_neq_28 rfl rfl) (bool_as (decide_eq_false (fun h => h (pt_eq hpe))))) (q_want rfl (q_val (r_move) (q_want rfl ?_))))
    simp only [zA, zB, zC, zD, zE, zF, zG]
    refine ql rfl (fun u m => ((m.b 2 rfl).full agg_34 cells_34)) ?_
    simp only [zA, zB, zC, zD, zE, zF, zG]
    refine q_want rfl (ql rfl (fun u m => ((m.b 14 rfl).full agg_28 cells_28)) ?_)
    simp only [zA, zB, zC, zD, zE, zF, zG]
    refine q_want rfl (q_val (r_move) (q_want rfl (q_val (r_build_28_0 rfl) (q_want rfl ?_))))
    simp only [zA, zB, zC, zD, zE, zF, zG]
    refine qcP rfl rfl (rDist2_c (p := p) (q := ⟨t, 0, 0⟩)) (q_want rfl ?_)
    simp only [zA, zB, zC, zD, zE, zF, zG]
    refine qcP rfl rfl (rFrom_c Iw.h) (q_want rfl (q_val (r_build_34_0_1 rfl rfl) (q_want rfl (q_val (r_as (eq_eql_34 rfl rfl) (bool_as (decide_eq_true (q1_eqs (deg_far_pq hpe))))) (q_want rfl (q_val (r_pickF rfl) ?_))))))
    simp only [zA, zB, zC, zD, zE, zF, zG]
    refine q_val (r_pickT rfl) (q_val (r_assign) (q_nil ?_))
    clear m; intro u m
    refine k27 _ _ ?_
    try clear k27 K27
    refine wp_ret ?_
    simp only [zA, zB, zC, zD, zE, zF, zG]
    try simp only [Exit.inBlock, Exit.then, if_true]
    refine fin1 rfl rfl ?_
    try simp only [zD, zE]
    exact ⟨_, rfl, m.ext, rfl⟩

end Go.Proofs.YtmcgcnpgkkfkoaaGreatDoor
namespace Go.Lith
open Go.RowKit Go.ChangeShapes
variable {H : Type} {enc : TypeId × Value → H} {P : Program}
theorem trodAll_ext (hl : laidOutB P = true) {W W' : World} (hb : Ext W W') {sp : Nat → Bool} :
    ∀ {ts : List TypeId} {vs : List Value} {ds : List (DataW H)} {ps : List MemPlace}, (ts.all fun t => P.readableRec t && decide (t < P.types.size)) = true → DataW.TrodAll enc P W 0 (fun _ => true) true ts vs ds ps → (∀ p ∈ ps, sp p.block = true) → DataW.TrodAll enc P W' 0 sp true ts vs ds ps
  | [], [], [], _, _, h, _ => h
  | [], [], _ :: _, _, _, h, _ => h.elim
  | [], _ :: _, _, _, _, h, _ => h.elim
  | _ :: _, [], _, _, _, h, _ => h.elim
  | _ :: _, _ :: _, [], _, _, h, _ => h.elim
  | t :: ts, v :: vs, d :: ds, ps, hv, h, hs => by
    obtain ⟨p, q, ⟨n, h1⟩, h2, e⟩ := h
    subst e
    simp only [List.all_cons, Bool.and_eq_true, decide_eq_true_eq] at hv
    have hlt := DataW.trod_lt n _ _ _ h1
    exact ⟨p, q, ⟨n, DataW.trod_stays (kids_book hl hv.1.1) (book_sized hv.1.1) (fun h => by cases h) ⟨hv.1.2, book_self t⟩ h1 (fun x hx => Below.same hb (hlt x hx)) (fun x hx => hs x (by simp [hx]))⟩,
      trodAll_ext hl hb (by simpa using hv.2) h2 (fun x hx => hs x (by simp [hx])), rfl⟩
theorem post_of_ext {f : Func} {s : ChangeSpec} {apart fresh handsOn again : Bool} {W W' : World} {args : Array Value} {t : TypeId} {ds gs : List (DataW H)} {before : List MemPlace}
    (hl : laidOutB P = true) (hps : (f.params.toList.all fun t => P.readableRec t && decide (t < P.types.size)) = true) (hv : s.vars = []) (hr : f.resultTypes = #[t]) (hu : P.underlying t = some .bool)
    (hW : DataW.Whole enc P f.params.toList s.vars apart W args.toList ds gs before) (hfn : (s.fn H (ds ++ gs)).results = [.lit (.bool true)] ∧ (s.fn H (ds ++ gs)).args = ds ∧ (s.fn H (ds ++ gs)).vars = []) (hb : Ext W W') :
    s.post enc P f apart fresh handsOn again W args (.bool true) W' := by
  have hW0 := hW
  obtain ⟨p, q, hA, hV, rfl, hz, hn⟩ := hW0
  rw [hv] at hV
  obtain ⟨rfl, rfl⟩ := trodVars_none hV
  have hargs : ∀ sp : Nat → Bool, (∀ x ∈ p ++ [], sp x.block = true) → DataW.TrodAll enc P W' 0 sp true f.params.toList args.toList (s.fn H (ds ++ [])).args p := fun sp hsp => by
    rw [hfn.2.1]
    exact trodAll_ext hl hb hps hA (fun x hx => hsp x (by simp [hx]))
  have hvars : ∀ sp : Nat → Bool, DataW.TrodVars enc P W' sp s.vars (s.fn H (ds ++ [])).vars [] := fun sp => by
    rw [hv, hfn.2.2]
    exact rfl
  have hres : ∀ (b : Nat) (sp : Nat → Bool) (hd : Bool), DataW.TrodAll enc P W' b sp hd f.resultTypes.toList ((Value.bool true).resultList f.resultTypes.size) (s.fn H (ds ++ [])).results [] := fun b sp hd => by
    rw [hr, hfn.1]
    exact trodAll_cons_mk (shut_bool hu true) trodAll_mk0
  have hok : ∀ (j : Nat) (t : TypeId) (r : Value), f.resultTypes[j]? = some t → ((Value.bool true).resultList f.resultTypes.size)[j]? = some r → Value.okWide P W' .any 0 t r := ok_one hr rfl (okWide_bool_mk hu _)
  have hlt : ∀ x ∈ p ++ [], x.block < W.heap.size := hW.lt
  have hold : ∀ x ∈ p ++ [], (fun b => decide (b < W.heap.size)) x.block = true := fun x hx => by simpa using hlt x hx
  refine ⟨ds, [], p ++ [], [], p, [], hW, hres _ _ _, hargs _ hold, hvars _, Below.frame hb _, fun _ => ?_⟩
  refine ⟨hok, _, _, ([] ++ p) ++ [], ⟨[] ++ p, [], trodAll_append (hargs _ (fun _ _ => rfl)) (hres _ _ _), hvars _, rfl, ?_, ?_⟩, ?_⟩
  · intro b off hp
    have h1 : MemPlace.cell b off ∈ p ++ [] := by simpa using hp
    rw [Below.frozen hb (p := ⟨b, off, none⟩) (hlt _ h1)]
    exact hz b off h1
  · intro ha
    simpa using hn ha
  · intro x hp _
    simpa using hp
end Go.Lith
namespace Go.Lith
open Go.RowKit Go.ChangeShapes
variable {H : Type} {enc : TypeId × Value → H} {P : Program} {w : World} {base : Nat} {spare : Nat → Bool} {held : Bool}
def intsOnly (P : Program) : Nat → TypeId → Bool
  | 0, _ => false
  | n + 1, t => match P.underlying t with
    | some (.int .i64) => decide (P.cellsOf t = 1)
    | some (.struct fs) => (fs.toList.all fun f => intsOnly P n f.type) && (List.range (P.cellsOf t)).all fun i => fs.toList.any fun f => decide (f.offset ≤ i) && decide (i < f.offset + P.cellsOf f.type)
    | some (.array m e) => intsOnly P n e && decide (P.cellsOf t = m * P.cellsOf e)
    | _ => false
theorem i64_of {n : Int} (h : (Lit.int .i64 n).wf = true) : I64 n := by
  have := bounds_i64 h
  exact ⟨by omega, by omega⟩
theorem ints_of_trod : ∀ (n : Nat) (t : TypeId) (m : Nat) (cs : List Value) (x : DataW H × List MemPlace), intsOnly P n t = true → DataW.trod enc P w base spare held m t cs = some x →
    cs.length = P.cellsOf t ∧ ∀ v ∈ cs, ∃ z, v = .int .i64 z ∧ I64 z
  | 0, t, m, cs, x, h, _ => by cases h
  | n + 1, t, m, cs, x, h, hx => by
    unfold intsOnly at h
    split at h
    · rename_i hu
      obtain ⟨z, rfl, _, hz⟩ := DataW.trod_int hu hx
      refine ⟨by rw [of_decide_eq_true h]; rfl, fun v hv => ⟨z, by simpa using hv, i64_of hz⟩⟩
    · rename_i fs hu
      simp only [Bool.and_eq_true, List.all_eq_true, List.any_eq_true, decide_eq_true_eq, List.mem_range] at h
      obtain ⟨ys, k, _, _, hl, hlen, hf⟩ := DataW.trod_struct hu hx
      refine ⟨hl, fun v hv => ?_⟩
      obtain ⟨i, hi, rfl⟩ := List.getElem_of_mem hv
      obtain ⟨f, hfm, h1, h2⟩ := h.2 i (by rw [← hl]; exact hi)
      obtain ⟨j, hj, rfl⟩ := List.getElem_of_mem hfm
      have hj' : j < fs.size := by simpa using hj
      have := hf j fs[j] (Array.getElem?_eq_getElem hj')
      rw [List.getElem?_eq_getElem (by rw [hlen]; exact hj')] at this
      have hr := (ints_of_trod n _ _ _ _ (h.1 _ (List.getElem_mem hj)) this).2
      refine hr _ ?_
      simp only [Array.getElem_toList] at h1 h2
      refine List.mem_of_getElem? (i := i - fs[j].offset) ?_
      rw [List.getElem?_take, if_pos (by omega), List.getElem?_drop, show fs[j].offset + (i - fs[j].offset) = i by omega]
      exact List.getElem?_eq_getElem hi
    · rename_i q e hu
      simp only [Bool.and_eq_true, decide_eq_true_eq] at h
      obtain ⟨ys, k, _, _, hl, hlen, hf⟩ := DataW.trod_array hu hx
      refine ⟨hl, fun v hv => ?_⟩
      obtain ⟨i, hi, rfl⟩ := List.getElem_of_mem hv
      rw [hl, h.2] at hi
      have hc : 0 < P.cellsOf e := by
        rcases Nat.eq_zero_or_pos (P.cellsOf e) with h0 | h0
        · rw [h0] at hi; omega
        · exact h0
      have hq : i / P.cellsOf e < q := Nat.div_lt_of_lt_mul (by rw [Nat.mul_comm]; exact hi)
      have := hf _ hq
      rw [List.getElem?_eq_getElem (by rw [hlen]; exact hq)] at this
      have hr := (ints_of_trod n _ _ _ _ h.1 this).2
      refine hr _ (List.mem_of_getElem? (i := i % P.cellsOf e) ?_)
      rw [List.getElem?_take, if_pos (Nat.mod_lt _ hc), List.getElem?_drop, Nat.mul_comm, Nat.div_add_mod]
      exact List.getElem?_eq_getElem _
    · cases h
theorem ints_list : ∀ (n : Nat) (cs : List Value), cs.length = n → (∀ v ∈ cs, ∃ z, v = .int .i64 z ∧ I64 z) → ∃ zs : List Int, zs.length = n ∧ cs = zs.map (.int .i64 ·) ∧ ∀ z ∈ zs, I64 z
  | 0, [], _, _ => ⟨[], rfl, rfl, fun _ h => by cases h⟩
  | n + 1, v :: vs, h, hv => by
    obtain ⟨zs, h1, h2, h3⟩ := ints_list n vs (by simpa using h) (fun u hu => hv u (by simp [hu]))
    obtain ⟨z, rfl, hz⟩ := hv v (by simp)
    exact ⟨z :: zs, by simp [h1], by simp [h2], fun u hu => by rcases List.mem_cons.1 hu with rfl | hu; exact hz; exact h3 _ hu⟩
theorem open_ints {r : Reach} {b0 n m : Nat} {t : TypeId} {v : Value} {d : DataW H} {p : List MemPlace} (ha : IsAgg P t true) (hi : intsOnly P n t = true) (hc : P.cellsOf t = m) (hv : Value.okWide P w r b0 t v) (h : DataW.Trod enc P w base spare held t v d p) :
    ∃ zs : List Int, zs.length = m ∧ v = .agg (zs.map (.int .i64 ·)).toArray ∧ ∀ z ∈ zs, I64 z := by
  obtain ⟨dd, hu, hd⟩ := ha
  obtain ⟨fuel, hf⟩ := h
  unfold Value.okWide at hv
  rw [hu] at hv
  have : ∃ cs, v = .agg cs := by
    cases dd <;> first | (obtain ⟨cs, rfl, _⟩ := hv; exact ⟨cs, rfl⟩) | (cases hd)
  obtain ⟨cs, rfl⟩ := this
  obtain ⟨h1, h2⟩ := ints_of_trod n t fuel _ _ hi hf
  obtain ⟨zs, h3, h4, h5⟩ := ints_list m cs.toList (by rw [← hc]; exact h1) h2
  exact ⟨zs, h3, by rw [← h4], h5⟩
theorem three {zs : List Int} (h : zs.length = 3) : ∃ a b c, zs = [a, b, c] := by
  match zs, h with
  | [a, b, c], _ => exact ⟨a, b, c, rfl⟩
theorem open_pt {r : Reach} {b0 n : Nat} {t : TypeId} {v : Value} {d : DataW H} {p : List MemPlace} (ha : IsAgg P t true) (hi : intsOnly P n t = true) (hc : P.cellsOf t = 3) (hv : Value.okWide P w r b0 t v) (h : DataW.Trod enc P w base spare held t v d p) : ∃ q : P3, I3 q ∧ v = pt q := by
  obtain ⟨zs, h1, rfl, h2⟩ := open_ints ha hi hc hv h
  obtain ⟨a, b, c, rfl⟩ := three h1
  exact ⟨⟨a, b, c⟩, ⟨h2 _ (by simp), h2 _ (by simp), h2 _ (by simp)⟩, rfl⟩
structure IntsAt (w : World) (A : Option Addr) (n : Nat) (zs : List Int) : Prop where
  len : zs.length = n
  it : ∀ z ∈ zs, I64 z
  row : ∀ i z, zs[i]? = some z → ∃ a, A = some a ∧ w.cell? (a.add i) = some (.int .i64 z)
theorem IntsAt.ext {w' : World} {A : Option Addr} {n : Nat} {zs : List Int} (h : IntsAt w A n zs) (hE : Ext w w') : IntsAt w' A n zs :=
  ⟨h.len, h.it, fun i z hi => let ⟨a, e, hr⟩ := h.row i z hi; ⟨a, e, hE.cell hr⟩⟩
theorem IntsAt.get {A : Option Addr} {n : Nat} {zs : List Int} (h : IntsAt w A n zs) {i : Nat} (hi : i < n) : ∃ z, zs[i]? = some z ∧ Iw z ∧ ∃ a, A = some a ∧ w.cell? (a.add i) = some (.int .i64 z) := by
  have hl : i < zs.length := by rw [h.len]; exact hi
  exact ⟨zs[i], List.getElem?_eq_getElem hl, ⟨h.it _ (List.getElem_mem hl)⟩, h.row i _ (List.getElem?_eq_getElem hl)⟩
end Go.Lith
namespace Go.Proofs.YtmcgcnpgkkfkoaaGreatDoor.measureEmpty
open Go.ChangeShapes Go.WideShapes Go.ChangeAt Go.RowKit Go.Lith Go.Joins
set_option maxRecDepth 100000
theorem own : ownKnob Tryz.prog.godebug = none := by kernel_rfl
theorem laidOut : laidOutB Tryz.prog = true := by kernel_rfl
theorem contract (H : Type) (enc : TypeId × Value → H) (W : World) (base : Nat) (args : Array Value) (ds gs : List (DataW H)) (before : List MemPlace)
    (hval : ∀ (j : Nat) t v, Tryz.f8.params[j]? = some t → args[j]? = some v → Value.okWide Tryz.prog W .any base t v)
    (hW : DataW.Whole enc Tryz.prog Tryz.f8.params.toList Rows.measureEmptySpec.vars false W args.toList ds gs before) :
    Calls Tryz.prog 8 args W fun e W' => ∃ v, e = .returned v ∧ Rows.measureEmptySpec.post enc Tryz.prog Tryz.f8 false true false false W args v W' := by
  have hW' := hW
  obtain ⟨p, q, hA, hV, rfl, hfz, hnd⟩ := hW
  rw [Tryz.params8] at hA hval
  obtain ⟨v0, vs0, d0, ds0, p0, q0, hargs, rfl, rfl, h0, r0⟩ := trodAll_cons hA
  obtain ⟨v1, vs1, d1, ds1, p1, q1, e1, rfl, rfl, h1, r1⟩ := trodAll_cons r0
  obtain ⟨v2, vs2, d2, ds2, p2, q2, e2, rfl, rfl, h2, r2⟩ := trodAll_cons r1
  obtain ⟨rfl, rfl, rfl⟩ := trodAll_nil r2
  subst e2
  subst e1
  obtain rfl : args = #[v0, v1, v2] := by cases args; simp_all
  obtain ⟨rfl, rfl⟩ := trodVars_none hV
  obtain ⟨a, ia, rfl⟩ := open_pt agg_28 (n := 5) (by kernel_rfl) (by kernel_rfl) (hval 0 28 v0 rfl rfl) h0
  obtain ⟨b, ib, rfl⟩ := open_pt agg_28 (n := 5) (by kernel_rfl) (by kernel_rfl) (hval 1 28 v1 rfl rfl) h1
  obtain ⟨t, rfl, _, _, wt⟩ := open_int Tryz.underlying3 (hval 2 3 v2 rfl rfl) h2
  haveI : Iw t := ⟨i64_of wt⟩
  refine (MeasureEmpty_c (p := a) (q := b) (t := t) W).2.mono ?_
  rintro e W' ⟨v, rfl, hE, rfl⟩
  exact ⟨_, rfl, post_of_ext laidOut (by kernel_rfl) rfl rfl Tryz.underlying4 hW' ⟨rfl, rfl, rfl⟩ hE⟩

def accepts : List Value := [128, 191, 160, 191, 128, 159, 144, 191, 128, 143, 0, 0, 0, 0, 0, 0, 0, 0, 0, 0, 0, 0, 0, 0, 0, 0, 0, 0, 0, 0, 0, 0].map fun n => .int .u8 n
def firsts : List Value := Go.Pinned.utf8FirstZ.map fun (n : Nat) => Value.int .u8 (n : Int)
def relaid (cs : List Value) : Obj → Obj
  | .cells _ t frozen => .cells cs.toArray t frozen
  | o => o
noncomputable def laidWorld (os : Os) : World :=
  { World.holding Tryz.prog os ⟨#[], #[], []⟩ with heap := ((World.holding Tryz.prog os ⟨#[], #[], []⟩).heap.modify 0 (relaid firsts)).modify 1 (relaid accepts) }
def inp : Array Value := #[.agg #[.int .i64 0, .int .i64 0, .int .i64 0], .agg #[.int .i64 0, .int .i64 0, .int .i64 0], .int .i64 0]
theorem laid_met (os : Os) : laidMet Tryz.prog Rows.measureEmptyRow.laid ((laidWorld os).forCall (fun _ _ => 0) ⟨#[], inp, []⟩).memory :=
  laidMet_of_run' 8 (by kernel_rfl) (by kernel_rfl)
theorem reads (os : Os) {H : Type} (enc : TypeId × Value → H) : ∃ places, DataW.whole enc Tryz.prog ((laidWorld os).forCall (fun _ _ => 0) ⟨#[], inp, []⟩).memory Tryz.f8.params.toList Rows.measureEmptySpec.vars false inp.toList 8 = some ([.agg [.lit (.int .i64 0), .lit (.int .i64 0), .lit (.int .i64 0)], .agg [.lit (.int .i64 0), .lit (.int .i64 0), .lit (.int .i64 0)], .lit (.int .i64 0)], [], places) :=
  ⟨[], by kernel_rfl⟩
set_option maxRecDepth 100000 in
theorem lifted (os : Os) (started : os.Started) (H : Type) (enc : TypeId × Value → H) (F : Stop.Interp) :
    ReturnsInHanded {} Tryz.checked os 8 .any ((OpenSpec.ofChange Rows.measureEmptySpec).preRow enc Tryz.prog Tryz.f8 Rows.measureEmptyRow.domain false Rows.measureEmptyRow.laid) (((OpenSpec.ofChange Rows.measureEmptySpec).at F).post enc Tryz.prog Tryz.f8 false true false false) := by
  obtain ⟨places, hx⟩ := reads os enc
  refine returnsInHanded_of_row (C := Tryz.checked) (s := OpenSpec.ofChange Rows.measureEmptySpec) own started (by kernel_rfl) Tryz.func8
    (witness_row_at (enc := enc) (C := Tryz.checked) false (laidWorld os) inp rfl (by kernel_rfl) (by kernel_rfl) (by kernel_rfl)
      (OpenSpec.preRow_of_cond 8 hx (by kernel_rfl) (fun k hk => by cases hk) (by kernel_rfl) (laid_met os))) ?_
  intro W base args ds gs before hval hW _ _ _ hL _ _
  exact contract H enc W base args ds gs before hval hW
theorem said : Rows.MeasureEmptySaid :=
  OpenClaim.holds_of_cond 8 Tryz.f8 rfl rfl rfl rfl rfl rfl rfl ⟨rfl, rfl, rfl, rfl, rfl⟩ rfl rfl rfl rfl rfl (by kernel_rfl) Tryz.func8 (by kernel_rfl)
    (of_decide_eq_true (by kernel_rfl)) (by unfold Func.isWrapper; first | (rw [if_pos (by decide +kernel)]; kernel_rfl) | (rw [if_neg (by decide +kernel)]; exact ⟨rfl, rfl⟩))
    (fun os started H enc _ F => by rw [OpenClaim.pre_eq_preRow]; exact lifted os started H enc F)
theorem plain (f : FuncId) (fn : Func) (hf : Tryz.pinned.checked.prog.funcNamed Rows.measureEmptyRow.func = some f) (hfn : Tryz.pinned.checked.prog.funcs[f]? = some fn) :
    false = Tryz.pinned.checked.prog.looks [] ∧ ∀ (j : Nat) t, fn.params[j]? = some t → Tryz.pinned.checked.prog.wantsStandIn t = false := by
  obtain rfl : f = 8 := Option.some.inj ((show Tryz.prog.funcNamed Rows.measureEmptyRow.func = some 8 by kernel_rfl).symm.trans hf) |>.symm
  obtain rfl : fn = Tryz.f8 := (Option.some.inj (Tryz.func8.symm.trans hfn)).symm
  refine ⟨by kernel_rfl, fun j t ht => ?_⟩
  rw [Tryz.params8] at ht
  have hm : t ∈ [28, 28, 3] := by simpa using Array.mem_of_getElem? ht
  have hall : ([28, 28, 3].all fun u => !Tryz.prog.wantsStandIn u) = true := by kernel_rfl
  exact (show Tryz.prog.wantsStandIn t = false by simpa using List.all_eq_true.1 hall t hm)
theorem card : Rows.MeasureEmptyCardSaid :=
  Claim7.holds_tied_plain_at .later [] _ _ _ _ said (fun _ h => by cases h) (by kernel_rfl) (fun _ h => by cases h) measureEmpty_row_tie rfl ⟨rfl, rfl⟩ (by kernel_rfl) rfl plain (by kernel_rfl)
end Go.Proofs.YtmcgcnpgkkfkoaaGreatDoor.measureEmpty
