/-
  Texts of one claim, laid together: Cmp, Round, Sides, Tch1, LoopF, Tch2, Lat, Chk, Near3, Join.
-/
import Derived.RangeFuncNested
import Derived.OrdersIn
import Derived.RangeFuncCalls
import Derived.RangeFuncBox
import Derived.OpenVars
import Derived.OpenShut
import Derived.WalkKit
import Derived.ProofKit
import Derived.Test.YtmcgcnpgkkfkoaaGreatDoorN5
set_option maxHeartbeats 8000000
set_option linter.unusedSimpArgs false
set_option linter.unusedVariables false
set_option linter.unusedSectionVars false
namespace Go.Proofs.YtmcgcnpgkkfkoaaGreatDoor
open Go.RowKit Go.Lith
set_option maxRecDepth 100000
attribute [local irreducible] wpList wpQuiet wpMix wpMixH wpTree Code.wp
theorem gex_x {p : P3} : GPure Tryz.prog 163 [pt p] (.int .i64 p.x):=by
 intro w
 refine ⟨en_163,?_⟩
 have m:=MemG.refl w
 go_enter Tryz.func163,Tryz.ntmps163
 refine c_seq fun K1 k1=>wp_region_lit (GmboxA m rfl ?_)
 clear m; intro g1 u m
 refine n_val (r_assign) (n_nil (k1 _ _ ?_))
 refine c_seq fun K2 k2=>wp_region_lit (n_val (r_fieldAddr (c:=0) Tryz.underlying170 rfl cells_3 rfl rfl) ?_)
 simp only [ev,zD,zE,zF,zG]
 refine n_load rfl ((m.b 0 rfl).lies1 agg_3 rfl) ?_
 simp only [ev,zD,zE,zF,zG]
 refine n_val (r_assign) (n_nil (k2 _ _ ?_))
 refine wp_ret ?_
 simp only [ev,zD,zE,zF,zG]
 try simp only [Exit.inBlock,Exit.then,if_true]
 refine fin1 rfl rfl ?_
 try simp only [zD,zE]
 exact ⟨_,rfl,m.ext,rfl⟩
theorem gex_y {p : P3} : GPure Tryz.prog 164 [pt p] (.int .i64 p.y):=by
 intro w
 refine ⟨en_164,?_⟩
 have m:=MemG.refl w
 go_enter Tryz.func164,Tryz.ntmps164
 refine c_seq fun K1 k1=>wp_region_lit (GmboxA m rfl ?_)
 clear m; intro g1 u m
 refine n_val (r_assign) (n_nil (k1 _ _ ?_))
 refine c_seq fun K2 k2=>wp_region_lit (n_val (r_fieldAddr (c:=0) Tryz.underlying170 rfl cells_3 rfl rfl) ?_)
 simp only [ev,zD,zE,zF,zG]
 refine n_load rfl ((m.b 0 rfl).lies1 agg_3 rfl) ?_
 simp only [ev,zD,zE,zF,zG]
 refine n_val (r_assign) (n_nil (k2 _ _ ?_))
 refine wp_ret ?_
 simp only [ev,zD,zE,zF,zG]
 try simp only [Exit.inBlock,Exit.then,if_true]
 refine fin1 rfl rfl ?_
 try simp only [zD,zE]
 exact ⟨_,rfl,m.ext,rfl⟩
theorem gex_z {p : P3} : GPure Tryz.prog 165 [pt p] (.int .i64 p.z):=by
 intro w
 refine ⟨en_165,?_⟩
 have m:=MemG.refl w
 go_enter Tryz.func165,Tryz.ntmps165
 refine c_seq fun K1 k1=>wp_region_lit (GmboxA m rfl ?_)
 clear m; intro g1 u m
 refine n_val (r_assign) (n_nil (k1 _ _ ?_))
 refine c_seq fun K2 k2=>wp_region_lit (n_val (r_fieldAddr (c:=0) Tryz.underlying170 rfl cells_3 rfl rfl) ?_)
 simp only [ev,zD,zE,zF,zG]
 refine n_load rfl ((m.b 0 rfl).lies1 agg_3 rfl) ?_
 simp only [ev,zD,zE,zF,zG]
 refine n_val (r_assign) (n_nil (k2 _ _ ?_))
 refine wp_ret ?_
 simp only [ev,zD,zE,zF,zG]
 try simp only [Exit.inBlock,Exit.then,if_true]
 refine fin1 rfl rfl ?_
 try simp only [zD,zE]
 exact ⟨_,rfl,m.ext,rfl⟩
theorem gaxes_c  : GPure Tryz.prog 139 [] (.agg #[.func (.func 163) #[] #[],.func (.func 164) #[] #[],.func (.func 165) #[] #[]]):=by
 intro w
 refine ⟨en_139,?_⟩
 have m:=MemG.refl w
 go_enter Tryz.func139,Tryz.ntmps139
 refine c_seq fun K1 k1=>wp_region_lit (Gmalloc m zero_168 rfl ?_)
 clear m; intro g1 u m
 refine n_nil (k1 _ _ ?_)
 refine c_seq fun K2 k2=>wp_region_lit (n_val (r_build_168_0_1_2 rfl rfl rfl) ?_)
 simp only [ev,zD,zE,zF,zG]
 refine GmstoreA m 0 rfl rfl rfl cells_168 (leT rfl) rfl ?_
 clear m; intro u m; simp only [over,zH,zI,zJ,zK,zL,zM,zN,zO,zP,zF,zG,Nat.reduceAdd] at m
 refine n_nil (k2 _ _ ?_)
 refine wp_ret ?_
 try simp only [Exit.inBlock,Exit.then,if_true]
 refine fin1 rfl ⟨_,rfl,((m.b 0 rfl).full agg_168 cells_168)⟩ ?_
 try simp only [zD,zE]
 exact ⟨_,rfl,m.ext,rfl⟩
theorem gless_c {p q : P3} : GPure Tryz.prog 135 [pt p,pt q] (.bool (decide (p.Lt q))):=by
 intro w
 refine ⟨en_135,?_⟩
 have m:=MemG.refl w
 go_enter Tryz.func135,Tryz.ntmps135
 refine c_seq fun K1 k1=>wp_region_lit (GmboxA m rfl ?_)
 clear m; intro g1 u m
 simp only [ev,zD,zE,zF,zG]
 refine GmboxA m rfl ?_
 clear m; intro g2 u m
 refine n_val (r_assign) (n_nil (k1 _ _ ?_))
 refine c_seq fun K2 k2=>c_seq fun K3 k3=>wp_region_lit ?_
 simp only [ev,zD,zE,zF,zG]
 refine GmcallP m rfl rfl (gaxes_c) ?_
 clear m; intro u m
 refine n_val (r_move) (n_nil (k3 _ _ ?_))
 refine wp_block (wp_loop_rounds 4 (rounds_step (c_seq fun K4 k4=>wp_region_lit (n_val (r_lssT (m:=0) (n:=3) rfl rfl (by decide)) (n_nil (k4 _ _ ?_))))))
 refine c_seq fun K5 k5=>c_yes rfl (wp_skip (k5 _ _ ?_))
 refine c_seq fun K6 k6=>wp_block (c_seq fun K7 k7=>wp_region_lit (n_val (r_index_168_0 rfl rfl) ?_))
 simp only [ev,zD,zE,zF,zG]
 refine n_val (r_assign) (n_nil (k7 _ _ ?_))
 refine c_seq fun K8 k8=>?_
 simp only [ev,zD,zE,zF,zG]
 refine Gmq m follows_mixed (by kernel_rfl) (q_val (r_move) ?_)
 simp only [ev,zD,zE,zF,zG]
 refine Gql rfl (fun u m=>((m.b 1 rfl).full agg_28 cells_28)) ?_
 simp only [ev,zD,zE,zF,zG]
 refine GqcP rfl rfl (gex_x) (q_val (r_move) ?_)
 simp only [ev,zD,zE,zF,zG]
 refine Gql rfl (fun u m=>((m.b 0 rfl).full agg_28 cells_28)) ?_
 simp only [ev,zD,zE,zF,zG]
 refine GqcP rfl rfl (gex_x) (q_val (r_assign) (q_val (r_assign) (q_nil ?_)))
 clear m; intro u m
 refine k8 _ _ ?_
 refine c_seq fun K9 k9=>wp_region_lit (n_val (r_move) ?_)
 simp only [ev,zD,zE,zF,zG]
 refine n_val (r_move) (n_val (r_neq rfl rfl) (n_nil (k9 _ _ ?_)))
 simp only [ev,zD,zE,zF,zG]
 refine c_if rfl (fun hc2=>?_) (fun hc2=>?_)
 ·
  refine c_seq fun K10 k10=>wp_region_lit (n_val (r_move) (n_val (r_move) (n_val (r_lss rfl rfl) (n_val (r_assign) ?_))))
  simp only [ev,zD,zE,zF,zG]
  refine n_nil (k10 _ _ ?_)
  refine wp_ret ?_
  try simp only [Exit.inBlock,Exit.then,if_true]
  refine fin1 rfl rfl ?_
  try simp only [zD,zE]
  exact ⟨_,rfl,m.ext,by simp only [P3.lt_x hc2]⟩
 ·
  have ex : p.x = q.x:=by omega
  refine wp_skip (k6 _ _ ?_)
  refine wp_region_lit (n_val (r_add (m:=0) (n:=1) (r:=1) rfl rfl (by decide)) (n_val (r_move) (n_nil (then_rounds (c_seq fun K11 k11=>wp_region_lit (n_val (r_lssT (m:=1) (n:=3) rfl rfl (by decide)) (n_nil (k11 _ _ ?_))))))))
  refine c_seq fun K12 k12=>c_yes rfl (wp_skip (k12 _ _ ?_))
  refine c_seq fun K13 k13=>wp_block (c_seq fun K14 k14=>wp_region_lit (n_val (r_index_168_1 rfl rfl) ?_))
  simp only [ev,zD,zE,zF,zG]
  refine n_val (r_assign) (n_nil (k14 _ _ ?_))
  refine c_seq fun K15 k15=>?_
  simp only [ev,zD,zE,zF,zG]
  refine Gmq m follows_mixed (by kernel_rfl) (q_val (r_move) ?_)
  simp only [ev,zD,zE,zF,zG]
  refine Gql rfl (fun u m=>((m.b 1 rfl).full agg_28 cells_28)) ?_
  simp only [ev,zD,zE,zF,zG]
  refine GqcP rfl rfl (gex_y) (q_val (r_move) ?_)
  simp only [ev,zD,zE,zF,zG]
  refine Gql rfl (fun u m=>((m.b 0 rfl).full agg_28 cells_28)) ?_
  simp only [ev,zD,zE,zF,zG]
  refine GqcP rfl rfl (gex_y) (q_val (r_assign) (q_val (r_assign) (q_nil ?_)))
  clear m; intro u m
  refine k15 _ _ ?_
  refine c_seq fun K16 k16=>wp_region_lit (n_val (r_move) ?_)
  simp only [ev,zD,zE,zF,zG]
  refine n_val (r_move) (n_val (r_neq rfl rfl) (n_nil (k16 _ _ ?_)))
  simp only [ev,zD,zE,zF,zG]
  refine c_if rfl (fun hc2=>?_) (fun hc2=>?_)
  ·
   refine c_seq fun K17 k17=>wp_region_lit (n_val (r_move) (n_val (r_move) (n_val (r_lss rfl rfl) (n_val (r_assign) ?_))))
   simp only [ev,zD,zE,zF,zG]
   refine n_nil (k17 _ _ ?_)
   refine wp_ret ?_
   try simp only [Exit.inBlock,Exit.then,if_true]
   refine fin1 rfl rfl ?_
   try simp only [zD,zE]
   exact ⟨_,rfl,m.ext,by simp only [P3.lt_y ex hc2]⟩
  ·
   have ey : p.y = q.y:=by omega
   refine wp_skip (k13 _ _ ?_)
   refine wp_region_lit (n_val (r_add (m:=1) (n:=1) (r:=2) rfl rfl (by decide)) (n_val (r_move) (n_nil (then_rounds (c_seq fun K18 k18=>wp_region_lit (n_val (r_lssT (m:=2) (n:=3) rfl rfl (by decide)) (n_nil (k18 _ _ ?_))))))))
   refine c_seq fun K19 k19=>c_yes rfl (wp_skip (k19 _ _ ?_))
   refine c_seq fun K20 k20=>wp_block (c_seq fun K21 k21=>wp_region_lit (n_val (r_index_168_2 rfl rfl) ?_))
   simp only [ev,zD,zE,zF,zG]
   refine n_val (r_assign) (n_nil (k21 _ _ ?_))
   refine c_seq fun K22 k22=>?_
   simp only [ev,zD,zE,zF,zG]
   refine Gmq m follows_mixed (by kernel_rfl) (q_val (r_move) ?_)
   simp only [ev,zD,zE,zF,zG]
   refine Gql rfl (fun u m=>((m.b 1 rfl).full agg_28 cells_28)) ?_
   simp only [ev,zD,zE,zF,zG]
   refine GqcP rfl rfl (gex_z) (q_val (r_move) ?_)
   simp only [ev,zD,zE,zF,zG]
   refine Gql rfl (fun u m=>((m.b 0 rfl).full agg_28 cells_28)) ?_
   simp only [ev,zD,zE,zF,zG]
   refine GqcP rfl rfl (gex_z) (q_val (r_assign) (q_val (r_assign) (q_nil ?_)))
   clear m; intro u m
   refine k22 _ _ ?_
   refine c_seq fun K23 k23=>wp_region_lit (n_val (r_move) ?_)
   simp only [ev,zD,zE,zF,zG]
   refine n_val (r_move) (n_val (r_neq rfl rfl) (n_nil (k23 _ _ ?_)))
   simp only [ev,zD,zE,zF,zG]
   refine c_if rfl (fun hc2=>?_) (fun hc2=>?_)
   ·
    refine c_seq fun K24 k24=>wp_region_lit (n_val (r_move) (n_val (r_move) (n_val (r_lss rfl rfl) (n_val (r_assign) ?_))))
    simp only [ev,zD,zE,zF,zG]
    refine n_nil (k24 _ _ ?_)
    refine wp_ret ?_
    try simp only [Exit.inBlock,Exit.then,if_true]
    refine fin1 rfl rfl ?_
    try simp only [zD,zE]
    exact ⟨_,rfl,m.ext,by simp only [P3.lt_z ex ey]⟩
   ·
    have ez : p.z = q.z:=by omega
    refine wp_skip (k20 _ _ ?_)
    refine wp_region_lit (n_val (r_add (m:=2) (n:=1) (r:=3) rfl rfl (by decide)) (n_val (r_move) (n_nil (then_rounds (c_seq fun K25 k25=>wp_region_lit (n_val (r_lssF (m:=3) (n:=3) rfl rfl (by decide)) (n_nil (k25 _ _ ?_))))))))
    refine c_seq fun K26 k26=>c_no rfl (wp_exit (k2 _ _ ?_))
    refine c_seq fun K27 k27=>wp_region_lit (n_val (r_assign) ?_)
    simp only [ev,zD,zE,zF,zG]
    refine n_nil (k27 _ _ ?_)
    refine wp_ret ?_
    try simp only [Exit.inBlock,Exit.then,if_true]
    refine fin1 rfl rfl ?_
    try simp only [zD,zE]
    exact ⟨_,rfl,m.ext,by rw [decide_eq_false (fun h=>by unfold P3.Lt at h; omega)]⟩
end Go.Proofs.YtmcgcnpgkkfkoaaGreatDoor
namespace Go.Lith
open Go.RowKit
def noDef (o : Oper) : Bool:=match o.op with | .defer _=>false | _=>true
theorem noDef_of {o : Oper} (h : noDef o = true) : ∀ c,o.op ≠ .defer c:=fun c e=>by unfold noDef at h; rw [e] at h; cases h
section
variable {P : Program} {Q : Exit → Act → World → Prop} {r n : Nat}
theorem rowsIn_round {row : String} {args : Array Value} {w : World} {R : Value → World → Prop} (h : Rows P row args w R) : RowsIn (Fence.wide.inRound r) n P row args w R :=
  fun c cs _=>let ⟨v,w',q,s⟩:=h c cs; ⟨v,w',q,stepsIn_wide.2 s⟩
theorem callsIn_round {f : FuncId} {args : Array Value} {w : World} {R : Ending → World → Prop} (h : Calls P f args w R) : CallsIn (Fence.wide.inRound r) n P f args w R :=
  (callsIn_wide (n:=n)).2 h
theorem Oper.wpIn_of {o : Oper} {a : Act} {w : World} {K : Act → World → Prop} (hd : noDef o = true) (h : o.wp P a w K Q) : o.wpIn (Fence.wide.inRound r) n P a w K Q:=by
  unfold Oper.wp at h
  refine ⟨fun _ _=>trivial,?_⟩
  rw [Oper.semAt_eq _ _ _ (noDef_of hd)]
  generalize (execOp a.eval o).run P w = z at *
  have h0 : (Fence.wide.inRound r).depth.isSome = true → 1 ≤ n:=fun h=>by cases h
  cases z with
  | ok x w'=>cases x <;> simp only [Oper.upon,Oper.uponIn] at h ⊢ <;> first | exact h | exact ⟨h0,callsIn_round h⟩ | exact ⟨h0,rowsIn_round h⟩ | exact h.elim
  | halt x w'=>cases x <;> simp only [Oper.upon,Oper.uponIn] at h ⊢ <;> exact h
theorem wpListIn_of {ops : Array Oper} (hq : ¬ LetsOut Q) : ∀ (l : List Oper) (a : Act) (w : World),l.all noDef = true → wpList P ops Q l a w → wpListIn (Fence.wide.inRound r) n P ops Q l a w
  | [],a,w,_,h=>h
  | o :: l,a,w,hd,h=>by
    simp only [List.all_cons,Bool.and_eq_true] at hd
    simp only [wpList] at h
    simp only [wpListIn]
    split
    · rename_i hw
      rw [if_pos hw] at h
      rcases h with h | ⟨_,h⟩
      · exact Oper.wpIn_of hd.1 (Oper.wp_mono (fun a w k=>wpListIn_of hq l a w hd.2 k) h)
      · exact absurd h hq
    · rename_i hw
      rw [if_neg hw] at h
      exact ⟨fun _ _=>trivial,wpListIn_of hq l _ w hd.2 h⟩
theorem wpAnyIn_of {md : Region.Mode} {ops : Array Oper} (hq : ¬ LetsOut Q) (hd : ∀ (i : Nat) (o : Oper),ops[i]? = some o → noDef o = true) : ∀ (f : Nat) (listed : Array Bool) (a : Act) (w : World),wpAny P md ops Q f listed a w → wpAnyIn (Fence.wide.inRound r) n P md ops Q f listed a w
  | 0,listed,a,w,h=>h
  | f + 1,listed,a,w,h=>by
    refine ⟨h.1,fun i hi=>?_⟩
    have h2:=h.2 i hi
    unfold wpOp at h2
    unfold wpOpIn
    split
    · rename_i hn
      simp only [hn] at h2
      exact wpAnyIn_of hq hd f _ a w h2
    · rename_i o ho
      simp only [ho] at h2
      split
      · rename_i hw
        rw [if_pos hw] at h2
        rcases h2 with h2 | ⟨_,h2⟩
        · exact Oper.wpIn_of (hd i o ho) (Oper.wp_mono (fun a w k=>wpAnyIn_of hq hd f _ a w k) h2)
        · exact absurd h2 hq
      · rename_i hw
        rw [if_neg hw] at h2
        exact ⟨fun _ _=>trivial,wpAnyIn_of hq hd f _ _ w h2⟩
class NoOut (Q : Exit → Act → World → Prop) : Prop where
  h : ¬ LetsOut Q
instance {K : Act → World → Prop} [q : NoOut Q] : NoOut (Exit.then K Q):=⟨fun ⟨a,w,k⟩=>q.h ⟨a,w,k⟩⟩
instance {id : Nat} [q : NoOut Q] : NoOut (Exit.inBlock id Q):=⟨fun ⟨a,w,k⟩=>q.h ⟨a,w,k⟩⟩
instance {α : Type} {B : Nat} {Kp : World → World → Prop} {I : List α → World → Prop} {Ix : Code → List α → World → Prop} {xs : List α} {W : World} : NoOut (ownPostG B Kp I Ix xs W):=⟨fun ⟨_,_,k⟩=>k⟩
instance : NoOut (fun _ _ _=>False):=⟨fun ⟨_,_,k⟩=>k⟩
theorem iwp_region_lit {id : Nat} {l : List Oper} {a : Act} {w : World} [hq : NoOut Q] (h : wpList P l.toArray Q l a w) (hd : l.all noDef = true:=by rfl) : (Code.region id l.toArray false).wpIn (Fence.wide.inRound r) n P Q a w:=wpIn_region_lit (wpListIn_of hq.h l a w hd h)
theorem ic_seq {c1 c2 : Code} {a : Act} {w : World} (h : ∀ K : Act → World → Prop,(∀ a w,c2.wpIn (Fence.wide.inRound r) n P Q a w → K a w) → c1.wpIn (Fence.wide.inRound r) n P (Exit.then K Q) a w) : (Code.seq c1 c2).wpIn (Fence.wide.inRound r) n P Q a w:=wpIn_seq_k h
variable {l : List Value} {ds : List Deferred} {w : World} {c1 c2 : Code}
theorem ic_cond {x : Operand} {b : Bool} (hx : ev l x = .bool b) (ht : b = true → c1.wpIn (Fence.wide.inRound r) n P Q (Fr l ds) w) (hf : b = false → c2.wpIn (Fence.wide.inRound r) n P Q (Fr l ds) w) : (Code.cond x c1 c2).wpIn (Fence.wide.inRound r) n P Q (Fr l ds) w:=by
  refine wpIn_cond (t:=b) (by rw [fr_eval,ev_eq]; exact hx) ?_
  cases b with
  | false=>exact hf rfl
  | true=>exact ht rfl
theorem ic_if {x : Operand} {p : Prop} [Decidable p] (hx : ev l x = .bool (decide p)) (ht : p → c1.wpIn (Fence.wide.inRound r) n P Q (Fr l ds) w) (hf : ¬ p → c2.wpIn (Fence.wide.inRound r) n P Q (Fr l ds) w) : (Code.cond x c1 c2).wpIn (Fence.wide.inRound r) n P Q (Fr l ds) w :=
  ic_cond hx (fun h=>ht (of_decide_eq_true h)) (fun h=>hf (of_decide_eq_false h))
theorem ic_no {x : Operand} (hx : ev l x = .bool false) (hf : c2.wpIn (Fence.wide.inRound r) n P Q (Fr l ds) w) : (Code.cond x c1 c2).wpIn (Fence.wide.inRound r) n P Q (Fr l ds) w:=ic_cond hx (fun h=>by cases h) (fun _=>hf)
theorem iwp_block {id : Nat} {c : Code} {a : Act} (h : c.wpIn (Fence.wide.inRound r) n P (Exit.inBlock id Q) a w) : (Code.block id c).wpIn (Fence.wide.inRound r) n P Q a w:=wpIn_block h
theorem iwp_ret {a : Act} (h : Q .ret a w) : Code.ret.wpIn (Fence.wide.inRound r) n P Q a w:=wpIn_ret h
theorem iwp_region_quiet_tail {C : World → Prop} {id : Nat} {a : Act} {l : List Oper} (k : Nat) (hq : ¬ LetsOut Q) (hd : l.all noDef = true) (hm : P.follows .mixedOrders = true) (hB : Region.lexTailB .any l.toArray k = true)
    (hC : C { w with drawn:=w.drawn + 1 })
    (h : wpQuiet P l.toArray C (fun a'=>∀ w',C w' → wpList P l.toArray Q (l.drop k) a' w') (l.take k) a) : (Code.region id l.toArray true).wpIn (Fence.wide.inRound r) n P Q a w:=by
  simp only [Region.lexTailB,Bool.and_eq_true,decide_eq_true_eq] at hB
  obtain ⟨⟨⟨⟨hsel,hn⟩,hs⟩,hc⟩,hlex⟩:=hB
  have hn' : k < l.length:=by simpa using hn
  have htl : (l.take k).length = k:=by simp; omega
  have hdl : (l.drop k).length = l.toArray.size - k:=by simp
  have inv0 : HeadInv .any l.toArray k (Array.replicate l.toArray.size false) :=
    ⟨by simp,fun j oj _ hl=>(by rw [getD_replicate_false] at hl; cases hl),fun t _ ht=>getD_in (by simpa using ht) (getD_replicate_false _ _)⟩
  have H:=wpAnyM_lex (md:=.any) (g:=l.toArray.size - k) hsel hs hc hn (l.take k) 0 _ a (fun j hj=>by
    have hj' : j < k:=by rw [htl] at hj; exact hj
    simp [hj']) (by simpa using htl) inv0 (by rw [htl]; exact hlex) h
  refine wpIn_region_any hm ?_
  have:=wpAny_of_headM (Q':=Q) (g:=l.toArray.size - k) (fun listed a' hL w' hw'=>by
    have:=wpAny_of_seq (md:=.any) (Q':=Q) (l.drop k) k listed a' w' (fun j=>by simp [List.getElem?_drop]) (by rw [hdl]; exact hL.1) (hL.2 w' hw')
    rwa [hdl] at this) _ _ _ _ hC H
  rw [htl,show k + (l.toArray.size - k) = l.toArray.size by omega] at this
  refine wpAnyIn_of hq (fun i o ho=>?_) _ _ _ _ this
  have hi : o ∈ l:=by rw [List.getElem?_toArray] at ho; exact List.mem_of_getElem? ho
  exact List.all_eq_true.1 hd o hi
structure RX (w w' : World) : Prop where
  os : w'.os = w.os
  tape : w'.tape = w.tape
  output : w'.output = w.output
  ko : KeepsOthers w w'
theorem RX.refl (w : World) : RX w w:=⟨rfl,rfl,rfl,KeepsOthers.refl w⟩
theorem RX.ext {W u u' : World} (h : RX W u) (e : Ext u u') : RX W u':=⟨e.os.trans h.os,e.tape.trans h.tape,e.output.trans h.output,h.ko.trans ⟨e.size,fun k o hk _=>e.block hk⟩⟩
theorem RX.chg {W u u' : World} {g : Nat} {cs : List Value} {t : TypeId} (h : RX W u) (hB : Blk u g cs t) (e : Chg u u' g) : RX W u' :=
  ⟨e.os.trans h.os,e.tape.trans h.tape,e.output.trans h.output,h.ko.trans ⟨Nat.le_of_eq e.size.symm,fun k o hk ho=>(e.block k fun hkg=>by
    subst hkg
    rw [show u.heap[k]? = _ from hB] at hk
    cases hk
    cases ho).trans hk⟩⟩
structure MemR (W w0 w : World) (is : List It) : Prop extends Mem w0 w is where
  rx : RX W w
theorem MemR.start {w0 w : World} {is : List It} (m : Mem w0 w is) : MemR w w0 w is:=⟨m,RX.refl w⟩
theorem MemR.e {W w0 w w' : World} {is : List It} (m : MemR W w0 w is) (e : Ext w w') : MemR W w0 w' is:=⟨m.ext' e,m.rx.ext e⟩
section
variable {W w0 : World} {is : List It} {ops : Array Oper} {rest : List Oper} {d : Nat} {ty T : TypeId} {pos : String} {after : Array Edge} {x y : Operand} {v : Value}
theorem Rmalloc {cs : List Value} {z : Value} (m : MemR W w0 w is) (hZ : Zero P T z) (hv : z.cells = cs.toArray) (h : ∀ g u,MemR W w0 u (bI g cs T :: is) → wpList P ops Q rest (Fr (l.set d (.pointer (some ⟨g,0,none⟩))) ds) u) :
    wpList P ops Q (Oper.mk (some d) (.alloc T) ty pos after none :: rest) (Fr l ds) w:=n_alloc hZ hv fun u g e hg hB=>h g u ⟨m.toMem.newB e hg hB,m.rx.ext e⟩
theorem Rmstore {g off : Nat} {cs us : List Value} {t : TypeId} (m : MemR W w0 w is) (k : Nat) (hk : is[k]? = some (bI g cs t)) (hx : ev l x = .pointer (some ⟨g,off,none⟩)) (hv : (ev l y).cells = us.toArray) (hc : Cells P T us.length) (hfit : off + us.length ≤ cs.length) (h1 : (us.all (·.oneCell')) = true)
    (h : ∀ u,MemR W w0 u (is.set k (bI g (over cs off us) t)) → wpList P ops Q rest (Fr l ds) u) : wpList P ops Q (Oper.mk none (.store T x y) ty pos after none :: rest) (Fr l ds) w :=
  n_store hx hv hc (m.b k hk) hfit (allT h1) fun u hC hB=>h u ⟨m.put k hk hC.os hC.tape hC.output (by rw [hC.size]; exact Nat.le_refl _) (fun b _ hne=>hC.block b fun e=>hne (by rw [e]; rfl)) hB (.inl rfl),m.rx.chg (m.b k hk) hC⟩
theorem RmstoreA {g off : Nat} {cs us : List Value} {t : TypeId} (m : MemR W w0 w is) (k : Nat) (hk : is[k]? = some (bI g cs t)) (hx : ev l x = .pointer (some ⟨g,off,none⟩)) (hv : ev l y = .agg us.toArray) (hc : Cells P T us.length) (hfit : off + us.length ≤ cs.length) (h1 : (us.all (·.oneCell')) = true)
    (h : ∀ u,MemR W w0 u (is.set k (bI g (over cs off us) t)) → wpList P ops Q rest (Fr l ds) u) : wpList P ops Q (Oper.mk none (.store T x y) ty pos after none :: rest) (Fr l ds) w:=Rmstore m k hk hx (by rw [hv]; rfl) hc hfit h1 h
theorem Rmstore1 {g off : Nat} {cs : List Value} {v : Value} {t : TypeId} (m : MemR W w0 w is) (k : Nat) (hk : is[k]? = some (bI g cs t)) (hx : ev l x = .pointer (some ⟨g,off,none⟩)) (hv : ev l y = v) (hc : Cells P T 1) (hfit : off + 1 ≤ cs.length) (h1 : v.oneCell' = true ∧ v.cells = #[v])
    (h : ∀ u,MemR W w0 u (is.set k (bI g (over cs off [v]) t)) → wpList P ops Q rest (Fr l ds) u) : wpList P ops Q (Oper.mk none (.store T x y) ty pos after none :: rest) (Fr l ds) w:=Rmstore (us:=[v]) m k hk hx (by rw [hv]; exact h1.2) hc hfit (by simp [h1.1]) h
theorem RmcallP {f : FuncId} {fo : Operand} {xs : Array Operand} {args : List Value} {first cap : Array Value} {a0 : Array TypeId} (m : MemR W w0 w is) (hf : ev l fo = .func (.func f) first cap) (hxs : first.toList ++ xs.toList.map (ev l) ++ cap.toList = args) (hc : Pure P f args v)
    (h : ∀ u,MemR W w0 u is → wpList P ops Q rest (Fr (l.set d v) ds) u) : wpList P ops Q (Oper.mk (some d) (.call { callee:=.value fo,args:=xs,argTypes:=a0 }) ty pos after none :: rest) (Fr l ds) w :=
  n_callP hf hxs hc fun u e=>h u (m.e e)
theorem Rmq_tail {id : Nat} {a : Act} {l : List Oper} [hq : NoOut Q] (m : MemR W w0 w is) (k : Nat) (hm : P.follows .mixedOrders = true) (hB : Region.lexTailB .any l.toArray k = true)
    (h : wpQuiet P l.toArray (fun u=>MemR W w0 u is) (fun a'=>∀ u,MemR W w0 u is → wpList P l.toArray Q (l.drop k) a' u) (l.take k) a) (hd : l.all noDef = true:=by rfl) : (Code.region id l.toArray true).wpIn (Fence.wide.inRound r) n P Q a w :=
  iwp_region_quiet_tail (C:=fun u=>MemR W w0 u is) k hq.h hd hm hB (m.e (Ext.refl w).drawn) h
variable {Qq : Act → Prop}
theorem Rql {a : Addr} (hx : ev l x = .pointer (some a)) (hv : ∀ u,MemR W w0 u is → Lies P u T a v) (h : wpQuiet P ops (fun u=>MemR W w0 u is) Qq rest (Fr (l.set d v) ds)) : wpQuiet P ops (fun u=>MemR W w0 u is) Qq (Oper.mk (some d) (.load T x) ty pos after none :: rest) (Fr l ds) :=
  q_valW (fun u m=>r_load hx (hv u m)) h
theorem RqcP {f : FuncId} {fo : Operand} {xs : Array Operand} {args : List Value} {first cap : Array Value} {a0 : Array TypeId} (hf : ev l fo = .func (.func f) first cap) (hxs : first.toList ++ xs.toList.map (ev l) ++ cap.toList = args) (hc : Pure P f args v)
    (h : wpQuiet P ops (fun u=>MemR W w0 u is) Qq rest (Fr (l.set d v) ds)) : wpQuiet P ops (fun u=>MemR W w0 u is) Qq (Oper.mk (some d) (.call { callee:=.value fo,args:=xs,argTypes:=a0 }) ty pos after none :: rest) (Fr l ds):=by
  refine wpQuiet_step fun K hK=>?_
  rw [if_pos (by simp [Region.wanted])]
  refine ⟨v,fun w' hw=>?_,?_⟩
  · unfold Oper.quietAt
    rw [fr_eval,run_call (hc w').1 hf hxs _ rfl]
    refine ⟨rfl,(hc w').2.mono ?_⟩
    rintro e w'' ⟨u,rfl,hE,rfl⟩
    exact ⟨rfl,hw.e hE⟩
  · show K ((Fr l ds).put (some d) v)
    rw [fr_put]
    exact hK _ h
end
end
/-! ### Within the fence that bars nothing: a head of quiet operations,then a tail that may yield -/
section
variable {P : Program} {Q : Exit → Act → World → Prop} {n : Nat} {C : World → Prop} {ops : Array Oper} {md : Region.Mode}
theorem rowsIn_wide {row : String} {args : Array Value} {w : World} {R : Value → World → Prop} (h : Rows P row args w R) : RowsIn Fence.wide n P row args w R :=
  fun c cs _=>let ⟨v,w',q,s⟩:=h c cs; ⟨v,w',q,stepsIn_wide.2 s⟩
theorem Oper.wpIn_q {o : Oper} {a : Act} {w : World} {K : Act → World → Prop} (h : o.wp P a w K (fun _ _ _=>False)) : o.wpIn Fence.wide n P a w K Q:=by
  unfold Oper.wp at h
  refine ⟨fun _ _=>trivial,?_⟩
  show Oper.uponIn _ _ _ _ _ _ _ ((execOp a.eval o).run P w)
  generalize (execOp a.eval o).run P w = z at *
  have h0 : Fence.wide.depth.isSome = true → 1 ≤ n:=fun h=>by cases h
  cases z with
  | ok x w' =>
    cases x <;> simp only [Oper.upon,Oper.uponIn] at h ⊢ <;> first
      | exact h
      | exact ⟨h0,(callsIn_wide.2 h).mono fun e w'' k=>by cases e with | returned v=>exact k | panicked c=>exact k.elim | outgrown=>exact (k.elim fun _ k=>k.elim fun _ k=>k.elim)⟩
      | exact ⟨h0,rowsIn_wide h⟩
      | exact h.elim
  | halt x w'=>cases x <;> simp only [Oper.upon,Oper.uponIn] at h ⊢ <;> first | exact h | exact h.elim
theorem wpOpIn_q {i : Nat} {K : Act → World → Prop} {a : Act} {w : World} (h : wpOp P ops (fun _ _ _=>False) i K a w) : wpOpIn Fence.wide n P ops Q i K a w:=by
  unfold wpOp at h
  unfold wpOpIn
  split
  · rename_i hn
    simp only [hn] at h
    exact h
  · rename_i o ho
    simp only [ho] at h
    split
    · rename_i hw
      rw [if_pos hw] at h
      rcases h with h | ⟨_,_,_,h⟩
      · exact Oper.wpIn_q h
      · exact h.elim
    · rename_i hw
      rw [if_neg hw] at h
      exact ⟨fun _ _=>trivial,h⟩
theorem wpAnyIn_of_headM {k g : Nat} {L : Array Bool → Act → Prop} (hL : ∀ listed a,L listed a → ∀ w,C w → wpAnyIn Fence.wide n P md ops Q g listed a w) :
    ∀ (f : Nat) (listed : Array Bool) (a : Act) (w : World),C w → wpAnyM P md ops C k L f listed a → wpAnyIn Fence.wide n P md ops Q (f + g) listed a w
  | 0,listed,a,w,hw,h=>by rw [Nat.zero_add]; exact hL _ _ h w hw
  | f + 1,listed,a,w,hw,h=>by
    rw [show f + 1 + g = (f + g) + 1 by omega]
    exact ⟨fun h0=>absurd h0 h.1,fun i hi=>wpOpIn_q (wpOp_of_qOp hw (fun a' w' hw' h'=>wpAnyIn_of_headM hL f _ a' w' hw' h') (h.2 i hi).2)⟩
theorem wpAnyIn_of_seq : ∀ (l : List Oper) (k : Nat) (listed : Array Bool) (a : Act) (w : World),(∀ j,l[j]? = ops[k + j]?) →
    Region.seqB md ops l.length k listed = true → wpListIn Fence.wide n P ops Q l a w → wpAnyIn Fence.wide n P md ops Q l.length listed a w
  | [],_,_,_,_,_,hB,h=>⟨by simpa [Region.seqB] using hB,h⟩
  | o :: l,k,listed,a,w,hl,hB,h=>by
    have h0 : ops[k]? = some o:=by simpa using (hl 0).symm
    simp only [List.length_cons,Region.seqB,Bool.and_eq_true,decide_eq_true_eq] at hB
    refine ⟨fun h1=>(by rw [hB.1] at h1; cases h1),fun i hi=>?_⟩
    rw [hB.1] at hi
    have hik : i = k:=by simpa using hi
    subst hik
    have hw : wpOpIn Fence.wide n P ops Q i (wpListIn Fence.wide n P ops Q l) a w:=by unfold wpOpIn; simp only [h0]; exact h
    exact wpOpIn_mono (fun a' w' h'=>wpAnyIn_of_seq l (i + 1) _ a' w' (fun j=>by have:=hl (j + 1); simpa [Nat.add_assoc,Nat.add_comm 1 j] using this) hB.2 h') hw
theorem jregion_tail {w : World} {id : Nat} {a : Act} {l : List Oper} (k : Nat) (hm : P.follows .mixedOrders = true) (hB : Region.lexTailB .any l.toArray k = true)
    (hC : C { w with drawn:=w.drawn + 1 })
    (h : wpQuiet P l.toArray C (fun a'=>∀ w',C w' → wpListIn Fence.wide n P l.toArray Q (l.drop k) a' w') (l.take k) a) : (Code.region id l.toArray true).wpIn Fence.wide n P Q a w:=by
  simp only [Region.lexTailB,Bool.and_eq_true,decide_eq_true_eq] at hB
  obtain ⟨⟨⟨⟨hsel,hn⟩,hs⟩,hc⟩,hlex⟩:=hB
  have hn' : k < l.length:=by simpa using hn
  have htl : (l.take k).length = k:=by simp; omega
  have hdl : (l.drop k).length = l.toArray.size - k:=by simp
  have inv0 : HeadInv .any l.toArray k (Array.replicate l.toArray.size false) :=
    ⟨by simp,fun j oj _ hl=>(by rw [getD_replicate_false] at hl; cases hl),fun t _ ht=>getD_in (by simpa using ht) (getD_replicate_false _ _)⟩
  have H:=wpAnyM_lex (md:=.any) (g:=l.toArray.size - k) hsel hs hc hn (l.take k) 0 _ a (fun j hj=>by
    have hj' : j < k:=by rw [htl] at hj; exact hj
    simp [hj']) (by simpa using htl) inv0 (by rw [htl]; exact hlex) h
  refine wpIn_region_any hm ?_
  have:=wpAnyIn_of_headM (Q:=Q) (n:=n) (g:=l.toArray.size - k) (fun listed a' hL w' hw'=>by
    have:=wpAnyIn_of_seq (md:=.any) (Q:=Q) (n:=n) (l.drop k) k listed a' w' (fun j=>by simp [List.getElem?_drop]) (by rw [hdl]; exact hL.1) (hL.2 w' hw')
    rwa [hdl] at this) _ _ _ _ hC H
  rw [htl,show k + (l.toArray.size - k) = l.toArray.size by omega] at this
  exact this
theorem j_yield {l : List Value} {ds : List Deferred} {w : World} {y d : Nat} {f : FuncId} {fo : Operand} {xs : Array Operand} {args : List Value} {a0 : Array TypeId} {ty : TypeId} {pos : String} {after : Array Edge} {rest : List Oper} {tmps : Array Value} {assign body : Code} {R : Ending → World → Prop}
    (hf : ev l fo = .func (.yield y) #[] #[]) (hxs : xs.toList.map (ev l) = args) (hy : (Instr.yield y args.toArray).run P w = .ok (.round y f tmps assign body) w) (hR : RoundIn Fence.wide (n - 1) P y f tmps assign body w R)
    (h : ∀ e w',R e w' → ∃ v,e = .returned v ∧ wpListIn Fence.wide n P ops Q rest (Fr (l.set d v) ds) w') :
    wpListIn Fence.wide n P ops Q (Oper.mk (some d) (.call { callee:=.value fo,args:=xs,argTypes:=a0 }) ty pos after none :: rest) (Fr l ds) w:=by
  refine wpListIn_plain rfl fun K hK=>?_
  refine ⟨fun _ _=>trivial,?_⟩
  have e : (Fr l ds).eval = ev l:=funext ev_eq
  have ea : args.toArray = #[] ++ xs.map (ev l) ++ #[]:=by
    rw [← hxs]
    apply Array.ext'
    simp
  have er : (execOp (Fr l ds).eval (Oper.mk (some d) (.call { callee:=.value fo,args:=xs,argTypes:=a0 }) ty pos after none)).run P w = .ok (.round y f tmps assign body) w:=by
    rw [ea] at hy
    simp [execOp,resolve,e,hf,Deferred.ofValue,invoke] at hy ⊢
    exact hy
  rw [show Oper.semAt Fence.wide.round = Oper.semAt none from rfl,Oper.semAt_none,er]
  refine ⟨fun (h : Fence.wide.depth.isSome = true)=>(by cases h),hR.mono fun e w' hr=>?_⟩
  obtain ⟨v,rfl,hk⟩:=h e w' hr
  exact hK _ _ (by rw [fr_put]; exact hk)
theorem j_valW {l : List Value} {ds : List Deferred} {w : World} {d : Nat} {op : Op} {ty : TypeId} {pos : String} {after : Array Edge} {rest : List Oper} {v : Value} (hr : RunW P l op ty v w) (h : wpListIn Fence.wide n P ops Q rest (Fr (l.set d v) ds) w) : wpListIn Fence.wide n P ops Q (Oper.mk (some d) op ty pos after none :: rest) (Fr l ds) w:=by
  refine wpListIn_plain rfl fun K hK=>?_
  refine ⟨fun _ _=>trivial,?_⟩
  rw [show Oper.semAt Fence.wide.round = Oper.semAt none from rfl,Oper.semAt_none,fr_eval,hr _ rfl rfl]
  show K ((Fr l ds).put (some d) v) w
  rw [fr_put]
  exact hK _ _ h
end
theorem own_blk {β : Type} (B : Nat) (g : β → Nat) (cs : β → List Value) (t : TypeId) : OwnFrom B fun s W=>Blk W (g s) (cs s) t:=fun s X Y row hs hg hr=>by
  have hs' : X.heap[g s]? = some (.cells (cs s).toArray t (0,0)):=hs
  show Y.heap[g s]? = _
  rw [grownBy_keeps_cells hg (fun r e=>(hr r e).2) hs' rfl]
  exact hs'
theorem own_ext {β : Type} {B : Nat} {w : World} (h : w.heap.size ≤ B) : OwnFrom B fun (_ : β) W=>Ext w W:=ownFrom_below (Nat.le_refl _) h
def AllB (is : List It) : Prop:=∀ i ∈ is,∃ g cs t,i = bI g cs t
theorem own_mem {β : Type} {B : Nat} {w : World} (F : β → List It) (hF : ∀ s,AllB (F s)) (h : w.heap.size ≤ B) : OwnFrom B fun s W=>Mem w W (F s):=fun s W W' row hs hg hr=>by
  refine ⟨own_ext (β:=Unit) h () W W' row hs.ext hg hr,fun i hi=>?_,hs.ge,hs.nd⟩
  obtain ⟨g,cs,t,rfl⟩:=hF s i hi
  exact own_blk (β:=Unit) B (fun _=>g) (fun _=>cs) t () W W' row (hs.all _ hi) hg hr
end Go.Lith
namespace Go.Proofs.YtmcgcnpgkkfkoaaGreatDoor
open Go.RowKit Go.Lith
attribute [local go_sem] Oper.semAt_some
def sideV (t : T3) (k : Nat) : Array Value:=#[pt (t.cor k),pt (t.cor ((k + 1) % 3))]
set_option maxRecDepth 100000 in
theorem sides1_in (n : Nat) (hn : 1 ≤ n) (l Bs n₀ : Nat) (t : T3) (J Jx : List Nat → World → Prop)
    (hJd : ∀ s W,J s W → J s W.drew) (hY : ∀ pre x W,J pre W → pre.length < 3 → YieldAt Fence.wide (n - 1) Tryz.prog l (sideV t x) W fun e W' =>
      (e = .returned (.bool true) ∧ J (pre ++ [x]) W' ∧ KeepB n₀ Bs W W') ∨ (e = .returned (.bool false) ∧ Jx (pre ++ [x]) W'))
    (W : World) (hBs : Blk W Bs (triCells t) 59) (h0 : J [] W) :
    CallsIn Fence.wide n Tryz.prog 138 #[.func (.yield l) #[] #[],.pointer (some ⟨Bs,0,none⟩)] W fun e W'=>(∃ v,e = .returned v) ∧
      ((∃ ys : List Nat,ys = [0,1,2] ∧ J ys W') ∨ (∃ pre,(∀ k ∈ pre,k < 3) ∧ Jx pre W')):=by
  refine callsIn_of_wp Tryz.func138 rfl trivial ?_ rfl
  simp only [Tryz.ntmps138,List.size_toArray,List.length_cons,List.length_nil,Nat.reduceAdd,Nat.reduceSub,Array.replicate_succ,Array.replicate_zero,List.push_toArray,List.append_toArray,List.nil_append,List.cons_append]
  gi_wp2
  gi_loopw [4] (fun i wr=>∃ (k : Nat),k ≤ 3 ∧ i = .int .i64 (k : Int) ∧ J (List.range k) wr ∧ KeepB n₀ Bs W wr)
    (fun i _=>(3 - intOf i).toNat)
  case atStart=>exact ⟨0,by omega,rfl,h0,KeepB.refl _ _ _⟩
  case round =>
    obtain ⟨k,hk,rfl,hJs,hnx⟩:=hrel
    have hB : Blk wr Bs (triCells t) 59:=hnx.2.trans hBs
    have hD : Blk wr.drew Bs (triCells t) 59:=hB
    have hk4 : k = 0 ∨ k = 1 ∨ k = 2 ∨ k = 3:=by omega
    rcases hk4 with rfl | rfl | rfl | rfl
    · obtain ⟨fn,tmps,assign,body,hy,hR⟩:=hY (List.range 0) 0 wr.drew (hJd _ _ hJs) (by decide)
      gi_wp2
      rename_i K1 hK1 K2 hK2
      refine jregion_tail (C:=fun u=>u = wr.drew) 9 follows_mixed (by kernel_rfl) rfl ?_
      simp only [zH,zI,zJ,zK]
      refine q_val (r_move) (q_val (r_move) (q_val (r_indexAddrA Tryz.underlying59 cells_28 rfl rfl (by decide) (by decide) rfl) ?_))
      simp only [zA,zB,zC,zD,zE,zF,zG,zH,zI,zJ,zK,Nat.zero_add,Nat.reduceAdd,Nat.reduceMul,Int.reduceToNat]
      refine q_valW (fun u hu=>r_load rfl (hu ▸ (Row.cor (c:=0) (hD.row 0) (by decide)).lies agg_28 cells_28)) ?_
      simp only [zA,zB,zC,zD,zE,zF,zG]
      refine q_val (r_move) (q_val (r_add (m:=0) (n:=1) (r:=1) rfl rfl (by decide)) (q_val (r_rem (m:=1) (n:=3) (r:=1) rfl rfl (by decide) (by decide)) ?_))
      simp only [zA,zB,zC,zD,zE,zF,zG]
      refine q_val (r_indexAddrA Tryz.underlying59 cells_28 rfl rfl (by decide) (by decide) rfl) ?_
      simp only [zA,zB,zC,zD,zE,zF,zG,zH,zI,zJ,zK,Nat.zero_add,Nat.reduceAdd,Nat.reduceMul,Int.reduceToNat]
      refine q_valW (fun u hu=>r_load rfl (hu ▸ (Row.cor (c:=1) (hD.row 0) (by decide)).lies agg_28 cells_28)) ?_
      simp only [zA,zB,zC,zD,zE,zF,zG]
      refine q_nil ?_
      rintro u rfl
      try simp only [zH,zI,zJ,zK]
      refine j_yield rfl rfl hy hR ?_
      rintro e W3 (⟨rfl,hJ3,hk3⟩ | ⟨rfl,hJx3⟩)
      · refine ⟨_,rfl,?_⟩
        simp only [zA,zB,zC,zD,zE,zF,zG]
        refine j_valW (r_not rfl _) (wpListIn_nil (hK2 _ _ ?_))
        simp only [zA,zB,zC,zD,zE,zF,zG,Bool.not_true]
        gi_wp2
        go_roundw
        case rel=>exact ⟨0 + 1,by decide,rfl,hJ3,hnx.trans ((show KeepB n₀ Bs wr wr.drew from ⟨(Below.refl _ _).drew,rfl⟩).trans hk3)⟩
        case measure=>simp [intOf]
      · refine ⟨_,rfl,?_⟩
        simp only [zA,zB,zC,zD,zE,zF,zG]
        refine j_valW (r_not rfl _) (wpListIn_nil (hK2 _ _ ?_))
        simp only [zA,zB,zC,zD,zE,zF,zG,Bool.not_false]
        gi_wp2
        refine bodyPost_ret (results_none rfl _ _ _) rfl ?_
        exact ⟨⟨_,rfl⟩,.inr ⟨_,by decide,hJx3⟩⟩
    · obtain ⟨fn,tmps,assign,body,hy,hR⟩:=hY (List.range 1) 1 wr.drew (hJd _ _ hJs) (by decide)
      gi_wp2
      rename_i K1 hK1 K2 hK2
      refine jregion_tail (C:=fun u=>u = wr.drew) 9 follows_mixed (by kernel_rfl) rfl ?_
      simp only [zH,zI,zJ,zK]
      refine q_val (r_move) (q_val (r_move) (q_val (r_indexAddrA Tryz.underlying59 cells_28 rfl rfl (by decide) (by decide) rfl) ?_))
      simp only [zA,zB,zC,zD,zE,zF,zG,zH,zI,zJ,zK,Nat.zero_add,Nat.reduceAdd,Nat.reduceMul,Int.reduceToNat]
      refine q_valW (fun u hu=>r_load rfl (hu ▸ (Row.cor (c:=1) (hD.row 0) (by decide)).lies agg_28 cells_28)) ?_
      simp only [zA,zB,zC,zD,zE,zF,zG]
      refine q_val (r_move) (q_val (r_add (m:=1) (n:=1) (r:=2) rfl rfl (by decide)) (q_val (r_rem (m:=2) (n:=3) (r:=2) rfl rfl (by decide) (by decide)) ?_))
      simp only [zA,zB,zC,zD,zE,zF,zG]
      refine q_val (r_indexAddrA Tryz.underlying59 cells_28 rfl rfl (by decide) (by decide) rfl) ?_
      simp only [zA,zB,zC,zD,zE,zF,zG,zH,zI,zJ,zK,Nat.zero_add,Nat.reduceAdd,Nat.reduceMul,Int.reduceToNat]
      refine q_valW (fun u hu=>r_load rfl (hu ▸ (Row.cor (c:=2) (hD.row 0) (by decide)).lies agg_28 cells_28)) ?_
      simp only [zA,zB,zC,zD,zE,zF,zG]
      refine q_nil ?_
      rintro u rfl
      try simp only [zH,zI,zJ,zK]
      refine j_yield rfl rfl hy hR ?_
      rintro e W3 (⟨rfl,hJ3,hk3⟩ | ⟨rfl,hJx3⟩)
      · refine ⟨_,rfl,?_⟩
        simp only [zA,zB,zC,zD,zE,zF,zG]
        refine j_valW (r_not rfl _) (wpListIn_nil (hK2 _ _ ?_))
        simp only [zA,zB,zC,zD,zE,zF,zG,Bool.not_true]
        gi_wp2
        go_roundw
        case rel=>exact ⟨1 + 1,by decide,rfl,hJ3,hnx.trans ((show KeepB n₀ Bs wr wr.drew from ⟨(Below.refl _ _).drew,rfl⟩).trans hk3)⟩
        case measure=>simp [intOf]
      · refine ⟨_,rfl,?_⟩
        simp only [zA,zB,zC,zD,zE,zF,zG]
        refine j_valW (r_not rfl _) (wpListIn_nil (hK2 _ _ ?_))
        simp only [zA,zB,zC,zD,zE,zF,zG,Bool.not_false]
        gi_wp2
        refine bodyPost_ret (results_none rfl _ _ _) rfl ?_
        exact ⟨⟨_,rfl⟩,.inr ⟨_,by decide,hJx3⟩⟩
    · obtain ⟨fn,tmps,assign,body,hy,hR⟩:=hY (List.range 2) 2 wr.drew (hJd _ _ hJs) (by decide)
      gi_wp2
      rename_i K1 hK1 K2 hK2
      refine jregion_tail (C:=fun u=>u = wr.drew) 9 follows_mixed (by kernel_rfl) rfl ?_
      simp only [zH,zI,zJ,zK]
      refine q_val (r_move) (q_val (r_move) (q_val (r_indexAddrA Tryz.underlying59 cells_28 rfl rfl (by decide) (by decide) rfl) ?_))
      simp only [zA,zB,zC,zD,zE,zF,zG,zH,zI,zJ,zK,Nat.zero_add,Nat.reduceAdd,Nat.reduceMul,Int.reduceToNat]
      refine q_valW (fun u hu=>r_load rfl (hu ▸ (Row.cor (c:=2) (hD.row 0) (by decide)).lies agg_28 cells_28)) ?_
      simp only [zA,zB,zC,zD,zE,zF,zG]
      refine q_val (r_move) (q_val (r_add (m:=2) (n:=1) (r:=3) rfl rfl (by decide)) (q_val (r_rem (m:=3) (n:=3) (r:=0) rfl rfl (by decide) (by decide)) ?_))
      simp only [zA,zB,zC,zD,zE,zF,zG]
      refine q_val (r_indexAddrA Tryz.underlying59 cells_28 rfl rfl (by decide) (by decide) rfl) ?_
      simp only [zA,zB,zC,zD,zE,zF,zG,zH,zI,zJ,zK,Nat.zero_add,Nat.reduceAdd,Nat.reduceMul,Int.reduceToNat]
      refine q_valW (fun u hu=>r_load rfl (hu ▸ (Row.cor (c:=0) (hD.row 0) (by decide)).lies agg_28 cells_28)) ?_
      simp only [zA,zB,zC,zD,zE,zF,zG]
      refine q_nil ?_
      rintro u rfl
      try simp only [zH,zI,zJ,zK]
      refine j_yield rfl rfl hy hR ?_
      rintro e W3 (⟨rfl,hJ3,hk3⟩ | ⟨rfl,hJx3⟩)
      · refine ⟨_,rfl,?_⟩
        simp only [zA,zB,zC,zD,zE,zF,zG]
        refine j_valW (r_not rfl _) (wpListIn_nil (hK2 _ _ ?_))
        simp only [zA,zB,zC,zD,zE,zF,zG,Bool.not_true]
        gi_wp2
        go_roundw
        case rel=>exact ⟨2 + 1,by decide,rfl,hJ3,hnx.trans ((show KeepB n₀ Bs wr wr.drew from ⟨(Below.refl _ _).drew,rfl⟩).trans hk3)⟩
        case measure=>simp [intOf]
      · refine ⟨_,rfl,?_⟩
        simp only [zA,zB,zC,zD,zE,zF,zG]
        refine j_valW (r_not rfl _) (wpListIn_nil (hK2 _ _ ?_))
        simp only [zA,zB,zC,zD,zE,zF,zG,Bool.not_false]
        gi_wp2
        refine bodyPost_ret (results_none rfl _ _ _) rfl ?_
        exact ⟨⟨_,rfl⟩,.inr ⟨_,by decide,hJx3⟩⟩
    · gi_wp2
      go_end0
      exact ⟨⟨_,rfl⟩,.inl ⟨_,rfl,hJs⟩⟩
end Go.Proofs.YtmcgcnpgkkfkoaaGreatDoor
namespace Go.Proofs.YtmcgcnpgkkfkoaaGreatDoor
open Go.RowKit Go.Lith
set_option maxRecDepth 100000
attribute [local irreducible] wpList wpQuiet wpMix wpMixH wpTree Code.wp
def fstI (u : P3) : Int:=if u.x ≠ 0 then 0 else if u.y ≠ 0 then 1 else if u.z ≠ 0 then 2 else -1
theorem isign_ne {n : Int} : ¬ isign n = 0 ↔ n ≠ 0:=not_congr isign_zero_iff
theorem isign_z {n : Int} (h : ¬ ¬ isign n = 0) : ¬ n ≠ 0:=fun k=>h (isign_ne.2 k)
theorem fstI_k {u : P3} (h : ¬ Z3 u) : fstI u = (fstK u : Int):=by
 unfold fstI fstK
 unfold Z3 at h
 repeat' split
 all_goals first | rfl | (exfalso; omega)
theorem fstI_0 {u : P3} (h : Z3 u) : fstI u = -1:=by
 obtain ⟨h1,h2,h3⟩:=h
 simp [fstI,h1,h2,h3]
class N4 (p : P3) : Prop where
 x : -549755813888 < p.x ∧ p.x < 549755813888
 y : -549755813888 < p.y ∧ p.y < 549755813888
 z : -549755813888 < p.z ∧ p.z < 549755813888
theorem N3.cross {u v : P3} (hu : N3 u) (hv : N3 v) : N4 (u.cross v):=by
 have h1:=mulS hu.y hv.z; have h2:=mulS hu.z hv.y; have h3:=mulS hu.z hv.x; have h4:=mulS hu.x hv.z; have h5:=mulS hu.x hv.y; have h6:=mulS hu.y hv.x
 exact ⟨by simp only [P3.cross]; omega,by simp only [P3.cross]; omega,by simp only [P3.cross]; omega⟩
theorem mulN {a b : Int} (ha : -549755813888 < a ∧ a < 549755813888) (hb : b.natAbs < 524288) : -288230376151711744 < a * b ∧ a * b < 288230376151711744:=by
 have h : (a * b).natAbs ≤ 549755813887 * 524287:=by rw [Int.natAbs_mul]; exact Nat.mul_le_mul (by omega) (by omega)
 omega
theorem first_c {u : P3} : Pure Tryz.prog 70 [sg u] (.int .i64 (fstI u)):=by
 intro w
 refine ⟨en_70,?_⟩
 have m:=Mem.refl w
 go_enter Tryz.func70,Tryz.ntmps70
 refine c_seq fun K1 k1=>wp_region_lit (mboxA m rfl ?_)
 clear m; intro g1 u m
 refine n_val (r_assign) (n_nil (k1 _ _ ?_))
 refine c_seq fun K2 k2=>c_seq fun K3 k3=>wp_region_lit ?_
 simp only [ev,zD,zE,zF,zG]
 refine n_load rfl ((m.b 0 rfl).full agg_23 cells_23) ?_
 simp only [ev,zD,zE,zF,zG]
 refine n_val (r_move) (n_nil (k3 _ _ ?_))
 refine wp_block (wp_loop_rounds 4 (rounds_step (c_seq fun K4 k4=>wp_region_lit (n_val (r_lssT (m:=0) (n:=3) rfl rfl (by decide)) (n_nil (k4 _ _ ?_))))))
 refine c_seq fun K5 k5=>c_yes rfl (wp_skip (k5 _ _ ?_))
 refine c_seq fun K6 k6=>wp_block (c_seq fun K7 k7=>wp_region_lit (n_val (r_move) (n_val (r_index_23_0 rfl rfl) ?_)))
 simp only [ev,zD,zE,zF,zG]
 refine n_val (r_assign) (n_val (r_assign) (n_nil (k7 _ _ ?_)))
 refine c_seq fun K8 k8=>wp_region_lit (n_val (r_move) (n_val (r_neq rfl rfl) ?_))
 simp only [ev,zD,zE,zF,zG]
 refine n_nil (k8 _ _ ?_)
 refine c_if rfl (fun hc2=>?_) (fun hc2=>?_)
 ·
  refine c_seq fun K9 k9=>wp_region_lit (n_val (r_move) (n_val (r_assign) (n_nil (k9 _ _ ?_))))
  refine wp_ret ?_
  simp only [ev,zD,zE,zF,zG]
  try simp only [Exit.inBlock,Exit.then,if_true]
  refine fin1 rfl rfl ?_
  try simp only [zD,zE]
  exact ⟨_,rfl,m.ext,by rw [fstI,if_pos (isign_ne.1 hc2)]⟩
 ·
  have hq0:=hc2
  refine wp_skip (k6 _ _ ?_)
  refine wp_region_lit (n_val (r_add (m:=0) (n:=1) (r:=1) rfl rfl (by decide)) (n_val (r_move) (n_nil (then_rounds (c_seq fun K10 k10=>wp_region_lit (n_val (r_lssT (m:=1) (n:=3) rfl rfl (by decide)) (n_nil (k10 _ _ ?_))))))))
  refine c_seq fun K11 k11=>c_yes rfl (wp_skip (k11 _ _ ?_))
  refine c_seq fun K12 k12=>wp_block (c_seq fun K13 k13=>wp_region_lit (n_val (r_move) ?_))
  simp only [ev,zD,zE,zF,zG]
  refine n_val (r_index_23_1 rfl rfl) (n_val (r_assign) (n_val (r_assign) (n_nil (k13 _ _ ?_))))
  refine c_seq fun K14 k14=>wp_region_lit (n_val (r_move) ?_)
  simp only [ev,zD,zE,zF,zG]
  refine n_val (r_neq rfl rfl) (n_nil (k14 _ _ ?_))
  simp only [ev,zD,zE,zF,zG]
  refine c_if rfl (fun hc2=>?_) (fun hc2=>?_)
  ·
   refine c_seq fun K15 k15=>wp_region_lit (n_val (r_move) (n_val (r_assign) (n_nil (k15 _ _ ?_))))
   refine wp_ret ?_
   simp only [ev,zD,zE,zF,zG]
   try simp only [Exit.inBlock,Exit.then,if_true]
   refine fin1 rfl rfl ?_
   try simp only [zD,zE]
   exact ⟨_,rfl,m.ext,by rw [fstI,if_neg (isign_z hq0),if_pos (isign_ne.1 hc2)]⟩
  ·
   have hq1:=hc2
   refine wp_skip (k12 _ _ ?_)
   refine wp_region_lit (n_val (r_add (m:=1) (n:=1) (r:=2) rfl rfl (by decide)) (n_val (r_move) (n_nil (then_rounds (c_seq fun K16 k16=>wp_region_lit (n_val (r_lssT (m:=2) (n:=3) rfl rfl (by decide)) (n_nil (k16 _ _ ?_))))))))
   refine c_seq fun K17 k17=>c_yes rfl (wp_skip (k17 _ _ ?_))
   refine c_seq fun K18 k18=>wp_block (c_seq fun K19 k19=>wp_region_lit (n_val (r_move) ?_))
   simp only [ev,zD,zE,zF,zG]
   refine n_val (r_index_23_2 rfl rfl) (n_val (r_assign) (n_val (r_assign) (n_nil (k19 _ _ ?_))))
   refine c_seq fun K20 k20=>wp_region_lit (n_val (r_move) ?_)
   simp only [ev,zD,zE,zF,zG]
   refine n_val (r_neq rfl rfl) (n_nil (k20 _ _ ?_))
   simp only [ev,zD,zE,zF,zG]
   refine c_if rfl (fun hc2=>?_) (fun hc2=>?_)
   ·
    refine c_seq fun K21 k21=>wp_region_lit (n_val (r_move) (n_val (r_assign) (n_nil (k21 _ _ ?_))))
    refine wp_ret ?_
    simp only [ev,zD,zE,zF,zG]
    try simp only [Exit.inBlock,Exit.then,if_true]
    refine fin1 rfl rfl ?_
    try simp only [zD,zE]
    exact ⟨_,rfl,m.ext,by rw [fstI,if_neg (isign_z hq0),if_neg (isign_z hq1),if_pos (isign_ne.1 hc2)]⟩
   ·
    have hq2:=hc2
    refine wp_skip (k18 _ _ ?_)
    refine wp_region_lit (n_val (r_add (m:=2) (n:=1) (r:=3) rfl rfl (by decide)) (n_val (r_move) (n_nil (then_rounds (c_seq fun K22 k22=>wp_region_lit (n_val (r_lssF (m:=3) (n:=3) rfl rfl (by decide)) (n_nil (k22 _ _ ?_))))))))
    refine c_seq fun K23 k23=>c_no rfl (wp_exit (k2 _ _ ?_))
    refine c_seq fun K24 k24=>wp_region_lit (n_val (r_assign) ?_)
    simp only [ev,zD,zE,zF,zG]
    refine n_nil (k24 _ _ ?_)
    refine wp_ret ?_
    try simp only [Exit.inBlock,Exit.then,if_true]
    refine fin1 rfl rfl ?_
    try simp only [zD,zE]
    exact ⟨_,rfl,m.ext,by rw [fstI,if_neg (isign_z hq0),if_neg (isign_z hq1),if_neg (isign_z hq2)]⟩
theorem nearScalar_c {u v : P3} (hu : N4 u) (hv : N3 v) : Pure Tryz.prog 137 [nv u,nv v] (.int .i64 (u.dot v)):=by
 intro w
 refine ⟨en_137,?_⟩
 have m:=Mem.refl w
 go_enter Tryz.func137,Tryz.ntmps137
 refine c_seq fun K1 k1=>wp_region_lit (mboxA m rfl ?_)
 clear m; intro g1 u m
 simp only [ev,zD,zE,zF,zG]
 refine mboxA m rfl ?_
 clear m; intro g2 u m
 refine n_val (r_assign) (n_nil (k1 _ _ ?_))
 refine c_seq fun K2 k2=>wp_region_lit (n_val (r_indexAddrA Tryz.underlying161 cells_3 rfl rfl (by decide) (by decide) rfl) ?_)
 simp only [ev,zD,zE,zF,zG]
 refine n_load rfl ((m.b 1 rfl).lies1 agg_3 rfl) ?_
 simp only [ev,zD,zE,zF,zG]
 refine n_val (r_indexAddrA Tryz.underlying161 cells_3 rfl rfl (by decide) (by decide) rfl) ?_
 simp only [ev,zD,zE,zF,zG]
 refine n_load rfl ((m.b 0 rfl).lies1 agg_3 rfl) ?_
 simp only [ev,zD,zE,zF,zG]
 refine n_val (r_mul rfl rfl (wrap_i64 (by have h1:=mulN hu.x hv.x; have h2:=mulN hu.y hv.y; have h3:=mulN hu.z hv.z; omega) (by have h1:=mulN hu.x hv.x; have h2:=mulN hu.y hv.y; have h3:=mulN hu.z hv.z; omega))) (n_val (r_indexAddrA Tryz.underlying161 cells_3 rfl rfl (by decide) (by decide) rfl) ?_)
 simp only [ev,zD,zE,zF,zG]
 refine n_load rfl ((m.b 1 rfl).lies1 agg_3 rfl) ?_
 simp only [ev,zD,zE,zF,zG]
 refine n_val (r_indexAddrA Tryz.underlying161 cells_3 rfl rfl (by decide) (by decide) rfl) ?_
 simp only [ev,zD,zE,zF,zG]
 refine n_load rfl ((m.b 0 rfl).lies1 agg_3 rfl) ?_
 simp only [ev,zD,zE,zF,zG]
 refine n_val (r_mul rfl rfl (wrap_i64 (by have h1:=mulN hu.x hv.x; have h2:=mulN hu.y hv.y; have h3:=mulN hu.z hv.z; omega) (by have h1:=mulN hu.x hv.x; have h2:=mulN hu.y hv.y; have h3:=mulN hu.z hv.z; omega))) (n_val (r_add rfl rfl (wrap_i64 (by have h1:=mulN hu.x hv.x; have h2:=mulN hu.y hv.y; have h3:=mulN hu.z hv.z; omega) (by have h1:=mulN hu.x hv.x; have h2:=mulN hu.y hv.y; have h3:=mulN hu.z hv.z; omega))) (n_val (r_indexAddrA Tryz.underlying161 cells_3 rfl rfl (by decide) (by decide) rfl) ?_))
 simp only [ev,zD,zE,zF,zG]
 refine n_load rfl ((m.b 1 rfl).lies1 agg_3 rfl) ?_
 simp only [ev,zD,zE,zF,zG]
 refine n_val (r_indexAddrA Tryz.underlying161 cells_3 rfl rfl (by decide) (by decide) rfl) ?_
 simp only [ev,zD,zE,zF,zG]
 refine n_load rfl ((m.b 0 rfl).lies1 agg_3 rfl) ?_
 simp only [ev,zD,zE,zF,zG]
 refine n_val (r_mul rfl rfl (wrap_i64 (by have h1:=mulN hu.x hv.x; have h2:=mulN hu.y hv.y; have h3:=mulN hu.z hv.z; omega) (by have h1:=mulN hu.x hv.x; have h2:=mulN hu.y hv.y; have h3:=mulN hu.z hv.z; omega))) (n_val (r_add rfl rfl (wrap_i64 (by have h1:=mulN hu.x hv.x; have h2:=mulN hu.y hv.y; have h3:=mulN hu.z hv.z; omega) (by have h1:=mulN hu.x hv.x; have h2:=mulN hu.y hv.y; have h3:=mulN hu.z hv.z; omega))) (n_val (r_assign) (n_nil (k2 _ _ ?_))))
 refine wp_ret ?_
 simp only [ev,zD,zE,zF,zG]
 try simp only [Exit.inBlock,Exit.then,if_true]
 refine fin1 rfl rfl ?_
 try simp only [zD,zE]
 exact ⟨_,rfl,m.ext,rfl⟩
theorem Orient_c {a b c d : P3} [I3 a] [I3 b] [I3 c] [I3 d] : Pure Tryz.prog 74 [pt a,pt b,pt c,pt d] (.int .i64 (isign (((b.sub a).cross (c.sub a)).dot (d.sub a)))):=by
 intro w
 refine ⟨en_74,?_⟩
 have m:=Mem.refl w
 go_enter Tryz.func74,Tryz.ntmps74
 refine c_seq fun K1 k1=>wp_region_lit (mboxA m rfl ?_)
 clear m; intro g1 u m
 simp only [ev,zD,zE,zF,zG]
 refine mboxA m rfl ?_
 clear m; intro g2 u m
 simp only [ev,zD,zE,zF,zG]
 refine mboxA m rfl ?_
 clear m; intro g3 u m
 simp only [ev,zD,zE,zF,zG]
 refine mboxA m rfl ?_
 clear m; intro g4 u m
 refine n_val (r_assign) (n_nil (k1 _ _ ?_))
 refine c_seq fun K2 k2=>c_seq fun K3 k3=>wp_region_lit ?_
 simp only [ev,zD,zE,zF,zG]
 refine n_load rfl ((m.b 3 rfl).full agg_28 cells_28) ?_
 simp only [ev,zD,zE,zF,zG]
 refine n_load rfl ((m.b 2 rfl).full agg_28 cells_28) ?_
 simp only [ev,zD,zE,zF,zG]
 refine n_load rfl ((m.b 1 rfl).full agg_28 cells_28) ?_
 simp only [ev,zD,zE,zF,zG]
 refine n_load rfl ((m.b 0 rfl).full agg_28 cells_28) ?_
 simp only [ev,zD,zE,zF,zG]
 refine n_bs_118_4 rfl rfl rfl rfl ?_
 intro u g5 e hg hB; replace m:=m.newB e hg hB; clear e hg hB
 simp only [ev,zD,zE,zF,zG]
 refine mcall m rfl rfl (exSmall_c _ (m.b 0 rfl)) ?_
 clear m; rintro v u m ⟨bo,rfl,hsm⟩
 refine n_nil (k3 _ _ ?_)
 simp only [ev,zD,zE,zF,zG]
 refine c_cond rfl (fun hc1=>?_) (fun hc1=>?_)
 ·
  obtain ⟨_,_,_,_⟩:=hsm hc1
  refine c_seq fun K4 k4=>mq m follows_mixed (by kernel_rfl) (ql rfl (fun u m=>((m.b 4 rfl).full agg_28 cells_28)) ?_)
  simp only [ev,zD,zE,zF,zG]
  refine ql rfl (fun u m=>((m.b 3 rfl).full agg_28 cells_28)) ?_
  simp only [ev,zD,zE,zF,zG]
  refine qcP rfl rfl (nearVector_c) ?_
  simp only [ev,zD,zE,zF,zG]
  refine ql rfl (fun u m=>((m.b 4 rfl).full agg_28 cells_28)) ?_
  simp only [ev,zD,zE,zF,zG]
  refine ql rfl (fun u m=>((m.b 2 rfl).full agg_28 cells_28)) ?_
  simp only [ev,zD,zE,zF,zG]
  refine qcP rfl rfl (nearVector_c) ?_
  simp only [ev,zD,zE,zF,zG]
  refine qcP rfl rfl (nearProduct_c inferInstance inferInstance) ?_
  simp only [ev,zD,zE,zF,zG]
  refine ql rfl (fun u m=>((m.b 4 rfl).full agg_28 cells_28)) ?_
  simp only [ev,zD,zE,zF,zG]
  refine ql rfl (fun u m=>((m.b 1 rfl).full agg_28 cells_28)) ?_
  simp only [ev,zD,zE,zF,zG]
  refine qcP rfl rfl (nearVector_c) ?_
  simp only [ev,zD,zE,zF,zG]
  refine qcP rfl rfl (nearScalar_c (N3.cross inferInstance inferInstance) inferInstance) ?_
  simp only [ev,zD,zE,zF,zG]
  refine qcP rfl rfl (sign_c) (q_val (r_assign) (q_nil ?_))
  clear m; intro u m
  refine k4 _ _ ?_
  refine wp_ret ?_
  simp only [ev,zD,zE,zF,zG]
  try simp only [Exit.inBlock,Exit.then,if_true]
  refine fin1 rfl rfl ?_
  try simp only [zD,zE]
  exact ⟨_,rfl,m.ext,rfl⟩
 ·
  refine wp_skip (k2 _ _ ?_)
  refine c_seq fun K5 k5=>mq m follows_mixed (by kernel_rfl) (ql rfl (fun u m=>((m.b 4 rfl).full agg_28 cells_28)) ?_)
  simp only [ev,zD,zE,zF,zG]
  refine ql rfl (fun u m=>((m.b 3 rfl).full agg_28 cells_28)) ?_
  simp only [ev,zD,zE,zF,zG]
  refine qcP rfl rfl (farVector_c) ?_
  simp only [ev,zD,zE,zF,zG]
  refine ql rfl (fun u m=>((m.b 4 rfl).full agg_28 cells_28)) ?_
  simp only [ev,zD,zE,zF,zG]
  refine ql rfl (fun u m=>((m.b 2 rfl).full agg_28 cells_28)) ?_
  simp only [ev,zD,zE,zF,zG]
  refine qcP rfl rfl (farVector_c) ?_
  simp only [ev,zD,zE,zF,zG]
  refine qcP rfl rfl (farProduct_c Bv.of Bv.of) ?_
  simp only [ev,zD,zE,zF,zG]
  refine ql rfl (fun u m=>((m.b 4 rfl).full agg_28 cells_28)) ?_
  simp only [ev,zD,zE,zF,zG]
  refine ql rfl (fun u m=>((m.b 1 rfl).full agg_28 cells_28)) ?_
  simp only [ev,zD,zE,zF,zG]
  refine qcP rfl rfl (farVector_c) ?_
  simp only [ev,zD,zE,zF,zG]
  refine qcP rfl rfl (farScalar_c Bv.of Bv.of) ?_
  simp only [ev,zD,zE,zF,zG]
  refine qcP rfl rfl (Sign_c Bw.up) (q_val (r_assign) (q_nil ?_))
  clear m; intro u m
  refine k5 _ _ ?_
  refine wp_ret ?_
  simp only [ev,zD,zE,zF,zG]
  try simp only [Exit.inBlock,Exit.then,if_true]
  refine fin1 rfl rfl ?_
  try simp only [zD,zE]
  exact ⟨_,rfl,m.ext,rfl⟩
theorem sortedE_c {p q : P3} : Pure Tryz.prog 72 [pt p,pt q] (.tuple #[pt (mnP p q),pt (mxP p q)]):=by
 intro w
 refine ⟨en_72,?_⟩
 have m:=Mem.refl w
 go_enter Tryz.func72,Tryz.ntmps72
 refine c_seq fun K1 k1=>wp_region_lit (mboxA m rfl ?_)
 clear m; intro g1 u m
 simp only [ev,zD,zE,zF,zG]
 refine mboxA m rfl ?_
 clear m; intro g2 u m
 simp only [ev,zD,zE,zF,zG]
 refine malloc m zero_28 rfl ?_
 clear m; intro g3 u m
 simp only [ev,zD,zE,zF,zG]
 refine malloc m zero_28 rfl ?_
 clear m; intro g4 u m
 refine n_nil (k1 _ _ ?_)
 refine c_seq fun K2 k2=>c_seq fun K3 k3=>wp_region_lit ?_
 simp only [ev,zD,zE,zF,zG]
 refine n_load rfl ((m.b 2 rfl).full agg_28 cells_28) ?_
 simp only [ev,zD,zE,zF,zG]
 refine n_load rfl ((m.b 3 rfl).full agg_28 cells_28) ?_
 simp only [ev,zD,zE,zF,zG]
 refine mcallP m rfl rfl (gless_c.pure) ?_
 clear m; intro u m
 refine n_nil (k3 _ _ ?_)
 simp only [ev,zD,zE,zF,zG]
 refine c_if rfl (fun hc1=>?_) (fun hc1=>?_)
 ·
  refine c_seq fun K4 k4=>?_
  refine mh m [false,false,true,true] [(0,true),(1,true),(2,false),(3,false)] follows_mixed (by kernel_rfl) (panic_put (fun _ _ _ _ _ h=>h)) (ol:=?_) ?hol ?_
  case hol=>simp only [zQ,zR,zS,zT,zU,zV]; try rfl
  clear m; intro u m
  refine h_load rfl (fun u m=>((m.b 0 rfl).full agg_28 cells_28)) ?_
  simp only [ev,zD,zE,zF,zG]
  refine h_load rfl (fun u m=>((m.b 1 rfl).full agg_28 cells_28)) ?_
  simp only [ev,zD,zE,zF,zG]
  refine h_step (mstoreA m 1 rfl rfl rfl cells_28 (leT rfl) rfl ?_)
  clear m; intro u m; simp only [over,zH,zI,zJ,zK,zL,zM,zN,zO,zP,zF,zG,Nat.reduceAdd] at m
  refine n_nil ?_
  refine ⟨m.sel [false,false,true,true],?_⟩
  refine h_step (mstoreA m 0 rfl rfl rfl cells_28 (leT rfl) rfl ?_)
  clear m; intro u m; simp only [over,zH,zI,zJ,zK,zL,zM,zN,zO,zP,zF,zG,Nat.reduceAdd] at m
  refine n_nil ?_
  refine ⟨m.sel [false,false,true,true],?_⟩
  refine h_nil (k4 _ _ ?_)
  refine wp_ret ?_
  try simp only [Exit.inBlock,Exit.then,if_true]
  refine fin2 rfl ⟨_,rfl,((m.b 1 rfl).full agg_28 cells_28)⟩ ⟨_,rfl,((m.b 0 rfl).full agg_28 cells_28)⟩ ?_
  try simp only [zD,zE]
  exact ⟨_,rfl,m.ext,by rw [mnP,mxP,if_pos hc1,if_pos hc1]; rfl⟩
 ·
  refine wp_skip (k2 _ _ ?_)
  refine c_seq fun K5 k5=>?_
  refine mh m [false,false,true,true] [(0,true),(1,true),(2,false),(3,false)] follows_mixed (by kernel_rfl) (panic_put (fun _ _ _ _ _ h=>h)) (ol:=?_) ?hol ?_
  case hol=>simp only [zQ,zR,zS,zT,zU,zV]; try rfl
  clear m; intro u m
  refine h_load rfl (fun u m=>((m.b 1 rfl).full agg_28 cells_28)) ?_
  simp only [ev,zD,zE,zF,zG]
  refine h_load rfl (fun u m=>((m.b 0 rfl).full agg_28 cells_28)) ?_
  simp only [ev,zD,zE,zF,zG]
  refine h_step (mstoreA m 1 rfl rfl rfl cells_28 (leT rfl) rfl ?_)
  clear m; intro u m; simp only [over,zH,zI,zJ,zK,zL,zM,zN,zO,zP,zF,zG,Nat.reduceAdd] at m
  refine n_nil ?_
  refine ⟨m.sel [false,false,true,true],?_⟩
  refine h_step (mstoreA m 0 rfl rfl rfl cells_28 (leT rfl) rfl ?_)
  clear m; intro u m; simp only [over,zH,zI,zJ,zK,zL,zM,zN,zO,zP,zF,zG,Nat.reduceAdd] at m
  refine n_nil ?_
  refine ⟨m.sel [false,false,true,true],?_⟩
  refine h_nil (k5 _ _ ?_)
  refine wp_ret ?_
  try simp only [Exit.inBlock,Exit.then,if_true]
  refine fin2 rfl ⟨_,rfl,((m.b 1 rfl).full agg_28 cells_28)⟩ ⟨_,rfl,((m.b 0 rfl).full agg_28 cells_28)⟩ ?_
  try simp only [zD,zE]
  exact ⟨_,rfl,m.ext,by rw [mnP,mxP,if_neg hc1,if_neg hc1]; rfl⟩
section
variable {P : Program} {l : List Value} {x y z : Operand} {ty : TypeId} {k : IntKind} {m n q r : Int}
theorem r_min3 {a0 : Array TypeId} (hx : ev l x = .int k m) (hy : ev l y = .int k n) (hz : ev l z = .int k q) (hr : (if q < (if n < m then n else m) then q else if n < m then n else m) = r) : Run P l (.call { callee:=.builtin .min,args:=#[x,y,z],argTypes:=a0 }) ty (.int k r):=fun w o ho _=>by
 subst hr
 simp [execOp,ho,resolve,invoke,builtin,Builtin.min_,Builtin.min2,ev_eq,hx,hy,hz]
theorem r_max3 {a0 : Array TypeId} (hx : ev l x = .int k m) (hy : ev l y = .int k n) (hz : ev l z = .int k q) (hr : (if (if m < n then n else m) < q then q else if m < n then n else m) = r) : Run P l (.call { callee:=.builtin .max,args:=#[x,y,z],argTypes:=a0 }) ty (.int k r):=fun w o ho _=>by
 subst hr
 simp [execOp,ho,resolve,invoke,builtin,Builtin.max_,Builtin.max2,ev_eq,hx,hy,hz]
end
instance (u v x : P3) : Decidable (OnC u v x):=inferInstanceAs (Decidable (_ ∧ _ ∧ _))
instance (a b c : Int) : Decidable (Agree a b c):=inferInstanceAs (Decidable (_ ∨ _))
instance {p q : P3} [I3 p] [I3 q] : I3 (mnP p q):=by unfold mnP; split <;> assumption
instance {p q : P3} [I3 p] [I3 q] : I3 (mxP p q):=by unfold mxP; split <;> assumption
instance {p q r : P3} [a : I3 p] [b : I3 q] [c : I3 r] : IT ⟨p,q,r⟩:=⟨a,b,c⟩
theorem signs_pp {p u v : P3} [I3 p] [I3 u] [I3 v] : Pure Tryz.prog 71 [pt p,pt p,pt u,pt v] (sg ⟨0,0,0⟩):=by
 have h:=signs_c (a:=p) (b:=p) (c:=u) (d:=v)
 rw [sub_self'] at h
 have e : (P3.cross ⟨0,0,0⟩ (v.sub u)) = ⟨0,0,0⟩:=by simp [P3.cross]
 rwa [e] at h
theorem first_0 : Pure Tryz.prog 70 [sg ⟨0,0,0⟩] (.int .i64 (-1)):=by
 have h:=first_c (u:=⟨0,0,0⟩)
 rwa [fstI_0 ⟨rfl,rfl,rfl⟩] at h
theorem sorted_pp {p : P3} : Pure Tryz.prog 72 [pt p,pt p] (.tuple #[pt p,pt p]):=by
 have h:=sortedE_c (p:=p) (q:=p)
 rwa [mnP,mxP,ite_self] at h
theorem onC_b {u v x : P3} : (decide (isign (⟨mnP u v,mxP u v,x⟩ : T3).normal.x = 0 ∧ isign (⟨mnP u v,mxP u v,x⟩ : T3).normal.y = 0 ∧ isign (⟨mnP u v,mxP u v,x⟩ : T3).normal.z = 0) && !decide (x.Lt (mnP u v)) && !decide ((mxP u v).Lt x)) = decide (OnC u v x):=by
 apply Bool.eq_iff_iff.2
 simp only [Bool.and_eq_true,Bool.not_eq_true',decide_eq_true_eq,decide_eq_false_iff_not,isign_zero_iff]
 exact ⟨fun h=>⟨h.1.1,h.1.2,h.2⟩,fun h=>⟨⟨h.1,h.2.1⟩,h.2.2⟩⟩
theorem agree_b {a b c : Int} : (decide (0 ≤ (if c < (if b < a then b else a) then c else if b < a then b else a)) || decide ((if (if a < b then b else a) < c then c else if a < b then b else a) ≤ 0)) = decide (Agree a b c):=by
 unfold Agree
 rw [← Bool.decide_or]
 congr 1
 apply propext
 constructor
 ·
  intro h
  repeat' split at h
  all_goals omega
 ·
  intro h
  repeat' split
  all_goals omega
theorem agree_c {a b c : Int} : Pure Tryz.prog 76 [.agg #[.int .i64 a,.int .i64 b,.int .i64 c]] (.bool (decide (Agree a b c))):=by
 intro w
 refine ⟨en_76,?_⟩
 have m:=Mem.refl w
 go_enter Tryz.func76,Tryz.ntmps76
 refine c_seq fun K1 k1=>wp_region_lit (mboxA m rfl ?_)
 clear m; intro g1 u m
 refine n_val (r_assign) (n_nil (k1 _ _ ?_))
 refine c_seq fun K2 k2=>wp_region_lit (n_val (r_indexAddrA Tryz.underlying23 cells_3 rfl rfl (by decide) (by decide) rfl) ?_)
 simp only [ev,zD,zE,zF,zG]
 refine n_load rfl ((m.b 0 rfl).lies1 agg_3 rfl) ?_
 simp only [ev,zD,zE,zF,zG]
 refine n_val (r_indexAddrA Tryz.underlying23 cells_3 rfl rfl (by decide) (by decide) rfl) ?_
 simp only [ev,zD,zE,zF,zG]
 refine n_load rfl ((m.b 0 rfl).lies1 agg_3 rfl) ?_
 simp only [ev,zD,zE,zF,zG]
 refine n_val (r_indexAddrA Tryz.underlying23 cells_3 rfl rfl (by decide) (by decide) rfl) ?_
 simp only [ev,zD,zE,zF,zG]
 refine n_load rfl ((m.b 0 rfl).lies1 agg_3 rfl) ?_
 simp only [ev,zD,zE,zF,zG]
 refine n_val (r_min3 rfl rfl rfl rfl) (n_val (r_geq rfl rfl) (n_val (r_move) (n_mayF rfl (fun hb=>r_indexAddrA Tryz.underlying23 cells_3 rfl rfl (by decide) (by decide) rfl) ?_)))
 simp only [ev,zD,zE,zF,zG]
 refine n_mayFW rfl (fun hb=>r_load (mayE hb rfl) ((m.b 0 rfl).lies1 agg_3 rfl)) (n_mayF rfl (fun hb=>r_indexAddrA Tryz.underlying23 cells_3 rfl rfl (by decide) (by decide) rfl) ?_)
 simp only [ev,zD,zE,zF,zG]
 refine n_mayFW rfl (fun hb=>r_load (mayE hb rfl) ((m.b 0 rfl).lies1 agg_3 rfl)) (n_mayF rfl (fun hb=>r_indexAddrA Tryz.underlying23 cells_3 rfl rfl (by decide) (by decide) rfl) ?_)
 simp only [ev,zD,zE,zF,zG]
 refine n_mayFW rfl (fun hb=>r_load (mayE hb rfl) ((m.b 0 rfl).lies1 agg_3 rfl)) (n_mayF rfl (fun hb=>r_max3 (mayE hb rfl) (mayE hb rfl) (mayE hb rfl) rfl) (n_mayF rfl (fun hb=>r_leq (mayE hb rfl) rfl) (n_val (r_pickOr rfl rfl rfl) (n_val (r_assign) ?_))))
 simp only [ev,zD,zE,zF,zG]
 refine n_nil (k2 _ _ ?_)
 refine wp_ret ?_
 try simp only [Exit.inBlock,Exit.then,if_true]
 refine fin1 rfl rfl ?_
 try simp only [zD,zE]
 exact ⟨_,rfl,m.ext,by rw [← agree_b]⟩
theorem crossP_c {p q r : P3} [I3 p] [I3 q] [I3 r] : Pure Tryz.prog 73 [pt p,pt p,pt q,pt r] (.bool (decide (OnC q r p))):=by
 intro w
 refine ⟨en_73,?_⟩
 have m:=Mem.refl w
 go_enter Tryz.func73,Tryz.ntmps73
 refine c_seq fun K1 k1=>wp_region_lit (mboxA m rfl ?_)
 clear m; intro g1 u m
 simp only [ev,zD,zE,zF,zG]
 refine mboxA m rfl ?_
 clear m; intro g2 u m
 simp only [ev,zD,zE,zF,zG]
 refine mboxA m rfl ?_
 clear m; intro g3 u m
 simp only [ev,zD,zE,zF,zG]
 refine mboxA m rfl ?_
 clear m; intro g4 u m
 refine n_val (r_assign) (n_nil (k1 _ _ ?_))
 refine c_seq fun K2 k2=>wp_region_lit ?_
 simp only [ev,zD,zE,zF,zG]
 refine n_load rfl ((m.b 3 rfl).full agg_28 cells_28) ?_
 simp only [ev,zD,zE,zF,zG]
 refine n_load rfl ((m.b 2 rfl).full agg_28 cells_28) ?_
 simp only [ev,zD,zE,zF,zG]
 refine n_load rfl ((m.b 1 rfl).full agg_28 cells_28) ?_
 simp only [ev,zD,zE,zF,zG]
 refine n_load rfl ((m.b 0 rfl).full agg_28 cells_28) ?_
 simp only [ev,zD,zE,zF,zG]
 refine mcallP m rfl rfl (signs_pp) ?_
 clear m; intro u m
 simp only [ev,zD,zE,zF,zG]
 refine mcallP m rfl rfl (first_0) ?_
 clear m; intro u m
 simp only [ev,zD,zE,zF,zG]
 refine malloc m zero_3 rfl ?_
 clear m; intro g5 u m
 simp only [ev,zD,zE,zF,zG]
 refine mstore1 m 0 rfl rfl rfl cells_3 (leT rfl) ⟨rfl,rfl⟩ ?_
 clear m; intro u m; simp only [over,zH,zI,zJ,zK,zL,zM,zN,zO,zP,zF,zG,Nat.reduceAdd] at m
 refine n_nil (k2 _ _ ?_)
 refine c_seq fun K3 k3=>c_seq fun K4 k4=>wp_region_lit (n_load rfl ((m.b 0 rfl).lies1 agg_3 rfl) ?_)
 simp only [ev,zD,zE,zF,zG]
 refine n_val (r_geqF rfl rfl (by omega)) (n_nil (k4 _ _ ?_))
 refine c_no rfl (wp_skip (k3 _ _ ?_))
 refine c_seq fun K5 k5=>wp_region_lit ?_
 simp only [ev,zD,zE,zF,zG]
 refine n_load rfl ((m.b 4 rfl).full agg_28 cells_28) ?_
 simp only [ev,zD,zE,zF,zG]
 refine n_load rfl ((m.b 3 rfl).full agg_28 cells_28) ?_
 simp only [ev,zD,zE,zF,zG]
 refine mcallP m rfl rfl (sorted_pp (p:=p)) ?_
 clear m; intro u m
 refine n_val (r_move) (n_val (r_extract rfl rfl) (n_val (r_extract rfl rfl) ?_))
 simp only [ev,zD,zE,zF,zG]
 refine mstoreA m 4 rfl rfl rfl cells_28 (leT rfl) rfl ?_
 clear m; intro u m; simp only [over,zH,zI,zJ,zK,zL,zM,zN,zO,zP,zF,zG,Nat.reduceAdd] at m
 refine mstoreA m 3 rfl rfl rfl cells_28 (leT rfl) rfl ?_
 clear m; intro u m; simp only [over,zH,zI,zJ,zK,zL,zM,zN,zO,zP,zF,zG,Nat.reduceAdd] at m
 refine n_nil (k5 _ _ ?_)
 refine c_seq fun K6 k6=>wp_region_lit (n_load rfl ((m.b 2 rfl).full agg_28 cells_28) ?_)
 simp only [ev,zD,zE,zF,zG]
 refine n_load rfl ((m.b 1 rfl).full agg_28 cells_28) ?_
 simp only [ev,zD,zE,zF,zG]
 refine mcallP m rfl rfl (sortedE_c (p:=q) (q:=r)) ?_
 clear m; intro u m
 refine n_val (r_move) (n_val (r_extract rfl rfl) (n_val (r_extract rfl rfl) ?_))
 simp only [ev,zD,zE,zF,zG]
 refine mstoreA m 2 rfl rfl rfl cells_28 (leT rfl) rfl ?_
 clear m; intro u m; simp only [over,zH,zI,zJ,zK,zL,zM,zN,zO,zP,zF,zG,Nat.reduceAdd] at m
 refine mstoreA m 1 rfl rfl rfl cells_28 (leT rfl) rfl ?_
 clear m; intro u m; simp only [over,zH,zI,zJ,zK,zL,zM,zN,zO,zP,zF,zG,Nat.reduceAdd] at m
 refine n_nil (k6 _ _ ?_)
 refine c_seq fun K7 k7=>wp_region_lit (n_load rfl ((m.b 4 rfl).full agg_28 cells_28) ?_)
 simp only [ev,zD,zE,zF,zG]
 refine n_load rfl ((m.b 3 rfl).full agg_28 cells_28) ?_
 simp only [ev,zD,zE,zF,zG]
 refine n_load rfl ((m.b 2 rfl).full agg_28 cells_28) ?_
 simp only [ev,zD,zE,zF,zG]
 refine n_val (r_build_59_0_1_2 rfl rfl rfl) ?_
 simp only [ev,zD,zE,zF,zG]
 refine malloc m zero_59 rfl ?_
 clear m; intro g6 u m
 simp only [ev,zD,zE,zF,zG]
 refine mstoreA m 0 rfl rfl rfl cells_59 (leT rfl) rfl ?_
 clear m; intro u m; simp only [over,zH,zI,zJ,zK,zL,zM,zN,zO,zP,zF,zG,Nat.reduceAdd] at m
 refine n_nil (k7 _ _ ?_)
 refine c_seq fun K8 k8=>c_seq fun K9 k9=>wp_region_lit (n_load rfl ((m.b 5 rfl).full agg_28 cells_28) ?_)
 simp only [ev,zD,zE,zF,zG]
 refine n_load rfl ((m.b 4 rfl).full agg_28 cells_28) ?_
 simp only [ev,zD,zE,zF,zG]
 refine n_val (r_as (eq_eql_28 rfl rfl) (bool_as (decide_eq_true ⟨rfl,rfl,rfl⟩))) (n_nil (k9 _ _ ?_))
 refine c_yes rfl (wp_region_lit ?_)
 simp only [ev,zD,zE,zF,zG]
 refine n_load rfl ((m.b 3 rfl).full agg_28 cells_28) ?_
 simp only [ev,zD,zE,zF,zG]
 refine n_load rfl ((m.b 2 rfl).full agg_28 cells_28) ?_
 simp only [ev,zD,zE,zF,zG]
 refine n_load rfl ((m.b 5 rfl).full agg_28 cells_28) ?_
 simp only [ev,zD,zE,zF,zG]
 refine n_val (r_build_59_0_1_2 rfl rfl rfl) ?_
 simp only [ev,zD,zE,zF,zG]
 refine mstoreA m 0 rfl rfl rfl cells_59 (leT rfl) rfl ?_
 clear m; intro u m; simp only [over,zH,zI,zJ,zK,zL,zM,zN,zO,zP,zF,zG,Nat.reduceAdd] at m
 refine n_nil (k8 _ _ ?_)
 refine c_seq fun K10 k10=>wp_region_lit (n_load rfl ((m.b 0 rfl).full agg_59 cells_59) ?_)
 simp only [ev,zD,zE,zF,zG]
 refine mcallP m rfl rfl (Flat_c (t:=⟨mnP q r,mxP q r,p⟩)) ?_
 clear m; intro u m
 refine n_val (r_move) ?_
 simp only [ev,zD,zE,zF,zG]
 refine n_mayTW rfl (fun hb=>r_load rfl ((m.b 4 rfl).full agg_28 cells_28)) (n_mayTW rfl (fun hb=>r_load rfl ((m.b 3 rfl).full agg_28 cells_28)) (n_mayTP m rfl rfl (fun hb=>by simp only [List.toList_toArray,List.map_cons,List.map_nil,zA,zB,zC,zD,zE,hb,may_t]; rfl) (fun hb=>(gless_c (p:=p) (q:=mnP q r)).pure) ?_))
 clear m; intro u m
 refine n_mayT rfl (fun hb=>r_not (mayE hb rfl)) (n_val (r_pickAnd rfl rfl rfl) (n_val (r_move) ?_))
 simp only [ev,zD,zE,zF,zG]
 refine n_mayTW rfl (fun hb=>r_load rfl ((m.b 2 rfl).full agg_28 cells_28)) (n_mayTW rfl (fun hb=>r_load rfl ((m.b 5 rfl).full agg_28 cells_28)) (n_mayTP m rfl rfl (fun hb=>by simp only [List.toList_toArray,List.map_cons,List.map_nil,zA,zB,zC,zD,zE,hb,may_t]; rfl) (fun hb=>(gless_c (p:=mxP q r) (q:=p)).pure) ?_))
 clear m; intro u m
 refine n_mayT rfl (fun hb=>r_not (mayE hb rfl)) (n_val (r_pickAnd rfl rfl rfl) (n_val (r_assign) ?_))
 simp only [ev,zD,zE,zF,zG]
 refine n_nil (k10 _ _ ?_)
 refine wp_ret ?_
 try simp only [Exit.inBlock,Exit.then,if_true]
 refine fin1 rfl rfl ?_
 try simp only [zD,zE]
 exact ⟨_,rfl,m.ext,by rw [← onC_b]⟩
theorem sides_c {t : T3} (w : World) : Does Tryz.prog 75 [tr t] w (fun v w'=>∃ g,v = .func (.func 138) #[] #[.pointer (some ⟨g,0,none⟩)] ∧ w.heap.size ≤ g ∧ Blk w' g (triCells t) 59):=by
 refine ⟨en_75,?_⟩
 have m:=Mem.refl w
 go_enter Tryz.func75,Tryz.ntmps75
 refine c_seq fun K1 k1=>wp_region_lit (mboxA m rfl ?_)
 clear m; intro g1 u m
 refine n_val (r_assign) (n_nil (k1 _ _ ?_))
 refine c_seq fun K2 k2=>wp_region_lit ?_
 simp only [ev,zD,zE,zF,zG]
 refine n_val (r_makeFunc) ?_
 simp only [ev,zD,zE,zF,zG,List.map_toArray,List.map_cons,List.map_nil]
 refine n_val (r_assign) (n_nil (k2 _ _ ?_))
 refine wp_ret ?_
 simp only [ev,zD,zE,zF,zG]
 try simp only [Exit.inBlock,Exit.then,if_true]
 refine fin1 rfl rfl ?_
 try simp only [zD,zE]
 exact ⟨_,rfl,m.ext,_,rfl,m.ge _ List.mem_cons_self _ rfl,(m.b 0 rfl)⟩
theorem sides_stops (n : Nat) (hn : 1 ≤ n) (Bs n₀ : Nat) (t : T3) (w : World) (hB : Blk w Bs (triCells t) 59) : SeqStopsK Fence.wide n Tryz.prog 138 #[.pointer (some ⟨Bs,0,none⟩)] (fun x : Nat=>sideV t x) (KeepB n₀ Bs) (fun ys=>ys = [0,1,2]) (fun pre=>∀ k ∈ pre,k < 3) 3 w:=fun l J Jx W hW hJ hJx hY h0 =>
 sides1_in n hn l Bs n₀ t J Jx (fun s W h=>hJ s W _ none h ⟨rfl,rfl,rfl,Nat.le_refl _,fun _ _ _=>rfl⟩ (fun r e=>by cases e)) hY W ((hW.block Bs hB.lt).trans hB) h0
end Go.Proofs.YtmcgcnpgkkfkoaaGreatDoor
namespace Go.Proofs.YtmcgcnpgkkfkoaaGreatDoor
open Go.RowKit Go.Lith
section
variable {w0 w : World} {is : List It}
def dI (D : Nat) (o : Obj) : It where
  id:=some D
  P w:=w.heap[D]? = some o
  lt w b h e:=by cases e; exact (Array.getElem?_eq_some_iff.1 h).1
  st w w' h _ k:=(k D rfl).trans h
theorem _root_.Go.Lith.Mem.putD {D : Nat} {o o' : Obj} (m : Mem w0 w is) (k : Nat) (hk : is[k]? = some (dI D o)) : Mem w0 (w.putObj D o') (is.set k (dI D o')):=by
  have hl : D < w.heap.size:=(dI D o).lt w D (m.get k hk) rfl
  refine m.put k hk rfl rfl rfl (by show _ ≤ (w.heap.setIfInBounds D o').size; simp) (fun b _ hne=>World.putObj_heap_other (fun e=>hne (by rw [e]; rfl))) ?_ (.inl rfl)
  show (w.heap.setIfInBounds D o')[D]? = some o'
  simp [hl]
theorem _root_.Go.Lith.Mem.addD {D : Nat} {x : Option (List Deferred)} (m : Mem w0 w is) (hA : AllB is) (h : w.heap[D]? = some (.deferred x)) (hge : w0.heap.size ≤ D) : Mem w0 w (dI D (.deferred x) :: is):=by
  refine ⟨m.ext,fun i hi=>?_,fun i hi b hb=>?_,List.pairwise_cons.2 ⟨fun j hj b h1 h2=>?_,m.nd⟩⟩
  · rcases List.mem_cons.1 hi with rfl | hi
    · exact h
    · exact m.all i hi
  · rcases List.mem_cons.1 hi with rfl | hi
    · cases hb; exact hge
    · exact m.ge i hi b hb
  · obtain ⟨g,cs,t,rfl⟩:=hA j hj
    cases h1
    cases h2
    have hB : w.heap[D]? = some (.cells cs.toArray t (0,0)):=m.all _ hj
    rw [h] at hB
    cases hB
theorem finM0 {P : Program} {l : List Value} {n : Nat} {fn : Func} {R : Ending → World → Prop} {w : World} (h : bodyPost P fn R .ret (Fr l) w) : bodyPostM Fence.wide n P fn R .ret (Fr l) w:=by
  obtain ⟨_,v,hv,hR⟩:=h
  exact ⟨v,hv,hR⟩
theorem keepB_of {W u : World} {Bs : Nat} {cs : List Value} {t : TypeId} (rx : RX W u) (h1 : Blk W Bs cs t) (h2 : Blk u Bs cs t) : KeepB 0 Bs W u :=
  ⟨⟨rx.os,rx.tape,rx.output,rx.ko.size,fun k hk=>absurd hk (Nat.not_lt_zero _)⟩,(show u.heap[Bs]? = _ from h2).trans (show W.heap[Bs]? = _ from h1).symm⟩
theorem mem_pair {g k : Nat} {c1 c2 : List Value} {T1 T2 : TypeId} (m : Mem w0 w is) (h1 : Blk w g c1 T1) (h2 : Blk w k c2 T2) (hgk : k ≠ g) (hg : some g ∉ is.map (·.id)) (hk : some k ∉ is.map (·.id)) (eg : w0.heap.size ≤ g) (ek : w0.heap.size ≤ k) : Mem w0 w (bI k c2 T2 :: bI g c1 T1 :: is):=by
  refine ⟨m.ext,fun i hi=>?_,fun i hi b hb=>?_,List.pairwise_cons.2 ⟨fun j hj b e1 e2=>?_,List.pairwise_cons.2 ⟨fun j hj b e1 e2=>?_,m.nd⟩⟩⟩
  · rcases List.mem_cons.1 hi with rfl | hi
    · exact h2
    · rcases List.mem_cons.1 hi with rfl | hi
      · exact h1
      · exact m.all i hi
  · rcases List.mem_cons.1 hi with rfl | hi
    · cases hb; exact ek
    · rcases List.mem_cons.1 hi with rfl | hi
      · cases hb; exact eg
      · exact m.ge i hi b hb
  · cases e1
    rcases List.mem_cons.1 hj with rfl | hj
    · cases e2; exact hgk rfl
    · exact hk (e2 ▸ List.mem_map_of_mem hj)
  · cases e1
    exact hg (e2 ▸ List.mem_map_of_mem hj)
theorem pair_mem {g k : Nat} {c1 c2 : List Value} {T1 T2 : TypeId} (m : Mem w0 w (bI k c2 T2 :: bI g c1 T1 :: is)) : k ≠ g ∧ some g ∉ is.map (·.id) ∧ some k ∉ is.map (·.id) ∧ w0.heap.size ≤ g ∧ w0.heap.size ≤ k:=by
  obtain ⟨h1,h2⟩:=List.pairwise_cons.1 m.nd
  obtain ⟨h3,_⟩:=List.pairwise_cons.1 h2
  refine ⟨fun e=>h1 _ List.mem_cons_self k rfl (by rw [e]; rfl),fun h=>?_,fun h=>?_,m.ge _ (List.mem_cons_of_mem _ List.mem_cons_self) g rfl,m.ge _ List.mem_cons_self k rfl⟩
  · obtain ⟨i,hi,e⟩:=List.mem_map.1 h
    exact h3 i hi g rfl e
  · obtain ⟨i,hi,e⟩:=List.mem_map.1 h
    exact h1 i (List.mem_cons_of_mem _ hi) k rfl e
theorem loop_two {α : Type} {L : List Value} {go : Operand} {gf Bs N q1 q2 d1 d2 : Nat} {assign body : Code} {Q : Exit → Act → World → Prop} {P : Program} {S Sp : List α → Prop} {v1 v2 : α → Value} {c1 c2 : α → List Value} {T1 T2 tB : TypeId} {csB : List Value}
    (hf : ev L go = .func (.func gf) #[] #[.pointer (some ⟨Bs,0,none⟩)]) (he : Lith.Enters P gf) (hseq : SeqStopsK Fence.wide 3 P gf #[.pointer (some ⟨Bs,0,none⟩)] (fun x=>#[v1 x,v2 x]) (KeepB 0 Bs) S Sp N w)
    (I Ir : List α → List It) (J Jr : List α → Prop) (hA : ∀ pre,AllB (I pre)) (hAr : ∀ pre,AllB (Ir pre)) (hid : ∀ pre,(I pre).map (·.id) = (I []).map (·.id)) (hBs : ∀ pre,bI Bs csB tB ∈ I pre)
    (m : Mem w0 w (I [])) (hJ : J [])
    (hassign : ∀ (r : Nat) (pre : List α) (x : α) (W : World) (K : Act → World → Prop),MemR W w0 W (I pre) → (∀ g k u,MemR W w0 u (bI k (c2 x) T2 :: bI g (c1 x) T1 :: I pre) → K (Fr ((((L.set q1 (v1 x)).set q2 (v2 x)).set d1 (.pointer (some ⟨g,0,none⟩))).set d2 (.pointer (some ⟨k,0,none⟩)))) u) →
      assign.wpIn (Fence.wide.inRound r) 2 P (Exit.then K (fun _ _ _=>False)) (Fr ((L.set q1 (v1 x)).set q2 (v2 x))) W)
    (hbody : ∀ (r : Nat) (pre : List α) (x : α) (g k : Nat) (W : World) (Q' : Exit → Act → World → Prop) [NoOut Q'],J pre → pre.length < N → MemR W w0 W (bI k (c2 x) T2 :: bI g (c1 x) T1 :: I pre) →
      (∀ a u,MemR W w0 u (I (pre ++ [x])) → J (pre ++ [x]) → Q' .normal a u) → (∀ a u,MemR W w0 u (Ir (pre ++ [x])) → Jr (pre ++ [x]) → Q' .ret a u) →
      body.wpIn (Fence.wide.inRound r) 2 P Q' (Fr ((((L.set q1 (v1 x)).set q2 (v2 x)).set d1 (.pointer (some ⟨g,0,none⟩))).set d2 (.pointer (some ⟨k,0,none⟩)))) W)
    (hdone : ∀ (D : Nat) (xs : List α) (u : World),S xs → J xs → Mem w0 u (dI D (.deferred (some [])) :: I xs) → Q .normal (Fr L [{ target:=.collected D,args:=#[] }]) u)
    (hstop : ∀ (D : Nat) (pre : List α) (u : World),Sp pre → Jr pre → Mem w0 u (dI D (.deferred (some [])) :: Ir pre) → Q .ret (Fr L [{ target:=.collected D,args:=#[] }]) u) :
    (Code.rangeFunc go #[q1,q2] assign body).wp P Q (Fr L) w:=by
  refine (wpIn_wide (n:=4)).1 ?_
  have hsz:=m.ext.size
  refine wpIn_rangeFunc_ownH (F:=Fence.wide) rfl (by omega) (gf:=gf) (lb:=#[.pointer (some ⟨Bs,0,none⟩)]) (by rw [ev_eq]; exact hf) trivial (fun args u=>run_callFunc he) hseq KeepB.trans
    (fun W l o o' hl ho hc _=>⟨⟨rfl,rfl,rfl,by show _ ≤ (W.heap.setIfInBounds l o').size; simp,fun k hk=>absurd hk (Nat.not_lt_zero _)⟩,World.putObj_heap_other (fun e=>by
      have hb:=(m.all _ (hBs [])).lt
      omega)⟩) (Below.refl _ _) (fun _=>rfl)
    (fun pre W=>Mem w0 W (I pre) ∧ J pre) (fun c pre W=>Mem w0 W (Ir pre) ∧ (c = .ret ∧ Jr pre))
    (OwnFrom.and (own_mem I hA hsz) (ownFrom_pure _ J)) (fun c=>OwnFrom.and (own_mem Ir hAr hsz) (ownFrom_pure _ _)) ⟨m,hJ⟩
    (fun x a' W=>∃ g k,a' = Fr ((((L.set q1 (v1 x)).set q2 (v2 x)).set d1 (.pointer (some ⟨g,0,none⟩))).set d2 (.pointer (some ⟨k,0,none⟩))) ∧ Blk W g (c1 x) T1 ∧ Blk W k (c2 x) T2 ∧ k ≠ g ∧ some g ∉ (I []).map (·.id) ∧ some k ∉ (I []).map (·.id) ∧ w0.heap.size ≤ g ∧ w0.heap.size ≤ k)
    (fun x a' _ X Y row hs hg hr=>by
      obtain ⟨g,k,e,h1,h2,h3⟩:=hs
      exact ⟨g,k,e,own_blk (β:=Unit) _ (fun _=>g) (fun _=>c1 x) T1 () X Y row h1 hg hr,own_blk (β:=Unit) _ (fun _=>k) (fun _=>c2 x) T2 () X Y row h2 hg hr,h3⟩)
    ?_ ?_ ?_ ?_
  · intro r pre x W K hI hK
    have e : ((#[q1,q2].zip #[v1 x,v2 x]).foldl (fun t (y : Tmp × Value)=>t.setIfInBounds y.1 y.2) (Fr L).tmps) = ((L.set q1 (v1 x)).set q2 (v2 x)).toArray:=by simp
    have:=hassign r pre x W K (MemR.start hI.1) (fun g k u hm=>?_)
    · simp only at this ⊢
      rw [e]
      exact this
    · have hp:=pair_mem hm.toMem
      rw [hid pre] at hp
      have hI2 : Mem w0 u (I pre):=hm.toMem.tl.tl
      exact hK _ _ (hm.rx.ko.from _) (keepB_of hm.rx (hI.1.all _ (hBs pre)) (hI2.all _ (hBs pre))) ⟨hI2,hI.2⟩ ⟨g,k,rfl,hm.all _ (List.mem_cons_of_mem _ List.mem_cons_self),hm.all _ List.mem_cons_self,hp⟩
  · rintro r pre x a' W _ _ ⟨hI,hJp⟩ ⟨g,k,rfl,h1,h2,h3,h4,h5,h6,h7⟩ hN
    rw [← hid pre] at h4 h5
    refine hbody r pre x g k W _ hJp hN (MemR.start (mem_pair hI h1 h2 h3 h4 h5 h6 h7)) (fun a u hm hj=>?_) (fun a u hm hj=>?_)
    · exact ⟨hm.rx.ko.from _,keepB_of hm.rx (hI.all _ (hBs pre)) (hm.all _ (hBs _)),hm.toMem,hj⟩
    · exact ⟨hm.rx.ko.from _,hm.toMem,rfl,hj⟩
  · rintro D xs W hD hS ⟨hI,hj⟩ hd
    exact hdone D xs W hS hj (Lith.Mem.addD hI (hA xs) hd (Nat.le_trans hsz hD))
  · rintro D c pre W hD hsp ⟨hI,rfl,hj⟩ hd
    exact wpIn_ret (hstop D pre W hsp hj (Lith.Mem.addD hI (hAr pre) hd (Nat.le_trans hsz hD)))
end
end Go.Proofs.YtmcgcnpgkkfkoaaGreatDoor
namespace Go.Proofs.YtmcgcnpgkkfkoaaGreatDoor
open Go.RowKit Go.Lith
set_option maxRecDepth 100000
attribute [local irreducible] wpList wpQuiet wpMix wpMixH wpTree Code.wp
instance (p : P3) (t : T3) : Decidable (Tch p t):=by unfold Tch; infer_instance
instance {t : T3} {k : Nat} [h : IT t] : I3 (t.cor k):=by
 unfold T3.cor
 split
 · exact h.a
 ·
  split
  · exact h.b
  · exact h.c
def cnt3 : List Nat → Int
 | []=>0
 | [_]=>1
 | [_,_]=>2
 | _=>3
def l3 (f : Nat → Int) : List Nat → List Value
 | []=>[.int .i64 0,.int .i64 0,.int .i64 0]
 | [a]=>[.int .i64 (f a),.int .i64 0,.int .i64 0]
 | [a,b]=>[.int .i64 (f a),.int .i64 (f b),.int .i64 0]
 | a :: b :: c :: _=>[.int .i64 (f a),.int .i64 (f b),.int .i64 (f c)]
theorem fstK_lt (u : P3) : fstK u < 3:=by
 unfold fstK
 repeat' split
 all_goals omega
def sideS (p : P3) (t : T3) (k : Nat) : P3:=edgeW (t.cor k) (t.cor ((k + 1) % 3)) p
def sgnS (p : P3) (t : T3) (k : Nat) : Int:=isign (cmpK (fstK t.normal) (sideS p t k))
theorem index_sg {l : List Value} {ty : TypeId} {x y : Operand} {v : P3} {k : Nat} (hk : k < 3) (hx : ev l x = sg v) (hy : ev l y = .int .i64 (k : Int)) : Run Tryz.prog l (.index 23 x y) ty (.int .i64 (isign (cmpK k v))):=by
 have h : k = 0 ∨ k = 1 ∨ k = 2:=by omega
 rcases h with rfl | rfl | rfl
 · exact r_index_23_0 hx hy
 · exact r_index_23_1 hx hy
 · exact r_index_23_2 hx hy
theorem isign_three (n : Int) : (n = 0 ∧ isign n = 0) ∨ (n ≠ 0 ∧ isign n = 1) ∨ (n ≠ 0 ∧ isign n = -1):=by
 unfold isign
 split
 · right; right; omega
 ·
  split
  · right; left; omega
  · left; omega
theorem agree_sg {a b c : Int} : Agree (isign a) (isign b) (isign c) ↔ Agree a b c:=by
 simp only [Agree,isign_nn,isign_le]
theorem tch_flat {p : P3} {t : T3} (hf : t.flat) : decide (OnC (mnP (mnP t.a t.b) t.c) (mxP (mxP t.a t.b) t.c) p) = decide (Tch p t):=by
 congr 1
 rw [Tch,if_pos hf]
theorem tch_off {p : P3} {t : T3} (hf : ¬ t.flat) (h : t.normal.dot (p.sub t.a) ≠ 0) : false = decide (Tch p t):=by
 rw [decide_eq_false]
 rw [Tch,if_neg hf]
 exact fun k=>h k.1
theorem tch_on {p : P3} {t : T3} {k : Nat} (hf : ¬ t.flat) (h : t.normal.dot (p.sub t.a) = 0) (hk : k < 3) (ho : OnC (t.cor k) (t.cor ((k + 1) % 3)) p) : true = decide (Tch p t):=by
 rw [decide_eq_true]
 rw [Tch,if_neg hf]
 refine ⟨h,?_⟩
 have e : k = 0 ∨ k = 1 ∨ k = 2:=by omega
 rcases e with rfl | rfl | rfl
 · exact .inl ho
 · exact .inr (.inl ho)
 · exact .inr (.inr (.inl ho))
theorem tch_end {p : P3} {t : T3} (hf : ¬ t.flat) (h : t.normal.dot (p.sub t.a) = 0) (h0 : ∀ k ∈ [0,1,2],¬ OnC (t.cor k) (t.cor ((k + 1) % 3)) p) : decide (Agree (sgnS p t 0) (sgnS p t 1) (sgnS p t 2)) = decide (Tch p t):=by
 congr 1
 apply propext
 have e0 : ¬ OnC t.a t.b p:=h0 0 (by decide)
 have e1 : ¬ OnC t.b t.c p:=h0 1 (by decide)
 have e2 : ¬ OnC t.c t.a p:=h0 2 (by decide)
 rw [Tch,if_neg hf]
 unfold sgnS
 rw [agree_sg]
 constructor
 ·
  intro k
  exact ⟨h,.inr (.inr (.inr k))⟩
 ·
  rintro ⟨_,k | k | k | k⟩
  · exact absurd k e0
  · exact absurd k e1
  · exact absurd k e2
  · exact k
theorem Touch_c {p : P3} {t : T3} [I3 p] [IT t] : Pure Tryz.prog 27 [pt p,pt p,tr t] (.bool (decide (Tch p t))):=by
 intro w
 refine ⟨en_27,?_⟩
 have m:=Mem.refl w
 refine (callsIn_wide (n:=4)).1 ?_
 refine callsIn_of_wp_marks Tryz.func27 rfl trivial ?_ rfl
 simp only [Tryz.ntmps27,List.size_toArray,List.length_cons,List.length_nil,Nat.reduceAdd,Nat.reduceSub,Array.replicate_succ,Array.replicate_zero,List.push_toArray,List.append_toArray,List.nil_append,List.cons_append]
 refine wpIn_wide.2 ?_
 refine c_seq fun K1 k1=>wp_region_lit (mboxA m rfl ?_)
 clear m; intro g1 u m
 simp only [ev,zD,zE,zF,zG]
 refine mboxA m rfl ?_
 clear m; intro g2 u m
 simp only [ev,zD,zE,zF,zG]
 refine mboxA m rfl ?_
 clear m; intro g3 u m
 simp only [ev,zD,zE,zF,zG]
 refine malloc m zero_4 rfl ?_
 clear m; intro g4 u m
 refine n_nil (k1 _ _ ?_)
 refine c_seq fun K2 k2=>wp_region_lit (n_val (r_indexAddrA Tryz.underlying59 cells_28 rfl rfl (by decide) (by decide) rfl) ?_)
 simp only [ev,zD,zE,zF,zG]
 refine n_load rfl ((m.b 1 rfl).lies agg_28 cells_28 rfl rfl) ?_
 simp only [ev,zD,zE,zF,zG,zH,zI,zJ,zK,Nat.zero_add,Nat.reduceAdd,Nat.reduceMul,Int.reduceToNat]
 refine n_val (r_indexAddrA Tryz.underlying59 cells_28 rfl rfl (by decide) (by decide) rfl) ?_
 simp only [ev,zD,zE,zF,zG]
 refine n_load rfl ((m.b 1 rfl).lies agg_28 cells_28 rfl rfl) ?_
 simp only [ev,zD,zE,zF,zG,zH,zI,zJ,zK,Nat.zero_add,Nat.reduceAdd,Nat.reduceMul,Int.reduceToNat]
 refine n_val (r_indexAddrA Tryz.underlying59 cells_28 rfl rfl (by decide) (by decide) rfl) ?_
 simp only [ev,zD,zE,zF,zG]
 refine n_load rfl ((m.b 1 rfl).lies agg_28 cells_28 rfl rfl) ?_
 simp only [ev,zD,zE,zF,zG,zH,zI,zJ,zK,Nat.zero_add,Nat.reduceAdd,Nat.reduceMul,Int.reduceToNat]
 refine n_val (r_indexAddrA Tryz.underlying59 cells_28 rfl rfl (by decide) (by decide) rfl) ?_
 simp only [ev,zD,zE,zF,zG]
 refine n_load rfl ((m.b 1 rfl).lies agg_28 cells_28 rfl rfl) ?_
 simp only [ev,zD,zE,zF,zG,zH,zI,zJ,zK,Nat.zero_add,Nat.reduceAdd,Nat.reduceMul,Int.reduceToNat]
 refine mcallP m rfl rfl (signs_c (a:=t.a) (b:=t.b) (c:=t.a) (d:=t.c)) ?_
 clear m; intro u m
 simp only [ev,zD,zE,zF,zG]
 refine mcallP m rfl rfl (first_c (u:=t.normal)) ?_
 clear m; intro u m
 simp only [ev,zD,zE,zF,zG]
 refine malloc m zero_3 rfl ?_
 clear m; intro g5 u m
 simp only [ev,zD,zE,zF,zG]
 refine mstore1 m 0 rfl rfl rfl cells_3 (leT rfl) ⟨rfl,rfl⟩ ?_
 clear m; intro u m; simp only [over,zH,zI,zJ,zK,zL,zM,zN,zO,zP,zF,zG,Nat.reduceAdd] at m
 refine n_nil (k2 _ _ ?_)
 refine c_seq fun K3 k3=>c_seq fun K4 k4=>?_
 by_cases hf : t.flat
 ·
  rw [fstI_0 hf] at m
  refine wp_region_lit (n_load rfl ((m.b 0 rfl).lies1 agg_3 rfl) ?_)
  simp only [ev,zD,zE,zF,zG]
  refine n_val (r_lssT rfl rfl (by omega)) (n_nil (k4 _ _ ?_))
  refine c_yes rfl (c_seq fun K5 k5=>wp_region_lit (n_val (r_indexAddrA Tryz.underlying59 cells_28 rfl rfl (by decide) (by decide) rfl) ?_))
  simp only [ev,zD,zE,zF,zG]
  refine n_load rfl ((m.b 2 rfl).lies agg_28 cells_28 rfl rfl) ?_
  simp only [ev,zD,zE,zF,zG,zH,zI,zJ,zK,Nat.zero_add,Nat.reduceAdd,Nat.reduceMul,Int.reduceToNat]
  refine n_val (r_indexAddrA Tryz.underlying59 cells_28 rfl rfl (by decide) (by decide) rfl) ?_
  simp only [ev,zD,zE,zF,zG]
  refine n_load rfl ((m.b 2 rfl).lies agg_28 cells_28 rfl rfl) ?_
  simp only [ev,zD,zE,zF,zG,zH,zI,zJ,zK,Nat.zero_add,Nat.reduceAdd,Nat.reduceMul,Int.reduceToNat]
  refine mcallP m rfl rfl (sortedE_c (p:=t.a) (q:=t.b)) ?_
  clear m; intro u m
  refine n_val (r_move) (n_val (r_extract rfl rfl) (n_val (r_extract rfl rfl) ?_))
  simp only [ev,zD,zE,zF,zG]
  refine malloc m zero_28 rfl ?_
  clear m; intro g6 u m
  simp only [ev,zD,zE,zF,zG]
  refine malloc m zero_28 rfl ?_
  clear m; intro g7 u m
  simp only [ev,zD,zE,zF,zG]
  refine mstoreA m 1 rfl rfl rfl cells_28 (leT rfl) rfl ?_
  clear m; intro u m; simp only [over,zH,zI,zJ,zK,zL,zM,zN,zO,zP,zF,zG,Nat.reduceAdd] at m
  refine mstoreA m 0 rfl rfl rfl cells_28 (leT rfl) rfl ?_
  clear m; intro u m; simp only [over,zH,zI,zJ,zK,zL,zM,zN,zO,zP,zF,zG,Nat.reduceAdd] at m
  refine n_nil (k5 _ _ ?_)
  refine c_seq fun K6 k6=>wp_region_lit (n_load rfl ((m.b 1 rfl).full agg_28 cells_28) ?_)
  simp only [ev,zD,zE,zF,zG]
  refine n_val (r_indexAddrA Tryz.underlying59 cells_28 rfl rfl (by decide) (by decide) rfl) ?_
  simp only [ev,zD,zE,zF,zG]
  refine n_load rfl ((m.b 4 rfl).lies agg_28 cells_28 rfl rfl) ?_
  simp only [ev,zD,zE,zF,zG,zH,zI,zJ,zK,Nat.zero_add,Nat.reduceAdd,Nat.reduceMul,Int.reduceToNat]
  refine mcallP m rfl rfl (sortedE_c (p:=mnP t.a t.b) (q:=t.c)) ?_
  clear m; intro u m
  refine n_val (r_move) (n_val (r_extract rfl rfl) (n_val (r_extract rfl rfl) ?_))
  simp only [ev,zD,zE,zF,zG]
  refine malloc m zero_28 rfl ?_
  clear m; intro g8 u m
  simp only [ev,zD,zE,zF,zG]
  refine malloc m zero_28 rfl ?_
  clear m; intro g9 u m
  simp only [ev,zD,zE,zF,zG]
  refine mstoreA m 1 rfl rfl rfl cells_28 (leT rfl) rfl ?_
  clear m; intro u m; simp only [over,zH,zI,zJ,zK,zL,zM,zN,zO,zP,zF,zG,Nat.reduceAdd] at m
  refine mstoreA m 0 rfl rfl rfl cells_28 (leT rfl) rfl ?_
  clear m; intro u m; simp only [over,zH,zI,zJ,zK,zL,zM,zN,zO,zP,zF,zG,Nat.reduceAdd] at m
  refine n_nil (k6 _ _ ?_)
  refine c_seq fun K7 k7=>wp_region_lit (n_load rfl ((m.b 2 rfl).full agg_28 cells_28) ?_)
  simp only [ev,zD,zE,zF,zG]
  refine n_val (r_indexAddrA Tryz.underlying59 cells_28 rfl rfl (by decide) (by decide) rfl) ?_
  simp only [ev,zD,zE,zF,zG]
  refine n_load rfl ((m.b 6 rfl).lies agg_28 cells_28 rfl rfl) ?_
  simp only [ev,zD,zE,zF,zG,zH,zI,zJ,zK,Nat.zero_add,Nat.reduceAdd,Nat.reduceMul,Int.reduceToNat]
  refine mcallP m rfl rfl (sortedE_c (p:=mxP t.a t.b) (q:=t.c)) ?_
  clear m; intro u m
  refine n_val (r_move) (n_val (r_extract rfl rfl) (n_val (r_extract rfl rfl) ?_))
  simp only [ev,zD,zE,zF,zG]
  refine malloc m zero_28 rfl ?_
  clear m; intro g10 u m
  simp only [ev,zD,zE,zF,zG]
  refine malloc m zero_28 rfl ?_
  clear m; intro g11 u m
  simp only [ev,zD,zE,zF,zG]
  refine mstoreA m 1 rfl rfl rfl cells_28 (leT rfl) rfl ?_
  clear m; intro u m; simp only [over,zH,zI,zJ,zK,zL,zM,zN,zO,zP,zF,zG,Nat.reduceAdd] at m
  refine mstoreA m 0 rfl rfl rfl cells_28 (leT rfl) rfl ?_
  clear m; intro u m; simp only [over,zH,zI,zJ,zK,zL,zM,zN,zO,zP,zF,zG,Nat.reduceAdd] at m
  refine n_nil (k7 _ _ ?_)
  refine c_seq fun K8 k8=>wp_region_lit (n_load rfl ((m.b 10 rfl).full agg_28 cells_28) ?_)
  simp only [ev,zD,zE,zF,zG]
  refine n_load rfl ((m.b 9 rfl).full agg_28 cells_28) ?_
  simp only [ev,zD,zE,zF,zG]
  refine n_load rfl ((m.b 3 rfl).full agg_28 cells_28) ?_
  simp only [ev,zD,zE,zF,zG]
  refine n_load rfl ((m.b 0 rfl).full agg_28 cells_28) ?_
  simp only [ev,zD,zE,zF,zG]
  refine mcallP m rfl rfl (crossP_c (p:=p) (q:=mnP (mnP t.a t.b) t.c) (r:=mxP (mxP t.a t.b) t.c)) ?_
  clear m; intro u m
  simp only [ev,zD,zE,zF,zG]
  refine mstore1 m 7 rfl rfl rfl cells_4 (leT rfl) ⟨rfl,rfl⟩ ?_
  clear m; intro u m; simp only [over,zH,zI,zJ,zK,zL,zM,zN,zO,zP,zF,zG,Nat.reduceAdd] at m
  refine n_nil (k8 _ _ ?_)
  refine wp_ret ?_
  try simp only [Exit.inBlock,Exit.then,if_true]
  refine finM0 ?_
  refine fin1 rfl ⟨_,rfl,((m.b 7 rfl).lies1 agg_4 rfl)⟩ ?_
  try simp only [zD,zE]
  exact ⟨_,rfl,m.ext,by simp only [ev,zD,zE]; rw [tch_flat hf]⟩
 ·
  rw [fstI_k hf] at m
  refine wp_region_lit (n_load rfl ((m.b 0 rfl).lies1 agg_3 rfl) ?_)
  simp only [ev,zD,zE,zF,zG]
  refine n_val (r_lssF rfl rfl (by omega)) (n_nil (k4 _ _ ?_))
  refine c_no rfl (wp_skip (k3 _ _ ?_))
  refine c_seq fun K9 k9=>?_
  simp only [ev,zD,zE,zF,zG]
  refine wp_region_fresh 18 [0,1,2,3,4,5,6,7,8,9,10,11,12,13,14,15] [⟨16,14,3,[.int .i64 0]⟩,⟨17,15,3,[.int .i64 0]⟩] follows_mixed (by kernel_rfl) (al2 ⟨_,_,_,rfl,by kernel_rfl,_,zero_3,rfl⟩ ⟨_,_,_,rfl,by kernel_rfl,_,zero_3,rfl⟩) (ol:=?_) ?hol ?_
  case hol=>simp only [zQ,zR,zS,zT,zU,zV]; try rfl
  intro u e; replace m:=m.ext' e; clear e
  refine e_val (r_indexAddrA Tryz.underlying59 cells_28 rfl rfl (by decide) (by decide) rfl) ?_
  simp only [ev,zD,zE,zF,zG]
  refine e_load rfl (fun u e=>(((m.ext' e).b 2 rfl).lies agg_28 cells_28 rfl rfl)) ?_
  simp only [ev,zD,zE,zF,zG,zH,zI,zJ,zK,Nat.zero_add,Nat.reduceAdd,Nat.reduceMul,Int.reduceToNat]
  refine e_val (r_indexAddrA Tryz.underlying59 cells_28 rfl rfl (by decide) (by decide) rfl) ?_
  simp only [ev,zD,zE,zF,zG]
  refine e_load rfl (fun u e=>(((m.ext' e).b 2 rfl).lies agg_28 cells_28 rfl rfl)) ?_
  simp only [ev,zD,zE,zF,zG,zH,zI,zJ,zK,Nat.zero_add,Nat.reduceAdd,Nat.reduceMul,Int.reduceToNat]
  refine e_val (r_indexAddrA Tryz.underlying59 cells_28 rfl rfl (by decide) (by decide) rfl) ?_
  simp only [ev,zD,zE,zF,zG]
  refine e_load rfl (fun u e=>(((m.ext' e).b 2 rfl).lies agg_28 cells_28 rfl rfl)) ?_
  simp only [ev,zD,zE,zF,zG,zH,zI,zJ,zK,Nat.zero_add,Nat.reduceAdd,Nat.reduceMul,Int.reduceToNat]
  refine e_load rfl (fun u e=>(((m.ext' e).b 4 rfl).full agg_28 cells_28)) ?_
  simp only [ev,zD,zE,zF,zG]
  refine e_callP rfl rfl (Orient_c (a:=t.a) (b:=t.b) (c:=t.c) (d:=p)) (e_val (r_indexAddrA Tryz.underlying59 cells_28 rfl rfl (by decide) (by decide) rfl) ?_)
  simp only [ev,zD,zE,zF,zG]
  refine e_load rfl (fun u e=>(((m.ext' e).b 2 rfl).lies agg_28 cells_28 rfl rfl)) ?_
  simp only [ev,zD,zE,zF,zG,zH,zI,zJ,zK,Nat.zero_add,Nat.reduceAdd,Nat.reduceMul,Int.reduceToNat]
  refine e_val (r_indexAddrA Tryz.underlying59 cells_28 rfl rfl (by decide) (by decide) rfl) ?_
  simp only [ev,zD,zE,zF,zG]
  refine e_load rfl (fun u e=>(((m.ext' e).b 2 rfl).lies agg_28 cells_28 rfl rfl)) ?_
  simp only [ev,zD,zE,zF,zG,zH,zI,zJ,zK,Nat.zero_add,Nat.reduceAdd,Nat.reduceMul,Int.reduceToNat]
  refine e_val (r_indexAddrA Tryz.underlying59 cells_28 rfl rfl (by decide) (by decide) rfl) ?_
  simp only [ev,zD,zE,zF,zG]
  refine e_load rfl (fun u e=>(((m.ext' e).b 2 rfl).lies agg_28 cells_28 rfl rfl)) ?_
  simp only [ev,zD,zE,zF,zG,zH,zI,zJ,zK,Nat.zero_add,Nat.reduceAdd,Nat.reduceMul,Int.reduceToNat]
  refine e_load rfl (fun u e=>(((m.ext' e).b 3 rfl).full agg_28 cells_28)) ?_
  simp only [ev,zD,zE,zF,zG]
  refine e_callP rfl rfl (Orient_c (a:=t.a) (b:=t.b) (c:=t.c) (d:=p)) (e_nil ?_)
  simp only [ev,zD,zE,zF,zG]
  refine mf2 m (by decide) ?_
  clear m; intro g6 g7 u m
  simp only [zJ,zK,zF,zG]
  refine mstore1 m 1 rfl rfl rfl cells_3 (leT rfl) ⟨rfl,rfl⟩ ?_
  clear m; intro u m; simp only [over,zH,zI,zJ,zK,zL,zM,zN,zO,zP,zF,zG,Nat.reduceAdd] at m
  refine mstore1 m 0 rfl rfl rfl cells_3 (leT rfl) ⟨rfl,rfl⟩ ?_
  clear m; intro u m; simp only [over,zH,zI,zJ,zK,zL,zM,zN,zO,zP,zF,zG,Nat.reduceAdd] at m
  refine n_nil (k9 _ _ ?_)
  refine c_seq fun K10 k10=>c_seq fun K11 k11=>?_
  rcases isign_three (t.normal.dot (p.sub t.a)) with h0 | h0 | h0
  ·
   rw [show isign (((t.b.sub t.a).cross (t.c.sub t.a)).dot (p.sub t.a)) = 0 from h0.2] at m
   refine wp_region_lit (n_load rfl ((m.b 1 rfl).lies1 agg_3 rfl) ?_)
   simp only [ev,zD,zE,zF,zG]
   refine n_load rfl ((m.b 0 rfl).lies1 agg_3 rfl) ?_
   simp only [ev,zD,zE,zF,zG]
   refine n_val (r_mul rfl rfl (wrap_i64 (by omega) (by omega))) ?_
   simp only [ev,zD,zE,zF,zG]
   refine n_val (r_gtrF rfl rfl (by omega)) (n_nil (k11 _ _ ?_))
   refine c_no rfl (wp_skip (k10 _ _ ?_))
   refine c_seq fun K12 k12=>wp_region_lit ?_
   simp only [ev,zD,zE,zF,zG]
   refine malloc m zero_23 rfl ?_
   clear m; intro g8 u m
   refine n_nil (k12 _ _ ?_)
   refine c_seq fun K13 k13=>wp_region_lit ?_
   simp only [ev,zD,zE,zF,zG]
   refine malloc m zero_3 rfl ?_
   clear m; intro g9 u m
   simp only [ev,zD,zE,zF,zG]
   refine mstore1 m 0 rfl rfl rfl cells_3 (leT rfl) ⟨rfl,rfl⟩ ?_
   clear m; intro u m; simp only [over,zH,zI,zJ,zK,zL,zM,zN,zO,zP,zF,zG,Nat.reduceAdd] at m
   refine n_nil (k13 _ _ ?_)
   refine c_seq fun K14 k14=>c_seq fun K15 k15=>wp_region_lit (n_load rfl ((m.b 6 rfl).full agg_59 cells_59) ?_)
   simp only [ev,zD,zE,zF,zG]
   refine n_call rfl rfl (sides_c (t:=t) _) ?_
   rintro v u e ⟨g10,rfl,hg,hB⟩; replace m:=m.newB e hg hB; clear e hg hB
   refine n_nil (k15 _ _ ?_)
   refine wp_block ?_
   simp only [ev,zD,zE,zF,zG]
   refine loop_two (v1:=fun x=>pt (t.cor x)) (v2:=fun x=>pt (t.cor ((x + 1) % 3))) (c1:=fun x=>[.int .i64 (t.cor x).x,.int .i64 (t.cor x).y,.int .i64 (t.cor x).z]) (c2:=fun x=>[.int .i64 (t.cor ((x + 1) % 3)).x,.int .i64 (t.cor ((x + 1) % 3)).y,.int .i64 (t.cor ((x + 1) % 3)).z]) (T1:=28) (T2:=28) (d1:=18) (d2:=19) (csB:=triCells t) (tB:=59) rfl en_138 (sides_stops 3 (by omega) g10 0 t _ (m.b 0 rfl)) (fun pre=>[bI g10 (triCells t) 59,bI g9 [.int .i64 (cnt3 pre)] 3,bI g8 (l3 (sgnS p t) pre) 23,bI g7 [.int .i64 0] 3,bI g6 [.int .i64 0] 3,bI g5 [.int .i64 (fstK t.normal : Int)] 3,bI g4 [.bool false] 4,bI g3 [.int .i64 t.a.x,.int .i64 t.a.y,.int .i64 t.a.z,.int .i64 t.b.x,.int .i64 t.b.y,.int .i64 t.b.z,.int .i64 t.c.x,.int .i64 t.c.y,.int .i64 t.c.z] 59,bI g2 [.int .i64 (p).x,.int .i64 (p).y,.int .i64 (p).z] 28,bI g1 [.int .i64 (p).x,.int .i64 (p).y,.int .i64 (p).z] 28]) (fun _=>[bI g4 [.bool true] 4]) (fun pre=>∀ k ∈ pre,¬ OnC (t.cor k) (t.cor ((k + 1) % 3)) p) (fun pre=>∃ k ∈ pre,OnC (t.cor k) (t.cor ((k + 1) % 3)) p) (fun _ i hi=>by simp only [List.mem_cons,List.not_mem_nil,or_false] at hi; rcases hi with rfl | rfl | rfl | rfl | rfl | rfl | rfl | rfl | rfl | rfl <;> exact ⟨_,_,_,rfl⟩) (fun _ i hi=>by simp only [List.mem_cons,List.not_mem_nil,or_false] at hi; subst hi ; exact ⟨_,_,_,rfl⟩) (fun _=>rfl) (fun _=>List.mem_of_getElem? (i:=0) rfl) m (fun k hk=>by cases hk) ?_ ?_ ?_ ?_
   ·
    intro r pre x W K m hK
    simp only [zF,zG]
    refine ic_seq fun K16 k16=>iwp_region_lit (Rmalloc m zero_28 rfl ?_)
    clear m; intro g11 u m
    simp only [ev,zD,zE,zF,zG]
    refine RmstoreA m 0 rfl rfl rfl cells_28 (leT rfl) rfl ?_
    clear m; intro u m; simp only [over,zH,zI,zJ,zK,zL,zM,zN,zO,zP,zF,zG,Nat.reduceAdd] at m
    refine n_nil (k16 _ _ ?_)
    refine iwp_region_lit (Rmalloc m zero_28 rfl ?_)
    clear m; intro g12 u m
    simp only [ev,zD,zE,zF,zG]
    refine RmstoreA m 0 rfl rfl rfl cells_28 (leT rfl) rfl ?_
    clear m; intro u m; simp only [over,zH,zI,zJ,zK,zL,zM,zN,zO,zP,zF,zG,Nat.reduceAdd] at m
    refine n_nil ?_
    exact hK _ _ _ m
   ·
    intro r pre x g11 g12 W Q' _ hJ hN m hn hr
    rcases pre with _ | ⟨a,_ | ⟨b,_ | ⟨c,l⟩⟩⟩
    ·
     simp only [cnt3,l3] at m
     simp only [zF,zG]
     refine iwp_block (ic_seq fun K17 k17=>iwp_block (ic_seq fun K18 k18=>iwp_region_lit (n_load rfl ((m.b 6 rfl).lies1 agg_3 rfl) ?_)))
     simp only [ev,zD,zE,zF,zG]
     refine n_val (r_neqF (m:=0) (n:=0) rfl rfl (by decide)) (n_val (r_move) (n_want rfl ?_))
     simp only [ev,zD,zE,zF,zG]
     refine n_load rfl ((m.b 5 rfl).lies1 agg_3 rfl) ?_
     simp only [ev,zD,zE,zF,zG]
     refine n_want rfl (n_val (r_neqF (m:=0) (n:=0) rfl rfl (by decide)) (n_val (r_pickF rfl) (n_val (r_assign) (n_nil (k18 _ _ ?_)))))
     refine ic_no rfl (ic_seq fun K19 k19=>iwp_region_lit ?_)
     simp only [ev,zD,zE,zF,zG]
     refine n_load rfl ((m.b 11 rfl).full agg_28 cells_28) ?_
     simp only [ev,zD,zE,zF,zG]
     refine n_load rfl ((m.b 10 rfl).full agg_28 cells_28) ?_
     simp only [ev,zD,zE,zF,zG]
     refine n_load rfl ((m.b 1 rfl).full agg_28 cells_28) ?_
     simp only [ev,zD,zE,zF,zG]
     refine n_load rfl ((m.b 0 rfl).full agg_28 cells_28) ?_
     simp only [ev,zD,zE,zF,zG]
     refine RmcallP m rfl rfl (crossP_c (p:=p) (q:=t.cor x) (r:=t.cor ((x + 1) % 3))) ?_
     clear m; intro u m
     refine n_val (r_assign) (n_nil (k19 _ _ ?_))
     simp only [ev,zD,zE,zF,zG]
     refine ic_if rfl (fun hc4=>?_) (fun hc4=>?_)
     ·
      refine ic_seq fun K20 k20=>iwp_region_lit (Rmstore1 m 8 rfl rfl rfl cells_4 (leT rfl) ⟨rfl,rfl⟩ ?_)
      clear m; intro u m; simp only [over,zH,zI,zJ,zK,zL,zM,zN,zO,zP,zF,zG,Nat.reduceAdd] at m
      refine n_nil (k20 _ _ ?_)
      refine iwp_ret ?_
      exact hr _ _ ⟨m.toMem.sel [false,false,false,false,false,false,false,false,true],m.rx⟩ ⟨x,by simp,hc4⟩
     ·
      refine Rmq_tail m 9 follows_mixed (by kernel_rfl) ?_
      simp only [zH,zI,zJ,zK]
      refine Rql rfl (fun u m=>((m.b 3 rfl).lies1 agg_3 rfl)) ?_
      simp only [ev,zD,zE,zF,zG]
      refine Rql rfl (fun u m=>((m.b 1 rfl).full agg_28 cells_28)) ?_
      simp only [ev,zD,zE,zF,zG]
      refine Rql rfl (fun u m=>((m.b 0 rfl).full agg_28 cells_28)) ?_
      simp only [ev,zD,zE,zF,zG]
      refine Rql rfl (fun u m=>((m.b 1 rfl).full agg_28 cells_28)) ?_
      simp only [ev,zD,zE,zF,zG]
      refine Rql rfl (fun u m=>((m.b 11 rfl).full agg_28 cells_28)) ?_
      simp only [ev,zD,zE,zF,zG]
      refine RqcP rfl rfl (signs_c (a:=t.cor x) (b:=t.cor ((x + 1) % 3)) (c:=t.cor x) (d:=p)) ?_
      simp only [ev,zD,zE,zF,zG]
      refine Rql rfl (fun u m=>((m.b 7 rfl).lies1 agg_3 rfl)) ?_
      simp only [ev,zD,zE,zF,zG]
      refine q_val ((index_sg (v:=sideS p t x) (fstK_lt _) rfl rfl)) (q_val (r_indexAddrA Tryz.underlying23 cells_3 rfl rfl (by decide) (by decide) rfl) (q_nil ?_))
      clear m; intro u m
      simp only [ev,zD,zE,zF,zG]
      refine Rmstore1 m 4 rfl rfl rfl cells_3 (leT rfl) ⟨rfl,rfl⟩ ?_
      clear m; intro u m; simp only [over,zH,zI,zJ,zK,zL,zM,zN,zO,zP,zF,zG,Nat.reduceAdd] at m
      refine n_nil (k17 _ _ ?_)
      refine iwp_region_lit (n_load rfl ((m.b 3 rfl).lies1 agg_3 rfl) ?_)
      simp only [ev,zD,zE,zF,zG]
      refine n_val (r_add (m:=0) (n:=1) (r:=1) rfl rfl (by decide)) ?_
      simp only [ev,zD,zE,zF,zG]
      refine Rmstore1 m 3 rfl rfl rfl cells_3 (leT rfl) ⟨rfl,rfl⟩ ?_
      clear m; intro u m; simp only [over,zH,zI,zJ,zK,zL,zM,zN,zO,zP,zF,zG,Nat.reduceAdd] at m
      refine n_nil ?_
      exact hn _ _ ⟨m.toMem.sel [false,false,true,true,true,true,true,true,true,true,true,true],m.rx⟩ (fun k hk=>by
       rcases List.mem_append.1 hk with hk | hk
       · exact hJ k hk
       · rw [List.mem_singleton.1 hk]; exact hc4)
    ·
     simp only [cnt3,l3] at m
     simp only [zF,zG]
     refine iwp_block (ic_seq fun K21 k21=>iwp_block (ic_seq fun K22 k22=>iwp_region_lit (n_load rfl ((m.b 6 rfl).lies1 agg_3 rfl) ?_)))
     simp only [ev,zD,zE,zF,zG]
     refine n_val (r_neqF (m:=0) (n:=0) rfl rfl (by decide)) (n_val (r_move) (n_want rfl ?_))
     simp only [ev,zD,zE,zF,zG]
     refine n_load rfl ((m.b 5 rfl).lies1 agg_3 rfl) ?_
     simp only [ev,zD,zE,zF,zG]
     refine n_want rfl (n_val (r_neqF (m:=0) (n:=0) rfl rfl (by decide)) (n_val (r_pickF rfl) (n_val (r_assign) (n_nil (k22 _ _ ?_)))))
     refine ic_no rfl (ic_seq fun K23 k23=>iwp_region_lit ?_)
     simp only [ev,zD,zE,zF,zG]
     refine n_load rfl ((m.b 11 rfl).full agg_28 cells_28) ?_
     simp only [ev,zD,zE,zF,zG]
     refine n_load rfl ((m.b 10 rfl).full agg_28 cells_28) ?_
     simp only [ev,zD,zE,zF,zG]
     refine n_load rfl ((m.b 1 rfl).full agg_28 cells_28) ?_
     simp only [ev,zD,zE,zF,zG]
     refine n_load rfl ((m.b 0 rfl).full agg_28 cells_28) ?_
     simp only [ev,zD,zE,zF,zG]
     refine RmcallP m rfl rfl (crossP_c (p:=p) (q:=t.cor x) (r:=t.cor ((x + 1) % 3))) ?_
     clear m; intro u m
     refine n_val (r_assign) (n_nil (k23 _ _ ?_))
     simp only [ev,zD,zE,zF,zG]
     refine ic_if rfl (fun hc4=>?_) (fun hc4=>?_)
     ·
      refine ic_seq fun K24 k24=>iwp_region_lit (Rmstore1 m 8 rfl rfl rfl cells_4 (leT rfl) ⟨rfl,rfl⟩ ?_)
      clear m; intro u m; simp only [over,zH,zI,zJ,zK,zL,zM,zN,zO,zP,zF,zG,Nat.reduceAdd] at m
      refine n_nil (k24 _ _ ?_)
      refine iwp_ret ?_
      exact hr _ _ ⟨m.toMem.sel [false,false,false,false,false,false,false,false,true],m.rx⟩ ⟨x,by simp,hc4⟩
     ·
      refine Rmq_tail m 9 follows_mixed (by kernel_rfl) ?_
      simp only [zH,zI,zJ,zK]
      refine Rql rfl (fun u m=>((m.b 3 rfl).lies1 agg_3 rfl)) ?_
      simp only [ev,zD,zE,zF,zG]
      refine Rql rfl (fun u m=>((m.b 1 rfl).full agg_28 cells_28)) ?_
      simp only [ev,zD,zE,zF,zG]
      refine Rql rfl (fun u m=>((m.b 0 rfl).full agg_28 cells_28)) ?_
      simp only [ev,zD,zE,zF,zG]
      refine Rql rfl (fun u m=>((m.b 1 rfl).full agg_28 cells_28)) ?_
      simp only [ev,zD,zE,zF,zG]
      refine Rql rfl (fun u m=>((m.b 11 rfl).full agg_28 cells_28)) ?_
      simp only [ev,zD,zE,zF,zG]
      refine RqcP rfl rfl (signs_c (a:=t.cor x) (b:=t.cor ((x + 1) % 3)) (c:=t.cor x) (d:=p)) ?_
      simp only [ev,zD,zE,zF,zG]
      refine Rql rfl (fun u m=>((m.b 7 rfl).lies1 agg_3 rfl)) ?_
      simp only [ev,zD,zE,zF,zG]
      refine q_val ((index_sg (v:=sideS p t x) (fstK_lt _) rfl rfl)) (q_val (r_indexAddrA Tryz.underlying23 cells_3 rfl rfl (by decide) (by decide) rfl) (q_nil ?_))
      clear m; intro u m
      simp only [ev,zD,zE,zF,zG]
      refine Rmstore1 m 4 rfl rfl rfl cells_3 (leT rfl) ⟨rfl,rfl⟩ ?_
      clear m; intro u m; simp only [over,zH,zI,zJ,zK,zL,zM,zN,zO,zP,zF,zG,Nat.reduceAdd] at m
      refine n_nil (k21 _ _ ?_)
      refine iwp_region_lit (n_load rfl ((m.b 3 rfl).lies1 agg_3 rfl) ?_)
      simp only [ev,zD,zE,zF,zG]
      refine n_val (r_add (m:=1) (n:=1) (r:=2) rfl rfl (by decide)) ?_
      simp only [ev,zD,zE,zF,zG]
      refine Rmstore1 m 3 rfl rfl rfl cells_3 (leT rfl) ⟨rfl,rfl⟩ ?_
      clear m; intro u m; simp only [over,zH,zI,zJ,zK,zL,zM,zN,zO,zP,zF,zG,Nat.reduceAdd] at m
      refine n_nil ?_
      exact hn _ _ ⟨m.toMem.sel [false,false,true,true,true,true,true,true,true,true,true,true],m.rx⟩ (fun k hk=>by
       rcases List.mem_append.1 hk with hk | hk
       · exact hJ k hk
       · rw [List.mem_singleton.1 hk]; exact hc4)
    ·
     simp only [cnt3,l3] at m
     simp only [zF,zG]
     refine iwp_block (ic_seq fun K25 k25=>iwp_block (ic_seq fun K26 k26=>iwp_region_lit (n_load rfl ((m.b 6 rfl).lies1 agg_3 rfl) ?_)))
     simp only [ev,zD,zE,zF,zG]
     refine n_val (r_neqF (m:=0) (n:=0) rfl rfl (by decide)) (n_val (r_move) (n_want rfl ?_))
     simp only [ev,zD,zE,zF,zG]
     refine n_load rfl ((m.b 5 rfl).lies1 agg_3 rfl) ?_
     simp only [ev,zD,zE,zF,zG]
     refine n_want rfl (n_val (r_neqF (m:=0) (n:=0) rfl rfl (by decide)) (n_val (r_pickF rfl) (n_val (r_assign) (n_nil (k26 _ _ ?_)))))
     refine ic_no rfl (ic_seq fun K27 k27=>iwp_region_lit ?_)
     simp only [ev,zD,zE,zF,zG]
     refine n_load rfl ((m.b 11 rfl).full agg_28 cells_28) ?_
     simp only [ev,zD,zE,zF,zG]
     refine n_load rfl ((m.b 10 rfl).full agg_28 cells_28) ?_
     simp only [ev,zD,zE,zF,zG]
     refine n_load rfl ((m.b 1 rfl).full agg_28 cells_28) ?_
     simp only [ev,zD,zE,zF,zG]
     refine n_load rfl ((m.b 0 rfl).full agg_28 cells_28) ?_
     simp only [ev,zD,zE,zF,zG]
     refine RmcallP m rfl rfl (crossP_c (p:=p) (q:=t.cor x) (r:=t.cor ((x + 1) % 3))) ?_
     clear m; intro u m
     refine n_val (r_assign) (n_nil (k27 _ _ ?_))
     simp only [ev,zD,zE,zF,zG]
     refine ic_if rfl (fun hc4=>?_) (fun hc4=>?_)
     ·
      refine ic_seq fun K28 k28=>iwp_region_lit (Rmstore1 m 8 rfl rfl rfl cells_4 (leT rfl) ⟨rfl,rfl⟩ ?_)
      clear m; intro u m; simp only [over,zH,zI,zJ,zK,zL,zM,zN,zO,zP,zF,zG,Nat.reduceAdd] at m
      refine n_nil (k28 _ _ ?_)
      refine iwp_ret ?_
      exact hr _ _ ⟨m.toMem.sel [false,false,false,false,false,false,false,false,true],m.rx⟩ ⟨x,by simp,hc4⟩
     ·
      refine Rmq_tail m 9 follows_mixed (by kernel_rfl) ?_
      simp only [zH,zI,zJ,zK]
      refine Rql rfl (fun u m=>((m.b 3 rfl).lies1 agg_3 rfl)) ?_
      simp only [ev,zD,zE,zF,zG]
      refine Rql rfl (fun u m=>((m.b 1 rfl).full agg_28 cells_28)) ?_
      simp only [ev,zD,zE,zF,zG]
      refine Rql rfl (fun u m=>((m.b 0 rfl).full agg_28 cells_28)) ?_
      simp only [ev,zD,zE,zF,zG]
      refine Rql rfl (fun u m=>((m.b 1 rfl).full agg_28 cells_28)) ?_
      simp only [ev,zD,zE,zF,zG]
      refine Rql rfl (fun u m=>((m.b 11 rfl).full agg_28 cells_28)) ?_
      simp only [ev,zD,zE,zF,zG]
      refine RqcP rfl rfl (signs_c (a:=t.cor x) (b:=t.cor ((x + 1) % 3)) (c:=t.cor x) (d:=p)) ?_
      simp only [ev,zD,zE,zF,zG]
      refine Rql rfl (fun u m=>((m.b 7 rfl).lies1 agg_3 rfl)) ?_
      simp only [ev,zD,zE,zF,zG]
      refine q_val ((index_sg (v:=sideS p t x) (fstK_lt _) rfl rfl)) (q_val (r_indexAddrA Tryz.underlying23 cells_3 rfl rfl (by decide) (by decide) rfl) (q_nil ?_))
      clear m; intro u m
      simp only [ev,zD,zE,zF,zG]
      refine Rmstore1 m 4 rfl rfl rfl cells_3 (leT rfl) ⟨rfl,rfl⟩ ?_
      clear m; intro u m; simp only [over,zH,zI,zJ,zK,zL,zM,zN,zO,zP,zF,zG,Nat.reduceAdd] at m
      refine n_nil (k25 _ _ ?_)
      refine iwp_region_lit (n_load rfl ((m.b 3 rfl).lies1 agg_3 rfl) ?_)
      simp only [ev,zD,zE,zF,zG]
      refine n_val (r_add (m:=2) (n:=1) (r:=3) rfl rfl (by decide)) ?_
      simp only [ev,zD,zE,zF,zG]
      refine Rmstore1 m 3 rfl rfl rfl cells_3 (leT rfl) ⟨rfl,rfl⟩ ?_
      clear m; intro u m; simp only [over,zH,zI,zJ,zK,zL,zM,zN,zO,zP,zF,zG,Nat.reduceAdd] at m
      refine n_nil ?_
      exact hn _ _ ⟨m.toMem.sel [false,false,true,true,true,true,true,true,true,true,true,true],m.rx⟩ (fun k hk=>by
       rcases List.mem_append.1 hk with hk | hk
       · exact hJ k hk
       · rw [List.mem_singleton.1 hk]; exact hc4)
    · exact absurd hN (by simp)
   rotate_left
   ·
    rintro D pre u hS ⟨k,hk,ho⟩ m
    try simp only [Exit.inBlock,Exit.then]
    refine finM (Def.mk (m.get 0 rfl)) ?_
    replace m:=m.putD (o':=.deferred none) 0 rfl
    refine fin1 rfl ⟨_,rfl,(m.b 1 rfl).lies1 agg_4 rfl⟩ ?_
    exact ⟨_,rfl,m.ext,by rw [← tch_on hf h0.1 (hS k hk) ho]⟩
   rintro D xs u rfl hj m
   simp only [cnt3,l3] at m
   refine k14 _ _ ?_
   refine c_seq fun K29 k29=>wp_region_lit (n_load rfl ((m.b 3 rfl).full agg_23 cells_23) ?_)
   simp only [ev,zD,zE,zF,zG]
   refine mcallP m rfl rfl (agree_c (a:=sgnS p t 0) (b:=sgnS p t 1) (c:=sgnS p t 2)) ?_
   clear m; intro u m
   simp only [ev,zD,zE,zF,zG]
   refine mstore1 m 7 rfl rfl rfl cells_4 (leT rfl) ⟨rfl,rfl⟩ ?_
   clear m; intro u m; simp only [over,zH,zI,zJ,zK,zL,zM,zN,zO,zP,zF,zG,Nat.reduceAdd] at m
   refine n_nil (k29 _ _ ?_)
   refine wp_ret ?_
   try simp only [Exit.inBlock,Exit.then,if_true]
   refine finM (Def.mk (m.get 0 rfl)) ?_
   replace m:=m.putD (o':=.deferred none) 0 rfl; simp only [zF,zG] at m
   refine fin1 rfl ⟨_,rfl,((m.b 7 rfl).lies1 agg_4 rfl)⟩ ?_
   try simp only [zD,zE]
   exact ⟨_,rfl,m.ext,by simp only [ev,zD,zE]; rw [← tch_end hf h0.1 hj]⟩
  ·
   rw [show isign (((t.b.sub t.a).cross (t.c.sub t.a)).dot (p.sub t.a)) = 1 from h0.2] at m
   refine wp_region_lit (n_load rfl ((m.b 1 rfl).lies1 agg_3 rfl) ?_)
   simp only [ev,zD,zE,zF,zG]
   refine n_load rfl ((m.b 0 rfl).lies1 agg_3 rfl) ?_
   simp only [ev,zD,zE,zF,zG]
   refine n_val (r_mul rfl rfl (wrap_i64 (by omega) (by omega))) ?_
   simp only [ev,zD,zE,zF,zG]
   refine n_val (r_gtrT rfl rfl (by omega)) (n_nil (k11 _ _ ?_))
   refine c_yes rfl (c_seq fun K30 k30=>wp_region_lit ?_)
   simp only [ev,zD,zE,zF,zG]
   refine mstore1 m 3 rfl rfl rfl cells_4 (leT rfl) ⟨rfl,rfl⟩ ?_
   clear m; intro u m; simp only [over,zH,zI,zJ,zK,zL,zM,zN,zO,zP,zF,zG,Nat.reduceAdd] at m
   refine n_nil (k30 _ _ ?_)
   refine wp_ret ?_
   try simp only [Exit.inBlock,Exit.then,if_true]
   refine finM0 ?_
   refine fin1 rfl ⟨_,rfl,((m.b 3 rfl).lies1 agg_4 rfl)⟩ ?_
   try simp only [zD,zE]
   exact ⟨_,rfl,m.ext,by simp only [ev,zD,zE]; rw [← tch_off hf h0.1]⟩
  ·
   rw [show isign (((t.b.sub t.a).cross (t.c.sub t.a)).dot (p.sub t.a)) = -1 from h0.2] at m
   refine wp_region_lit (n_load rfl ((m.b 1 rfl).lies1 agg_3 rfl) ?_)
   simp only [ev,zD,zE,zF,zG]
   refine n_load rfl ((m.b 0 rfl).lies1 agg_3 rfl) ?_
   simp only [ev,zD,zE,zF,zG]
   refine n_val (r_mul rfl rfl (wrap_i64 (by omega) (by omega))) ?_
   simp only [ev,zD,zE,zF,zG]
   refine n_val (r_gtrT rfl rfl (by omega)) (n_nil (k11 _ _ ?_))
   refine c_yes rfl (c_seq fun K31 k31=>wp_region_lit ?_)
   simp only [ev,zD,zE,zF,zG]
   refine mstore1 m 3 rfl rfl rfl cells_4 (leT rfl) ⟨rfl,rfl⟩ ?_
   clear m; intro u m; simp only [over,zH,zI,zJ,zK,zL,zM,zN,zO,zP,zF,zG,Nat.reduceAdd] at m
   refine n_nil (k31 _ _ ?_)
   refine wp_ret ?_
   try simp only [Exit.inBlock,Exit.then,if_true]
   refine finM0 ?_
   refine fin1 rfl ⟨_,rfl,((m.b 3 rfl).lies1 agg_4 rfl)⟩ ?_
   try simp only [zD,zE]
   exact ⟨_,rfl,m.ext,by simp only [ev,zD,zE]; rw [← tch_off hf h0.1]⟩
end Go.Proofs.YtmcgcnpgkkfkoaaGreatDoor
namespace Go.Lith
open Go.RowKit
section
variable {α : Type} {enc : α → List Value} {c : Nat} {w w' : World} {A : Option Addr} {n : Nat} {xs : List α}
structure LAt (enc : α → List Value) (c : Nat) (w : World) (A : Option Addr) (n : Nat) (xs : List α) : Prop where
  len : xs.length = n
  row : ∀ i x,xs[i]? = some x → ∃ a,A = some a ∧ Row w (a.add (i * c)) (enc x)
theorem LAt.ext (h : LAt enc c w A n xs) (hE : Ext w w') : LAt enc c w' A n xs:=⟨h.len,fun i x hi=>let ⟨a,e,hr⟩:=h.row i x hi; ⟨a,e,hr.ext hE⟩⟩
theorem LAt.nil (w : World) (A : Option Addr) : LAt enc c w A 0 []:=⟨rfl,fun i x h=>by cases h⟩
theorem LAt.get (h : LAt enc c w A n xs) {i : Nat} (hi : i < n) : ∃ x,xs[i]? = some x ∧ ∃ a,A = some a ∧ Row w (a.add (i * c)) (enc x):=by
  have hl : i < xs.length:=by rw [h.len]; exact hi
  exact ⟨xs[i],List.getElem?_eq_getElem hl,h.row i _ (List.getElem?_eq_getElem hl)⟩
theorem LAt.at {a : Addr} (h : LAt enc c w (some a) n xs) {i : Nat} {x : α} (hx : xs[i]? = some x) : Row w (a.add (i * c)) (enc x):=by
  obtain ⟨b,e,hr⟩:=h.row i x hx
  cases e
  exact hr
theorem LAt.take (h : LAt enc c w A n xs) {k : Nat} (hk : k ≤ n) : LAt enc c w A k (xs.take k) :=
  ⟨by rw [List.length_take,h.len]; omega,fun i x hx=>h.row i x (by rw [List.getElem?_take] at hx; split at hx; exact hx; cases hx)⟩
theorem flatE_len (hc : ∀ x,(enc x).length = c) : ∀ xs : List α,(xs.flatMap enc).length = xs.length * c
  | []=>by simp
  | x :: xs=>by rw [List.flatMap_cons,List.length_append,hc,flatE_len hc xs,List.length_cons,Nat.add_mul,Nat.one_mul,Nat.add_comm]
theorem flatE_drop (hc : ∀ x,(enc x).length = c) : ∀ (xs : List α) (k : Nat),(xs.drop k).flatMap enc = (xs.flatMap enc).drop (k * c)
  | xs,0=>by simp
  | [],k + 1=>by simp
  | x :: xs,k + 1=>by
    rw [List.drop_succ_cons,List.flatMap_cons,flatE_drop hc xs k,List.drop_append,hc,List.drop_of_length_le (l:=enc x) (by rw [hc,Nat.add_mul]; omega),Nat.add_mul,Nat.one_mul,Nat.add_sub_cancel,List.nil_append]
theorem flatE_at (hc : ∀ x,(enc x).length = c) {xs : List α} {i : Nat} {x : α} (h : xs[i]? = some x) : (xs.flatMap enc).drop (i * c) = enc x ++ (xs.drop (i + 1)).flatMap enc:=by
  rw [← flatE_drop hc,List.drop_eq_getElem_cons (List.getElem?_eq_some_iff.1 h).1,List.flatMap_cons,(List.getElem?_eq_some_iff.1 h).2]
theorem Ow.at {w0 : World} {S : List (Option Nat)} {E : TypeId} {cap g i : Nat} {x : α} (hc : ∀ x,(enc x).length = c) (h : Ow w0 w S E c (Option.some ⟨g,0,none⟩) n cap (xs.flatMap enc)) (hx : xs[i]? = Option.some x) : Row w ((⟨g,0,none⟩ : Addr).add (i * c)) (enc x):=by
  intro j u hj
  have hj' : j < (enc x).length:=(List.getElem?_eq_some_iff.1 hj).1
  rw [addr_add_add]
  refine h.rows _ _ ?_
  rw [← List.getElem?_drop,flatE_at hc hx,List.getElem?_append_left hj']
  exact hj
theorem Ow.num {w0 : World} {S : List (Option Nat)} {E : TypeId} {cap : Nat} (hc : ∀ x,(enc x).length = c) (h0 : 0 < c) (h : Ow w0 w S E c A n cap (xs.flatMap enc)) : xs.length = n:=by
  have:=h.own.1
  rw [flatE_len hc] at this
  exact Nat.eq_of_mul_eq_mul_right h0 this
theorem LAt.cells (hc : ∀ x,(enc x).length = c) (h0 : 0 < c) (h : LAt enc c w A n xs) : ∀ j u,(xs.flatMap enc)[j]? = some u → ∃ a,A = some a ∧ w.cell? (a.add j) = some u:=fun j u hj=>by
  have hj':=(List.getElem?_eq_some_iff.1 hj).1
  rw [flatE_len hc] at hj'
  have hi : j / c < xs.length:=(Nat.div_lt_iff_lt_mul h0).2 hj'
  obtain ⟨a,rfl,hr⟩:=h.row (j / c) _ (List.getElem?_eq_getElem hi)
  refine ⟨a,rfl,?_⟩
  have hm:=Nat.mod_lt j h0
  have e : j = j / c * c + j % c:=by rw [Nat.mul_comm]; exact (Nat.div_add_mod j c).symm
  have:=hr (j % c) u (by
    rw [e,← List.getElem?_drop,flatE_at hc (List.getElem?_eq_getElem hi),List.getElem?_append_left (by rw [hc]; exact hm)] at hj
    exact hj)
  rw [addr_add_add,← e] at this
  exact this
end
theorem take_snoc {α : Type} {ps : List α} {k : Nat} {p : α} (h : ps[k]? = some p) : ps.take (k + 1) = ps.take k ++ [p]:=by
  rw [List.take_add_one,h]
  rfl
end Go.Lith
namespace Go.Lith
open Go.RowKit
/-! ### Points put into a sorted list -/
section
variable {α : Type} {p : α → Bool} {l : List α} {k : Nat}
def Pre (p : α → Bool) (l : List α) (k : Nat) : Prop:=∀ j x,j < k → l[j]? = some x → p x = true
theorem Pre.zero : Pre p l 0:=fun j _ hj=>by omega
end
/-! ### The border -/
/-! ### Pinched corners -/
theorem any_take {α : Type} {p : α → Bool} {l : List α} {k : Nat} {x : α} (hx : l[k]? = some x) : (l.take (k + 1)).any p = ((l.take k).any p || p x):=by
  rw [take_snoc hx,List.any_append]
  simp
end Go.Lith
namespace Go.Proofs.YtmcgcnpgkkfkoaaGreatDoor
open Go.RowKit Go.Lith
set_option maxRecDepth 100000
attribute [local irreducible] wpList wpQuiet wpMix wpMixH wpTree Code.wp
theorem list_itN {bs ms : List T3} (hb : ∀ t ∈ bs,SmT 200 t) (hm : ∀ t ∈ ms,IT t) (hl : bs.length ≤ 40) : ∃ L,bs ++ ms.take 6 = L ∧ (∀ t ∈ L,IT t) ∧ L.length ≤ 46 :=
 ⟨_,rfl,fun t ht=>(List.mem_append.1 ht).elim (fun h=>(hb t h).it (by decide)) (fun h=>hm t (List.mem_of_mem_take h)),by rw [List.length_append,List.length_take]; omega⟩
theorem near_sym {p q : P3} : (q.sub p).dot (q.sub p) = (p.sub q).dot (p.sub q):=by simp only [P3.dot,P3.sub]; grind
theorem near_cor {p : P3} {L : List T3} {t : T3} {j : Nat} (h : t ∈ L) : ¬ 0 < qcmp (farq p L) (((((t.cor j).sub p).dot ((t.cor j).sub p) : Int)) : Rat):=by
 rw [qcmp_gt,near_sym]
 have:=far_le_cor (x:=p) h j
 rw [show (((p.sub (t.cor j)).dot (p.sub (t.cor j)) : Int) : Rat) = Rat.divInt ((p.sub (t.cor j)).dot (p.sub (t.cor j))) 1 from (Rat.num_divInt_den _).symm]
 exact Rat.not_lt.2 this
theorem near_any {p : P3} {L : List T3} (hn : L ≠ []) : L.any (fun t=>decide (Tch p t)) = decide (isign (farq p L).num = 0):=by
 apply Bool.eq_iff_iff.2
 rw [List.any_eq_true,decide_eq_true_eq,isign_zero_iff,Rat.num_eq_zero,far_0 hn]
 constructor
 ·
  rintro ⟨t,ht,h⟩
  exact ⟨t,ht,tch_iff.1 (of_decide_eq_true h)⟩
 ·
  rintro ⟨t,ht,h⟩
  exact ⟨t,ht,decide_eq_true (tch_iff.2 h)⟩
theorem bq_dist {p q : P3} [I3 p] [I3 q] : Bq 400000 (((p.sub q).dot (p.sub q) : Int) : Rat):=⟨(inferInstance : Bw 132 ((p.sub q).dot (p.sub q))).h.mono (by decide),bd_11.mono (by decide)⟩
theorem MeasureNear_c {kind bits q0 q1 q2 : Int} [Iw kind] [Iw bits] [Iw q0] [Iw q1] [Iw q2] {HA MA : Option Addr} {HN Hc MN Mc : Nat} {zs : List Int} {ms : List T3} {p : P3} [I3 p] (w : World) (hZ : IntsAt w HA HN zs) (hM : TrisAt w MA MN ms) (hMc : MN ≤ Mc) : Does Tryz.prog 6 [.agg #[.int .i64 kind,.int .i64 bits,.slice HA HN Hc,.int .i64 q0,.int .i64 q1,.int .i64 q2,.slice MA MN Mc],pt p] w (fun v _=>v = .bool true):=by
 refine ⟨en_6,?_⟩
 have m:=Mem.refl w
 go_enter Tryz.func6,Tryz.ntmps6
 refine c_seq fun K1 k1=>wp_region_lit (mboxA m rfl ?_)
 clear m; intro g1 u m
 simp only [ev,zD,zE,zF,zG]
 refine mboxA m rfl ?_
 clear m; intro g2 u m
 refine n_val (r_assign) (n_nil (k1 _ _ ?_))
 refine c_seq fun K2 k2=>wp_region_lit ?_
 simp only [ev,zD,zE,zF,zG]
 refine mcallP m rfl rfl (sanity_c) ?_
 clear m; intro u m
 refine n_val (r_assign) (n_nil (k2 _ _ ?_))
 refine c_seq fun K3 k3=>wp_region_lit ?_
 simp only [ev,zD,zE,zF,zG]
 refine n_load rfl ((m.b 1 rfl).full agg_26 cells_26) ?_
 simp only [ev,zD,zE,zF,zG]
 refine n_call rfl rfl (list_c (kind:=kind) (bits:=bits) (q0:=q0) (q1:=q1) (q2:=q2) _ (hZ.ext m.ext) (hM.ext m.ext) hMc) ?_
 rintro v u e ⟨bs,⟨A1,cap1,_,rfl,rfl,hN⟩,hbl,hbs⟩; replace m:=m.newO e hN; clear e hN
 obtain ⟨L,hL,hI,hl⟩:=list_itN hbs (ms:=ms) hM.it hbl
 rw [hL] at m ⊢
 clear hL hbs hbl
 refine n_val (r_assign) (n_nil (k3 _ _ ?_))
 refine c_seq fun K4 k4=>wp_region_lit ?_
 simp only [ev,zD,zE,zF,zG]
 refine n_load rfl ((m.b 1 rfl).full agg_28 cells_28) ?_
 simp only [ev,zD,zE,zF,zG]
 refine n_val (r_move) ?_
 simp only [ev,zD,zE,zF,zG]
 refine mcall m rfl rfl (Far2_c (x:=p) _ ((m.o 0 rfl).tris hI) (by omega)) ?_
 clear m; rintro v u m rfl
 refine n_val (r_move) (n_val (r_extract rfl rfl) (n_val (r_extract rfl rfl) ?_))
 simp only [ev,zD,zE,zF,zG]
 refine malloc m zero_34 rfl ?_
 clear m; intro g3 u m
 simp only [ev,zD,zE,zF,zG]
 refine mstoreA m 0 rfl rfl rfl cells_34 (leT rfl) rfl ?_
 clear m; intro u m; simp only [over,zH,zI,zJ,zK,zL,zM,zN,zO,zP,zF,zG,Nat.reduceAdd] at m
 refine n_val (r_assign) (n_nil (k4 _ _ ?_))
 refine c_seq fun K5 k5=>c_seq fun K6 k6=>?_
 simp only [ev,zD,zE,zF,zG]
 have hbf:=farq_bq (x:=p) hI
 haveI : Iw (1 : Int):=⟨⟨by decide,by decide⟩⟩
 refine wp_region_lit (n_val (r_move) (n_val (r_not rfl) (n_nil (k6 _ _ ?_))))
 simp only [ev,zD,zE,zF,zG]
 refine c_cond rfl (fun hc1=>?_) (fun hc1=>?_)
 ·
  have hl0 : (L.length : Int) = 0:=by rw [Bool.not_eq_true',decide_eq_false_iff_not] at hc1; omega
  refine c_seq fun K7 k7=>wp_region_lit (n_val (r_move) (n_val (r_move) (n_want rfl (n_val (r_move) (n_want rfl (n_val (r_lenS rfl Tryz.underlying24 rfl) ?_))))))
  simp only [ev,zD,zE,zF,zG]
  refine n_want rfl (n_val (r_eqlT rfl rfl (by omega)) (n_val (r_pickT rfl) (n_val (r_assign) (n_nil (k7 _ _ ?_)))))
  refine wp_ret ?_
  simp only [ev,zD,zE,zF,zG]
  try simp only [Exit.inBlock,Exit.then,if_true]
  refine fin1 rfl rfl ?_
  try simp only [zD,zE]
  exact ⟨_,rfl,m.ext,rfl⟩
 ·
  have hne : L ≠ []:=by rintro rfl; simp at hc1
  refine wp_skip (k5 _ _ ?_)
  refine c_seq fun K8 k8=>wp_region_lit (n_val (r_assign) (n_nil (k8 _ _ ?_)))
  refine c_seq fun K9 k9=>c_seq fun K10 k10=>wp_region_lit (n_val (r_assign) (n_nil (k10 _ _ ?_)))
  refine wp_block ?_
  simp only [ev,zD,zE,zF,zG]
  try simp only [Nat.zero_add,Nat.reduceAdd,Nat.reduceMul,Int.reduceToNat]
  refine c_loopg [9,10] [4,11,12,13,14,15,33,34,35,36,37,38,39,40,41,42,43,44,45,46,47,48,49,50,51,52,53,54,55,56,57,58,59,60,61,62,63,64,65,66,67,68,69,70,71,72,73,74,75,76,77,78,79,80,81,82,83,84] (fun n vs wl=>∃ (k : Nat),vs = [.bool ((L.take k).any (fun t=>decide (Tch p t))),.int .i64 (k:Int)] ∧ Mem w wl [bI g3 [.bool (wneg (farq p L).num),.string (wmag (farq p L).num),.bool (wneg ((farq p L).den : Int)),.string (wmag ((farq p L).den : Int))] 34,oI 59 9 A1 L.length cap1 (L.flatMap triCells),bI g2 [.int .i64 p.x,.int .i64 p.y,.int .i64 p.z] 28,bI g1 [.int .i64 kind,.int .i64 bits,.slice HA HN Hc,.int .i64 q0,.int .i64 q1,.int .i64 q2,.slice MA MN Mc] 26] ∧ (k ≤ L.length) ∧ (n = L.length - k)) ?_ ?_
  ·
   apply Exists.intro
   simp only [zQ,zR,zD,zE]
   exact ⟨0,rfl,m,Nat.zero_le _,rfl⟩
  ·
   intro n vs wr hI u
   clear m
   obtain ⟨k,rfl,m,hk,hn⟩:=hI
   simp only [setG_cons,setG_nil,setMany_cons,setMany_nil,zF,zG]
   refine c_seq fun K11 k11=>c_seq fun K12 k12=>wp_region_lit (n_val (r_move) (n_val (r_move) (n_val (r_lenS rfl Tryz.underlying24 rfl) (n_val (r_lss rfl rfl) ?_))))
   simp only [ev,zD,zE,zF,zG]
   refine n_nil (k12 _ _ ?_)
   refine c_if rfl (fun hc2=>?_) (fun hc2=>?_)
   ·
    obtain ⟨t,ht⟩:=get_lt (ts:=L) (k:=k) (by omega)
    obtain ⟨gO,rfl⟩:=(m.o 1 rfl).some (by omega)
    have hmem:=List.mem_of_getElem? ht
    haveI:=hI t hmem
    refine wp_skip (k11 _ _ ?_)
    refine c_seq fun K13 k13=>wp_block (c_seq fun K14 k14=>mq m follows_mixed (by kernel_rfl) (ql rfl (fun u m=>((m.b 2 rfl).full agg_28 cells_28)) ?_))
    simp only [ev,zD,zE,zF,zG]
    refine ql rfl (fun u m=>((m.b 2 rfl).full agg_28 cells_28)) ?_
    simp only [ev,zD,zE,zF,zG]
    refine q_val (r_move) (q_val (r_move) ?_)
    simp only [ev,zD,zE,zF,zG]
    refine q_val (r_indexAddrS Tryz.underlying24 cells_59 rfl rfl (by omega) (by omega) (addrN (Int.toNat_natCast _))) ?_
    simp only [ev,zD,zE,zF,zG]
    refine ql rfl (fun u m=>(((m.o 1 rfl).tri ht).lies agg_59 cells_59)) ?_
    simp only [ev,zD,zE,zF,zG]
    refine qcP rfl rfl (Touch_c (p:=p) (t:=t)) (q_val (r_assign) (q_nil ?_))
    clear m; intro u m
    refine k14 _ _ ?_
    refine c_seq fun K15 k15=>wp_region_lit (n_val (r_move) (n_val (r_move) ?_))
    simp only [ev,zD,zE,zF,zG]
    refine n_mayF rfl (fun hb=>r_move) (n_val (r_pickOr rfl rfl rfl) (n_val (r_assign) (n_nil (k15 _ _ ?_))))
    refine c_seq fun K16 k16=>wp_region_lit (n_val (r_assign) ?_)
    simp only [ev,zD,zE,zF,zG]
    refine n_nil (k16 _ _ ?_)
    refine wp_block (wp_loop_rounds 4 (rounds_step (c_seq fun K17 k17=>c_seq fun K18 k18=>wp_region_lit (n_val (r_move) (n_val (r_lssT (m:=0) (n:=3) rfl rfl (by decide)) (n_nil (k18 _ _ ?_)))))))
    refine c_yes rfl (wp_skip (k17 _ _ ?_))
    refine c_seq fun K19 k19=>wp_block (c_seq fun K20 k20=>?_)
    simp only [ev,zD,zE,zF,zG]
    refine wp_region_fresh 11 [0,1,2,3,4,5,6,7,8,9] [⟨10,13,34,[.bool false,.string ⟨#[]⟩,.bool false,.string ⟨#[]⟩]⟩] follows_mixed (by kernel_rfl) (al1 ⟨_,_,_,rfl,by kernel_rfl,_,zero_34,rfl⟩) (ol:=?_) ?hol ?_
    case hol=>simp only [zQ,zR,zS,zT,zU,zV]; try rfl
    intro u e; replace m:=m.ext' e; clear e
    refine e_load rfl (fun u e=>(((m.ext' e).b 2 rfl).full agg_28 cells_28)) ?_
    simp only [ev,zD,zE,zF,zG]
    refine e_val (r_move) (e_val (r_move) (e_val (r_move) ?_))
    simp only [ev,zD,zE,zF,zG]
    refine e_val (r_indexAddrS Tryz.underlying24 cells_59 rfl rfl (by omega) (by omega) (addrN (Int.toNat_natCast _))) (e_val (r_indexAddrA Tryz.underlying59 cells_28 rfl rfl (by decide) (by decide) rfl) ?_)
    simp only [ev,zD,zE,zF,zG]
    refine e_load rfl (fun u e=>((Row.cor (((m.ext' e).o 1 rfl).tri ht) (c:=0) (by decide)).lies agg_28 cells_28)) ?_
    simp only [ev,zD,zE,zF,zG]
    refine e_callP rfl rfl (Dist2_c (p:=p) (q:=t.cor 0)) ?_
    simp only [ev,zD,zE,zF,zG]
    refine e_callP rfl rfl (rFrom_c (n:=1) Iw.h) (e_val (r_build_34_0_1 rfl rfl) (e_nil ?_))
    simp only [ev,zD,zE,zF,zG]
    refine mf1 m ?_
    clear m; intro g4 u m
    simp only [zJ,zK,zF,zG]
    refine mstoreA m 0 rfl rfl rfl cells_34 (leT rfl) rfl ?_
    clear m; intro u m; simp only [over,zH,zI,zJ,zK,zL,zM,zN,zO,zP,zF,zG,Nat.reduceAdd] at m
    refine n_nil (k20 _ _ ?_)
    refine c_seq fun K21 k21=>wp_region_lit (n_val (r_move) (n_val (r_move) (n_val (r_move) ?_)))
    simp only [ev,zD,zE,zF,zG]
    refine n_val (r_indexAddrS Tryz.underlying24 cells_59 rfl rfl (by omega) (by omega) (addrN (Int.toNat_natCast _))) (n_val (r_indexAddrA Tryz.underlying59 cells_28 rfl rfl (by decide) (by decide) rfl) ?_)
    simp only [ev,zD,zE,zF,zG]
    refine n_load rfl ((Row.cor ((m.o 2 rfl).tri ht) (c:=0) (by decide)).lies agg_28 cells_28) ?_
    simp only [ev,zD,zE,zF,zG]
    refine n_val (r_move) ?_
    simp only [ev,zD,zE,zF,zG]
    refine mcall m rfl rfl (Far2_c (x:=t.cor 0) _ ((m.o 2 rfl).tris hI) (by omega)) ?_
    clear m; rintro v u m rfl
    simp only [ev,zD,zE,zF,zG]
    rw [far_cor hmem 0]
    refine n_val (r_move) (n_val (r_extract rfl rfl) (n_val (r_extract rfl rfl) ?_))
    simp only [ev,zD,zE,zF,zG]
    refine malloc m zero_34 rfl ?_
    clear m; intro g5 u m
    simp only [ev,zD,zE,zF,zG]
    refine mstoreA m 0 rfl rfl rfl cells_34 (leT rfl) rfl ?_
    clear m; intro u m; simp only [over,zH,zI,zJ,zK,zL,zM,zN,zO,zP,zF,zG,Nat.reduceAdd] at m
    refine n_val (r_assign) (n_nil (k21 _ _ ?_))
    refine c_seq fun K22 k22=>wp_region_lit ?_
    simp only [ev,zD,zE,zF,zG]
    refine n_load rfl ((m.b 2 rfl).full agg_34 cells_34) ?_
    simp only [ev,zD,zE,zF,zG]
    refine n_load rfl ((m.b 1 rfl).full agg_34 cells_34) ?_
    simp only [ev,zD,zE,zF,zG]
    refine mcallP m rfl rfl (CmpFrac_c (p:=farq p L) (q:=((((t.cor 0).sub p).dot ((t.cor 0).sub p) : Int) : Rat)) (hbf.mono (by decide)) bq_dist) ?_
    clear m; intro u m
    refine n_val (r_gtrF rfl rfl (near_cor (j:=0) hmem)) (n_val (r_move) (n_want rfl (n_val (r_fieldAddr (c:=1) Tryz.underlying34 rfl cells_32 rfl rfl) ?_)))
    simp only [ev,zD,zE,zF,zG]
    refine n_want rfl (n_load rfl ((m.b 0 rfl).lies agg_32 cells_32 rfl rfl) ?_)
    simp only [ev,zD,zE,zF,zG,zH,zI,zJ,zK,Nat.zero_add,Nat.reduceAdd,Nat.reduceMul,Int.reduceToNat]
    refine n_want rfl (mcallP m rfl rfl (Sign_c (a:=0) (bd_zero _)) ?_)
    clear m; intro u m
    refine n_want rfl (n_val (r_neqF rfl rfl (by decide)) (n_val (r_pickF rfl) (n_nil (k22 _ _ ?_))))
    refine c_no rfl (wp_skip (k19 _ _ ?_))
    refine wp_region_lit (n_val (r_move) ?_)
    simp only [ev,zD,zE,zF,zG]
    refine n_val (r_add (m:=0) (n:=1) (r:=1) rfl rfl (by decide)) (n_val (r_assign) (n_nil (then_rounds (c_seq fun K23 k23=>c_seq fun K24 k24=>wp_region_lit (n_val (r_move) (n_val (r_lssT (m:=1) (n:=3) rfl rfl (by decide)) ?_))))))
    simp only [ev,zD,zE,zF,zG]
    refine n_nil (k24 _ _ ?_)
    refine c_yes rfl (wp_skip (k23 _ _ ?_))
    refine c_seq fun K25 k25=>wp_block (c_seq fun K26 k26=>?_)
    refine wp_region_fresh 11 [0,1,2,3,4,5,6,7,8,9] [⟨10,13,34,[.bool false,.string ⟨#[]⟩,.bool false,.string ⟨#[]⟩]⟩] follows_mixed (by kernel_rfl) (al1 ⟨_,_,_,rfl,by kernel_rfl,_,zero_34,rfl⟩) (ol:=?_) ?hol ?_
    case hol=>simp only [zQ,zR,zS,zT,zU,zV]; try rfl
    intro u e; replace m:=m.ext' e; clear e
    refine e_load rfl (fun u e=>(((m.ext' e).b 4 rfl).full agg_28 cells_28)) ?_
    simp only [ev,zD,zE,zF,zG]
    refine e_val (r_move) (e_val (r_move) (e_val (r_move) ?_))
    simp only [ev,zD,zE,zF,zG]
    refine e_val (r_indexAddrS Tryz.underlying24 cells_59 rfl rfl (by omega) (by omega) (addrN (Int.toNat_natCast _))) (e_val (r_indexAddrA Tryz.underlying59 cells_28 rfl rfl (by decide) (by decide) rfl) ?_)
    simp only [ev,zD,zE,zF,zG]
    refine e_load rfl (fun u e=>((Row.cor (((m.ext' e).o 3 rfl).tri ht) (c:=1) (by decide)).lies agg_28 cells_28)) ?_
    simp only [ev,zD,zE,zF,zG]
    refine e_callP rfl rfl (Dist2_c (p:=p) (q:=t.cor 1)) ?_
    simp only [ev,zD,zE,zF,zG]
    refine e_callP rfl rfl (rFrom_c (n:=1) Iw.h) (e_val (r_build_34_0_1 rfl rfl) (e_nil ?_))
    simp only [ev,zD,zE,zF,zG]
    refine mf1 m ?_
    clear m; intro g6 u m
    simp only [zJ,zK,zF,zG]
    refine mstoreA m 0 rfl rfl rfl cells_34 (leT rfl) rfl ?_
    clear m; intro u m; simp only [over,zH,zI,zJ,zK,zL,zM,zN,zO,zP,zF,zG,Nat.reduceAdd] at m
    refine n_nil (k26 _ _ ?_)
    refine c_seq fun K27 k27=>wp_region_lit (n_val (r_move) (n_val (r_move) (n_val (r_move) ?_)))
    simp only [ev,zD,zE,zF,zG]
    refine n_val (r_indexAddrS Tryz.underlying24 cells_59 rfl rfl (by omega) (by omega) (addrN (Int.toNat_natCast _))) (n_val (r_indexAddrA Tryz.underlying59 cells_28 rfl rfl (by decide) (by decide) rfl) ?_)
    simp only [ev,zD,zE,zF,zG]
    refine n_load rfl ((Row.cor ((m.o 4 rfl).tri ht) (c:=1) (by decide)).lies agg_28 cells_28) ?_
    simp only [ev,zD,zE,zF,zG]
    refine n_val (r_move) ?_
    simp only [ev,zD,zE,zF,zG]
    refine mcall m rfl rfl (Far2_c (x:=t.cor 1) _ ((m.o 4 rfl).tris hI) (by omega)) ?_
    clear m; rintro v u m rfl
    simp only [ev,zD,zE,zF,zG]
    rw [far_cor hmem 1]
    refine n_val (r_move) (n_val (r_extract rfl rfl) (n_val (r_extract rfl rfl) ?_))
    simp only [ev,zD,zE,zF,zG]
    refine malloc m zero_34 rfl ?_
    clear m; intro g7 u m
    simp only [ev,zD,zE,zF,zG]
    refine mstoreA m 0 rfl rfl rfl cells_34 (leT rfl) rfl ?_
    clear m; intro u m; simp only [over,zH,zI,zJ,zK,zL,zM,zN,zO,zP,zF,zG,Nat.reduceAdd] at m
    refine n_val (r_assign) (n_nil (k27 _ _ ?_))
    refine c_seq fun K28 k28=>wp_region_lit ?_
    simp only [ev,zD,zE,zF,zG]
    refine n_load rfl ((m.b 4 rfl).full agg_34 cells_34) ?_
    simp only [ev,zD,zE,zF,zG]
    refine n_load rfl ((m.b 1 rfl).full agg_34 cells_34) ?_
    simp only [ev,zD,zE,zF,zG]
    refine mcallP m rfl rfl (CmpFrac_c (p:=farq p L) (q:=((((t.cor 1).sub p).dot ((t.cor 1).sub p) : Int) : Rat)) (hbf.mono (by decide)) bq_dist) ?_
    clear m; intro u m
    refine n_val (r_gtrF rfl rfl (near_cor (j:=1) hmem)) (n_val (r_move) (n_want rfl (n_val (r_fieldAddr (c:=1) Tryz.underlying34 rfl cells_32 rfl rfl) ?_)))
    simp only [ev,zD,zE,zF,zG]
    refine n_want rfl (n_load rfl ((m.b 0 rfl).lies agg_32 cells_32 rfl rfl) ?_)
    simp only [ev,zD,zE,zF,zG,zH,zI,zJ,zK,Nat.zero_add,Nat.reduceAdd,Nat.reduceMul,Int.reduceToNat]
    refine n_want rfl (mcallP m rfl rfl (Sign_c (a:=0) (bd_zero _)) ?_)
    clear m; intro u m
    refine n_want rfl (n_val (r_neqF rfl rfl (by decide)) (n_val (r_pickF rfl) (n_nil (k28 _ _ ?_))))
    refine c_no rfl (wp_skip (k25 _ _ ?_))
    refine wp_region_lit (n_val (r_move) ?_)
    simp only [ev,zD,zE,zF,zG]
    refine n_val (r_add (m:=1) (n:=1) (r:=2) rfl rfl (by decide)) (n_val (r_assign) (n_nil (then_rounds (c_seq fun K29 k29=>c_seq fun K30 k30=>wp_region_lit (n_val (r_move) (n_val (r_lssT (m:=2) (n:=3) rfl rfl (by decide)) ?_))))))
    simp only [ev,zD,zE,zF,zG]
    refine n_nil (k30 _ _ ?_)
    refine c_yes rfl (wp_skip (k29 _ _ ?_))
    refine c_seq fun K31 k31=>wp_block (c_seq fun K32 k32=>?_)
    refine wp_region_fresh 11 [0,1,2,3,4,5,6,7,8,9] [⟨10,13,34,[.bool false,.string ⟨#[]⟩,.bool false,.string ⟨#[]⟩]⟩] follows_mixed (by kernel_rfl) (al1 ⟨_,_,_,rfl,by kernel_rfl,_,zero_34,rfl⟩) (ol:=?_) ?hol ?_
    case hol=>simp only [zQ,zR,zS,zT,zU,zV]; try rfl
    intro u e; replace m:=m.ext' e; clear e
    refine e_load rfl (fun u e=>(((m.ext' e).b 6 rfl).full agg_28 cells_28)) ?_
    simp only [ev,zD,zE,zF,zG]
    refine e_val (r_move) (e_val (r_move) (e_val (r_move) ?_))
    simp only [ev,zD,zE,zF,zG]
    refine e_val (r_indexAddrS Tryz.underlying24 cells_59 rfl rfl (by omega) (by omega) (addrN (Int.toNat_natCast _))) (e_val (r_indexAddrA Tryz.underlying59 cells_28 rfl rfl (by decide) (by decide) rfl) ?_)
    simp only [ev,zD,zE,zF,zG]
    refine e_load rfl (fun u e=>((Row.cor (((m.ext' e).o 5 rfl).tri ht) (c:=2) (by decide)).lies agg_28 cells_28)) ?_
    simp only [ev,zD,zE,zF,zG]
    refine e_callP rfl rfl (Dist2_c (p:=p) (q:=t.cor 2)) ?_
    simp only [ev,zD,zE,zF,zG]
    refine e_callP rfl rfl (rFrom_c (n:=1) Iw.h) (e_val (r_build_34_0_1 rfl rfl) (e_nil ?_))
    simp only [ev,zD,zE,zF,zG]
    refine mf1 m ?_
    clear m; intro g8 u m
    simp only [zJ,zK,zF,zG]
    refine mstoreA m 0 rfl rfl rfl cells_34 (leT rfl) rfl ?_
    clear m; intro u m; simp only [over,zH,zI,zJ,zK,zL,zM,zN,zO,zP,zF,zG,Nat.reduceAdd] at m
    refine n_nil (k32 _ _ ?_)
    refine c_seq fun K33 k33=>wp_region_lit (n_val (r_move) (n_val (r_move) (n_val (r_move) ?_)))
    simp only [ev,zD,zE,zF,zG]
    refine n_val (r_indexAddrS Tryz.underlying24 cells_59 rfl rfl (by omega) (by omega) (addrN (Int.toNat_natCast _))) (n_val (r_indexAddrA Tryz.underlying59 cells_28 rfl rfl (by decide) (by decide) rfl) ?_)
    simp only [ev,zD,zE,zF,zG]
    refine n_load rfl ((Row.cor ((m.o 6 rfl).tri ht) (c:=2) (by decide)).lies agg_28 cells_28) ?_
    simp only [ev,zD,zE,zF,zG]
    refine n_val (r_move) ?_
    simp only [ev,zD,zE,zF,zG]
    refine mcall m rfl rfl (Far2_c (x:=t.cor 2) _ ((m.o 6 rfl).tris hI) (by omega)) ?_
    clear m; rintro v u m rfl
    simp only [ev,zD,zE,zF,zG]
    rw [far_cor hmem 2]
    refine n_val (r_move) (n_val (r_extract rfl rfl) (n_val (r_extract rfl rfl) ?_))
    simp only [ev,zD,zE,zF,zG]
    refine malloc m zero_34 rfl ?_
    clear m; intro g9 u m
    simp only [ev,zD,zE,zF,zG]
    refine mstoreA m 0 rfl rfl rfl cells_34 (leT rfl) rfl ?_
    clear m; intro u m; simp only [over,zH,zI,zJ,zK,zL,zM,zN,zO,zP,zF,zG,Nat.reduceAdd] at m
    refine n_val (r_assign) (n_nil (k33 _ _ ?_))
    refine c_seq fun K34 k34=>wp_region_lit ?_
    simp only [ev,zD,zE,zF,zG]
    refine n_load rfl ((m.b 6 rfl).full agg_34 cells_34) ?_
    simp only [ev,zD,zE,zF,zG]
    refine n_load rfl ((m.b 1 rfl).full agg_34 cells_34) ?_
    simp only [ev,zD,zE,zF,zG]
    refine mcallP m rfl rfl (CmpFrac_c (p:=farq p L) (q:=((((t.cor 2).sub p).dot ((t.cor 2).sub p) : Int) : Rat)) (hbf.mono (by decide)) bq_dist) ?_
    clear m; intro u m
    refine n_val (r_gtrF rfl rfl (near_cor (j:=2) hmem)) (n_val (r_move) (n_want rfl (n_val (r_fieldAddr (c:=1) Tryz.underlying34 rfl cells_32 rfl rfl) ?_)))
    simp only [ev,zD,zE,zF,zG]
    refine n_want rfl (n_load rfl ((m.b 0 rfl).lies agg_32 cells_32 rfl rfl) ?_)
    simp only [ev,zD,zE,zF,zG,zH,zI,zJ,zK,Nat.zero_add,Nat.reduceAdd,Nat.reduceMul,Int.reduceToNat]
    refine n_want rfl (mcallP m rfl rfl (Sign_c (a:=0) (bd_zero _)) ?_)
    clear m; intro u m
    refine n_want rfl (n_val (r_neqF rfl rfl (by decide)) (n_val (r_pickF rfl) (n_nil (k34 _ _ ?_))))
    refine c_no rfl (wp_skip (k31 _ _ ?_))
    refine wp_region_lit (n_val (r_move) ?_)
    simp only [ev,zD,zE,zF,zG]
    refine n_val (r_add (m:=2) (n:=1) (r:=3) rfl rfl (by decide)) (n_val (r_assign) (n_nil (then_rounds (c_seq fun K35 k35=>c_seq fun K36 k36=>wp_region_lit (n_val (r_move) (n_val (r_lssF (m:=3) (n:=3) rfl rfl (by decide)) ?_))))))
    simp only [ev,zD,zE,zF,zG]
    refine n_nil (k36 _ _ ?_)
    refine c_no rfl (wp_exit (k13 _ _ ?_))
    refine wp_region_lit (n_val (r_move) ?_)
    simp only [ev,zD,zE,zF,zG]
    refine n_val (r_add rfl rfl (wrap_i64 (by omega) (by omega))) (n_val (r_assign) (n_nil ?_))
    simp only [ev,zD,zE,zF,zG]
    rw [← any_take (p:=(fun t=>decide (Tch p t))) ht]
    simp only [Exit.inBlock,Exit.then]
    refine ⟨L.length - (k + 1),_,?_,rfl,?_,?_⟩
    · omega
    · simp only [zQ,zR,zD,zE,setG_cons,setG_nil,setMany_cons,setMany_nil,zF,zG]
    ·
     simp only [zQ,zR,zD,zE]
     exact ⟨k + 1,rfl,(m.sel [false,false,false,false,false,false,true,true,true,true]),by omega,rfl⟩
   ·
    have hkN : k = L.length:=by omega
    rw [hkN,List.take_length]
    refine wp_exit (k9 _ _ ?_)
    refine c_seq fun K37 k37=>wp_region_lit (n_val (r_move) (n_val (r_move) (n_want rfl (n_val (r_move) (n_want rfl (n_val (r_fieldAddr (c:=1) Tryz.underlying34 rfl cells_32 rfl rfl) ?_))))))
    simp only [ev,zD,zE,zF,zG]
    refine n_want rfl (n_load rfl ((m.b 0 rfl).lies agg_32 cells_32 rfl rfl) ?_)
    simp only [ev,zD,zE,zF,zG,zH,zI,zJ,zK,Nat.zero_add,Nat.reduceAdd,Nat.reduceMul,Int.reduceToNat]
    refine n_want rfl (mcallP m rfl rfl (Sign_c (a:=(farq p L).num) (hbf.n.mono (by decide))) ?_)
    clear m; intro u m
    refine n_want rfl (n_val (r_eql rfl rfl) (n_want rfl (n_val (r_as (r_eqlB Tryz.underlying4 rfl rfl) (bool_as (decide_eq_true (near_any hne)))) (n_val (r_pickT rfl) ?_))))
    simp only [ev,zD,zE,zF,zG]
    refine n_val (r_move) (n_want rfl (n_val (r_fieldAddr (c:=1) Tryz.underlying34 rfl cells_32 rfl rfl) (n_want rfl ?_)))
    simp only [ev,zD,zE,zF,zG]
    refine n_load rfl ((m.b 0 rfl).lies agg_32 cells_32 rfl rfl) ?_
    simp only [ev,zD,zE,zF,zG,zH,zI,zJ,zK,Nat.zero_add,Nat.reduceAdd,Nat.reduceMul,Int.reduceToNat]
    refine n_want rfl (mcallP m rfl rfl (Sign_c (a:=(farq p L).num) (hbf.n.mono (by decide))) ?_)
    clear m; intro u m
    refine n_want rfl (n_val (r_geqT rfl rfl (isign_nn.2 (Rat.num_nonneg.2 far_nn))) (n_val (r_pickT rfl) (n_val (r_assign) ?_)))
    simp only [ev,zD,zE,zF,zG]
    refine n_nil (k37 _ _ ?_)
    refine wp_ret ?_
    try simp only [Exit.inBlock,Exit.then,if_true]
    refine fin1 rfl rfl ?_
    try simp only [zD,zE]
    exact ⟨_,rfl,m.ext,rfl⟩
end Go.Proofs.YtmcgcnpgkkfkoaaGreatDoor
namespace Go.Lith
open Go.RowKit Go.ChangeShapes
variable {H : Type} {enc : TypeId × Value → H} {P : Program}
theorem trodAll_ext (hl : laidOutB P = true) {W W' : World} (hb : Ext W W') {sp : Nat → Bool} :
    ∀ {ts : List TypeId} {vs : List Value} {ds : List (DataW H)} {ps : List MemPlace},(ts.all fun t=>P.readableRec t && decide (t < P.types.size)) = true → DataW.TrodAll enc P W 0 (fun _=>true) true ts vs ds ps → (∀ p ∈ ps,sp p.block = true) → DataW.TrodAll enc P W' 0 sp true ts vs ds ps
  | [],[],[],_,_,h,_=>h
  | [],[],_ :: _,_,_,h,_=>h.elim
  | [],_ :: _,_,_,_,h,_=>h.elim
  | _ :: _,[],_,_,_,h,_=>h.elim
  | _ :: _,_ :: _,[],_,_,h,_=>h.elim
  | t :: ts,v :: vs,d :: ds,ps,hv,h,hs=>by
    obtain ⟨p,q,⟨n,h1⟩,h2,e⟩:=h
    subst e
    simp only [List.all_cons,Bool.and_eq_true,decide_eq_true_eq] at hv
    have hlt:=DataW.trod_lt n _ _ _ h1
    exact ⟨p,q,⟨n,DataW.trod_stays (kids_book hl hv.1.1) (book_sized hv.1.1) (fun h=>by cases h) ⟨hv.1.2,book_self t⟩ h1 (fun x hx=>Below.same hb (hlt x hx)) (fun x hx=>hs x (by simp [hx]))⟩,
      trodAll_ext hl hb (by simpa using hv.2) h2 (fun x hx=>hs x (by simp [hx])),rfl⟩
theorem post_of_ext {f : Func} {s : ChangeSpec} {apart fresh handsOn again : Bool} {W W' : World} {args : Array Value} {t : TypeId} {ds gs : List (DataW H)} {before : List MemPlace}
    (hl : laidOutB P = true) (hps : (f.params.toList.all fun t=>P.readableRec t && decide (t < P.types.size)) = true) (hv : s.vars = []) (hr : f.resultTypes = #[t]) (hu : P.underlying t = some .bool)
    (hW : DataW.Whole enc P f.params.toList s.vars apart W args.toList ds gs before) (hfn : (s.fn H (ds ++ gs)).results = [.lit (.bool true)] ∧ (s.fn H (ds ++ gs)).args = ds ∧ (s.fn H (ds ++ gs)).vars = []) (hb : Ext W W') :
    s.post enc P f apart fresh handsOn again W args (.bool true) W':=by
  have hW0:=hW
  obtain ⟨p,q,hA,hV,rfl,hz,hn⟩:=hW0
  rw [hv] at hV
  obtain ⟨rfl,rfl⟩:=trodVars_none hV
  have hargs : ∀ sp : Nat → Bool,(∀ x ∈ p ++ [],sp x.block = true) → DataW.TrodAll enc P W' 0 sp true f.params.toList args.toList (s.fn H (ds ++ [])).args p:=fun sp hsp=>by
    rw [hfn.2.1]
    exact trodAll_ext hl hb hps hA (fun x hx=>hsp x (by simp [hx]))
  have hvars : ∀ sp : Nat → Bool,DataW.TrodVars enc P W' sp s.vars (s.fn H (ds ++ [])).vars []:=fun sp=>by
    rw [hv,hfn.2.2]
    exact rfl
  have hres : ∀ (b : Nat) (sp : Nat → Bool) (hd : Bool),DataW.TrodAll enc P W' b sp hd f.resultTypes.toList ((Value.bool true).resultList f.resultTypes.size) (s.fn H (ds ++ [])).results []:=fun b sp hd=>by
    rw [hr,hfn.1]
    exact trodAll_cons_mk (shut_bool hu true) trodAll_mk0
  have hok : ∀ (j : Nat) (t : TypeId) (r : Value),f.resultTypes[j]? = some t → ((Value.bool true).resultList f.resultTypes.size)[j]? = some r → Value.okWide P W' .any 0 t r:=ok_one hr rfl (okWide_bool_mk hu _)
  have hlt : ∀ x ∈ p ++ [],x.block < W.heap.size:=hW.lt
  have hold : ∀ x ∈ p ++ [],(fun b=>decide (b < W.heap.size)) x.block = true:=fun x hx=>by simpa using hlt x hx
  refine ⟨ds,[],p ++ [],[],p,[],hW,hres _ _ _,hargs _ hold,hvars _,Below.frame hb _,fun _=>?_⟩
  refine ⟨hok,_,_,([] ++ p) ++ [],⟨[] ++ p,[],trodAll_append (hargs _ (fun _ _=>rfl)) (hres _ _ _),hvars _,rfl,?_,?_⟩,?_⟩
  · intro b off hp
    have h1 : MemPlace.cell b off ∈ p ++ []:=by simpa using hp
    rw [Below.frozen hb (p:=⟨b,off,none⟩) (hlt _ h1)]
    exact hz b off h1
  · intro ha
    simpa using hn ha
  · intro x hp _
    simpa using hp
end Go.Lith
