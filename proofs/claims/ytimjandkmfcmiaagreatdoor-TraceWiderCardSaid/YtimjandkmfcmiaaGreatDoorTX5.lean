/-
  Texts of one claim, laid together: Ray7, Ray8, Ray9, RayB, Cmp, SortPt, Maps1, Surf2, Maps2, Ifc, RayO, Sh, Scene, RayK, Lat, Bag.
-/
import Derived.Shelf.SlLaysF0
import Derived.Test.YtimjandkmfcmiaaGreatDoorProg
import Derived.Stop.Asserts
import Derived.Test.YtimjandkmfcmiaaGreatDoorTX4
set_option maxHeartbeats 8000000
set_option linter.unusedSimpArgs false
set_option linter.unusedVariables false
set_option linter.unusedSectionVars false
namespace Go.Proofs.YtimjandkmfcmiaaGreatDoor
open Go.RowKit Go.Lith
set_option maxRecDepth 100000
attribute [local irreducible] wpList wpQuiet wpMix wpMixH wpTree Code.wp
instance bv_vsub {k m : Nat} {u v : P3} [hu : Bv k u] [hv : Bv m v] : Bv (max k m + 1) (u.sub v):=⟨hu.x.sub hv.x,hu.y.sub hv.y,hu.z.sub hv.z⟩
theorem pass3 {x y : Int} : x = 0 ∨ (x ≠ 0 ∧ ¬ y = x) ∨ (x ≠ 0 ∧ y = x):=by omega
theorem permittedT {r : Ray} [IR r] (h : r.ok) : Pure Tryz.prog 63 [rayV r] (.bool true):=by
 have:=permitted_c (r:=r)
 rwa [decide_eq_true h] at this
theorem permittedF {r : Ray} [IR r] (h : ¬ r.ok) : Pure Tryz.prog 63 [rayV r] (.bool false):=by
 have:=permitted_c (r:=r)
 rwa [decide_eq_false h] at this
theorem wv_zero : wv ⟨0,0,0⟩ = .agg #[.bool false,.string ⟨#[]⟩,.bool false,.string ⟨#[]⟩,.bool false,.string ⟨#[]⟩]:=by
 simp only [wv,wmag_zero]
 rfl
theorem vMinus0_c {v : P3} (hv : Bv 300000 v) : Pure Tryz.prog 68 [.agg #[.bool false,.string ⟨#[]⟩,.bool false,.string ⟨#[]⟩,.bool false,.string ⟨#[]⟩],wv v] (wv (P3.sub ⟨0,0,0⟩ v)):=by
 rw [← wv_zero]
 exact vMinus_c ⟨bd_zero _,bd_zero _,bd_zero _⟩ hv
theorem side_c {d p q : P3} {g1 : Nat} (w : World) (hd : Bv 200 d) (hp : Bv 200 p) (hq : Bv 200 q) (hB1 : Blk w g1 [.bool (wneg (d).x),.string (wmag (d).x),.bool (wneg (d).y),.string (wmag (d).y),.bool (wneg (d).z),.string (wmag (d).z)] 108) : Does Tryz.prog 105 [wv p,wv q,.pointer (some ⟨g1,0,none⟩)] w (fun v _=>v = .int .i64 (sideR d p q)):=by
 refine ⟨en_105,?_⟩
 have m:=Mem.refl w
 go_enter Tryz.func105,Tryz.ntmps105
 refine c_seq fun K1 k1=>wp_region_lit (mboxA m rfl ?_)
 clear m; intro g2 u m
 simp only [ev,zD,zE,zF,zG]
 refine mboxA m rfl ?_
 clear m; intro g3 u m
 refine n_val (r_assign) (n_nil (k1 _ _ ?_))
 refine c_seq fun K2 k2=>?_
 simp only [ev,zD,zE,zF,zG]
 refine mq m follows_mixed (by kernel_rfl) (ql rfl (fun u m=>((hB1.ext m.ext).lies agg_108 cells_108 rfl rfl)) ?_)
 simp only [ev,zD,zE,zF,zG,zH,zI,zJ,zK,Nat.zero_add,Nat.reduceAdd,Nat.reduceMul,Int.reduceToNat]
 refine ql rfl (fun u m=>((m.b 1 rfl).full agg_108 cells_108)) ?_
 simp only [ev,zD,zE,zF,zG]
 refine ql rfl (fun u m=>((m.b 0 rfl).full agg_108 cells_108)) ?_
 simp only [ev,zD,zE,zF,zG]
 refine qcP rfl rfl (vCross_c Bv.of Bv.of) ?_
 simp only [ev,zD,zE,zF,zG]
 refine qcP rfl rfl (vDot_c Bv.of Bv.of) ?_
 simp only [ev,zD,zE,zF,zG]
 refine ql rfl (fun u m=>((hB1.ext m.ext).lies agg_108 cells_108 rfl rfl)) ?_
 simp only [ev,zD,zE,zF,zG,zH,zI,zJ,zK,Nat.zero_add,Nat.reduceAdd,Nat.reduceMul,Int.reduceToNat]
 refine ql rfl (fun u m=>((m.b 0 rfl).full agg_108 cells_108)) ?_
 simp only [ev,zD,zE,zF,zG]
 refine ql rfl (fun u m=>((m.b 1 rfl).full agg_108 cells_108)) ?_
 simp only [ev,zD,zE,zF,zG]
 refine qcP rfl rfl (vMinus_c Bv.of Bv.of) ?_
 simp only [ev,zD,zE,zF,zG]
 refine qcP rfl rfl (vCross_c Bv.of Bv.of) ?_
 simp only [ev,zD,zE,zF,zG]
 refine qcP rfl rfl (raySigns_c Bw.up Bv.of) (q_val (r_assign) (q_nil ?_))
 clear m; intro u m
 refine k2 _ _ ?_
 refine wp_ret ?_
 simp only [ev,zD,zE,zF,zG]
 try simp only [Exit.inBlock,Exit.then,if_true]
 refine fin1 rfl rfl ?_
 try simp only [zD,zE]
 exact ⟨_,rfl,m.ext,rfl⟩
theorem passes_c {d a b c : P3} (hd : Bv 200 d) (ha : Bv 200 a) (hb : Bv 200 b) (hc : Bv 200 c) : Pure Tryz.prog 69 [wv d,.agg #[.bool (wneg (a).x),.string (wmag (a).x),.bool (wneg (a).y),.string (wmag (a).y),.bool (wneg (a).z),.string (wmag (a).z),.bool (wneg (b).x),.string (wmag (b).x),.bool (wneg (b).y),.string (wmag (b).y),.bool (wneg (b).z),.string (wmag (b).z),.bool (wneg (c).x),.string (wmag (c).x),.bool (wneg (c).y),.string (wmag (c).y),.bool (wneg (c).z),.string (wmag (c).z)]] (.bool (decide (passR d a b c))):=by
 intro w
 refine ⟨en_69,?_⟩
 have m:=Mem.refl w
 go_enter Tryz.func69,Tryz.ntmps69
 refine c_seq fun K1 k1=>wp_region_lit (mboxA m rfl ?_)
 clear m; intro g1 u m
 simp only [ev,zD,zE,zF,zG]
 refine mboxA m rfl ?_
 clear m; intro g2 u m
 refine n_val (r_assign) (n_nil (k1 _ _ ?_))
 refine c_seq fun K2 k2=>wp_region_lit ?_
 simp only [ev,zD,zE,zF,zG]
 refine n_val (r_makeFunc) ?_
 simp only [ev,zD,zE,zF,zG,List.map_toArray,List.map_cons,List.map_nil]
 refine n_val (r_assign) (n_nil (k2 _ _ ?_))
 refine c_seq fun K3 k3=>wp_region_lit (n_val (r_move) (n_val (r_indexAddrA Tryz.underlying110 cells_108 rfl rfl (by decide) (by decide) rfl) ?_))
 simp only [ev,zD,zE,zF,zG]
 refine n_load rfl ((m.b 0 rfl).lies agg_108 cells_108 rfl rfl) ?_
 simp only [ev,zD,zE,zF,zG,zH,zI,zJ,zK,Nat.zero_add,Nat.reduceAdd,Nat.reduceMul,Int.reduceToNat]
 refine n_val (r_indexAddrA Tryz.underlying110 cells_108 rfl rfl (by decide) (by decide) rfl) ?_
 simp only [ev,zD,zE,zF,zG]
 refine n_load rfl ((m.b 0 rfl).lies agg_108 cells_108 rfl rfl) ?_
 simp only [ev,zD,zE,zF,zG,zH,zI,zJ,zK,Nat.zero_add,Nat.reduceAdd,Nat.reduceMul,Int.reduceToNat]
 refine mcall m rfl rfl (side_c (d:=d) (p:=a) (q:=b) _ hd ha hb (m.b 1 rfl)) ?_
 clear m; rintro v u m rfl
 refine n_val (r_assign) (n_nil (k3 _ _ ?_))
 refine c_seq fun K4 k4=>?_
 simp only [ev,zD,zE,zF,zG]
 rcases pass3 (x:=sideR d a b) (y:=sideR d b c) with h0 | ⟨h0,h1⟩ | ⟨h0,h1⟩
 ·
  refine wp_region_lit (n_val (r_move) (n_val (r_neqF rfl rfl (not_not_intro h0)) (n_val (r_move) (n_skipT rfl ?_))))
  simp only [ev,zD,zE,zF,zG]
  refine n_skipT rfl (n_skipT rfl (n_skipT rfl (n_skipT rfl ?_)))
  simp only [ev,zD,zE,zF,zG]
  refine n_skipT rfl (n_skipT rfl (n_skipT rfl (n_val (r_pickF rfl) ?_)))
  simp only [ev,zD,zE,zF,zG]
  refine n_val (r_move) (n_skipT rfl (n_skipT rfl (n_skipT rfl ?_)))
  simp only [ev,zD,zE,zF,zG]
  refine n_skipT rfl (n_skipT rfl (n_skipT rfl (n_skipT rfl ?_)))
  simp only [ev,zD,zE,zF,zG]
  refine n_skipT rfl (n_val (r_pickF rfl) (n_val (r_assign) (n_nil (k4 _ _ ?_))))
  refine wp_ret ?_
  simp only [ev,zD,zE,zF,zG]
  try simp only [Exit.inBlock,Exit.then,if_true]
  refine fin1 rfl rfl ?_
  try simp only [zD,zE]
  exact ⟨_,rfl,m.ext,bool_as (decide_eq_false (fun k=>k.1 h0)).symm⟩
 ·
  refine wp_region_lit (n_val (r_move) (n_val (r_neqT rfl rfl (h0)) (n_val (r_move) (n_want rfl (n_val (r_move) ?_)))))
  simp only [ev,zD,zE,zF,zG]
  refine n_want rfl (n_val (r_indexAddrA Tryz.underlying110 cells_108 rfl rfl (by decide) (by decide) rfl) (n_want rfl ?_))
  simp only [ev,zD,zE,zF,zG]
  refine n_load rfl ((m.b 0 rfl).lies agg_108 cells_108 rfl rfl) ?_
  simp only [ev,zD,zE,zF,zG,zH,zI,zJ,zK,Nat.zero_add,Nat.reduceAdd,Nat.reduceMul,Int.reduceToNat]
  refine n_want rfl (n_val (r_indexAddrA Tryz.underlying110 cells_108 rfl rfl (by decide) (by decide) rfl) (n_want rfl ?_))
  simp only [ev,zD,zE,zF,zG]
  refine n_load rfl ((m.b 0 rfl).lies agg_108 cells_108 rfl rfl) ?_
  simp only [ev,zD,zE,zF,zG,zH,zI,zJ,zK,Nat.zero_add,Nat.reduceAdd,Nat.reduceMul,Int.reduceToNat]
  refine n_want rfl (mcall m rfl rfl (side_c (d:=d) (p:=b) (q:=c) _ hd hb hc (m.b 1 rfl)) ?_)
  clear m; rintro v u m rfl
  refine n_want rfl (n_val (r_move) (n_want rfl (n_val (r_eqlF rfl rfl (h1)) (n_val (r_pickT rfl) ?_))))
  simp only [ev,zD,zE,zF,zG]
  refine n_val (r_move) (n_skipT rfl (n_skipT rfl (n_skipT rfl ?_)))
  simp only [ev,zD,zE,zF,zG]
  refine n_skipT rfl (n_skipT rfl (n_skipT rfl (n_skipT rfl ?_)))
  simp only [ev,zD,zE,zF,zG]
  refine n_skipT rfl (n_val (r_pickF rfl) (n_val (r_assign) (n_nil (k4 _ _ ?_))))
  refine wp_ret ?_
  simp only [ev,zD,zE,zF,zG]
  try simp only [Exit.inBlock,Exit.then,if_true]
  refine fin1 rfl rfl ?_
  try simp only [zD,zE]
  exact ⟨_,rfl,m.ext,bool_as (decide_eq_false (fun k=>h1 k.2.1)).symm⟩
 ·
  refine wp_region_lit (n_val (r_move) (n_val (r_neqT rfl rfl (h0)) (n_val (r_move) (n_want rfl (n_val (r_move) ?_)))))
  simp only [ev,zD,zE,zF,zG]
  refine n_want rfl (n_val (r_indexAddrA Tryz.underlying110 cells_108 rfl rfl (by decide) (by decide) rfl) (n_want rfl ?_))
  simp only [ev,zD,zE,zF,zG]
  refine n_load rfl ((m.b 0 rfl).lies agg_108 cells_108 rfl rfl) ?_
  simp only [ev,zD,zE,zF,zG,zH,zI,zJ,zK,Nat.zero_add,Nat.reduceAdd,Nat.reduceMul,Int.reduceToNat]
  refine n_want rfl (n_val (r_indexAddrA Tryz.underlying110 cells_108 rfl rfl (by decide) (by decide) rfl) (n_want rfl ?_))
  simp only [ev,zD,zE,zF,zG]
  refine n_load rfl ((m.b 0 rfl).lies agg_108 cells_108 rfl rfl) ?_
  simp only [ev,zD,zE,zF,zG,zH,zI,zJ,zK,Nat.zero_add,Nat.reduceAdd,Nat.reduceMul,Int.reduceToNat]
  refine n_want rfl (mcall m rfl rfl (side_c (d:=d) (p:=b) (q:=c) _ hd hb hc (m.b 1 rfl)) ?_)
  clear m; rintro v u m rfl
  refine n_want rfl (n_val (r_move) (n_want rfl (n_val (r_eqlT rfl rfl (h1)) (n_val (r_pickT rfl) ?_))))
  simp only [ev,zD,zE,zF,zG]
  refine n_val (r_move) (n_want rfl (n_val (r_move) (n_want rfl (n_val (r_indexAddrA Tryz.underlying110 cells_108 rfl rfl (by decide) (by decide) rfl) (n_want rfl ?_)))))
  simp only [ev,zD,zE,zF,zG]
  refine n_load rfl ((m.b 0 rfl).lies agg_108 cells_108 rfl rfl) ?_
  simp only [ev,zD,zE,zF,zG,zH,zI,zJ,zK,Nat.zero_add,Nat.reduceAdd,Nat.reduceMul,Int.reduceToNat]
  refine n_want rfl (n_val (r_indexAddrA Tryz.underlying110 cells_108 rfl rfl (by decide) (by decide) rfl) (n_want rfl ?_))
  simp only [ev,zD,zE,zF,zG]
  refine n_load rfl ((m.b 0 rfl).lies agg_108 cells_108 rfl rfl) ?_
  simp only [ev,zD,zE,zF,zG,zH,zI,zJ,zK,Nat.zero_add,Nat.reduceAdd,Nat.reduceMul,Int.reduceToNat]
  refine n_want rfl (mcall m rfl rfl (side_c (d:=d) (p:=c) (q:=a) _ hd hc ha (m.b 1 rfl)) ?_)
  clear m; rintro v u m rfl
  refine n_want rfl (n_val (r_move) (n_want rfl (n_val (r_eql rfl rfl) (n_val (r_pickT rfl) ?_))))
  simp only [ev,zD,zE,zF,zG]
  refine n_val (r_assign) (n_nil (k4 _ _ ?_))
  refine wp_ret ?_
  simp only [ev,zD,zE,zF,zG]
  try simp only [Exit.inBlock,Exit.then,if_true]
  refine fin1 rfl rfl ?_
  try simp only [zD,zE]
  exact ⟨_,rfl,m.ext,bool_as (decide_eq_decide.2 ⟨fun k=>⟨h0,h1,k⟩,fun k=>k.2.2⟩)⟩
end Go.Proofs.YtimjandkmfcmiaaGreatDoor
namespace Go.Proofs.YtimjandkmfcmiaaGreatDoor
open Go.RowKit Go.Lith
set_option maxRecDepth 100000
attribute [local irreducible] wpList wpQuiet wpMix wpMixH wpTree Code.wp
instance bv_i3 {p : P3} [h : I3 p] : Bv 64 p:=⟨h.x.bd,h.y.bd,h.z.bd⟩
instance bv_scl {k m : Nat} {v : P3} {n : Int} [h : Bv k v] [a : Bw m n] : Bv (k + m) (v.scl n):=⟨h.x.mul a.h,h.y.mul a.h,h.z.mul a.h⟩
instance bv_0 : Bv 1 (⟨0,0,0⟩ : P3):=⟨bd_zero _,bd_zero _,bd_zero _⟩
instance bw_hgt {r : Ray} {t : T3} [IR r] [IT t] : Bw 262 (hgtR r t):=inferInstanceAs (Bw 262 (t.normal.dot (r.to t.a)))
instance bw_slp {r : Ray} {t : T3} [IR r] [IT t] : Bw 197 (slpR r t):=inferInstanceAs (Bw 197 (t.normal.dot r.d))
theorem rayFlat_c {t : T3} [IT t] : Pure Tryz.prog 64 [tr t] (.bool (decide t.flat)):=by
 have:=Flat_c (t:=t)
 rwa [show decide (isign t.normal.x = 0 ∧ isign t.normal.y = 0 ∧ isign t.normal.z = 0) = decide t.flat from decide_eq_decide.2 (by rw [isign_zero_iff,isign_zero_iff,isign_zero_iff]; rfl)] at this
theorem cross_no {r : Ray} {t : T3} (h : ¬ hitsR r t) : Value.tuple #[Q 0,.bool false] = .tuple #[Q (crossR r t),.bool (decide (hitsR r t))]:=by
 rw [crossR,if_neg h,decide_eq_false h]
theorem cross_yes {r : Ray} {t : T3} (h : hitsR r t) : Value.tuple #[Q (Rat.divInt (hgtR r t) (r.w * slpR r t)),.bool true] = .tuple #[Q (crossR r t),.bool (decide (hitsR r t))]:=by
 rw [crossR,if_pos h,decide_eq_true h]
theorem w_slp {r : Ray} {t : T3} (hok : r.ok) (h : slpR r t ≠ 0) : r.w * slpR r t ≠ 0:=fun e=>by
 rcases Int.mul_eq_zero.1 e with e | e
 · have:=hok.1; omega
 · exact h e
theorem rayCross_c {r : Ray} {t : T3} [IR r] [IT t] : Pure Tryz.prog 44 [rayV r,tr t] (.tuple #[Q (crossR r t),.bool (decide (hitsR r t))]):=by
 intro w
 refine ⟨en_44,?_⟩
 have m:=Mem.refl w
 go_enter Tryz.func44,Tryz.ntmps44
 refine c_seq fun K1 k1=>wp_region_lit (mboxA m rfl ?_)
 clear m; intro g1 u m
 simp only [ev,zD,zE,zF,zG]
 refine mboxA m rfl ?_
 clear m; intro g2 u m
 simp only [ev,zD,zE,zF,zG]
 refine malloc m zero_37 rfl ?_
 clear m; intro g3 u m
 refine n_val (r_assign) (n_nil (k1 _ _ ?_))
 refine c_seq fun K2 k2=>c_seq fun K3 k3=>?_
 simp only [ev,zD,zE,zF,zG]
 rcases Decidable.em r.ok with hok | hok
 ·
  refine wp_region_lit (n_load rfl ((m.b 2 rfl).full agg_25 cells_25) ?_)
  simp only [ev,zD,zE,zF,zG]
  refine mcallP m rfl rfl (permittedT hok) ?_
  clear m; intro u m
  refine n_val (r_not rfl) (n_val (r_move) (n_want rfl ?_))
  simp only [ev,zD,zE,zF,zG]
  refine n_load rfl ((m.b 1 rfl).full agg_58 cells_58) ?_
  simp only [ev,zD,zE,zF,zG]
  refine n_want rfl (mcallP m rfl rfl (rayFlat_c) ?_)
  clear m; intro u m
  refine n_val (r_pickF rfl) (n_nil (k3 _ _ ?_))
  simp only [ev,zD,zE,zF,zG]
  refine c_if rfl (fun hc1=>?_) (fun hc1=>?_)
  ·
   refine c_seq fun K4 k4=>wp_region_lit (mcallP m rfl rfl (rayNone_c) ?_)
   clear m; intro u m
   simp only [ev,zD,zE,zF,zG]
   refine mstoreA m 0 rfl rfl rfl cells_37 (leT rfl) rfl ?_
   clear m; intro u m; simp only [over,zH,zI,zJ,zK,zL,zM,zN,zO,zP,zF,zG,Nat.reduceAdd] at m
   refine n_val (r_assign) (n_nil (k4 _ _ ?_))
   refine wp_ret ?_
   simp only [ev,zD,zE,zF,zG]
   try simp only [Exit.inBlock,Exit.then,if_true]
   refine fin2 rfl ⟨_,rfl,((m.b 0 rfl).full agg_37 cells_37)⟩ rfl ?_
   try simp only [zD,zE]
   exact ⟨_,rfl,m.ext,cross_no (fun h=>h.2.1 hc1)⟩
  ·
   have hf : ¬ t.flat:=hc1
   refine wp_skip (k2 _ _ ?_)
   refine c_seq fun K5 k5=>?_
   refine wp_region_fresh 23 [0,1,2,3,4,5,6,7,8,9,10,11,12,13,14,15,16,17,18,19] [⟨20,6,108,[.bool false,.string ⟨#[]⟩,.bool false,.string ⟨#[]⟩,.bool false,.string ⟨#[]⟩]⟩,⟨21,7,108,[.bool false,.string ⟨#[]⟩,.bool false,.string ⟨#[]⟩,.bool false,.string ⟨#[]⟩]⟩,⟨22,8,35,[.bool false,.string ⟨#[]⟩]⟩] follows_mixed (by kernel_rfl) (al3 ⟨_,_,_,rfl,by kernel_rfl,_,zero_108,rfl⟩ ⟨_,_,_,rfl,by kernel_rfl,_,zero_108,rfl⟩ ⟨_,_,_,rfl,by kernel_rfl,_,zero_35,rfl⟩) (ol:=?_) ?hol ?_
   case hol=>simp only [zQ,zR,zS,zT,zU,zV]; try rfl
   intro u e; replace m:=m.ext' e; clear e
   refine e_val (r_fieldAddr (c:=0) Tryz.underlying25 rfl cells_3 rfl rfl) ?_
   simp only [ev,zD,zE,zF,zG]
   refine e_load rfl (fun u e=>(((m.ext' e).b 2 rfl).lies1 agg_3 rfl)) ?_
   simp only [ev,zD,zE,zF,zG]
   refine e_val (r_fieldAddr (c:=0) Tryz.underlying25 rfl cells_3 rfl rfl) ?_
   simp only [ev,zD,zE,zF,zG]
   refine e_load rfl (fun u e=>(((m.ext' e).b 2 rfl).lies1 agg_3 rfl)) ?_
   simp only [ev,zD,zE,zF,zG]
   refine e_val (r_fieldAddr (c:=0) Tryz.underlying25 rfl cells_3 rfl rfl) ?_
   simp only [ev,zD,zE,zF,zG]
   refine e_load rfl (fun u e=>(((m.ext' e).b 2 rfl).lies1 agg_3 rfl)) ?_
   simp only [ev,zD,zE,zF,zG]
   refine e_callP rfl rfl (of_c) (e_val (r_fieldAddr (c:=2) Tryz.underlying25 rfl cells_23 rfl rfl) (e_val (r_indexAddrA Tryz.underlying23 cells_3 rfl rfl (by decide) (by decide) rfl) ?_))
   simp only [ev,zD,zE,zF,zG]
   refine e_load rfl (fun u e=>(((m.ext' e).b 2 rfl).lies1 agg_3 rfl)) ?_
   simp only [ev,zD,zE,zF,zG]
   refine e_val (r_fieldAddr (c:=2) Tryz.underlying25 rfl cells_23 rfl rfl) (e_val (r_indexAddrA Tryz.underlying23 cells_3 rfl rfl (by decide) (by decide) rfl) ?_)
   simp only [ev,zD,zE,zF,zG]
   refine e_load rfl (fun u e=>(((m.ext' e).b 2 rfl).lies1 agg_3 rfl)) ?_
   simp only [ev,zD,zE,zF,zG]
   refine e_val (r_fieldAddr (c:=2) Tryz.underlying25 rfl cells_23 rfl rfl) (e_val (r_indexAddrA Tryz.underlying23 cells_3 rfl rfl (by decide) (by decide) rfl) ?_)
   simp only [ev,zD,zE,zF,zG]
   refine e_load rfl (fun u e=>(((m.ext' e).b 2 rfl).lies1 agg_3 rfl)) ?_
   simp only [ev,zD,zE,zF,zG]
   refine e_callP rfl rfl (of_c) (e_val (r_fieldAddr (c:=0) Tryz.underlying25 rfl cells_3 rfl rfl) ?_)
   simp only [ev,zD,zE,zF,zG]
   refine e_load rfl (fun u e=>(((m.ext' e).b 2 rfl).lies1 agg_3 rfl)) ?_
   simp only [ev,zD,zE,zF,zG]
   refine e_callP rfl rfl (From_c Iw.h) (e_nil ?_)
   simp only [ev,zD,zE,zF,zG]
   refine mf3 m (by decide) (by decide) (by decide) ?_
   clear m; intro g4 g5 g6 u m
   simp only [zJ,zK,zF,zG]
   refine mstoreA m 2 rfl rfl rfl cells_108 (leT rfl) rfl ?_
   clear m; intro u m; simp only [over,zH,zI,zJ,zK,zL,zM,zN,zO,zP,zF,zG,Nat.reduceAdd] at m
   refine mstoreA m 1 rfl rfl rfl cells_108 (leT rfl) rfl ?_
   clear m; intro u m; simp only [over,zH,zI,zJ,zK,zL,zM,zN,zO,zP,zF,zG,Nat.reduceAdd] at m
   refine mstoreA m 0 rfl rfl rfl cells_35 (leT rfl) rfl ?_
   clear m; intro u m; simp only [over,zH,zI,zJ,zK,zL,zM,zN,zO,zP,zF,zG,Nat.reduceAdd] at m
   refine n_nil (k5 _ _ ?_)
   refine c_seq fun K6 k6=>wp_region_lit (malloc m zero_110 rfl ?_)
   clear m; intro g7 u m
   refine n_nil (k6 _ _ ?_)
   refine c_seq fun K7 k7=>c_seq fun K8 k8=>wp_region_lit ?_
   simp only [ev,zD,zE,zF,zG]
   refine n_load rfl ((m.b 5 rfl).full agg_58 cells_58) ?_
   simp only [ev,zD,zE,zF,zG]
   refine n_val (r_move) (n_nil (k8 _ _ ?_))
   refine wp_block (wp_loop_rounds 4 (rounds_step (c_seq fun K9 k9=>wp_region_lit (n_val (r_lssT (m:=0) (n:=3) rfl rfl (by decide)) (n_nil (k9 _ _ ?_))))))
   refine c_seq fun K10 k10=>c_yes rfl (wp_skip (k10 _ _ ?_))
   refine c_seq fun K11 k11=>wp_block (c_seq fun K12 k12=>wp_region_lit (n_val (r_move) (n_val (r_index_58_0 rfl rfl) ?_)))
   simp only [ev,zD,zE,zF,zG]
   refine malloc m zero_56 rfl ?_
   clear m; intro g8 u m
   refine n_val (r_assign) ?_
   simp only [ev,zD,zE,zF,zG]
   refine mstoreA m 0 rfl rfl rfl cells_56 (leT rfl) rfl ?_
   clear m; intro u m; simp only [over,zH,zI,zJ,zK,zL,zM,zN,zO,zP,zF,zG,Nat.reduceAdd] at m
   refine n_nil (k12 _ _ ?_)
   refine mq_tail m 8 follows_mixed (by kernel_rfl) ?_
   simp only [zH,zI,zJ,zK]
   refine q_val (r_move) ?_
   simp only [ev,zD,zE,zF,zG]
   refine ql rfl (fun u m=>((m.b 0 rfl).full agg_56 cells_56)) ?_
   simp only [ev,zD,zE,zF,zG]
   refine qcP rfl rfl (rayPoint_c) ?_
   simp only [ev,zD,zE,zF,zG]
   refine ql rfl (fun u m=>((m.b 2 rfl).full agg_35 cells_35)) ?_
   simp only [ev,zD,zE,zF,zG]
   refine qcP rfl rfl (vTimes_c Bv.of ⟨Bw.up⟩) ?_
   simp only [ev,zD,zE,zF,zG]
   refine ql rfl (fun u m=>((m.b 4 rfl).full agg_108 cells_108)) ?_
   simp only [ev,zD,zE,zF,zG]
   refine qcP rfl rfl (vMinus_c Bv.of Bv.of) (q_val (r_indexAddrA Tryz.underlying110 cells_108 rfl rfl (by decide) (by decide) rfl) (q_nil ?_))
   clear m; intro u m
   simp only [ev,zD,zE,zF,zG]
   refine mstoreA m 1 rfl rfl rfl cells_108 (leT rfl) rfl ?_
   clear m; intro u m; simp only [over,zH,zI,zJ,zK,zL,zM,zN,zO,zP,zF,zG,Nat.reduceAdd] at m
   refine n_nil (k11 _ _ ?_)
   refine wp_region_lit (n_val (r_add (m:=0) (n:=1) (r:=1) rfl rfl (by decide)) (n_val (r_move) (n_nil (then_rounds (c_seq fun K13 k13=>wp_region_lit (n_val (r_lssT (m:=1) (n:=3) rfl rfl (by decide)) (n_nil (k13 _ _ ?_))))))))
   refine c_seq fun K14 k14=>c_yes rfl (wp_skip (k14 _ _ ?_))
   refine c_seq fun K15 k15=>wp_block (c_seq fun K16 k16=>wp_region_lit (n_val (r_move) ?_))
   simp only [ev,zD,zE,zF,zG]
   refine n_val (r_index_58_1 rfl rfl) ?_
   simp only [ev,zD,zE,zF,zG]
   refine malloc m zero_56 rfl ?_
   clear m; intro g9 u m
   refine n_val (r_assign) ?_
   simp only [ev,zD,zE,zF,zG]
   refine mstoreA m 0 rfl rfl rfl cells_56 (leT rfl) rfl ?_
   clear m; intro u m; simp only [over,zH,zI,zJ,zK,zL,zM,zN,zO,zP,zF,zG,Nat.reduceAdd] at m
   refine n_nil (k16 _ _ ?_)
   refine mq_tail m 8 follows_mixed (by kernel_rfl) ?_
   simp only [zH,zI,zJ,zK]
   refine q_val (r_move) ?_
   simp only [ev,zD,zE,zF,zG]
   refine ql rfl (fun u m=>((m.b 0 rfl).full agg_56 cells_56)) ?_
   simp only [ev,zD,zE,zF,zG]
   refine qcP rfl rfl (rayPoint_c) ?_
   simp only [ev,zD,zE,zF,zG]
   refine ql rfl (fun u m=>((m.b 3 rfl).full agg_35 cells_35)) ?_
   simp only [ev,zD,zE,zF,zG]
   refine qcP rfl rfl (vTimes_c Bv.of ⟨Bw.up⟩) ?_
   simp only [ev,zD,zE,zF,zG]
   refine ql rfl (fun u m=>((m.b 5 rfl).full agg_108 cells_108)) ?_
   simp only [ev,zD,zE,zF,zG]
   refine qcP rfl rfl (vMinus_c Bv.of Bv.of) (q_val (r_indexAddrA Tryz.underlying110 cells_108 rfl rfl (by decide) (by decide) rfl) (q_nil ?_))
   clear m; intro u m
   simp only [ev,zD,zE,zF,zG]
   refine mstoreA m 2 rfl rfl rfl cells_108 (leT rfl) rfl ?_
   clear m; intro u m; simp only [over,zH,zI,zJ,zK,zL,zM,zN,zO,zP,zF,zG,Nat.reduceAdd] at m
   refine n_nil (k15 _ _ ?_)
   refine wp_region_lit (n_val (r_add (m:=1) (n:=1) (r:=2) rfl rfl (by decide)) (n_val (r_move) (n_nil (then_rounds (c_seq fun K17 k17=>wp_region_lit (n_val (r_lssT (m:=2) (n:=3) rfl rfl (by decide)) (n_nil (k17 _ _ ?_))))))))
   refine c_seq fun K18 k18=>c_yes rfl (wp_skip (k18 _ _ ?_))
   refine c_seq fun K19 k19=>wp_block (c_seq fun K20 k20=>wp_region_lit (n_val (r_move) ?_))
   simp only [ev,zD,zE,zF,zG]
   refine n_val (r_index_58_2 rfl rfl) ?_
   simp only [ev,zD,zE,zF,zG]
   refine malloc m zero_56 rfl ?_
   clear m; intro g10 u m
   refine n_val (r_assign) ?_
   simp only [ev,zD,zE,zF,zG]
   refine mstoreA m 0 rfl rfl rfl cells_56 (leT rfl) rfl ?_
   clear m; intro u m; simp only [over,zH,zI,zJ,zK,zL,zM,zN,zO,zP,zF,zG,Nat.reduceAdd] at m
   refine n_nil (k20 _ _ ?_)
   refine mq_tail m 8 follows_mixed (by kernel_rfl) ?_
   simp only [zH,zI,zJ,zK]
   refine q_val (r_move) ?_
   simp only [ev,zD,zE,zF,zG]
   refine ql rfl (fun u m=>((m.b 0 rfl).full agg_56 cells_56)) ?_
   simp only [ev,zD,zE,zF,zG]
   refine qcP rfl rfl (rayPoint_c) ?_
   simp only [ev,zD,zE,zF,zG]
   refine ql rfl (fun u m=>((m.b 4 rfl).full agg_35 cells_35)) ?_
   simp only [ev,zD,zE,zF,zG]
   refine qcP rfl rfl (vTimes_c Bv.of ⟨Bw.up⟩) ?_
   simp only [ev,zD,zE,zF,zG]
   refine ql rfl (fun u m=>((m.b 6 rfl).full agg_108 cells_108)) ?_
   simp only [ev,zD,zE,zF,zG]
   refine qcP rfl rfl (vMinus_c Bv.of Bv.of) (q_val (r_indexAddrA Tryz.underlying110 cells_108 rfl rfl (by decide) (by decide) rfl) (q_nil ?_))
   clear m; intro u m
   simp only [ev,zD,zE,zF,zG]
   refine mstoreA m 3 rfl rfl rfl cells_108 (leT rfl) rfl ?_
   clear m; intro u m; simp only [over,zH,zI,zJ,zK,zL,zM,zN,zO,zP,zF,zG,Nat.reduceAdd] at m
   refine n_nil (k19 _ _ ?_)
   refine wp_region_lit (n_val (r_add (m:=2) (n:=1) (r:=3) rfl rfl (by decide)) (n_val (r_move) (n_nil (then_rounds (c_seq fun K21 k21=>wp_region_lit (n_val (r_lssF (m:=3) (n:=3) rfl rfl (by decide)) (n_nil (k21 _ _ ?_))))))))
   refine c_seq fun K22 k22=>c_no rfl (wp_exit (k7 _ _ ?_))
   refine c_seq fun K23 k23=>c_seq fun K24 k24=>wp_region_lit ?_
   simp only [ev,zD,zE,zF,zG]
   refine n_load rfl ((m.b 5 rfl).full agg_108 cells_108) ?_
   simp only [ev,zD,zE,zF,zG]
   refine n_load rfl ((m.b 3 rfl).full agg_110 cells_110) ?_
   simp only [ev,zD,zE,zF,zG]
   refine mcallP m rfl rfl (passes_c (d:=r.d) (a:=r.to t.a) (b:=r.to t.b) (c:=r.to t.c) Bv.of Bv.of Bv.of Bv.of) ?_
   clear m; intro u m
   refine n_val (r_not rfl) (n_nil (k24 _ _ ?_))
   simp only [ev,zD,zE,zF,zG]
   refine c_cond rfl (fun hc3=>?_) (fun hc3=>?_)
   ·
    have hp : ¬ passR r.d (r.to t.a) (r.to t.b) (r.to t.c):=by simpa using hc3
    refine c_seq fun K25 k25=>wp_region_lit (mcallP m rfl rfl (rayNone_c) ?_)
    clear m; intro u m
    simp only [ev,zD,zE,zF,zG]
    refine mstoreA m 7 rfl rfl rfl cells_37 (leT rfl) rfl ?_
    clear m; intro u m; simp only [over,zH,zI,zJ,zK,zL,zM,zN,zO,zP,zF,zG,Nat.reduceAdd] at m
    refine n_val (r_assign) (n_nil (k25 _ _ ?_))
    refine wp_ret ?_
    simp only [ev,zD,zE,zF,zG]
    try simp only [Exit.inBlock,Exit.then,if_true]
    refine fin2 rfl ⟨_,rfl,((m.b 7 rfl).full agg_37 cells_37)⟩ rfl ?_
    try simp only [zD,zE]
    exact ⟨_,rfl,m.ext,cross_no (fun h=>hp h.2.2.1)⟩
   ·
    have hp : passR r.d (r.to t.a) (r.to t.b) (r.to t.c):=by simpa using hc3
    refine wp_skip (k23 _ _ ?_)
    refine c_seq fun K26 k26=>wp_region_lit (n_load rfl ((m.b 8 rfl).full agg_58 cells_58) ?_)
    simp only [ev,zD,zE,zF,zG]
    refine mcallP m rfl rfl (Normal_c) ?_
    clear m; intro u m
    simp only [ev,zD,zE,zF,zG]
    refine malloc m zero_108 rfl ?_
    clear m; intro g11 u m
    simp only [ev,zD,zE,zF,zG]
    refine mstoreA m 0 rfl rfl rfl cells_108 (leT rfl) rfl ?_
    clear m; intro u m; simp only [over,zH,zI,zJ,zK,zL,zM,zN,zO,zP,zF,zG,Nat.reduceAdd] at m
    refine n_nil (k26 _ _ ?_)
    refine c_seq fun K27 k27=>wp_region_lit (n_load rfl ((m.b 0 rfl).full agg_108 cells_108) ?_)
    simp only [ev,zD,zE,zF,zG]
    refine n_val (r_makeFunc) ?_
    simp only [ev,zD,zE,zF,zG,List.map_toArray,List.map_cons,List.map_nil]
    refine n_val (r_assign) (n_nil (k27 _ _ ?_))
    refine c_seq fun K28 k28=>?_
    simp only [ev,zD,zE,zF,zG]
    refine wp_region_fresh 9 [0,1,2,3,4,5,6] [⟨7,14,35,[.bool false,.string ⟨#[]⟩]⟩,⟨8,15,35,[.bool false,.string ⟨#[]⟩]⟩] follows_mixed (by kernel_rfl) (al2 ⟨_,_,_,rfl,by kernel_rfl,_,zero_35,rfl⟩ ⟨_,_,_,rfl,by kernel_rfl,_,zero_35,rfl⟩) (ol:=?_) ?hol ?_
    case hol=>simp only [zQ,zR,zS,zT,zU,zV]; try rfl
    intro u e; replace m:=m.ext' e; clear e
    refine e_val (r_move) (e_val (r_indexAddrA Tryz.underlying110 cells_108 rfl rfl (by decide) (by decide) rfl) ?_)
    simp only [ev,zD,zE,zF,zG]
    refine e_load rfl (fun u e=>(((m.ext' e).b 4 rfl).lies agg_108 cells_108 rfl rfl)) ?_
    simp only [ev,zD,zE,zF,zG,zH,zI,zJ,zK,Nat.zero_add,Nat.reduceAdd,Nat.reduceMul,Int.reduceToNat]
    refine e_callP rfl rfl (vDot_c (u:=t.normal) (v:=r.to t.a) Bv.of Bv.of) (e_val (r_move) ?_)
    simp only [ev,zD,zE,zF,zG]
    refine e_load rfl (fun u e=>(((m.ext' e).b 6 rfl).full agg_108 cells_108)) ?_
    simp only [ev,zD,zE,zF,zG]
    refine e_callP rfl rfl (vDot_c (u:=t.normal) (v:=r.d) Bv.of Bv.of) (e_nil ?_)
    simp only [ev,zD,zE,zF,zG]
    refine mf2 m (by decide) ?_
    clear m; intro g12 g13 u m
    simp only [zJ,zK,zF,zG]
    refine mstoreA m 1 rfl rfl rfl cells_35 (leT rfl) rfl ?_
    clear m; intro u m; simp only [over,zH,zI,zJ,zK,zL,zM,zN,zO,zP,zF,zG,Nat.reduceAdd] at m
    refine mstoreA m 0 rfl rfl rfl cells_35 (leT rfl) rfl ?_
    clear m; intro u m; simp only [over,zH,zI,zJ,zK,zL,zM,zN,zO,zP,zF,zG,Nat.reduceAdd] at m
    refine n_nil (k28 _ _ ?_)
    refine c_seq fun K29 k29=>c_seq fun K30 k30=>?_
    refine mtree m [true,true,true,true,true,true,true,true,true,true,true,true,true] (.take 0 (.take 1 (.take 2 (.take 5 (.two 3 (.two 4 (.one 6 (.one 7 (.take 8 .nil))) 6 (.one 4 (.one 7 (.take 8 .nil)))) 6 (.one 3 (.one 4 (.one 7 (.take 8 .nil))))))))) follows_mixed (by kernel_rfl) (panic_put (fun _ _ _ _ _ h=>h)) ?_
    clear m; intro u m
    refine t_take (by simp only [zS,zT,zU,zV]; rfl) (h_load rfl (fun u m=>((m.b 1 rfl).full agg_35 cells_35)) ?_)
    simp only [ev,zD,zE,zF,zG]
    refine h_nil (t_take (by simp only [zS,zT,zU,zV]; rfl) (h_val (r_build_108_) (h_nil (t_take (by simp only [zS,zT,zU,zV]; rfl) ?_))))
    simp only [ev,zD,zE,zF,zG]
    refine h_load rfl (fun u m=>((m.b 2 rfl).full agg_108 cells_108)) ?_
    simp only [ev,zD,zE,zF,zG]
    refine h_nil (t_take (by simp only [zS,zT,zU,zV]; rfl) (h_load rfl (fun u m=>((m.b 0 rfl).full agg_35 cells_35)) ?_))
    simp only [ev,zD,zE,zF,zG]
    refine h_nil ?_
    refine t_two (by simp only [zS,zT,zU,zV]; rfl) (by simp only [zS,zT,zU,zV]; rfl) ?_ ?_
    ·
     refine mcallP m rfl rfl (vMinus0_c (v:=t.normal) Bv.of) ?_
     clear m; intro u m
     refine n_nil ?_
     refine ⟨m,?_⟩
     simp only [ev,zD,zE,zF,zG]
     refine t_two (by simp only [zS,zT,zU,zV]; rfl) (by simp only [zS,zT,zU,zV]; rfl) ?_ ?_
     ·
      refine mcallP m rfl rfl (raySigns_c (n:=hgtR r t) (v:=P3.sub ⟨0,0,0⟩ t.normal) Bw.up Bv.of) ?_
      clear m; intro u m
      refine n_nil ?_
      refine ⟨m,?_⟩
      refine t_one (by simp only [zS,zT,zU,zV]; rfl) ?_
      simp only [ev,zD,zE,zF,zG]
      refine n_bs_155_1 rfl ?_
      intro u g14 e hg hB; replace m:=m.newB e hg hB; clear e hg hB
      refine n_nil ?_
      refine ⟨m.sel [false,true,true,true,true,true,true,true,true,true,true,true,true,true],?_⟩
      refine t_one (by simp only [zS,zT,zU,zV]; rfl) ?_
      simp only [ev,zD,zE,zF,zG]
      refine mcall m rfl rfl (sign1_c (n:=slpR r t) _ Bw.up (m.b 0 rfl)) ?_
      clear m; rintro v u m rfl
      refine n_nil ?_
      refine ⟨m.sel [false,true,true,true,true,true,true,true,true,true,true,true,true,true],?_⟩
      refine t_take (by simp only [zS,zT,zU,zV]; rfl) (h_val (r_neq rfl rfl) (h_nil (t_nil (k30 _ _ ?_))))
      simp only [ev,zD,zE,zF,zG]
      refine c_if rfl (fun hc4=>?_) (fun hc4=>?_)
      ·
       refine c_seq fun K31 k31=>wp_region_lit (mcallP m rfl rfl (rayNone_c) ?_)
       clear m; intro u m
       simp only [ev,zD,zE,zF,zG]
       refine mstoreA m 11 rfl rfl rfl cells_37 (leT rfl) rfl ?_
       clear m; intro u m; simp only [over,zH,zI,zJ,zK,zL,zM,zN,zO,zP,zF,zG,Nat.reduceAdd] at m
       refine n_val (r_assign) (n_nil (k31 _ _ ?_))
       refine wp_ret ?_
       simp only [ev,zD,zE,zF,zG]
       try simp only [Exit.inBlock,Exit.then,if_true]
       refine fin2 rfl ⟨_,rfl,((m.b 11 rfl).full agg_37 cells_37)⟩ rfl ?_
       try simp only [zD,zE]
       exact ⟨_,rfl,m.ext,cross_no (fun h=>hc4 h.2.2.2)⟩
      ·
       have hs0:=Decidable.not_not.1 hc4
       have hs:=slp_ne hf hs0
       refine wp_skip (k29 _ _ ?_)
       refine c_seq fun K32 k32=>?_
       refine mq_tail m 5 follows_mixed (by kernel_rfl) ?_
       simp only [zH,zI,zJ,zK]
       refine ql rfl (fun u m=>((m.b 2 rfl).full agg_35 cells_35)) ?_
       simp only [ev,zD,zE,zF,zG]
       refine ql rfl (fun u m=>((m.b 8 rfl).full agg_35 cells_35)) ?_
       simp only [ev,zD,zE,zF,zG]
       refine ql rfl (fun u m=>((m.b 1 rfl).full agg_35 cells_35)) ?_
       simp only [ev,zD,zE,zF,zG]
       refine qcP rfl rfl (Mul_c (a:=r.w) (b:=slpR r t) Bw.up Bw.up) ?_
       simp only [ev,zD,zE,zF,zG]
       refine qcP rfl rfl (rayFrac_c (n:=hgtR r t) (d:=r.w * slpR r t) Bw.up Bw.up (w_slp hok hs)) (q_nil ?_)
       clear m; intro u m
       simp only [ev,zD,zE,zF,zG]
       refine mstoreA m 11 rfl rfl rfl cells_37 (leT rfl) rfl ?_
       clear m; intro u m; simp only [over,zH,zI,zJ,zK,zL,zM,zN,zO,zP,zF,zG,Nat.reduceAdd] at m
       refine n_val (r_assign) (n_nil (k32 _ _ ?_))
       refine wp_ret ?_
       simp only [ev,zD,zE,zF,zG]
       try simp only [Exit.inBlock,Exit.then,if_true]
       refine fin2 rfl ⟨_,rfl,((m.b 11 rfl).full agg_37 cells_37)⟩ rfl ?_
       try simp only [zD,zE]
       exact ⟨_,rfl,m.ext,cross_yes ⟨hok,hf,hp,hs0⟩⟩
     ·
      refine n_bs_155_1 rfl ?_
      intro u g14 e hg hB; replace m:=m.newB e hg hB; clear e hg hB
      refine n_nil ?_
      refine ⟨m.sel [false,true,true,true,true,true,true,true,true,true,true,true,true,true],?_⟩
      refine t_one (by simp only [zS,zT,zU,zV]; rfl) ?_
      simp only [ev,zD,zE,zF,zG]
      refine mcallP m rfl rfl (raySigns_c (n:=hgtR r t) (v:=P3.sub ⟨0,0,0⟩ t.normal) Bw.up Bv.of) ?_
      clear m; intro u m
      refine n_nil ?_
      refine ⟨m.sel [false,true,true,true,true,true,true,true,true,true,true,true,true,true],?_⟩
      refine t_one (by simp only [zS,zT,zU,zV]; rfl) ?_
      simp only [ev,zD,zE,zF,zG]
      refine mcall m rfl rfl (sign1_c (n:=slpR r t) _ Bw.up (m.b 0 rfl)) ?_
      clear m; rintro v u m rfl
      refine n_nil ?_
      refine ⟨m.sel [false,true,true,true,true,true,true,true,true,true,true,true,true,true],?_⟩
      refine t_take (by simp only [zS,zT,zU,zV]; rfl) (h_val (r_neq rfl rfl) (h_nil (t_nil (k30 _ _ ?_))))
      simp only [ev,zD,zE,zF,zG]
      refine c_if rfl (fun hc4=>?_) (fun hc4=>?_)
      ·
       refine c_seq fun K33 k33=>wp_region_lit (mcallP m rfl rfl (rayNone_c) ?_)
       clear m; intro u m
       simp only [ev,zD,zE,zF,zG]
       refine mstoreA m 11 rfl rfl rfl cells_37 (leT rfl) rfl ?_
       clear m; intro u m; simp only [over,zH,zI,zJ,zK,zL,zM,zN,zO,zP,zF,zG,Nat.reduceAdd] at m
       refine n_val (r_assign) (n_nil (k33 _ _ ?_))
       refine wp_ret ?_
       simp only [ev,zD,zE,zF,zG]
       try simp only [Exit.inBlock,Exit.then,if_true]
       refine fin2 rfl ⟨_,rfl,((m.b 11 rfl).full agg_37 cells_37)⟩ rfl ?_
       try simp only [zD,zE]
       exact ⟨_,rfl,m.ext,cross_no (fun h=>hc4 h.2.2.2)⟩
      ·
       have hs0:=Decidable.not_not.1 hc4
       have hs:=slp_ne hf hs0
       refine wp_skip (k29 _ _ ?_)
       refine c_seq fun K34 k34=>?_
       refine mq_tail m 5 follows_mixed (by kernel_rfl) ?_
       simp only [zH,zI,zJ,zK]
       refine ql rfl (fun u m=>((m.b 2 rfl).full agg_35 cells_35)) ?_
       simp only [ev,zD,zE,zF,zG]
       refine ql rfl (fun u m=>((m.b 8 rfl).full agg_35 cells_35)) ?_
       simp only [ev,zD,zE,zF,zG]
       refine ql rfl (fun u m=>((m.b 1 rfl).full agg_35 cells_35)) ?_
       simp only [ev,zD,zE,zF,zG]
       refine qcP rfl rfl (Mul_c (a:=r.w) (b:=slpR r t) Bw.up Bw.up) ?_
       simp only [ev,zD,zE,zF,zG]
       refine qcP rfl rfl (rayFrac_c (n:=hgtR r t) (d:=r.w * slpR r t) Bw.up Bw.up (w_slp hok hs)) (q_nil ?_)
       clear m; intro u m
       simp only [ev,zD,zE,zF,zG]
       refine mstoreA m 11 rfl rfl rfl cells_37 (leT rfl) rfl ?_
       clear m; intro u m; simp only [over,zH,zI,zJ,zK,zL,zM,zN,zO,zP,zF,zG,Nat.reduceAdd] at m
       refine n_val (r_assign) (n_nil (k34 _ _ ?_))
       refine wp_ret ?_
       simp only [ev,zD,zE,zF,zG]
       try simp only [Exit.inBlock,Exit.then,if_true]
       refine fin2 rfl ⟨_,rfl,((m.b 11 rfl).full agg_37 cells_37)⟩ rfl ?_
       try simp only [zD,zE]
       exact ⟨_,rfl,m.ext,cross_yes ⟨hok,hf,hp,hs0⟩⟩
    ·
     refine n_bs_155_1 rfl ?_
     intro u g14 e hg hB; replace m:=m.newB e hg hB; clear e hg hB
     refine n_nil ?_
     refine ⟨m.sel [false,true,true,true,true,true,true,true,true,true,true,true,true,true],?_⟩
     refine t_one (by simp only [zS,zT,zU,zV]; rfl) ?_
     simp only [ev,zD,zE,zF,zG]
     refine mcallP m rfl rfl (vMinus0_c (v:=t.normal) Bv.of) ?_
     clear m; intro u m
     refine n_nil ?_
     refine ⟨m.sel [false,true,true,true,true,true,true,true,true,true,true,true,true,true],?_⟩
     refine t_one (by simp only [zS,zT,zU,zV]; rfl) ?_
     simp only [ev,zD,zE,zF,zG]
     refine mcallP m rfl rfl (raySigns_c (n:=hgtR r t) (v:=P3.sub ⟨0,0,0⟩ t.normal) Bw.up Bv.of) ?_
     clear m; intro u m
     refine n_nil ?_
     refine ⟨m.sel [false,true,true,true,true,true,true,true,true,true,true,true,true,true],?_⟩
     refine t_one (by simp only [zS,zT,zU,zV]; rfl) ?_
     simp only [ev,zD,zE,zF,zG]
     refine mcall m rfl rfl (sign1_c (n:=slpR r t) _ Bw.up (m.b 0 rfl)) ?_
     clear m; rintro v u m rfl
     refine n_nil ?_
     refine ⟨m.sel [false,true,true,true,true,true,true,true,true,true,true,true,true,true],?_⟩
     refine t_take (by simp only [zS,zT,zU,zV]; rfl) (h_val (r_neq rfl rfl) (h_nil (t_nil (k30 _ _ ?_))))
     simp only [ev,zD,zE,zF,zG]
     refine c_if rfl (fun hc4=>?_) (fun hc4=>?_)
     ·
      refine c_seq fun K35 k35=>wp_region_lit (mcallP m rfl rfl (rayNone_c) ?_)
      clear m; intro u m
      simp only [ev,zD,zE,zF,zG]
      refine mstoreA m 11 rfl rfl rfl cells_37 (leT rfl) rfl ?_
      clear m; intro u m; simp only [over,zH,zI,zJ,zK,zL,zM,zN,zO,zP,zF,zG,Nat.reduceAdd] at m
      refine n_val (r_assign) (n_nil (k35 _ _ ?_))
      refine wp_ret ?_
      simp only [ev,zD,zE,zF,zG]
      try simp only [Exit.inBlock,Exit.then,if_true]
      refine fin2 rfl ⟨_,rfl,((m.b 11 rfl).full agg_37 cells_37)⟩ rfl ?_
      try simp only [zD,zE]
      exact ⟨_,rfl,m.ext,cross_no (fun h=>hc4 h.2.2.2)⟩
     ·
      have hs0:=Decidable.not_not.1 hc4
      have hs:=slp_ne hf hs0
      refine wp_skip (k29 _ _ ?_)
      refine c_seq fun K36 k36=>?_
      refine mq_tail m 5 follows_mixed (by kernel_rfl) ?_
      simp only [zH,zI,zJ,zK]
      refine ql rfl (fun u m=>((m.b 2 rfl).full agg_35 cells_35)) ?_
      simp only [ev,zD,zE,zF,zG]
      refine ql rfl (fun u m=>((m.b 8 rfl).full agg_35 cells_35)) ?_
      simp only [ev,zD,zE,zF,zG]
      refine ql rfl (fun u m=>((m.b 1 rfl).full agg_35 cells_35)) ?_
      simp only [ev,zD,zE,zF,zG]
      refine qcP rfl rfl (Mul_c (a:=r.w) (b:=slpR r t) Bw.up Bw.up) ?_
      simp only [ev,zD,zE,zF,zG]
      refine qcP rfl rfl (rayFrac_c (n:=hgtR r t) (d:=r.w * slpR r t) Bw.up Bw.up (w_slp hok hs)) (q_nil ?_)
      clear m; intro u m
      simp only [ev,zD,zE,zF,zG]
      refine mstoreA m 11 rfl rfl rfl cells_37 (leT rfl) rfl ?_
      clear m; intro u m; simp only [over,zH,zI,zJ,zK,zL,zM,zN,zO,zP,zF,zG,Nat.reduceAdd] at m
      refine n_val (r_assign) (n_nil (k36 _ _ ?_))
      refine wp_ret ?_
      simp only [ev,zD,zE,zF,zG]
      try simp only [Exit.inBlock,Exit.then,if_true]
      refine fin2 rfl ⟨_,rfl,((m.b 11 rfl).full agg_37 cells_37)⟩ rfl ?_
      try simp only [zD,zE]
      exact ⟨_,rfl,m.ext,cross_yes ⟨hok,hf,hp,hs0⟩⟩
 ·
  refine wp_region_lit (n_load rfl ((m.b 2 rfl).full agg_25 cells_25) ?_)
  simp only [ev,zD,zE,zF,zG]
  refine mcallP m rfl rfl (permittedF hok) ?_
  clear m; intro u m
  refine n_val (r_not rfl) (n_val (r_move) (n_skipF rfl ?_))
  simp only [ev,zD,zE,zF,zG]
  refine n_skipF rfl (n_val (r_pickT rfl) (n_nil (k3 _ _ ?_)))
  refine c_yes rfl (c_seq fun K37 k37=>wp_region_lit ?_)
  simp only [ev,zD,zE,zF,zG]
  refine mcallP m rfl rfl (rayNone_c) ?_
  clear m; intro u m
  simp only [ev,zD,zE,zF,zG]
  refine mstoreA m 0 rfl rfl rfl cells_37 (leT rfl) rfl ?_
  clear m; intro u m; simp only [over,zH,zI,zJ,zK,zL,zM,zN,zO,zP,zF,zG,Nat.reduceAdd] at m
  refine n_val (r_assign) (n_nil (k37 _ _ ?_))
  refine wp_ret ?_
  simp only [ev,zD,zE,zF,zG]
  try simp only [Exit.inBlock,Exit.then,if_true]
  refine fin2 rfl ⟨_,rfl,((m.b 0 rfl).full agg_37 cells_37)⟩ rfl ?_
  try simp only [zD,zE]
  exact ⟨_,rfl,m.ext,cross_no (not_ok hok)⟩
end Go.Proofs.YtimjandkmfcmiaaGreatDoor
namespace Go.Proofs.YtimjandkmfcmiaaGreatDoor
open Go.RowKit Go.Lith
set_option maxRecDepth 100000
attribute [local irreducible] wpList wpQuiet wpMix wpMixH wpTree Code.wp
def hitV (h : Option (Rat × Nat)) : Go.Value:=.agg #[.bool (wneg (hitT (h)).num),.string (wmag (hitT (h)).num),.bool (wneg ((hitT (h)).den : Int)),.string (wmag ((hitT (h)).den : Int)),.int .i64 (hitK (h) : Int)]
theorem first3 (r : Ray) (t : T3) (b : Option (Rat × Nat)) : ¬ hitsR r t ∨ (hitsR r t ∧ b = none) ∨ (hitsR r t ∧ ∃ q j,b = some (q,j)):=by
 by_cases h : hitsR r t
 ·
  cases b with
  | none=>exact .inr (.inl ⟨h,rfl⟩)
  | some x=>exact .inr (.inr ⟨h,x.1,x.2,rfl⟩)
 · exact .inl h
theorem step_no {r : Ray} {t : T3} {b : Option (Rat × Nat)} {k : Nat} (h : ¬ hitsR r t) : stepR r b k t = b:=if_neg h
theorem step_none {r : Ray} {t : T3} {k : Nat} (h : hitsR r t) : stepR r none k t = some (crossR r t,k):=if_pos h
theorem step_lt {r : Ray} {t : T3} {k j : Nat} {q : Rat} (h : hitsR r t) (hq : crossR r t < q) : stepR r (some (q,j)) k t = some (crossR r t,k):=(if_pos h).trans (if_pos hq)
theorem step_ge {r : Ray} {t : T3} {k j : Nat} {q : Rat} (h : hitsR r t) (hq : ¬ crossR r t < q) : stepR r (some (q,j)) k t = some (q,j):=(if_pos h).trans (if_neg hq)
theorem bq_cross {r : Ray} {t : T3} [IR r] [IT t] : Bq 400000 (crossR r t):=by
 unfold crossR
 split
 ·
  rename_i h
  exact (Bq.mk' (a:=262) (b:=262) Bw.up Bw.up (w_slp h.1 (slp_ne h.2.1 h.2.2.2))).mono (by decide)
 · exact ⟨bd_zero _,bd_11.mono (by decide)⟩
theorem bq_first {r : Ray} {ts : List T3} [IR r] (h : ∀ t ∈ ts,IT t) : Bq 400000 (hitT (firstN r ts)):=by
 cases hb : firstN r ts with
 | none=>exact ⟨bd_zero _,bd_11.mono (by decide)⟩
 | some x =>
  obtain ⟨t,ht,_,e⟩:=first_at (q:=x.1) (k:=x.2) hb
  haveI:=h t ht
  show Bq 400000 x.1
  rw [← e]
  exact bq_cross
theorem rayFirst_c {r : Ray} {ts : List T3} [IR r] {N cap : Nat} {A : Option Addr} (w : World) (hT : TrisAt w A N ts) (hN : N < 4611686018427387904) : Does Tryz.prog 27 [rayV r,.slice A N cap] w (fun v _=>v = .tuple #[hitV (firstN r ts),.bool (firstN r ts).isSome]):=by
 refine ⟨en_27,?_⟩
 have m:=Mem.refl w
 go_enter Tryz.func27,Tryz.ntmps27
 refine c_seq fun K1 k1=>wp_region_lit (mboxA m rfl ?_)
 clear m; intro g1 u m
 simp only [ev,zD,zE,zF,zG]
 refine malloc m zero_43 rfl ?_
 clear m; intro g2 u m
 refine n_val (r_assign) (n_nil (k1 _ _ ?_))
 refine c_seq fun K2 k2=>wp_region_lit ?_
 simp only [ev,zD,zE,zF,zG]
 refine mcallP m rfl rfl (rayNone_c) ?_
 clear m; intro u m
 refine n_val (r_build_43_0 rfl) ?_
 simp only [ev,zD,zE,zF,zG]
 refine malloc m zero_43 rfl ?_
 clear m; intro g3 u m
 simp only [ev,zD,zE,zF,zG]
 refine mstoreA m 0 rfl rfl rfl cells_43 (leT rfl) rfl ?_
 clear m; intro u m; simp only [over,zH,zI,zJ,zK,zL,zM,zN,zO,zP,zF,zG,Nat.reduceAdd] at m
 refine n_val (r_assign) (n_nil (k2 _ _ ?_))
 refine c_seq fun K3 k3=>c_seq fun K4 k4=>wp_region_lit (n_val (r_move) (n_val (r_lenS rfl Tryz.underlying48 rfl) (n_val (r_move) ?_)))
 simp only [ev,zD,zE,zF,zG]
 refine n_nil (k4 _ _ ?_)
 refine wp_block ?_
 try simp only [Nat.zero_add,Nat.reduceAdd,Nat.reduceMul,Int.reduceToNat]
 refine c_loopg [7,16] [8,9,10,11,17,18,19,20,21,22,23,24,25,26,27,28,29,30,31,32,33,34,35,36,37,38,39,40,41,42] (fun n vs wl=>∃ (k : Nat) (b : Bool),vs = [.bool b,.int .i64 (k:Int)] ∧ Mem w wl [bI g3 [.bool (wneg (hitT (firstN r (ts.take k))).num),.string (wmag (hitT (firstN r (ts.take k))).num),.bool (wneg ((hitT (firstN r (ts.take k))).den : Int)),.string (wmag ((hitT (firstN r (ts.take k))).den : Int)),.int .i64 (hitK (firstN r (ts.take k)) : Int)] 43,bI g2 [.bool false,.string ⟨#[]⟩,.bool false,.string ⟨#[]⟩,.int .i64 0] 43,bI g1 [.int .i64 r.s.x,.int .i64 r.s.y,.int .i64 r.s.z,.int .i64 r.w,.int .i64 r.d.x,.int .i64 r.d.y,.int .i64 r.d.z] 25] ∧ (b = (firstN r (ts.take k)).isSome) ∧ (k ≤ N) ∧ (n = N - k)) ?_ ?_
 ·
  apply Exists.intro
  simp only [zQ,zR,zD,zE]
  exact ⟨0,false,rfl,m,rfl,Nat.zero_le _,rfl⟩
 ·
  intro n vs wr hI u
  clear m
  obtain ⟨k,b,rfl,m,hb,hk,hn⟩:=hI
  simp only [setG_cons,setG_nil,setMany_cons,setMany_nil,zF,zG]
  refine c_seq fun K5 k5=>wp_region_lit (n_val (r_lss rfl rfl) (n_nil (k5 _ _ ?_)))
  refine c_seq fun K6 k6=>?_
  simp only [ev,zD,zE,zF,zG]
  refine c_if rfl (fun hc1=>?_) (fun hc1=>?_)
  ·
   obtain ⟨t,ht,hit,a,rfl,hrow⟩:=hT.get (i:=k) (by omega)
   refine wp_skip (k6 _ _ ?_)
   refine c_seq fun K7 k7=>wp_block (c_seq fun K8 k8=>wp_region_lit (n_val (r_move) ?_))
   simp only [ev,zD,zE,zF,zG]
   refine n_val (r_indexAddrS Tryz.underlying48 cells_58 rfl rfl (by omega) (by omega) (addrN (Int.toNat_natCast _))) ?_
   simp only [ev,zD,zE,zF,zG]
   refine n_load rfl (((hrow.ext m.ext)).lies agg_58 cells_58) ?_
   simp only [ev,zD,zE,zF,zG]
   refine malloc m zero_58 rfl ?_
   clear m; intro g4 u m
   refine n_val (r_assign) ?_
   simp only [ev,zD,zE,zF,zG]
   refine mstoreA m 0 rfl rfl rfl cells_58 (leT rfl) rfl ?_
   clear m; intro u m; simp only [over,zH,zI,zJ,zK,zL,zM,zN,zO,zP,zF,zG,Nat.reduceAdd] at m
   refine n_nil (k8 _ _ ?_)
   refine c_seq fun K9 k9=>wp_region_lit (n_load rfl ((m.b 3 rfl).full agg_25 cells_25) ?_)
   simp only [ev,zD,zE,zF,zG]
   refine n_load rfl ((m.b 0 rfl).full agg_58 cells_58) ?_
   simp only [ev,zD,zE,zF,zG]
   refine mcallP m rfl rfl (rayCross_c (t:=t)) ?_
   clear m; intro u m
   refine n_val (r_move) (n_val (r_extract rfl rfl) (n_val (r_extract rfl rfl) ?_))
   simp only [ev,zD,zE,zF,zG]
   refine malloc m zero_37 rfl ?_
   clear m; intro g5 u m
   simp only [ev,zD,zE,zF,zG]
   refine mstoreA m 0 rfl rfl rfl cells_37 (leT rfl) rfl ?_
   clear m; intro u m; simp only [over,zH,zI,zJ,zK,zL,zM,zN,zO,zP,zF,zG,Nat.reduceAdd] at m
   refine n_val (r_assign) (n_nil (k9 _ _ ?_))
   refine c_seq fun K10 k10=>?_
   simp only [ev,zD,zE,zF,zG]
   rcases first3 r t (firstN r (ts.take k)) with hh | ⟨hh,hb1⟩ | ⟨hh,q,j,hb1⟩
   ·
    rw [decide_eq_false hh]
    have hq : firstN r (ts.take (k + 1)) = firstN r (ts.take k):=by rw [first_step ht]; exact step_no hh
    refine wp_region_lit (n_val (r_move) (n_val (r_move) (n_skipT rfl (n_skipT rfl ?_))))
    simp only [ev,zD,zE,zF,zG]
    refine n_skipT rfl (n_skip0 rfl (n_skip0 rfl (n_skip0 rfl ?_)))
    simp only [ev,zD,zE,zF,zG]
    refine n_skip0 rfl (n_skip0 rfl (n_skipT rfl (n_val (r_pickF rfl) ?_)))
    simp only [ev,zD,zE,zF,zG]
    refine n_nil (k10 _ _ ?_)
    refine c_no rfl (wp_skip (k7 _ _ ?_))
    refine wp_region_lit (n_val (r_add rfl rfl (wrap_i64 (by omega) (by omega))) (n_val (r_move) (n_nil ?_)))
    simp only [ev,zD,zE,zF,zG]
    simp only [Exit.inBlock,Exit.then]
    refine ⟨N - (k + 1),_,?_,rfl,?_,?_⟩
    · omega
    · simp only [zQ,zR,zD,zE,setG_cons,setG_nil,setMany_cons,setMany_nil,zF,zG]
    ·
     simp only [zQ,zR,zD,zE]
     exact ⟨k + 1,_,rfl,((m.re 2 rfl (by rw [hq]; exact (m.b 2 rfl))).sel [false,false,true,true,true]),by rw [hq]; first | rfl | exact hb,by omega,rfl⟩
   ·
    rw [decide_eq_true hh]
    obtain rfl : b = false:=by rw [hb,hb1]; rfl
    have hq : firstN r (ts.take (k + 1)) = some (crossR r t,k):=by rw [first_step ht,hb1]; exact step_none hh
    refine wp_region_lit (n_val (r_move) (n_val (r_move) (n_want rfl (n_val (r_move) (n_want rfl (n_val (r_not rfl) ?_))))))
    simp only [ev,zD,zE,zF,zG]
    refine n_want rfl (n_val (r_move) (n_skipF rfl (n_skipF rfl (n_skipF rfl ?_))))
    simp only [ev,zD,zE,zF,zG]
    refine n_skipF rfl (n_skipF rfl (n_want rfl (n_val (r_pickT rfl) (n_val (r_pickT rfl) ?_))))
    simp only [ev,zD,zE,zF,zG]
    refine n_nil (k10 _ _ ?_)
    refine c_yes rfl (wp_region_lit (n_load rfl ((m.b 0 rfl).full agg_37 cells_37) ?_))
    simp only [ev,zD,zE,zF,zG]
    refine n_val (r_move) (n_val (r_build_43_0_1 rfl rfl) ?_)
    simp only [ev,zD,zE,zF,zG]
    refine mstoreA m 2 rfl rfl rfl cells_43 (leT rfl) rfl ?_
    clear m; intro u m; simp only [over,zH,zI,zJ,zK,zL,zM,zN,zO,zP,zF,zG,Nat.reduceAdd] at m
    refine n_val (r_assign) (n_nil (k7 _ _ ?_))
    refine wp_region_lit ?_
    simp only [ev,zD,zE,zF,zG]
    refine n_val (r_add rfl rfl (wrap_i64 (by omega) (by omega))) (n_val (r_move) (n_nil ?_))
    simp only [ev,zD,zE,zF,zG]
    simp only [Exit.inBlock,Exit.then]
    refine ⟨N - (k + 1),_,?_,rfl,?_,?_⟩
    · omega
    · simp only [zQ,zR,zD,zE,setG_cons,setG_nil,setMany_cons,setMany_nil,zF,zG]
    ·
     simp only [zQ,zR,zD,zE]
     exact ⟨k + 1,_,rfl,((m.re 2 rfl (by rw [hq]; exact (m.b 2 rfl))).sel [false,false,true,true,true]),by rw [hq]; first | rfl | exact hb,by omega,rfl⟩
   ·
    rw [decide_eq_true hh]
    obtain rfl : b = true:=by rw [hb,hb1]; rfl
    refine wp_region_lit (n_val (r_move) (n_val (r_move) (n_want rfl (n_val (r_move) (n_want rfl (n_val (r_not rfl) ?_))))))
    simp only [ev,zD,zE,zF,zG]
    refine n_want rfl (n_val (r_move) (n_want rfl ?_))
    simp only [ev,zD,zE,zF,zG]
    refine n_load rfl ((m.b 0 rfl).full agg_37 cells_37) ?_
    simp only [ev,zD,zE,zF,zG]
    refine n_want rfl (n_val (r_fieldAddr (c:=3) Tryz.underlying43 rfl cells_37 rfl rfl) (n_want rfl ?_))
    simp only [ev,zD,zE,zF,zG]
    refine n_load rfl ((m.b 2 rfl).lies agg_37 cells_37 rfl rfl) ?_
    simp only [ev,zD,zE,zF,zG,zH,zI,zJ,zK,Nat.zero_add,Nat.reduceAdd,Nat.reduceMul,Int.reduceToNat]
    refine n_want rfl (mcallP m rfl rfl (CmpFrac_c (p:=crossR r t) (q:=hitT (firstN r (ts.take k))) bq_cross (bq_first (fun u hu=>hT.it u (List.mem_of_mem_take hu)))) ?_)
    clear m; intro u m
    refine n_want rfl (n_val (r_lss rfl rfl) (n_want rfl (n_val (r_pickF rfl) (n_val (r_pickT rfl) ?_))))
    simp only [ev,zD,zE,zF,zG]
    refine n_nil (k10 _ _ ?_)
    refine c_if rfl (fun hc2=>?_) (fun hc2=>?_)
    ·
     have hq : firstN r (ts.take (k + 1)) = some (crossR r t,k):=by rw [first_step ht,hb1]; exact step_lt hh (by have:=qcmp_lt.1 hc2; rwa [hb1] at this)
     refine wp_region_lit (n_load rfl ((m.b 0 rfl).full agg_37 cells_37) ?_)
     simp only [ev,zD,zE,zF,zG]
     refine n_val (r_move) (n_val (r_build_43_0_1 rfl rfl) ?_)
     simp only [ev,zD,zE,zF,zG]
     refine mstoreA m 2 rfl rfl rfl cells_43 (leT rfl) rfl ?_
     clear m; intro u m; simp only [over,zH,zI,zJ,zK,zL,zM,zN,zO,zP,zF,zG,Nat.reduceAdd] at m
     refine n_val (r_assign) (n_nil (k7 _ _ ?_))
     refine wp_region_lit ?_
     simp only [ev,zD,zE,zF,zG]
     refine n_val (r_add rfl rfl (wrap_i64 (by omega) (by omega))) (n_val (r_move) (n_nil ?_))
     simp only [ev,zD,zE,zF,zG]
     simp only [Exit.inBlock,Exit.then]
     refine ⟨N - (k + 1),_,?_,rfl,?_,?_⟩
     · omega
     · simp only [zQ,zR,zD,zE,setG_cons,setG_nil,setMany_cons,setMany_nil,zF,zG]
     ·
      simp only [zQ,zR,zD,zE]
      exact ⟨k + 1,_,rfl,((m.re 2 rfl (by rw [hq]; exact (m.b 2 rfl))).sel [false,false,true,true,true]),by rw [hq]; first | rfl | exact hb,by omega,rfl⟩
    ·
     have hq : firstN r (ts.take (k + 1)) = firstN r (ts.take k):=by rw [first_step ht,hb1]; exact step_ge hh (by have:=mt qcmp_lt.2 hc2; rwa [hb1] at this)
     refine wp_skip (k7 _ _ ?_)
     refine wp_region_lit (n_val (r_add rfl rfl (wrap_i64 (by omega) (by omega))) (n_val (r_move) (n_nil ?_)))
     simp only [ev,zD,zE,zF,zG]
     simp only [Exit.inBlock,Exit.then]
     refine ⟨N - (k + 1),_,?_,rfl,?_,?_⟩
     · omega
     · simp only [zQ,zR,zD,zE,setG_cons,setG_nil,setMany_cons,setMany_nil,zF,zG]
     ·
      simp only [zQ,zR,zD,zE]
      exact ⟨k + 1,_,rfl,((m.re 2 rfl (by rw [hq]; exact (m.b 2 rfl))).sel [false,false,true,true,true]),by rw [hq]; first | rfl | exact hb,by omega,rfl⟩
  ·
   have e : ts.take k = ts:=List.take_of_length_le (by rw [hT.len]; omega)
   simp only [e] at m hb
   refine wp_exit (k3 _ _ ?_)
   refine c_seq fun K11 k11=>wp_region_lit (n_load rfl ((m.b 0 rfl).full agg_43 cells_43) ?_)
   simp only [ev,zD,zE,zF,zG]
   refine n_val (r_move) ?_
   simp only [ev,zD,zE,zF,zG]
   refine mstoreA m 1 rfl rfl rfl cells_43 (leT rfl) rfl ?_
   clear m; intro u m; simp only [over,zH,zI,zJ,zK,zL,zM,zN,zO,zP,zF,zG,Nat.reduceAdd] at m
   refine n_val (r_assign) (n_nil (k11 _ _ ?_))
   refine wp_ret ?_
   simp only [ev,zD,zE,zF,zG]
   try simp only [Exit.inBlock,Exit.then,if_true]
   refine fin2 rfl ⟨_,rfl,((m.b 1 rfl).full agg_43 cells_43)⟩ rfl ?_
   try simp only [zD,zE]
   exact ⟨_,rfl,m.ext,by rw [hb]; rfl⟩
end Go.Proofs.YtimjandkmfcmiaaGreatDoor
namespace Go.Proofs.YtimjandkmfcmiaaGreatDoor
open Go.RowKit Go.Lith
set_option maxRecDepth 100000
attribute [local irreducible] wpList wpQuiet wpMix wpMixH wpTree Code.wp
def boxV : Option (Rat × Rat) → Go.Value
 | none=>.tuple #[Q 0,Q 0,.bool false]
 | some (p,q)=>.tuple #[Q p,Q q,.bool true]
def outC : Option Rat → List Go.Value
 | none=>[.bool false,.string ⟨#[]⟩,.bool false,.string ⟨#[]⟩]
 | some q=>[.bool (wneg (q).num),.string (wmag (q).num),.bool (wneg ((q).den : Int)),.string (wmag ((q).den : Int))]
theorem outC4 (o : Option Rat) : ∃ c0 c1 c2 c3,outC o = [c0,c1,c2,c3]:=by
 cases o <;> exact ⟨_,_,_,_,rfl⟩
theorem w_ne {r : Ray} {d : Int} (hok : r.ok) (h : d ≠ 0) : r.w * d ≠ 0:=fun e=>by
 rcases Int.mul_eq_zero.1 e with e | e
 ·
  have:=hok.1
  omega
 · exact h e
theorem box_off {r : Ray} {lo hi : P3} {k : Nat} {st : Rat × Option Rat} (hk : k < 3) (h : axN r lo hi k = some st) (ho : axOff ((r.to lo).at k) ((r.to hi).at k) (r.d.at k)) : boxR r lo hi = none:=by
 have h1 : axN r lo hi (k + 1) = none:=by rw [axN,h,Option.bind_some,axR,if_pos ho]
 have up : ∀ j,axN r lo hi (k + 1 + j) = none:=by
  intro j
  induction j with
  | zero=>exact h1
  | succ j ih=>rw [← Nat.add_assoc,axN,ih]; rfl
 have h3 : axN r lo hi 3 = none:=by have:=up (3 - (k + 1)); rwa [show k + 1 + (3 - (k + 1)) = 3 by omega] at this
 unfold boxR
 rw [h3]
 split <;> rfl
theorem axN_skip {r : Ray} {lo hi : P3} {k : Nat} {st : Rat × Option Rat} (h : axN r lo hi k = some st) (ho : ¬ axOff ((r.to lo).at k) ((r.to hi).at k) (r.d.at k)) (hd : r.d.at k = 0) : axN r lo hi (k + 1) = some st:=by
 rw [axN,h,Option.bind_some,axR,if_neg ho,if_pos hd]
theorem axN_go {r : Ray} {lo hi : P3} {k : Nat} {st : Rat × Option Rat} (h : axN r lo hi k = some st) (ho : ¬ axOff ((r.to lo).at k) ((r.to hi).at k) (r.d.at k)) (hd : ¬ r.d.at k = 0) :
  axN r lo hi (k + 1) = some (maxQ st.1 (axFr r ((r.to lo).at k) ((r.to hi).at k) (r.d.at k)),some (minO st.2 (axTo r ((r.to lo).at k) ((r.to hi).at k) (r.d.at k)))):=by
 rw [axN,h,Option.bind_some,axR,if_neg ho,if_neg hd]
def BqO (o : Option Rat) : Prop:=∀ q,o = some q → Bq 400000 q
theorem bqo_some {q : Rat} (h : Bq 400000 q) : BqO (some q):=fun p e=>by cases e; exact h
theorem bq_ax {r : Ray} {n d : Int} [IR r] (hn : Bd 129 n) (hd : Bd 64 d) (h : d ≠ 0) (hok : r.ok) : Bq 400000 (Rat.divInt n (r.w * d)) :=
 haveI : Bw 129 n:=⟨hn⟩
 haveI : Bw 64 d:=⟨hd⟩
 (Bq.mk' (a:=129) (b:=200) Bw.up Bw.up (fun e=>by
  rcases Int.mul_eq_zero.1 e with e | e
  · have:=hok.1; omega
  · exact h e)).mono (by decide)
theorem bq_max {p q : Rat} (hp : Bq 400000 p) (hq : Bq 400000 q) : Bq 400000 (maxQ p q):=by
 unfold maxQ
 split
 · exact hq
 · exact hp
theorem bq_min {o : Option Rat} {q : Rat} (ho : BqO o) (hq : Bq 400000 q) : Bq 400000 (minO o q):=by
 unfold minO
 split
 · exact hq
 ·
  split
  · exact hq
  · exact ho _ rfl
theorem axN_some {r : Ray} {lo hi : P3} {k : Nat} {st : Rat × Option Rat} (h : axN r lo hi k = some st) (hd : ∃ j,j < k ∧ ¬ r.d.at j = 0) : st.2.isSome = true:=by
 induction k generalizing st with
 | zero=>obtain ⟨j,hj,_⟩:=hd; omega
 | succ k ih =>
  rw [axN] at h
  obtain ⟨s,hs,e⟩:=Option.bind_eq_some_iff.1 h
  unfold axR at e
  split at e
  · cases e
  ·
   split at e
   ·
    rename_i h0
    cases e
    obtain ⟨j,hj,hn⟩:=hd
    refine ih hs ⟨j,?_,hn⟩
    rcases Nat.lt_or_ge j k with h | h
    · exact h
    ·
     have : j = k:=by omega
     subst this; exact absurd h0 hn
   · cases e; rfl
theorem ok_some {r : Ray} {lo hi : P3} {st : Rat × Option Rat} (hok : r.ok) (h : axN r lo hi 3 = some st) : ∃ q,st.2 = some q:=by
 refine Option.isSome_iff_exists.1 (axN_some h ?_)
 by_cases hx : r.d.x = 0
 ·
  by_cases hy : r.d.y = 0
  · exact ⟨2,by decide,fun hz=>hok.2 ⟨hx,hy,hz⟩⟩
  · exact ⟨1,by decide,hy⟩
 · exact ⟨0,by decide,hx⟩
theorem box_end {r : Ray} {lo hi : P3} {p q : Rat} (hok : r.ok) (h : axN r lo hi 3 = some (p,some q)) : boxR r lo hi = if q < p then none else some (p,q):=by
 rw [boxR,if_pos hok,h,Option.bind_some]
theorem box6 (n f d : Int) : f < n ∨ (¬ f < n ∧ d = 0 ∧ 0 < n) ∨ (¬ f < n ∧ d = 0 ∧ ¬ 0 < n ∧ f < 0) ∨ (¬ f < n ∧ d = 0 ∧ ¬ 0 < n ∧ ¬ f < 0) ∨ (¬ f < n ∧ d < 0) ∨ (¬ f < n ∧ 0 < d):=by omega
theorem k3 {k : Nat} (h : k < 3) : k = 0 ∨ k = 1 ∨ k = 2:=by omega
instance {b k : Nat} {v : P3} [h : Bv b v] : Bw b (v.at k):=⟨by unfold P3.at; split; exact h.x; exact h.y; exact h.z⟩
instance {k : Nat} {v : P3} [h : I3 v] : Iw (v.at k):=⟨by unfold P3.at; split; exact h.x; exact h.y; exact h.z⟩
theorem at3 (v : P3) {k : Nat} (h : k < 3) : (#[Go.Value.int .i64 v.x,.int .i64 v.y,.int .i64 v.z] : Array Go.Value)[((k : Nat) : Int).toNat * 1]? = some (.int .i64 (v.at k)):=by
 rcases k3 h with rfl | rfl | rfl <;> rfl
theorem lies_at {w : World} {g k : Nat} {v : P3} (hB : Blk w g [.bool (wneg (v).x),.string (wmag (v).x),.bool (wneg (v).y),.string (wmag (v).y),.bool (wneg (v).z),.string (wmag (v).z)] 108) (h : k < 3) : Lies Tryz.prog w 35 ⟨g,k * 2,none⟩ (W (v.at k)):=by
 rcases k3 h with rfl | rfl | rfl
 · exact hB.lies (i:=0) agg_35 cells_35 rfl rfl
 · exact hB.lies (i:=2) agg_35 cells_35 rfl rfl
 · exact hB.lies (i:=4) agg_35 cells_35 rfl rfl
theorem rayBox_c {r : Ray} {lo hi : P3} [IR r] [I3 lo] [I3 hi] : Pure Tryz.prog 45 [rayV r,pt lo,pt hi] (boxV (boxR r lo hi)):=by
 intro w
 refine ⟨en_45,?_⟩
 have m:=Mem.refl w
 go_enter Tryz.func45,Tryz.ntmps45
 refine c_seq fun K1 k1=>wp_region_lit (mboxA m rfl ?_)
 clear m; intro g1 u m
 simp only [ev,zD,zE,zF,zG]
 refine mboxA m rfl ?_
 clear m; intro g2 u m
 simp only [ev,zD,zE,zF,zG]
 refine mboxA m rfl ?_
 clear m; intro g3 u m
 simp only [ev,zD,zE,zF,zG]
 refine malloc m zero_37 rfl ?_
 clear m; intro g4 u m
 simp only [ev,zD,zE,zF,zG]
 refine malloc m zero_37 rfl ?_
 clear m; intro g5 u m
 refine n_val (r_assign) (n_nil (k1 _ _ ?_))
 refine c_seq fun K2 k2=>c_seq fun K3 k3=>?_
 simp only [ev,zD,zE,zF,zG]
 rcases Decidable.em r.ok with hok | hok
 ·
  refine wp_region_lit (n_load rfl ((m.b 4 rfl).full agg_25 cells_25) ?_)
  simp only [ev,zD,zE,zF,zG]
  refine mcallP m rfl rfl (permittedT hok) ?_
  clear m; intro u m
  refine n_val (r_not rfl) (n_nil (k3 _ _ ?_))
  refine c_no rfl (wp_skip (k2 _ _ ?_))
  refine c_seq fun K4 k4=>?_
  simp only [ev,zD,zE,zF,zG]
  refine wp_region_fresh 12 [0,1,2,3,4,5,6,7,8,9] [⟨10,9,108,[.bool false,.string ⟨#[]⟩,.bool false,.string ⟨#[]⟩,.bool false,.string ⟨#[]⟩]⟩,⟨11,10,35,[.bool false,.string ⟨#[]⟩]⟩] follows_mixed (by kernel_rfl) (al2 ⟨_,_,_,rfl,by kernel_rfl,_,zero_108,rfl⟩ ⟨_,_,_,rfl,by kernel_rfl,_,zero_35,rfl⟩) (ol:=?_) ?hol ?_
  case hol=>simp only [zQ,zR,zS,zT,zU,zV]; try rfl
  intro u e; replace m:=m.ext' e; clear e
  refine e_val (r_fieldAddr (c:=0) Tryz.underlying25 rfl cells_3 rfl rfl) ?_
  simp only [ev,zD,zE,zF,zG]
  refine e_load rfl (fun u e=>(((m.ext' e).b 4 rfl).lies1 agg_3 rfl)) ?_
  simp only [ev,zD,zE,zF,zG]
  refine e_val (r_fieldAddr (c:=0) Tryz.underlying25 rfl cells_3 rfl rfl) ?_
  simp only [ev,zD,zE,zF,zG]
  refine e_load rfl (fun u e=>(((m.ext' e).b 4 rfl).lies1 agg_3 rfl)) ?_
  simp only [ev,zD,zE,zF,zG]
  refine e_val (r_fieldAddr (c:=0) Tryz.underlying25 rfl cells_3 rfl rfl) ?_
  simp only [ev,zD,zE,zF,zG]
  refine e_load rfl (fun u e=>(((m.ext' e).b 4 rfl).lies1 agg_3 rfl)) ?_
  simp only [ev,zD,zE,zF,zG]
  refine e_callP rfl rfl (of_c) (e_val (r_fieldAddr (c:=0) Tryz.underlying25 rfl cells_3 rfl rfl) ?_)
  simp only [ev,zD,zE,zF,zG]
  refine e_load rfl (fun u e=>(((m.ext' e).b 4 rfl).lies1 agg_3 rfl)) ?_
  simp only [ev,zD,zE,zF,zG]
  refine e_callP rfl rfl (From_c Iw.h) (e_nil ?_)
  simp only [ev,zD,zE,zF,zG]
  refine mf2 m (by decide) ?_
  clear m; intro g6 g7 u m
  simp only [zJ,zK,zF,zG]
  refine mstoreA m 1 rfl rfl rfl cells_108 (leT rfl) rfl ?_
  clear m; intro u m; simp only [over,zH,zI,zJ,zK,zL,zM,zN,zO,zP,zF,zG,Nat.reduceAdd] at m
  refine mstoreA m 0 rfl rfl rfl cells_35 (leT rfl) rfl ?_
  clear m; intro u m; simp only [over,zH,zI,zJ,zK,zL,zM,zN,zO,zP,zF,zG,Nat.reduceAdd] at m
  refine n_nil (k4 _ _ ?_)
  refine c_seq fun K5 k5=>?_
  refine wp_region_fresh 14 [0,1,2,3,4,5,6,7,8,9,10,11] [⟨12,11,108,[.bool false,.string ⟨#[]⟩,.bool false,.string ⟨#[]⟩,.bool false,.string ⟨#[]⟩]⟩,⟨13,12,108,[.bool false,.string ⟨#[]⟩,.bool false,.string ⟨#[]⟩,.bool false,.string ⟨#[]⟩]⟩] follows_mixed (by kernel_rfl) (al2 ⟨_,_,_,rfl,by kernel_rfl,_,zero_108,rfl⟩ ⟨_,_,_,rfl,by kernel_rfl,_,zero_108,rfl⟩) (ol:=?_) ?hol ?_
  case hol=>simp only [zQ,zR,zS,zT,zU,zV]; try rfl
  intro u e; replace m:=m.ext' e; clear e
  refine e_load rfl (fun u e=>(((m.ext' e).b 5 rfl).full agg_56 cells_56)) ?_
  simp only [ev,zD,zE,zF,zG]
  refine e_callP rfl rfl (rayPoint_c) ?_
  simp only [ev,zD,zE,zF,zG]
  refine e_load rfl (fun u e=>(((m.ext' e).b 0 rfl).full agg_35 cells_35)) ?_
  simp only [ev,zD,zE,zF,zG]
  refine e_callP rfl rfl (vTimes_c Bv.of ⟨Bw.up⟩) ?_
  simp only [ev,zD,zE,zF,zG]
  refine e_load rfl (fun u e=>(((m.ext' e).b 1 rfl).full agg_108 cells_108)) ?_
  simp only [ev,zD,zE,zF,zG]
  refine e_callP rfl rfl (vMinus_c Bv.of Bv.of) ?_
  simp only [ev,zD,zE,zF,zG]
  refine e_load rfl (fun u e=>(((m.ext' e).b 4 rfl).full agg_56 cells_56)) ?_
  simp only [ev,zD,zE,zF,zG]
  refine e_callP rfl rfl (rayPoint_c) ?_
  simp only [ev,zD,zE,zF,zG]
  refine e_load rfl (fun u e=>(((m.ext' e).b 0 rfl).full agg_35 cells_35)) ?_
  simp only [ev,zD,zE,zF,zG]
  refine e_callP rfl rfl (vTimes_c Bv.of ⟨Bw.up⟩) ?_
  simp only [ev,zD,zE,zF,zG]
  refine e_load rfl (fun u e=>(((m.ext' e).b 1 rfl).full agg_108 cells_108)) ?_
  simp only [ev,zD,zE,zF,zG]
  refine e_callP rfl rfl (vMinus_c Bv.of Bv.of) (e_nil ?_)
  simp only [ev,zD,zE,zF,zG]
  refine mf2 m (by decide) ?_
  clear m; intro g8 g9 u m
  simp only [zJ,zK,zF,zG]
  refine mstoreA m 1 rfl rfl rfl cells_108 (leT rfl) rfl ?_
  clear m; intro u m; simp only [over,zH,zI,zJ,zK,zL,zM,zN,zO,zP,zF,zG,Nat.reduceAdd] at m
  refine mstoreA m 0 rfl rfl rfl cells_108 (leT rfl) rfl ?_
  clear m; intro u m; simp only [over,zH,zI,zJ,zK,zL,zM,zN,zO,zP,zF,zG,Nat.reduceAdd] at m
  refine n_nil (k5 _ _ ?_)
  refine c_seq fun K6 k6=>wp_region_lit (mcallP m rfl rfl (rayNone_c) ?_)
  clear m; intro u m
  simp only [ev,zD,zE,zF,zG]
  refine mstoreA m 5 rfl rfl rfl cells_37 (leT rfl) rfl ?_
  clear m; intro u m; simp only [over,zH,zI,zJ,zK,zL,zM,zN,zO,zP,zF,zG,Nat.reduceAdd] at m
  refine n_val (r_assign) (n_nil (k6 _ _ ?_))
  refine c_seq fun K7 k7=>c_seq fun K8 k8=>wp_region_lit (n_val (r_fieldAddr (c:=2) Tryz.underlying25 rfl cells_23 rfl rfl) ?_)
  simp only [ev,zD,zE,zF,zG]
  refine n_load rfl ((m.b 8 rfl).lies agg_23 cells_23 rfl rfl) ?_
  simp only [ev,zD,zE,zF,zG,zH,zI,zJ,zK,Nat.zero_add,Nat.reduceAdd,Nat.reduceMul,Int.reduceToNat]
  refine n_val (r_move) (n_nil (k8 _ _ ?_))
  refine wp_block ?_
  simp only [ev,zD,zE,zF,zG]
  try simp only [Nat.zero_add,Nat.reduceAdd,Nat.reduceMul,Int.reduceToNat]
  refine c_loopg [13,51] [8,14,15,16,17,18,19,20,52,53,54,55,56,57,58,59,60,61,62,63,64,65,66,67,68,69,70,71,72,73,74,75,76,77,78,79,80,81,82,83,84,85,86,87,88,89,90,91,92,93,94,95,96,97,98,99,100,101,102,103,104,105,106,107,108,109,110,111,112] (fun n vs wl=>∃ (k : Nat) (p : Rat) (o : Option Rat) (bb : Bool),vs = [.bool bb,.int .i64 (k:Int)] ∧ Mem w wl [bI g9 [.bool (wneg ((r.to hi)).x),.string (wmag ((r.to hi)).x),.bool (wneg ((r.to hi)).y),.string (wmag ((r.to hi)).y),.bool (wneg ((r.to hi)).z),.string (wmag ((r.to hi)).z)] 108,bI g8 [.bool (wneg ((r.to lo)).x),.string (wmag ((r.to lo)).x),.bool (wneg ((r.to lo)).y),.string (wmag ((r.to lo)).y),.bool (wneg ((r.to lo)).z),.string (wmag ((r.to lo)).z)] 108,bI g7 [.bool (wneg r.w),.string (wmag r.w)] 35,bI g6 [.bool (wneg (r.s).x),.string (wmag (r.s).x),.bool (wneg (r.s).y),.string (wmag (r.s).y),.bool (wneg (r.s).z),.string (wmag (r.s).z)] 108,bI g5 (outC o) 37,bI g4 [.bool (wneg (p).num),.string (wmag (p).num),.bool (wneg ((p).den : Int)),.string (wmag ((p).den : Int))] 37,bI g3 [.int .i64 hi.x,.int .i64 hi.y,.int .i64 hi.z] 56,bI g2 [.int .i64 lo.x,.int .i64 lo.y,.int .i64 lo.z] 56,bI g1 [.int .i64 r.s.x,.int .i64 r.s.y,.int .i64 r.s.z,.int .i64 r.w,.int .i64 r.d.x,.int .i64 r.d.y,.int .i64 r.d.z] 25] ∧ (axN r lo hi k = some (p,o)) ∧ (bb = o.isSome) ∧ (Bq 400000 p) ∧ (BqO o) ∧ (k ≤ 3) ∧ (n = 3 - k)) ?_ ?_
  ·
   apply Exists.intro
   simp only [zQ,zR,zD,zE]
   exact ⟨0,0,none,false,rfl,m,rfl,rfl,⟨bd_zero _,bd_11.mono (by decide)⟩,(fun q h=>by cases h),Nat.zero_le _,rfl⟩
  ·
   intro n vs wr hI u
   clear m
   obtain ⟨k,p,o,bb,rfl,m,ha,hbb,hbp,hbo,hk,hn⟩:=hI
   simp only [setG_cons,setG_nil,setMany_cons,setMany_nil,zF,zG]
   refine c_seq fun K9 k9=>wp_region_lit (n_val (r_lss rfl rfl) (n_nil (k9 _ _ ?_)))
   refine c_seq fun K10 k10=>?_
   simp only [ev,zD,zE,zF,zG]
   refine c_if rfl (fun hc2=>?_) (fun hc2=>?_)
   ·
    have hk3 : k < 3:=by omega
    let kN : Nat:=k + 1
    let kM : Nat:=2 - k
    have hlt : kM < n:=by show 2 - k < n; omega
    refine wp_skip (k10 _ _ ?_)
    refine c_seq fun K11 k11=>wp_block (c_seq fun K12 k12=>wp_region_lit (n_val (r_move) (n_val (r_index1 Tryz.underlying23 agg_3 cells_3 rfl rfl (Int.natCast_nonneg _) (by omega) (at3 r.d hk3)) (n_val (r_assign) (n_val (r_assign) ?_)))))
    simp only [ev,zD,zE,zF,zG]
    refine n_nil (k12 _ _ ?_)
    refine c_seq fun K13 k13=>?_
    apply mcut2 m (T1:=35) (T2:=35)
    ·
     refine mtree m [true,true,true,true,true,true,true,true,true] (.take 0 (.take 1 (.take 2 (.take 3 (.take 4 (.take 5 (.two 6 (.one 7 (.one 8 (.one 9 .nil))) 7 (.one 6 (.one 8 (.one 9 .nil)))))))))) follows_mixed (by kernel_rfl) (fun _ _ _ _ _ h=>by cases h.1) ?_
     intro u m
     refine t_take (by simp only [zS,zT,zU,zV]; rfl) (h_val (r_move) (h_nil (t_take (by simp only [zS,zT,zU,zV]; rfl) ?_)))
     simp only [ev,zD,zE,zF,zG]
     refine h_val (r_indexAddrA Tryz.underlying108 cells_35 rfl rfl (by omega) (by omega) (addrBN (Int.toNat_natCast _))) (h_nil (t_take (by simp only [zS,zT,zU,zV]; rfl) ?_))
     simp only [ev,zD,zE,zF,zG]
     refine h_load rfl (fun u m=>(lies_at (m.b 1 rfl) hk3)) ?_
     simp only [ev,zD,zE,zF,zG]
     refine h_nil (t_take (by simp only [zS,zT,zU,zV]; rfl) (h_val (r_move) (h_nil (t_take (by simp only [zS,zT,zU,zV]; rfl) ?_))))
     simp only [ev,zD,zE,zF,zG]
     refine h_val (r_indexAddrA Tryz.underlying108 cells_35 rfl rfl (by omega) (by omega) (addrBN (Int.toNat_natCast _))) (h_nil (t_take (by simp only [zS,zT,zU,zV]; rfl) ?_))
     simp only [ev,zD,zE,zF,zG]
     refine h_load rfl (fun u m=>(lies_at (m.b 0 rfl) hk3)) ?_
     simp only [ev,zD,zE,zF,zG]
     refine h_nil ?_
     refine t_two (by simp only [zS,zT,zU,zV]; rfl) (by simp only [zS,zT,zU,zV]; rfl) ?_ ?_
     ·
      refine malloc m zero_35 rfl ?_
      clear m; intro g10 u m
      refine n_nil ?_
      refine ⟨m.sel [false,true,true,true,true,true,true,true,true,true],?_⟩
      refine t_one (by simp only [zS,zT,zU,zV]; rfl) ?_
      simp only [ev,zD,zE,zF,zG]
      refine malloc m zero_35 rfl ?_
      clear m; intro g11 u m
      refine n_nil ?_
      refine ⟨m.sel [false,false,true,true,true,true,true,true,true,true,true],?_⟩
      refine t_one (by simp only [zS,zT,zU,zV]; rfl) ?_
      simp only [ev,zD,zE,zF,zG]
      refine mstoreA m 1 rfl rfl rfl cells_35 (leT rfl) rfl ?_
      clear m; intro u m; simp only [over,zH,zI,zJ,zK,zL,zM,zN,zO,zP,zF,zG,Nat.reduceAdd] at m
      refine n_nil ?_
      refine ⟨m.sel [false,false,true,true,true,true,true,true,true,true,true],?_⟩
      refine t_one (by simp only [zS,zT,zU,zV]; rfl) (mstoreA m 0 rfl rfl rfl cells_35 (leT rfl) rfl ?_)
      clear m; intro u m; simp only [over,zH,zI,zJ,zK,zL,zM,zN,zO,zP,zF,zG,Nat.reduceAdd] at m
      refine n_nil ?_
      refine ⟨m.sel [false,false,true,true,true,true,true,true,true,true,true],?_⟩
      refine t_nil ?_
      exact ⟨rfl,g10,g11,rfl,m⟩
     ·
      refine malloc m zero_35 rfl ?_
      clear m; intro g10 u m
      refine n_nil ?_
      refine ⟨m.sel [false,true,true,true,true,true,true,true,true,true],?_⟩
      refine t_one (by simp only [zS,zT,zU,zV]; rfl) ?_
      simp only [ev,zD,zE,zF,zG]
      refine malloc m zero_35 rfl ?_
      clear m; intro g11 u m
      refine n_nil ?_
      refine ⟨m.sel [false,false,true,true,true,true,true,true,true,true,true],?_⟩
      refine t_one (by simp only [zS,zT,zU,zV]; rfl) ?_
      simp only [ev,zD,zE,zF,zG]
      refine mstoreA m 0 rfl rfl rfl cells_35 (leT rfl) rfl ?_
      clear m; intro u m; simp only [over,zH,zI,zJ,zK,zL,zM,zN,zO,zP,zF,zG,Nat.reduceAdd] at m
      refine n_nil ?_
      refine ⟨m.sel [false,false,true,true,true,true,true,true,true,true,true],?_⟩
      refine t_one (by simp only [zS,zT,zU,zV]; rfl) (mstoreA m 1 rfl rfl rfl cells_35 (leT rfl) rfl ?_)
      clear m; intro u m; simp only [over,zH,zI,zJ,zK,zL,zM,zN,zO,zP,zF,zG,Nat.reduceAdd] at m
      refine n_nil ?_
      refine ⟨m.sel [false,false,true,true,true,true,true,true,true,true,true],?_⟩
      refine t_nil ?_
      exact ⟨rfl,g11,g10,rfl,m.s01⟩
    intro g10 g11 u m
    try dsimp only
    refine k13 _ _ ?_
    refine c_seq fun K14 k14=>wp_block (c_seq fun K15 k15=>c_seq fun K16 k16=>?_)
    rcases box6 ((r.to lo).at k) ((r.to hi).at k) (r.d.at k) with ho | ho | ho | ho | ho | ho
    ·
     have hbx:=box_off (k:=k) hk3 ha (show axOff ((r.to lo).at k) ((r.to hi).at k) (r.d.at k) by unfold axOff; omega)
     obtain ⟨c0,c1,c2,c3,hl4⟩:=outC4 o
     rw [hl4] at m
     refine wp_region_lit (n_load rfl ((m.b 1 rfl).full agg_35 cells_35) ?_)
     simp only [ev,zD,zE,zF,zG]
     refine n_load rfl ((m.b 0 rfl).full agg_35 cells_35) ?_
     simp only [ev,zD,zE,zF,zG]
     refine mcallP m rfl rfl (Cmp_c (a:=(r.to lo).at k) (b:=(r.to hi).at k) Bw.up Bw.up) ?_
     clear m; intro u m
     refine n_val (r_gtrT rfl rfl (by rw [isign_gt]; omega)) (n_val (r_assign) (n_nil (k16 _ _ ?_)))
     refine c_yes rfl (wp_skip (k15 _ _ ?_))
     refine c_yes rfl (c_seq fun K17 k17=>wp_region_lit ?_)
     simp only [ev,zD,zE,zF,zG]
     refine mcallP m rfl rfl (rayNone_c) ?_
     clear m; intro u m
     simp only [ev,zD,zE,zF,zG]
     refine mcallP m rfl rfl (rayNone_c) ?_
     clear m; intro u m
     simp only [ev,zD,zE,zF,zG]
     refine mstoreA m 7 rfl rfl rfl cells_37 (leT rfl) rfl ?_
     clear m; intro u m; simp only [over,zH,zI,zJ,zK,zL,zM,zN,zO,zP,zF,zG,Nat.reduceAdd] at m
     refine mstoreA m 6 rfl rfl rfl cells_37 (leT rfl) rfl ?_
     clear m; intro u m; simp only [over,zH,zI,zJ,zK,zL,zM,zN,zO,zP,zF,zG,Nat.reduceAdd] at m
     refine n_val (r_assign) (n_nil (k17 _ _ ?_))
     refine wp_ret ?_
     simp only [ev,zD,zE,zF,zG]
     try simp only [Exit.inBlock,Exit.then,if_true]
     refine fin3 rfl ⟨_,rfl,((m.b 7 rfl).full agg_37 cells_37)⟩ ⟨_,rfl,((m.b 6 rfl).full agg_37 cells_37)⟩ rfl ?_
     try simp only [zD,zE]
     exact ⟨_,rfl,m.ext,by rw [hbx]; rfl⟩
    ·
     have hbx:=box_off (k:=k) hk3 ha (show axOff ((r.to lo).at k) ((r.to hi).at k) (r.d.at k) by unfold axOff; omega)
     obtain ⟨c0,c1,c2,c3,hl4⟩:=outC4 o
     rw [hl4] at m
     refine wp_region_lit (n_load rfl ((m.b 1 rfl).full agg_35 cells_35) ?_)
     simp only [ev,zD,zE,zF,zG]
     refine n_load rfl ((m.b 0 rfl).full agg_35 cells_35) ?_
     simp only [ev,zD,zE,zF,zG]
     refine mcallP m rfl rfl (Cmp_c (a:=(r.to lo).at k) (b:=(r.to hi).at k) Bw.up Bw.up) ?_
     clear m; intro u m
     refine n_val (r_gtrF rfl rfl (by rw [isign_gt]; omega)) (n_val (r_assign) (n_nil (k16 _ _ ?_)))
     refine c_no rfl (wp_region_lit (n_val (r_move) ?_))
     simp only [ev,zD,zE,zF,zG]
     refine n_val (r_eqlT rfl rfl (by omega)) (n_val (r_move) (n_want rfl ?_))
     simp only [ev,zD,zE,zF,zG]
     refine n_load rfl ((m.b 1 rfl).full agg_35 cells_35) ?_
     simp only [ev,zD,zE,zF,zG]
     refine n_want rfl (mcallP m rfl rfl (Sign_c (a:=(r.to lo).at k) Bw.up) ?_)
     clear m; intro u m
     refine n_want rfl (n_val (r_gtrT rfl rfl (by rw [isign_gt]; omega)) (n_want rfl (n_val (r_move) (n_skipF rfl ?_))))
     simp only [ev,zD,zE,zF,zG]
     refine n_skipF rfl (n_skipF rfl (n_want rfl (n_val (r_pickT rfl) (n_val (r_pickT rfl) ?_))))
     simp only [ev,zD,zE,zF,zG]
     refine n_val (r_assign) (n_nil (k15 _ _ ?_))
     refine c_yes rfl (c_seq fun K18 k18=>wp_region_lit ?_)
     simp only [ev,zD,zE,zF,zG]
     refine mcallP m rfl rfl (rayNone_c) ?_
     clear m; intro u m
     simp only [ev,zD,zE,zF,zG]
     refine mcallP m rfl rfl (rayNone_c) ?_
     clear m; intro u m
     simp only [ev,zD,zE,zF,zG]
     refine mstoreA m 7 rfl rfl rfl cells_37 (leT rfl) rfl ?_
     clear m; intro u m; simp only [over,zH,zI,zJ,zK,zL,zM,zN,zO,zP,zF,zG,Nat.reduceAdd] at m
     refine mstoreA m 6 rfl rfl rfl cells_37 (leT rfl) rfl ?_
     clear m; intro u m; simp only [over,zH,zI,zJ,zK,zL,zM,zN,zO,zP,zF,zG,Nat.reduceAdd] at m
     refine n_val (r_assign) (n_nil (k18 _ _ ?_))
     refine wp_ret ?_
     simp only [ev,zD,zE,zF,zG]
     try simp only [Exit.inBlock,Exit.then,if_true]
     refine fin3 rfl ⟨_,rfl,((m.b 7 rfl).full agg_37 cells_37)⟩ ⟨_,rfl,((m.b 6 rfl).full agg_37 cells_37)⟩ rfl ?_
     try simp only [zD,zE]
     exact ⟨_,rfl,m.ext,by rw [hbx]; rfl⟩
    ·
     have hbx:=box_off (k:=k) hk3 ha (show axOff ((r.to lo).at k) ((r.to hi).at k) (r.d.at k) by unfold axOff; omega)
     obtain ⟨c0,c1,c2,c3,hl4⟩:=outC4 o
     rw [hl4] at m
     refine wp_region_lit (n_load rfl ((m.b 1 rfl).full agg_35 cells_35) ?_)
     simp only [ev,zD,zE,zF,zG]
     refine n_load rfl ((m.b 0 rfl).full agg_35 cells_35) ?_
     simp only [ev,zD,zE,zF,zG]
     refine mcallP m rfl rfl (Cmp_c (a:=(r.to lo).at k) (b:=(r.to hi).at k) Bw.up Bw.up) ?_
     clear m; intro u m
     refine n_val (r_gtrF rfl rfl (by rw [isign_gt]; omega)) (n_val (r_assign) (n_nil (k16 _ _ ?_)))
     refine c_no rfl (wp_region_lit (n_val (r_move) ?_))
     simp only [ev,zD,zE,zF,zG]
     refine n_val (r_eqlT rfl rfl (by omega)) (n_val (r_move) (n_want rfl ?_))
     simp only [ev,zD,zE,zF,zG]
     refine n_load rfl ((m.b 1 rfl).full agg_35 cells_35) ?_
     simp only [ev,zD,zE,zF,zG]
     refine n_want rfl (mcallP m rfl rfl (Sign_c (a:=(r.to lo).at k) Bw.up) ?_)
     clear m; intro u m
     refine n_want rfl (n_val (r_gtrF rfl rfl (by rw [isign_gt]; omega)) (n_want rfl (n_val (r_move) (n_want rfl ?_))))
     simp only [ev,zD,zE,zF,zG]
     refine n_load rfl ((m.b 0 rfl).full agg_35 cells_35) ?_
     simp only [ev,zD,zE,zF,zG]
     refine n_want rfl (mcallP m rfl rfl (Sign_c (a:=(r.to hi).at k) Bw.up) ?_)
     clear m; intro u m
     refine n_want rfl (n_val (r_lssT rfl rfl (by rw [isign_neg (by omega)]; decide)) (n_want rfl (n_val (r_pickF rfl) (n_val (r_pickT rfl) ?_))))
     simp only [ev,zD,zE,zF,zG]
     refine n_val (r_assign) (n_nil (k15 _ _ ?_))
     refine c_yes rfl (c_seq fun K19 k19=>wp_region_lit ?_)
     simp only [ev,zD,zE,zF,zG]
     refine mcallP m rfl rfl (rayNone_c) ?_
     clear m; intro u m
     simp only [ev,zD,zE,zF,zG]
     refine mcallP m rfl rfl (rayNone_c) ?_
     clear m; intro u m
     simp only [ev,zD,zE,zF,zG]
     refine mstoreA m 7 rfl rfl rfl cells_37 (leT rfl) rfl ?_
     clear m; intro u m; simp only [over,zH,zI,zJ,zK,zL,zM,zN,zO,zP,zF,zG,Nat.reduceAdd] at m
     refine mstoreA m 6 rfl rfl rfl cells_37 (leT rfl) rfl ?_
     clear m; intro u m; simp only [over,zH,zI,zJ,zK,zL,zM,zN,zO,zP,zF,zG,Nat.reduceAdd] at m
     refine n_val (r_assign) (n_nil (k19 _ _ ?_))
     refine wp_ret ?_
     simp only [ev,zD,zE,zF,zG]
     try simp only [Exit.inBlock,Exit.then,if_true]
     refine fin3 rfl ⟨_,rfl,((m.b 7 rfl).full agg_37 cells_37)⟩ ⟨_,rfl,((m.b 6 rfl).full agg_37 cells_37)⟩ rfl ?_
     try simp only [zD,zE]
     exact ⟨_,rfl,m.ext,by rw [hbx]; rfl⟩
    ·
     have hgo:=axN_skip (k:=k) ha (show ¬ axOff ((r.to lo).at k) ((r.to hi).at k) (r.d.at k) by unfold axOff; omega) (show r.d.at k = 0 by omega)
     let pE : Rat:=p
     let oE : Option Rat:=o
     refine wp_region_lit (n_load rfl ((m.b 1 rfl).full agg_35 cells_35) ?_)
     simp only [ev,zD,zE,zF,zG]
     refine n_load rfl ((m.b 0 rfl).full agg_35 cells_35) ?_
     simp only [ev,zD,zE,zF,zG]
     refine mcallP m rfl rfl (Cmp_c (a:=(r.to lo).at k) (b:=(r.to hi).at k) Bw.up Bw.up) ?_
     clear m; intro u m
     refine n_val (r_gtrF rfl rfl (by rw [isign_gt]; omega)) (n_val (r_assign) (n_nil (k16 _ _ ?_)))
     refine c_no rfl (wp_region_lit (n_val (r_move) ?_))
     simp only [ev,zD,zE,zF,zG]
     refine n_val (r_eqlT rfl rfl (by omega)) (n_val (r_move) (n_want rfl ?_))
     simp only [ev,zD,zE,zF,zG]
     refine n_load rfl ((m.b 1 rfl).full agg_35 cells_35) ?_
     simp only [ev,zD,zE,zF,zG]
     refine n_want rfl (mcallP m rfl rfl (Sign_c (a:=(r.to lo).at k) Bw.up) ?_)
     clear m; intro u m
     refine n_want rfl (n_val (r_gtrF rfl rfl (by rw [isign_gt]; omega)) (n_want rfl (n_val (r_move) (n_want rfl ?_))))
     simp only [ev,zD,zE,zF,zG]
     refine n_load rfl ((m.b 0 rfl).full agg_35 cells_35) ?_
     simp only [ev,zD,zE,zF,zG]
     refine n_want rfl (mcallP m rfl rfl (Sign_c (a:=(r.to hi).at k) Bw.up) ?_)
     clear m; intro u m
     refine n_want rfl (n_val (r_lssF rfl rfl (by have:=isign_nn (n:=(r.to hi).at k); omega)) (n_want rfl (n_val (r_pickF rfl) (n_val (r_pickT rfl) ?_))))
     simp only [ev,zD,zE,zF,zG]
     refine n_val (r_assign) (n_nil (k15 _ _ ?_))
     refine c_no rfl (c_seq fun K20 k20=>wp_region_lit (n_val (r_move) (n_val (r_eqlT rfl rfl (by omega)) (n_val (r_assign) ?_))))
     simp only [ev,zD,zE,zF,zG]
     refine n_nil (k20 _ _ ?_)
     refine c_yes rfl (wp_exit (k11 _ _ ?_))
     refine wp_region_lit (n_val (r_add rfl rfl (wrap_i64 (by omega) (by omega))) (n_val (r_move) (n_nil ?_)))
     simp only [ev,zD,zE,zF,zG]
     simp only [Exit.inBlock,Exit.then]
     refine ⟨kM,_,?_,rfl,?_,?_⟩
     · exact hlt
     · simp only [zQ,zR,zD,zE,setG_cons,setG_nil,setMany_cons,setMany_nil,zF,zG]
     ·
      simp only [zQ,zR,zD,zE]
      exact ⟨kN,pE,oE,_,rfl,(m.sel [false,false,true,true,true,true,true,true,true,true,true]),by first | exact hgo | (rw [hmx,hmn] at hgo; exact hgo),by first | rfl | exact hbb,by first | exact hbF | exact hbp,by first | exact hbo | exact bqo_some hbT,by show k + 1 ≤ 3; omega,by show 2 - k = 3 - (k + 1); omega⟩
    ·
     have hoff : ¬ axOff ((r.to lo).at k) ((r.to hi).at k) (r.d.at k):=by unfold axOff; omega
     have hgo:=axN_go (k:=k) ha hoff (show ¬ r.d.at k = 0 by omega)
     rw [show axFr r ((r.to lo).at k) ((r.to hi).at k) (r.d.at k) = Rat.divInt ((r.to hi).at k) (r.w * (r.d.at k)) from if_pos (show  r.d.at k < 0 by omega),show axTo r ((r.to lo).at k) ((r.to hi).at k) (r.d.at k) = Rat.divInt ((r.to lo).at k) (r.w * (r.d.at k)) from if_pos (show  r.d.at k < 0 by omega)] at hgo
     dsimp only at hgo
     have hbF : Bq 400000 (Rat.divInt ((r.to hi).at k) (r.w * (r.d.at k))):=bq_ax Bw.h Bw.h (by omega) hok
     have hbT : Bq 400000 (Rat.divInt ((r.to lo).at k) (r.w * (r.d.at k))):=bq_ax Bw.h Bw.h (by omega) hok
     refine wp_region_lit (n_load rfl ((m.b 1 rfl).full agg_35 cells_35) ?_)
     simp only [ev,zD,zE,zF,zG]
     refine n_load rfl ((m.b 0 rfl).full agg_35 cells_35) ?_
     simp only [ev,zD,zE,zF,zG]
     refine mcallP m rfl rfl (Cmp_c (a:=(r.to lo).at k) (b:=(r.to hi).at k) Bw.up Bw.up) ?_
     clear m; intro u m
     refine n_val (r_gtrF rfl rfl (by rw [isign_gt]; omega)) (n_val (r_assign) (n_nil (k16 _ _ ?_)))
     refine c_no rfl (wp_region_lit (n_val (r_move) ?_))
     simp only [ev,zD,zE,zF,zG]
     refine n_val (r_eqlF rfl rfl (by omega)) (n_val (r_move) (n_skipT rfl (n_skipT rfl ?_)))
     simp only [ev,zD,zE,zF,zG]
     refine n_skipT rfl (n_skipT rfl (n_skip0 rfl (n_skip0 rfl ?_)))
     simp only [ev,zD,zE,zF,zG]
     refine n_skip0 rfl (n_skipT rfl (n_val (r_pickF rfl) (n_val (r_assign) ?_)))
     simp only [ev,zD,zE,zF,zG]
     refine n_nil (k15 _ _ ?_)
     refine c_no rfl (c_seq fun K21 k21=>wp_region_lit (n_val (r_move) (n_val (r_eqlF rfl rfl (by omega)) (n_val (r_assign) (n_nil (k21 _ _ ?_))))))
     refine c_no rfl (c_seq fun K22 k22=>wp_region_lit (n_val (r_move) ?_))
     simp only [ev,zD,zE,zF,zG]
     refine n_val (r_lssT rfl rfl (by omega)) (n_val (r_assign) (n_nil (k22 _ _ ?_)))
     refine c_yes rfl (wp_region_lit ?_)
     simp only [ev,zD,zE,zF,zG]
     refine n_load rfl ((m.b 0 rfl).full agg_35 cells_35) ?_
     simp only [ev,zD,zE,zF,zG]
     refine n_load rfl ((m.b 1 rfl).full agg_35 cells_35) ?_
     simp only [ev,zD,zE,zF,zG]
     refine mstoreA m 1 rfl rfl rfl cells_35 (leT rfl) rfl ?_
     clear m; intro u m; simp only [over,zH,zI,zJ,zK,zL,zM,zN,zO,zP,zF,zG,Nat.reduceAdd] at m
     refine mstoreA m 0 rfl rfl rfl cells_35 (leT rfl) rfl ?_
     clear m; intro u m; simp only [over,zH,zI,zJ,zK,zL,zM,zN,zO,zP,zF,zG,Nat.reduceAdd] at m
     refine n_nil (k14 _ _ ?_)
     refine c_seq fun K23 k23=>?_
     refine wp_region_fresh 5 [0,1,2,3] [⟨4,18,35,[.bool false,.string ⟨#[]⟩]⟩] follows_mixed (by kernel_rfl) (al1 ⟨_,_,_,rfl,by kernel_rfl,_,zero_35,rfl⟩) (ol:=?_) ?hol ?_
     case hol=>simp only [zQ,zR,zS,zT,zU,zV]; try rfl
     intro u e; replace m:=m.ext' e; clear e
     refine e_load rfl (fun u e=>(((m.ext' e).b 4 rfl).full agg_35 cells_35)) ?_
     simp only [ev,zD,zE,zF,zG]
     refine e_val (r_move) ?_
     simp only [ev,zD,zE,zF,zG]
     refine e_callP rfl rfl (From_c Iw.h) ?_
     simp only [ev,zD,zE,zF,zG]
     refine e_callP rfl rfl (Mul_c (a:=r.w) (b:=r.d.at k) Bw.up Bw.up) (e_nil ?_)
     simp only [ev,zD,zE,zF,zG]
     refine mf1 m ?_
     clear m; intro g12 u m
     simp only [zJ,zK,zF,zG]
     refine mstoreA m 0 rfl rfl rfl cells_35 (leT rfl) rfl ?_
     clear m; intro u m; simp only [over,zH,zI,zJ,zK,zL,zM,zN,zO,zP,zF,zG,Nat.reduceAdd] at m
     refine n_nil (k23 _ _ ?_)
     refine c_seq fun K24 k24=>?_
     refine wp_region_fresh 8 [0,1,2,3,4,5] [⟨6,19,37,[.bool false,.string ⟨#[]⟩,.bool false,.string ⟨#[]⟩]⟩,⟨7,20,37,[.bool false,.string ⟨#[]⟩,.bool false,.string ⟨#[]⟩]⟩] follows_mixed (by kernel_rfl) (al2 ⟨_,_,_,rfl,by kernel_rfl,_,zero_37,rfl⟩ ⟨_,_,_,rfl,by kernel_rfl,_,zero_37,rfl⟩) (ol:=?_) ?hol ?_
     case hol=>simp only [zQ,zR,zS,zT,zU,zV]; try rfl
     intro u e; replace m:=m.ext' e; clear e
     refine e_load rfl (fun u e=>(((m.ext' e).b 2 rfl).full agg_35 cells_35)) ?_
     simp only [ev,zD,zE,zF,zG]
     refine e_load rfl (fun u e=>(((m.ext' e).b 0 rfl).full agg_35 cells_35)) ?_
     simp only [ev,zD,zE,zF,zG]
     refine e_callP rfl rfl (rayFrac_c (n:=((r.to hi).at k)) (d:=r.w * (r.d.at k)) Bw.up Bw.up (w_ne hok (by omega))) ?_
     simp only [ev,zD,zE,zF,zG]
     refine e_load rfl (fun u e=>(((m.ext' e).b 1 rfl).full agg_35 cells_35)) ?_
     simp only [ev,zD,zE,zF,zG]
     refine e_load rfl (fun u e=>(((m.ext' e).b 0 rfl).full agg_35 cells_35)) ?_
     simp only [ev,zD,zE,zF,zG]
     refine e_callP rfl rfl (rayFrac_c (n:=((r.to lo).at k)) (d:=r.w * (r.d.at k)) Bw.up Bw.up (w_ne hok (by omega))) (e_nil ?_)
     simp only [ev,zD,zE,zF,zG]
     refine mf2 m (by decide) ?_
     clear m; intro g13 g14 u m
     simp only [zJ,zK,zF,zG]
     refine mstoreA m 1 rfl rfl rfl cells_37 (leT rfl) rfl ?_
     clear m; intro u m; simp only [over,zH,zI,zJ,zK,zL,zM,zN,zO,zP,zF,zG,Nat.reduceAdd] at m
     refine mstoreA m 0 rfl rfl rfl cells_37 (leT rfl) rfl ?_
     clear m; intro u m; simp only [over,zH,zI,zJ,zK,zL,zM,zN,zO,zP,zF,zG,Nat.reduceAdd] at m
     refine n_nil (k24 _ _ ?_)
     refine c_seq fun K25 k25=>c_seq fun K26 k26=>wp_region_lit (n_load rfl ((m.b 1 rfl).full agg_37 cells_37) ?_)
     simp only [ev,zD,zE,zF,zG]
     refine n_load rfl ((m.b 10 rfl).full agg_37 cells_37) ?_
     simp only [ev,zD,zE,zF,zG]
     refine mcallP m rfl rfl (CmpFrac_c (p:=Rat.divInt ((r.to hi).at k) (r.w * (r.d.at k))) (q:=p) hbF hbp) ?_
     clear m; intro u m
     refine n_val (r_gtr rfl rfl) (n_nil (k26 _ _ ?_))
     simp only [ev,zD,zE,zF,zG]
     refine c_if rfl (fun hc7=>?_) (fun hc7=>?_)
     ·
      have hmx : maxQ p (Rat.divInt ((r.to hi).at k) (r.w * (r.d.at k))) = Rat.divInt ((r.to hi).at k) (r.w * (r.d.at k)):=if_pos (qcmp_gt.1 hc7)
      let pE : Rat:=Rat.divInt ((r.to hi).at k) (r.w * (r.d.at k))
      refine wp_region_lit (n_load rfl ((m.b 1 rfl).full agg_37 cells_37) ?_)
      simp only [ev,zD,zE,zF,zG]
      refine mstoreA m 10 rfl rfl rfl cells_37 (leT rfl) rfl ?_
      clear m; intro u m; simp only [over,zH,zI,zJ,zK,zL,zM,zN,zO,zP,zF,zG,Nat.reduceAdd] at m
      refine n_nil (k25 _ _ ?_)
      refine c_seq fun K27 k27=>?_
      rcases o with _ | q
      ·
       obtain rfl : bb = false:=hbb
       simp only [outC] at m
       have hmn : minO none (Rat.divInt ((r.to lo).at k) (r.w * (r.d.at k))) = Rat.divInt ((r.to lo).at k) (r.w * (r.d.at k)):=rfl
       let oE : Option Rat:=some (Rat.divInt ((r.to lo).at k) (r.w * (r.d.at k)))
       refine wp_region_lit (n_val (r_move) (n_val (r_not rfl) (n_val (r_move) (n_skipF rfl ?_))))
       simp only [ev,zD,zE,zF,zG]
       refine n_skipF rfl (n_skipF rfl (n_skipF rfl (n_val (r_pickT rfl) ?_)))
       simp only [ev,zD,zE,zF,zG]
       refine n_nil (k27 _ _ ?_)
       refine c_yes rfl (wp_region_lit (n_load rfl ((m.b 0 rfl).full agg_37 cells_37) ?_))
       simp only [ev,zD,zE,zF,zG]
       refine mstoreA m 9 rfl rfl rfl cells_37 (leT rfl) rfl ?_
       clear m; intro u m; simp only [over,zH,zI,zJ,zK,zL,zM,zN,zO,zP,zF,zG,Nat.reduceAdd] at m
       refine n_val (r_assign) (n_nil (k11 _ _ ?_))
       refine wp_region_lit ?_
       simp only [ev,zD,zE,zF,zG]
       refine n_val (r_add rfl rfl (wrap_i64 (by omega) (by omega))) (n_val (r_move) (n_nil ?_))
       simp only [ev,zD,zE,zF,zG]
       simp only [Exit.inBlock,Exit.then]
       refine ⟨kM,_,?_,rfl,?_,?_⟩
       · exact hlt
       · simp only [zQ,zR,zD,zE,setG_cons,setG_nil,setMany_cons,setMany_nil,zF,zG]
       ·
        simp only [zQ,zR,zD,zE]
        exact ⟨kN,pE,oE,_,rfl,(m.sel [false,false,false,false,false,true,true,true,true,true,true,true,true,true]),by first | exact hgo | (rw [hmx,hmn] at hgo; exact hgo),by first | rfl | exact hbb,by first | exact hbF | exact hbp,by first | exact hbo | exact bqo_some hbT,by show k + 1 ≤ 3; omega,by show 2 - k = 3 - (k + 1); omega⟩
      ·
       obtain rfl : bb = true:=hbb
       simp only [outC] at m
       refine wp_region_lit (n_val (r_move) (n_val (r_not rfl) (n_val (r_move) (n_want rfl ?_))))
       simp only [ev,zD,zE,zF,zG]
       refine n_load rfl ((m.b 0 rfl).full agg_37 cells_37) ?_
       simp only [ev,zD,zE,zF,zG]
       refine n_want rfl (n_load rfl ((m.b 9 rfl).full agg_37 cells_37) ?_)
       simp only [ev,zD,zE,zF,zG]
       refine n_want rfl (mcallP m rfl rfl (CmpFrac_c (p:=Rat.divInt ((r.to lo).at k) (r.w * (r.d.at k))) (q:=q) hbT (hbo q rfl)) ?_)
       clear m; intro u m
       refine n_want rfl (n_val (r_lss rfl rfl) (n_val (r_pickF rfl) (n_nil (k27 _ _ ?_))))
       simp only [ev,zD,zE,zF,zG]
       refine c_if rfl (fun hc8=>?_) (fun hc8=>?_)
       ·
        have hmn : minO (some q) (Rat.divInt ((r.to lo).at k) (r.w * (r.d.at k))) = Rat.divInt ((r.to lo).at k) (r.w * (r.d.at k)):=if_pos (qcmp_lt.1 hc8)
        let oE : Option Rat:=some (Rat.divInt ((r.to lo).at k) (r.w * (r.d.at k)))
        refine wp_region_lit (n_load rfl ((m.b 0 rfl).full agg_37 cells_37) ?_)
        simp only [ev,zD,zE,zF,zG]
        refine mstoreA m 9 rfl rfl rfl cells_37 (leT rfl) rfl ?_
        clear m; intro u m; simp only [over,zH,zI,zJ,zK,zL,zM,zN,zO,zP,zF,zG,Nat.reduceAdd] at m
        refine n_val (r_assign) (n_nil (k11 _ _ ?_))
        refine wp_region_lit ?_
        simp only [ev,zD,zE,zF,zG]
        refine n_val (r_add rfl rfl (wrap_i64 (by omega) (by omega))) (n_val (r_move) (n_nil ?_))
        simp only [ev,zD,zE,zF,zG]
        simp only [Exit.inBlock,Exit.then]
        refine ⟨kM,_,?_,rfl,?_,?_⟩
        · exact hlt
        · simp only [zQ,zR,zD,zE,setG_cons,setG_nil,setMany_cons,setMany_nil,zF,zG]
        ·
         simp only [zQ,zR,zD,zE]
         exact ⟨kN,pE,oE,_,rfl,(m.sel [false,false,false,false,false,true,true,true,true,true,true,true,true,true]),by first | exact hgo | (rw [hmx,hmn] at hgo; exact hgo),by first | rfl | exact hbb,by first | exact hbF | exact hbp,by first | exact hbo | exact bqo_some hbT,by show k + 1 ≤ 3; omega,by show 2 - k = 3 - (k + 1); omega⟩
       ·
        have hmn : minO (some q) (Rat.divInt ((r.to lo).at k) (r.w * (r.d.at k))) = q:=if_neg (mt qcmp_lt.2 hc8)
        let oE : Option Rat:=some q
        refine wp_skip (k11 _ _ ?_)
        refine wp_region_lit (n_val (r_add rfl rfl (wrap_i64 (by omega) (by omega))) (n_val (r_move) (n_nil ?_)))
        simp only [ev,zD,zE,zF,zG]
        simp only [Exit.inBlock,Exit.then]
        refine ⟨kM,_,?_,rfl,?_,?_⟩
        · exact hlt
        · simp only [zQ,zR,zD,zE,setG_cons,setG_nil,setMany_cons,setMany_nil,zF,zG]
        ·
         simp only [zQ,zR,zD,zE]
         exact ⟨kN,pE,oE,_,rfl,(m.sel [false,false,false,false,false,true,true,true,true,true,true,true,true,true]),by first | exact hgo | (rw [hmx,hmn] at hgo; exact hgo),by first | rfl | exact hbb,by first | exact hbF | exact hbp,by first | exact hbo | exact bqo_some hbT,by show k + 1 ≤ 3; omega,by show 2 - k = 3 - (k + 1); omega⟩
     ·
      have hmx : maxQ p (Rat.divInt ((r.to hi).at k) (r.w * (r.d.at k))) = p:=if_neg (mt qcmp_gt.2 hc7)
      let pE : Rat:=p
      refine wp_skip (k25 _ _ ?_)
      refine c_seq fun K28 k28=>?_
      rcases o with _ | q
      ·
       obtain rfl : bb = false:=hbb
       simp only [outC] at m
       have hmn : minO none (Rat.divInt ((r.to lo).at k) (r.w * (r.d.at k))) = Rat.divInt ((r.to lo).at k) (r.w * (r.d.at k)):=rfl
       let oE : Option Rat:=some (Rat.divInt ((r.to lo).at k) (r.w * (r.d.at k)))
       refine wp_region_lit (n_val (r_move) (n_val (r_not rfl) (n_val (r_move) (n_skipF rfl ?_))))
       simp only [ev,zD,zE,zF,zG]
       refine n_skipF rfl (n_skipF rfl (n_skipF rfl (n_val (r_pickT rfl) ?_)))
       simp only [ev,zD,zE,zF,zG]
       refine n_nil (k28 _ _ ?_)
       refine c_yes rfl (wp_region_lit (n_load rfl ((m.b 0 rfl).full agg_37 cells_37) ?_))
       simp only [ev,zD,zE,zF,zG]
       refine mstoreA m 9 rfl rfl rfl cells_37 (leT rfl) rfl ?_
       clear m; intro u m; simp only [over,zH,zI,zJ,zK,zL,zM,zN,zO,zP,zF,zG,Nat.reduceAdd] at m
       refine n_val (r_assign) (n_nil (k11 _ _ ?_))
       refine wp_region_lit ?_
       simp only [ev,zD,zE,zF,zG]
       refine n_val (r_add rfl rfl (wrap_i64 (by omega) (by omega))) (n_val (r_move) (n_nil ?_))
       simp only [ev,zD,zE,zF,zG]
       simp only [Exit.inBlock,Exit.then]
       refine ⟨kM,_,?_,rfl,?_,?_⟩
       · exact hlt
       · simp only [zQ,zR,zD,zE,setG_cons,setG_nil,setMany_cons,setMany_nil,zF,zG]
       ·
        simp only [zQ,zR,zD,zE]
        exact ⟨kN,pE,oE,_,rfl,(m.sel [false,false,false,false,false,true,true,true,true,true,true,true,true,true]),by first | exact hgo | (rw [hmx,hmn] at hgo; exact hgo),by first | rfl | exact hbb,by first | exact hbF | exact hbp,by first | exact hbo | exact bqo_some hbT,by show k + 1 ≤ 3; omega,by show 2 - k = 3 - (k + 1); omega⟩
      ·
       obtain rfl : bb = true:=hbb
       simp only [outC] at m
       refine wp_region_lit (n_val (r_move) (n_val (r_not rfl) (n_val (r_move) (n_want rfl ?_))))
       simp only [ev,zD,zE,zF,zG]
       refine n_load rfl ((m.b 0 rfl).full agg_37 cells_37) ?_
       simp only [ev,zD,zE,zF,zG]
       refine n_want rfl (n_load rfl ((m.b 9 rfl).full agg_37 cells_37) ?_)
       simp only [ev,zD,zE,zF,zG]
       refine n_want rfl (mcallP m rfl rfl (CmpFrac_c (p:=Rat.divInt ((r.to lo).at k) (r.w * (r.d.at k))) (q:=q) hbT (hbo q rfl)) ?_)
       clear m; intro u m
       refine n_want rfl (n_val (r_lss rfl rfl) (n_val (r_pickF rfl) (n_nil (k28 _ _ ?_))))
       simp only [ev,zD,zE,zF,zG]
       refine c_if rfl (fun hc8=>?_) (fun hc8=>?_)
       ·
        have hmn : minO (some q) (Rat.divInt ((r.to lo).at k) (r.w * (r.d.at k))) = Rat.divInt ((r.to lo).at k) (r.w * (r.d.at k)):=if_pos (qcmp_lt.1 hc8)
        let oE : Option Rat:=some (Rat.divInt ((r.to lo).at k) (r.w * (r.d.at k)))
        refine wp_region_lit (n_load rfl ((m.b 0 rfl).full agg_37 cells_37) ?_)
        simp only [ev,zD,zE,zF,zG]
        refine mstoreA m 9 rfl rfl rfl cells_37 (leT rfl) rfl ?_
        clear m; intro u m; simp only [over,zH,zI,zJ,zK,zL,zM,zN,zO,zP,zF,zG,Nat.reduceAdd] at m
        refine n_val (r_assign) (n_nil (k11 _ _ ?_))
        refine wp_region_lit ?_
        simp only [ev,zD,zE,zF,zG]
        refine n_val (r_add rfl rfl (wrap_i64 (by omega) (by omega))) (n_val (r_move) (n_nil ?_))
        simp only [ev,zD,zE,zF,zG]
        simp only [Exit.inBlock,Exit.then]
        refine ⟨kM,_,?_,rfl,?_,?_⟩
        · exact hlt
        · simp only [zQ,zR,zD,zE,setG_cons,setG_nil,setMany_cons,setMany_nil,zF,zG]
        ·
         simp only [zQ,zR,zD,zE]
         exact ⟨kN,pE,oE,_,rfl,(m.sel [false,false,false,false,false,true,true,true,true,true,true,true,true,true]),by first | exact hgo | (rw [hmx,hmn] at hgo; exact hgo),by first | rfl | exact hbb,by first | exact hbF | exact hbp,by first | exact hbo | exact bqo_some hbT,by show k + 1 ≤ 3; omega,by show 2 - k = 3 - (k + 1); omega⟩
       ·
        have hmn : minO (some q) (Rat.divInt ((r.to lo).at k) (r.w * (r.d.at k))) = q:=if_neg (mt qcmp_lt.2 hc8)
        let oE : Option Rat:=some q
        refine wp_skip (k11 _ _ ?_)
        refine wp_region_lit (n_val (r_add rfl rfl (wrap_i64 (by omega) (by omega))) (n_val (r_move) (n_nil ?_)))
        simp only [ev,zD,zE,zF,zG]
        simp only [Exit.inBlock,Exit.then]
        refine ⟨kM,_,?_,rfl,?_,?_⟩
        · exact hlt
        · simp only [zQ,zR,zD,zE,setG_cons,setG_nil,setMany_cons,setMany_nil,zF,zG]
        ·
         simp only [zQ,zR,zD,zE]
         exact ⟨kN,pE,oE,_,rfl,(m.sel [false,false,false,false,false,true,true,true,true,true,true,true,true,true]),by first | exact hgo | (rw [hmx,hmn] at hgo; exact hgo),by first | rfl | exact hbb,by first | exact hbF | exact hbp,by first | exact hbo | exact bqo_some hbT,by show k + 1 ≤ 3; omega,by show 2 - k = 3 - (k + 1); omega⟩
    ·
     have hoff : ¬ axOff ((r.to lo).at k) ((r.to hi).at k) (r.d.at k):=by unfold axOff; omega
     have hgo:=axN_go (k:=k) ha hoff (show ¬ r.d.at k = 0 by omega)
     rw [show axFr r ((r.to lo).at k) ((r.to hi).at k) (r.d.at k) = Rat.divInt ((r.to lo).at k) (r.w * (r.d.at k)) from if_neg (show ¬ r.d.at k < 0 by omega),show axTo r ((r.to lo).at k) ((r.to hi).at k) (r.d.at k) = Rat.divInt ((r.to hi).at k) (r.w * (r.d.at k)) from if_neg (show ¬ r.d.at k < 0 by omega)] at hgo
     dsimp only at hgo
     have hbF : Bq 400000 (Rat.divInt ((r.to lo).at k) (r.w * (r.d.at k))):=bq_ax Bw.h Bw.h (by omega) hok
     have hbT : Bq 400000 (Rat.divInt ((r.to hi).at k) (r.w * (r.d.at k))):=bq_ax Bw.h Bw.h (by omega) hok
     refine wp_region_lit (n_load rfl ((m.b 1 rfl).full agg_35 cells_35) ?_)
     simp only [ev,zD,zE,zF,zG]
     refine n_load rfl ((m.b 0 rfl).full agg_35 cells_35) ?_
     simp only [ev,zD,zE,zF,zG]
     refine mcallP m rfl rfl (Cmp_c (a:=(r.to lo).at k) (b:=(r.to hi).at k) Bw.up Bw.up) ?_
     clear m; intro u m
     refine n_val (r_gtrF rfl rfl (by rw [isign_gt]; omega)) (n_val (r_assign) (n_nil (k16 _ _ ?_)))
     refine c_no rfl (wp_region_lit (n_val (r_move) ?_))
     simp only [ev,zD,zE,zF,zG]
     refine n_val (r_eqlF rfl rfl (by omega)) (n_val (r_move) (n_skipT rfl (n_skipT rfl ?_)))
     simp only [ev,zD,zE,zF,zG]
     refine n_skipT rfl (n_skipT rfl (n_skip0 rfl (n_skip0 rfl ?_)))
     simp only [ev,zD,zE,zF,zG]
     refine n_skip0 rfl (n_skipT rfl (n_val (r_pickF rfl) (n_val (r_assign) ?_)))
     simp only [ev,zD,zE,zF,zG]
     refine n_nil (k15 _ _ ?_)
     refine c_no rfl (c_seq fun K29 k29=>wp_region_lit (n_val (r_move) (n_val (r_eqlF rfl rfl (by omega)) (n_val (r_assign) (n_nil (k29 _ _ ?_))))))
     refine c_no rfl (c_seq fun K30 k30=>wp_region_lit (n_val (r_move) ?_))
     simp only [ev,zD,zE,zF,zG]
     refine n_val (r_lssF rfl rfl (by omega)) (n_val (r_assign) (n_nil (k30 _ _ ?_)))
     refine c_no rfl (wp_skip (k14 _ _ ?_))
     refine c_seq fun K31 k31=>?_
     simp only [ev,zD,zE,zF,zG]
     refine wp_region_fresh 5 [0,1,2,3] [⟨4,18,35,[.bool false,.string ⟨#[]⟩]⟩] follows_mixed (by kernel_rfl) (al1 ⟨_,_,_,rfl,by kernel_rfl,_,zero_35,rfl⟩) (ol:=?_) ?hol ?_
     case hol=>simp only [zQ,zR,zS,zT,zU,zV]; try rfl
     intro u e; replace m:=m.ext' e; clear e
     refine e_load rfl (fun u e=>(((m.ext' e).b 4 rfl).full agg_35 cells_35)) ?_
     simp only [ev,zD,zE,zF,zG]
     refine e_val (r_move) ?_
     simp only [ev,zD,zE,zF,zG]
     refine e_callP rfl rfl (From_c Iw.h) ?_
     simp only [ev,zD,zE,zF,zG]
     refine e_callP rfl rfl (Mul_c (a:=r.w) (b:=r.d.at k) Bw.up Bw.up) (e_nil ?_)
     simp only [ev,zD,zE,zF,zG]
     refine mf1 m ?_
     clear m; intro g12 u m
     simp only [zJ,zK,zF,zG]
     refine mstoreA m 0 rfl rfl rfl cells_35 (leT rfl) rfl ?_
     clear m; intro u m; simp only [over,zH,zI,zJ,zK,zL,zM,zN,zO,zP,zF,zG,Nat.reduceAdd] at m
     refine n_nil (k31 _ _ ?_)
     refine c_seq fun K32 k32=>?_
     refine wp_region_fresh 8 [0,1,2,3,4,5] [⟨6,19,37,[.bool false,.string ⟨#[]⟩,.bool false,.string ⟨#[]⟩]⟩,⟨7,20,37,[.bool false,.string ⟨#[]⟩,.bool false,.string ⟨#[]⟩]⟩] follows_mixed (by kernel_rfl) (al2 ⟨_,_,_,rfl,by kernel_rfl,_,zero_37,rfl⟩ ⟨_,_,_,rfl,by kernel_rfl,_,zero_37,rfl⟩) (ol:=?_) ?hol ?_
     case hol=>simp only [zQ,zR,zS,zT,zU,zV]; try rfl
     intro u e; replace m:=m.ext' e; clear e
     refine e_load rfl (fun u e=>(((m.ext' e).b 2 rfl).full agg_35 cells_35)) ?_
     simp only [ev,zD,zE,zF,zG]
     refine e_load rfl (fun u e=>(((m.ext' e).b 0 rfl).full agg_35 cells_35)) ?_
     simp only [ev,zD,zE,zF,zG]
     refine e_callP rfl rfl (rayFrac_c (n:=((r.to lo).at k)) (d:=r.w * (r.d.at k)) Bw.up Bw.up (w_ne hok (by omega))) ?_
     simp only [ev,zD,zE,zF,zG]
     refine e_load rfl (fun u e=>(((m.ext' e).b 1 rfl).full agg_35 cells_35)) ?_
     simp only [ev,zD,zE,zF,zG]
     refine e_load rfl (fun u e=>(((m.ext' e).b 0 rfl).full agg_35 cells_35)) ?_
     simp only [ev,zD,zE,zF,zG]
     refine e_callP rfl rfl (rayFrac_c (n:=((r.to hi).at k)) (d:=r.w * (r.d.at k)) Bw.up Bw.up (w_ne hok (by omega))) (e_nil ?_)
     simp only [ev,zD,zE,zF,zG]
     refine mf2 m (by decide) ?_
     clear m; intro g13 g14 u m
     simp only [zJ,zK,zF,zG]
     refine mstoreA m 1 rfl rfl rfl cells_37 (leT rfl) rfl ?_
     clear m; intro u m; simp only [over,zH,zI,zJ,zK,zL,zM,zN,zO,zP,zF,zG,Nat.reduceAdd] at m
     refine mstoreA m 0 rfl rfl rfl cells_37 (leT rfl) rfl ?_
     clear m; intro u m; simp only [over,zH,zI,zJ,zK,zL,zM,zN,zO,zP,zF,zG,Nat.reduceAdd] at m
     refine n_nil (k32 _ _ ?_)
     refine c_seq fun K33 k33=>c_seq fun K34 k34=>wp_region_lit (n_load rfl ((m.b 1 rfl).full agg_37 cells_37) ?_)
     simp only [ev,zD,zE,zF,zG]
     refine n_load rfl ((m.b 10 rfl).full agg_37 cells_37) ?_
     simp only [ev,zD,zE,zF,zG]
     refine mcallP m rfl rfl (CmpFrac_c (p:=Rat.divInt ((r.to lo).at k) (r.w * (r.d.at k))) (q:=p) hbF hbp) ?_
     clear m; intro u m
     refine n_val (r_gtr rfl rfl) (n_nil (k34 _ _ ?_))
     simp only [ev,zD,zE,zF,zG]
     refine c_if rfl (fun hc7=>?_) (fun hc7=>?_)
     ·
      have hmx : maxQ p (Rat.divInt ((r.to lo).at k) (r.w * (r.d.at k))) = Rat.divInt ((r.to lo).at k) (r.w * (r.d.at k)):=if_pos (qcmp_gt.1 hc7)
      let pE : Rat:=Rat.divInt ((r.to lo).at k) (r.w * (r.d.at k))
      refine wp_region_lit (n_load rfl ((m.b 1 rfl).full agg_37 cells_37) ?_)
      simp only [ev,zD,zE,zF,zG]
      refine mstoreA m 10 rfl rfl rfl cells_37 (leT rfl) rfl ?_
      clear m; intro u m; simp only [over,zH,zI,zJ,zK,zL,zM,zN,zO,zP,zF,zG,Nat.reduceAdd] at m
      refine n_nil (k33 _ _ ?_)
      refine c_seq fun K35 k35=>?_
      rcases o with _ | q
      ·
       obtain rfl : bb = false:=hbb
       simp only [outC] at m
       have hmn : minO none (Rat.divInt ((r.to hi).at k) (r.w * (r.d.at k))) = Rat.divInt ((r.to hi).at k) (r.w * (r.d.at k)):=rfl
       let oE : Option Rat:=some (Rat.divInt ((r.to hi).at k) (r.w * (r.d.at k)))
       refine wp_region_lit (n_val (r_move) (n_val (r_not rfl) (n_val (r_move) (n_skipF rfl ?_))))
       simp only [ev,zD,zE,zF,zG]
       refine n_skipF rfl (n_skipF rfl (n_skipF rfl (n_val (r_pickT rfl) ?_)))
       simp only [ev,zD,zE,zF,zG]
       refine n_nil (k35 _ _ ?_)
       refine c_yes rfl (wp_region_lit (n_load rfl ((m.b 0 rfl).full agg_37 cells_37) ?_))
       simp only [ev,zD,zE,zF,zG]
       refine mstoreA m 9 rfl rfl rfl cells_37 (leT rfl) rfl ?_
       clear m; intro u m; simp only [over,zH,zI,zJ,zK,zL,zM,zN,zO,zP,zF,zG,Nat.reduceAdd] at m
       refine n_val (r_assign) (n_nil (k11 _ _ ?_))
       refine wp_region_lit ?_
       simp only [ev,zD,zE,zF,zG]
       refine n_val (r_add rfl rfl (wrap_i64 (by omega) (by omega))) (n_val (r_move) (n_nil ?_))
       simp only [ev,zD,zE,zF,zG]
       simp only [Exit.inBlock,Exit.then]
       refine ⟨kM,_,?_,rfl,?_,?_⟩
       · exact hlt
       · simp only [zQ,zR,zD,zE,setG_cons,setG_nil,setMany_cons,setMany_nil,zF,zG]
       ·
        simp only [zQ,zR,zD,zE]
        exact ⟨kN,pE,oE,_,rfl,(m.sel [false,false,false,false,false,true,true,true,true,true,true,true,true,true]),by first | exact hgo | (rw [hmx,hmn] at hgo; exact hgo),by first | rfl | exact hbb,by first | exact hbF | exact hbp,by first | exact hbo | exact bqo_some hbT,by show k + 1 ≤ 3; omega,by show 2 - k = 3 - (k + 1); omega⟩
      ·
       obtain rfl : bb = true:=hbb
       simp only [outC] at m
       refine wp_region_lit (n_val (r_move) (n_val (r_not rfl) (n_val (r_move) (n_want rfl ?_))))
       simp only [ev,zD,zE,zF,zG]
       refine n_load rfl ((m.b 0 rfl).full agg_37 cells_37) ?_
       simp only [ev,zD,zE,zF,zG]
       refine n_want rfl (n_load rfl ((m.b 9 rfl).full agg_37 cells_37) ?_)
       simp only [ev,zD,zE,zF,zG]
       refine n_want rfl (mcallP m rfl rfl (CmpFrac_c (p:=Rat.divInt ((r.to hi).at k) (r.w * (r.d.at k))) (q:=q) hbT (hbo q rfl)) ?_)
       clear m; intro u m
       refine n_want rfl (n_val (r_lss rfl rfl) (n_val (r_pickF rfl) (n_nil (k35 _ _ ?_))))
       simp only [ev,zD,zE,zF,zG]
       refine c_if rfl (fun hc8=>?_) (fun hc8=>?_)
       ·
        have hmn : minO (some q) (Rat.divInt ((r.to hi).at k) (r.w * (r.d.at k))) = Rat.divInt ((r.to hi).at k) (r.w * (r.d.at k)):=if_pos (qcmp_lt.1 hc8)
        let oE : Option Rat:=some (Rat.divInt ((r.to hi).at k) (r.w * (r.d.at k)))
        refine wp_region_lit (n_load rfl ((m.b 0 rfl).full agg_37 cells_37) ?_)
        simp only [ev,zD,zE,zF,zG]
        refine mstoreA m 9 rfl rfl rfl cells_37 (leT rfl) rfl ?_
        clear m; intro u m; simp only [over,zH,zI,zJ,zK,zL,zM,zN,zO,zP,zF,zG,Nat.reduceAdd] at m
        refine n_val (r_assign) (n_nil (k11 _ _ ?_))
        refine wp_region_lit ?_
        simp only [ev,zD,zE,zF,zG]
        refine n_val (r_add rfl rfl (wrap_i64 (by omega) (by omega))) (n_val (r_move) (n_nil ?_))
        simp only [ev,zD,zE,zF,zG]
        simp only [Exit.inBlock,Exit.then]
        refine ⟨kM,_,?_,rfl,?_,?_⟩
        · exact hlt
        · simp only [zQ,zR,zD,zE,setG_cons,setG_nil,setMany_cons,setMany_nil,zF,zG]
        ·
         simp only [zQ,zR,zD,zE]
         exact ⟨kN,pE,oE,_,rfl,(m.sel [false,false,false,false,false,true,true,true,true,true,true,true,true,true]),by first | exact hgo | (rw [hmx,hmn] at hgo; exact hgo),by first | rfl | exact hbb,by first | exact hbF | exact hbp,by first | exact hbo | exact bqo_some hbT,by show k + 1 ≤ 3; omega,by show 2 - k = 3 - (k + 1); omega⟩
       ·
        have hmn : minO (some q) (Rat.divInt ((r.to hi).at k) (r.w * (r.d.at k))) = q:=if_neg (mt qcmp_lt.2 hc8)
        let oE : Option Rat:=some q
        refine wp_skip (k11 _ _ ?_)
        refine wp_region_lit (n_val (r_add rfl rfl (wrap_i64 (by omega) (by omega))) (n_val (r_move) (n_nil ?_)))
        simp only [ev,zD,zE,zF,zG]
        simp only [Exit.inBlock,Exit.then]
        refine ⟨kM,_,?_,rfl,?_,?_⟩
        · exact hlt
        · simp only [zQ,zR,zD,zE,setG_cons,setG_nil,setMany_cons,setMany_nil,zF,zG]
        ·
         simp only [zQ,zR,zD,zE]
         exact ⟨kN,pE,oE,_,rfl,(m.sel [false,false,false,false,false,true,true,true,true,true,true,true,true,true]),by first | exact hgo | (rw [hmx,hmn] at hgo; exact hgo),by first | rfl | exact hbb,by first | exact hbF | exact hbp,by first | exact hbo | exact bqo_some hbT,by show k + 1 ≤ 3; omega,by show 2 - k = 3 - (k + 1); omega⟩
     ·
      have hmx : maxQ p (Rat.divInt ((r.to lo).at k) (r.w * (r.d.at k))) = p:=if_neg (mt qcmp_gt.2 hc7)
      let pE : Rat:=p
      refine wp_skip (k33 _ _ ?_)
      refine c_seq fun K36 k36=>?_
      rcases o with _ | q
      ·
       obtain rfl : bb = false:=hbb
       simp only [outC] at m
       have hmn : minO none (Rat.divInt ((r.to hi).at k) (r.w * (r.d.at k))) = Rat.divInt ((r.to hi).at k) (r.w * (r.d.at k)):=rfl
       let oE : Option Rat:=some (Rat.divInt ((r.to hi).at k) (r.w * (r.d.at k)))
       refine wp_region_lit (n_val (r_move) (n_val (r_not rfl) (n_val (r_move) (n_skipF rfl ?_))))
       simp only [ev,zD,zE,zF,zG]
       refine n_skipF rfl (n_skipF rfl (n_skipF rfl (n_val (r_pickT rfl) ?_)))
       simp only [ev,zD,zE,zF,zG]
       refine n_nil (k36 _ _ ?_)
       refine c_yes rfl (wp_region_lit (n_load rfl ((m.b 0 rfl).full agg_37 cells_37) ?_))
       simp only [ev,zD,zE,zF,zG]
       refine mstoreA m 9 rfl rfl rfl cells_37 (leT rfl) rfl ?_
       clear m; intro u m; simp only [over,zH,zI,zJ,zK,zL,zM,zN,zO,zP,zF,zG,Nat.reduceAdd] at m
       refine n_val (r_assign) (n_nil (k11 _ _ ?_))
       refine wp_region_lit ?_
       simp only [ev,zD,zE,zF,zG]
       refine n_val (r_add rfl rfl (wrap_i64 (by omega) (by omega))) (n_val (r_move) (n_nil ?_))
       simp only [ev,zD,zE,zF,zG]
       simp only [Exit.inBlock,Exit.then]
       refine ⟨kM,_,?_,rfl,?_,?_⟩
       · exact hlt
       · simp only [zQ,zR,zD,zE,setG_cons,setG_nil,setMany_cons,setMany_nil,zF,zG]
       ·
        simp only [zQ,zR,zD,zE]
        exact ⟨kN,pE,oE,_,rfl,(m.sel [false,false,false,false,false,true,true,true,true,true,true,true,true,true]),by first | exact hgo | (rw [hmx,hmn] at hgo; exact hgo),by first | rfl | exact hbb,by first | exact hbF | exact hbp,by first | exact hbo | exact bqo_some hbT,by show k + 1 ≤ 3; omega,by show 2 - k = 3 - (k + 1); omega⟩
      ·
       obtain rfl : bb = true:=hbb
       simp only [outC] at m
       refine wp_region_lit (n_val (r_move) (n_val (r_not rfl) (n_val (r_move) (n_want rfl ?_))))
       simp only [ev,zD,zE,zF,zG]
       refine n_load rfl ((m.b 0 rfl).full agg_37 cells_37) ?_
       simp only [ev,zD,zE,zF,zG]
       refine n_want rfl (n_load rfl ((m.b 9 rfl).full agg_37 cells_37) ?_)
       simp only [ev,zD,zE,zF,zG]
       refine n_want rfl (mcallP m rfl rfl (CmpFrac_c (p:=Rat.divInt ((r.to hi).at k) (r.w * (r.d.at k))) (q:=q) hbT (hbo q rfl)) ?_)
       clear m; intro u m
       refine n_want rfl (n_val (r_lss rfl rfl) (n_val (r_pickF rfl) (n_nil (k36 _ _ ?_))))
       simp only [ev,zD,zE,zF,zG]
       refine c_if rfl (fun hc8=>?_) (fun hc8=>?_)
       ·
        have hmn : minO (some q) (Rat.divInt ((r.to hi).at k) (r.w * (r.d.at k))) = Rat.divInt ((r.to hi).at k) (r.w * (r.d.at k)):=if_pos (qcmp_lt.1 hc8)
        let oE : Option Rat:=some (Rat.divInt ((r.to hi).at k) (r.w * (r.d.at k)))
        refine wp_region_lit (n_load rfl ((m.b 0 rfl).full agg_37 cells_37) ?_)
        simp only [ev,zD,zE,zF,zG]
        refine mstoreA m 9 rfl rfl rfl cells_37 (leT rfl) rfl ?_
        clear m; intro u m; simp only [over,zH,zI,zJ,zK,zL,zM,zN,zO,zP,zF,zG,Nat.reduceAdd] at m
        refine n_val (r_assign) (n_nil (k11 _ _ ?_))
        refine wp_region_lit ?_
        simp only [ev,zD,zE,zF,zG]
        refine n_val (r_add rfl rfl (wrap_i64 (by omega) (by omega))) (n_val (r_move) (n_nil ?_))
        simp only [ev,zD,zE,zF,zG]
        simp only [Exit.inBlock,Exit.then]
        refine ⟨kM,_,?_,rfl,?_,?_⟩
        · exact hlt
        · simp only [zQ,zR,zD,zE,setG_cons,setG_nil,setMany_cons,setMany_nil,zF,zG]
        ·
         simp only [zQ,zR,zD,zE]
         exact ⟨kN,pE,oE,_,rfl,(m.sel [false,false,false,false,false,true,true,true,true,true,true,true,true,true]),by first | exact hgo | (rw [hmx,hmn] at hgo; exact hgo),by first | rfl | exact hbb,by first | exact hbF | exact hbp,by first | exact hbo | exact bqo_some hbT,by show k + 1 ≤ 3; omega,by show 2 - k = 3 - (k + 1); omega⟩
       ·
        have hmn : minO (some q) (Rat.divInt ((r.to hi).at k) (r.w * (r.d.at k))) = q:=if_neg (mt qcmp_lt.2 hc8)
        let oE : Option Rat:=some q
        refine wp_skip (k11 _ _ ?_)
        refine wp_region_lit (n_val (r_add rfl rfl (wrap_i64 (by omega) (by omega))) (n_val (r_move) (n_nil ?_)))
        simp only [ev,zD,zE,zF,zG]
        simp only [Exit.inBlock,Exit.then]
        refine ⟨kM,_,?_,rfl,?_,?_⟩
        · exact hlt
        · simp only [zQ,zR,zD,zE,setG_cons,setG_nil,setMany_cons,setMany_nil,zF,zG]
        ·
         simp only [zQ,zR,zD,zE]
         exact ⟨kN,pE,oE,_,rfl,(m.sel [false,false,false,false,false,true,true,true,true,true,true,true,true,true]),by first | exact hgo | (rw [hmx,hmn] at hgo; exact hgo),by first | rfl | exact hbb,by first | exact hbF | exact hbp,by first | exact hbo | exact bqo_some hbT,by show k + 1 ≤ 3; omega,by show 2 - k = 3 - (k + 1); omega⟩
   ·
    obtain rfl : k = 3:=by omega
    obtain ⟨q,hq⟩:=ok_some hok ha
    have hq : o = some q:=hq
    subst hq
    simp only [outC] at m
    have hbx:=box_end hok ha
    refine wp_exit (k7 _ _ ?_)
    refine c_seq fun K37 k37=>c_seq fun K38 k38=>wp_region_lit (n_load rfl ((m.b 5 rfl).full agg_37 cells_37) ?_)
    simp only [ev,zD,zE,zF,zG]
    refine n_load rfl ((m.b 4 rfl).full agg_37 cells_37) ?_
    simp only [ev,zD,zE,zF,zG]
    refine mcallP m rfl rfl (CmpFrac_c (p:=p) (q:=q) hbp (hbo q rfl)) ?_
    clear m; intro u m
    refine n_val (r_gtr rfl rfl) (n_nil (k38 _ _ ?_))
    simp only [ev,zD,zE,zF,zG]
    refine c_if rfl (fun hc9=>?_) (fun hc9=>?_)
    ·
     rw [if_pos (qcmp_gt.1 hc9)] at hbx
     refine c_seq fun K39 k39=>wp_region_lit (mcallP m rfl rfl (rayNone_c) ?_)
     clear m; intro u m
     simp only [ev,zD,zE,zF,zG]
     refine mcallP m rfl rfl (rayNone_c) ?_
     clear m; intro u m
     simp only [ev,zD,zE,zF,zG]
     refine mstoreA m 5 rfl rfl rfl cells_37 (leT rfl) rfl ?_
     clear m; intro u m; simp only [over,zH,zI,zJ,zK,zL,zM,zN,zO,zP,zF,zG,Nat.reduceAdd] at m
     refine mstoreA m 4 rfl rfl rfl cells_37 (leT rfl) rfl ?_
     clear m; intro u m; simp only [over,zH,zI,zJ,zK,zL,zM,zN,zO,zP,zF,zG,Nat.reduceAdd] at m
     refine n_val (r_assign) (n_nil (k39 _ _ ?_))
     refine wp_ret ?_
     simp only [ev,zD,zE,zF,zG]
     try simp only [Exit.inBlock,Exit.then,if_true]
     refine fin3 rfl ⟨_,rfl,((m.b 5 rfl).full agg_37 cells_37)⟩ ⟨_,rfl,((m.b 4 rfl).full agg_37 cells_37)⟩ rfl ?_
     try simp only [zD,zE]
     exact ⟨_,rfl,m.ext,by rw [hbx]; rfl⟩
    ·
     rw [if_neg (mt qcmp_gt.2 hc9)] at hbx
     refine wp_skip (k37 _ _ ?_)
     refine c_seq fun K40 k40=>?_
     refine mtree m [true,true,true,true,false,false,true,true,true] (.two 0 (.two 1 (.one 2 (.one 3 (.take 4 .nil))) 2 (.one 1 (.one 3 (.take 4 .nil)))) 1 (.one 0 (.one 2 (.one 3 (.take 4 .nil))))) follows_mixed (by kernel_rfl) (panic_put (fun _ _ _ _ _ h=>h)) ?_
     clear m; intro u m
     refine t_two (by simp only [zS,zT,zU,zV]; rfl) (by simp only [zS,zT,zU,zV]; rfl) ?_ ?_
     ·
      refine n_load rfl ((m.b 5 rfl).full agg_37 cells_37) ?_
      simp only [ev,zD,zE,zF,zG]
      refine n_nil ?_
      refine ⟨m.sel [true,true,true,true,false,false,true,true,true],?_⟩
      refine t_two (by simp only [zS,zT,zU,zV]; rfl) (by simp only [zS,zT,zU,zV]; rfl) ?_ ?_
      ·
       refine n_load rfl ((m.b 4 rfl).full agg_37 cells_37) ?_
       simp only [ev,zD,zE,zF,zG]
       refine n_nil ?_
       refine ⟨m.sel [true,true,true,true,false,false,true,true,true],?_⟩
       refine t_one (by simp only [zS,zT,zU,zV]; rfl) (mstoreA m 5 rfl rfl rfl cells_37 (leT rfl) rfl ?_)
       clear m; intro u m; simp only [over,zH,zI,zJ,zK,zL,zM,zN,zO,zP,zF,zG,Nat.reduceAdd] at m
       refine n_nil ?_
       refine ⟨m.sel [true,true,true,true,false,false,true,true,true],?_⟩
       refine t_one (by simp only [zS,zT,zU,zV]; rfl) (mstoreA m 4 rfl rfl rfl cells_37 (leT rfl) rfl ?_)
       clear m; intro u m; simp only [over,zH,zI,zJ,zK,zL,zM,zN,zO,zP,zF,zG,Nat.reduceAdd] at m
       refine n_nil ?_
       refine ⟨m.sel [true,true,true,true,false,false,true,true,true],?_⟩
       refine t_take (by simp only [zS,zT,zU,zV]; rfl) (h_val (r_assign) (h_nil (t_nil (k40 _ _ ?_))))
       refine wp_ret ?_
       simp only [ev,zD,zE,zF,zG]
       try simp only [Exit.inBlock,Exit.then,if_true]
       refine fin3 rfl ⟨_,rfl,((m.b 5 rfl).full agg_37 cells_37)⟩ ⟨_,rfl,((m.b 4 rfl).full agg_37 cells_37)⟩ rfl ?_
       try simp only [zD,zE]
       exact ⟨_,rfl,m.ext,by rw [hbx]; rfl⟩
      ·
       refine mstoreA m 5 rfl rfl rfl cells_37 (leT rfl) rfl ?_
       clear m; intro u m; simp only [over,zH,zI,zJ,zK,zL,zM,zN,zO,zP,zF,zG,Nat.reduceAdd] at m
       refine n_nil ?_
       refine ⟨m.sel [true,true,true,true,false,false,true,true,true],?_⟩
       refine t_one (by simp only [zS,zT,zU,zV]; rfl) (n_load rfl ((m.b 4 rfl).full agg_37 cells_37) ?_)
       simp only [ev,zD,zE,zF,zG]
       refine n_nil ?_
       refine ⟨m.sel [true,true,true,true,false,false,true,true,true],?_⟩
       refine t_one (by simp only [zS,zT,zU,zV]; rfl) (mstoreA m 4 rfl rfl rfl cells_37 (leT rfl) rfl ?_)
       clear m; intro u m; simp only [over,zH,zI,zJ,zK,zL,zM,zN,zO,zP,zF,zG,Nat.reduceAdd] at m
       refine n_nil ?_
       refine ⟨m.sel [true,true,true,true,false,false,true,true,true],?_⟩
       refine t_take (by simp only [zS,zT,zU,zV]; rfl) (h_val (r_assign) (h_nil (t_nil (k40 _ _ ?_))))
       refine wp_ret ?_
       simp only [ev,zD,zE,zF,zG]
       try simp only [Exit.inBlock,Exit.then,if_true]
       refine fin3 rfl ⟨_,rfl,((m.b 5 rfl).full agg_37 cells_37)⟩ ⟨_,rfl,((m.b 4 rfl).full agg_37 cells_37)⟩ rfl ?_
       try simp only [zD,zE]
       exact ⟨_,rfl,m.ext,by rw [hbx]; rfl⟩
     ·
      refine n_load rfl ((m.b 4 rfl).full agg_37 cells_37) ?_
      simp only [ev,zD,zE,zF,zG]
      refine n_nil ?_
      refine ⟨m.sel [true,true,true,true,false,false,true,true,true],?_⟩
      refine t_one (by simp only [zS,zT,zU,zV]; rfl) (n_load rfl ((m.b 5 rfl).full agg_37 cells_37) ?_)
      simp only [ev,zD,zE,zF,zG]
      refine n_nil ?_
      refine ⟨m.sel [true,true,true,true,false,false,true,true,true],?_⟩
      refine t_one (by simp only [zS,zT,zU,zV]; rfl) (mstoreA m 5 rfl rfl rfl cells_37 (leT rfl) rfl ?_)
      clear m; intro u m; simp only [over,zH,zI,zJ,zK,zL,zM,zN,zO,zP,zF,zG,Nat.reduceAdd] at m
      refine n_nil ?_
      refine ⟨m.sel [true,true,true,true,false,false,true,true,true],?_⟩
      refine t_one (by simp only [zS,zT,zU,zV]; rfl) (mstoreA m 4 rfl rfl rfl cells_37 (leT rfl) rfl ?_)
      clear m; intro u m; simp only [over,zH,zI,zJ,zK,zL,zM,zN,zO,zP,zF,zG,Nat.reduceAdd] at m
      refine n_nil ?_
      refine ⟨m.sel [true,true,true,true,false,false,true,true,true],?_⟩
      refine t_take (by simp only [zS,zT,zU,zV]; rfl) (h_val (r_assign) (h_nil (t_nil (k40 _ _ ?_))))
      refine wp_ret ?_
      simp only [ev,zD,zE,zF,zG]
      try simp only [Exit.inBlock,Exit.then,if_true]
      refine fin3 rfl ⟨_,rfl,((m.b 5 rfl).full agg_37 cells_37)⟩ ⟨_,rfl,((m.b 4 rfl).full agg_37 cells_37)⟩ rfl ?_
      try simp only [zD,zE]
      exact ⟨_,rfl,m.ext,by rw [hbx]; rfl⟩
 ·
  have hbx : boxR r lo hi = none:=if_neg hok
  refine wp_region_lit (n_load rfl ((m.b 4 rfl).full agg_25 cells_25) ?_)
  simp only [ev,zD,zE,zF,zG]
  refine mcallP m rfl rfl (permittedF hok) ?_
  clear m; intro u m
  refine n_val (r_not rfl) (n_nil (k3 _ _ ?_))
  refine c_yes rfl (c_seq fun K41 k41=>wp_region_lit ?_)
  simp only [ev,zD,zE,zF,zG]
  refine mcallP m rfl rfl (rayNone_c) ?_
  clear m; intro u m
  simp only [ev,zD,zE,zF,zG]
  refine mcallP m rfl rfl (rayNone_c) ?_
  clear m; intro u m
  simp only [ev,zD,zE,zF,zG]
  refine mstoreA m 1 rfl rfl rfl cells_37 (leT rfl) rfl ?_
  clear m; intro u m; simp only [over,zH,zI,zJ,zK,zL,zM,zN,zO,zP,zF,zG,Nat.reduceAdd] at m
  refine mstoreA m 0 rfl rfl rfl cells_37 (leT rfl) rfl ?_
  clear m; intro u m; simp only [over,zH,zI,zJ,zK,zL,zM,zN,zO,zP,zF,zG,Nat.reduceAdd] at m
  refine n_val (r_assign) (n_nil (k41 _ _ ?_))
  refine wp_ret ?_
  simp only [ev,zD,zE,zF,zG]
  try simp only [Exit.inBlock,Exit.then,if_true]
  refine fin3 rfl ⟨_,rfl,((m.b 1 rfl).full agg_37 cells_37)⟩ ⟨_,rfl,((m.b 0 rfl).full agg_37 cells_37)⟩ rfl ?_
  try simp only [zD,zE]
  exact ⟨_,rfl,m.ext,by rw [hbx]; rfl⟩
end Go.Proofs.YtimjandkmfcmiaaGreatDoor
namespace Go.Proofs.YtimjandkmfcmiaaGreatDoor
open Go.RowKit Go.Lith
set_option maxRecDepth 100000
attribute [local irreducible] wpList wpQuiet wpMix wpMixH wpTree Code.wp
theorem gex_x {p : P3} : GPure Tryz.prog 150 [pt p] (.int .i64 p.x):=by
 intro w
 refine ⟨en_150,?_⟩
 have m:=MemG.refl w
 go_enter Tryz.func150,Tryz.ntmps150
 refine c_seq fun K1 k1=>wp_region_lit (GmboxA m rfl ?_)
 clear m; intro g1 u m
 refine n_val (r_assign) (n_nil (k1 _ _ ?_))
 refine c_seq fun K2 k2=>wp_region_lit (n_val (r_fieldAddr (c:=0) Tryz.underlying183 rfl cells_3 rfl rfl) ?_)
 simp only [ev,zD,zE,zF,zG]
 refine n_load rfl ((m.b 0 rfl).lies1 agg_3 rfl) ?_
 simp only [ev,zD,zE,zF,zG]
 refine n_val (r_assign) (n_nil (k2 _ _ ?_))
 refine wp_ret ?_
 simp only [ev,zD,zE,zF,zG]
 try simp only [Exit.inBlock,Exit.then,if_true]
 refine fin1 rfl rfl ?_
 try simp only [zD,zE]
 exact ⟨_,rfl,m.ext,rfl⟩
theorem gex_y {p : P3} : GPure Tryz.prog 151 [pt p] (.int .i64 p.y):=by
 intro w
 refine ⟨en_151,?_⟩
 have m:=MemG.refl w
 go_enter Tryz.func151,Tryz.ntmps151
 refine c_seq fun K1 k1=>wp_region_lit (GmboxA m rfl ?_)
 clear m; intro g1 u m
 refine n_val (r_assign) (n_nil (k1 _ _ ?_))
 refine c_seq fun K2 k2=>wp_region_lit (n_val (r_fieldAddr (c:=0) Tryz.underlying183 rfl cells_3 rfl rfl) ?_)
 simp only [ev,zD,zE,zF,zG]
 refine n_load rfl ((m.b 0 rfl).lies1 agg_3 rfl) ?_
 simp only [ev,zD,zE,zF,zG]
 refine n_val (r_assign) (n_nil (k2 _ _ ?_))
 refine wp_ret ?_
 simp only [ev,zD,zE,zF,zG]
 try simp only [Exit.inBlock,Exit.then,if_true]
 refine fin1 rfl rfl ?_
 try simp only [zD,zE]
 exact ⟨_,rfl,m.ext,rfl⟩
theorem gex_z {p : P3} : GPure Tryz.prog 152 [pt p] (.int .i64 p.z):=by
 intro w
 refine ⟨en_152,?_⟩
 have m:=MemG.refl w
 go_enter Tryz.func152,Tryz.ntmps152
 refine c_seq fun K1 k1=>wp_region_lit (GmboxA m rfl ?_)
 clear m; intro g1 u m
 refine n_val (r_assign) (n_nil (k1 _ _ ?_))
 refine c_seq fun K2 k2=>wp_region_lit (n_val (r_fieldAddr (c:=0) Tryz.underlying183 rfl cells_3 rfl rfl) ?_)
 simp only [ev,zD,zE,zF,zG]
 refine n_load rfl ((m.b 0 rfl).lies1 agg_3 rfl) ?_
 simp only [ev,zD,zE,zF,zG]
 refine n_val (r_assign) (n_nil (k2 _ _ ?_))
 refine wp_ret ?_
 simp only [ev,zD,zE,zF,zG]
 try simp only [Exit.inBlock,Exit.then,if_true]
 refine fin1 rfl rfl ?_
 try simp only [zD,zE]
 exact ⟨_,rfl,m.ext,rfl⟩
theorem gaxes_c  : GPure Tryz.prog 137 [] (.agg #[.func (.func 150) #[] #[],.func (.func 151) #[] #[],.func (.func 152) #[] #[]]):=by
 intro w
 refine ⟨en_137,?_⟩
 have m:=MemG.refl w
 go_enter Tryz.func137,Tryz.ntmps137
 refine c_seq fun K1 k1=>wp_region_lit (Gmalloc m zero_181 rfl ?_)
 clear m; intro g1 u m
 refine n_nil (k1 _ _ ?_)
 refine c_seq fun K2 k2=>wp_region_lit (n_val (r_build_181_0_1_2 rfl rfl rfl) ?_)
 simp only [ev,zD,zE,zF,zG]
 refine GmstoreA m 0 rfl rfl rfl cells_181 (leT rfl) rfl ?_
 clear m; intro u m; simp only [over,zH,zI,zJ,zK,zL,zM,zN,zO,zP,zF,zG,Nat.reduceAdd] at m
 refine n_nil (k2 _ _ ?_)
 refine wp_ret ?_
 try simp only [Exit.inBlock,Exit.then,if_true]
 refine fin1 rfl ⟨_,rfl,((m.b 0 rfl).full agg_181 cells_181)⟩ ?_
 try simp only [zD,zE]
 exact ⟨_,rfl,m.ext,rfl⟩
theorem gless_c {p q : P3} : GPure Tryz.prog 130 [pt p,pt q] (.bool (decide (p.Lt q))):=by
 intro w
 refine ⟨en_130,?_⟩
 have m:=MemG.refl w
 go_enter Tryz.func130,Tryz.ntmps130
 refine c_seq fun K1 k1=>wp_region_lit (GmboxA m rfl ?_)
 clear m; intro g1 u m
 simp only [ev,zD,zE,zF,zG]
 refine GmboxA m rfl ?_
 clear m; intro g2 u m
 refine n_val (r_assign) (n_nil (k1 _ _ ?_))
 refine c_seq fun K2 k2=>c_seq fun K3 k3=>wp_region_lit ?_
 simp only [ev,zD,zE,zF,zG]
 refine GmcallP m rfl rfl (gaxes_c) ?_
 clear m; intro u m
 refine n_val (r_move) (n_nil (k3 _ _ ?_))
 refine wp_block (wp_loop_rounds 4 (rounds_step (c_seq fun K4 k4=>wp_region_lit (n_val (r_lssT (m:=0) (n:=3) rfl rfl (by decide)) (n_nil (k4 _ _ ?_))))))
 refine c_seq fun K5 k5=>c_yes rfl (wp_skip (k5 _ _ ?_))
 refine c_seq fun K6 k6=>wp_block (c_seq fun K7 k7=>wp_region_lit (n_val (r_index_181_0 rfl rfl) ?_))
 simp only [ev,zD,zE,zF,zG]
 refine n_val (r_assign) (n_nil (k7 _ _ ?_))
 refine c_seq fun K8 k8=>?_
 simp only [ev,zD,zE,zF,zG]
 refine Gmq m follows_mixed (by kernel_rfl) (q_val (r_move) ?_)
 simp only [ev,zD,zE,zF,zG]
 refine Gql rfl (fun u m=>((m.b 1 rfl).full agg_56 cells_56)) ?_
 simp only [ev,zD,zE,zF,zG]
 refine GqcP rfl rfl (gex_x) (q_val (r_move) ?_)
 simp only [ev,zD,zE,zF,zG]
 refine Gql rfl (fun u m=>((m.b 0 rfl).full agg_56 cells_56)) ?_
 simp only [ev,zD,zE,zF,zG]
 refine GqcP rfl rfl (gex_x) (q_val (r_assign) (q_val (r_assign) (q_nil ?_)))
 clear m; intro u m
 refine k8 _ _ ?_
 refine c_seq fun K9 k9=>wp_region_lit (n_val (r_move) ?_)
 simp only [ev,zD,zE,zF,zG]
 refine n_val (r_move) (n_val (r_neq rfl rfl) (n_nil (k9 _ _ ?_)))
 simp only [ev,zD,zE,zF,zG]
 refine c_if rfl (fun hc2=>?_) (fun hc2=>?_)
 ·
  refine c_seq fun K10 k10=>wp_region_lit (n_val (r_move) (n_val (r_move) (n_val (r_lss rfl rfl) (n_val (r_assign) ?_))))
  simp only [ev,zD,zE,zF,zG]
  refine n_nil (k10 _ _ ?_)
  refine wp_ret ?_
  try simp only [Exit.inBlock,Exit.then,if_true]
  refine fin1 rfl rfl ?_
  try simp only [zD,zE]
  exact ⟨_,rfl,m.ext,by simp only [P3.lt_x hc2]⟩
 ·
  have ex : p.x = q.x:=by omega
  refine wp_skip (k6 _ _ ?_)
  refine wp_region_lit (n_val (r_add (m:=0) (n:=1) (r:=1) rfl rfl (by decide)) (n_val (r_move) (n_nil (then_rounds (c_seq fun K11 k11=>wp_region_lit (n_val (r_lssT (m:=1) (n:=3) rfl rfl (by decide)) (n_nil (k11 _ _ ?_))))))))
  refine c_seq fun K12 k12=>c_yes rfl (wp_skip (k12 _ _ ?_))
  refine c_seq fun K13 k13=>wp_block (c_seq fun K14 k14=>wp_region_lit (n_val (r_index_181_1 rfl rfl) ?_))
  simp only [ev,zD,zE,zF,zG]
  refine n_val (r_assign) (n_nil (k14 _ _ ?_))
  refine c_seq fun K15 k15=>?_
  simp only [ev,zD,zE,zF,zG]
  refine Gmq m follows_mixed (by kernel_rfl) (q_val (r_move) ?_)
  simp only [ev,zD,zE,zF,zG]
  refine Gql rfl (fun u m=>((m.b 1 rfl).full agg_56 cells_56)) ?_
  simp only [ev,zD,zE,zF,zG]
  refine GqcP rfl rfl (gex_y) (q_val (r_move) ?_)
  simp only [ev,zD,zE,zF,zG]
  refine Gql rfl (fun u m=>((m.b 0 rfl).full agg_56 cells_56)) ?_
  simp only [ev,zD,zE,zF,zG]
  refine GqcP rfl rfl (gex_y) (q_val (r_assign) (q_val (r_assign) (q_nil ?_)))
  clear m; intro u m
  refine k15 _ _ ?_
  refine c_seq fun K16 k16=>wp_region_lit (n_val (r_move) ?_)
  simp only [ev,zD,zE,zF,zG]
  refine n_val (r_move) (n_val (r_neq rfl rfl) (n_nil (k16 _ _ ?_)))
  simp only [ev,zD,zE,zF,zG]
  refine c_if rfl (fun hc2=>?_) (fun hc2=>?_)
  ·
   refine c_seq fun K17 k17=>wp_region_lit (n_val (r_move) (n_val (r_move) (n_val (r_lss rfl rfl) (n_val (r_assign) ?_))))
   simp only [ev,zD,zE,zF,zG]
   refine n_nil (k17 _ _ ?_)
   refine wp_ret ?_
   try simp only [Exit.inBlock,Exit.then,if_true]
   refine fin1 rfl rfl ?_
   try simp only [zD,zE]
   exact ⟨_,rfl,m.ext,by simp only [P3.lt_y ex hc2]⟩
  ·
   have ey : p.y = q.y:=by omega
   refine wp_skip (k13 _ _ ?_)
   refine wp_region_lit (n_val (r_add (m:=1) (n:=1) (r:=2) rfl rfl (by decide)) (n_val (r_move) (n_nil (then_rounds (c_seq fun K18 k18=>wp_region_lit (n_val (r_lssT (m:=2) (n:=3) rfl rfl (by decide)) (n_nil (k18 _ _ ?_))))))))
   refine c_seq fun K19 k19=>c_yes rfl (wp_skip (k19 _ _ ?_))
   refine c_seq fun K20 k20=>wp_block (c_seq fun K21 k21=>wp_region_lit (n_val (r_index_181_2 rfl rfl) ?_))
   simp only [ev,zD,zE,zF,zG]
   refine n_val (r_assign) (n_nil (k21 _ _ ?_))
   refine c_seq fun K22 k22=>?_
   simp only [ev,zD,zE,zF,zG]
   refine Gmq m follows_mixed (by kernel_rfl) (q_val (r_move) ?_)
   simp only [ev,zD,zE,zF,zG]
   refine Gql rfl (fun u m=>((m.b 1 rfl).full agg_56 cells_56)) ?_
   simp only [ev,zD,zE,zF,zG]
   refine GqcP rfl rfl (gex_z) (q_val (r_move) ?_)
   simp only [ev,zD,zE,zF,zG]
   refine Gql rfl (fun u m=>((m.b 0 rfl).full agg_56 cells_56)) ?_
   simp only [ev,zD,zE,zF,zG]
   refine GqcP rfl rfl (gex_z) (q_val (r_assign) (q_val (r_assign) (q_nil ?_)))
   clear m; intro u m
   refine k22 _ _ ?_
   refine c_seq fun K23 k23=>wp_region_lit (n_val (r_move) ?_)
   simp only [ev,zD,zE,zF,zG]
   refine n_val (r_move) (n_val (r_neq rfl rfl) (n_nil (k23 _ _ ?_)))
   simp only [ev,zD,zE,zF,zG]
   refine c_if rfl (fun hc2=>?_) (fun hc2=>?_)
   ·
    refine c_seq fun K24 k24=>wp_region_lit (n_val (r_move) (n_val (r_move) (n_val (r_lss rfl rfl) (n_val (r_assign) ?_))))
    simp only [ev,zD,zE,zF,zG]
    refine n_nil (k24 _ _ ?_)
    refine wp_ret ?_
    try simp only [Exit.inBlock,Exit.then,if_true]
    refine fin1 rfl rfl ?_
    try simp only [zD,zE]
    exact ⟨_,rfl,m.ext,by simp only [P3.lt_z ex ey]⟩
   ·
    have ez : p.z = q.z:=by omega
    refine wp_skip (k20 _ _ ?_)
    refine wp_region_lit (n_val (r_add (m:=2) (n:=1) (r:=3) rfl rfl (by decide)) (n_val (r_move) (n_nil (then_rounds (c_seq fun K25 k25=>wp_region_lit (n_val (r_lssF (m:=3) (n:=3) rfl rfl (by decide)) (n_nil (k25 _ _ ?_))))))))
    refine c_seq fun K26 k26=>c_no rfl (wp_exit (k2 _ _ ?_))
    refine c_seq fun K27 k27=>wp_region_lit (n_val (r_assign) ?_)
    simp only [ev,zD,zE,zF,zG]
    refine n_nil (k27 _ _ ?_)
    refine wp_ret ?_
    try simp only [Exit.inBlock,Exit.then,if_true]
    refine fin1 rfl rfl ?_
    try simp only [zD,zE]
    exact ⟨_,rfl,m.ext,by rw [decide_eq_false (fun h=>by unfold P3.Lt at h; omega)]⟩
theorem gcmpP_c {p q : P3} : GPure Tryz.prog 102 [pt p,pt q] (.int .i64 (cmpP p q)):=by
 intro w
 refine ⟨en_102,?_⟩
 have m:=MemG.refl w
 go_enter Tryz.func102,Tryz.ntmps102
 refine c_seq fun K1 k1=>wp_region_lit (GmboxA m rfl ?_)
 clear m; intro g1 u m
 simp only [ev,zD,zE,zF,zG]
 refine GmboxA m rfl ?_
 clear m; intro g2 u m
 refine n_val (r_assign) (n_nil (k1 _ _ ?_))
 refine c_seq fun K2 k2=>wp_block (c_seq fun K3 k3=>wp_region_lit ?_)
 simp only [ev,zD,zE,zF,zG]
 refine n_load rfl ((m.b 1 rfl).full agg_56 cells_56) ?_
 simp only [ev,zD,zE,zF,zG]
 refine n_load rfl ((m.b 0 rfl).full agg_56 cells_56) ?_
 simp only [ev,zD,zE,zF,zG]
 refine GmcallP m rfl rfl (gless_c) ?_
 clear m; intro u m
 refine n_val (r_assign) (n_nil (k3 _ _ ?_))
 simp only [ev,zD,zE,zF,zG]
 refine c_if rfl (fun hc1=>?_) (fun hc1=>?_)
 ·
  refine c_seq fun K4 k4=>wp_region_lit (n_val (r_assign) (n_nil (k4 _ _ ?_)))
  refine wp_ret ?_
  simp only [ev,zD,zE,zF,zG]
  try simp only [Exit.inBlock,Exit.then,if_true]
  refine fin1 rfl rfl ?_
  try simp only [zD,zE]
  exact ⟨_,rfl,m.ext,by simp [cmpP,hc1]⟩
 ·
  refine c_seq fun K5 k5=>wp_region_lit (n_load rfl ((m.b 0 rfl).full agg_56 cells_56) ?_)
  simp only [ev,zD,zE,zF,zG]
  refine n_load rfl ((m.b 1 rfl).full agg_56 cells_56) ?_
  simp only [ev,zD,zE,zF,zG]
  refine GmcallP m rfl rfl (gless_c) ?_
  clear m; intro u m
  refine n_val (r_assign) (n_nil (k5 _ _ ?_))
  simp only [ev,zD,zE,zF,zG]
  refine c_if rfl (fun hc2=>?_) (fun hc2=>?_)
  ·
   refine c_seq fun K6 k6=>wp_region_lit (n_val (r_assign) (n_nil (k6 _ _ ?_)))
   refine wp_ret ?_
   simp only [ev,zD,zE,zF,zG]
   try simp only [Exit.inBlock,Exit.then,if_true]
   refine fin1 rfl rfl ?_
   try simp only [zD,zE]
   exact ⟨_,rfl,m.ext,by simp [cmpP,hc1,hc2]⟩
  ·
   refine wp_skip (k2 _ _ ?_)
   refine c_seq fun K7 k7=>wp_region_lit (n_val (r_assign) (n_nil (k7 _ _ ?_)))
   refine wp_ret ?_
   simp only [ev,zD,zE,zF,zG]
   try simp only [Exit.inBlock,Exit.then,if_true]
   refine fin1 rfl rfl ?_
   try simp only [zD,zE]
   exact ⟨_,rfl,m.ext,by simp [cmpP,hc1,hc2]⟩
end Go.Proofs.YtimjandkmfcmiaaGreatDoor
namespace Go.Proofs
open Go.Shelf
def Tryz.sort129_ren : Go.Shelf.Ren:=⟨fun | 6=>129 | 15=>147 | 14=>146 | 28=>168 | 29=>149 | 20=>160 | 21=>161 | 22=>162 | 23=>163 | 24=>164 | 25=>165 | 26=>166 | 27=>167 | 46=>178 | 47=>179 | 48=>180 | 49=>181 | 50=>182 | 57=>185 | n=>n,fun | 22=>26 | 24=>56 | 25=>149 | 3=>3 | 39=>103 | 0=>0 | 53=>212 | 55=>101 | 4=>4 | 46=>206 | 45=>205 | 50=>126 | 5=>5 | 9=>9 | 66=>225 | 70=>229 | 76=>231 | 77=>184 | n=>n,fun | n=>n⟩
theorem Tryz.sort129 : Go.Proofs.SlLaysF0.n6 Tryz.prog Tryz.sort129_ren:={
  mixed:=by kernel_rfl
  f6:=⟨Tryz.f129.name,by decide,Tryz.func129.trans (congrArg some (by kernel_rfl))⟩
  f14:=⟨Tryz.f146.name,by decide,Tryz.func146.trans (congrArg some (by kernel_rfl))⟩
  f15:=Tryz.func147.trans (congrArg some (by kernel_rfl))
  f20:=⟨Tryz.f160.name,by decide,Tryz.func160.trans (congrArg some (by kernel_rfl))⟩
  f21:=⟨Tryz.f161.name,by decide,Tryz.func161.trans (congrArg some (by kernel_rfl))⟩
  f22:=⟨Tryz.f162.name,by decide,Tryz.func162.trans (congrArg some (by kernel_rfl))⟩
  f23:=⟨Tryz.f163.name,by decide,Tryz.func163.trans (congrArg some (by kernel_rfl))⟩
  f24:=⟨Tryz.f164.name,by decide,Tryz.func164.trans (congrArg some (by kernel_rfl))⟩
  f25:=⟨Tryz.f165.name,by decide,Tryz.func165.trans (congrArg some (by kernel_rfl))⟩
  f26:=⟨Tryz.f166.name,by decide,Tryz.func166.trans (congrArg some (by kernel_rfl))⟩
  f27:=⟨Tryz.f167.name,by decide,Tryz.func167.trans (congrArg some (by kernel_rfl))⟩
  f28:=Tryz.func168.trans (congrArg some (by kernel_rfl))
  f29:=Tryz.func149.trans (congrArg some (by kernel_rfl))
  f46:=⟨Tryz.f178.name,by decide,Tryz.func178.trans (congrArg some (by kernel_rfl))⟩
  f47:=Tryz.func179.trans (congrArg some (by kernel_rfl))
  f48:=Tryz.func180.trans (congrArg some (by kernel_rfl))
  f49:=⟨Tryz.f181.name,by decide,Tryz.func181.trans (congrArg some (by kernel_rfl))⟩
  f50:=⟨Tryz.f182.name,by decide,Tryz.func182.trans (congrArg some (by kernel_rfl))⟩
  f57:=⟨Tryz.f185.name,by decide,Tryz.func185.trans (congrArg some (by kernel_rfl))⟩
  t0:=Tryz.underlying0
  a0:=Tryz.isAgg0
  z0:=Tryz.sizeOf0
  v0:=Tryz.zeroValue0
  t3:=Tryz.underlying3
  a3:=Tryz.isAgg3
  z3:=Tryz.sizeOf3
  v3:=Tryz.zeroValue3
  t4:=Tryz.underlying4
  a4:=Tryz.isAgg4
  z4:=Tryz.sizeOf4
  v4:=Tryz.zeroValue4
  t5:=Tryz.underlying5
  a5:=Tryz.isAgg5
  z5:=Tryz.sizeOf5
  v5:=Tryz.zeroValue5
  t9:=Tryz.underlying9
  a9:=Tryz.isAgg9
  z9:=Tryz.sizeOf9
  v9:=Tryz.zeroValue9
  t22:=Tryz.underlying26
  a22:=Tryz.isAgg26
  z22:=Tryz.sizeOf26
  v22:=Tryz.zeroValue26
  t25:=Tryz.underlying149
  a25:=Tryz.isAgg149
  z25:=Tryz.sizeOf149
  v25:=Tryz.zeroValue149
  t39:=Tryz.underlying103
  a39:=Tryz.isAgg103
  z39:=Tryz.sizeOf103
  v39:=Tryz.zeroValue103
  t45:=Tryz.underlying205
  a45:=Tryz.isAgg205
  z45:=Tryz.sizeOf205
  v45:=Tryz.zeroValue205
  t46:=Tryz.underlying206
  a46:=Tryz.isAgg206
  z46:=Tryz.sizeOf206
  v46:=Tryz.zeroValue206
  t50:=Tryz.underlying126
  a50:=Tryz.isAgg126
  z50:=Tryz.sizeOf126
  v50:=Tryz.zeroValue126
  t53:=Tryz.underlying212
  a53:=Tryz.isAgg212
  z53:=Tryz.sizeOf212
  v53:=Tryz.zeroValue212
  t55:=Tryz.underlying101
  a55:=Tryz.isAgg101
  z55:=Tryz.sizeOf101
  v55:=Tryz.zeroValue101
  t66:=Tryz.underlying225
  a66:=Tryz.isAgg225
  z66:=Tryz.sizeOf225
  v66:=Tryz.zeroValue225
  t70:=Tryz.underlying229
  a70:=Tryz.isAgg229
  z70:=Tryz.sizeOf229
  v70:=Tryz.zeroValue229
  t76:=Tryz.underlying231
  a76:=Tryz.isAgg231
  z76:=Tryz.sizeOf231
  v76:=Tryz.zeroValue231
  t77:=Tryz.underlying184
  a77:=Tryz.isAgg184
  z77:=Tryz.sizeOf184
  v77:=Tryz.zeroValue184 }
end Go.Proofs
namespace Go.Proofs.YtimjandkmfcmiaaGreatDoor
open Go.RowKit Go.Lith
set_option maxRecDepth 100000
attribute [local irreducible] wpList wpQuiet wpMix wpMixH wpTree Code.wp
theorem kt_56 : KeyT Tryz.prog 56 pt:=by
 refine KeyT.agg (cs:=fun p=>#[.int .i64 p.x,.int .i64 p.y,.int .i64 p.z]) (fun _=>rfl) Tryz.underlying56 (fun e p=>?_) (fun p q=>?_) (fun p=>?_)
 ·
  refine CkR.struct (d:=9999) Tryz.underlying56 fun f hf=>?_
  simp only [List.mem_cons,List.not_mem_nil,or_false] at hf
  rcases hf with rfl | rfl | rfl <;> exact ⟨_,part_one agg_3 rfl,CkR.int (d:=9998) Tryz.underlying3⟩
 · exact (eqr_56 9998).iff ⟨fun h=>P3.eq h.1 h.2.1 h.2.2,fun h=>by subst h; exact ⟨rfl,rfl,rfl⟩⟩
 · simp [pt,Instr.sameBits]
theorem addP_c {w0 w : World} {is : List It} {g c : Nat} {es : Array MapEntry} {D : List (P3 × Bool)} {p : P3} (m : Mem w0 w is) (k : Nat) (hk : is[k]? = some (mI g es c)) (hD1 : MapOf pt Value.bool D es c) : Calls Tryz.prog 100 [.map (some g),pt p].toArray w fun e w'=>∃ v i,e = .returned v ∧ Mem w0 w' (is.set k i) ∧ (v = .bool (!(mget D p).getD false) ∧ ∃ es' c',i = mI g es' c' ∧ MapOf pt Value.bool (mput D p true) es' c'):=by
 go_enter Tryz.func100,Tryz.ntmps100
 refine c_seq fun K1 k1=>wp_region_lit (mboxA m rfl ?_)
 clear m; intro g1 u m
 refine n_val (r_assign) (n_nil (k1 _ _ ?_))
 refine c_seq fun K2 k2=>c_seq fun K3 k3=>wp_region_lit (n_val (r_move) ?_)
 simp only [ev,zD,zE,zF,zG]
 refine n_load rfl ((m.b 0 rfl).full agg_56 cells_56) ?_
 simp only [ev,zD,zE,zF,zG]
 refine n_valW (r_lookup (ek:=pt) (en:=Value.bool) (k:=p) (v0:=false) Tryz.underlying146 zero_4 kt_56 rfl rfl (m.p (k + 1) hk) hD1) ?_
 simp only [ev,zD,zE,zF,zG]
 refine n_nil (k3 _ _ ?_)
 refine c_ifB rfl (fun hc1=>?_) (fun hc1=>?_)
 ·
  refine c_seq fun K4 k4=>wp_region_lit (n_val (r_assign) (n_nil (k4 _ _ ?_)))
  refine wp_ret ?_
  simp only [ev,zD,zE,zF,zG]
  try simp only [Exit.inBlock,Exit.then,if_true]
  refine fin1 rfl rfl ?_
  try simp only [zD,zE]
  exact ⟨_,mI g es c,rfl,by rw [set_same hk]; exact m.tl,by rw [hc1]; rfl,es,c,rfl,by rw [mput_same (by cases hq : mget D p with | none=>rw [hq] at hc1; cases hc1 | some x=>rw [hq] at hc1; exact congrArg some hc1)]; exact hD1⟩
 ·
  refine wp_skip (k2 _ _ ?_)
  refine c_seq fun K5 k5=>wp_region_lit (n_val (r_move) ?_)
  simp only [ev,zD,zE,zF,zG]
  refine n_load rfl ((m.b 0 rfl).full agg_56 cells_56) ?_
  simp only [ev,zD,zE,zF,zG]
  refine mupdate (ek:=pt) (en:=Value.bool) (a:=p) (v:=true) m (k + 1) hk Tryz.underlying146 kt_56 rfl rfl rfl hD1 ?_
  clear m; intro es1 c1 u m hD'; clear hD1; have hD1:=hD'; clear hD'; simp only [zF,zG] at m
  refine n_nil (k5 _ _ ?_)
  refine c_seq fun K6 k6=>wp_region_lit (n_val (r_assign) (n_nil (k6 _ _ ?_)))
  refine wp_ret ?_
  simp only [ev,zD,zE,zF,zG]
  try simp only [Exit.inBlock,Exit.then,if_true]
  refine fin1 rfl rfl ?_
  try simp only [zD,zE]
  exact ⟨_,_,rfl,m.tl,by rw [hc1]; rfl,_,_,rfl,hD1⟩
theorem sortP_c {w0 w : World} {is : List It} {A : Option Addr} {n cap : Nat} {xs : List P3} (m : Mem w0 w is) (k : Nat) (hi : is[k]? = some (oI 56 3 A n cap (xs.flatMap ptCells))) (hsz : n < 4611686018427387904) :
  Calls Tryz.prog 129 [.slice A n cap,.func (.func 102) #[] #[]].toArray w fun e w'=>∃ v i,e = .returned v ∧ Mem w0 w' (is.set k i) ∧ (v = .tuple #[] ∧ ∃ ys : List P3,i = oI 56 3 A n cap (ys.flatMap ptCells) ∧ ys.Perm xs ∧ ys.Pairwise fun a b=>ltOf cmpP b a = false) :=
 sort_mem (enc:=ptCells) Tryz.sort129 (fun w=>agg_run agg_56 w) (fun w=>size_run cells_56 w) (fun _=>rfl) (by decide) ptCells_one cmpP cmpP_swo (fun x y=>gcmpP_c) m k hi hsz
theorem sortedP_c {g c : Nat} {es : Array MapEntry} {D : List (P3 × Bool)} (w : World) (hM : MapB w g es c) (hD : MapOf pt Value.bool D es c) (hl : D.length ≤ 1000000) : Does Tryz.prog 101 [.map (some g),.func (.func 102) #[] #[]] w (OR 56 3 (fun xs=>∃ ps : List P3,xs = ps.flatMap ptCells ∧ ps.Perm (D.map (·.1)) ∧ ps.Pairwise fun a b=>¬ b.Lt a) w):=by
 refine ⟨en_101,?_⟩
 have m:=Mem.refl w
 go_enter Tryz.func101,Tryz.ntmps101
 refine c_seq fun K1 k1=>wp_region_lit (n_val (r_assign) (n_nil (k1 _ _ ?_)))
 refine c_seq fun K2 k2=>wp_region_lit (n_val (r_assign) ?_)
 replace m:=m.nilO 56 3
 refine n_nil (k2 _ _ ?_)
 refine c_seq fun K3 k3=>c_seq fun K4 k4=>wp_region_lit (n_val (r_move) ?_)
 simp only [ev,zD,zE,zF,zG]
 refine mrange m Tryz.underlying146 rfl (hM.ext m.ext) ?_
 clear m; intro r1 u m
 refine n_nil (k4 _ _ ?_)
 refine wp_block ?_
 simp only [ev,zD,zE,zF,zG]
 try simp only [Nat.zero_add,Nat.reduceAdd,Nat.reduceMul,Int.reduceToNat]
 refine c_loopg [5] [6,9,10,11,12,13,14,15,16] (fun n vs wl=>∃ (dn rs : List (P3 × Bool)) (A1 : Option Addr) (n1 cap1 : Nat) (sn : Array Nat),vs = [.slice A1 n1 cap1] ∧ Mem w wl [iI r1 g c sn,oI 56 3 A1 n1 cap1 ((dn.map (·.1)).flatMap ptCells)] ∧ (Trav pt Value.bool D es sn dn rs) ∧ (n1 = dn.length) ∧ (n = rs.length)) ?_ ?_
 ·
  apply Exists.intro
  simp only [zQ,zR,zD,zE]
  exact ⟨[],D,none,0,0,#[],rfl,m,Trav.start hD,rfl,rfl⟩
 ·
  intro n vs wr hI u
  clear m
  obtain ⟨dn,rs,A1,n1,cap1,sn,rfl,m,hT,hn1,hn⟩:=hI
  have hlen:=hT.len
  simp only [setG_cons,setG_nil,setMany_cons,setMany_nil,zF,zG]
  refine c_seq fun K5 k5=>wp_region_lit (mnext m 0 rfl rfl (hM.ext m.ext) hD hT ?_)
  clear m; intro bb kk vv sn u m hN; simp only [zF,zG] at m
  refine n_val (r_nextB rfl) (n_nil (k5 _ _ ?_))
  refine c_seq fun K6 k6=>?_
  simp only [ev,zD,zE,zF,zG]
  refine c_ifB rfl (fun hc1=>?_) (fun hc1=>?_)
  ·
   obtain ⟨kp,kb,rs2,hp,hT2⟩:=nxt_t hc1 hN
   refine wp_skip (k6 _ _ ?_)
   refine wp_block (c_seq fun K7 k7=>wp_region_lit (n_valW (r_entry rfl (m.r 0 rfl) (hM.ext m.ext) hD hT2) ?_))
   simp only [ev,zD,zE,zF,zG]
   refine n_val (r_extract rfl rfl) ?_
   simp only [ev,zD,zE,zF,zG]
   refine malloc m zero_56 rfl ?_
   clear m; intro g2 u m
   simp only [ev,zD,zE,zF,zG]
   refine mstoreA m 0 rfl rfl rfl cells_56 (leT rfl) rfl ?_
   clear m; intro u m; simp only [over,zH,zI,zJ,zK,zL,zM,zN,zO,zP,zF,zG,Nat.reduceAdd] at m
   refine n_nil (k7 _ _ ?_)
   refine wp_region_lit (n_val (r_move) ?_)
   simp only [ev,zD,zE,zF,zG]
   refine n_load rfl ((m.b 0 rfl).full agg_56 cells_56) ?_
   simp only [ev,zD,zE,zF,zG]
   refine n_bs_26_1 rfl ?_
   intro u g3 e hg hB; replace m:=m.newB e hg hB; clear e hg hB
   simp only [ev,zD,zE,zF,zG]
   refine mappend m 3 rfl rfl Tryz.underlying26 inf_56 rfl (by decide) rfl rfl rfl (m.b 0 rfl).rowsO (allT rfl) (by omega) (by omega) ?_
   clear m; intro A1 cap1 u m; simp only [zF,zG] at m
   refine n_val (r_assign) (n_nil ?_)
   simp only [ev,zD,zE,zF,zG]
   simp only [Exit.inBlock,Exit.then]
   refine ⟨rs2.length,_,?_,rfl,?_,?_⟩
   · rw [hn,hp.length_eq]; exact Nat.lt_succ_self _
   · simp only [zQ,zR,zD,zE,setG_cons,setG_nil,setMany_cons,setMany_nil,zF,zG]
   ·
    simp only [zQ,zR,zD,zE]
    exact ⟨dn ++ [(kp,kb)],rs2,_,_,_,_,rfl,((m.reO 3 rfl ((m.o 3 rfl).as (by simp [ptCells]))).sel [false,false,true,true]),hT2,by simp [hn1],rfl⟩
  ·
   obtain rfl:=nxt_f hc1 hN
   refine wp_exit (k3 _ _ ?_)
   refine c_seq fun K8 k8=>wp_region_lit (n_val (r_move) (n_val (r_move) ?_))
   simp only [ev,zD,zE,zF,zG]
   refine mcallF m 1 en_129 rfl rfl (fun m=>sortP_c m 1 rfl (by omega)) ?_
   clear m; rintro v i u m ⟨rfl,ys,rfl,hys,hso⟩; simp only [zF,zG] at m
   refine n_nil (k8 _ _ ?_)
   refine c_seq fun K9 k9=>wp_region_lit (n_val (r_move) (n_val (r_assign) (n_nil (k9 _ _ ?_))))
   refine wp_ret ?_
   simp only [ev,zD,zE,zF,zG]
   try simp only [Exit.inBlock,Exit.then,if_true]
   refine fin1 rfl rfl ?_
   try simp only [zD,zE]
   exact ⟨_,rfl,m.ext,_,_,_,_,rfl,(m.o 1 rfl),_,rfl,hys.trans (hT.done.map _),hso.imp fun h=>by simpa [ltOf,cmpP_neg] using h⟩
end Go.Proofs.YtimjandkmfcmiaaGreatDoor
namespace Go.Lith
open Go.RowKit
def Pts (ts : List T3) (p : P3) : Prop:=∃ u ∈ ts,p = u.a ∨ p = u.b ∨ p = u.c
def SubT (us ts : List T3) : Prop:=∀ p,Pts us p → Pts ts p
theorem SubT.refl (ts : List T3) : SubT ts ts:=fun _ h=>h
theorem SubT.trans {a b c : List T3} (h : SubT a b) (k : SubT b c) : SubT a c:=fun p hp=>k p (h p hp)
theorem SubT.one {ts : List T3} {a b c : P3} (ha : Pts ts a) (hb : Pts ts b) (hc : Pts ts c) : SubT [⟨a,b,c⟩] ts:=fun p ⟨u,hu,hp⟩=>by
  obtain rfl:=List.mem_singleton.1 hu
  rcases hp with rfl | rfl | rfl
  · exact ha
  · exact hb
  · exact hc
theorem SubT.set {us ts : List T3} {k : Nat} {a b c : P3} (h : SubT us ts) (ha : Pts ts a) (hb : Pts ts b) (hc : Pts ts c) : SubT (us.set k ⟨a,b,c⟩) ts:=fun p ⟨u,hu,hp⟩=>by
  rcases List.mem_or_eq_of_mem_set hu with hu | rfl
  · exact h p ⟨u,hu,hp⟩
  · rcases hp with rfl | rfl | rfl
    · exact ha
    · exact hb
    · exact hc
theorem SubT.sm {us ts : List T3} {k : Int} (h : SubT us ts) (hs : ∀ t ∈ ts,SmT k t) : ∀ t ∈ us,SmT k t:=fun t ht=>by
  have p : ∀ p,Pts us p → Sm k p:=fun p hp=>by
    obtain ⟨u,hu,hp⟩:=h p hp
    rcases hp with rfl | rfl | rfl
    · exact (hs u hu).1
    · exact (hs u hu).2.1
    · exact (hs u hu).2.2
  exact ⟨p _ ⟨t,ht,.inl rfl⟩,p _ ⟨t,ht,.inr (.inl rfl)⟩,p _ ⟨t,ht,.inr (.inr rfl)⟩⟩
theorem SubT.it {us ts : List T3} (h : SubT us ts) (hs : ∀ t ∈ ts,IT t) : ∀ t ∈ us,IT t:=fun t ht=>by
  have p : ∀ p,Pts us p → I3 p:=fun p hp=>by
    obtain ⟨u,hu,hp⟩:=h p hp
    have:=hs u hu
    rcases hp with rfl | rfl | rfl
    · exact this.a
    · exact this.b
    · exact this.c
  exact ⟨p _ ⟨t,ht,.inl rfl⟩,p _ ⟨t,ht,.inr (.inl rfl)⟩,p _ ⟨t,ht,.inr (.inr rfl)⟩⟩
section
variable {w0 w : World} {S : List (Option Nat)} {E : TypeId} {n cap : Nat} {A : Option Addr} {ts : List T3}
theorem TrisAt.take {N k : Nat} (h : TrisAt w A N ts) (hk : k ≤ N) : TrisAt w A k (ts.take k) :=
  ⟨by rw [List.length_take,h.len]; omega,fun t ht=>h.it t (List.mem_of_mem_take ht),fun i t ht=>h.row i t (by rw [List.getElem?_take] at ht; split at ht; exact ht; cases ht)⟩
theorem min_law {a b : Nat} : (if (b : Int) < (a : Int) then (b : Int) else (a : Int)) = ((min a b : Nat) : Int):=by
  split <;> omega
end
end Go.Lith
namespace Go.Proofs.YtimjandkmfcmiaaGreatDoor
open Go.RowKit Go.Lith
set_option maxRecDepth 100000
attribute [local irreducible] wpList wpQuiet wpMix wpMixH wpTree Code.wp
theorem cornersP_c {ts : List T3} {N cap : Nat} {A : Option Addr} (w : World) (hT : TrisAt w A N ts) (hN : N ≤ 300000) : Does Tryz.prog 61 [.slice A N cap] w (OR 56 3 (fun xs=>∃ ps : List P3,xs = ps.flatMap ptCells ∧ Sorted ps ∧ ∀ a,a ∈ ps ↔ a ∈ corsT ts) w):=by
 refine ⟨en_61,?_⟩
 have m:=Mem.refl w
 go_enter Tryz.func61,Tryz.ntmps61
 refine c_seq fun K1 k1=>wp_region_lit (n_val (r_assign) (n_nil (k1 _ _ ?_)))
 refine c_seq fun K2 k2=>wp_region_lit ?_
 simp only [ev,zD,zE,zF,zG]
 refine mmakeMap m ?_
 clear m; intro q8 u m
 have hD8:=MapOf.nil (K:=P3) (V:=Bool) pt Value.bool
 refine n_val (r_assign) (n_nil (k2 _ _ ?_))
 refine c_seq fun K3 k3=>c_seq fun K4 k4=>wp_region_lit (n_val (r_move) (n_val (r_lenS rfl Tryz.underlying48 rfl) ?_))
 simp only [ev,zD,zE,zF,zG]
 refine n_val (r_move) (n_nil (k4 _ _ ?_))
 refine wp_block ?_
 simp only [ev,zD,zE,zF,zG]
 try simp only [Nat.zero_add,Nat.reduceAdd,Nat.reduceMul,Int.reduceToNat]
 refine c_loopg [11] [5,7,12,13,14,15,16,17,18,19,20,21,22,23] (fun n vs wl=>∃ (k : Nat) (es : Array MapEntry) (c : Nat),vs = [.int .i64 (k:Int)] ∧ Mem w wl [mI q8 es c] ∧ (MapOf pt Value.bool (addsP [] (corsT (ts.take k))) es c) ∧ (k ≤ N) ∧ (n = N - k)) ?_ ?_
 ·
  apply Exists.intro
  simp only [zQ,zR,zD,zE]
  exact ⟨0,_,_,rfl,m,hD8,Nat.zero_le _,rfl⟩
 ·
  intro n vs wr hI u
  clear m
  obtain ⟨k,es,c,rfl,m,hD8,hk,hn⟩:=hI
  simp only [setG_cons,setG_nil,setMany_cons,setMany_nil,zF,zG]
  refine c_seq fun K5 k5=>wp_region_lit (n_val (r_lss rfl rfl) (n_nil (k5 _ _ ?_)))
  refine c_seq fun K6 k6=>?_
  simp only [ev,zD,zE,zF,zG]
  refine c_if rfl (fun hc1=>?_) (fun hc1=>?_)
  ·
   obtain ⟨t,ht,_,a,rfl,hrow⟩:=hT.get (i:=k) (by omega)
   refine wp_skip (k6 _ _ ?_)
   refine c_seq fun K7 k7=>wp_block (c_seq fun K8 k8=>wp_region_lit (n_val (r_indexAddrS Tryz.underlying48 cells_58 rfl rfl (by omega) (by omega) (addrN (Int.toNat_natCast _))) ?_))
   simp only [ev,zD,zE,zF,zG]
   refine n_load rfl (((hrow.ext m.ext)).lies agg_58 cells_58) ?_
   simp only [ev,zD,zE,zF,zG]
   refine malloc m zero_58 rfl ?_
   clear m; intro g2 u m
   simp only [ev,zD,zE,zF,zG]
   refine mstoreA m 0 rfl rfl rfl cells_58 (leT rfl) rfl ?_
   clear m; intro u m; simp only [over,zH,zI,zJ,zK,zL,zM,zN,zO,zP,zF,zG,Nat.reduceAdd] at m
   refine n_nil (k8 _ _ ?_)
   refine c_seq fun K9 k9=>wp_region_lit (n_load rfl ((m.b 0 rfl).full agg_58 cells_58) ?_)
   simp only [ev,zD,zE,zF,zG]
   refine n_val (r_move) (n_nil (k9 _ _ ?_))
   refine wp_block (wp_loop_rounds 4 (rounds_step (c_seq fun K10 k10=>wp_region_lit (n_val (r_lssT (m:=0) (n:=3) rfl rfl (by decide)) (n_nil (k10 _ _ ?_))))))
   refine c_seq fun K11 k11=>c_yes rfl (wp_skip (k11 _ _ ?_))
   refine c_seq fun K12 k12=>wp_block (c_seq fun K13 k13=>wp_region_lit (n_val (r_index_58_0 rfl rfl) ?_))
   simp only [ev,zD,zE,zF,zG]
   refine malloc m zero_56 rfl ?_
   clear m; intro g3 u m
   simp only [ev,zD,zE,zF,zG]
   refine mstoreA m 0 rfl rfl rfl cells_56 (leT rfl) rfl ?_
   clear m; intro u m; simp only [over,zH,zI,zJ,zK,zL,zM,zN,zO,zP,zF,zG,Nat.reduceAdd] at m
   refine n_nil (k13 _ _ ?_)
   refine wp_region_lit (n_val (r_move) ?_)
   simp only [ev,zD,zE,zF,zG]
   refine n_load rfl ((m.b 0 rfl).full agg_56 cells_56) ?_
   simp only [ev,zD,zE,zF,zG]
   refine mcallF m 2 en_100 rfl rfl (fun m=>addP_c (p:=t.a) m 2 rfl hD8) ?_
   clear m; rintro v i u m ⟨rfl,es',c',rfl,hD'⟩; simp only [zF,zG] at m
   simp only [ev,zD,zE,zF,zG]
   clear hD8; have hD8:=hD'; clear hD'
   refine n_nil (k12 _ _ ?_)
   refine wp_region_lit (n_val (r_add (m:=0) (n:=1) (r:=1) rfl rfl (by decide)) (n_val (r_move) (n_nil (then_rounds (c_seq fun K14 k14=>wp_region_lit (n_val (r_lssT (m:=1) (n:=3) rfl rfl (by decide)) (n_nil (k14 _ _ ?_))))))))
   refine c_seq fun K15 k15=>c_yes rfl (wp_skip (k15 _ _ ?_))
   refine c_seq fun K16 k16=>wp_block (c_seq fun K17 k17=>wp_region_lit (n_val (r_index_58_1 rfl rfl) ?_))
   simp only [ev,zD,zE,zF,zG]
   refine malloc m zero_56 rfl ?_
   clear m; intro g4 u m
   simp only [ev,zD,zE,zF,zG]
   refine mstoreA m 0 rfl rfl rfl cells_56 (leT rfl) rfl ?_
   clear m; intro u m; simp only [over,zH,zI,zJ,zK,zL,zM,zN,zO,zP,zF,zG,Nat.reduceAdd] at m
   refine n_nil (k17 _ _ ?_)
   refine wp_region_lit (n_val (r_move) ?_)
   simp only [ev,zD,zE,zF,zG]
   refine n_load rfl ((m.b 0 rfl).full agg_56 cells_56) ?_
   simp only [ev,zD,zE,zF,zG]
   refine mcallF m 3 en_100 rfl rfl (fun m=>addP_c (p:=t.b) m 3 rfl hD8) ?_
   clear m; rintro v i u m ⟨rfl,es',c',rfl,hD'⟩; simp only [zF,zG] at m
   simp only [ev,zD,zE,zF,zG]
   clear hD8; have hD8:=hD'; clear hD'
   refine n_nil (k16 _ _ ?_)
   refine wp_region_lit (n_val (r_add (m:=1) (n:=1) (r:=2) rfl rfl (by decide)) (n_val (r_move) (n_nil (then_rounds (c_seq fun K18 k18=>wp_region_lit (n_val (r_lssT (m:=2) (n:=3) rfl rfl (by decide)) (n_nil (k18 _ _ ?_))))))))
   refine c_seq fun K19 k19=>c_yes rfl (wp_skip (k19 _ _ ?_))
   refine c_seq fun K20 k20=>wp_block (c_seq fun K21 k21=>wp_region_lit (n_val (r_index_58_2 rfl rfl) ?_))
   simp only [ev,zD,zE,zF,zG]
   refine malloc m zero_56 rfl ?_
   clear m; intro g5 u m
   simp only [ev,zD,zE,zF,zG]
   refine mstoreA m 0 rfl rfl rfl cells_56 (leT rfl) rfl ?_
   clear m; intro u m; simp only [over,zH,zI,zJ,zK,zL,zM,zN,zO,zP,zF,zG,Nat.reduceAdd] at m
   refine n_nil (k21 _ _ ?_)
   refine wp_region_lit (n_val (r_move) ?_)
   simp only [ev,zD,zE,zF,zG]
   refine n_load rfl ((m.b 0 rfl).full agg_56 cells_56) ?_
   simp only [ev,zD,zE,zF,zG]
   refine mcallF m 4 en_100 rfl rfl (fun m=>addP_c (p:=t.c) m 4 rfl hD8) ?_
   clear m; rintro v i u m ⟨rfl,es',c',rfl,hD'⟩; simp only [zF,zG] at m
   simp only [ev,zD,zE,zF,zG]
   clear hD8; have hD8:=hD'; clear hD'
   refine n_nil (k20 _ _ ?_)
   refine wp_region_lit (n_val (r_add (m:=2) (n:=1) (r:=3) rfl rfl (by decide)) (n_val (r_move) (n_nil (then_rounds (c_seq fun K22 k22=>wp_region_lit (n_val (r_lssF (m:=3) (n:=3) rfl rfl (by decide)) (n_nil (k22 _ _ ?_))))))))
   refine c_seq fun K23 k23=>c_no rfl (wp_exit (k7 _ _ ?_))
   refine wp_region_lit ?_
   simp only [ev,zD,zE,zF,zG]
   refine n_val (r_add rfl rfl (wrap_i64 (by omega) (by omega))) (n_val (r_move) (n_nil ?_))
   simp only [ev,zD,zE,zF,zG]
   simp only [Exit.inBlock,Exit.then]
   refine ⟨N - (k + 1),_,?_,rfl,?_,?_⟩
   · omega
   · simp only [zQ,zR,zD,zE,setG_cons,setG_nil,setMany_cons,setMany_nil,zF,zG]
   ·
    simp only [zQ,zR,zD,zE]
    exact ⟨k + 1,_,_,rfl,(m.sel [false,false,false,false,true]),by rw [addsP_step ht]; exact hD8,by omega,rfl⟩
  ·
   have hkN : k = N:=by omega
   rw [hkN,show ts.take N = ts from List.take_of_length_le (by rw [hT.len]; exact Nat.le_refl _)] at hD8
   refine wp_exit (k3 _ _ ?_)
   refine c_seq fun K24 k24=>wp_region_lit (n_val (r_move) ?_)
   simp only [ev,zD,zE,zF,zG]
   refine n_call rfl rfl (sortedP_c _ (m.p 0 rfl) hD8 (by have h1:=addsP_length (corsT ts) []; have h2:=corsT_length ts; have h3:=hT.len; simp only [List.length_nil] at h1; omega)) ?_
   rintro v u e ⟨A9,n9,cap9,_,rfl,hN,ps,rfl,hps,hso⟩; replace m:=m.newO e hN; clear e hN
   refine n_val (r_assign) (n_nil (k24 _ _ ?_))
   refine wp_ret ?_
   simp only [ev,zD,zE,zF,zG]
   try simp only [Exit.inBlock,Exit.then,if_true]
   refine fin1 rfl rfl ?_
   try simp only [zD,zE]
   exact ⟨_,rfl,m.ext,_,_,_,_,rfl,(m.o 0 rfl),ps,rfl,sorted_of (hps.nodup_iff.2 (addsP_nodup _ _ .nil)) hso,fun a=>by rw [hps.mem_iff,addsP_mem]; simp⟩
theorem Box_c {ts : List T3} {N cap : Nat} {A : Option Addr} (w : World) (hT : TrisAt w A N ts) (hN : N ≤ 300000) : Does Tryz.prog 41 [.slice A N cap] w (fun v _=>v = .tuple #[pt (loP (corsT ts)),pt (hiP (corsT ts)),.bool (decide ((0 : Int) < (N : Int)))]):=by
 refine ⟨en_41,?_⟩
 have m:=Mem.refl w
 go_enter Tryz.func41,Tryz.ntmps41
 refine c_seq fun K1 k1=>wp_region_lit (malloc m zero_56 rfl ?_)
 clear m; intro g1 u m
 simp only [ev,zD,zE,zF,zG]
 refine malloc m zero_56 rfl ?_
 clear m; intro g2 u m
 refine n_val (r_assign) (n_nil (k1 _ _ ?_))
 refine c_seq fun K2 k2=>c_seq fun K3 k3=>wp_region_lit (n_val (r_move) ?_)
 simp only [ev,zD,zE,zF,zG]
 refine n_call rfl rfl (cornersP_c _ (hT.ext m.ext) hN) ?_
 rintro v u e ⟨A8,n8,cap8,_,rfl,hN,ps,rfl,hso,hmem⟩; replace m:=m.newO e hN; clear e hN
 obtain rfl : ps.length = n8:=by have:=(m.o 0 rfl).own.1; rw [ptsLen] at this; omega
 refine n_val (r_lenS rfl Tryz.underlying26 rfl) (n_val (r_move) (n_nil (k3 _ _ ?_)))
 refine wp_block ?_
 simp only [ev,zD,zE,zF,zG]
 try simp only [Nat.zero_add,Nat.reduceAdd,Nat.reduceMul,Int.reduceToNat]
 refine c_loopg [10] [5,6,11,12,13,14,15,16,17,18,19,20,21,22,23,24,25,26,27,28,29,30,31,32,33,34,35,36,37,38,39,40,41,42,43,44,45,46,47,48,49,50,51] (fun n vs wl=>∃ (k : Nat),vs = [.int .i64 (k:Int)] ∧ Mem w wl [oI 56 3 A8 ps.length cap8 (ps.flatMap ptCells),bI g2 [.int .i64 (hiP (ps.take k)).x,.int .i64 (hiP (ps.take k)).y,.int .i64 (hiP (ps.take k)).z] 56,bI g1 [.int .i64 (loP (ps.take k)).x,.int .i64 (loP (ps.take k)).y,.int .i64 (loP (ps.take k)).z] 56] ∧ (k ≤ ps.length) ∧ (n = ps.length - k)) ?_ ?_
 ·
  apply Exists.intro
  simp only [zQ,zR,zD,zE]
  exact ⟨0,rfl,m,Nat.zero_le _,rfl⟩
 ·
  intro n vs wr hI u
  clear m
  obtain ⟨k,rfl,m,hk,hn⟩:=hI
  simp only [setG_cons,setG_nil,setMany_cons,setMany_nil,zF,zG]
  refine c_seq fun K4 k4=>wp_region_lit (n_val (r_lss rfl rfl) (n_nil (k4 _ _ ?_)))
  refine c_seq fun K5 k5=>?_
  simp only [ev,zD,zE,zF,zG]
  refine c_if rfl (fun hc1=>?_) (fun hc1=>?_)
  ·
   have hle8 : ps.length ≤ 9223372036854775807:=Nat.le_trans (m.o 0 rfl).le (m.o 0 rfl).max
   obtain ⟨p,hp⟩ : ∃ p,ps[k]? = some p:=⟨_,List.getElem?_eq_getElem (by omega)⟩
   obtain ⟨gO,rfl⟩:=(m.o 0 rfl).some (by omega)
   refine wp_skip (k5 _ _ ?_)
   refine c_seq fun K6 k6=>wp_block (c_seq fun K7 k7=>wp_region_lit (n_val (r_move) ?_))
   simp only [ev,zD,zE,zF,zG]
   refine n_val (r_indexAddrS Tryz.underlying26 cells_56 rfl rfl (by omega) (by omega) (addrN (Int.toNat_natCast _))) ?_
   simp only [ev,zD,zE,zF,zG]
   refine n_load rfl (((m.o 0 rfl).pt hp).lies agg_56 cells_56) ?_
   simp only [ev,zD,zE,zF,zG]
   refine malloc m zero_56 rfl ?_
   clear m; intro g3 u m
   refine n_val (r_assign) ?_
   simp only [ev,zD,zE,zF,zG]
   refine mstoreA m 0 rfl rfl rfl cells_56 (leT rfl) rfl ?_
   clear m; intro u m; simp only [over,zH,zI,zJ,zK,zL,zM,zN,zO,zP,zF,zG,Nat.reduceAdd] at m
   refine n_nil (k7 _ _ ?_)
   refine c_seq fun K8 k8=>c_seq fun K9 k9=>wp_region_lit (n_val (r_move) (n_val (r_eql rfl rfl) (n_nil (k9 _ _ ?_))))
   simp only [ev,zD,zE,zF,zG]
   refine c_if rfl (fun hc2=>?_) (fun hc2=>?_)
   ·
    refine mh m [true,true,false,false] [(0,true),(1,true),(2,false),(3,false)] follows_mixed (by kernel_rfl) (panic_put (fun _ _ _ _ _ h=>h)) (ol:=?_) ?hol ?_
    case hol=>simp only [zQ,zR,zS,zT,zU,zV]; try rfl
    clear m; intro u m
    refine h_load rfl (fun u m=>((m.b 0 rfl).full agg_56 cells_56)) ?_
    simp only [ev,zD,zE,zF,zG]
    refine h_load rfl (fun u m=>((m.b 0 rfl).full agg_56 cells_56)) ?_
    simp only [ev,zD,zE,zF,zG]
    refine h_step (mstoreA m 3 rfl rfl rfl cells_56 (leT rfl) rfl ?_)
    clear m; intro u m; simp only [over,zH,zI,zJ,zK,zL,zM,zN,zO,zP,zF,zG,Nat.reduceAdd] at m
    refine n_nil ?_
    refine ⟨m.sel [true,true,false,false],?_⟩
    refine h_step (mstoreA m 2 rfl rfl rfl cells_56 (leT rfl) rfl ?_)
    clear m; intro u m; simp only [over,zH,zI,zJ,zK,zL,zM,zN,zO,zP,zF,zG,Nat.reduceAdd] at m
    refine n_nil ?_
    refine ⟨m.sel [true,true,false,false],?_⟩
    refine h_nil (k8 _ _ ?_)
    refine c_seq fun K10 k10=>wp_region_lit (n_val (r_fieldAddr (c:=0) Tryz.underlying56 rfl cells_3 rfl rfl) ?_)
    simp only [ev,zD,zE,zF,zG]
    refine n_load rfl ((m.b 3 rfl).lies1 agg_3 rfl) ?_
    simp only [ev,zD,zE,zF,zG]
    refine n_val (r_fieldAddr (c:=0) Tryz.underlying56 rfl cells_3 rfl rfl) ?_
    simp only [ev,zD,zE,zF,zG]
    refine n_load rfl ((m.b 0 rfl).lies1 agg_3 rfl) ?_
    simp only [ev,zD,zE,zF,zG]
    refine n_val (r_min rfl rfl rfl) (n_val (r_fieldAddr (c:=0) Tryz.underlying56 rfl cells_3 rfl rfl) ?_)
    simp only [ev,zD,zE,zF,zG]
    refine n_load rfl ((m.b 3 rfl).lies1 agg_3 rfl) ?_
    simp only [ev,zD,zE,zF,zG]
    refine n_val (r_fieldAddr (c:=0) Tryz.underlying56 rfl cells_3 rfl rfl) ?_
    simp only [ev,zD,zE,zF,zG]
    refine n_load rfl ((m.b 0 rfl).lies1 agg_3 rfl) ?_
    simp only [ev,zD,zE,zF,zG]
    refine n_val (r_min rfl rfl rfl) (n_val (r_fieldAddr (c:=0) Tryz.underlying56 rfl cells_3 rfl rfl) ?_)
    simp only [ev,zD,zE,zF,zG]
    refine n_load rfl ((m.b 3 rfl).lies1 agg_3 rfl) ?_
    simp only [ev,zD,zE,zF,zG]
    refine n_val (r_fieldAddr (c:=0) Tryz.underlying56 rfl cells_3 rfl rfl) ?_
    simp only [ev,zD,zE,zF,zG]
    refine n_load rfl ((m.b 0 rfl).lies1 agg_3 rfl) ?_
    simp only [ev,zD,zE,zF,zG]
    refine n_val (r_min rfl rfl rfl) (n_val (r_build_56_0_1_2 rfl rfl rfl) ?_)
    simp only [ev,zD,zE,zF,zG]
    refine mstoreA m 3 rfl rfl rfl cells_56 (leT rfl) rfl ?_
    clear m; intro u m; simp only [over,zH,zI,zJ,zK,zL,zM,zN,zO,zP,zF,zG,Nat.reduceAdd] at m
    refine n_nil (k10 _ _ ?_)
    refine wp_region_lit (n_val (r_fieldAddr (c:=0) Tryz.underlying56 rfl cells_3 rfl rfl) ?_)
    simp only [ev,zD,zE,zF,zG]
    refine n_load rfl ((m.b 2 rfl).lies1 agg_3 rfl) ?_
    simp only [ev,zD,zE,zF,zG]
    refine n_val (r_fieldAddr (c:=0) Tryz.underlying56 rfl cells_3 rfl rfl) ?_
    simp only [ev,zD,zE,zF,zG]
    refine n_load rfl ((m.b 0 rfl).lies1 agg_3 rfl) ?_
    simp only [ev,zD,zE,zF,zG]
    refine n_val (r_max rfl rfl rfl) (n_val (r_fieldAddr (c:=0) Tryz.underlying56 rfl cells_3 rfl rfl) ?_)
    simp only [ev,zD,zE,zF,zG]
    refine n_load rfl ((m.b 2 rfl).lies1 agg_3 rfl) ?_
    simp only [ev,zD,zE,zF,zG]
    refine n_val (r_fieldAddr (c:=0) Tryz.underlying56 rfl cells_3 rfl rfl) ?_
    simp only [ev,zD,zE,zF,zG]
    refine n_load rfl ((m.b 0 rfl).lies1 agg_3 rfl) ?_
    simp only [ev,zD,zE,zF,zG]
    refine n_val (r_max rfl rfl rfl) (n_val (r_fieldAddr (c:=0) Tryz.underlying56 rfl cells_3 rfl rfl) ?_)
    simp only [ev,zD,zE,zF,zG]
    refine n_load rfl ((m.b 2 rfl).lies1 agg_3 rfl) ?_
    simp only [ev,zD,zE,zF,zG]
    refine n_val (r_fieldAddr (c:=0) Tryz.underlying56 rfl cells_3 rfl rfl) ?_
    simp only [ev,zD,zE,zF,zG]
    refine n_load rfl ((m.b 0 rfl).lies1 agg_3 rfl) ?_
    simp only [ev,zD,zE,zF,zG]
    refine n_val (r_max rfl rfl rfl) (n_val (r_build_56_0_1_2 rfl rfl rfl) ?_)
    simp only [ev,zD,zE,zF,zG]
    refine mstoreA m 2 rfl rfl rfl cells_56 (leT rfl) rfl ?_
    clear m; intro u m; simp only [over,zH,zI,zJ,zK,zL,zM,zN,zO,zP,zF,zG,Nat.reduceAdd] at m
    refine n_nil (k6 _ _ ?_)
    refine wp_region_lit (n_val (r_add rfl rfl (wrap_i64 (by omega) (by omega))) (n_val (r_move) (n_nil ?_)))
    simp only [ev,zD,zE,zF,zG]
    simp only [Exit.inBlock,Exit.then]
    refine ⟨ps.length - (k + 1),_,?_,rfl,?_,?_⟩
    · omega
    · simp only [zQ,zR,zD,zE,setG_cons,setG_nil,setMany_cons,setMany_nil,zF,zG]
    ·
     simp only [zQ,zR,zD,zE]
     exact ⟨k + 1,rfl,(((m.re 3 rfl (by rw [loP_one1 (by omega) hp]; exact (m.b 3 rfl))).re 2 rfl (by rw [hiP_one1 (by omega) hp]; exact (m.b 2 rfl))).sel [false,true,true,true]),by omega,rfl⟩
   ·
    have hk0 : 0 < k:=by omega
    refine wp_skip (k8 _ _ ?_)
    refine c_seq fun K11 k11=>wp_region_lit (n_val (r_fieldAddr (c:=0) Tryz.underlying56 rfl cells_3 rfl rfl) ?_)
    simp only [ev,zD,zE,zF,zG]
    refine n_load rfl ((m.b 3 rfl).lies1 agg_3 rfl) ?_
    simp only [ev,zD,zE,zF,zG]
    refine n_val (r_fieldAddr (c:=0) Tryz.underlying56 rfl cells_3 rfl rfl) ?_
    simp only [ev,zD,zE,zF,zG]
    refine n_load rfl ((m.b 0 rfl).lies1 agg_3 rfl) ?_
    simp only [ev,zD,zE,zF,zG]
    refine n_val (r_min rfl rfl rfl) (n_val (r_fieldAddr (c:=0) Tryz.underlying56 rfl cells_3 rfl rfl) ?_)
    simp only [ev,zD,zE,zF,zG]
    refine n_load rfl ((m.b 3 rfl).lies1 agg_3 rfl) ?_
    simp only [ev,zD,zE,zF,zG]
    refine n_val (r_fieldAddr (c:=0) Tryz.underlying56 rfl cells_3 rfl rfl) ?_
    simp only [ev,zD,zE,zF,zG]
    refine n_load rfl ((m.b 0 rfl).lies1 agg_3 rfl) ?_
    simp only [ev,zD,zE,zF,zG]
    refine n_val (r_min rfl rfl rfl) (n_val (r_fieldAddr (c:=0) Tryz.underlying56 rfl cells_3 rfl rfl) ?_)
    simp only [ev,zD,zE,zF,zG]
    refine n_load rfl ((m.b 3 rfl).lies1 agg_3 rfl) ?_
    simp only [ev,zD,zE,zF,zG]
    refine n_val (r_fieldAddr (c:=0) Tryz.underlying56 rfl cells_3 rfl rfl) ?_
    simp only [ev,zD,zE,zF,zG]
    refine n_load rfl ((m.b 0 rfl).lies1 agg_3 rfl) ?_
    simp only [ev,zD,zE,zF,zG]
    refine n_val (r_min rfl rfl rfl) (n_val (r_build_56_0_1_2 rfl rfl rfl) ?_)
    simp only [ev,zD,zE,zF,zG]
    refine mstoreA m 3 rfl rfl rfl cells_56 (leT rfl) rfl ?_
    clear m; intro u m; simp only [over,zH,zI,zJ,zK,zL,zM,zN,zO,zP,zF,zG,Nat.reduceAdd] at m
    refine n_nil (k11 _ _ ?_)
    refine wp_region_lit (n_val (r_fieldAddr (c:=0) Tryz.underlying56 rfl cells_3 rfl rfl) ?_)
    simp only [ev,zD,zE,zF,zG]
    refine n_load rfl ((m.b 2 rfl).lies1 agg_3 rfl) ?_
    simp only [ev,zD,zE,zF,zG]
    refine n_val (r_fieldAddr (c:=0) Tryz.underlying56 rfl cells_3 rfl rfl) ?_
    simp only [ev,zD,zE,zF,zG]
    refine n_load rfl ((m.b 0 rfl).lies1 agg_3 rfl) ?_
    simp only [ev,zD,zE,zF,zG]
    refine n_val (r_max rfl rfl rfl) (n_val (r_fieldAddr (c:=0) Tryz.underlying56 rfl cells_3 rfl rfl) ?_)
    simp only [ev,zD,zE,zF,zG]
    refine n_load rfl ((m.b 2 rfl).lies1 agg_3 rfl) ?_
    simp only [ev,zD,zE,zF,zG]
    refine n_val (r_fieldAddr (c:=0) Tryz.underlying56 rfl cells_3 rfl rfl) ?_
    simp only [ev,zD,zE,zF,zG]
    refine n_load rfl ((m.b 0 rfl).lies1 agg_3 rfl) ?_
    simp only [ev,zD,zE,zF,zG]
    refine n_val (r_max rfl rfl rfl) (n_val (r_fieldAddr (c:=0) Tryz.underlying56 rfl cells_3 rfl rfl) ?_)
    simp only [ev,zD,zE,zF,zG]
    refine n_load rfl ((m.b 2 rfl).lies1 agg_3 rfl) ?_
    simp only [ev,zD,zE,zF,zG]
    refine n_val (r_fieldAddr (c:=0) Tryz.underlying56 rfl cells_3 rfl rfl) ?_
    simp only [ev,zD,zE,zF,zG]
    refine n_load rfl ((m.b 0 rfl).lies1 agg_3 rfl) ?_
    simp only [ev,zD,zE,zF,zG]
    refine n_val (r_max rfl rfl rfl) (n_val (r_build_56_0_1_2 rfl rfl rfl) ?_)
    simp only [ev,zD,zE,zF,zG]
    refine mstoreA m 2 rfl rfl rfl cells_56 (leT rfl) rfl ?_
    clear m; intro u m; simp only [over,zH,zI,zJ,zK,zL,zM,zN,zO,zP,zF,zG,Nat.reduceAdd] at m
    refine n_nil (k6 _ _ ?_)
    refine wp_region_lit (n_val (r_add rfl rfl (wrap_i64 (by omega) (by omega))) (n_val (r_move) (n_nil ?_)))
    simp only [ev,zD,zE,zF,zG]
    simp only [Exit.inBlock,Exit.then]
    refine ⟨ps.length - (k + 1),_,?_,rfl,?_,?_⟩
    · omega
    · simp only [zQ,zR,zD,zE,setG_cons,setG_nil,setMany_cons,setMany_nil,zF,zG]
    ·
     simp only [zQ,zR,zD,zE]
     exact ⟨k + 1,rfl,(((m.re 3 rfl (by rw [loP_step hp hk0]; exact (m.b 3 rfl))).re 2 rfl (by rw [hiP_step hp hk0]; exact (m.b 2 rfl))).sel [false,true,true,true]),by omega,rfl⟩
  ·
   have hkN : k = ps.length:=by omega
   rw [hkN,List.take_length] at m
   refine wp_exit (k2 _ _ ?_)
   refine c_seq fun K12 k12=>?_
   refine mtree m [true,false,false] (.take 2 (.take 3 (.take 4 (.two 0 (.two 1 (.one 5 (.one 6 (.take 7 .nil))) 5 (.one 1 (.one 6 (.take 7 .nil)))) 1 (.one 0 (.one 5 (.one 6 (.take 7 .nil)))))))) follows_mixed (by kernel_rfl) (panic_put (fun _ _ _ _ _ h=>h)) ?_
   clear m; intro u m
   refine t_take (by simp only [zS,zT,zU,zV]; rfl) (h_val (r_move) (h_nil (t_take (by simp only [zS,zT,zU,zV]; rfl) (h_val (r_lenS rfl Tryz.underlying48 rfl) (h_nil (t_take (by simp only [zS,zT,zU,zV]; rfl) (h_val (r_gtr rfl rfl) (h_nil ?_))))))))
   simp only [ev,zD,zE,zF,zG]
   refine t_two (by simp only [zS,zT,zU,zV]; rfl) (by simp only [zS,zT,zU,zV]; rfl) ?_ ?_
   ·
    refine n_load rfl ((m.b 2 rfl).full agg_56 cells_56) ?_
    simp only [ev,zD,zE,zF,zG]
    refine n_nil ?_
    refine ⟨m.sel [true,false,false],?_⟩
    refine t_two (by simp only [zS,zT,zU,zV]; rfl) (by simp only [zS,zT,zU,zV]; rfl) ?_ ?_
    ·
     refine n_load rfl ((m.b 1 rfl).full agg_56 cells_56) ?_
     simp only [ev,zD,zE,zF,zG]
     refine n_nil ?_
     refine ⟨m.sel [true,false,false],?_⟩
     refine t_one (by simp only [zS,zT,zU,zV]; rfl) (mstoreA m 2 rfl rfl rfl cells_56 (leT rfl) rfl ?_)
     clear m; intro u m; simp only [over,zH,zI,zJ,zK,zL,zM,zN,zO,zP,zF,zG,Nat.reduceAdd] at m
     refine n_nil ?_
     refine ⟨m.sel [true,false,false],?_⟩
     refine t_one (by simp only [zS,zT,zU,zV]; rfl) (mstoreA m 1 rfl rfl rfl cells_56 (leT rfl) rfl ?_)
     clear m; intro u m; simp only [over,zH,zI,zJ,zK,zL,zM,zN,zO,zP,zF,zG,Nat.reduceAdd] at m
     refine n_nil ?_
     refine ⟨m.sel [true,false,false],?_⟩
     refine t_take (by simp only [zS,zT,zU,zV]; rfl) (h_val (r_assign) (h_nil (t_nil (k12 _ _ ?_))))
     refine wp_ret ?_
     simp only [ev,zD,zE,zF,zG]
     try simp only [Exit.inBlock,Exit.then,if_true]
     refine fin3 rfl ⟨_,rfl,((m.b 2 rfl).full agg_56 cells_56)⟩ ⟨_,rfl,((m.b 1 rfl).full agg_56 cells_56)⟩ rfl ?_
     try simp only [zD,zE]
     exact ⟨_,rfl,m.ext,by rw [loP_ext hmem,hiP_ext hmem]; rfl⟩
    ·
     refine mstoreA m 2 rfl rfl rfl cells_56 (leT rfl) rfl ?_
     clear m; intro u m; simp only [over,zH,zI,zJ,zK,zL,zM,zN,zO,zP,zF,zG,Nat.reduceAdd] at m
     refine n_nil ?_
     refine ⟨m.sel [true,false,false],?_⟩
     refine t_one (by simp only [zS,zT,zU,zV]; rfl) (n_load rfl ((m.b 1 rfl).full agg_56 cells_56) ?_)
     simp only [ev,zD,zE,zF,zG]
     refine n_nil ?_
     refine ⟨m.sel [true,false,false],?_⟩
     refine t_one (by simp only [zS,zT,zU,zV]; rfl) (mstoreA m 1 rfl rfl rfl cells_56 (leT rfl) rfl ?_)
     clear m; intro u m; simp only [over,zH,zI,zJ,zK,zL,zM,zN,zO,zP,zF,zG,Nat.reduceAdd] at m
     refine n_nil ?_
     refine ⟨m.sel [true,false,false],?_⟩
     refine t_take (by simp only [zS,zT,zU,zV]; rfl) (h_val (r_assign) (h_nil (t_nil (k12 _ _ ?_))))
     refine wp_ret ?_
     simp only [ev,zD,zE,zF,zG]
     try simp only [Exit.inBlock,Exit.then,if_true]
     refine fin3 rfl ⟨_,rfl,((m.b 2 rfl).full agg_56 cells_56)⟩ ⟨_,rfl,((m.b 1 rfl).full agg_56 cells_56)⟩ rfl ?_
     try simp only [zD,zE]
     exact ⟨_,rfl,m.ext,by rw [loP_ext hmem,hiP_ext hmem]; rfl⟩
   ·
    refine n_load rfl ((m.b 1 rfl).full agg_56 cells_56) ?_
    simp only [ev,zD,zE,zF,zG]
    refine n_nil ?_
    refine ⟨m.sel [true,false,false],?_⟩
    refine t_one (by simp only [zS,zT,zU,zV]; rfl) (n_load rfl ((m.b 2 rfl).full agg_56 cells_56) ?_)
    simp only [ev,zD,zE,zF,zG]
    refine n_nil ?_
    refine ⟨m.sel [true,false,false],?_⟩
    refine t_one (by simp only [zS,zT,zU,zV]; rfl) (mstoreA m 2 rfl rfl rfl cells_56 (leT rfl) rfl ?_)
    clear m; intro u m; simp only [over,zH,zI,zJ,zK,zL,zM,zN,zO,zP,zF,zG,Nat.reduceAdd] at m
    refine n_nil ?_
    refine ⟨m.sel [true,false,false],?_⟩
    refine t_one (by simp only [zS,zT,zU,zV]; rfl) (mstoreA m 1 rfl rfl rfl cells_56 (leT rfl) rfl ?_)
    clear m; intro u m; simp only [over,zH,zI,zJ,zK,zL,zM,zN,zO,zP,zF,zG,Nat.reduceAdd] at m
    refine n_nil ?_
    refine ⟨m.sel [true,false,false],?_⟩
    refine t_take (by simp only [zS,zT,zU,zV]; rfl) (h_val (r_assign) (h_nil (t_nil (k12 _ _ ?_))))
    refine wp_ret ?_
    simp only [ev,zD,zE,zF,zG]
    try simp only [Exit.inBlock,Exit.then,if_true]
    refine fin3 rfl ⟨_,rfl,((m.b 2 rfl).full agg_56 cells_56)⟩ ⟨_,rfl,((m.b 1 rfl).full agg_56 cells_56)⟩ rfl ?_
    try simp only [zD,zE]
    exact ⟨_,rfl,m.ext,by rw [loP_ext hmem,hiP_ext hmem]; rfl⟩
end Go.Proofs.YtimjandkmfcmiaaGreatDoor
namespace Go.Lith
open Go.RowKit
section
variable {P : Program} {ds : List Deferred} {l : List Value} {x y : Operand} {T T' U t ty : TypeId} {v z : Value}
theorem r_mkIface (h : P.concrete T = true) (hx : ev l x = v) : Run P l (.makeInterface T x) ty (.iface T v):=fun w o ho _=>by
  simp [execOp,ho,ev_eq,hx,show (Instr.makeInterface T v).run P w = .ok (.iface T v) w from run_makeInterface (h:=h) ..]
theorem run_assertT (h : P.concrete U = true) (w : World) : (Instr.typeAssert (.iface U v) T U true).run P w = .ok (.tuple #[v,.bool true]) w:=by
  unfold Program.concrete at h
  cases hd : P.underlying U with
  | none=>simp [hd] at h
  | some d=>cases d <;> first | (simp [hd] at h; done) | simp [Instr.typeAssert,run_underlying hd]
theorem run_assertF (h : P.concrete U = true) (hz : Zero P U z) (hne : t ≠ U) (w : World) : (Instr.typeAssert (.iface t v) T U true).run P w = .ok (.tuple #[z,.bool false]) w:=by
  unfold Program.concrete at h
  obtain ⟨i,hi,hz⟩:=hz
  cases hd : P.underlying U with
  | none=>simp [hd] at h
  | some d=>cases d <;> first | (simp [hd] at h; done) | simp [Instr.typeAssert,run_underlying hd,hne,zeroValue,typeInfo,hi,hz]
theorem r_assertT (h : P.concrete U = true) (hx : ev l x = .iface U v) : Run P l (.typeAssert x T U true) ty (.tuple #[v,.bool true]):=fun w o ho _=>by
  simp [execOp,ho,ev_eq,hx,run_assertT h]
theorem r_assertF (h : P.concrete U = true) (hz : Zero P U z) (hne : (t == U) = false) (hx : ev l x = .iface t v) : Run P l (.typeAssert x T U true) ty (.tuple #[z,.bool false]):=fun w o ho _=>by
  simp [execOp,ho,ev_eq,hx,run_assertF h hz (by simpa using hne)]
theorem run_eqlIN {ms : Array (String × TypeId)} (hi : P.underlying T = some (.interface ms)) (w : World) : (binOp .eql T .nilIface .nilIface).run P w = .ok (.bool true) w:=by
  have h : ∀ d : Nat,(Op.equalIn (d + 1) T .nilIface .nilIface).run P w = .ok true w:=fun d=>by simp [Op.equalIn,run_underlying hi]
  simp only [binOp]
  simp [Op.equal,Op.maxDepth,h 9999]
theorem run_eqlIv {ms : Array (String × TypeId)} (hi : P.underlying T = some (.interface ms)) (w : World) : (binOp .eql T (.iface t v) .nilIface).run P w = .ok (.bool false) w:=by
  have h : ∀ d : Nat,(Op.equalIn (d + 1) T (.iface t v) .nilIface).run P w = .ok false w:=fun d=>by simp [Op.equalIn,run_underlying hi]
  simp only [binOp]
  simp [Op.equal,Op.maxDepth,h 9999]
theorem r_eqlIN {ms : Array (String × TypeId)} (hi : P.underlying T = some (.interface ms)) (hx : ev l x = .nilIface) : Run P l (.binOp .eql T x (.const .nilIface) T') ty (.bool true):=fun w o ho _=>by
  simp [execOp,ho,ev_eq,hx,ev_const,eqGuard,run_eqlIN hi]
theorem r_eqlIv {ms : Array (String × TypeId)} (hi : P.underlying T = some (.interface ms)) (hx : ev l x = .iface t v) : Run P l (.binOp .eql T x (.const .nilIface) T') ty (.bool false):=fun w o ho _=>by
  simp [execOp,ho,ev_eq,hx,ev_const,eqGuard,run_eqlIv hi]
end
section
variable {P : Program} {ds : List Deferred} {l : List Value} {ty : TypeId} {v u : Value}
variable {ops : Array Oper} {Q : Exit → Act → World → Prop} {rest : List Oper} {d : Nat} {pos : String} {after : Array Edge} {w w0 : World} {is : List It}
theorem mcallI {f : FuncId} {fo : Operand} {name : String} {args : List Value} {a0 : Array TypeId} (m : Mem w0 w is) (hx : ev l fo = u) (hm : ∀ w : World,(invoke (.fn (.method name) #[]) #[u]).run P w = .ok (.enter f args.toArray) w) (hc : Pure P f args v)
    (h : ∀ u,Mem w0 u is → wpList P ops Q rest (Fr (l.set d v) ds) u) : wpList P ops Q (Oper.mk (some d) (.call { callee:=.invoke fo name,args:=#[],argTypes:=a0 }) ty pos after none :: rest) (Fr l ds) w:=by
  refine wpList_plain rfl fun K hK=>?_
  unfold Oper.wp
  have e : ∀ o : Oper,o.op = .call { callee:=.invoke fo name,args:=#[],argTypes:=a0 } → (execOp (Fr l).eval o).run P w = .ok (.enter f args.toArray) w:=fun o ho=>by
    have hm:=hm w
    simp [execOp,ho,resolve,ev_eq,hx,hm]
  rw [fr_eval,e _ rfl]
  refine (hc w).2.mono ?_
  rintro e w' ⟨v,rfl,hE,rfl⟩
  show K ((Fr l ds).put (some d) v) w'
  rw [fr_put]
  exact hK _ _ (h w' (m.ext' hE))
end
section
variable {P : Program} {w0 : World} {is : List It} {l : List Value} {ty : TypeId} {u : Value}
variable {ops : Array Oper} {Q : Act → Prop} {rest : List Oper} {d : Nat} {pos : String} {after : Array Edge} {v : Value} {ds : List Deferred}
end
section
variable {P : Program} {l : List Value} {x y z : Operand} {ty : TypeId} {k : IntKind} {m n q r : Int}
theorem r_min3 {a0 : Array TypeId} (hx : ev l x = .int k m) (hy : ev l y = .int k n) (hz : ev l z = .int k q) (hr : (if q < (if n < m then n else m) then q else if n < m then n else m) = r) : Run P l (.call { callee:=.builtin .min,args:=#[x,y,z],argTypes:=a0 }) ty (.int k r):=fun w o ho _=>by
  subst hr
  simp [execOp,ho,resolve,invoke,builtin,Builtin.min_,Builtin.min2,ev_eq,hx,hy,hz]
theorem r_max3 {a0 : Array TypeId} (hx : ev l x = .int k m) (hy : ev l y = .int k n) (hz : ev l z = .int k q) (hr : (if (if m < n then n else m) < q then q else if m < n then n else m) = r) : Run P l (.call { callee:=.builtin .max,args:=#[x,y,z],argTypes:=a0 }) ty (.int k r):=fun w o ho _=>by
  subst hr
  simp [execOp,ho,resolve,invoke,builtin,Builtin.max_,Builtin.max2,ev_eq,hx,hy,hz]
end
theorem c_ifN {P : Program} {Q : Exit → Act → World → Prop} {l : List Value} {ds : List Deferred} {c1 c2 : Code} {w : World} {x : Operand} {p : Prop} [Decidable p] (hx : ev l x = .bool (!decide p)) (ht : ¬ p → c1.wp P Q (Fr l ds) w) (hf : p → c2.wp P Q (Fr l ds) w) : (Code.cond x c1 c2).wp P Q (Fr l ds) w :=
  c_if (p:=¬ p) (by rw [hx,decide_not]) ht (fun h=>hf (Decidable.not_not.1 h))
end Go.Lith
namespace Go.Lith
open Go.RowKit
structure Same (r r' : Ray) : Prop where
  ok : r'.ok ↔ r.ok
  hits : ∀ t,hitsR r' t ↔ hitsR r t
  cross : ∀ t,crossR r' t = crossR r t
  box : ∀ lo hi,boxR r' lo hi = boxR r lo hi
structure Turn (n : Nat) (f g : Nat → Nat) (bs cs : List Int) (xs ys : List (List T3)) : Prop where
  lx : xs.length = n
  ly : ys.length = n
  fn : ∀ i,i < n → f i < n
  gn : ∀ i,i < n → g i < n
  fg : ∀ i,i < n → f (g i) = i
  gf : ∀ i,i < n → g (f i) = i
  at_ : ∀ i,i < n → ys[f i]? = xs[i]?
  bd : ∀ i,i < n → bndAt cs (f i) = bndAt bs i
theorem Turn.symm {n : Nat} {f g : Nat → Nat} {bs cs : List Int} {xs ys : List (List T3)} (t : Turn n f g bs cs xs ys) : Turn n g f cs bs ys xs :=
  ⟨t.ly,t.lx,t.gn,t.fn,t.gf,t.fg,fun i hi=>by have:=t.at_ (g i) (t.gn i hi); rw [t.fg i hi] at this; exact this.symm,fun i hi=>by have:=t.bd (g i) (t.gn i hi); rw [t.fg i hi] at this; exact this.symm⟩
theorem Turn.sure {n : Nat} {f g : Nat → Nat} {bs cs : List Int} {xs ys : List (List T3)} (t : Turn n f g bs cs xs ys) {u : T3} (h : u ∈ sureL bs xs) : u ∈ sureL cs ys:=by
  obtain ⟨i,l,hi,hb,hu⟩:=mem_sure.1 h
  have hn : i < n:=by rw [← t.lx]; exact (List.getElem?_eq_some_iff.1 hi).1
  exact mem_sure.2 ⟨f i,l,(t.at_ i hn).trans hi,(t.bd i hn).trans hb,hu⟩
theorem Turn.rest {n : Nat} {f g : Nat → Nat} {bs cs : List Int} {xs ys : List (List T3)} (t : Turn n f g bs cs xs ys) {i : Nat} {kd : Kd} (h : (i,kd) ∈ restL bs xs) : i < n ∧ (f i,kd) ∈ restL cs ys:=by
  obtain ⟨l,hi,e,ho⟩:=mem_rest.1 h
  have hn : i < n:=by rw [← t.lx]; exact (List.getElem?_eq_some_iff.1 hi).1
  exact ⟨hn,mem_rest.2 ⟨l,(t.at_ i hn).trans hi,by rw [t.bd i hn]; exact e,ho⟩⟩
theorem Same.symm {r r' : Ray} (s : Same r r') : Same r' r:=⟨s.ok.symm,fun t=>(s.hits t).symm,fun t=>(s.cross t).symm,fun lo hi=>(s.box lo hi).symm⟩
end Go.Lith
namespace Go.Lith
open Go.RowKit
def P3.sh (p v : P3) : P3:=⟨p.x + v.x,p.y + v.y,p.z + v.z⟩
def T3.sh (v : P3) (t : T3) : T3:=⟨t.a.sh v,t.b.sh v,t.c.sh v⟩
end Go.Lith
namespace Go.Lith
open Go.RowKit
def chunksR (n : Nat) : Nat → List T3 → List (List T3)
  | 0,_=>[]
  | k + 1,l=>if l = [] then [] else l.take n :: chunksR n k (l.drop n)
theorem chunks_mem {n : Nat} : ∀ {k : Nat} {l x : List T3},x ∈ chunksR n k l → ∀ t ∈ x,t ∈ l
  | 0,_,_,h=>by cases h
  | k + 1,l,x,h=>by
    unfold chunksR at h
    split at h
    · cases h
    · rcases List.mem_cons.1 h with rfl | h
      · exact fun t ht=>List.mem_of_mem_take ht
      · exact fun t ht=>List.mem_of_mem_drop (chunks_mem h t ht)
theorem chunks_le {n : Nat} : ∀ {k : Nat} {l : List T3},(chunksR n k l).length ≤ k
  | 0,_=>Nat.le_refl _
  | k + 1,l=>by
    unfold chunksR
    split
    · exact Nat.zero_le _
    · exact Nat.succ_le_succ chunks_le
theorem chunks_one {n : Nat} : ∀ {k : Nat} {l x : List T3},x ∈ chunksR n k l → x.length ≤ n
  | 0,_,_,h=>by cases h
  | k + 1,l,x,h=>by
    unfold chunksR at h
    split at h
    · cases h
    · rcases List.mem_cons.1 h with rfl | h
      · rw [List.length_take]; exact Nat.min_le_left _ _
      · exact chunks_one h
theorem chunks_step {n k : Nat} {l : List T3} (h : l ≠ []) : chunksR n (k + 1) l = l.take n :: chunksR n k (l.drop n):=if_neg h
theorem chunks_nil {n k : Nat} : chunksR n k [] = []:=by cases k <;> rfl
def bsAt (zs : List Int) (i : Nat) : Int:=if zs = [] then 0 else if ((zs[(i * i + i) % zs.length]?).getD 0).tmod 50 < -1 then -1 else ((zs[(i * i + i) % zs.length]?).getD 0).tmod 50
def bsR (n : Nat) (zs : List Int) : List Int:=(List.range n).map (bsAt zs)
theorem bsAt_bd (zs : List Int) (i : Nat) : -1 ≤ bsAt zs i ∧ bsAt zs i ≤ 49:=by
  unfold bsAt
  split
  · omega
  · have:=tm_bd (n:=(zs[(i * i + i) % zs.length]?).getD 0) (m:=50) (by decide)
    split <;> omega
theorem bsR_len (n : Nat) (zs : List Int) : (bsR n zs).length = n:=by simp [bsR]
theorem bsR_get {n i : Nat} {zs : List Int} (h : i < n) : (bsR n zs)[i]? = some (bsAt zs i):=by
  unfold bsR
  rw [List.getElem?_map,List.getElem?_range h]
  rfl
theorem bsR_at {n i : Nat} {zs : List Int} (h : i < n) : bndAt (bsR n zs) i = bsAt zs i:=by rw [bndAt,bsR_get h]; rfl
theorem bsR_bd (n : Nat) (zs : List Int) : ∀ z ∈ bsR n zs,-1 ≤ z ∧ z ≤ 49:=fun z hz=>by
  obtain ⟨i,_,rfl⟩:=List.mem_map.1 hz
  exact bsAt_bd zs i
def shAt (ss : List P3) (b : Int) (i : Nat) : P3:=let v:=(ss[i % ss.length]?).getD ⟨0,0,0⟩; ⟨v.x.tmod (b.tdiv 2 + 1),v.y.tmod (b.tdiv 2 + 1),v.z.tmod (b.tdiv 2 + 1)⟩
def shownAt (ss : List P3) (b : Int) (i : Nat) (l : List T3) : List T3:=if b < 0 then [] else if 0 < b ∧ ss ≠ [] then l.map (T3.sh (shAt ss b i)) else l
theorem shAt_bd {ss : List P3} {b : Int} {i : Nat} (h0 : 0 < b) (h1 : b ≤ 49) : (-b ≤ (shAt ss b i).x ∧ (shAt ss b i).x ≤ b) ∧ (-b ≤ (shAt ss b i).y ∧ (shAt ss b i).y ≤ b) ∧ (-b ≤ (shAt ss b i).z ∧ (shAt ss b i).z ≤ b):=by
  have e : b.tdiv 2 = b / 2:=Int.tdiv_eq_ediv_of_nonneg (by omega)
  have h2 : 0 < b.tdiv 2 + 1:=by omega
  have h3 : b.tdiv 2 ≤ b:=by omega
  have k:=fun n : Int=>tm_bd (n:=n) (m:=b.tdiv 2 + 1) h2
  unfold shAt
  generalize (ss[i % ss.length]?).getD ⟨0,0,0⟩ = v
  have k1:=k v.x
  have k2:=k v.y
  have k3:=k v.z
  simp only
  omega
theorem loP_le {ps : List P3} {p : P3} (h : p ∈ ps) : (loP ps).x ≤ p.x ∧ (loP ps).y ≤ p.y ∧ (loP ps).z ≤ p.z:=by
  cases ps with
  | nil=>cases h
  | cons q ps=>exact (fold_lo ps q).1 p h
theorem le_hiP {ps : List P3} {p : P3} (h : p ∈ ps) : p.x ≤ (hiP ps).x ∧ p.y ≤ (hiP ps).y ∧ p.z ≤ (hiP ps).z:=by
  cases ps with
  | nil=>cases h
  | cons q ps=>exact (fold_hi ps q).1 p h
theorem within_sh {b : Int} {m : List T3} {p v : P3} (h : p.sh v ∈ cornersL m) (hv : (-b ≤ v.x ∧ v.x ≤ b) ∧ (-b ≤ v.y ∧ v.y ≤ b) ∧ (-b ≤ v.z ∧ v.z ≤ b)) : Within b m p:=by
  have h1:=loP_le h
  have h2:=le_hiP h
  simp only [P3.sh] at h1 h2
  unfold Within P3.le
  simp only [P3.sub,P3.pls,P3.all]
  omega
theorem cor_mem {m : List T3} {t : T3} (h : t ∈ m) : t.a ∈ cornersL m ∧ t.b ∈ cornersL m ∧ t.c ∈ cornersL m :=
  ⟨List.mem_flatMap.2 ⟨t,h,by simp⟩,List.mem_flatMap.2 ⟨t,h,by simp⟩,List.mem_flatMap.2 ⟨t,h,by simp⟩⟩
theorem sh_zero (p : P3) : p.sh ⟨0,0,0⟩ = p:=by simp [P3.sh]
theorem shown_near {ss : List P3} {b : Int} {i : Nat} {l : List T3} (h0 : 0 < b) (h1 : b ≤ 49) : ∀ t ∈ l,shownAt ss b i l ≠ [] ∧ Within b (shownAt ss b i l) t.a ∧ Within b (shownAt ss b i l) t.b ∧ Within b (shownAt ss b i l) t.c:=by
  intro t ht
  unfold shownAt
  rw [if_neg (by omega)]
  split
  · have hm : t.sh (shAt ss b i) ∈ l.map (T3.sh (shAt ss b i)):=List.mem_map_of_mem ht
    obtain ⟨c1,c2,c3⟩:=cor_mem hm
    have hv:=shAt_bd (ss:=ss) (i:=i) h0 h1
    exact ⟨fun e=>(by rw [e] at hm; cases hm),within_sh c1 hv,within_sh c2 hv,within_sh c3 hv⟩
  · obtain ⟨c1,c2,c3⟩:=cor_mem ht
    have hv : (-b ≤ (⟨0,0,0⟩ : P3).x ∧ (⟨0,0,0⟩ : P3).x ≤ b) ∧ (-b ≤ (⟨0,0,0⟩ : P3).y ∧ (⟨0,0,0⟩ : P3).y ≤ b) ∧ (-b ≤ (⟨0,0,0⟩ : P3).z ∧ (⟨0,0,0⟩ : P3).z ≤ b):=by
      simp only; omega
    rw [← sh_zero t.a] at c1
    rw [← sh_zero t.b] at c2
    rw [← sh_zero t.c] at c3
    exact ⟨fun e=>(by rw [e] at ht; cases ht),within_sh c1 hv,within_sh c2 hv,within_sh c3 hv⟩
def shownR (ss : List P3) (bs : List Int) (fine : List (List T3)) : List (List T3):=fine.mapIdx fun i l=>shownAt ss (bndAt bs i) i l
theorem shown_len (ss : List P3) (bs : List Int) (fine : List (List T3)) : (shownR ss bs fine).length = fine.length:=by simp [shownR]
theorem shown_get {ss : List P3} {bs : List Int} {fine : List (List T3)} {i : Nat} {l : List T3} (h : fine[i]? = some l) : (shownR ss bs fine)[i]? = some (shownAt ss (bndAt bs i) i l):=by
  simp [shownR,h]
theorem shows {ss : List P3} {bs : List Int} {fine : List (List T3)} (hb : ∀ i,i < fine.length → bndAt bs i ≤ 49) : Shows bs fine (shownR ss bs fine):=by
  refine ⟨shown_len ..,fun i l hl h0=>?_,fun i l hl h0=>?_⟩
  · rw [shown_get hl,h0,shownAt,if_neg (by decide),if_neg (by omega)]
  · exact ⟨_,shown_get hl,shown_near h0 (hb i (List.getElem?_eq_some_iff.1 hl).1)⟩
structure Repl (os : List Int) (bs bs' : List Int) (fine xs xs' : List (List T3)) : Prop where
  len : xs'.length = xs.length
  on : ∀ i : Nat,(i : Int) ∈ os → xs'[i]? = fine[i]? ∧ bndAt bs' i = 0
  off : ∀ i : Nat,(i : Int) ∉ os → xs'[i]? = xs[i]? ∧ bndAt bs' i = bndAt bs i
theorem Repl.shows {os bs bs' : List Int} {fine xs xs' : List (List T3)} (r : Repl os bs bs' fine xs xs') (s : Shows bs fine xs) : Shows bs' fine xs':=by
  refine ⟨r.len.trans s.len,fun i l hl h0=>?_,fun i l hl h0=>?_⟩
  · by_cases h : (i : Int) ∈ os
    · rw [(r.on i h).1]; exact hl
    · rw [(r.off i h).1]; rw [(r.off i h).2] at h0; exact s.ex i l hl h0
  · have h : (i : Int) ∉ os:=fun h=>by have:=(r.on i h).2; omega
    rw [(r.off i h).2] at h0 ⊢
    rw [(r.off i h).1]
    exact s.near i l hl h0
theorem open_ne {r : Ray} {xs : List (List T3)} {bs : List Int} {i : Int} (h : i ∈ (askR r xs bs).opn) : ∃ k : Nat,i = (k : Int) ∧ k < xs.length ∧ bndAt bs k ≠ 0:=by
  unfold askR at h
  split at h
  · unfold ansR at h
    split at h
    · obtain ⟨x,hx,rfl⟩:=List.mem_map.1 h
      obtain ⟨kd,hm,_⟩:=open_mem.1 (show (x.1,x.2) ∈ _ from hx)
      obtain ⟨l,hl,e,ho⟩:=mem_rest.1 hm
      refine ⟨x.1,rfl,(List.getElem?_eq_some_iff.1 hl).1,fun h0=>?_⟩
      rw [e,h0,kdR,if_neg (by decide),if_pos rfl] at ho
      cases ho
    · split at h <;> cases h
  · cases h
theorem Repl.done {r : Ray} {bs bs' : List Int} {fine xs xs' : List (List T3)} (p : Repl (askR r xs bs).opn bs bs' fine xs xs') : (askR r xs' bs').kind ≠ 3:=by
  by_cases hok : r.ok
  · refine Decd.done (bs:=bs) (xs:=xs) ⟨fun t ht=>?_,fun i kd hm=>?_⟩
    · obtain ⟨i,l,hi,hb,htl⟩:=mem_sure.1 ht
      have h : (i : Int) ∉ (askR r xs bs).opn:=fun h=>by
        obtain ⟨k,e,_,h0⟩:=open_ne h
        obtain rfl : i = k:=by omega
        exact h0 hb
      exact mem_sure.2 ⟨i,l,by rw [(p.off i h).1]; exact hi,by rw [(p.off i h).2]; exact hb,htl⟩
    · obtain ⟨l,hl,e,ho⟩:=mem_rest.1 hm
      have h : (i : Int) ∉ (askR r xs bs).opn:=fun h=>by
        rw [e,(p.on i h).2,kdR,if_neg (by decide),if_pos rfl] at ho
        cases ho
      refine ⟨mem_rest.2 ⟨l,by rw [← (p.off i h).1]; exact hl,by rw [← (p.off i h).2]; exact e,ho⟩,fun q hq=>h ?_⟩
      unfold askR ansR
      rw [if_pos hok,if_pos (fun e=>by rw [e] at hq; cases hq)]
      exact List.mem_map.2 ⟨(i,q),hq,rfl⟩
  · unfold askR
    rw [if_neg hok]
    exact fun e=>by simp [Ans.miss] at e
def widerB (more : Int) (b : Int) : Int:=if 0 < b then (if more % 5 = 4 then -1 else b + more) else b
theorem wider_map {more : Int} (h0 : 0 ≤ more) (bs : List Int) : Wider bs (bs.map (widerB more)):=by
  intro i
  have e : bndAt (bs.map (widerB more)) i = widerB more (bndAt bs i):=by
    unfold bndAt
    rw [List.getElem?_map]
    cases bs[i]? <;> rfl
  rw [e]
  unfold widerB
  constructor
  · intro h; rw [if_neg (by omega)]
  · intro h
    rw [if_pos h]
    split <;> omega
end Go.Lith
namespace Go.Proofs.YtimjandkmfcmiaaGreatDoor
open Go.RowKit Go.Lith
set_option maxRecDepth 100000
attribute [local irreducible] wpList wpQuiet wpMix wpMixH wpTree Code.wp
def kdV (i : Nat) : Kd → Go.Value
 | .no=>.nilIface
 | .ex=>.iface 69 (.agg #[.int .i64 (i : Int)])
 | .unk=>.iface 83 (.agg #[.int .i64 (i : Int)])
 | .near lo hi=>.iface 88 (.agg #[.int .i64 (i : Int),.int .i64 lo.x,.int .i64 lo.y,.int .i64 lo.z,.int .i64 hi.x,.int .i64 hi.y,.int .i64 hi.z])
def KdOk : Kd → Prop
 | .near lo hi=>I3 lo ∧ I3 hi
 | _=>True
theorem i3_lohi {ps : List P3} (h : ps ≠ []) (hi : ∀ p ∈ ps,I3 p) : I3 (loP ps) ∧ I3 (hiP ps):=by
 cases ps with
 | nil=>exact absurd rfl h
 | cons p ps =>
  obtain ⟨_,⟨a,ha,ea⟩,⟨b,hb,eb⟩,⟨c,hc,ec⟩⟩:=fold_lo ps p
  obtain ⟨_,⟨d,hd,ed⟩,⟨e,he,ee⟩,⟨f,hf,ef⟩⟩:=fold_hi ps p
  exact ⟨⟨(show (loP (p :: ps)).x = a.x from ea) ▸ (hi a ha).x,(show (loP (p :: ps)).y = b.y from eb) ▸ (hi b hb).y,(show (loP (p :: ps)).z = c.z from ec) ▸ (hi c hc).z⟩,
   ⟨(show (hiP (p :: ps)).x = d.x from ed) ▸ (hi d hd).x,(show (hiP (p :: ps)).y = e.y from ee) ▸ (hi e he).y,(show (hiP (p :: ps)).z = f.z from ef) ▸ (hi f hf).z⟩⟩
theorem kd_ok {l : List T3} {b : Int} (hl : ∀ t ∈ l,IT t) (h0 : b < 9223372036854775808) : KdOk (kdR l b):=by
 unfold kdR
 repeat' split
 all_goals try trivial
 rename_i h1 h2 h3 hf
 have h3 : cornersL l ≠ []:=by
  cases l with
  | nil=>exact absurd rfl h3
  | cons t l=>simp [cornersL]
 have hi : ∀ p ∈ cornersL l,I3 p:=fun p hp=>by
  obtain ⟨t,ht,hp⟩:=List.mem_flatMap.1 hp
  have:=hl t ht
  simp only [List.mem_cons,List.not_mem_nil,or_false] at hp
  rcases hp with rfl | rfl | rfl
  · exact this.a
  · exact this.b
  · exact this.c
 obtain ⟨k1,k2⟩:=i3_lohi h3 hi
 unfold fitsR at hf
 obtain ⟨⟨a1,a2⟩,⟨a3,a4⟩,a5,a6⟩:=k1
 obtain ⟨⟨b1,b2⟩,⟨b3,b4⟩,b5,b6⟩:=k2
 refine ⟨⟨⟨?_,?_⟩,⟨?_,?_⟩,⟨?_,?_⟩⟩,⟨⟨?_,?_⟩,⟨?_,?_⟩,⟨?_,?_⟩⟩⟩ <;> (simp only [P3.sub,P3.pls,P3.all]; omega)
theorem corL (l : List T3) : cornersL l = corsT l:=rfl
theorem cors_nil {l : List T3} (h : corsT l = []) : l = []:=by
 cases l with
 | nil=>rfl
 | cons t l=>simp [corsT] at h
theorem cors_i3 {l : List T3} (hl : ∀ t ∈ l,IT t) : ∀ p ∈ corsT l,I3 p:=fun p hp=>by
 obtain ⟨t,ht,hp⟩:=List.mem_flatMap.1 hp
 have:=hl t ht
 simp only [List.mem_cons,List.not_mem_nil,or_false] at hp
 rcases hp with rfl | rfl | rfl
 · exact this.a
 · exact this.b
 · exact this.c
theorem inv_83 (i : Int) (w : World) : (invoke (.fn (.method "lithophane/trace.number") #[]) #[.iface 83 (.agg #[.int .i64 i])]).run Tryz.prog w = .ok (.enter 202 [.int .i64 i].toArray) w:=by kernel_rfl
theorem inv_88 (i a b c d e f : Int) (w : World) : (invoke (.fn (.method "lithophane/trace.number") #[]) #[.iface 88 (.agg #[.int .i64 i,.int .i64 a,.int .i64 b,.int .i64 c,.int .i64 d,.int .i64 e,.int .i64 f])]).run Tryz.prog w = .ok (.enter 202 [.int .i64 i].toArray) w:=by kernel_rfl
theorem inv_kd {i : Nat} {kd : Kd} (h : kd.other = true) (w : World) : (invoke (.fn (.method "lithophane/trace.number") #[]) #[kdV i kd]).run Tryz.prog w = .ok (.enter 202 [.int .i64 (i : Int)].toArray) w:=by
 cases kd with
 | no=>cases h
 | ex=>cases h
 | unk=>exact inv_83 i w
 | near lo hi=>exact inv_88 i _ _ _ _ _ _ w
theorem number_c {i : Int} : Pure Tryz.prog 202 [.int .i64 i] (.int .i64 i):=by
 intro w
 refine ⟨en_202,?_⟩
 have m:=Mem.refl w
 go_enter Tryz.func202,Tryz.ntmps202
 refine c_seq fun K1 k1=>wp_region_lit (n_val (r_assign) (n_nil (k1 _ _ ?_)))
 refine c_seq fun K2 k2=>wp_region_lit (n_val (r_move) (n_val (r_assign) (n_nil (k2 _ _ ?_))))
 refine wp_ret ?_
 simp only [ev,zD,zE,zF,zG]
 try simp only [Exit.inBlock,Exit.then,if_true]
 refine fin1 rfl rfl ?_
 try simp only [zD,zE]
 exact ⟨_,rfl,m.ext,rfl⟩
theorem tzero_c  : Pure Tryz.prog 25 [] (Q 0):=by
 intro w
 refine ⟨en_25,?_⟩
 have m:=Mem.refl w
 go_enter Tryz.func25,Tryz.ntmps25
 refine c_seq fun K1 k1=>wp_region_lit (malloc m zero_37 rfl ?_)
 clear m; intro g1 u m
 refine n_nil (k1 _ _ ?_)
 refine c_seq fun K2 k2=>?_
 simp only [ev,zD,zE,zF,zG]
 haveI : Iw (1 : Int):=⟨⟨by decide,by decide⟩⟩
 refine wp_region_lit (mcallP m rfl rfl (From_c (n:=1) Iw.h) ?_)
 clear m; intro u m
 refine n_val (r_build_37_1 rfl) ?_
 simp only [ev,zD,zE,zF,zG]
 refine mstoreA m 0 rfl rfl rfl cells_37 (leT rfl) rfl ?_
 clear m; intro u m; simp only [over,zH,zI,zJ,zK,zL,zM,zN,zO,zP,zF,zG,Nat.reduceAdd] at m
 refine n_nil (k2 _ _ ?_)
 refine wp_ret ?_
 try simp only [Exit.inBlock,Exit.then,if_true]
 refine fin1 rfl ⟨_,rfl,((m.b 0 rfl).full agg_37 cells_37)⟩ ?_
 try simp only [zD,zE]
 exact ⟨_,rfl,m.ext,rfl⟩
theorem fits_c {lo hi : P3} {bd : Int} [I3 lo] [I3 hi] (h0 : 0 < bd) (h1 : bd < 9223372036854775808) : Pure Tryz.prog 42 [pt lo,pt hi,.int .i64 bd] (.bool (decide (fitsR lo hi bd))):=by
 intro w
 refine ⟨en_42,?_⟩
 have m:=Mem.refl w
 go_enter Tryz.func42,Tryz.ntmps42
 refine c_seq fun K1 k1=>wp_region_lit (mboxA m rfl ?_)
 clear m; intro g1 u m
 simp only [ev,zD,zE,zF,zG]
 refine mboxA m rfl ?_
 clear m; intro g2 u m
 refine n_val (r_assign) (n_nil (k1 _ _ ?_))
 refine c_seq fun K2 k2=>wp_region_lit (n_val (r_fieldAddr (c:=0) Tryz.underlying56 rfl cells_3 rfl rfl) ?_)
 simp only [ev,zD,zE,zF,zG]
 refine n_load rfl ((m.b 1 rfl).lies1 agg_3 rfl) ?_
 simp only [ev,zD,zE,zF,zG]
 refine n_val (r_fieldAddr (c:=0) Tryz.underlying56 rfl cells_3 rfl rfl) ?_
 simp only [ev,zD,zE,zF,zG]
 refine n_load rfl ((m.b 1 rfl).lies1 agg_3 rfl) ?_
 simp only [ev,zD,zE,zF,zG]
 refine n_val (r_fieldAddr (c:=0) Tryz.underlying56 rfl cells_3 rfl rfl) ?_
 simp only [ev,zD,zE,zF,zG]
 refine n_load rfl ((m.b 1 rfl).lies1 agg_3 rfl) ?_
 simp only [ev,zD,zE,zF,zG]
 refine n_val (r_min3 rfl rfl rfl rfl) (n_val (r_move) ?_)
 simp only [ev,zD,zE,zF,zG]
 refine n_val (r_add rfl rfl (wrap_i64 (by omega) (by omega))) (n_val (r_geq rfl rfl) (n_val (r_move) (n_mayT rfl (fun hb=>r_fieldAddr (c:=0) Tryz.underlying56 rfl cells_3 rfl rfl) ?_)))
 simp only [ev,zD,zE,zF,zG]
 refine n_mayTW rfl (fun hb=>r_load (mayE hb rfl) ((m.b 0 rfl).lies1 agg_3 rfl)) (n_mayT rfl (fun hb=>r_fieldAddr (c:=0) Tryz.underlying56 rfl cells_3 rfl rfl) ?_)
 simp only [ev,zD,zE,zF,zG]
 refine n_mayTW rfl (fun hb=>r_load (mayE hb rfl) ((m.b 0 rfl).lies1 agg_3 rfl)) (n_mayT rfl (fun hb=>r_fieldAddr (c:=0) Tryz.underlying56 rfl cells_3 rfl rfl) ?_)
 simp only [ev,zD,zE,zF,zG]
 refine n_mayTW rfl (fun hb=>r_load (mayE hb rfl) ((m.b 0 rfl).lies1 agg_3 rfl)) (n_mayT rfl (fun hb=>r_max3 (mayE hb rfl) (mayE hb rfl) (mayE hb rfl) rfl) (n_mayT rfl (fun hb=>r_move) ?_))
 simp only [ev,zD,zE,zF,zG]
 refine n_mayT rfl (fun hb=>r_sub rfl (mayE hb rfl) (wrap_i64 (by omega) (by omega))) (n_mayT rfl (fun hb=>r_leq (mayE hb rfl) (mayE hb rfl)) (n_val (r_pickAnd rfl rfl rfl) (n_val (r_assign) ?_)))
 simp only [ev,zD,zE,zF,zG]
 refine n_nil (k2 _ _ ?_)
 refine wp_ret ?_
 try simp only [Exit.inBlock,Exit.then,if_true]
 refine fin1 rfl rfl ?_
 try simp only [zD,zE]
 exact ⟨_,rfl,m.ext,bool_as (by rw [← Bool.decide_and]; exact decide_eq_decide.2 (by unfold fitsR; omega))⟩
theorem kind_c {i N cap M bcap : Nat} {A B : Option Addr} {l : List T3} {bs : List Int} (w : World) (hi : i < 4611686018427387904) (hT : TrisAt w A N l) (hN : N ≤ 300000) (hb : IntsAt w B M bs) : Does Tryz.prog 26 [.int .i64 (i : Int),.slice A N cap,.slice B M bcap] w (fun v _=>v = kdV i (kdR l (bndAt bs i))):=by
 refine ⟨en_26,?_⟩
 have m:=Mem.refl w
 go_enter Tryz.func26,Tryz.ntmps26
 refine c_seq fun K1 k1=>wp_region_lit (n_val (r_assign) (n_nil (k1 _ _ ?_)))
 refine c_seq fun K2 k2=>wp_region_lit (n_val (r_assign) (n_nil (k2 _ _ ?_)))
 refine c_seq fun K3 k3=>c_seq fun K4 k4=>wp_region_lit (n_val (r_move) (n_val (r_move) ?_))
 simp only [ev,zD,zE,zF,zG]
 refine n_val (r_lenS rfl Tryz.underlying22 rfl) (n_val (r_lss rfl rfl) (n_nil (k4 _ _ ?_)))
 simp only [ev,zD,zE,zF,zG]
 refine c_if rfl (fun hc1=>?_) (fun hc1=>?_)
 ·
  obtain ⟨z,hz,_,a,rfl,hcell⟩:=hb.get (i:=i) (by omega)
  have ez : bndAt bs i = z:=by rw [bndAt,hz]; rfl
  have hz64 : z < 9223372036854775808:=(hb.it z (List.mem_of_getElem? hz)).2
  refine wp_region_lit (n_val (r_move) (n_val (r_move) ?_))
  simp only [ev,zD,zE,zF,zG]
  refine n_val (r_indexAddrS Tryz.underlying22 cells_3 rfl rfl (by omega) (by omega) (addr1 (Int.toNat_natCast _))) ?_
  simp only [ev,zD,zE,zF,zG]
  refine n_load rfl (Lith.lies1 (m.ext.cell hcell) agg_3) ?_
  simp only [ev,zD,zE,zF,zG]
  refine n_val (r_assign) (n_nil (k3 _ _ ?_))
  refine c_seq fun K5 k5=>wp_block (c_seq fun K6 k6=>wp_region_lit (n_val (r_move) (n_val (r_lss rfl rfl) (n_val (r_assign) ?_))))
  simp only [ev,zD,zE,zF,zG]
  refine n_nil (k6 _ _ ?_)
  refine c_if rfl (fun hc2=>?_) (fun hc2=>?_)
  ·
   refine c_seq fun K7 k7=>wp_region_lit (n_val (r_move) (n_val (r_build_83_0 rfl) (n_val (r_mkIface (by kernel_rfl) rfl) (n_val (r_assign) ?_))))
   simp only [ev,zD,zE,zF,zG]
   refine n_nil (k7 _ _ ?_)
   refine wp_ret ?_
   try simp only [Exit.inBlock,Exit.then,if_true]
   refine fin1 rfl rfl ?_
   try simp only [zD,zE]
   exact ⟨_,rfl,m.ext,by rw [ez,kdR,if_pos (by omega)]; rfl⟩
  ·
   refine c_seq fun K8 k8=>wp_region_lit (n_val (r_move) (n_val (r_eql rfl rfl) (n_val (r_assign) (n_nil (k8 _ _ ?_)))))
   simp only [ev,zD,zE,zF,zG]
   refine c_if rfl (fun hc3=>?_) (fun hc3=>?_)
   ·
    refine c_seq fun K9 k9=>wp_region_lit (n_val (r_move) (n_val (r_build_69_0 rfl) (n_val (r_mkIface (by kernel_rfl) rfl) (n_val (r_assign) ?_))))
    simp only [ev,zD,zE,zF,zG]
    refine n_nil (k9 _ _ ?_)
    refine wp_ret ?_
    try simp only [Exit.inBlock,Exit.then,if_true]
    refine fin1 rfl rfl ?_
    try simp only [zD,zE]
    exact ⟨_,rfl,m.ext,by rw [ez,kdR,if_neg (by omega),if_pos (by omega)]; rfl⟩
   ·
    refine wp_skip (k5 _ _ ?_)
    refine c_seq fun K10 k10=>wp_region_lit (n_val (r_move) ?_)
    simp only [ev,zD,zE,zF,zG]
    refine mcall m rfl rfl (Box_c _ (hT.ext m.ext) hN) ?_
    clear m; rintro v u m rfl
    refine n_val (r_move) (n_val (r_extract rfl rfl) (n_val (r_extract rfl rfl) ?_))
    simp only [ev,zD,zE,zF,zG]
    refine n_val (r_extract rfl rfl) ?_
    simp only [ev,zD,zE,zF,zG]
    refine malloc m zero_56 rfl ?_
    clear m; intro g1 u m
    simp only [ev,zD,zE,zF,zG]
    refine malloc m zero_56 rfl ?_
    clear m; intro g2 u m
    simp only [ev,zD,zE,zF,zG]
    refine mstoreA m 1 rfl rfl rfl cells_56 (leT rfl) rfl ?_
    clear m; intro u m; simp only [over,zH,zI,zJ,zK,zL,zM,zN,zO,zP,zF,zG,Nat.reduceAdd] at m
    refine mstoreA m 0 rfl rfl rfl cells_56 (leT rfl) rfl ?_
    clear m; intro u m; simp only [over,zH,zI,zJ,zK,zL,zM,zN,zO,zP,zF,zG,Nat.reduceAdd] at m
    refine n_val (r_assign) (n_nil (k10 _ _ ?_))
    refine c_seq fun K11 k11=>wp_block (c_seq fun K12 k12=>wp_region_lit (n_val (r_move) (n_val (r_not rfl) (n_val (r_assign) ?_))))
    simp only [ev,zD,zE,zF,zG]
    refine n_nil (k12 _ _ ?_)
    refine c_ifN rfl (fun hc4=>?_) (fun hc4=>?_)
    ·
     have hl : l = []:=hT.empty (by omega)
     refine c_seq fun K13 k13=>wp_region_lit (n_val (r_assign) (n_nil (k13 _ _ ?_)))
     refine wp_ret ?_
     simp only [ev,zD,zE,zF,zG]
     try simp only [Exit.inBlock,Exit.then,if_true]
     refine fin1 rfl rfl ?_
     try simp only [zD,zE]
     exact ⟨_,rfl,m.ext,by rw [ez,kdR,if_neg (by omega),if_neg (by omega),if_pos hl]; rfl⟩
    ·
     have hl : l ≠ []:=fun e=>by have:=hT.len; rw [e] at this; simp only [List.length_nil] at this; omega
     have hi3:=i3_lohi (ps:=corsT l) (fun e=>hl (cors_nil e)) (cors_i3 hT.it)
     haveI:=hi3.1
     haveI:=hi3.2
     have hb0 : 0 < z:=by omega
     refine c_seq fun K14 k14=>wp_region_lit (n_load rfl ((m.b 1 rfl).full agg_56 cells_56) ?_)
     simp only [ev,zD,zE,zF,zG]
     refine n_load rfl ((m.b 0 rfl).full agg_56 cells_56) ?_
     simp only [ev,zD,zE,zF,zG]
     refine n_val (r_move) ?_
     simp only [ev,zD,zE,zF,zG]
     refine mcallP m rfl rfl (fits_c hb0 hz64) ?_
     clear m; intro u m
     refine n_val (r_not rfl) (n_val (r_assign) (n_nil (k14 _ _ ?_)))
     simp only [ev,zD,zE,zF,zG]
     refine c_ifN rfl (fun hc5=>?_) (fun hc5=>?_)
     ·
      have hf : ¬ fitsR (loP (corsT l)) (hiP (corsT l)) z:=hc5
      refine c_seq fun K15 k15=>wp_region_lit (n_val (r_move) (n_val (r_build_83_0 rfl) (n_val (r_mkIface (by kernel_rfl) rfl) (n_val (r_assign) ?_))))
      simp only [ev,zD,zE,zF,zG]
      refine n_nil (k15 _ _ ?_)
      refine wp_ret ?_
      try simp only [Exit.inBlock,Exit.then,if_true]
      refine fin1 rfl rfl ?_
      try simp only [zD,zE]
      exact ⟨_,rfl,m.ext,by rw [ez,kdR,if_neg (by omega),if_neg (by omega),if_neg hl,corL,if_neg hf]; rfl⟩
     ·
      have hf : fitsR (loP (corsT l)) (hiP (corsT l)) z:=hc5
      have hf2:=hf
      unfold fitsR at hf2
      obtain ⟨⟨⟨a1,a2⟩,⟨a3,a4⟩,a5,a6⟩,⟨⟨b1,b2⟩,⟨b3,b4⟩,b5,b6⟩⟩:=hi3
      refine wp_skip (k11 _ _ ?_)
      refine c_seq fun K16 k16=>wp_region_lit (n_val (r_fieldAddr (c:=0) Tryz.underlying56 rfl cells_3 rfl rfl) ?_)
      simp only [ev,zD,zE,zF,zG]
      refine n_load rfl ((m.b 1 rfl).lies1 agg_3 rfl) ?_
      simp only [ev,zD,zE,zF,zG]
      refine n_val (r_move) ?_
      simp only [ev,zD,zE,zF,zG]
      refine n_val (r_sub rfl rfl (wrap_i64 (by omega) (by omega))) (n_val (r_fieldAddr (c:=0) Tryz.underlying56 rfl cells_3 rfl rfl) ?_)
      simp only [ev,zD,zE,zF,zG]
      refine n_load rfl ((m.b 1 rfl).lies1 agg_3 rfl) ?_
      simp only [ev,zD,zE,zF,zG]
      refine n_val (r_move) ?_
      simp only [ev,zD,zE,zF,zG]
      refine n_val (r_sub rfl rfl (wrap_i64 (by omega) (by omega))) (n_val (r_fieldAddr (c:=0) Tryz.underlying56 rfl cells_3 rfl rfl) ?_)
      simp only [ev,zD,zE,zF,zG]
      refine n_load rfl ((m.b 1 rfl).lies1 agg_3 rfl) ?_
      simp only [ev,zD,zE,zF,zG]
      refine n_val (r_move) ?_
      simp only [ev,zD,zE,zF,zG]
      refine n_val (r_sub rfl rfl (wrap_i64 (by omega) (by omega))) (n_val (r_build_56_0_1_2 rfl rfl rfl) ?_)
      simp only [ev,zD,zE,zF,zG]
      refine mstoreA m 1 rfl rfl rfl cells_56 (leT rfl) rfl ?_
      clear m; intro u m; simp only [over,zH,zI,zJ,zK,zL,zM,zN,zO,zP,zF,zG,Nat.reduceAdd] at m
      refine n_nil (k16 _ _ ?_)
      refine c_seq fun K17 k17=>wp_region_lit (n_val (r_fieldAddr (c:=0) Tryz.underlying56 rfl cells_3 rfl rfl) ?_)
      simp only [ev,zD,zE,zF,zG]
      refine n_load rfl ((m.b 0 rfl).lies1 agg_3 rfl) ?_
      simp only [ev,zD,zE,zF,zG]
      refine n_val (r_move) ?_
      simp only [ev,zD,zE,zF,zG]
      refine n_val (r_add rfl rfl (wrap_i64 (by omega) (by omega))) (n_val (r_fieldAddr (c:=0) Tryz.underlying56 rfl cells_3 rfl rfl) ?_)
      simp only [ev,zD,zE,zF,zG]
      refine n_load rfl ((m.b 0 rfl).lies1 agg_3 rfl) ?_
      simp only [ev,zD,zE,zF,zG]
      refine n_val (r_move) ?_
      simp only [ev,zD,zE,zF,zG]
      refine n_val (r_add rfl rfl (wrap_i64 (by omega) (by omega))) (n_val (r_fieldAddr (c:=0) Tryz.underlying56 rfl cells_3 rfl rfl) ?_)
      simp only [ev,zD,zE,zF,zG]
      refine n_load rfl ((m.b 0 rfl).lies1 agg_3 rfl) ?_
      simp only [ev,zD,zE,zF,zG]
      refine n_val (r_move) ?_
      simp only [ev,zD,zE,zF,zG]
      refine n_val (r_add rfl rfl (wrap_i64 (by omega) (by omega))) (n_val (r_build_56_0_1_2 rfl rfl rfl) ?_)
      simp only [ev,zD,zE,zF,zG]
      refine mstoreA m 0 rfl rfl rfl cells_56 (leT rfl) rfl ?_
      clear m; intro u m; simp only [over,zH,zI,zJ,zK,zL,zM,zN,zO,zP,zF,zG,Nat.reduceAdd] at m
      refine n_nil (k17 _ _ ?_)
      refine c_seq fun K18 k18=>wp_region_lit (n_val (r_move) ?_)
      simp only [ev,zD,zE,zF,zG]
      refine n_load rfl ((m.b 1 rfl).full agg_56 cells_56) ?_
      simp only [ev,zD,zE,zF,zG]
      refine n_load rfl ((m.b 0 rfl).full agg_56 cells_56) ?_
      simp only [ev,zD,zE,zF,zG]
      refine n_val (r_build_88_0_1_2 rfl rfl rfl) (n_val (r_mkIface (by kernel_rfl) rfl) (n_val (r_assign) (n_nil (k18 _ _ ?_))))
      refine wp_ret ?_
      simp only [ev,zD,zE,zF,zG]
      try simp only [Exit.inBlock,Exit.then,if_true]
      refine fin1 rfl rfl ?_
      try simp only [zD,zE]
      exact ⟨_,rfl,m.ext,by rw [ez,kdR,if_neg (by omega),if_neg (by omega),if_neg hl,corL,if_pos hf]; rfl⟩
 ·
  have ez : bndAt bs i = -1:=by rw [bndAt,List.getElem?_eq_none (by rw [hb.len]; omega)]; rfl
  refine wp_skip (k3 _ _ ?_)
  refine c_seq fun K19 k19=>wp_block (c_seq fun K20 k20=>wp_region_lit (n_val (r_move) (n_val (r_lssT (m:=(-1)) (n:=0) rfl rfl (by decide)) (n_val (r_assign) (n_nil (k20 _ _ ?_))))))
  refine c_yes rfl (c_seq fun K21 k21=>wp_region_lit (n_val (r_move) ?_))
  simp only [ev,zD,zE,zF,zG]
  refine n_val (r_build_83_0 rfl) (n_val (r_mkIface (by kernel_rfl) rfl) (n_val (r_assign) (n_nil (k21 _ _ ?_))))
  refine wp_ret ?_
  simp only [ev,zD,zE,zF,zG]
  try simp only [Exit.inBlock,Exit.then,if_true]
  refine fin1 rfl rfl ?_
  try simp only [zD,zE]
  exact ⟨_,rfl,m.ext,by rw [ez,kdR,if_pos (by decide)]; rfl⟩
theorem begin_c {r : Ray} {i : Nat} {kd : Kd} [IR r] (ho : kd.other = true) (hk : KdOk kd) : Pure Tryz.prog 28 [rayV r,kdV i kd] (.tuple #[Q ((beginR r kd).getD 0),.bool (beginR r kd).isSome]):=by
 intro w
 refine ⟨en_28,?_⟩
 have m:=Mem.refl w
 go_enter Tryz.func28,Tryz.ntmps28
 refine c_seq fun K1 k1=>wp_region_lit (mboxA m rfl ?_)
 clear m; intro g1 u m
 simp only [ev,zD,zE,zF,zG]
 refine malloc m zero_37 rfl ?_
 clear m; intro g2 u m
 refine n_val (r_assign) (n_nil (k1 _ _ ?_))
 refine c_seq fun K2 k2=>c_seq fun K3 k3=>wp_region_lit (n_val (r_move) (n_nil (k3 _ _ ?_)))
 refine wp_block (c_seq fun K4 k4=>?_)
 simp only [ev,zD,zE,zF,zG]
 cases kd
 ·
  cases ho
 ·
  cases ho
 ·
  refine wp_region_lit (n_val (r_assertT (by kernel_rfl) rfl) (n_val (r_extract rfl rfl) (n_val (r_extract rfl rfl) (n_nil (k4 _ _ ?_)))))
  refine c_yes rfl (c_seq fun K5 k5=>wp_region_lit ?_)
  simp only [ev,zD,zE,zF,zG]
  refine malloc m zero_83 rfl ?_
  clear m; intro g3 u m
  simp only [ev,zD,zE,zF,zG]
  refine mstoreA m 0 rfl rfl rfl cells_83 (leT rfl) rfl ?_
  clear m; intro u m; simp only [over,zH,zI,zJ,zK,zL,zM,zN,zO,zP,zF,zG,Nat.reduceAdd] at m
  refine n_nil (k5 _ _ ?_)
  refine c_seq fun K6 k6=>wp_region_lit (mcallP m rfl rfl (tzero_c) ?_)
  clear m; intro u m
  simp only [ev,zD,zE,zF,zG]
  refine mstoreA m 1 rfl rfl rfl cells_37 (leT rfl) rfl ?_
  clear m; intro u m; simp only [over,zH,zI,zJ,zK,zL,zM,zN,zO,zP,zF,zG,Nat.reduceAdd] at m
  refine n_val (r_assign) (n_nil (k6 _ _ ?_))
  refine wp_ret ?_
  simp only [ev,zD,zE,zF,zG]
  try simp only [Exit.inBlock,Exit.then,if_true]
  refine fin2 rfl ⟨_,rfl,((m.b 1 rfl).full agg_37 cells_37)⟩ rfl ?_
  try simp only [zD,zE]
  exact ⟨_,rfl,m.ext,rfl⟩
 ·
  rename_i lo hi
  obtain ⟨hk1,hk2⟩:=hk
  haveI:=hk1
  haveI:=hk2
  refine wp_region_lit (n_val (r_assertF (by kernel_rfl) zero_83 (by decide) rfl) (n_val (r_extract rfl rfl) (n_val (r_extract rfl rfl) (n_nil (k4 _ _ ?_)))))
  refine c_no rfl (c_seq fun K7 k7=>wp_region_lit (n_val (r_assertT (by kernel_rfl) rfl) ?_))
  simp only [ev,zD,zE,zF,zG]
  refine n_val (r_extract rfl rfl) (n_val (r_extract rfl rfl) (n_nil (k7 _ _ ?_)))
  refine c_yes rfl (c_seq fun K8 k8=>wp_region_lit ?_)
  simp only [ev,zD,zE,zF,zG]
  refine malloc m zero_88 rfl ?_
  clear m; intro g3 u m
  simp only [ev,zD,zE,zF,zG]
  refine mstoreA m 0 rfl rfl rfl cells_88 (leT rfl) rfl ?_
  clear m; intro u m; simp only [over,zH,zI,zJ,zK,zL,zM,zN,zO,zP,zF,zG,Nat.reduceAdd] at m
  refine n_nil (k8 _ _ ?_)
  refine c_seq fun K9 k9=>?_
  have hbv : (∃ p q,boxR r lo hi = some (p,q)) ∨ boxR r lo hi = none:=by cases boxR r lo hi with | none=>exact .inr rfl | some x=>exact .inl ⟨x.1,x.2,rfl⟩
  refine wp_region_lit (n_load rfl ((m.b 2 rfl).full agg_25 cells_25) ?_)
  simp only [ev,zD,zE,zF,zG]
  refine n_val (r_fieldAddr (c:=2) Tryz.underlying88 rfl cells_56 rfl rfl) ?_
  simp only [ev,zD,zE,zF,zG]
  refine n_load rfl ((m.b 0 rfl).lies agg_56 cells_56 rfl rfl) ?_
  simp only [ev,zD,zE,zF,zG,zH,zI,zJ,zK,Nat.zero_add,Nat.reduceAdd,Nat.reduceMul,Int.reduceToNat]
  refine n_val (r_fieldAddr (c:=2) Tryz.underlying88 rfl cells_56 rfl rfl) ?_
  simp only [ev,zD,zE,zF,zG]
  refine n_load rfl ((m.b 0 rfl).lies agg_56 cells_56 rfl rfl) ?_
  simp only [ev,zD,zE,zF,zG,zH,zI,zJ,zK,Nat.zero_add,Nat.reduceAdd,Nat.reduceMul,Int.reduceToNat]
  refine mcallP m rfl rfl (rayBox_c) ?_
  clear m; intro u m
  refine n_val (r_move) ?_
  simp only [ev,zD,zE,zF,zG]
  rw [show boxV (boxR r lo hi) = .tuple #[Q ((boxR r lo hi).getD (0,0)).1,Q ((boxR r lo hi).getD (0,0)).2,.bool (boxR r lo hi).isSome] by cases boxR r lo hi <;> rfl]
  refine n_val (r_extract rfl rfl) (n_val (r_extract rfl rfl) (n_val (r_extract rfl rfl) ?_))
  simp only [ev,zD,zE,zF,zG]
  refine malloc m zero_37 rfl ?_
  clear m; intro g4 u m
  simp only [ev,zD,zE,zF,zG]
  refine malloc m zero_37 rfl ?_
  clear m; intro g5 u m
  simp only [ev,zD,zE,zF,zG]
  refine mstoreA m 1 rfl rfl rfl cells_37 (leT rfl) rfl ?_
  clear m; intro u m; simp only [over,zH,zI,zJ,zK,zL,zM,zN,zO,zP,zF,zG,Nat.reduceAdd] at m
  refine mstoreA m 0 rfl rfl rfl cells_37 (leT rfl) rfl ?_
  clear m; intro u m; simp only [over,zH,zI,zJ,zK,zL,zM,zN,zO,zP,zF,zG,Nat.reduceAdd] at m
  refine n_val (r_assign) (n_nil (k9 _ _ ?_))
  refine c_seq fun K10 k10=>wp_region_lit ?_
  simp only [ev,zD,zE,zF,zG]
  refine n_load rfl ((m.b 1 rfl).full agg_37 cells_37) ?_
  simp only [ev,zD,zE,zF,zG]
  refine n_val (r_move) ?_
  simp only [ev,zD,zE,zF,zG]
  refine mstoreA m 3 rfl rfl rfl cells_37 (leT rfl) rfl ?_
  clear m; intro u m; simp only [over,zH,zI,zJ,zK,zL,zM,zN,zO,zP,zF,zG,Nat.reduceAdd] at m
  refine n_val (r_assign) (n_nil (k10 _ _ ?_))
  refine wp_ret ?_
  simp only [ev,zD,zE,zF,zG]
  try simp only [Exit.inBlock,Exit.then,if_true]
  refine fin2 rfl ⟨_,rfl,((m.b 3 rfl).full agg_37 cells_37)⟩ rfl ?_
  try simp only [zD,zE]
  exact ⟨_,rfl,m.ext,by rw [beginR]; rcases hbv with ⟨p,q,e⟩ | e <;> (rw [e]; rfl)⟩
end Go.Proofs.YtimjandkmfcmiaaGreatDoor
namespace Go.Lith
open Go.RowKit
section
variable {α : Type} {enc : α → List Value} {c : Nat} {w w' : World} {A : Option Addr} {n : Nat} {xs : List α}
structure LAt (enc : α → List Value) (c : Nat) (w : World) (A : Option Addr) (n : Nat) (xs : List α) : Prop where
  len : xs.length = n
  row : ∀ i x,xs[i]? = some x → ∃ a,A = some a ∧ Row w (a.add (i * c)) (enc x)
theorem LAt.ext (h : LAt enc c w A n xs) (hE : Ext w w') : LAt enc c w' A n xs:=⟨h.len,fun i x hi=>let ⟨a,e,hr⟩:=h.row i x hi; ⟨a,e,hr.ext hE⟩⟩
theorem LAt.nil (w : World) (A : Option Addr) : LAt enc c w A 0 []:=⟨rfl,fun i x h=>by cases h⟩
theorem LAt.get (h : LAt enc c w A n xs) {i : Nat} (hi : i < n) : ∃ x,xs[i]? = some x ∧ ∃ a,A = some a ∧ Row w (a.add (i * c)) (enc x):=by
  have hl : i < xs.length:=by rw [h.len]; exact hi
  exact ⟨xs[i],List.getElem?_eq_getElem hl,h.row i _ (List.getElem?_eq_getElem hl)⟩
theorem LAt.at {a : Addr} (h : LAt enc c w (some a) n xs) {i : Nat} {x : α} (hx : xs[i]? = some x) : Row w (a.add (i * c)) (enc x):=by
  obtain ⟨b,e,hr⟩:=h.row i x hx
  cases e
  exact hr
theorem LAt.take (h : LAt enc c w A n xs) {k : Nat} (hk : k ≤ n) : LAt enc c w A k (xs.take k) :=
  ⟨by rw [List.length_take,h.len]; omega,fun i x hx=>h.row i x (by rw [List.getElem?_take] at hx; split at hx; exact hx; cases hx)⟩
theorem flatE_len (hc : ∀ x,(enc x).length = c) : ∀ xs : List α,(xs.flatMap enc).length = xs.length * c
  | []=>by simp
  | x :: xs=>by rw [List.flatMap_cons,List.length_append,hc,flatE_len hc xs,List.length_cons,Nat.add_mul,Nat.one_mul,Nat.add_comm]
theorem flatE_drop (hc : ∀ x,(enc x).length = c) : ∀ (xs : List α) (k : Nat),(xs.drop k).flatMap enc = (xs.flatMap enc).drop (k * c)
  | xs,0=>by simp
  | [],k + 1=>by simp
  | x :: xs,k + 1=>by
    rw [List.drop_succ_cons,List.flatMap_cons,flatE_drop hc xs k,List.drop_append,hc,List.drop_of_length_le (l:=enc x) (by rw [hc,Nat.add_mul]; omega),Nat.add_mul,Nat.one_mul,Nat.add_sub_cancel,List.nil_append]
theorem flatE_at (hc : ∀ x,(enc x).length = c) {xs : List α} {i : Nat} {x : α} (h : xs[i]? = some x) : (xs.flatMap enc).drop (i * c) = enc x ++ (xs.drop (i + 1)).flatMap enc:=by
  rw [← flatE_drop hc,List.drop_eq_getElem_cons (List.getElem?_eq_some_iff.1 h).1,List.flatMap_cons,(List.getElem?_eq_some_iff.1 h).2]
theorem Ow.at {w0 : World} {S : List (Option Nat)} {E : TypeId} {cap g i : Nat} {x : α} (hc : ∀ x,(enc x).length = c) (h : Ow w0 w S E c (Option.some ⟨g,0,none⟩) n cap (xs.flatMap enc)) (hx : xs[i]? = Option.some x) : Row w ((⟨g,0,none⟩ : Addr).add (i * c)) (enc x):=by
  intro j u hj
  have hj' : j < (enc x).length:=(List.getElem?_eq_some_iff.1 hj).1
  rw [addr_add_add]
  refine h.rows _ _ ?_
  rw [← List.getElem?_drop,flatE_at hc hx,List.getElem?_append_left hj']
  exact hj
theorem Ow.num {w0 : World} {S : List (Option Nat)} {E : TypeId} {cap : Nat} (hc : ∀ x,(enc x).length = c) (h0 : 0 < c) (h : Ow w0 w S E c A n cap (xs.flatMap enc)) : xs.length = n:=by
  have:=h.own.1
  rw [flatE_len hc] at this
  exact Nat.eq_of_mul_eq_mul_right h0 this
theorem LAt.cells (hc : ∀ x,(enc x).length = c) (h0 : 0 < c) (h : LAt enc c w A n xs) : ∀ j u,(xs.flatMap enc)[j]? = some u → ∃ a,A = some a ∧ w.cell? (a.add j) = some u:=fun j u hj=>by
  have hj':=(List.getElem?_eq_some_iff.1 hj).1
  rw [flatE_len hc] at hj'
  have hi : j / c < xs.length:=(Nat.div_lt_iff_lt_mul h0).2 hj'
  obtain ⟨a,rfl,hr⟩:=h.row (j / c) _ (List.getElem?_eq_getElem hi)
  refine ⟨a,rfl,?_⟩
  have hm:=Nat.mod_lt j h0
  have e : j = j / c * c + j % c:=by rw [Nat.mul_comm]; exact (Nat.div_add_mod j c).symm
  have:=hr (j % c) u (by
    rw [e,← List.getElem?_drop,flatE_at hc (List.getElem?_eq_getElem hi),List.getElem?_append_left (by rw [hc]; exact hm)] at hj
    exact hj)
  rw [addr_add_add,← e] at this
  exact this
end
theorem take_snoc {α : Type} {ps : List α} {k : Nat} {p : α} (h : ps[k]? = some p) : ps.take (k + 1) = ps.take k ++ [p]:=by
  rw [List.take_add_one,h]
  rfl
abbrev E3:=P3 × P3
def ed (e : E3) : Value:=.agg #[.int .i64 e.1.x,.int .i64 e.1.y,.int .i64 e.1.z,.int .i64 e.2.x,.int .i64 e.2.y,.int .i64 e.2.z]
def ptC (p : P3) : List Value:=[.int .i64 p.x,.int .i64 p.y,.int .i64 p.z]
end Go.Lith
namespace Go.Lith
open Go.RowKit
def RowAt (w : World) (A : Option Addr) (xs : List Value) : Prop:=∀ j u,xs[j]? = some u → ∃ a,A = some a ∧ w.cell? (a.add j) = some u
theorem RowAt.ext {w w' : World} {A : Option Addr} {xs : List Value} (h : RowAt w A xs) (hE : Ext w w') : RowAt w' A xs:=fun j u hj=>let ⟨a,e,hc⟩:=h j u hj; ⟨a,e,hE.cell hc⟩
abbrev Rws:=List (Option Addr × List Value)
def rowsI (L : Rws) : It where
  own b:=∃ e ∈ L,e.2 ≠ [] ∧ blkOf e.1 = some b
  P w:=∀ e ∈ L,RowAt w e.1 e.2
  lt w b h hb:=by
    obtain ⟨⟨A,xs⟩,he,hne,hb⟩:=hb
    match xs,hne with
    | u :: us,_ =>
      obtain ⟨a,ha,hc⟩:=h _ he 0 u rfl
      simp only at ha hb
      rw [ha] at hb
      cases hb
      exact World.block_lt_of_cell? _ _ hc
  st w w' h _ k:=fun e he j u hj=>by
    obtain ⟨a,ha,hc⟩:=h e he j u hj
    have hb : w'.heap[(a.add j).block]? = w.heap[(a.add j).block]?:=k _ ⟨e,he,fun e0=>(by rw [e0] at hj; cases hj),by rw [ha]; show some a.block = _; congr 1; unfold Addr.add; split <;> rfl⟩
    exact ⟨a,ha,(World.cell?_of_block hb).trans hc⟩
section
variable {w0 w w' : World} {is : List It}
theorem Mem.l (m : Mem w0 w is) (k : Nat) {L : Rws} (hk : is[k]? = some (rowsI L)) : (rowsI L).P w:=m.get k hk
theorem Mem.oR (m : Mem w0 w is) (k : Nat) {E : TypeId} {c n cap : Nat} {A : Option Addr} {xs : List Value} (hk : is[k]? = some (oI E c A n cap xs)) : Mem w0 w (is.set k (rowsI [(A,xs)])) :=
  m.put k hk rfl rfl rfl (Nat.le_refl _) (fun _ _ _=>rfl) (fun e he=>by rw [List.mem_singleton.1 he]; exact (m.o k hk).row) (.inl fun b ⟨e,he,_,hb⟩=>by rw [List.mem_singleton.1 he] at hb; exact hb)
theorem Mem.join {L1 L2 : Rws} (m : Mem w0 w (rowsI L1 :: is)) (k : Nat) (hk : is[k]? = some (rowsI L2)) : Mem w0 w (is.set k (rowsI (L1 ++ L2))):=by
  obtain ⟨h1,h2⟩:=List.pairwise_cons.1 m.nd
  have P1 : (rowsI L1).P w:=m.all _ (List.mem_cons_self ..)
  have P2 : (rowsI L2).P w:=m.tl.get k hk
  have g1:=m.ge _ (List.mem_cons_self ..)
  have g2:=m.tl.ge _ (List.mem_of_getElem? hk)
  refine ⟨m.ext,fun i hi=>?_,fun i hi=>?_,pw_set is k h2 hk fun x hx ha b hb h3=>?_⟩
  · rcases List.mem_or_eq_of_mem_set hi with hi | rfl
    · exact m.tl.all i hi
    · exact fun e he=>(List.mem_append.1 he).elim (P1 e) (P2 e)
  · rcases List.mem_or_eq_of_mem_set hi with hi | rfl
    · exact m.tl.ge i hi
    · rintro b ⟨e,he,hb⟩
      exact (List.mem_append.1 he).elim (fun h=>g1 b ⟨e,h,hb⟩) (fun h=>g2 b ⟨e,h,hb⟩)
  · obtain ⟨e,he,hb⟩:=hb
    rcases List.mem_append.1 he with he | he
    · exact h1 x hx b ⟨e,he,hb⟩ h3
    · exact ha b ⟨e,he,hb⟩ h3
theorem Mem.plus {js : List It} (m : Mem w0 w is) (h : Mem w w' js) : Mem w0 w' (js ++ is):=by
  have m':=m.ext' h.ext
  refine ⟨m'.ext,fun i hi=>?_,fun i hi b hb=>?_,List.pairwise_append.2 ⟨h.nd,m.nd,fun i hi j hj b h1 h2=>?_⟩⟩
  · exact (List.mem_append.1 hi).elim (h.all i) (m'.all i)
  · rcases List.mem_append.1 hi with hi | hi
    · exact Nat.le_trans m.ext.size (h.ge i hi b hb)
    · exact m'.ge i hi b hb
  · have k1:=h.ge i hi b h1
    have k2:=j.lt w b (m.all j hj) h2
    omega
end
theorem RowAt.tris {w : World} {A : Option Addr} {ts : List T3} (h : RowAt w A (ts.flatMap triCells)) (hi : ∀ t ∈ ts,IT t) : TrisAt w A ts.length ts:=by
  refine ⟨rfl,hi,fun i t ht=>?_⟩
  have hr : ∀ j u,(triCells t)[j]? = some u → (ts.flatMap triCells)[i * 9 + j]? = some u:=fun j u hj=>by
    rw [← List.getElem?_drop,drop_flat ts i t ht,List.getElem?_append_left (List.getElem?_eq_some_iff.1 hj).1]
    exact hj
  obtain ⟨a,e,_⟩:=h _ _ (hr 0 _ rfl)
  refine ⟨a,e,fun j u hj=>?_⟩
  obtain ⟨a',e',hc⟩:=h _ _ (hr j u hj)
  rw [e] at e'
  cases e'
  rw [addr_add_add]
  exact hc
structure Hd where
  A : Option Addr
  n : Nat
  cap : Nat
def Hd.v (h : Hd) : Value:=.slice h.A h.n h.cap
theorem over_hd {hs : List Hd} {i : Nat} {h : Hd} (hi : i < hs.length) : over (hs.map Hd.v) i [h.v] = (hs.set i h).map Hd.v:=by
  apply List.ext_getElem?
  intro j
  unfold over
  rw [List.getElem?_map,List.getElem?_set,List.append_assoc]
  rcases Nat.lt_trichotomy j i with hj | hj | hj
  · rw [List.getElem?_append_left (by rw [List.length_take,List.length_map]; omega),List.getElem?_take_of_lt hj,List.getElem?_map,if_neg (by omega)]
  · subst hj
    rw [List.getElem?_append_right (by rw [List.length_take]; omega),List.length_take,List.length_map,Nat.min_eq_left (by omega),Nat.sub_self,if_pos rfl,if_pos hi]
    rfl
  · rw [List.getElem?_append_right (by rw [List.length_take,List.length_map]; omega),List.length_take,List.length_map,Nat.min_eq_left (by omega),if_neg (by omega),List.getElem?_append_right (by simp; omega),List.getElem?_drop,List.getElem?_map]
    congr 2
    simp
    omega
structure ListsAt (w : World) (A : Option Addr) (N : Nat) (xs : List (List T3)) : Prop where
  len : xs.length = N
  row : ∀ i l,xs[i]? = some l → ∃ a,∃ h : Hd,A = some a ∧ w.cell? (a.add i) = some h.v ∧ TrisAt w h.A h.n l ∧ h.n ≤ h.cap
theorem ListsAt.ext {w w' : World} {A : Option Addr} {N : Nat} {xs : List (List T3)} (h : ListsAt w A N xs) (hE : Ext w w') : ListsAt w' A N xs :=
  ⟨h.len,fun i l hi=>let ⟨a,hd,e,hc,ht,hl⟩:=h.row i l hi; ⟨a,hd,e,hE.cell hc,ht.ext hE,hl⟩⟩
theorem ListsAt.get {w : World} {A : Option Addr} {N i : Nat} {xs : List (List T3)} (h : ListsAt w A N xs) (hi : i < N) : ∃ l,xs[i]? = some l ∧ ∃ a B n c,A = some a ∧ w.cell? (a.add i) = some (.slice B n c) ∧ TrisAt w B n l ∧ n ≤ c:=by
  have hl : i < xs.length:=by rw [h.len]; exact hi
  obtain ⟨a,hd,e,hc,ht,hle⟩:=h.row i _ (List.getElem?_eq_getElem hl)
  exact ⟨xs[i],List.getElem?_eq_getElem hl,a,hd.A,hd.n,hd.cap,e,hc,ht,hle⟩
def Says (L : Rws) (h : Hd) (l : List T3) : Prop:=h.n ≤ h.cap ∧ ∀ w,(rowsI L).P w → TrisAt w h.A h.n l
structure Cov (L : Rws) (hs : List Hd) (xs : List (List T3)) : Prop where
  len : hs.length = xs.length
  at_ : ∀ (i : Nat) (h : Hd) (l : List T3),hs[i]? = some h → xs[i]? = some l → Says L h l
theorem Says.mono {L L' : Rws} {h : Hd} {l : List T3} (s : Says L h l) (hL : ∀ e ∈ L,e ∈ L') : Says L' h l:=⟨s.1,fun w hw=>s.2 w fun e he=>hw e (hL e he)⟩
theorem Says.nil (L : Rws) : Says L ⟨none,0,0⟩ []:=⟨Nat.le_refl _,fun w _=>TrisAt.nil w none⟩
theorem Says.one {A : Option Addr} {ts : List T3} {cap : Nat} (hi : ∀ t ∈ ts,IT t) (hc : ts.length ≤ cap) : Says [(A,ts.flatMap triCells)] ⟨A,ts.length,cap⟩ ts :=
  ⟨hc,fun w hw=>RowAt.tris (hw _ (List.mem_singleton.2 rfl)) hi⟩
theorem TrisAt.takeL {w : World} {A : Option Addr} {N k : Nat} {ts : List T3} (h : TrisAt w A N ts) (hk : k ≤ N) : TrisAt w A k (ts.take k) :=
  ⟨by rw [List.length_take,h.len]; exact Nat.min_eq_left hk,fun t ht=>h.it t (List.mem_of_mem_take ht),fun i t hi=>by
    rw [List.getElem?_take] at hi
    split at hi
    · exact h.row i t hi
    · cases hi⟩
theorem TrisAt.dropL {w : World} {A : Option Addr} {N k cap : Nat} {ts : List T3} (h : TrisAt w A N ts) (hk : k ≤ N) (hc : N ≤ cap) : TrisAt w (if cap = k then A else A.map (·.add (k * 9))) (N - k) (ts.drop k) :=
  ⟨by rw [List.length_drop,h.len],fun t ht=>h.it t (List.mem_of_mem_drop ht),fun i t hi=>by
    rw [List.getElem?_drop] at hi
    obtain ⟨a,e,hr⟩:=h.row _ t hi
    have hl:=(List.getElem?_eq_some_iff.1 hi).1
    rw [h.len] at hl
    rw [if_neg (by omega),e]
    refine ⟨_,rfl,?_⟩
    rw [addr_add_add,← Nat.add_mul]
    exact hr⟩
theorem Says.take {L : Rws} {A : Option Addr} {N k cap : Nat} {ts : List T3} (s : Says L ⟨A,N,cap⟩ ts) (hk : k ≤ N) : Says L ⟨A,k,cap⟩ (ts.take k):=⟨Nat.le_trans hk s.1,fun w hw=>(s.2 w hw).takeL hk⟩
theorem Says.drop {L : Rws} {A : Option Addr} {N k cap : Nat} {ts : List T3} (s : Says L ⟨A,N,cap⟩ ts) (hk : k ≤ N) : Says L ⟨if cap = k then A else A.map (·.add (k * 9)),N - k,cap - k⟩ (ts.drop k):=⟨Nat.sub_le_sub_right s.1 k,fun w hw=>(s.2 w hw).dropL hk s.1⟩
theorem Cov.nil (L : Rws) : Cov L [] []:=⟨rfl,fun i h l hi=>by cases hi⟩
theorem Cov.mono {L L' : Rws} {hs : List Hd} {xs : List (List T3)} (c : Cov L hs xs) (hL : ∀ e ∈ L,e ∈ L') : Cov L' hs xs:=⟨c.len,fun i h l h1 h2=>(c.at_ i h l h1 h2).mono hL⟩
theorem Cov.snoc {L : Rws} {hs : List Hd} {xs : List (List T3)} {h : Hd} {l : List T3} (c : Cov L hs xs) (s : Says L h l) : Cov L (hs ++ [h]) (xs ++ [l]):=by
  refine ⟨by simp [c.len],fun i h' l' h1 h2=>?_⟩
  rcases Nat.lt_or_ge i hs.length with hi | hi
  · rw [List.getElem?_append_left hi] at h1
    rw [List.getElem?_append_left (by rw [← c.len]; exact hi)] at h2
    exact c.at_ i h' l' h1 h2
  · rw [List.getElem?_append_right hi] at h1
    rw [List.getElem?_append_right (by rw [← c.len]; exact hi),← c.len] at h2
    cases hd : i - hs.length with
    | zero=>rw [hd] at h1 h2; cases h1; cases h2; exact s
    | succ j=>rw [hd] at h1; cases h1
theorem Cov.set {L : Rws} {hs : List Hd} {xs : List (List T3)} {h : Hd} {l : List T3} {k : Nat} (c : Cov L hs xs) (s : Says L h l) : Cov L (hs.set k h) (xs.set k l):=by
  refine ⟨by simp [c.len],fun i h' l' h1 h2=>?_⟩
  rw [List.getElem?_set] at h1 h2
  by_cases hk : k = i
  · rw [if_pos hk] at h1 h2
    have hl:=c.len
    split at h1
    · rw [if_pos (by omega)] at h2
      cases h1; cases h2; exact s
    · cases h1
  · rw [if_neg hk] at h1 h2
    exact c.at_ i h' l' h1 h2
theorem Cov.lists {L : Rws} {hs : List Hd} {xs : List (List T3)} (c : Cov L hs xs) {w : World} {A : Option Addr} {N : Nat} (hN : hs.length = N) (hr : RowAt w A (hs.map Hd.v)) (hL : (rowsI L).P w) : ListsAt w A N xs:=by
  refine ⟨by rw [← c.len]; exact hN,fun i l hi=>?_⟩
  have hl:=(List.getElem?_eq_some_iff.1 hi).1
  rw [← c.len] at hl
  have h1 : hs[i]? = some hs[i]:=List.getElem?_eq_getElem hl
  obtain ⟨a,e,hc⟩:=hr i hs[i].v (by rw [List.getElem?_map,h1]; rfl)
  have s:=c.at_ i _ l h1 hi
  exact ⟨a,hs[i],e,hc,s.2 w hL,s.1⟩
theorem Mem.lists {w0 w : World} {is : List It} (m : Mem w0 w is) {L : Rws} {hs : List Hd} {xs : List (List T3)} (c : Cov L hs xs) (k j : Nat) {E : TypeId} {A : Option Addr} {n cap : Nat} (hk : is[k]? = some (oI E 1 A n cap (hs.map Hd.v))) (hj : is[j]? = some (rowsI L)) : ListsAt w A n xs:=by
  have ho:=m.o k hk
  refine c.lists ?_ ho.row (m.l j hj)
  have:=ho.own.1
  rw [List.length_map,Nat.mul_one] at this
  exact this
end Go.Lith
