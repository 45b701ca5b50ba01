/-
  Texts of one claim, laid together: RayE, JoinTraceExact.
-/
import Derived.Test.YtimjandkmfcmiaaGreatDoorCards
import Derived.Test.YtimjandkmfcmiaaGreatDoorTie
import Derived.Deep.DeepHandedRow
import Derived.Lib.LaidTab
import Derived.Test.YtimjandkmfcmiaaGreatDoorB7
set_option maxHeartbeats 8000000
set_option linter.unusedSimpArgs false
set_option linter.unusedVariables false
set_option linter.unusedSectionVars false
namespace Go.Proofs.YtimjandkmfcmiaaGreatDoor
open Go.RowKit Go.Lith
set_option maxRecDepth 100000
attribute [local irreducible] wpList wpQuiet wpMix wpMixH wpTree Code.wp
theorem ints_zero {w : World} {g n : Nat} {t : TypeId} (hB : Blk w g (List.replicate n (.int .i64 0)) t) : IntsAt w (some ⟨g,0,none⟩) n (List.replicate n 0):=by
  have:=ints_blk (zs:=List.replicate n 0) hB (by simp) (fun z hz=>by rw [List.eq_of_mem_replicate hz]; exact ⟨by decide,by decide⟩)
  rwa [List.length_replicate] at this
theorem zero_i64 {n : Nat} : ∀ z ∈ List.replicate n (0 : Int),I64 z:=fun z hz=>by rw [List.eq_of_mem_replicate hz]; exact ⟨by decide,by decide⟩
theorem Fine.eachIt {F : List (List T3)} (f : Fine F) : ∀ l ∈ F,∀ t ∈ l,IT t:=fun l hl t ht=>f.it t (List.mem_flatten.2 ⟨l,hl,ht⟩)
theorem Fine.big {F : List (List T3)} (f : Fine F) : ∀ l ∈ F,l.length ≤ 300000:=fun l hl=>Nat.le_trans (f.each l hl) (by decide)
theorem exact_all {F : List (List T3)} (r : Ray) : (askR r F (List.replicate F.length 0)).kind ≠ 3 ∧ containsR (askR r F (List.replicate F.length 0)) (firstN r F.flatten):=exact_right (fun i hi=>bnd_zero _ i hi) r
theorem TraceExact_c {kind bits : Int} [Iw kind] [Iw bits] {q : Nat} {r : Ray} [IR r] {HA ZA PA : Option Addr} {HN Hc ZN Zc PN Pc : Nat} {hz zs : List Int} {ss : List P3} (w : World) (hH : IntsAt w HA HN hz) (hZ : IntsAt w ZA ZN zs) (hP : LAt ptC 3 w PA PN ss) (hq : q < 256) : Does Tryz.prog 5 [.agg #[.int .i64 kind,.int .i64 bits,.slice HA HN Hc,.int .u8 (q : Int),.slice ZA ZN Zc,.int .i64 r.s.x,.int .i64 r.s.y,.int .i64 r.s.z,.int .i64 r.w,.int .i64 r.d.x,.int .i64 r.d.y,.int .i64 r.d.z,.slice PA PN Pc]] w (fun v _=>v = .bool true):=by
  refine ⟨en_5,?_⟩
  have m:=Mem.refl w
  go_enter Tryz.func5,Tryz.ntmps5
  refine c_seq fun K1 k1=>wp_region_lit (mboxA m rfl ?_)
  clear m; intro g1 u m
  refine n_val (r_assign) (n_nil (k1 _ _ ?_))
  try clear k1 K1
  refine c_seq fun K2 k2=>wp_region_lit ?_
  simp only [zA,zB,zC,zD,zE,zF,zG]
  refine mcallP m rfl rfl (sanity_c) ?_
  clear m; intro u m
  refine n_val (r_assign) (n_nil (k2 _ _ ?_))
  try clear k2 K2
  refine c_seq fun K3 k3=>wp_region_lit ?_
  simp only [zA,zB,zC,zD,zE,zF,zG]
  refine n_load rfl ((m.b 0 rfl).full agg_28 cells_28) ?_
  simp only [zA,zB,zC,zD,zE,zF,zG]
  refine n_call rfl rfl (clusters_c (kind:=kind) (bits:=bits) (r:=r) (zs:=zs) (ss:=ss) (hz:=hz) _ (hH.ext m.ext) (hZ.ext m.ext) (hP.ext m.ext) hq) ?_
  rintro v u e ⟨A6,n6,cap6,hs6,L6,rfl,hn6,hM,hcov6⟩; replace m:=m.plus hM; clear hM e; simp only [List.cons_append,List.nil_append] at m
  obtain ⟨F,hF⟩ : ∃ F,F = chunksR (1 + q % 12) 30 (baseT kind bits hz):=⟨_,rfl⟩
  have hfn : Fine F:=by rw [hF]; exact fine_chunks
  rw [← hF] at hcov6
  have hcl:=hcov6.len
  have e6 : n6 = F.length:=hn6.trans hcl
  subst e6
  have hfl:=hfn.len
  have hff:=hfn.flat
  refine n_val (r_assign) (n_nil (k3 _ _ ?_))
  try clear k3 K3
  refine c_seq fun K4 k4=>?_
  simp only [zA,zB,zC,zD,zE,zF,zG]
  refine mtree m [true,true,true] (.take 0 (.take 1 (.take 2 (.take 3 (.take 4 (.two 5 (.two 6 (.one 7 (.one 8 .nil)) 7 (.one 6 (.one 8 .nil))) 7 (.one 5 (.one 6 (.one 8 .nil))))))))) follows_mixed (by kernel_rfl) (panic_put (fun _ _ _ _ _ h=>h)) ?_
  clear m; intro u m
  refine t_take (by simp only [zS,zT,zU,zV]; rfl) (h_val (r_fieldAddr (c:=6) Tryz.underlying28 rfl cells_25 rfl rfl) (h_nil (t_take (by simp only [zS,zT,zU,zV]; rfl) ?_)))
  simp only [zA,zB,zC,zD,zE,zF,zG]
  refine h_load rfl (fun u m=>((m.b 2 rfl).lies agg_25 cells_25 rfl rfl)) ?_
  simp only [zA,zB,zC,zD,zE,zF,zG,zH,zI,zJ,zK,Nat.zero_add,Nat.reduceAdd,Nat.reduceMul,Int.reduceToNat]
  refine h_nil (t_take (by simp only [zS,zT,zU,zV]; rfl) (h_val (r_move) (h_nil (t_take (by simp only [zS,zT,zU,zV]; rfl) (h_val (r_move) (h_nil (t_take (by simp only [zS,zT,zU,zV]; rfl) (h_val (r_lenS rfl Tryz.underlying29 rfl) (h_nil ?_)))))))))
  simp only [zA,zB,zC,zD,zE,zF,zG]
  refine t_two (by simp only [zS,zT,zU,zV]; rfl) (by simp only [zS,zT,zU,zV]; rfl) ?_ ?_
  · skip
    refine n_make1 Tryz.underlying22 inf_3 rfl rfl rfl (Int.toNat_natCast _) (Int.toNat_natCast _) (by omega) (by omega) (by omega) (by omega) ?_
    intro u g2 e hg hB; replace m:=m.newB e hg hB; clear e hg hB
    refine n_nil ?_
    refine ⟨m.sel [false,true,true,true],?_⟩
    simp only [zA,zB,zC,zD,zE,zF,zG]
    refine t_two (by simp only [zS,zT,zU,zV]; rfl) (by simp only [zS,zT,zU,zV]; rfl) ?_ ?_
    · skip
      refine n_call rfl rfl (Ask_c (r:=r) (xs:=F) (bs:=(List.replicate F.length 0)) _ (m.lists hcov6 1 2 rfl rfl) (ints_zero (m.b 0 rfl)) (by omega) (by omega) hfn.big) ?_
      rintro v u e ⟨A9,n9,cap9,rfl,hna9,hN⟩; replace m:=m.newO e hN; clear e hN
      refine n_nil ?_
      refine ⟨m.sel [false,false,true,true,true],?_⟩
      refine t_one (by simp only [zS,zT,zU,zV]; rfl) ?_
      simp only [zA,zB,zC,zD,zE,zF,zG]
      refine malloc m zero_39 rfl ?_
      clear m; intro g3 u m
      refine n_nil ?_
      refine ⟨m.sel [false,false,false,true,true,true],?_⟩
      refine t_one (by simp only [zS,zT,zU,zV]; rfl) ?_
      simp only [zA,zB,zC,zD,zE,zF,zG]
      refine mstoreA m 0 rfl rfl rfl cells_39 (leT rfl) rfl ?_
      clear m; intro u m; simp only [over,zH,zI,zJ,zK,zL,zM,zN,zO,zP,zF,zG,Nat.reduceAdd] at m
      refine n_nil ?_
      refine ⟨m.sel [false,false,false,true,true,true],?_⟩
      refine t_nil (k4 _ _ ?_)
      try clear k4 K4
      refine c_seq fun K5 k5=>wp_region_lit (n_load rfl ((m.b 5 rfl).full agg_28 cells_28) ?_)
      simp only [zA,zB,zC,zD,zE,zF,zG]
      refine mcall m rfl rfl (hit_c (kind:=kind) (bits:=bits) (r:=r) (zs:=zs) (ss:=ss) (hz:=hz) _ (hH.ext m.ext) (hZ.ext m.ext) (hP.ext m.ext) hq) ?_
      clear m; rintro v u m rfl
      simp only [zA,zB,zC,zD,zE,zF,zG]
      rw [← hF]
      refine n_val (r_move) (n_val (r_extract rfl rfl) (n_val (r_extract rfl rfl) ?_))
      simp only [zA,zB,zC,zD,zE,zF,zG]
      refine malloc m zero_43 rfl ?_
      clear m; intro g4 u m
      simp only [zA,zB,zC,zD,zE,zF,zG]
      refine mstoreA m 0 rfl rfl rfl cells_43 (leT rfl) rfl ?_
      clear m; intro u m; simp only [over,zH,zI,zJ,zK,zL,zM,zN,zO,zP,zF,zG,Nat.reduceAdd] at m
      refine n_val (r_assign) (n_nil (k5 _ _ ?_))
      try clear k5 K5
      refine c_seq fun K6 k6=>wp_region_lit (n_val (r_move) (n_val (r_move) (n_want rfl (n_val (r_fieldAddr (c:=0) Tryz.underlying39 rfl cells_3 rfl rfl) ?_))))
      simp only [zA,zB,zC,zD,zE,zF,zG]
      refine n_want rfl (n_load rfl ((m.b 1 rfl).lies1 agg_3 rfl) ?_)
      simp only [zA,zB,zC,zD,zE,zF,zG]
      refine n_want rfl (n_val (r_neqT rfl rfl (exact_all r).1) (n_val (r_pickT rfl) (n_val (r_move) (n_want rfl ?_))))
      simp only [zA,zB,zC,zD,zE,zF,zG]
      refine n_load rfl ((m.b 1 rfl).full agg_39 cells_39) ?_
      simp only [zA,zB,zC,zD,zE,zF,zG]
      refine n_want rfl (n_load rfl ((m.b 0 rfl).full agg_43 cells_43) ?_)
      simp only [zA,zB,zC,zD,zE,zF,zG]
      refine n_want rfl (n_val (r_move) (n_want rfl ?_))
      simp only [zA,zB,zC,zD,zE,zF,zG]
      refine mcallP m rfl rfl (contains_c (a:=askR r F (List.replicate F.length 0)) (h:=firstN r F.flatten) hna9 (exact_all r).2 (bq_ask hfn.eachIt zero_i64).1 (bq_ask hfn.eachIt zero_i64).2 (bq_first hfn.it)) ?_
      clear m; intro u m
      refine n_val (r_pickT rfl) (n_val (r_assign) (n_nil (k6 _ _ ?_)))
      try clear k6 K6
      refine wp_ret ?_
      simp only [zA,zB,zC,zD,zE,zF,zG]
      try simp only [Exit.inBlock,Exit.then,if_true]
      refine fin1 rfl rfl ?_
      try simp only [zD,zE]
      exact ⟨_,rfl,m.ext,rfl⟩
    · skip
      refine malloc m zero_39 rfl ?_
      clear m; intro g3 u m
      refine n_nil ?_
      refine ⟨m.sel [false,false,true,true,true],?_⟩
      refine t_one (by simp only [zS,zT,zU,zV]; rfl) ?_
      simp only [zA,zB,zC,zD,zE,zF,zG]
      refine n_call rfl rfl (Ask_c (r:=r) (xs:=F) (bs:=(List.replicate F.length 0)) _ (m.lists hcov6 2 3 rfl rfl) (ints_zero (m.b 1 rfl)) (by omega) (by omega) hfn.big) ?_
      rintro v u e ⟨A9,n9,cap9,rfl,hna9,hN⟩; replace m:=m.newO e hN; clear e hN
      refine n_nil ?_
      refine ⟨m.sel [false,false,false,true,true,true],?_⟩
      refine t_one (by simp only [zS,zT,zU,zV]; rfl) ?_
      simp only [zA,zB,zC,zD,zE,zF,zG]
      refine mstoreA m 1 rfl rfl rfl cells_39 (leT rfl) rfl ?_
      clear m; intro u m; simp only [over,zH,zI,zJ,zK,zL,zM,zN,zO,zP,zF,zG,Nat.reduceAdd] at m
      refine n_nil ?_
      refine ⟨m.sel [false,false,false,true,true,true],?_⟩
      refine t_nil (k4 _ _ ?_)
      try clear k4 K4
      refine c_seq fun K7 k7=>wp_region_lit (n_load rfl ((m.b 5 rfl).full agg_28 cells_28) ?_)
      simp only [zA,zB,zC,zD,zE,zF,zG]
      refine mcall m rfl rfl (hit_c (kind:=kind) (bits:=bits) (r:=r) (zs:=zs) (ss:=ss) (hz:=hz) _ (hH.ext m.ext) (hZ.ext m.ext) (hP.ext m.ext) hq) ?_
      clear m; rintro v u m rfl
      simp only [zA,zB,zC,zD,zE,zF,zG]
      rw [← hF]
      refine n_val (r_move) (n_val (r_extract rfl rfl) (n_val (r_extract rfl rfl) ?_))
      simp only [zA,zB,zC,zD,zE,zF,zG]
      refine malloc m zero_43 rfl ?_
      clear m; intro g4 u m
      simp only [zA,zB,zC,zD,zE,zF,zG]
      refine mstoreA m 0 rfl rfl rfl cells_43 (leT rfl) rfl ?_
      clear m; intro u m; simp only [over,zH,zI,zJ,zK,zL,zM,zN,zO,zP,zF,zG,Nat.reduceAdd] at m
      refine n_val (r_assign) (n_nil (k7 _ _ ?_))
      try clear k7 K7
      refine c_seq fun K8 k8=>wp_region_lit (n_val (r_move) (n_val (r_move) (n_want rfl (n_val (r_fieldAddr (c:=0) Tryz.underlying39 rfl cells_3 rfl rfl) ?_))))
      simp only [zA,zB,zC,zD,zE,zF,zG]
      refine n_want rfl (n_load rfl ((m.b 2 rfl).lies1 agg_3 rfl) ?_)
      simp only [zA,zB,zC,zD,zE,zF,zG]
      refine n_want rfl (n_val (r_neqT rfl rfl (exact_all r).1) (n_val (r_pickT rfl) (n_val (r_move) (n_want rfl ?_))))
      simp only [zA,zB,zC,zD,zE,zF,zG]
      refine n_load rfl ((m.b 2 rfl).full agg_39 cells_39) ?_
      simp only [zA,zB,zC,zD,zE,zF,zG]
      refine n_want rfl (n_load rfl ((m.b 0 rfl).full agg_43 cells_43) ?_)
      simp only [zA,zB,zC,zD,zE,zF,zG]
      refine n_want rfl (n_val (r_move) (n_want rfl ?_))
      simp only [zA,zB,zC,zD,zE,zF,zG]
      refine mcallP m rfl rfl (contains_c (a:=askR r F (List.replicate F.length 0)) (h:=firstN r F.flatten) hna9 (exact_all r).2 (bq_ask hfn.eachIt zero_i64).1 (bq_ask hfn.eachIt zero_i64).2 (bq_first hfn.it)) ?_
      clear m; intro u m
      refine n_val (r_pickT rfl) (n_val (r_assign) (n_nil (k8 _ _ ?_)))
      try clear k8 K8
      refine wp_ret ?_
      simp only [zA,zB,zC,zD,zE,zF,zG]
      try simp only [Exit.inBlock,Exit.then,if_true]
      refine fin1 rfl rfl ?_
      try simp only [zD,zE]
      exact ⟨_,rfl,m.ext,rfl⟩
  · skip
    refine malloc m zero_39 rfl ?_
    clear m; intro g2 u m
    refine n_nil ?_
    refine ⟨m.sel [false,true,true,true],?_⟩
    refine t_one (by simp only [zS,zT,zU,zV]; rfl) ?_
    simp only [zA,zB,zC,zD,zE,zF,zG]
    refine n_make1 Tryz.underlying22 inf_3 rfl rfl rfl (Int.toNat_natCast _) (Int.toNat_natCast _) (by omega) (by omega) (by omega) (by omega) ?_
    intro u g3 e hg hB; replace m:=m.newB e hg hB; clear e hg hB
    refine n_nil ?_
    refine ⟨m.sel [false,false,true,true,true],?_⟩
    refine t_one (by simp only [zS,zT,zU,zV]; rfl) ?_
    simp only [zA,zB,zC,zD,zE,zF,zG]
    refine n_call rfl rfl (Ask_c (r:=r) (xs:=F) (bs:=(List.replicate F.length 0)) _ (m.lists hcov6 2 3 rfl rfl) (ints_zero (m.b 0 rfl)) (by omega) (by omega) hfn.big) ?_
    rintro v u e ⟨A9,n9,cap9,rfl,hna9,hN⟩; replace m:=m.newO e hN; clear e hN
    refine n_nil ?_
    refine ⟨m.sel [false,false,false,true,true,true],?_⟩
    refine t_one (by simp only [zS,zT,zU,zV]; rfl) ?_
    simp only [zA,zB,zC,zD,zE,zF,zG]
    refine mstoreA m 2 rfl rfl rfl cells_39 (leT rfl) rfl ?_
    clear m; intro u m; simp only [over,zH,zI,zJ,zK,zL,zM,zN,zO,zP,zF,zG,Nat.reduceAdd] at m
    refine n_nil ?_
    refine ⟨m.sel [false,false,false,true,true,true],?_⟩
    refine t_nil (k4 _ _ ?_)
    try clear k4 K4
    refine c_seq fun K9 k9=>wp_region_lit (n_load rfl ((m.b 5 rfl).full agg_28 cells_28) ?_)
    simp only [zA,zB,zC,zD,zE,zF,zG]
    refine mcall m rfl rfl (hit_c (kind:=kind) (bits:=bits) (r:=r) (zs:=zs) (ss:=ss) (hz:=hz) _ (hH.ext m.ext) (hZ.ext m.ext) (hP.ext m.ext) hq) ?_
    clear m; rintro v u m rfl
    simp only [zA,zB,zC,zD,zE,zF,zG]
    rw [← hF]
    refine n_val (r_move) (n_val (r_extract rfl rfl) (n_val (r_extract rfl rfl) ?_))
    simp only [zA,zB,zC,zD,zE,zF,zG]
    refine malloc m zero_43 rfl ?_
    clear m; intro g4 u m
    simp only [zA,zB,zC,zD,zE,zF,zG]
    refine mstoreA m 0 rfl rfl rfl cells_43 (leT rfl) rfl ?_
    clear m; intro u m; simp only [over,zH,zI,zJ,zK,zL,zM,zN,zO,zP,zF,zG,Nat.reduceAdd] at m
    refine n_val (r_assign) (n_nil (k9 _ _ ?_))
    try clear k9 K9
    refine c_seq fun K10 k10=>wp_region_lit (n_val (r_move) (n_val (r_move) (n_want rfl (n_val (r_fieldAddr (c:=0) Tryz.underlying39 rfl cells_3 rfl rfl) ?_))))
    simp only [zA,zB,zC,zD,zE,zF,zG]
    refine n_want rfl (n_load rfl ((m.b 3 rfl).lies1 agg_3 rfl) ?_)
    simp only [zA,zB,zC,zD,zE,zF,zG]
    refine n_want rfl (n_val (r_neqT rfl rfl (exact_all r).1) (n_val (r_pickT rfl) (n_val (r_move) (n_want rfl ?_))))
    simp only [zA,zB,zC,zD,zE,zF,zG]
    refine n_load rfl ((m.b 3 rfl).full agg_39 cells_39) ?_
    simp only [zA,zB,zC,zD,zE,zF,zG]
    refine n_want rfl (n_load rfl ((m.b 0 rfl).full agg_43 cells_43) ?_)
    simp only [zA,zB,zC,zD,zE,zF,zG]
    refine n_want rfl (n_val (r_move) (n_want rfl ?_))
    simp only [zA,zB,zC,zD,zE,zF,zG]
    refine mcallP m rfl rfl (contains_c (a:=askR r F (List.replicate F.length 0)) (h:=firstN r F.flatten) hna9 (exact_all r).2 (bq_ask hfn.eachIt zero_i64).1 (bq_ask hfn.eachIt zero_i64).2 (bq_first hfn.it)) ?_
    clear m; intro u m
    refine n_val (r_pickT rfl) (n_val (r_assign) (n_nil (k10 _ _ ?_)))
    try clear k10 K10
    refine wp_ret ?_
    simp only [zA,zB,zC,zD,zE,zF,zG]
    try simp only [Exit.inBlock,Exit.then,if_true]
    refine fin1 rfl rfl ?_
    try simp only [zD,zE]
    exact ⟨_,rfl,m.ext,rfl⟩
end Go.Proofs.YtimjandkmfcmiaaGreatDoor
namespace Go.Proofs.YtimjandkmfcmiaaGreatDoor.traceExact
open Go.ChangeShapes Go.WideShapes Go.ChangeAt Go.RowKit Go.Lith
set_option maxRecDepth 100000
theorem own : ownKnob Tryz.prog.godebug = none:=by kernel_rfl
theorem laidOut : laidOutB Tryz.prog = true:=by kernel_rfl
theorem contract (H : Type) (enc : TypeId × Value → H) (W : World) (base : Nat) (args : Array Value) (ds gs : List (DataW H)) (before : List MemPlace)
    (hval : ∀ (j : Nat) t v,Tryz.f5.params[j]? = some t → args[j]? = some v → Value.okWide Tryz.prog W .any base t v)
    (hW : DataW.Whole enc Tryz.prog Tryz.f5.params.toList Rows.traceExactSpec.vars false W args.toList ds gs before) :
    Calls Tryz.prog 5 args W fun e W'=>∃ v,e = .returned v ∧ Rows.traceExactSpec.post enc Tryz.prog Tryz.f5 false true false false W args v W':=by
  have hW':=hW
  obtain ⟨p,q,hA,hV,rfl,hfz,hnd⟩:=hW
  rw [Tryz.params5] at hA hval
  obtain ⟨v0,vs0,d0,ds0,p0,q0,e0,rfl,rfl,h0,r0⟩:=trodAll_cons hA
  obtain ⟨rfl,rfl,rfl⟩:=trodAll_nil r0
  obtain rfl : args = #[v0]:=by cases args; simp_all
  obtain ⟨rfl,rfl⟩:=trodVars_none hV
  obtain ⟨kind,bits,q,r,HA,ZA,PA,HN,Hc,ZN,Zc,PN,Pc,hz,zs,ss,rfl,i0,i1,i2,hH,hZ,hP,hq⟩:=open_scene (n:=5) (tI:=3) (tH:=22) (tB:=5) (tR:=25) (tS:=26) (tP:=56) Tryz.underlying28 (by kernel_rfl) (by kernel_rfl) (by kernel_rfl) (by kernel_rfl) Tryz.underlying22 (by kernel_rfl) Tryz.underlying5 (by kernel_rfl) (by kernel_rfl) (by kernel_rfl) Tryz.underlying26 (by kernel_rfl) (by kernel_rfl) (by kernel_rfl) (hval 0 28 v0 rfl rfl) h0
  refine (TraceExact_c W hH hZ hP hq).2.mono ?_
  rintro e W' ⟨v,rfl,hE,rfl⟩
  exact ⟨_,rfl,post_of_ext laidOut (by kernel_rfl) rfl rfl Tryz.underlying4 hW' ⟨rfl,rfl,rfl⟩ hE⟩
def accepts : List Value:=[128,191,160,191,128,159,144,191,128,143,0,0,0,0,0,0,0,0,0,0,0,0,0,0,0,0,0,0,0,0,0,0].map fun n=>.int .u8 n
def firsts : List Value:=Go.Pinned.utf8FirstZ.map fun (n : Nat)=>Value.int .u8 (n : Int)
def relaid (cs : List Value) : Obj → Obj
  | .cells _ t frozen=>.cells cs.toArray t frozen
  | o=>o
noncomputable def laidWorld (os : Os) : World :=
  { World.holding Tryz.prog os ⟨#[],#[],[]⟩ with heap:=((World.holding Tryz.prog os ⟨#[],#[],[]⟩).heap.modify 0 (relaid firsts)).modify 1 (relaid accepts) }
def inp : Array Value:=#[.agg #[.int .i64 0,.int .i64 0,.slice none 0 0,.int .u8 0,.slice none 0 0,.int .i64 0,.int .i64 0,.int .i64 0,.int .i64 0,.int .i64 0,.int .i64 0,.int .i64 0,.slice none 0 0]]
theorem laid_met (os : Os) : laidMet Tryz.prog Rows.traceExactRow.laid ((laidWorld os).forCall (fun _ _=>0) ⟨#[],inp,[]⟩).memory :=
  laidMet_of_run' 8 (by kernel_rfl) (by kernel_rfl)
theorem reads (os : Os) {H : Type} (enc : TypeId × Value → H) : ∃ places,DataW.whole enc Tryz.prog ((laidWorld os).forCall (fun _ _=>0) ⟨#[],inp,[]⟩).memory Tryz.f5.params.toList Rows.traceExactSpec.vars false inp.toList 8 = some ([.agg [.lit (.int .i64 0),.lit (.int .i64 0),.nil,.lit (.int .u8 0),.nil,.agg [.lit (.int .i64 0),.lit (.int .i64 0),.lit (.int .i64 0),.lit (.int .i64 0),.agg [.lit (.int .i64 0),.lit (.int .i64 0),.lit (.int .i64 0)]],.nil]],[],places) :=
  ⟨[],by kernel_rfl⟩
theorem lifted (os : Os) (started : os.Started) (H : Type) (enc : TypeId × Value → H) (F : Stop.Interp) :
    ReturnsInHanded {} Tryz.checked os 5 .any ((OpenSpec.ofChange Rows.traceExactSpec).preRow enc Tryz.prog Tryz.f5 Rows.traceExactRow.domain false Rows.traceExactRow.laid) (((OpenSpec.ofChange Rows.traceExactSpec).at F).post enc Tryz.prog Tryz.f5 false true false false):=by
  obtain ⟨places,hx⟩:=reads os enc
  refine returnsInHanded_of_row (C:=Tryz.checked) (s:=OpenSpec.ofChange Rows.traceExactSpec) own started (by kernel_rfl) Tryz.func5
    (witness_row_at (enc:=enc) (C:=Tryz.checked) false (laidWorld os) inp rfl (by kernel_rfl) (by kernel_rfl) (by kernel_rfl)
      (OpenSpec.preRow_of_cond 8 hx (by kernel_rfl) (fun k hk=>by cases hk) (by kernel_rfl) (laid_met os))) ?_
  intro W base args ds gs before hval hW _ _ _ hL _ _
  exact contract H enc W base args ds gs before hval hW
theorem said : Rows.TraceExactSaid :=
  OpenClaim.holds_of_cond 5 Tryz.f5 rfl rfl rfl rfl rfl rfl rfl ⟨rfl,rfl,rfl,rfl,rfl⟩ rfl rfl rfl rfl rfl (by kernel_rfl) Tryz.func5 (by kernel_rfl)
    (of_decide_eq_true (by kernel_rfl)) (by unfold Func.isWrapper; first | (rw [if_pos (by decide +kernel)]; kernel_rfl) | (rw [if_neg (by decide +kernel)]; exact ⟨rfl,rfl⟩))
    (fun os started H enc _ F=>by rw [OpenClaim.pre_eq_preRow]; exact lifted os started H enc F)
theorem plain (f : FuncId) (fn : Func) (hf : Tryz.pinned.checked.prog.funcNamed Rows.traceExactRow.func = some f) (hfn : Tryz.pinned.checked.prog.funcs[f]? = some fn) :
    true = Tryz.pinned.checked.prog.looks [] ∧ ∀ (j : Nat) t,fn.params[j]? = some t → Tryz.pinned.checked.prog.wantsStandIn t = false:=by
  obtain rfl : f = 5:=Option.some.inj ((show Tryz.prog.funcNamed Rows.traceExactRow.func = some 5 by kernel_rfl).symm.trans hf) |>.symm
  obtain rfl : fn = Tryz.f5:=(Option.some.inj (Tryz.func5.symm.trans hfn)).symm
  refine ⟨by kernel_rfl,fun j t ht=>?_⟩
  rw [Tryz.params5] at ht
  have hm : t ∈ [28]:=by simpa using Array.mem_of_getElem? ht
  have hall : ([28].all fun u=>!Tryz.prog.wantsStandIn u) = true:=by kernel_rfl
  exact (show Tryz.prog.wantsStandIn t = false by simpa using List.all_eq_true.1 hall t hm)
theorem card : Rows.TraceExactCardSaid :=
  Claim7.holds_tied_plain_at .later [] _ _ _ _ said (fun _ h=>by cases h) (by kernel_rfl) (fun _ h=>by cases h) traceExact_row_tie rfl ⟨rfl,rfl⟩ (by kernel_rfl) rfl plain (by kernel_rfl)
end Go.Proofs.YtimjandkmfcmiaaGreatDoor.traceExact
