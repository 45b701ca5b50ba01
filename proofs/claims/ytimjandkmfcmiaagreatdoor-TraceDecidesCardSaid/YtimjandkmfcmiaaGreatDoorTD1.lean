/-
  Texts of one claim, laid together: RayD, JoinTraceDecides.
-/
import Derived.Test.YtimjandkmfcmiaaGreatDoorCards
import Derived.Test.YtimjandkmfcmiaaGreatDoorTie
import Derived.Deep.DeepHandedRow
import Derived.Lib.LaidTab
import Derived.Test.YtimjandkmfcmiaaGreatDoorB7
set_option maxHeartbeats 8000000
set_option linter.unusedSimpArgs false
set_option linter.unusedVariables false
set_option linter.unusedSectionVars false
namespace Go.Proofs.YtimjandkmfcmiaaGreatDoor
open Go.RowKit Go.Lith
set_option maxRecDepth 100000
attribute [local irreducible] wpList wpQuiet wpMix wpMixH wpTree Code.wp
theorem Repl.zero {bs : List Int} {fine xs : List (List T3)} : Repl [] bs bs fine xs xs:=⟨rfl,fun i h=>(by cases h),fun i _=>⟨rfl,rfl⟩⟩
theorem bnd_set {bs : List Int} {j : Nat} (h : j < bs.length) : bndAt (bs.set j 0) j = 0:=by
  rw [bndAt,List.getElem?_set_self h]; rfl
theorem bnd_ne {bs : List Int} {j k : Nat} (h : j ≠ k) : bndAt (bs.set j 0) k = bndAt bs k:=by
  rw [bndAt,List.getElem?_set_ne h]; rfl
theorem Repl.step {os bs bs' : List Int} {fine xs xs' : List (List T3)} {i j : Nat} {l : List T3} (p : Repl (os.take i) bs bs' fine xs xs') (hi : os[i]? = some (j : Int)) (hl : fine[j]? = some l) (h1 : j < xs'.length) (h2 : j < bs'.length) :
    Repl (os.take (i + 1)) bs (bs'.set j 0) fine xs (xs'.set j l):=by
  rw [take_one' hi]
  refine ⟨by rw [List.length_set]; exact p.len,fun k hk=>?_,fun k hk=>?_⟩
  · by_cases e : j = k
    · subst e
      exact ⟨by rw [List.getElem?_set_self h1,hl],bnd_set h2⟩
    · have hk' : (k : Int) ∈ os.take i:=by
        rcases List.mem_append.1 hk with h | h
        · exact h
        · have:=List.mem_singleton.1 h; omega
      rw [List.getElem?_set_ne e,bnd_ne e]
      exact p.on k hk'
  · have hk' : (k : Int) ∉ os.take i:=fun h=>hk (List.mem_append_left _ h)
    have e : j ≠ k:=fun e=>hk (List.mem_append_right _ (by rw [e]; exact List.mem_singleton.2 rfl))
    rw [List.getElem?_set_ne e,bnd_ne e]
    exact p.off k hk'
theorem over_int {bs : List Int} {j : Nat} {z : Int} (h : j < bs.length) : over (bs.map (Value.int .i64 ·)) j [.int .i64 z] = (bs.set j z).map (Value.int .i64 ·):=by
  apply List.ext_getElem?
  intro k
  unfold over
  rw [List.getElem?_map,List.getElem?_set,List.append_assoc]
  rcases Nat.lt_trichotomy k j with hj | hj | hj
  · rw [List.getElem?_append_left (by rw [List.length_take,List.length_map]; omega),List.getElem?_take_of_lt hj,List.getElem?_map,if_neg (by omega)]
  · subst hj
    rw [List.getElem?_append_right (by rw [List.length_take]; omega),List.length_take,List.length_map,Nat.min_eq_left (by omega),Nat.sub_self,if_pos rfl,if_pos h]
    rfl
  · rw [List.getElem?_append_right (by rw [List.length_take,List.length_map]; omega),List.length_take,List.length_map,Nat.min_eq_left (by omega),if_neg (by omega),List.getElem?_append_right (by simp; omega),List.getElem?_drop,List.getElem?_map]
    congr 2
    simp
    omega
theorem not_before {os : List Int} {i : Nat} {z : Int} (hp : os.Pairwise (· < ·)) (hz : os[i]? = some z) : z ∉ os.take i:=fun h=>by
  obtain ⟨k,hk⟩:=List.mem_iff_getElem?.1 h
  rw [List.getElem?_take] at hk
  split at hk
  · obtain ⟨h1,e1⟩:=List.getElem?_eq_some_iff.1 hk
    obtain ⟨h2,e2⟩:=List.getElem?_eq_some_iff.1 hz
    have:=List.pairwise_iff_getElem.1 hp k i h1 h2 (by assumption)
    omega
  · cases hk
theorem mem_set' {xs : List (List T3)} {j : Nat} {l : List T3} {P : List T3 → Prop} (h : ∀ x ∈ xs,P x) (hl : P l) : ∀ x ∈ xs.set j l,P x:=fun x hx=>by
  rcases List.mem_or_eq_of_mem_set hx with h' | rfl
  · exact h x h'
  · exact hl
theorem Fine.shown12 {F : List (List T3)} (f : Fine F) (ss : List P3) (bs : List Int) : ∀ l ∈ shownR ss bs F,l.length ≤ 12:=fun x hx=>by
  obtain ⟨i,l,hl,rfl⟩:=shown_mem hx
  exact Nat.le_trans shownAt_len (f.each l (List.mem_of_getElem? hl))
theorem Fine.eachIt' {F : List (List T3)} (f : Fine F) : ∀ l ∈ F,∀ t ∈ l,IT t:=fun l hl t ht=>f.it t (List.mem_flatten.2 ⟨l,hl,ht⟩)
theorem TraceDecides_c {kind bits : Int} [Iw kind] [Iw bits] {q : Nat} {r : Ray} [IR r] {HA ZA PA : Option Addr} {HN Hc ZN Zc PN Pc : Nat} {hz zs : List Int} {ss : List P3} (w : World) (hH : IntsAt w HA HN hz) (hZ : IntsAt w ZA ZN zs) (hP : LAt ptC 3 w PA PN ss) (hq : q < 256) : Does Tryz.prog 6 [.agg #[.int .i64 kind,.int .i64 bits,.slice HA HN Hc,.int .u8 (q : Int),.slice ZA ZN Zc,.int .i64 r.s.x,.int .i64 r.s.y,.int .i64 r.s.z,.int .i64 r.w,.int .i64 r.d.x,.int .i64 r.d.y,.int .i64 r.d.z,.slice PA PN Pc]] w (fun v _=>v = .bool true):=by
  refine ⟨en_6,?_⟩
  have m:=Mem.refl w
  go_enter Tryz.func6,Tryz.ntmps6
  refine c_seq fun K1 k1=>wp_region_lit (mboxA m rfl ?_)
  clear m; intro g1 u m
  refine n_val (r_assign) (n_nil (k1 _ _ ?_))
  try clear k1 K1
  refine c_seq fun K2 k2=>wp_region_lit ?_
  simp only [zA,zB,zC,zD,zE,zF,zG]
  refine mcallP m rfl rfl (sanity_c) ?_
  clear m; intro u m
  refine n_val (r_assign) (n_nil (k2 _ _ ?_))
  try clear k2 K2
  refine c_seq fun K3 k3=>wp_region_lit ?_
  simp only [zA,zB,zC,zD,zE,zF,zG]
  refine n_load rfl ((m.b 0 rfl).full agg_28 cells_28) ?_
  simp only [zA,zB,zC,zD,zE,zF,zG]
  refine n_call rfl rfl (shown_c (kind:=kind) (bits:=bits) (r:=r) (zs:=zs) (ss:=ss) (hz:=hz) _ (hH.ext m.ext) (hZ.ext m.ext) (hP.ext m.ext) hq) ?_
  rintro v u e ⟨A7,n7,cap7,hs,L,rfl,hn7,hM,hcov⟩; replace m:=m.plus hM; clear hM e; simp only [List.cons_append,List.nil_append] at m
  obtain ⟨F,hF⟩ : ∃ F,F = chunksR (1 + q % 12) 30 (baseT kind bits hz):=⟨_,rfl⟩
  have hfn : Fine F:=by rw [hF]; exact fine_chunks
  rw [← hF] at hcov
  have hcl:=hcov.len
  rw [shown_len] at hcl
  have e7 : n7 = F.length:=hn7.trans hcl
  subst e7
  have hfs:=hfn.shown ss (bsR F.length zs)
  have hfl:=hfn.len
  refine n_val (r_assign) (n_nil (k3 _ _ ?_))
  try clear k3 K3
  refine c_seq fun K4 k4=>wp_region_lit ?_
  simp only [zA,zB,zC,zD,zE,zF,zG]
  refine n_load rfl ((m.b 2 rfl).full agg_28 cells_28) ?_
  simp only [zA,zB,zC,zD,zE,zF,zG]
  refine n_val (r_move) (n_val (r_lenS rfl Tryz.underlying29 rfl) ?_)
  simp only [zA,zB,zC,zD,zE,zF,zG]
  refine n_call rfl rfl (bounds_c (n0:=F.length) (kind:=kind) (bits:=bits) (r:=r) (zs:=zs) (ss:=ss) (hz:=hz) _ (hH.ext m.ext) (hZ.ext m.ext) (hP.ext m.ext) hq hfl) ?_
  rintro v u e ⟨A8,cap8,rfl,hN⟩; replace m:=m.newO e hN; clear e hN
  refine n_val (r_assign) (n_nil (k4 _ _ ?_))
  try clear k4 K4
  refine c_seq fun K5 k5=>wp_region_lit ?_
  simp only [zA,zB,zC,zD,zE,zF,zG]
  refine n_load rfl ((m.b 3 rfl).full agg_28 cells_28) ?_
  simp only [zA,zB,zC,zD,zE,zF,zG]
  refine n_call rfl rfl (clusters_c (kind:=kind) (bits:=bits) (r:=r) (zs:=zs) (ss:=ss) (hz:=hz) _ (hH.ext m.ext) (hZ.ext m.ext) (hP.ext m.ext) hq) ?_
  rintro v u e ⟨A6,n6,cap6,hs6,L6,rfl,hn6,hM,hcov6⟩; replace m:=m.plus hM; clear hM e; simp only [List.cons_append,List.nil_append] at m
  rw [← hF] at hcov6
  have hcl6:=hcov6.len
  have e6 : n6 = F.length:=hn6.trans hcl6
  subst e6
  refine n_val (r_assign) (n_nil (k5 _ _ ?_))
  try clear k5 K5
  refine c_seq fun K6 k6=>?_
  simp only [zA,zB,zC,zD,zE,zF,zG]
  have hup:=ask_up r (shownR ss (bsR F.length zs) F) (bsR F.length zs)
  have hxl:=shown_len ss (bsR F.length zs) F
  replace m:=m.pull 1 rfl; simp only [E_zero,E_succ,zF,zG] at m
  replace m:=m.join 3 rfl; simp only [zF,zG] at m
  refine wp_region_lit (n_val (r_fieldAddr (c:=6) Tryz.underlying28 rfl cells_25 rfl rfl) ?_)
  simp only [zA,zB,zC,zD,zE,zF,zG]
  refine n_load rfl ((m.b 4 rfl).lies agg_25 cells_25 rfl rfl) ?_
  simp only [zA,zB,zC,zD,zE,zF,zG,zH,zI,zJ,zK,Nat.zero_add,Nat.reduceAdd,Nat.reduceMul,Int.reduceToNat]
  refine n_val (r_move) (n_val (r_move) ?_)
  simp only [zA,zB,zC,zD,zE,zF,zG]
  refine n_call rfl rfl (Ask_c (r:=r) (xs:=(shownR ss (bsR F.length zs) F)) (bs:=(bsR F.length zs)) _ (m.lists (hcov.mono (fun e he=>List.mem_append_right _ he)) 2 3 rfl rfl) (ints_ow (m.o 1 rfl) bs_i64) (by omega) (by omega) hfs.2.1) ?_
  rintro v u e ⟨A9,n9,cap9,rfl,hna9,hN⟩; replace m:=m.newO e hN; clear e hN
  simp only [zA,zB,zC,zD,zE,zF,zG]
  refine malloc m zero_39 rfl ?_
  clear m; intro g2 u m
  simp only [zA,zB,zC,zD,zE,zF,zG]
  refine mstoreA m 0 rfl rfl rfl cells_39 (leT rfl) rfl ?_
  clear m; intro u m; simp only [over,zH,zI,zJ,zK,zL,zM,zN,zO,zP,zF,zG,Nat.reduceAdd] at m
  refine n_nil (k6 _ _ ?_)
  try clear k6 K6
  refine c_seq fun K7 k7=>c_seq fun K8 k8=>?_
  replace hcov:=hcov.mono (L':=L6 ++ L) (fun e he=>List.mem_append_right _ he)
  replace hcov6:=hcov6.mono (L':=L6 ++ L) (fun e he=>List.mem_append_left _ he)
  have hnn9 : n9 ≤ 1000000 ∨ True:=.inr trivial
  refine wp_region_lit (n_val (r_assign) (n_nil (k8 _ _ ?_)))
  try clear k8 K8
  refine wp_block ?_
  simp only [zA,zB,zC,zD,zE,zF,zG]
  try simp only [Nat.zero_add,Nat.reduceAdd,Nat.reduceMul,Int.reduceToNat]
  refine c_loopg [8] [2,9,27,28,29,30,31,32,33,34,35,36,37,38,39,40,41,42,43,44,45,46,47,48,49,50,51,52,53,54,55,56,57,58,59,60,61,62,63] (fun n vs wl=>∃ (i : Nat) (hs' : List Hd) (xs' : List (List T3)) (bs' : List Int),vs = [.int .i64 (i:Int)] ∧ Mem w wl [bI g2 [.int .i64 (askR r (shownR ss (bsR F.length zs) F) (bsR F.length zs)).kind,.bool (wneg ((askR r (shownR ss (bsR F.length zs) F) (bsR F.length zs)).lo).num),.string (wmag ((askR r (shownR ss (bsR F.length zs) F) (bsR F.length zs)).lo).num),.bool (wneg (((askR r (shownR ss (bsR F.length zs) F) (bsR F.length zs)).lo).den : Int)),.string (wmag (((askR r (shownR ss (bsR F.length zs) F) (bsR F.length zs)).lo).den : Int)),.bool (wneg ((askR r (shownR ss (bsR F.length zs) F) (bsR F.length zs)).hi).num),.string (wmag ((askR r (shownR ss (bsR F.length zs) F) (bsR F.length zs)).hi).num),.bool (wneg (((askR r (shownR ss (bsR F.length zs) F) (bsR F.length zs)).hi).den : Int)),.string (wmag (((askR r (shownR ss (bsR F.length zs) F) (bsR F.length zs)).hi).den : Int)),.bool (askR r (shownR ss (bsR F.length zs) F) (bsR F.length zs)).sure,.slice A9 n9 cap9] 39,oI 3 1 A9 n9 cap9 ((askR r (shownR ss (bsR F.length zs) F) (bsR F.length zs)).opn.map (Value.int .i64 ·)),oI 48 1 A6 F.length cap6 (hs6.map Hd.v),oI 3 1 A8 F.length cap8 (bs'.map (Value.int .i64 ·)),oI 48 1 A7 F.length cap7 (hs'.map Hd.v),rowsI (L6 ++ L),bI g1 [.int .i64 kind,.int .i64 bits,.slice HA HN Hc,.int .u8 (q : Int),.slice ZA ZN Zc,.int .i64 r.s.x,.int .i64 r.s.y,.int .i64 r.s.z,.int .i64 r.w,.int .i64 r.d.x,.int .i64 r.d.y,.int .i64 r.d.z,.slice PA PN Pc] 28] ∧ (Cov (L6 ++ L) hs' xs') ∧ (Repl ((askR r (shownR ss (bsR F.length zs) F) (bsR F.length zs)).opn.take i) (bsR F.length zs) bs' F (shownR ss (bsR F.length zs) F) xs') ∧ (∀ z ∈ bs',I64 z) ∧ (∀ l ∈ xs',l.length ≤ 12) ∧ (∀ l ∈ xs',∀ t ∈ l,IT t) ∧ (hs'.length = F.length ∧ xs'.length = F.length ∧ bs'.length = F.length) ∧ (i ≤ n9) ∧ (n = n9 - i)) ?_ ?_
  · skip
    apply Exists.intro
    simp only [zQ,zR,zD,zE]
    exact ⟨0,_,_,_,rfl,m,hcov,Repl.zero,bs_i64,hfn.shown12 ss _,hfn.shownIt ss zs,⟨by rw [hcov.len,shown_len],shown_len ..,bsR_len ..⟩,Nat.zero_le _,rfl⟩
  · intro n vs wr hI u
    clear m
    obtain ⟨i,hs',xs',bs',rfl,m,hcv,hrep,hbi,hx12,hxit,hlens,hi,hn⟩:=hI
    simp only [setG_cons,setG_nil,setMany_cons,setMany_nil,zF,zG]
    refine c_seq fun K9 k9=>c_seq fun K10 k10=>wp_region_lit (n_val (r_move) (n_val (r_fieldAddr (c:=0) Tryz.underlying39 rfl cells_22 rfl rfl) ?_))
    simp only [zA,zB,zC,zD,zE,zF,zG]
    refine n_load rfl ((m.b 0 rfl).lies1 agg_22 rfl) ?_
    simp only [zA,zB,zC,zD,zE,zF,zG]
    refine n_val (r_lenS rfl Tryz.underlying22 rfl) (n_val (r_lss rfl rfl) (n_nil (k10 _ _ ?_)))
    try clear k10 K10
    simp only [zA,zB,zC,zD,zE,zF,zG]
    refine c_if rfl (fun hc1=>?_) (fun hc1=>?_)
    · skip
      have h9le:=(m.o 1 rfl).le
      have h9max:=(m.o 1 rfl).max
      obtain ⟨g9,rfl⟩:=(m.o 1 rfl).some (by omega)
      obtain ⟨z,hz⟩ : ∃ z,(askR r (shownR ss (bsR F.length zs) F) (bsR F.length zs)).opn[i]? = some z:=⟨_,List.getElem?_eq_getElem (by omega)⟩
      obtain ⟨j,rfl,hjl,hj0⟩:=open_ne (List.mem_of_getElem? hz)
      rw [shown_len] at hjl
      obtain ⟨g7,rfl⟩:=(m.o 4 rfl).some (by omega)
      obtain ⟨g8,rfl⟩:=(m.o 3 rfl).some (by omega)
      obtain ⟨g6,rfl⟩:=(m.o 2 rfl).some (by omega)
      have hz2 : ((askR r (shownR ss (bsR F.length zs) F) (bsR F.length zs)).opn.map (Value.int .i64 ·))[i]? = some (.int .i64 (j : Int)):=by rw [List.getElem?_map,hz]; rfl
      have hoff:=hrep.off j (not_before hup.1 hz)
      obtain ⟨y,hy⟩ : ∃ y,bs'[j]? = some y:=⟨_,List.getElem?_eq_getElem (by omega)⟩
      have hb0 : ¬ y = 0:=fun e=>hj0 (by rw [← hoff.2,bndAt,hy,e]; rfl)
      have hy2 : (bs'.map (Value.int .i64 ·))[j]? = some (.int .i64 y):=by rw [List.getElem?_map,hy]; rfl
      obtain ⟨l,hl⟩ : ∃ l,F[j]? = some l:=⟨_,List.getElem?_eq_getElem hjl⟩
      obtain ⟨⟨HB,Hn,Hcp⟩,hh⟩ : ∃ h,hs6[j]? = some h:=⟨_,List.getElem?_eq_getElem (by omega)⟩
      have hh2 : (hs6.map Hd.v)[j]? = some (.slice HB Hn Hcp):=by rw [List.getElem?_map,hh]; rfl
      have hlm:=List.mem_of_getElem? hl
      refine wp_skip (k9 _ _ ?_)
      try clear k9 K9
      refine c_seq fun K11 k11=>wp_block (c_seq fun K12 k12=>wp_region_lit (n_val (r_fieldAddr (c:=0) Tryz.underlying39 rfl cells_22 rfl rfl) ?_))
      simp only [zA,zB,zC,zD,zE,zF,zG]
      refine n_load rfl ((m.b 0 rfl).lies1 agg_22 rfl) ?_
      simp only [zA,zB,zC,zD,zE,zF,zG]
      refine n_val (r_move) ?_
      simp only [zA,zB,zC,zD,zE,zF,zG]
      refine n_val (r_indexAddrS Tryz.underlying22 cells_3 rfl rfl (by omega) (by omega) (addr1 (Int.toNat_natCast _))) ?_
      simp only [zA,zB,zC,zD,zE,zF,zG]
      refine n_load rfl (Lith.lies1 ((m.o 1 rfl).rows i _ hz2) agg_3) ?_
      simp only [zA,zB,zC,zD,zE,zF,zG]
      refine n_val (r_assign) (n_nil (k12 _ _ ?_))
      try clear k12 K12
      refine c_seq fun K13 k13=>c_seq fun K14 k14=>wp_region_lit (n_val (r_move) ?_)
      simp only [zA,zB,zC,zD,zE,zF,zG]
      refine n_val (r_lssF rfl rfl (by omega)) (n_val (r_move) (n_want rfl (n_val (r_move) (n_want rfl (n_val (r_move) ?_)))))
      simp only [zA,zB,zC,zD,zE,zF,zG]
      refine n_want rfl (n_val (r_lenS rfl Tryz.underlying29 rfl) (n_want rfl ?_))
      simp only [zA,zB,zC,zD,zE,zF,zG]
      refine n_val (r_geqF rfl rfl (by omega)) (n_val (r_pickF rfl) (n_val (r_move) (n_want rfl (n_val (r_move) ?_))))
      simp only [zA,zB,zC,zD,zE,zF,zG]
      refine n_want rfl (n_val (r_move) (n_want rfl ?_))
      simp only [zA,zB,zC,zD,zE,zF,zG]
      refine n_val (r_indexAddrS Tryz.underlying22 cells_3 rfl rfl (by omega) (by omega) (addr1 (Int.toNat_natCast _))) (n_want rfl ?_)
      simp only [zA,zB,zC,zD,zE,zF,zG]
      refine n_load rfl (Lith.lies1 ((m.o 3 rfl).rows j _ hy2) agg_3) ?_
      simp only [zA,zB,zC,zD,zE,zF,zG]
      refine n_want rfl (n_val (r_eqlF rfl rfl (hb0)) (n_val (r_pickF rfl) (n_nil (k14 _ _ ?_))))
      try clear k14 K14
      refine c_no rfl (wp_skip (k13 _ _ ?_))
      try clear k13 K13
      refine c_seq fun K15 k15=>wp_region_lit (n_val (r_move) (n_val (r_move) ?_))
      simp only [zA,zB,zC,zD,zE,zF,zG]
      refine n_val (r_move) (n_val (r_move) ?_)
      simp only [zA,zB,zC,zD,zE,zF,zG]
      refine n_val (r_indexAddrS Tryz.underlying29 cells_48 rfl rfl (by omega) (by omega) (addr1 (Int.toNat_natCast _))) ?_
      simp only [zA,zB,zC,zD,zE,zF,zG]
      refine n_load rfl (Lith.lies1 ((m.o 2 rfl).rows j _ hh2) agg_48) ?_
      simp only [zA,zB,zC,zD,zE,zF,zG]
      refine n_val (r_indexAddrS Tryz.underlying29 cells_48 rfl rfl (by omega) (by omega) (addrB1 (Int.toNat_natCast _))) ?_
      simp only [zA,zB,zC,zD,zE,zF,zG]
      refine mstoreO m 4 rfl rfl rfl cells_48 (by simp; omega) rfl ?_
      clear m; intro u m; simp only [zF,zG] at m
      simp only [zA,zB,zC,zD,zE,zF,zG] at m
      rw [show ([.slice HB Hn Hcp] : List Go.Value) = [Hd.v ⟨HB,Hn,Hcp⟩] from rfl,over_hd (by omega)] at m
      refine n_nil (k15 _ _ ?_)
      try clear k15 K15
      refine wp_region_lit (n_val (r_move) (n_val (r_move) ?_))
      simp only [zA,zB,zC,zD,zE,zF,zG]
      refine n_val (r_indexAddrS Tryz.underlying22 cells_3 rfl rfl (by omega) (by omega) (addrB1 (Int.toNat_natCast _))) ?_
      simp only [zA,zB,zC,zD,zE,zF,zG]
      refine mstoreO m 3 rfl rfl rfl cells_3 (by simp; omega) rfl ?_
      clear m; intro u m; simp only [zF,zG] at m
      simp only [zA,zB,zC,zD,zE,zF,zG] at m
      rw [over_int (by omega)] at m
      refine n_nil (k11 _ _ ?_)
      try clear k11 K11
      refine wp_region_lit (n_val (r_move) ?_)
      simp only [zA,zB,zC,zD,zE,zF,zG]
      refine n_val (r_add rfl rfl (wrap_i64 (by omega) (by omega))) (n_val (r_assign) (n_nil ?_))
      simp only [zA,zB,zC,zD,zE,zF,zG]
      simp only [Exit.inBlock,Exit.then]
      refine ⟨n9 - (i + 1),_,?_,rfl,?_,?_⟩
      · omega
      · simp only [zQ,zR,zD,zE,setG_cons,setG_nil,setMany_cons,setMany_nil,zF,zG]
      · simp only [zQ,zR,zD,zE]
        exact ⟨i + 1,hs'.set j ⟨HB,Hn,Hcp⟩,xs'.set j l,bs'.set j 0,rfl,m,hcv.set (hcov6.at_ j _ l hh hl),Repl.step hrep hz hl (by omega) (by omega),fun z hz=>by rcases List.mem_or_eq_of_mem_set hz with h | rfl; exact hbi z h; exact ⟨by decide,by decide⟩,mem_set' hx12 (hfn.each l hlm),mem_set' hxit (hfn.eachIt' l hlm),⟨by rw [List.length_set]; exact hlens.1,by rw [List.length_set]; exact hlens.2.1,by rw [List.length_set]; exact hlens.2.2⟩,by omega,rfl⟩
    · skip
      have hie : (askR r (shownR ss (bsR F.length zs) F) (bsR F.length zs)).opn.take i = (askR r (shownR ss (bsR F.length zs) F) (bsR F.length zs)).opn:=List.take_of_length_le (by omega)
      rw [hie] at hrep
      refine wp_exit (k7 _ _ ?_)
      try clear k7 K7
      refine c_seq fun K16 k16=>wp_region_lit (n_val (r_fieldAddr (c:=6) Tryz.underlying28 rfl cells_25 rfl rfl) ?_)
      simp only [zA,zB,zC,zD,zE,zF,zG]
      refine n_load rfl ((m.b 6 rfl).lies agg_25 cells_25 rfl rfl) ?_
      simp only [zA,zB,zC,zD,zE,zF,zG,zH,zI,zJ,zK,Nat.zero_add,Nat.reduceAdd,Nat.reduceMul,Int.reduceToNat]
      refine n_val (r_move) (n_val (r_move) ?_)
      simp only [zA,zB,zC,zD,zE,zF,zG]
      refine n_call rfl rfl (Ask_c (r:=r) (xs:=xs') (bs:=bs') _ (m.lists hcv 4 5 rfl rfl) (ints_ow (m.o 3 rfl) hbi) (by omega) (by have:=flatten_le hx12; omega) (fun l hl=>Nat.le_trans (hx12 l hl) (by decide))) ?_
      rintro v u e ⟨A3,n3,cap3,rfl,hna3,hN⟩; replace m:=m.newO e hN; clear e hN
      simp only [zA,zB,zC,zD,zE,zF,zG]
      refine malloc m zero_39 rfl ?_
      clear m; intro g3 u m
      simp only [zA,zB,zC,zD,zE,zF,zG]
      refine mstoreA m 0 rfl rfl rfl cells_39 (leT rfl) rfl ?_
      clear m; intro u m; simp only [over,zH,zI,zJ,zK,zL,zM,zN,zO,zP,zF,zG,Nat.reduceAdd] at m
      refine n_nil (k16 _ _ ?_)
      try clear k16 K16
      refine c_seq fun K17 k17=>wp_region_lit (n_load rfl ((m.b 8 rfl).full agg_28 cells_28) ?_)
      simp only [zA,zB,zC,zD,zE,zF,zG]
      refine mcall m rfl rfl (hit_c (kind:=kind) (bits:=bits) (r:=r) (zs:=zs) (ss:=ss) (hz:=hz) _ (hH.ext m.ext) (hZ.ext m.ext) (hP.ext m.ext) hq) ?_
      clear m; rintro v u m rfl
      simp only [zA,zB,zC,zD,zE,zF,zG]
      rw [← hF]
      refine n_val (r_move) (n_val (r_extract rfl rfl) (n_val (r_extract rfl rfl) ?_))
      simp only [zA,zB,zC,zD,zE,zF,zG]
      refine malloc m zero_43 rfl ?_
      clear m; intro g4 u m
      simp only [zA,zB,zC,zD,zE,zF,zG]
      refine mstoreA m 0 rfl rfl rfl cells_43 (leT rfl) rfl ?_
      clear m; intro u m; simp only [over,zH,zI,zJ,zK,zL,zM,zN,zO,zP,zF,zG,Nat.reduceAdd] at m
      refine n_val (r_assign) (n_nil (k17 _ _ ?_))
      try clear k17 K17
      refine c_seq fun K18 k18=>wp_region_lit (n_val (r_move) (n_val (r_move) (n_want rfl (n_val (r_fieldAddr (c:=0) Tryz.underlying39 rfl cells_3 rfl rfl) ?_))))
      simp only [zA,zB,zC,zD,zE,zF,zG]
      refine n_want rfl (n_load rfl ((m.b 1 rfl).lies1 agg_3 rfl) ?_)
      simp only [zA,zB,zC,zD,zE,zF,zG]
      refine n_want rfl (n_val (r_neqT rfl rfl (Repl.done hrep)) (n_val (r_pickT rfl) (n_val (r_move) (n_want rfl ?_))))
      simp only [zA,zB,zC,zD,zE,zF,zG]
      refine n_load rfl ((m.b 1 rfl).full agg_39 cells_39) ?_
      simp only [zA,zB,zC,zD,zE,zF,zG]
      refine n_want rfl (n_load rfl ((m.b 0 rfl).full agg_43 cells_43) ?_)
      simp only [zA,zB,zC,zD,zE,zF,zG]
      refine n_want rfl (n_val (r_move) (n_want rfl ?_))
      simp only [zA,zB,zC,zD,zE,zF,zG]
      refine mcallP m rfl rfl (contains_c (a:=askR r xs' bs') (h:=firstN r F.flatten) hna3 ((hrep.shows (shows bnd_le)).right r) (bq_ask hxit hbi).1 (bq_ask hxit hbi).2 (bq_first hfn.it)) ?_
      clear m; intro u m
      refine n_val (r_pickT rfl) (n_val (r_assign) (n_nil (k18 _ _ ?_)))
      try clear k18 K18
      refine wp_ret ?_
      simp only [zA,zB,zC,zD,zE,zF,zG]
      try simp only [Exit.inBlock,Exit.then,if_true]
      refine fin1 rfl rfl ?_
      try simp only [zD,zE]
      exact ⟨_,rfl,m.ext,rfl⟩
end Go.Proofs.YtimjandkmfcmiaaGreatDoor
namespace Go.Proofs.YtimjandkmfcmiaaGreatDoor.traceDecides
open Go.ChangeShapes Go.WideShapes Go.ChangeAt Go.RowKit Go.Lith
set_option maxRecDepth 100000
theorem own : ownKnob Tryz.prog.godebug = none:=by kernel_rfl
theorem laidOut : laidOutB Tryz.prog = true:=by kernel_rfl
theorem contract (H : Type) (enc : TypeId × Value → H) (W : World) (base : Nat) (args : Array Value) (ds gs : List (DataW H)) (before : List MemPlace)
    (hval : ∀ (j : Nat) t v,Tryz.f6.params[j]? = some t → args[j]? = some v → Value.okWide Tryz.prog W .any base t v)
    (hW : DataW.Whole enc Tryz.prog Tryz.f6.params.toList Rows.traceDecidesSpec.vars false W args.toList ds gs before) :
    Calls Tryz.prog 6 args W fun e W'=>∃ v,e = .returned v ∧ Rows.traceDecidesSpec.post enc Tryz.prog Tryz.f6 false true false false W args v W':=by
  have hW':=hW
  obtain ⟨p,q,hA,hV,rfl,hfz,hnd⟩:=hW
  rw [Tryz.params6] at hA hval
  obtain ⟨v0,vs0,d0,ds0,p0,q0,e0,rfl,rfl,h0,r0⟩:=trodAll_cons hA
  obtain ⟨rfl,rfl,rfl⟩:=trodAll_nil r0
  obtain rfl : args = #[v0]:=by cases args; simp_all
  obtain ⟨rfl,rfl⟩:=trodVars_none hV
  obtain ⟨kind,bits,q,r,HA,ZA,PA,HN,Hc,ZN,Zc,PN,Pc,hz,zs,ss,rfl,i0,i1,i2,hH,hZ,hP,hq⟩:=open_scene (n:=5) (tI:=3) (tH:=22) (tB:=5) (tR:=25) (tS:=26) (tP:=56) Tryz.underlying28 (by kernel_rfl) (by kernel_rfl) (by kernel_rfl) (by kernel_rfl) Tryz.underlying22 (by kernel_rfl) Tryz.underlying5 (by kernel_rfl) (by kernel_rfl) (by kernel_rfl) Tryz.underlying26 (by kernel_rfl) (by kernel_rfl) (by kernel_rfl) (hval 0 28 v0 rfl rfl) h0
  refine (TraceDecides_c W hH hZ hP hq).2.mono ?_
  rintro e W' ⟨v,rfl,hE,rfl⟩
  exact ⟨_,rfl,post_of_ext laidOut (by kernel_rfl) rfl rfl Tryz.underlying4 hW' ⟨rfl,rfl,rfl⟩ hE⟩
def accepts : List Value:=[128,191,160,191,128,159,144,191,128,143,0,0,0,0,0,0,0,0,0,0,0,0,0,0,0,0,0,0,0,0,0,0].map fun n=>.int .u8 n
def firsts : List Value:=Go.Pinned.utf8FirstZ.map fun (n : Nat)=>Value.int .u8 (n : Int)
def relaid (cs : List Value) : Obj → Obj
  | .cells _ t frozen=>.cells cs.toArray t frozen
  | o=>o
noncomputable def laidWorld (os : Os) : World :=
  { World.holding Tryz.prog os ⟨#[],#[],[]⟩ with heap:=((World.holding Tryz.prog os ⟨#[],#[],[]⟩).heap.modify 0 (relaid firsts)).modify 1 (relaid accepts) }
def inp : Array Value:=#[.agg #[.int .i64 0,.int .i64 0,.slice none 0 0,.int .u8 0,.slice none 0 0,.int .i64 0,.int .i64 0,.int .i64 0,.int .i64 0,.int .i64 0,.int .i64 0,.int .i64 0,.slice none 0 0]]
theorem laid_met (os : Os) : laidMet Tryz.prog Rows.traceDecidesRow.laid ((laidWorld os).forCall (fun _ _=>0) ⟨#[],inp,[]⟩).memory :=
  laidMet_of_run' 8 (by kernel_rfl) (by kernel_rfl)
theorem reads (os : Os) {H : Type} (enc : TypeId × Value → H) : ∃ places,DataW.whole enc Tryz.prog ((laidWorld os).forCall (fun _ _=>0) ⟨#[],inp,[]⟩).memory Tryz.f6.params.toList Rows.traceDecidesSpec.vars false inp.toList 8 = some ([.agg [.lit (.int .i64 0),.lit (.int .i64 0),.nil,.lit (.int .u8 0),.nil,.agg [.lit (.int .i64 0),.lit (.int .i64 0),.lit (.int .i64 0),.lit (.int .i64 0),.agg [.lit (.int .i64 0),.lit (.int .i64 0),.lit (.int .i64 0)]],.nil]],[],places) :=
  ⟨[],by kernel_rfl⟩
theorem lifted (os : Os) (started : os.Started) (H : Type) (enc : TypeId × Value → H) (F : Stop.Interp) :
    ReturnsInHanded {} Tryz.checked os 6 .any ((OpenSpec.ofChange Rows.traceDecidesSpec).preRow enc Tryz.prog Tryz.f6 Rows.traceDecidesRow.domain false Rows.traceDecidesRow.laid) (((OpenSpec.ofChange Rows.traceDecidesSpec).at F).post enc Tryz.prog Tryz.f6 false true false false):=by
  obtain ⟨places,hx⟩:=reads os enc
  refine returnsInHanded_of_row (C:=Tryz.checked) (s:=OpenSpec.ofChange Rows.traceDecidesSpec) own started (by kernel_rfl) Tryz.func6
    (witness_row_at (enc:=enc) (C:=Tryz.checked) false (laidWorld os) inp rfl (by kernel_rfl) (by kernel_rfl) (by kernel_rfl)
      (OpenSpec.preRow_of_cond 8 hx (by kernel_rfl) (fun k hk=>by cases hk) (by kernel_rfl) (laid_met os))) ?_
  intro W base args ds gs before hval hW _ _ _ hL _ _
  exact contract H enc W base args ds gs before hval hW
theorem said : Rows.TraceDecidesSaid :=
  OpenClaim.holds_of_cond 6 Tryz.f6 rfl rfl rfl rfl rfl rfl rfl ⟨rfl,rfl,rfl,rfl,rfl⟩ rfl rfl rfl rfl rfl (by kernel_rfl) Tryz.func6 (by kernel_rfl)
    (of_decide_eq_true (by kernel_rfl)) (by unfold Func.isWrapper; first | (rw [if_pos (by decide +kernel)]; kernel_rfl) | (rw [if_neg (by decide +kernel)]; exact ⟨rfl,rfl⟩))
    (fun os started H enc _ F=>by rw [OpenClaim.pre_eq_preRow]; exact lifted os started H enc F)
theorem plain (f : FuncId) (fn : Func) (hf : Tryz.pinned.checked.prog.funcNamed Rows.traceDecidesRow.func = some f) (hfn : Tryz.pinned.checked.prog.funcs[f]? = some fn) :
    true = Tryz.pinned.checked.prog.looks [] ∧ ∀ (j : Nat) t,fn.params[j]? = some t → Tryz.pinned.checked.prog.wantsStandIn t = false:=by
  obtain rfl : f = 6:=Option.some.inj ((show Tryz.prog.funcNamed Rows.traceDecidesRow.func = some 6 by kernel_rfl).symm.trans hf) |>.symm
  obtain rfl : fn = Tryz.f6:=(Option.some.inj (Tryz.func6.symm.trans hfn)).symm
  refine ⟨by kernel_rfl,fun j t ht=>?_⟩
  rw [Tryz.params6] at ht
  have hm : t ∈ [28]:=by simpa using Array.mem_of_getElem? ht
  have hall : ([28].all fun u=>!Tryz.prog.wantsStandIn u) = true:=by kernel_rfl
  exact (show Tryz.prog.wantsStandIn t = false by simpa using List.all_eq_true.1 hall t hm)
theorem card : Rows.TraceDecidesCardSaid :=
  Claim7.holds_tied_plain_at .later [] _ _ _ _ said (fun _ h=>by cases h) (by kernel_rfl) (fun _ h=>by cases h) traceDecides_row_tie rfl ⟨rfl,rfl⟩ (by kernel_rfl) rfl plain (by kernel_rfl)
end Go.Proofs.YtimjandkmfcmiaaGreatDoor.traceDecides
