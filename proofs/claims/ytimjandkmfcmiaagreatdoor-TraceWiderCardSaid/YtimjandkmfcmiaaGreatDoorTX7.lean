/-
  Texts of one claim, laid together: RayC, Chk, RayX, RayD, RayW, Join, Open3.
-/
import Derived.OpenVars
import Derived.OpenShut
import Derived.WalkKit
import Derived.ProofKit
import Derived.Test.YtimjandkmfcmiaaGreatDoorTX6
set_option maxHeartbeats 8000000
set_option linter.unusedSimpArgs false
set_option linter.unusedVariables false
set_option linter.unusedSectionVars false
namespace Go.Proofs.YtimjandkmfcmiaaGreatDoor
open Go.RowKit Go.Lith
set_option maxRecDepth 100000
attribute [local irreducible] wpList wpQuiet wpMix wpMixH wpTree Code.wp
theorem wrapT' {n : Int} (h : I64 n) : IntKind.i64.wrap n = n:=wrap_i64 h.1 h.2
theorem chunk_get {n : Nat} {T : List T3} {i : Nat} {l : List T3} {P : T3 → Prop} (h : ∀ t ∈ T,P t) (hl : (chunksR n 30 T)[i]? = some l) : ∀ t ∈ l,P t:=fun t ht=>h t (chunks_mem (List.mem_of_getElem? hl) t ht)
def bsC (zs : List Int) (i n : Nat) : List Go.Value:=(List.range i).map (fun j=>.int .i64 (bsAt zs j)) ++ List.replicate (n - i) (.int .i64 0)
theorem bsC_over {zs : List Int} {i n : Nat} (h : i < n) : over (bsC zs i n) i [.int .i64 (bsAt zs i)] = bsC zs (i + 1) n:=by
 unfold over bsC
 rw [List.take_append_of_le_length (by simp),List.take_of_length_le (by simp),List.range_succ,List.map_append,List.append_assoc,List.append_assoc]
 congr 1
 rw [List.drop_append]
 simp only [List.length_map,List.length_range,List.length_cons,List.length_nil,List.map_cons,List.map_nil,List.cons_append,List.nil_append]
 congr 1
 rw [List.drop_of_length_le (by simp),List.nil_append,show i + (0 + 1) - i = 1 by omega,List.drop_replicate]
 congr 1
theorem bsC_len {zs : List Int} {i n : Nat} (h : i ≤ n) : (bsC zs i n).length = n:=by
 simp [bsC]; omega
theorem bsC_end {zs : List Int} {n : Nat} : bsC zs n n = (bsR n zs).map (Value.int .i64 ·):=by
 simp [bsC,bsR]
theorem bsC_zero {n : Nat} : bsC [] 0 n = (bsR n []).map (Value.int .i64 ·):=by
 symm
 show (bsR n []).map _ = [] ++ List.replicate (n - 0) _
 rw [List.nil_append,Nat.sub_zero]
 refine List.eq_replicate_iff.2 ⟨by simp [bsR],fun b hb=>?_⟩
 obtain ⟨z,hz,rfl⟩:=List.mem_map.1 hb
 obtain ⟨i,_,rfl⟩:=List.mem_map.1 hz
 rfl
theorem take_minL {α : Type} (ts : List α) (m : Nat) : ts.take (min m ts.length) = ts.take m:=by
 rcases Nat.le_total m ts.length with h | h
 · rw [Nat.min_eq_left h]
 · rw [Nat.min_eq_right h,List.take_length,List.take_of_length_le h]
theorem drop_minL {α : Type} (ts : List α) (m : Nat) : ts.drop (min m ts.length) = ts.drop m:=by
 rcases Nat.le_total m ts.length with h | h
 · rw [Nat.min_eq_left h]
 · rw [Nat.min_eq_right h,List.drop_length,List.drop_of_length_le h]
theorem says_take {L : Rws} {A : Option Addr} {N cap m : Nat} {ts : List T3} (s : Says L ⟨A,N,cap⟩ ts) (hN : N = ts.length) : Says L ⟨A,min m N,cap⟩ (ts.take m):=by
 have:=s.take (k:=min m N) (Nat.min_le_right _ _)
 subst hN
 rwa [take_minL] at this
theorem says_drop {L : Rws} {A : Option Addr} {N cap m : Nat} {ts : List T3} (s : Says L ⟨A,N,cap⟩ ts) (hN : N = ts.length) : Says L ⟨if cap = min m N then A else A.map (·.add (min m N * 9)),N - min m N,cap - min m N⟩ (ts.drop m):=by
 have:=s.drop (k:=min m N) (Nat.min_le_right _ _)
 subst hN
 rwa [drop_minL] at this
theorem says_new {A : Option Addr} {ts : List T3} {n cap : Nat} (hn : n = ts.length) (hi : ∀ t ∈ ts,IT t) (hc : n ≤ cap) : Says [(A,ts.flatMap triCells)] ⟨A,n,cap⟩ ts:=by
 subst hn
 exact Says.one hi hc
theorem tmod_sq (i n : Nat) : ((i : Int) * (i : Int) + (i : Int)).tmod (n : Int) = (((i * i + i) % n : Nat) : Int):=rfl
theorem pt_sh {t : T3} {v : P3} {b : Int} (h : SmT 200 t) (hv : (-b ≤ v.x ∧ v.x ≤ b) ∧ (-b ≤ v.y ∧ v.y ≤ b) ∧ (-b ≤ v.z ∧ v.z ≤ b)) (hb : b ≤ 49) : IT (t.sh v):=by
 obtain ⟨⟨a1,a2,a3⟩,⟨b1,b2,b3⟩,⟨c1,c2,c3⟩⟩:=h
 refine ⟨⟨⟨?_,?_⟩,⟨?_,?_⟩,⟨?_,?_⟩⟩,⟨⟨?_,?_⟩,⟨?_,?_⟩,⟨?_,?_⟩⟩,⟨⟨?_,?_⟩,⟨?_,?_⟩,⟨?_,?_⟩⟩⟩ <;> (simp only [T3.sh,P3.sh]; omega)
theorem shownAt_it {ss : List P3} {b : Int} {i : Nat} {l : List T3} (hb : b ≤ 49) (h : ∀ t ∈ l,SmT 200 t) : ∀ t ∈ shownAt ss b i l,IT t:=by
 intro t ht
 unfold shownAt at ht
 split at ht
 · cases ht
 ·
  split at ht
  ·
   rename_i h0
   obtain ⟨u,hu,rfl⟩:=List.mem_map.1 ht
   exact pt_sh (h u hu) (shAt_bd h0.1 hb) hb
  · exact (h t ht).it (by decide)
theorem flat_le {n k : Nat} {l : List T3} : (chunksR n k l).flatten.length ≤ k * n:=by
 induction k generalizing l with
 | zero=>simp [chunksR]
 | succ k ih =>
  unfold chunksR
  split
  · simp
  ·
   rw [List.flatten_cons,List.length_append,List.length_take,Nat.succ_mul]
   have:=ih (l:=l.drop n)
   omega
theorem Moved_c {ts : List T3} {N cap : Nat} {A : Option Addr} {v : P3} (w : World) (hT : TrisAt w A N ts) (hI : ∀ t ∈ ts,IT (t.sh v)) (hN : N ≤ 100000) : Does Tryz.prog 24 [.slice A N cap,pt v] w (TS 58 (ts.map (T3.sh v)) w):=by
 refine ⟨en_24,?_⟩
 have m:=Mem.refl w
 have htl:=hT.len
 go_enter Tryz.func24,Tryz.ntmps24
 refine c_seq fun K1 k1=>wp_region_lit (mboxA m rfl ?_)
 clear m; intro g1 u m
 refine n_val (r_assign) (n_nil (k1 _ _ ?_))
 refine c_seq fun K2 k2=>wp_region_lit (n_val (r_assign) ?_)
 replace m:=m.nilO 58 9
 refine n_nil (k2 _ _ ?_)
 refine c_seq fun K3 k3=>c_seq fun K4 k4=>wp_region_lit (n_val (r_assign) ?_)
 simp only [ev,zD,zE,zF,zG]
 refine n_nil (k4 _ _ ?_)
 refine wp_block ?_
 try simp only [Nat.zero_add,Nat.reduceAdd,Nat.reduceMul,Int.reduceToNat]
 refine c_loopg [5,6] [7,8,9,10,11,12,13,14,15,16,17,18,19,20,21,22,23,24,25,26,27,28,29,30,31,32,33,34,35,36,37,38,39,40,41,42,43,44,45,46,47,48,49,50] (fun n vs wl=>∃ (k cap5 : Nat) (A5 : Option Addr),vs = [.slice A5 k cap5,.int .i64 (k:Int)] ∧ Mem w wl [oI 58 9 A5 k cap5 (((ts.take k).map (T3.sh v)).flatMap triCells),bI g1 [.int .i64 v.x,.int .i64 v.y,.int .i64 v.z] 56] ∧ (k ≤ N) ∧ (n = N - k)) ?_ ?_
 ·
  apply Exists.intro
  simp only [zQ,zR,zD,zE]
  exact ⟨0,_,_,rfl,m,Nat.zero_le _,rfl⟩
 ·
  intro n vs wr hI u
  clear m
  obtain ⟨k,cap5,A5,rfl,m,hk,hn⟩:=hI
  simp only [setG_cons,setG_nil,setMany_cons,setMany_nil,zF,zG]
  refine c_seq fun K5 k5=>c_seq fun K6 k6=>wp_region_lit (n_val (r_move) (n_val (r_move) (n_val (r_lenS rfl Tryz.underlying48 rfl) (n_val (r_lss rfl rfl) ?_))))
  simp only [ev,zD,zE,zF,zG]
  refine n_nil (k6 _ _ ?_)
  refine c_if rfl (fun hc1=>?_) (fun hc1=>?_)
  ·
   obtain ⟨t,ht,_,a,rfl,hrow⟩:=hT.get (i:=k) (by omega)
   have hIt:=hI t (List.mem_of_getElem? ht)
   refine wp_skip (k5 _ _ ?_)
   refine c_seq fun K7 k7=>wp_block (c_seq fun K8 k8=>wp_region_lit (n_val (r_move) (n_val (r_move) ?_)))
   simp only [ev,zD,zE,zF,zG]
   refine n_val (r_indexAddrS Tryz.underlying48 cells_58 rfl rfl (by omega) (by omega) (addrN (Int.toNat_natCast _))) ?_
   simp only [ev,zD,zE,zF,zG]
   refine n_load rfl ((hrow.ext m.ext).lies agg_58 cells_58) ?_
   simp only [ev,zD,zE,zF,zG]
   refine malloc m zero_58 rfl ?_
   clear m; intro g2 u m
   simp only [ev,zD,zE,zF,zG]
   refine mstoreA m 0 rfl rfl rfl cells_58 (leT rfl) rfl ?_
   clear m; intro u m; simp only [over,zH,zI,zJ,zK,zL,zM,zN,zO,zP,zF,zG,Nat.reduceAdd] at m
   refine n_nil (k8 _ _ ?_)
   refine c_seq fun K9 k9=>c_seq fun K10 k10=>wp_region_lit (n_val (r_assign) (n_nil (k10 _ _ ?_)))
   refine wp_block (wp_loop_rounds 4 (rounds_step (c_seq fun K11 k11=>c_seq fun K12 k12=>wp_region_lit (n_val (r_move) (n_val (r_lssT (m:=0) (n:=3) rfl rfl (by decide)) (n_nil (k12 _ _ ?_)))))))
   refine c_yes rfl (wp_skip (k11 _ _ ?_))
   refine c_seq fun K13 k13=>wp_block ?_
   simp only [ev,zD,zE,zF,zG]
   refine mq_tail m 24 follows_mixed (by kernel_rfl) ?_
   simp only [zH,zI,zJ,zK]
   refine q_val (r_move) (q_val (r_move) (q_val (r_indexAddrA Tryz.underlying58 cells_56 rfl rfl (by decide) (by decide) rfl) (q_val (r_fieldAddr (c:=0) Tryz.underlying56 rfl cells_3 rfl rfl) ?_)))
   simp only [ev,zD,zE,zF,zG]
   refine ql rfl (fun u m=>((m.b 0 rfl).lies1 agg_3 rfl)) ?_
   simp only [ev,zD,zE,zF,zG]
   refine q_val (r_fieldAddr (c:=0) Tryz.underlying56 rfl cells_3 rfl rfl) ?_
   simp only [ev,zD,zE,zF,zG]
   refine ql rfl (fun u m=>((m.b 2 rfl).lies1 agg_3 rfl)) ?_
   simp only [ev,zD,zE,zF,zG]
   refine q_val (r_add rfl rfl (wrapT' (n:=t.a.x + v.x) hIt.a.x)) (q_val (r_move) (q_val (r_indexAddrA Tryz.underlying58 cells_56 rfl rfl (by decide) (by decide) rfl) (q_val (r_fieldAddr (c:=0) Tryz.underlying56 rfl cells_3 rfl rfl) ?_)))
   simp only [ev,zD,zE,zF,zG]
   refine ql rfl (fun u m=>((m.b 0 rfl).lies1 agg_3 rfl)) ?_
   simp only [ev,zD,zE,zF,zG]
   refine q_val (r_fieldAddr (c:=0) Tryz.underlying56 rfl cells_3 rfl rfl) ?_
   simp only [ev,zD,zE,zF,zG]
   refine ql rfl (fun u m=>((m.b 2 rfl).lies1 agg_3 rfl)) ?_
   simp only [ev,zD,zE,zF,zG]
   refine q_val (r_add rfl rfl (wrapT' (n:=t.a.y + v.y) hIt.a.y)) (q_val (r_move) (q_val (r_indexAddrA Tryz.underlying58 cells_56 rfl rfl (by decide) (by decide) rfl) (q_val (r_fieldAddr (c:=0) Tryz.underlying56 rfl cells_3 rfl rfl) ?_)))
   simp only [ev,zD,zE,zF,zG]
   refine ql rfl (fun u m=>((m.b 0 rfl).lies1 agg_3 rfl)) ?_
   simp only [ev,zD,zE,zF,zG]
   refine q_val (r_fieldAddr (c:=0) Tryz.underlying56 rfl cells_3 rfl rfl) ?_
   simp only [ev,zD,zE,zF,zG]
   refine ql rfl (fun u m=>((m.b 2 rfl).lies1 agg_3 rfl)) ?_
   simp only [ev,zD,zE,zF,zG]
   refine q_val (r_add rfl rfl (wrapT' (n:=t.a.z + v.z) hIt.a.z)) (q_val (r_build_56_0_1_2 rfl rfl rfl) (q_val (r_indexAddrA Tryz.underlying58 cells_56 rfl rfl (by decide) (by decide) rfl) (q_nil ?_)))
   clear m; intro u m
   simp only [ev,zD,zE,zF,zG]
   refine mstoreA m 0 rfl rfl rfl cells_56 (leT rfl) rfl ?_
   clear m; intro u m; simp only [over,zH,zI,zJ,zK,zL,zM,zN,zO,zP,zF,zG,Nat.reduceAdd] at m
   refine n_nil (k13 _ _ ?_)
   refine wp_region_lit (n_val (r_move) (n_val (r_add (m:=0) (n:=1) (r:=1) rfl rfl (by decide)) (n_val (r_assign) (n_nil (then_rounds (c_seq fun K14 k14=>c_seq fun K15 k15=>wp_region_lit (n_val (r_move) ?_)))))))
   simp only [ev,zD,zE,zF,zG]
   refine n_val (r_lssT (m:=1) (n:=3) rfl rfl (by decide)) (n_nil (k15 _ _ ?_))
   refine c_yes rfl (wp_skip (k14 _ _ ?_))
   refine c_seq fun K16 k16=>wp_block ?_
   simp only [ev,zD,zE,zF,zG]
   refine mq_tail m 24 follows_mixed (by kernel_rfl) ?_
   simp only [zH,zI,zJ,zK]
   refine q_val (r_move) (q_val (r_move) (q_val (r_indexAddrA Tryz.underlying58 cells_56 rfl rfl (by decide) (by decide) rfl) (q_val (r_fieldAddr (c:=0) Tryz.underlying56 rfl cells_3 rfl rfl) ?_)))
   simp only [ev,zD,zE,zF,zG]
   refine ql rfl (fun u m=>((m.b 0 rfl).lies1 agg_3 rfl)) ?_
   simp only [ev,zD,zE,zF,zG]
   refine q_val (r_fieldAddr (c:=0) Tryz.underlying56 rfl cells_3 rfl rfl) ?_
   simp only [ev,zD,zE,zF,zG]
   refine ql rfl (fun u m=>((m.b 2 rfl).lies1 agg_3 rfl)) ?_
   simp only [ev,zD,zE,zF,zG]
   refine q_val (r_add rfl rfl (wrapT' (n:=t.b.x + v.x) hIt.b.x)) (q_val (r_move) (q_val (r_indexAddrA Tryz.underlying58 cells_56 rfl rfl (by decide) (by decide) rfl) (q_val (r_fieldAddr (c:=0) Tryz.underlying56 rfl cells_3 rfl rfl) ?_)))
   simp only [ev,zD,zE,zF,zG]
   refine ql rfl (fun u m=>((m.b 0 rfl).lies1 agg_3 rfl)) ?_
   simp only [ev,zD,zE,zF,zG]
   refine q_val (r_fieldAddr (c:=0) Tryz.underlying56 rfl cells_3 rfl rfl) ?_
   simp only [ev,zD,zE,zF,zG]
   refine ql rfl (fun u m=>((m.b 2 rfl).lies1 agg_3 rfl)) ?_
   simp only [ev,zD,zE,zF,zG]
   refine q_val (r_add rfl rfl (wrapT' (n:=t.b.y + v.y) hIt.b.y)) (q_val (r_move) (q_val (r_indexAddrA Tryz.underlying58 cells_56 rfl rfl (by decide) (by decide) rfl) (q_val (r_fieldAddr (c:=0) Tryz.underlying56 rfl cells_3 rfl rfl) ?_)))
   simp only [ev,zD,zE,zF,zG]
   refine ql rfl (fun u m=>((m.b 0 rfl).lies1 agg_3 rfl)) ?_
   simp only [ev,zD,zE,zF,zG]
   refine q_val (r_fieldAddr (c:=0) Tryz.underlying56 rfl cells_3 rfl rfl) ?_
   simp only [ev,zD,zE,zF,zG]
   refine ql rfl (fun u m=>((m.b 2 rfl).lies1 agg_3 rfl)) ?_
   simp only [ev,zD,zE,zF,zG]
   refine q_val (r_add rfl rfl (wrapT' (n:=t.b.z + v.z) hIt.b.z)) (q_val (r_build_56_0_1_2 rfl rfl rfl) (q_val (r_indexAddrA Tryz.underlying58 cells_56 rfl rfl (by decide) (by decide) rfl) (q_nil ?_)))
   clear m; intro u m
   simp only [ev,zD,zE,zF,zG]
   refine mstoreA m 0 rfl rfl rfl cells_56 (leT rfl) rfl ?_
   clear m; intro u m; simp only [over,zH,zI,zJ,zK,zL,zM,zN,zO,zP,zF,zG,Nat.reduceAdd] at m
   refine n_nil (k16 _ _ ?_)
   refine wp_region_lit (n_val (r_move) (n_val (r_add (m:=1) (n:=1) (r:=2) rfl rfl (by decide)) (n_val (r_assign) (n_nil (then_rounds (c_seq fun K17 k17=>c_seq fun K18 k18=>wp_region_lit (n_val (r_move) ?_)))))))
   simp only [ev,zD,zE,zF,zG]
   refine n_val (r_lssT (m:=2) (n:=3) rfl rfl (by decide)) (n_nil (k18 _ _ ?_))
   refine c_yes rfl (wp_skip (k17 _ _ ?_))
   refine c_seq fun K19 k19=>wp_block ?_
   simp only [ev,zD,zE,zF,zG]
   refine mq_tail m 24 follows_mixed (by kernel_rfl) ?_
   simp only [zH,zI,zJ,zK]
   refine q_val (r_move) (q_val (r_move) (q_val (r_indexAddrA Tryz.underlying58 cells_56 rfl rfl (by decide) (by decide) rfl) (q_val (r_fieldAddr (c:=0) Tryz.underlying56 rfl cells_3 rfl rfl) ?_)))
   simp only [ev,zD,zE,zF,zG]
   refine ql rfl (fun u m=>((m.b 0 rfl).lies1 agg_3 rfl)) ?_
   simp only [ev,zD,zE,zF,zG]
   refine q_val (r_fieldAddr (c:=0) Tryz.underlying56 rfl cells_3 rfl rfl) ?_
   simp only [ev,zD,zE,zF,zG]
   refine ql rfl (fun u m=>((m.b 2 rfl).lies1 agg_3 rfl)) ?_
   simp only [ev,zD,zE,zF,zG]
   refine q_val (r_add rfl rfl (wrapT' (n:=t.c.x + v.x) hIt.c.x)) (q_val (r_move) (q_val (r_indexAddrA Tryz.underlying58 cells_56 rfl rfl (by decide) (by decide) rfl) (q_val (r_fieldAddr (c:=0) Tryz.underlying56 rfl cells_3 rfl rfl) ?_)))
   simp only [ev,zD,zE,zF,zG]
   refine ql rfl (fun u m=>((m.b 0 rfl).lies1 agg_3 rfl)) ?_
   simp only [ev,zD,zE,zF,zG]
   refine q_val (r_fieldAddr (c:=0) Tryz.underlying56 rfl cells_3 rfl rfl) ?_
   simp only [ev,zD,zE,zF,zG]
   refine ql rfl (fun u m=>((m.b 2 rfl).lies1 agg_3 rfl)) ?_
   simp only [ev,zD,zE,zF,zG]
   refine q_val (r_add rfl rfl (wrapT' (n:=t.c.y + v.y) hIt.c.y)) (q_val (r_move) (q_val (r_indexAddrA Tryz.underlying58 cells_56 rfl rfl (by decide) (by decide) rfl) (q_val (r_fieldAddr (c:=0) Tryz.underlying56 rfl cells_3 rfl rfl) ?_)))
   simp only [ev,zD,zE,zF,zG]
   refine ql rfl (fun u m=>((m.b 0 rfl).lies1 agg_3 rfl)) ?_
   simp only [ev,zD,zE,zF,zG]
   refine q_val (r_fieldAddr (c:=0) Tryz.underlying56 rfl cells_3 rfl rfl) ?_
   simp only [ev,zD,zE,zF,zG]
   refine ql rfl (fun u m=>((m.b 2 rfl).lies1 agg_3 rfl)) ?_
   simp only [ev,zD,zE,zF,zG]
   refine q_val (r_add rfl rfl (wrapT' (n:=t.c.z + v.z) hIt.c.z)) (q_val (r_build_56_0_1_2 rfl rfl rfl) (q_val (r_indexAddrA Tryz.underlying58 cells_56 rfl rfl (by decide) (by decide) rfl) (q_nil ?_)))
   clear m; intro u m
   simp only [ev,zD,zE,zF,zG]
   refine mstoreA m 0 rfl rfl rfl cells_56 (leT rfl) rfl ?_
   clear m; intro u m; simp only [over,zH,zI,zJ,zK,zL,zM,zN,zO,zP,zF,zG,Nat.reduceAdd] at m
   refine n_nil (k19 _ _ ?_)
   refine wp_region_lit (n_val (r_move) (n_val (r_add (m:=2) (n:=1) (r:=3) rfl rfl (by decide)) (n_val (r_assign) (n_nil (then_rounds (c_seq fun K20 k20=>c_seq fun K21 k21=>wp_region_lit (n_val (r_move) ?_)))))))
   simp only [ev,zD,zE,zF,zG]
   refine n_val (r_lssF (m:=3) (n:=3) rfl rfl (by decide)) (n_nil (k21 _ _ ?_))
   refine c_no rfl (wp_exit (k9 _ _ ?_))
   refine wp_region_lit (n_val (r_move) ?_)
   simp only [ev,zD,zE,zF,zG]
   refine n_load rfl ((m.b 0 rfl).full agg_58 cells_58) ?_
   simp only [ev,zD,zE,zF,zG]
   refine n_bs_48_1 rfl ?_
   intro u g3 e hg hB; replace m:=m.newB e hg hB; clear e hg hB
   simp only [ev,zD,zE,zF,zG]
   refine mappend m 2 rfl rfl Tryz.underlying48 inf_58 rfl (by decide) rfl rfl rfl (m.b 0 rfl).rowsO (allT rfl) (by omega) (by omega) ?_
   clear m; intro A5 cap5 u m; simp only [zF,zG] at m
   refine n_val (r_assign) (n_nil (k7 _ _ ?_))
   refine wp_region_lit (n_val (r_move) ?_)
   simp only [ev,zD,zE,zF,zG]
   refine n_val (r_add rfl rfl (wrap_i64 (by omega) (by omega))) (n_val (r_assign) (n_nil ?_))
   simp only [ev,zD,zE,zF,zG]
   simp only [Exit.inBlock,Exit.then]
   refine ⟨N - (k + 1),_,?_,rfl,?_,?_⟩
   · omega
   · simp only [zQ,zR,zD,zE,setG_cons,setG_nil,setMany_cons,setMany_nil,zF,zG]
   ·
    simp only [zQ,zR,zD,zE]
    exact ⟨k + 1,_,_,rfl,((m.reO 2 rfl ((m.o 2 rfl).as (by rw [take_snoc ht,List.map_append,List.flatMap_append]; rfl))).sel [false,false,true,true]),by omega,rfl⟩
  ·
   obtain rfl : k = N:=by omega
   rw [show ts.take k = ts from List.take_of_length_le (by omega)] at m
   refine wp_exit (k3 _ _ ?_)
   refine c_seq fun K22 k22=>wp_region_lit (n_val (r_move) (n_val (r_assign) (n_nil (k22 _ _ ?_))))
   refine wp_ret ?_
   simp only [ev,zD,zE,zF,zG]
   try simp only [Exit.inBlock,Exit.then,if_true]
   refine fin1 rfl rfl ?_
   try simp only [zD,zE]
   exact ⟨_,rfl,m.ext,⟨_,_,_,by rw [List.length_map]; exact htl.symm,rfl,(m.o 0 rfl)⟩⟩
theorem clusters_c {kind bits : Int} [Iw kind] [Iw bits] {q : Nat} {r : Ray} [IR r] {HA ZA PA : Option Addr} {HN Hc ZN Zc PN Pc : Nat} {hz zs : List Int} {ss : List P3} (w : World) (hH : IntsAt w HA HN hz) (hZ : IntsAt w ZA ZN zs) (hP : LAt ptC 3 w PA PN ss) (hq : q < 256) : Does Tryz.prog 19 [.agg #[.int .i64 kind,.int .i64 bits,.slice HA HN Hc,.int .u8 (q : Int),.slice ZA ZN Zc,.int .i64 r.s.x,.int .i64 r.s.y,.int .i64 r.s.z,.int .i64 r.w,.int .i64 r.d.x,.int .i64 r.d.y,.int .i64 r.d.z,.slice PA PN Pc]] w (fun v w'=>∃ A n cap hs L,v = .slice A n cap ∧ n = hs.length ∧ Mem w w' [oI 48 1 A n cap (hs.map Hd.v),rowsI L] ∧ Cov L hs (chunksR (1 + q % 12) 30 (baseT kind bits hz))):=by
 refine ⟨en_19,?_⟩
 have m:=Mem.refl w
 go_enter Tryz.func19,Tryz.ntmps19
 refine c_seq fun K1 k1=>wp_region_lit (mboxA m rfl ?_)
 clear m; intro g1 u m
 refine n_val (r_assign) (n_nil (k1 _ _ ?_))
 refine c_seq fun K2 k2=>wp_region_lit (n_val (r_fieldAddr (c:=0) Tryz.underlying28 rfl cells_3 rfl rfl) ?_)
 simp only [ev,zD,zE,zF,zG]
 refine n_load rfl ((m.b 0 rfl).lies1 agg_3 rfl) ?_
 simp only [ev,zD,zE,zF,zG]
 refine n_val (r_fieldAddr (c:=0) Tryz.underlying28 rfl cells_3 rfl rfl) ?_
 simp only [ev,zD,zE,zF,zG]
 refine n_load rfl ((m.b 0 rfl).lies1 agg_3 rfl) ?_
 simp only [ev,zD,zE,zF,zG]
 refine n_val (r_fieldAddr (c:=0) Tryz.underlying28 rfl cells_22 rfl rfl) ?_
 simp only [ev,zD,zE,zF,zG]
 refine n_load rfl ((m.b 0 rfl).lies1 agg_22 rfl) ?_
 simp only [ev,zD,zE,zF,zG]
 refine n_call rfl rfl (Base_c (kind:=kind) (bits:=bits) _ (hH.ext m.ext)) ?_
 rintro v u e ⟨A1,cap1,_,rfl,rfl,hN⟩; replace m:=m.newO e hN; clear e hN
 refine n_val (r_assign) (n_nil (k2 _ _ ?_))
 refine c_seq fun K3 k3=>?_
 simp only [ev,zD,zE,zF,zG]
 have hle1:=(m.o 0 rfl).le
 have hle2:=(m.o 0 rfl).max
 replace m:=m.oR 0 rfl; simp only [zF,zG] at m
 refine wp_region_lit (n_val (r_fieldAddr (c:=0) Tryz.underlying28 rfl cells_5 rfl rfl) ?_)
 simp only [ev,zD,zE,zF,zG]
 refine n_load rfl ((m.b 1 rfl).lies1 agg_5 rfl) ?_
 simp only [ev,zD,zE,zF,zG]
 refine n_val (r_rem rfl rfl (by omega) (show (q : Int).tmod 12 = ((q % 12 : Nat) : Int) from rfl)) (n_val (r_conv Tryz.underlying3 Tryz.underlying5 rfl (wrap_i64 (by omega) (by omega))) (n_val (r_add rfl rfl (show IntKind.i64.wrap (1 + ((q % 12 : Nat) : Int)) = ((1 + q % 12 : Nat) : Int) by rw [wrap_i64 (by omega) (by omega)]; omega)) (n_val (r_assign) ?_)))
 simp only [ev,zD,zE,zF,zG]
 refine n_nil (k3 _ _ ?_)
 refine c_seq fun K4 k4=>wp_region_lit (n_val (r_assign) ?_)
 replace m:=m.nilO 48 1
 refine n_nil (k4 _ _ ?_)
 refine c_seq fun K5 k5=>wp_block ?_
 simp only [ev,zD,zE,zF,zG]
 try simp only [Nat.zero_add,Nat.reduceAdd,Nat.reduceMul,Int.reduceToNat]
 refine c_loopg [3,5] [6,19,20,21,22,23,24,25,26,27,28,29,30,31,32,33,34,35,36,37,38,39] (fun n vs wl=>∃ (LA A5 : Option Addr) (Ln Lc n5 cap5 : Nat) (hs : List Hd) (xs : List (List T3)) (rest : List T3),vs = [.slice LA Ln Lc,.slice A5 n5 cap5] ∧ Mem w wl [oI 48 1 A5 n5 cap5 (hs.map Hd.v),rowsI [(A1,(baseT kind bits hz).flatMap triCells)],bI g1 [.int .i64 kind,.int .i64 bits,.slice HA HN Hc,.int .u8 (q : Int),.slice ZA ZN Zc,.int .i64 r.s.x,.int .i64 r.s.y,.int .i64 r.s.z,.int .i64 r.w,.int .i64 r.d.x,.int .i64 r.d.y,.int .i64 r.d.z,.slice PA PN Pc] 28] ∧ (Cov [(A1,(baseT kind bits hz).flatMap triCells)] hs xs) ∧ (Says [(A1,(baseT kind bits hz).flatMap triCells)] ⟨LA,Ln,Lc⟩ rest) ∧ (Ln = rest.length ∧ Ln ≤ 9223372036854775807) ∧ (chunksR (1 + q % 12) 30 (baseT kind bits hz) = xs ++ chunksR (1 + q % 12) (30 - xs.length) rest) ∧ (xs.length ≤ 30) ∧ (n5 = hs.length) ∧ (n = 30 - xs.length)) ?_ ?_
 ·
  apply Exists.intro
  simp only [zQ,zR,zD,zE]
  exact ⟨_,_,_,_,_,_,[],[],baseT kind bits hz,rfl,m,Cov.nil _,Says.one (fun t ht=>(baseT_sm t ht).it (by decide)) hle1,⟨rfl,by omega⟩,rfl,Nat.zero_le _,rfl,rfl⟩
 ·
  intro n vs wr hI u
  clear m
  obtain ⟨LA,A5,Ln,Lc,n5,cap5,hs,xs,rest,rfl,m,hcov,hsay,hrl,hch,hxl,hn5,hn⟩:=hI
  simp only [setG_cons,setG_nil,setMany_cons,setMany_nil,zF,zG]
  refine c_seq fun K6 k6=>c_seq fun K7 k7=>wp_region_lit (n_val (r_move) (n_val (r_lenS rfl Tryz.underlying48 rfl) (n_val (r_gtr rfl rfl) (n_val (r_move) ?_))))
  simp only [ev,zD,zE,zF,zG]
  refine n_mayT rfl (fun hb=>r_move) (n_mayT rfl (fun hb=>r_lenS rfl Tryz.underlying29 (mayE hb rfl)) (n_mayT rfl (fun hb=>r_lss (mayE hb rfl) rfl) (n_val (r_pickAnd rfl rfl rfl) ?_)))
  simp only [ev,zD,zE,zF,zG]
  refine n_nil (k7 _ _ ?_)
  refine c_ifB rfl (fun hc1=>?_) (fun hc1=>?_)
  ·
   simp only [Bool.and_eq_true,decide_eq_true_eq] at hc1
   have hlc : Ln ≤ Lc:=hsay.1
   have hcl:=hcov.len
   have hne : rest ≠ []:=fun e=>by rw [e] at hrl; simp only [List.length_nil] at hrl; omega
   have hs1:=says_take (m:=1 + q % 12) hsay hrl.1
   have hs2:=says_drop (m:=1 + q % 12) hsay hrl.1
   refine wp_skip (k6 _ _ ?_)
   refine wp_block (c_seq fun K8 k8=>wp_region_lit (n_val (r_move) (n_val (r_move) (n_val (r_lenS rfl Tryz.underlying48 rfl) (n_val (r_min rfl rfl (min_law (a:=1 + q % 12) (b:=Ln))) ?_)))))
   simp only [ev,zD,zE,zF,zG]
   refine n_val (r_assign) (n_nil (k8 _ _ ?_))
   refine c_seq fun K9 k9=>wp_region_lit (n_val (r_move) (n_val (r_move) (n_val (r_move) ?_)))
   simp only [ev,zD,zE,zF,zG]
   refine n_val (r_sliceHi Tryz.underlying48 cells_58 rfl rfl (Int.toNat_natCast _) (by omega) (by omega)) ?_
   simp only [ev,zD,zE,zF,zG]
   refine n_build1 Tryz.underlying29 (z:=.slice none 0 0) (by kernel_rfl) rfl rfl rfl ?_
   intro u g2 e hg hB; replace m:=m.newB e hg hB; clear e hg hB
   simp only [ev,zD,zE,zF,zG]
   refine mappend m 1 rfl rfl Tryz.underlying29 inf_48 rfl (by decide) rfl rfl rfl (m.b 0 rfl).rowsO (allT rfl) (by omega) (by omega) ?_
   clear m; intro A5 cap5 u m; simp only [zF,zG] at m
   refine n_val (r_assign) (n_nil (k9 _ _ ?_))
   refine wp_region_lit (n_val (r_move) (n_val (r_move) ?_))
   simp only [ev,zD,zE,zF,zG]
   refine n_val (r_sliceLo Tryz.underlying48 cells_58 rfl rfl (Int.toNat_natCast _) (by omega) (by omega) rfl) (n_val (r_assign) (n_nil ?_))
   simp only [ev,zD,zE,zF,zG]
   simp only [Exit.inBlock,Exit.then]
   refine ⟨30 - (xs.length + 1),_,?_,rfl,?_,?_⟩
   · omega
   · simp only [zQ,zR,zD,zE,setG_cons,setG_nil,setMany_cons,setMany_nil,zF,zG]
   ·
    simp only [zQ,zR,zD,zE]
    exact ⟨_,_,_,_,_,_,hs ++ [⟨LA,min (1 + q % 12) Ln,Lc⟩],xs ++ [rest.take (1 + q % 12)],rest.drop (1 + q % 12),rfl,((m.reO 1 rfl ((m.o 1 rfl).as (by rw [List.map_append]; rfl))).sel [false,true,true,true]),hcov.snoc hs1,hs2,⟨by rw [List.length_drop,← hrl.1]; omega,by omega⟩,by rw [hch,List.append_assoc,show 30 - xs.length = (30 - (xs ++ [rest.take (1 + q % 12)]).length) + 1 by (rw [List.length_append]; simp only [List.length_cons,List.length_nil]; omega),chunks_step hne]; rfl,by rw [List.length_append]; simp only [List.length_cons,List.length_nil]; omega,by rw [List.length_append,hn5]; rfl,by rw [List.length_append]; rfl⟩
  ·
   simp only [Bool.and_eq_false_iff,decide_eq_false_iff_not] at hc1
   have hcl:=hcov.len
   have hfin : chunksR (1 + q % 12) 30 (baseT kind bits hz) = xs:=by
    rcases hc1 with h | h
    · rw [hch,List.eq_nil_of_length_eq_zero (l:=rest) (by omega),chunks_nil,List.append_nil]
    · rw [hch,show 30 - xs.length = 0 by omega]; exact List.append_nil _
   refine wp_exit (k5 _ _ ?_)
   refine c_seq fun K10 k10=>wp_region_lit (n_val (r_move) (n_val (r_assign) (n_nil (k10 _ _ ?_))))
   refine wp_ret ?_
   simp only [ev,zD,zE,zF,zG]
   try simp only [Exit.inBlock,Exit.then,if_true]
   refine fin1 rfl rfl ?_
   try simp only [zD,zE]
   exact ⟨_,rfl,m.ext,_,_,_,hs,_,rfl,hn5,m.sel [true,true,false],by rw [hfin]; exact hcov⟩
theorem bounds_c {kind bits : Int} [Iw kind] [Iw bits] {q : Nat} {r : Ray} [IR r] {HA ZA PA : Option Addr} {HN Hc ZN Zc PN Pc : Nat} {hz zs : List Int} {ss : List P3} {n0 : Nat} (w : World) (hH : IntsAt w HA HN hz) (hZ : IntsAt w ZA ZN zs) (hP : LAt ptC 3 w PA PN ss) (hq : q < 256) (hn0 : n0 ≤ 30) : Does Tryz.prog 13 [.agg #[.int .i64 kind,.int .i64 bits,.slice HA HN Hc,.int .u8 (q : Int),.slice ZA ZN Zc,.int .i64 r.s.x,.int .i64 r.s.y,.int .i64 r.s.z,.int .i64 r.w,.int .i64 r.d.x,.int .i64 r.d.y,.int .i64 r.d.z,.slice PA PN Pc],.int .i64 (n0 : Int)] w (fun v w'=>∃ A cap,v = .slice A n0 cap ∧ Ow w w' [] 3 1 A n0 cap ((bsR n0 zs).map (Value.int .i64 ·))):=by
 refine ⟨en_13,?_⟩
 have m:=Mem.refl w
 go_enter Tryz.func13,Tryz.ntmps13
 refine c_seq fun K1 k1=>wp_region_lit (mboxA m rfl ?_)
 clear m; intro g1 u m
 refine n_val (r_assign) (n_nil (k1 _ _ ?_))
 refine c_seq fun K2 k2=>wp_region_lit (n_val (r_move) ?_)
 simp only [ev,zD,zE,zF,zG]
 refine n_make1 Tryz.underlying22 inf_3 rfl rfl rfl (Int.toNat_natCast _) (Int.toNat_natCast _) (by omega) (by omega) (by omega) (by omega) ?_
 intro u g2 e hg hB; replace m:=m.newB e hg hB; clear e hg hB
 refine n_val (r_assign) (n_nil (k2 _ _ ?_))
 refine c_seq fun K3 k3=>c_seq fun K4 k4=>wp_region_lit (n_val (r_assign) (n_nil (k4 _ _ ?_)))
 refine wp_block ?_
 simp only [ev,zD,zE,zF,zG]
 try simp only [Nat.zero_add,Nat.reduceAdd,Nat.reduceMul,Int.reduceToNat]
 refine c_loopg [6] [9,10,11,12,13,14,15,16,17,18,19,20,21,22,23,24,25,26,27,28,29,30,31,32,33,34,35,36,37] (fun n vs wl=>∃ (i : Nat),vs = [.int .i64 (i:Int)] ∧ Mem w wl [bI g2 (bsC zs i n0) 3,bI g1 [.int .i64 kind,.int .i64 bits,.slice HA HN Hc,.int .u8 (q : Int),.slice ZA ZN Zc,.int .i64 r.s.x,.int .i64 r.s.y,.int .i64 r.s.z,.int .i64 r.w,.int .i64 r.d.x,.int .i64 r.d.y,.int .i64 r.d.z,.slice PA PN Pc] 28] ∧ (i ≤ n0) ∧ (zs = [] → i = 0) ∧ (n = n0 - i)) ?_ ?_
 ·
  apply Exists.intro
  simp only [zQ,zR,zD,zE]
  exact ⟨0,rfl,m,Nat.zero_le _,fun _=>rfl,rfl⟩
 ·
  intro n vs wr hI u
  clear m
  obtain ⟨i,rfl,m,hi,hzi,hn⟩:=hI
  simp only [setG_cons,setG_nil,setMany_cons,setMany_nil,zF,zG]
  refine c_seq fun K5 k5=>c_seq fun K6 k6=>wp_region_lit (n_val (r_move) (n_val (r_move) (n_val (r_lss rfl rfl) (n_val (r_move) ?_))))
  simp only [ev,zD,zE,zF,zG]
  refine n_mayT rfl (fun hb=>r_fieldAddr (c:=0) Tryz.underlying28 rfl cells_22 rfl rfl) ?_
  simp only [ev,zD,zE,zF,zG]
  refine n_mayTW rfl (fun hb=>r_load (mayE hb rfl) ((m.b 1 rfl).lies1 agg_22 rfl)) (n_mayT rfl (fun hb=>r_lenS rfl Tryz.underlying22 (mayE hb rfl)) (n_mayT rfl (fun hb=>r_gtr (mayE hb rfl) rfl) (n_val (r_pickAnd rfl rfl rfl) (n_nil (k6 _ _ ?_)))))
  simp only [ev,zD,zE,zF,zG]
  refine c_ifB rfl (fun hc1=>?_) (fun hc1=>?_)
  ·
   simp only [Bool.and_eq_true,decide_eq_true_eq] at hc1
   have hlen:=hZ.len
   have hii : (0 : Int) ≤ (i : Int) * (i : Int) ∧ (i : Int) * (i : Int) ≤ 900:=by
    have : i * i ≤ 30 * 30:=Nat.mul_le_mul (by omega) (by omega)
    exact ⟨by exact_mod_cast Nat.zero_le _,by exact_mod_cast this⟩
   have hmod : (i * i + i) % ZN < ZN:=Nat.mod_lt _ (by omega)
   obtain ⟨z,hz,hz64,a,rfl,hcell⟩:=hZ.get (i:=(i * i + i) % ZN) hmod
   have hzne : zs ≠ []:=fun e=>by rw [e] at hlen; simp only [List.length_nil] at hlen; omega
   refine wp_skip (k5 _ _ ?_)
   refine c_seq fun K7 k7=>wp_block ?_
   refine mq_tail m 18 follows_mixed (by kernel_rfl) ?_
   simp only [zH,zI,zJ,zK]
   refine q_val (r_move) (q_val (r_move) (q_val (r_fieldAddr (c:=0) Tryz.underlying28 rfl cells_22 rfl rfl) ?_))
   simp only [ev,zD,zE,zF,zG]
   refine ql rfl (fun u m=>((m.b 1 rfl).lies1 agg_22 rfl)) ?_
   simp only [ev,zD,zE,zF,zG]
   refine q_val (r_move) (q_val (r_move) (q_val (r_mul rfl rfl (wrap_i64 (by omega) (by omega))) (q_val (r_move) ?_)))
   simp only [ev,zD,zE,zF,zG]
   refine q_val (r_add rfl rfl (wrap_i64 (by omega) (by omega))) (q_val (r_fieldAddr (c:=0) Tryz.underlying28 rfl cells_22 rfl rfl) ?_)
   simp only [ev,zD,zE,zF,zG]
   refine ql rfl (fun u m=>((m.b 1 rfl).lies1 agg_22 rfl)) ?_
   simp only [ev,zD,zE,zF,zG]
   refine q_val (r_lenS rfl Tryz.underlying22 rfl) ?_
   simp only [ev,zD,zE,zF,zG]
   refine q_val (r_rem rfl rfl (by omega) (tmod_sq i ZN)) ?_
   simp only [ev,zD,zE,zF,zG]
   refine q_val (r_indexAddrS Tryz.underlying22 cells_3 rfl rfl (Int.natCast_nonneg _) (by omega) (addr1 (Int.toNat_natCast _))) ?_
   simp only [ev,zD,zE,zF,zG]
   refine ql rfl (fun u m=>(Lith.lies1 (m.ext.cell hcell) agg_3)) ?_
   simp only [ev,zD,zE,zF,zG]
   refine q_val (r_rem rfl rfl (by omega) rfl) (q_val (r_max rfl rfl rfl) ?_)
   simp only [ev,zD,zE,zF,zG]
   refine q_val (r_indexAddrS Tryz.underlying22 cells_3 rfl rfl (by omega) (by omega) (addrB1 (Int.toNat_natCast _))) (q_nil ?_)
   clear m; intro u m
   simp only [ev,zD,zE,zF,zG]
   refine mstore1 m 0 rfl rfl rfl cells_3 (by rw [bsC_len (by omega)]; show i + 1 ≤ n0; omega) ⟨rfl,rfl⟩ ?_
   clear m; intro u m; simp only [ev,zD,zE,zF,zG] at m
   rw [show (if z.tmod 50 < -1 then -1 else z.tmod 50) = bsAt zs i by rw [bsAt,if_neg hzne,hlen,hz]; rfl,bsC_over (by omega)] at m
   refine n_nil (k7 _ _ ?_)
   refine wp_region_lit (n_val (r_move) ?_)
   simp only [ev,zD,zE,zF,zG]
   refine n_val (r_add rfl rfl (wrap_i64 (by omega) (by omega))) (n_val (r_assign) (n_nil ?_))
   simp only [ev,zD,zE,zF,zG]
   simp only [Exit.inBlock,Exit.then]
   refine ⟨n0 - (i + 1),_,?_,rfl,?_,?_⟩
   · omega
   · simp only [zQ,zR,zD,zE,setG_cons,setG_nil,setMany_cons,setMany_nil,zF,zG]
   ·
    simp only [zQ,zR,zD,zE]
    exact ⟨i + 1,rfl,m,by omega,fun e=>absurd e hzne,rfl⟩
  ·
   simp only [Bool.and_eq_false_iff,decide_eq_false_iff_not] at hc1
   have hlen:=hZ.len
   have hend : bsC zs i n0 = ((bsR n0 zs).map (Value.int .i64 ·)):=by
    rcases hc1 with h | h
    ·
     obtain rfl : i = n0:=by omega
     exact bsC_end
    ·
     have e : zs = []:=List.eq_nil_of_length_eq_zero (by omega)
     rw [hzi e,e]; exact bsC_zero
   rw [hend] at m
   refine wp_exit (k3 _ _ ?_)
   refine c_seq fun K8 k8=>wp_region_lit (n_val (r_move) (n_val (r_assign) (n_nil (k8 _ _ ?_))))
   refine wp_ret ?_
   simp only [ev,zD,zE,zF,zG]
   try simp only [Exit.inBlock,Exit.then,if_true]
   refine fin1 rfl rfl ?_
   try simp only [zD,zE]
   exact ⟨_,rfl,m.ext,_,_,rfl,m.bo 0 rfl (by simp [bsR]) (by simp only [maxLen]; omega)⟩
theorem sh4 (ss : List P3) (z : Int) : z < 0 ∨ z = 0 ∨ (0 < z ∧ ss = []) ∨ (0 < z ∧ ss ≠ []):=by
 by_cases h : ss = []
 ·
  by_cases hz : 0 < z
  · exact .inr (.inr (.inl ⟨hz,h⟩))
  · omega
 ·
  by_cases hz : 0 < z
  · exact .inr (.inr (.inr ⟨hz,h⟩))
  · omega
theorem shown_c {kind bits : Int} [Iw kind] [Iw bits] {q : Nat} {r : Ray} [IR r] {HA ZA PA : Option Addr} {HN Hc ZN Zc PN Pc : Nat} {hz zs : List Int} {ss : List P3} (w : World) (hH : IntsAt w HA HN hz) (hZ : IntsAt w ZA ZN zs) (hP : LAt ptC 3 w PA PN ss) (hq : q < 256) : Does Tryz.prog 12 [.agg #[.int .i64 kind,.int .i64 bits,.slice HA HN Hc,.int .u8 (q : Int),.slice ZA ZN Zc,.int .i64 r.s.x,.int .i64 r.s.y,.int .i64 r.s.z,.int .i64 r.w,.int .i64 r.d.x,.int .i64 r.d.y,.int .i64 r.d.z,.slice PA PN Pc]] w (fun v w'=>∃ A n cap hs L,v = .slice A n cap ∧ n = hs.length ∧ Mem w w' [oI 48 1 A n cap (hs.map Hd.v),rowsI L] ∧ Cov L hs (shownR ss (bsR (chunksR (1 + q % 12) 30 (baseT kind bits hz)).length zs) (chunksR (1 + q % 12) 30 (baseT kind bits hz)))):=by
 refine ⟨en_12,?_⟩
 have m:=Mem.refl w
 go_enter Tryz.func12,Tryz.ntmps12
 refine c_seq fun K1 k1=>wp_region_lit (mboxA m rfl ?_)
 clear m; intro g1 u m
 refine n_val (r_assign) (n_nil (k1 _ _ ?_))
 refine c_seq fun K2 k2=>wp_region_lit ?_
 simp only [ev,zD,zE,zF,zG]
 refine n_load rfl ((m.b 0 rfl).full agg_28 cells_28) ?_
 simp only [ev,zD,zE,zF,zG]
 refine n_call rfl rfl (clusters_c (kind:=kind) (bits:=bits) (r:=r) _ (hH.ext m.ext) (hZ.ext m.ext) (hP.ext m.ext) hq) ?_
 rintro v u e ⟨A7,n7,cap7,hs,L,rfl,hn7,hM,hcov⟩; replace m:=m.plus hM; clear hM e; simp only [List.cons_append,List.nil_append] at m
 obtain ⟨F,hF⟩ : ∃ F,F = chunksR (1 + q % 12) 30 (baseT kind bits hz):=⟨_,rfl⟩
 rw [← hF] at hcov
 have hfl : F.length ≤ 30:=by rw [hF]; exact chunks_le
 have hsm : ∀ (i : Nat) (l : List T3),F[i]? = some l → ∀ t ∈ l,SmT 200 t:=fun i l hl=>by rw [hF] at hl; exact chunk_get baseT_sm hl
 have hf12 : F.flatten.length ≤ 360:=by rw [hF]; exact Nat.le_trans flat_le (by omega)
 have hcl:=hcov.len
 refine n_val (r_assign) (n_nil (k2 _ _ ?_))
 refine c_seq fun K3 k3=>?_
 simp only [ev,zD,zE,zF,zG]
 have e7 : n7 = F.length:=by omega
 subst e7
 refine wp_region_lit (n_load rfl ((m.b 2 rfl).full agg_28 cells_28) ?_)
 simp only [ev,zD,zE,zF,zG]
 refine n_val (r_move) (n_val (r_lenS rfl Tryz.underlying29 rfl) ?_)
 simp only [ev,zD,zE,zF,zG]
 refine n_call rfl rfl (bounds_c (kind:=kind) (bits:=bits) (r:=r) (zs:=zs) (n0:=F.length) _ (hH.ext m.ext) (hZ.ext m.ext) (hP.ext m.ext) hq hfl) ?_
 rintro v u e ⟨A8,cap8,rfl,hN⟩; replace m:=m.newO e hN; clear e hN
 refine n_val (r_assign) (n_nil (k3 _ _ ?_))
 refine c_seq fun K4 k4=>c_seq fun K5 k5=>wp_region_lit (n_val (r_assign) (n_nil (k5 _ _ ?_)))
 refine wp_block ?_
 simp only [ev,zD,zE,zF,zG]
 try simp only [Nat.zero_add,Nat.reduceAdd,Nat.reduceMul,Int.reduceToNat]
 refine c_loopg [5] [6,7,14,15,16,17,18,19,20,21,22,23,24,25,26,27,28,29,30,31,32,33,34,35,36,37,38,39,40,41,42,43,44,45,46,47,48,49,50,51,52,53,54,55,56,57,58,59,60,61,62,63,64,65,66,67,68,69,70,71,72,73,74] (fun n vs wl=>∃ (i : Nat) (hs : List Hd) (L : Rws) (xs : List (List T3)),vs = [.int .i64 (i:Int)] ∧ Mem w wl [oI 3 1 A8 F.length cap8 ((bsR F.length zs).map (Value.int .i64 ·)),oI 48 1 A7 F.length cap7 (hs.map Hd.v),rowsI L,bI g1 [.int .i64 kind,.int .i64 bits,.slice HA HN Hc,.int .u8 (q : Int),.slice ZA ZN Zc,.int .i64 r.s.x,.int .i64 r.s.y,.int .i64 r.s.z,.int .i64 r.w,.int .i64 r.d.x,.int .i64 r.d.y,.int .i64 r.d.z,.slice PA PN Pc] 28] ∧ (Cov L hs xs) ∧ (hs.length = F.length) ∧ (∀ j,j < i → xs[j]? = (shownR ss (bsR F.length zs) F)[j]?) ∧ (∀ j,i ≤ j → xs[j]? = F[j]?) ∧ (i ≤ F.length) ∧ (n = F.length - i)) ?_ ?_
 ·
  apply Exists.intro
  simp only [zQ,zR,zD,zE]
  exact ⟨0,_,_,_,rfl,m,hcov,hcl,fun j h=>absurd h (Nat.not_lt_zero _),fun j _=>rfl,Nat.zero_le _,rfl⟩
 ·
  intro n vs wr hI u
  clear m
  obtain ⟨i,hs,L,xs,rfl,m,hcov,hhl,hlo,hhi,hi,hn⟩:=hI
  have hcl:=hcov.len
  simp only [setG_cons,setG_nil,setMany_cons,setMany_nil,zF,zG]
  refine c_seq fun K6 k6=>c_seq fun K7 k7=>wp_region_lit (n_val (r_move) (n_val (r_move) (n_val (r_lenS rfl Tryz.underlying29 rfl) (n_val (r_lss rfl rfl) ?_))))
  simp only [ev,zD,zE,zF,zG]
  refine n_nil (k7 _ _ ?_)
  refine c_if rfl (fun hc1=>?_) (fun hc1=>?_)
  ·
   obtain ⟨g7,rfl⟩:=(m.o 1 rfl).some (by omega)
   obtain ⟨g8,rfl⟩:=(m.o 0 rfl).some (by omega)
   obtain ⟨⟨HB,Hn,Hcp⟩,hh⟩ : ∃ h,hs[i]? = some h:=⟨_,List.getElem?_eq_getElem (by omega)⟩
   obtain ⟨l,hl⟩ : ∃ l,F[i]? = some l:=⟨_,List.getElem?_eq_getElem (by omega)⟩
   have hh2 : (hs.map Hd.v)[i]? = some (.slice HB Hn Hcp):=by rw [List.getElem?_map,hh]; rfl
   have hbz : (((bsR F.length zs).map (Value.int .i64 ·)))[i]? = some (.int .i64 (bsAt zs i)):=by rw [List.getElem?_map,bsR_get (by omega)]; rfl
   have hzb:=bsAt_bd zs i
   have hx0 : xs[i]? = some l:=by rw [hhi i (Nat.le_refl _)]; exact hl
   have hsml:=hsm i l hl
   refine wp_skip (k6 _ _ ?_)
   refine c_seq fun K8 k8=>wp_block (c_seq fun K9 k9=>c_seq fun K10 k10=>?_)
   rcases sh4 ss (bsAt zs i) with hz0 | hz0 | ⟨hz0,hss⟩ | ⟨hz0,hss⟩
   ·
    have hsa : shownAt ss (bsAt zs i) i l = []:=if_pos hz0
    have hnew : shownAt ss (bndAt (bsR F.length zs) i) i l = []:=by rw [bsR_at (by omega)]; exact hsa
    have hlo2 : ∀ j,j < i + 1 → (xs.set i [])[j]? = (shownR ss (bsR F.length zs) F)[j]?:=fun j hj=>by
     rcases Nat.lt_or_ge j i with h | h
     · rw [List.getElem?_set_ne (by omega)]; exact hlo j h
     ·
      obtain rfl : j = i:=by omega
      rw [shown_get hl,hnew]; rw [List.getElem?_set_self (by omega)]
    have hhi2 : ∀ j,i + 1 ≤ j → (xs.set i [])[j]? = F[j]?:=fun j hj=>by rw [List.getElem?_set_ne (by omega)]; exact hhi j (by omega)
    refine wp_region_lit (n_val (r_move) (n_val (r_move) ?_))
    simp only [ev,zD,zE,zF,zG]
    refine n_val (r_indexAddrS Tryz.underlying22 cells_3 rfl rfl (by omega) (by omega) (addr1 (Int.toNat_natCast _))) ?_
    simp only [ev,zD,zE,zF,zG]
    refine n_load rfl (Lith.lies1 ((m.o 0 rfl).rows i _ hbz) agg_3) ?_
    simp only [ev,zD,zE,zF,zG]
    refine n_val (r_lssT rfl rfl (by omega)) (n_nil (k10 _ _ ?_))
    refine c_yes rfl (wp_region_lit (n_val (r_move) (n_val (r_move) ?_)))
    simp only [ev,zD,zE,zF,zG]
    refine n_val (r_indexAddrS Tryz.underlying29 cells_48 rfl rfl (by omega) (by omega) (addrB1 (Int.toNat_natCast _))) ?_
    simp only [ev,zD,zE,zF,zG]
    refine mstoreO m 1 rfl rfl rfl cells_48 (by simp; omega) rfl ?_
    clear m; intro u m; simp only [zF,zG] at m
    simp only [ev,zD,zE,zF,zG] at m
    rw [show ([.slice none 0 0] : List Go.Value) = [Hd.v ⟨none,0,0⟩] from rfl,over_hd (by omega)] at m
    refine n_nil (k9 _ _ ?_)
    refine c_seq fun K11 k11=>wp_region_lit (n_val (r_move) (n_val (r_move) ?_))
    simp only [ev,zD,zE,zF,zG]
    refine n_val (r_indexAddrS Tryz.underlying22 cells_3 rfl rfl (by omega) (by omega) (addr1 (Int.toNat_natCast _))) ?_
    simp only [ev,zD,zE,zF,zG]
    refine n_load rfl (Lith.lies1 ((m.o 0 rfl).rows i _ hbz) agg_3) ?_
    simp only [ev,zD,zE,zF,zG]
    refine n_val (r_gtrF rfl rfl (by omega)) (n_val (r_move) (n_skipT rfl (n_skipT rfl ?_)))
    simp only [ev,zD,zE,zF,zG]
    refine n_skipT rfl (n_skipT rfl (n_val (r_pickF rfl) (n_nil (k11 _ _ ?_))))
    refine c_no rfl (wp_skip (k8 _ _ ?_))
    refine wp_region_lit (n_val (r_move) ?_)
    simp only [ev,zD,zE,zF,zG]
    refine n_val (r_add rfl rfl (wrap_i64 (by omega) (by omega))) (n_val (r_assign) (n_nil ?_))
    simp only [ev,zD,zE,zF,zG]
    simp only [Exit.inBlock,Exit.then]
    refine ⟨F.length - (i + 1),_,?_,rfl,?_,?_⟩
    · omega
    · simp only [zQ,zR,zD,zE,setG_cons,setG_nil,setMany_cons,setMany_nil,zF,zG]
    ·
     simp only [zQ,zR,zD,zE]
     exact ⟨i + 1,hs.set i ⟨none,0,0⟩,L,xs.set i [],rfl,m,hcov.set (Says.nil _),by rw [List.length_set]; exact hhl,hlo2,hhi2,by omega,rfl⟩
   ·
    have hsa : shownAt ss (bsAt zs i) i l = l:=by rw [shownAt,if_neg (by omega),if_neg (by omega)]
    have hnew : shownAt ss (bndAt (bsR F.length zs) i) i l = l:=by rw [bsR_at (by omega)]; exact hsa
    have hlo2 : ∀ j,j < i + 1 → (xs)[j]? = (shownR ss (bsR F.length zs) F)[j]?:=fun j hj=>by
     rcases Nat.lt_or_ge j i with h | h
     · exact hlo j h
     ·
      obtain rfl : j = i:=by omega
      rw [shown_get hl,hnew]; exact hx0
    have hhi2 : ∀ j,i + 1 ≤ j → (xs)[j]? = F[j]?:=fun j hj=>by exact hhi j (by omega)
    refine wp_region_lit (n_val (r_move) (n_val (r_move) ?_))
    simp only [ev,zD,zE,zF,zG]
    refine n_val (r_indexAddrS Tryz.underlying22 cells_3 rfl rfl (by omega) (by omega) (addr1 (Int.toNat_natCast _))) ?_
    simp only [ev,zD,zE,zF,zG]
    refine n_load rfl (Lith.lies1 ((m.o 0 rfl).rows i _ hbz) agg_3) ?_
    simp only [ev,zD,zE,zF,zG]
    refine n_val (r_lssF rfl rfl (by omega)) (n_nil (k10 _ _ ?_))
    refine c_no rfl (wp_skip (k9 _ _ ?_))
    refine c_seq fun K12 k12=>wp_region_lit (n_val (r_move) (n_val (r_move) ?_))
    simp only [ev,zD,zE,zF,zG]
    refine n_val (r_indexAddrS Tryz.underlying22 cells_3 rfl rfl (by omega) (by omega) (addr1 (Int.toNat_natCast _))) ?_
    simp only [ev,zD,zE,zF,zG]
    refine n_load rfl (Lith.lies1 ((m.o 0 rfl).rows i _ hbz) agg_3) ?_
    simp only [ev,zD,zE,zF,zG]
    refine n_val (r_gtrF rfl rfl (by omega)) (n_val (r_move) (n_skipT rfl (n_skipT rfl ?_)))
    simp only [ev,zD,zE,zF,zG]
    refine n_skipT rfl (n_skipT rfl (n_val (r_pickF rfl) (n_nil (k12 _ _ ?_))))
    refine c_no rfl (wp_skip (k8 _ _ ?_))
    refine wp_region_lit (n_val (r_move) ?_)
    simp only [ev,zD,zE,zF,zG]
    refine n_val (r_add rfl rfl (wrap_i64 (by omega) (by omega))) (n_val (r_assign) (n_nil ?_))
    simp only [ev,zD,zE,zF,zG]
    simp only [Exit.inBlock,Exit.then]
    refine ⟨F.length - (i + 1),_,?_,rfl,?_,?_⟩
    · omega
    · simp only [zQ,zR,zD,zE,setG_cons,setG_nil,setMany_cons,setMany_nil,zF,zG]
    ·
     simp only [zQ,zR,zD,zE]
     exact ⟨i + 1,hs,L,xs,rfl,m,hcov,hhl,hlo2,hhi2,by omega,rfl⟩
   ·
    have hPN : PN = 0:=by rw [← hP.len,hss]; rfl
    have hsa : shownAt ss (bsAt zs i) i l = l:=by rw [shownAt,if_neg (by omega),if_neg (fun h=>h.2 hss)]
    have hnew : shownAt ss (bndAt (bsR F.length zs) i) i l = l:=by rw [bsR_at (by omega)]; exact hsa
    have hlo2 : ∀ j,j < i + 1 → (xs)[j]? = (shownR ss (bsR F.length zs) F)[j]?:=fun j hj=>by
     rcases Nat.lt_or_ge j i with h | h
     · exact hlo j h
     ·
      obtain rfl : j = i:=by omega
      rw [shown_get hl,hnew]; exact hx0
    have hhi2 : ∀ j,i + 1 ≤ j → (xs)[j]? = F[j]?:=fun j hj=>by exact hhi j (by omega)
    refine wp_region_lit (n_val (r_move) (n_val (r_move) ?_))
    simp only [ev,zD,zE,zF,zG]
    refine n_val (r_indexAddrS Tryz.underlying22 cells_3 rfl rfl (by omega) (by omega) (addr1 (Int.toNat_natCast _))) ?_
    simp only [ev,zD,zE,zF,zG]
    refine n_load rfl (Lith.lies1 ((m.o 0 rfl).rows i _ hbz) agg_3) ?_
    simp only [ev,zD,zE,zF,zG]
    refine n_val (r_lssF rfl rfl (by omega)) (n_nil (k10 _ _ ?_))
    refine c_no rfl (wp_skip (k9 _ _ ?_))
    refine c_seq fun K13 k13=>wp_region_lit (n_val (r_move) (n_val (r_move) ?_))
    simp only [ev,zD,zE,zF,zG]
    refine n_val (r_indexAddrS Tryz.underlying22 cells_3 rfl rfl (by omega) (by omega) (addr1 (Int.toNat_natCast _))) ?_
    simp only [ev,zD,zE,zF,zG]
    refine n_load rfl (Lith.lies1 ((m.o 0 rfl).rows i _ hbz) agg_3) ?_
    simp only [ev,zD,zE,zF,zG]
    refine n_val (r_gtrT rfl rfl (by omega)) (n_val (r_move) (n_want rfl (n_val (r_fieldAddr (c:=0) Tryz.underlying28 rfl cells_26 rfl rfl) (n_want rfl ?_))))
    simp only [ev,zD,zE,zF,zG]
    refine n_load rfl ((m.b 3 rfl).lies1 agg_26 rfl) ?_
    simp only [ev,zD,zE,zF,zG]
    refine n_want rfl (n_val (r_lenS rfl Tryz.underlying26 rfl) (n_want rfl ?_))
    simp only [ev,zD,zE,zF,zG]
    refine n_val (r_gtrF rfl rfl (by omega)) (n_val (r_pickT rfl) (n_nil (k13 _ _ ?_)))
    refine c_no rfl (wp_skip (k8 _ _ ?_))
    refine wp_region_lit (n_val (r_move) ?_)
    simp only [ev,zD,zE,zF,zG]
    refine n_val (r_add rfl rfl (wrap_i64 (by omega) (by omega))) (n_val (r_assign) (n_nil ?_))
    simp only [ev,zD,zE,zF,zG]
    simp only [Exit.inBlock,Exit.then]
    refine ⟨F.length - (i + 1),_,?_,rfl,?_,?_⟩
    · omega
    · simp only [zQ,zR,zD,zE,setG_cons,setG_nil,setMany_cons,setMany_nil,zF,zG]
    ·
     simp only [zQ,zR,zD,zE]
     exact ⟨i + 1,hs,L,xs,rfl,m,hcov,hhl,hlo2,hhi2,by omega,rfl⟩
   ·
    have hPN : 0 < PN:=by rw [← hP.len]; exact List.length_pos_iff.2 hss
    have hsa : shownAt ss (bsAt zs i) i l = l.map (T3.sh (shAt ss (bsAt zs i) i)):=by rw [shownAt,if_neg (by omega),if_pos ⟨hz0,hss⟩]
    have hnew : shownAt ss (bndAt (bsR F.length zs) i) i l = l.map (T3.sh (shAt ss (bsAt zs i) i)):=by rw [bsR_at (by omega)]; exact hsa
    have hlo2 : ∀ j,j < i + 1 → (xs.set i (l.map (T3.sh (shAt ss (bsAt zs i) i))))[j]? = (shownR ss (bsR F.length zs) F)[j]?:=fun j hj=>by
     rcases Nat.lt_or_ge j i with h | h
     · rw [List.getElem?_set_ne (by omega)]; exact hlo j h
     ·
      obtain rfl : j = i:=by omega
      rw [shown_get hl,hnew]; rw [List.getElem?_set_self (by omega)]
    have hhi2 : ∀ j,i + 1 ≤ j → (xs.set i (l.map (T3.sh (shAt ss (bsAt zs i) i))))[j]? = F[j]?:=fun j hj=>by rw [List.getElem?_set_ne (by omega)]; exact hhi j (by omega)
    have hmod : i % PN < PN:=Nat.mod_lt _ hPN
    obtain ⟨p,hp,a,rfl,hrow⟩:=hP.get hmod
    have hsv : shAt ss (bsAt zs i) i = ⟨p.x.tmod ((bsAt zs i).tdiv 2 + 1),p.y.tmod ((bsAt zs i).tdiv 2 + 1),p.z.tmod ((bsAt zs i).tdiv 2 + 1)⟩:=by rw [shAt,hP.len,hp]; rfl
    have hti : (bsAt zs i).tdiv 2 = bsAt zs i / 2:=Int.tdiv_eq_ediv_of_nonneg (by omega)
    have hll : l.length ≤ 360:=by have:=take_flat hl; omega
    refine wp_region_lit (n_val (r_move) (n_val (r_move) ?_))
    simp only [ev,zD,zE,zF,zG]
    refine n_val (r_indexAddrS Tryz.underlying22 cells_3 rfl rfl (by omega) (by omega) (addr1 (Int.toNat_natCast _))) ?_
    simp only [ev,zD,zE,zF,zG]
    refine n_load rfl (Lith.lies1 ((m.o 0 rfl).rows i _ hbz) agg_3) ?_
    simp only [ev,zD,zE,zF,zG]
    refine n_val (r_lssF rfl rfl (by omega)) (n_nil (k10 _ _ ?_))
    refine c_no rfl (wp_skip (k9 _ _ ?_))
    refine c_seq fun K14 k14=>wp_region_lit (n_val (r_move) (n_val (r_move) ?_))
    simp only [ev,zD,zE,zF,zG]
    refine n_val (r_indexAddrS Tryz.underlying22 cells_3 rfl rfl (by omega) (by omega) (addr1 (Int.toNat_natCast _))) ?_
    simp only [ev,zD,zE,zF,zG]
    refine n_load rfl (Lith.lies1 ((m.o 0 rfl).rows i _ hbz) agg_3) ?_
    simp only [ev,zD,zE,zF,zG]
    refine n_val (r_gtrT rfl rfl (by omega)) (n_val (r_move) (n_want rfl (n_val (r_fieldAddr (c:=0) Tryz.underlying28 rfl cells_26 rfl rfl) (n_want rfl ?_))))
    simp only [ev,zD,zE,zF,zG]
    refine n_load rfl ((m.b 3 rfl).lies1 agg_26 rfl) ?_
    simp only [ev,zD,zE,zF,zG]
    refine n_want rfl (n_val (r_lenS rfl Tryz.underlying26 rfl) (n_want rfl ?_))
    simp only [ev,zD,zE,zF,zG]
    refine n_val (r_gtrT rfl rfl (by omega)) (n_val (r_pickT rfl) (n_nil (k14 _ _ ?_)))
    refine c_yes rfl (c_seq fun K15 k15=>?_)
    simp only [ev,zD,zE,zF,zG]
    refine wp_region_fresh 10 [0,1,2,3,4,5,6,7,8] [⟨9,6,56,[.int .i64 0,.int .i64 0,.int .i64 0]⟩] follows_mixed (by kernel_rfl) (al1 ⟨_,_,_,rfl,by kernel_rfl,_,zero_56,rfl⟩) (ol:=?_) ?hol ?_
    case hol=>simp only [zQ,zR,zS,zT,zU,zV]; try rfl
    intro u e; replace m:=m.ext' e; clear e
    refine e_val (r_fieldAddr (c:=0) Tryz.underlying28 rfl cells_26 rfl rfl) ?_
    simp only [ev,zD,zE,zF,zG]
    refine e_load rfl (fun u e=>(((m.ext' e).b 3 rfl).lies1 agg_26 rfl)) ?_
    simp only [ev,zD,zE,zF,zG]
    refine e_val (r_move) (e_val (r_fieldAddr (c:=0) Tryz.underlying28 rfl cells_26 rfl rfl) ?_)
    simp only [ev,zD,zE,zF,zG]
    refine e_load rfl (fun u e=>(((m.ext' e).b 3 rfl).lies1 agg_26 rfl)) ?_
    simp only [ev,zD,zE,zF,zG]
    refine e_val (r_lenS rfl Tryz.underlying26 rfl) ?_
    simp only [ev,zD,zE,zF,zG]
    refine e_val (r_rem rfl rfl (by omega) (show ((i : Int)).tmod (PN : Int) = ((i % PN : Nat) : Int) from rfl)) ?_
    simp only [ev,zD,zE,zF,zG]
    refine e_val (r_indexAddrS Tryz.underlying26 cells_56 rfl rfl (Int.natCast_nonneg _) (by omega) (addrN (Int.toNat_natCast _))) ?_
    simp only [ev,zD,zE,zF,zG]
    refine e_load rfl (fun u e=>(((hrow.ext (m.ext' e).ext)).lies agg_56 cells_56)) ?_
    simp only [ev,zD,zE,zF,zG]
    refine e_nil (mf1 m ?_)
    clear m; intro g2 u m
    simp only [zJ,zK,zF,zG]
    refine mstoreA m 0 rfl rfl rfl cells_56 (leT rfl) rfl ?_
    clear m; intro u m; simp only [over,zH,zI,zJ,zK,zL,zM,zN,zO,zP,zF,zG,Nat.reduceAdd] at m
    refine n_nil (k15 _ _ ?_)
    refine c_seq fun K16 k16=>wp_region_lit (n_val (r_move) (n_val (r_move) ?_))
    simp only [ev,zD,zE,zF,zG]
    refine n_val (r_indexAddrS Tryz.underlying22 cells_3 rfl rfl (by omega) (by omega) (addr1 (Int.toNat_natCast _))) ?_
    simp only [ev,zD,zE,zF,zG]
    refine n_load rfl (Lith.lies1 ((m.o 1 rfl).rows i _ hbz) agg_3) ?_
    simp only [ev,zD,zE,zF,zG]
    refine n_val (r_quo rfl rfl (by omega) (wrap_i64 (by omega) (by omega))) (n_val (r_add rfl rfl (wrap_i64 (by omega) (by omega))) (n_val (r_assign) (n_nil (k16 _ _ ?_))))
    simp only [ev,zD,zE,zF,zG]
    refine mh m [true,true,false,true,true] [(0,true),(1,true),(2,true),(3,true),(4,true),(6,true),(8,true),(10,true),(12,true),(14,true),(16,true),(7,true),(9,true),(11,true),(13,true),(15,true),(17,true),(18,true),(5,false),(19,false),(20,true),(21,false)] follows_mixed (by kernel_rfl) (panic_put (fun _ _ _ _ _ h=>h)) (ol:=?_) ?hol ?_
    case hol=>simp only [zQ,zR,zS,zT,zU,zV]; try rfl
    clear m; intro u m
    refine h_val (r_move) (h_val (r_move) (h_val (r_move) (h_val (r_move) ?_)))
    simp only [ev,zD,zE,zF,zG]
    refine h_val (r_indexAddrS Tryz.underlying29 cells_48 rfl rfl (by omega) (by omega) (addr1 (Int.toNat_natCast _))) (h_val (r_fieldAddr (c:=0) Tryz.underlying56 rfl cells_3 rfl rfl) (h_val (r_move) (h_val (r_fieldAddr (c:=0) Tryz.underlying56 rfl cells_3 rfl rfl) ?_)))
    simp only [ev,zD,zE,zF,zG]
    refine h_val (r_move) (h_val (r_fieldAddr (c:=0) Tryz.underlying56 rfl cells_3 rfl rfl) (h_val (r_move) ?_))
    simp only [ev,zD,zE,zF,zG]
    refine h_load rfl (fun u m=>((m.b 0 rfl).lies1 agg_3 rfl)) ?_
    simp only [ev,zD,zE,zF,zG]
    refine h_val (r_rem rfl rfl (by omega) rfl) ?_
    simp only [ev,zD,zE,zF,zG]
    refine h_load rfl (fun u m=>((m.b 0 rfl).lies1 agg_3 rfl)) ?_
    simp only [ev,zD,zE,zF,zG]
    refine h_val (r_rem rfl rfl (by omega) rfl) ?_
    simp only [ev,zD,zE,zF,zG]
    refine h_load rfl (fun u m=>((m.b 0 rfl).lies1 agg_3 rfl)) ?_
    simp only [ev,zD,zE,zF,zG]
    refine h_val (r_rem rfl rfl (by omega) rfl) (h_val (r_build_56_0_1_2 rfl rfl rfl) (h_step ?_))
    simp only [ev,zD,zE,zF,zG]
    refine n_load rfl (Lith.lies1 ((m.o 2 rfl).rows i _ hh2) agg_48) ?_
    simp only [ev,zD,zE,zF,zG]
    refine n_nil ?_
    refine ⟨m.sel [true,true,false,true,true],?_⟩
    refine h_step (n_call rfl rfl (Moved_c (v:=⟨p.x.tmod ((bsAt zs i).tdiv 2 + 1),p.y.tmod ((bsAt zs i).tdiv 2 + 1),p.z.tmod ((bsAt zs i).tdiv 2 + 1)⟩) _ ((hcov.at_ i _ l hh hx0).2 _ (m.l 3 rfl)) (fun t ht=>by rw [← hsv]; exact pt_sh (hsml t ht) (shAt_bd hz0 hzb.2) hzb.2) (by have:=((hcov.at_ i _ l hh hx0).2 _ (m.l 3 rfl)).len; simp only at this; omega)) ?_)
    rintro v u e ⟨A6,cap6,n6,hn6,rfl,hN⟩; replace m:=m.newO e hN; clear e hN
    rw [← hsv] at m hn6
    have hle6:=(m.o 0 rfl).le
    refine n_nil ?_
    refine ⟨m.sel [false,true,true,false,true,true],?_⟩
    simp only [ev,zD,zE,zF,zG]
    refine h_val (r_indexAddrS Tryz.underlying29 cells_48 rfl rfl (by omega) (by omega) (addrB1 (Int.toNat_natCast _))) (h_step ?_)
    simp only [ev,zD,zE,zF,zG]
    refine mstoreO m 3 rfl rfl rfl cells_48 (by simp; omega) rfl ?_
    clear m; intro u m; simp only [zF,zG] at m
    simp only [ev,zD,zE,zF,zG] at m
    rw [show ([.slice A6 n6 cap6] : List Go.Value) = [Hd.v ⟨A6,n6,cap6⟩] from rfl,over_hd (by omega)] at m
    refine n_nil ?_
    refine ⟨m.sel [false,true,true,false,true,true],?_⟩
    refine h_nil ?_
    replace m:=m.oR 0 rfl; simp only [zF,zG] at m
    replace m:=m.join 3 rfl; simp only [zF,zG] at m
    refine k8 _ _ ?_
    refine wp_region_lit (n_val (r_move) ?_)
    simp only [ev,zD,zE,zF,zG]
    refine n_val (r_add rfl rfl (wrap_i64 (by omega) (by omega))) (n_val (r_assign) (n_nil ?_))
    simp only [ev,zD,zE,zF,zG]
    simp only [Exit.inBlock,Exit.then]
    refine ⟨F.length - (i + 1),_,?_,rfl,?_,?_⟩
    · omega
    · simp only [zQ,zR,zD,zE,setG_cons,setG_nil,setMany_cons,setMany_nil,zF,zG]
    ·
     simp only [zQ,zR,zD,zE]
     exact ⟨i + 1,hs.set i ⟨A6,n6,cap6⟩,[(A6,(l.map (T3.sh (shAt ss (bsAt zs i) i))).flatMap triCells)] ++ L,xs.set i (l.map (T3.sh (shAt ss (bsAt zs i) i))),rfl,(m.sel [false,true,true,true,true]),(hcov.mono (fun e he=>List.mem_append_right _ he)).set ((says_new hn6 (fun t ht=>by obtain ⟨u,hu,rfl⟩:=List.mem_map.1 ht; exact pt_sh (hsml u hu) (shAt_bd hz0 hzb.2) hzb.2) hle6).mono (fun e he=>List.mem_append_left _ he)),by rw [List.length_set]; exact hhl,hlo2,hhi2,by omega,rfl⟩
  ·
   have hxe : xs = shownR ss (bsR F.length zs) F:=by
    apply List.ext_getElem?
    intro j
    rcases Nat.lt_or_ge j i with h | h
    · exact hlo j h
    · rw [List.getElem?_eq_none (by omega),List.getElem?_eq_none (by rw [shown_len]; omega)]
   refine wp_exit (k4 _ _ ?_)
   refine c_seq fun K17 k17=>wp_region_lit (n_val (r_move) (n_val (r_assign) (n_nil (k17 _ _ ?_))))
   refine wp_ret ?_
   simp only [ev,zD,zE,zF,zG]
   try simp only [Exit.inBlock,Exit.then,if_true]
   refine fin1 rfl rfl ?_
   try simp only [zD,zE]
   exact ⟨_,rfl,m.ext,_,_,_,hs,L,rfl,hhl.symm,m.sel [false,true,true,false],by rw [← hF,← hxe]; exact hcov⟩
end Go.Proofs.YtimjandkmfcmiaaGreatDoor
namespace Go.Lith
open Go.RowKit
/-! ### Points put into a sorted list -/
section
variable {α : Type} {p : α → Bool} {l : List α} {k : Nat}
def Pre (p : α → Bool) (l : List α) (k : Nat) : Prop:=∀ j x,j < k → l[j]? = some x → p x = true
theorem Pre.zero : Pre p l 0:=fun j _ hj=>by omega
theorem Pre.step {x : α} (h : Pre p l k) (hx : l[k]? = some x) (hp : p x = true) : Pre p l (k + 1):=fun j y hj hy=>by
  rcases Nat.lt_or_ge j k with h1 | h1
  · exact h j y h1 hy
  · obtain rfl : j = k:=by omega
    rw [hx] at hy
    cases hy
    exact hp
end
/-! ### The border -/
/-! ### Pinched corners -/
end Go.Lith
namespace Go.Proofs.YtimjandkmfcmiaaGreatDoor
open Go.RowKit Go.Lith
set_option maxRecDepth 100000
attribute [local irreducible] wpList wpQuiet wpMix wpMixH wpTree Code.wp
theorem flatten_le {m : Nat} : ∀ {xs : List (List T3)},(∀ l ∈ xs,l.length ≤ m) → xs.flatten.length ≤ xs.length * m
 | [],_=>Nat.zero_le _
 | l :: xs,h=>by
  rw [List.flatten_cons,List.length_append,List.length_cons,Nat.succ_mul]
  have h1:=h l (List.mem_cons_self ..)
  have h2:=flatten_le (xs:=xs) fun y hy=>h y (List.mem_cons_of_mem _ hy)
  omega
theorem shownAt_len {ss : List P3} {b : Int} {i : Nat} {l : List T3} : (shownAt ss b i l).length ≤ l.length:=by
 unfold shownAt
 split
 · exact Nat.zero_le _
 ·
  split
  · rw [List.length_map]; exact Nat.le_refl _
  · exact Nat.le_refl _
theorem shown_mem {ss : List P3} {bs : List Int} {F : List (List T3)} {x : List T3} (h : x ∈ shownR ss bs F) : ∃ i l,F[i]? = some l ∧ x = shownAt ss (bndAt bs i) i l:=by
 obtain ⟨i,hi⟩:=List.mem_iff_getElem?.1 h
 have hlt:=(List.getElem?_eq_some_iff.1 hi).1
 rw [shown_len] at hlt
 have hl : F[i]? = some F[i]:=List.getElem?_eq_getElem hlt
 rw [shown_get hl] at hi
 exact ⟨i,_,hl,(Option.some.inj hi).symm⟩
structure Fine (F : List (List T3)) : Prop where
 len : F.length ≤ 30
 each : ∀ l ∈ F,l.length ≤ 12
 sm : ∀ (i : Nat) (l : List T3),F[i]? = some l → ∀ t ∈ l,SmT 200 t
theorem fine_chunks {kind bits : Int} {hz : List Int} {q : Nat} : Fine (chunksR (1 + q % 12) 30 (baseT kind bits hz)) :=
 ⟨chunks_le,fun l hl=>Nat.le_trans (chunks_one hl) (by omega),fun i l hl=>chunk_get baseT_sm hl⟩
theorem Fine.flat {F : List (List T3)} (f : Fine F) : F.flatten.length ≤ 360:=by
 have h1:=flatten_le f.each
 have h2:=f.len
 omega
theorem Fine.it {F : List (List T3)} (f : Fine F) : ∀ t ∈ F.flatten,IT t:=fun t ht=>by
 obtain ⟨l,hl,htl⟩:=List.mem_flatten.1 ht
 obtain ⟨j,hj⟩:=List.mem_iff_getElem?.1 hl
 exact (f.sm j l hj t htl).it (by decide)
theorem Fine.shown {F : List (List T3)} (f : Fine F) (ss : List P3) (bs : List Int) : (shownR ss bs F).length ≤ 30 ∧ (∀ l ∈ shownR ss bs F,l.length ≤ 300000) ∧ (shownR ss bs F).flatten.length ≤ 360:=by
 have h1 : ∀ l ∈ shownR ss bs F,l.length ≤ 12:=fun x hx=>by
  obtain ⟨i,l,hl,rfl⟩:=shown_mem hx
  exact Nat.le_trans shownAt_len (f.each l (List.mem_of_getElem? hl))
 have h2:=flatten_le h1
 rw [shown_len] at h2 ⊢
 have h3:=f.len
 exact ⟨h3,fun l hl=>Nat.le_trans (h1 l hl) (by decide),by omega⟩
theorem bs_i64 {n : Nat} {zs : List Int} : ∀ z ∈ bsR n zs,I64 z:=fun z hz=>by
 have:=bsR_bd n zs z hz
 exact ⟨by omega,by omega⟩
theorem bnd_le {n : Nat} {zs : List Int} : ∀ i,i < n → bndAt (bsR n zs) i ≤ 49:=fun i hi=>by
 rw [bsR_at hi]
 exact (bsAt_bd zs i).2
theorem Fine.right {F : List (List T3)} (ss : List P3) (zs : List Int) (r : Ray) : containsR (askR r (shownR ss (bsR F.length zs) F) (bsR F.length zs)) (firstN r F.flatten):=(shows bnd_le).right r
theorem bq_ask {r : Ray} {xs : List (List T3)} {bs : List Int} [IR r] (h : ∀ l ∈ xs,∀ t ∈ l,IT t) (hb : ∀ z ∈ bs,I64 z) : Bq 400000 (askR r xs bs).lo ∧ Bq 400000 (askR r xs bs).hi:=by
 have hs : ∀ t ∈ sureL bs xs,IT t:=fun t ht=>by
  obtain ⟨i,l,hi,_,hl⟩:=mem_sure.1 ht
  exact h l (List.mem_of_getElem? hi) t hl
 have hk : ∀ x ∈ restL bs xs,KdOk x.2:=fun x hx=>by
  obtain ⟨l,hl,e,_⟩:=mem_rest.1 (show (x.1,x.2) ∈ _ from hx)
  rw [e]
  refine kd_ok (h l (List.mem_of_getElem? hl)) ?_
  unfold bndAt
  cases hz : bs[x.1]? with
  | none=>decide
  | some z=>exact (hb z (List.mem_of_getElem? hz)).2
 have z0 : Bq 400000 (0 : Rat):=⟨bd_zero _,bd_11.mono (by decide)⟩
 unfold askR
 split
 ·
  have h1:=bq_first (r:=r) hs
  have h2:=bq_lo (r:=r) (h:=firstN r (sureL bs xs)) hk
  unfold ansR
  split
  · exact ⟨h2,h1⟩
  ·
   split
   · exact ⟨z0,z0⟩
   ·
    rename_i e
    rw [e] at h1
    exact ⟨h1,h1⟩
 · exact ⟨z0,z0⟩
theorem Fine.shownIt {F : List (List T3)} (f : Fine F) (ss : List P3) (zs : List Int) : ∀ l ∈ shownR ss (bsR F.length zs) F,∀ t ∈ l,IT t:=fun x hx=>by
 obtain ⟨i,l,hl,rfl⟩:=shown_mem hx
 exact shownAt_it (bnd_le i (List.getElem?_eq_some_iff.1 hl).1) (f.sm i l hl)
end Go.Proofs.YtimjandkmfcmiaaGreatDoor
namespace Go.Proofs.YtimjandkmfcmiaaGreatDoor
open Go.RowKit Go.Lith
set_option maxRecDepth 100000
attribute [local irreducible] wpList wpQuiet wpMix wpMixH wpTree Code.wp
theorem Repl.zero {bs : List Int} {fine xs : List (List T3)} : Repl [] bs bs fine xs xs:=⟨rfl,fun i h=>(by cases h),fun i _=>⟨rfl,rfl⟩⟩
theorem bnd_set {bs : List Int} {j : Nat} (h : j < bs.length) : bndAt (bs.set j 0) j = 0:=by
  rw [bndAt,List.getElem?_set_self h]; rfl
theorem bnd_ne {bs : List Int} {j k : Nat} (h : j ≠ k) : bndAt (bs.set j 0) k = bndAt bs k:=by
  rw [bndAt,List.getElem?_set_ne h]; rfl
theorem Repl.step {os bs bs' : List Int} {fine xs xs' : List (List T3)} {i j : Nat} {l : List T3} (p : Repl (os.take i) bs bs' fine xs xs') (hi : os[i]? = some (j : Int)) (hl : fine[j]? = some l) (h1 : j < xs'.length) (h2 : j < bs'.length) :
    Repl (os.take (i + 1)) bs (bs'.set j 0) fine xs (xs'.set j l):=by
  rw [take_one' hi]
  refine ⟨by rw [List.length_set]; exact p.len,fun k hk=>?_,fun k hk=>?_⟩
  · by_cases e : j = k
    · subst e
      exact ⟨by rw [List.getElem?_set_self h1,hl],bnd_set h2⟩
    · have hk' : (k : Int) ∈ os.take i:=by
        rcases List.mem_append.1 hk with h | h
        · exact h
        · have:=List.mem_singleton.1 h; omega
      rw [List.getElem?_set_ne e,bnd_ne e]
      exact p.on k hk'
  · have hk' : (k : Int) ∉ os.take i:=fun h=>hk (List.mem_append_left _ h)
    have e : j ≠ k:=fun e=>hk (List.mem_append_right _ (by rw [e]; exact List.mem_singleton.2 rfl))
    rw [List.getElem?_set_ne e,bnd_ne e]
    exact p.off k hk'
theorem over_int {bs : List Int} {j : Nat} {z : Int} (h : j < bs.length) : over (bs.map (Value.int .i64 ·)) j [.int .i64 z] = (bs.set j z).map (Value.int .i64 ·):=by
  apply List.ext_getElem?
  intro k
  unfold over
  rw [List.getElem?_map,List.getElem?_set,List.append_assoc]
  rcases Nat.lt_trichotomy k j with hj | hj | hj
  · rw [List.getElem?_append_left (by rw [List.length_take,List.length_map]; omega),List.getElem?_take_of_lt hj,List.getElem?_map,if_neg (by omega)]
  · subst hj
    rw [List.getElem?_append_right (by rw [List.length_take]; omega),List.length_take,List.length_map,Nat.min_eq_left (by omega),Nat.sub_self,if_pos rfl,if_pos h]
    rfl
  · rw [List.getElem?_append_right (by rw [List.length_take,List.length_map]; omega),List.length_take,List.length_map,Nat.min_eq_left (by omega),if_neg (by omega),List.getElem?_append_right (by simp; omega),List.getElem?_drop,List.getElem?_map]
    congr 2
    simp
    omega
end Go.Proofs.YtimjandkmfcmiaaGreatDoor
namespace Go.Proofs.YtimjandkmfcmiaaGreatDoor
open Go.RowKit Go.Lith
set_option maxRecDepth 100000
attribute [local irreducible] wpList wpQuiet wpMix wpMixH wpTree Code.wp
def wid (mo : Int) (bs : List Int) (i : Nat) : List Int:=(bs.take i).map (widerB mo) ++ bs.drop i
theorem wid_len {mo : Int} {bs : List Int} {i : Nat} : (wid mo bs i).length = bs.length:=by
  simp [wid]; omega
theorem wid_get {mo z : Int} {bs : List Int} {i : Nat} (h : bs[i]? = some z) : (wid mo bs i)[i]? = some z:=by
  have hi:=(List.getElem?_eq_some_iff.1 h).1
  rw [wid,List.getElem?_append_right (by simp; omega),List.getElem?_drop]
  simp only [List.length_map,List.length_take,Nat.min_eq_left (Nat.le_of_lt hi),Nat.sub_self,Nat.add_zero]
  exact h
theorem wid_set {mo z : Int} {bs : List Int} {i : Nat} (h : bs[i]? = some z) : (wid mo bs i).set i (widerB mo z) = wid mo bs (i + 1):=by
  have hi:=(List.getElem?_eq_some_iff.1 h).1
  have hd : bs.drop i = z :: bs.drop (i + 1):=by
    rw [List.drop_eq_getElem_cons hi]
    congr 1
    exact (List.getElem?_eq_some_iff.1 h).2
  rw [wid,wid,take_one' h,List.map_append,List.append_assoc,hd,List.set_append_right _ _ (by simp; omega)]
  congr 1
  simp only [List.length_map,List.length_take,Nat.min_eq_left (Nat.le_of_lt hi),Nat.sub_self]
  rfl
theorem wid_end {mo : Int} {bs : List Int} : wid mo bs bs.length = bs.map (widerB mo):=by simp [wid]
theorem wid_zero {mo : Int} {bs : List Int} : wid mo bs 0 = bs:=by simp [wid]
theorem set_self' {bs : List Int} {i : Nat} {z : Int} (h : bs[i]? = some z) : bs.set i z = bs:=by
  apply List.ext_getElem?
  intro j
  rw [List.getElem?_set]
  split
  · rename_i e
    subst e
    rw [if_pos (List.getElem?_eq_some_iff.1 h).1,h]
  · rfl
theorem int_one (bs : List Int) : ∀ u ∈ bs.map (Value.int .i64 ·),u.oneCell' = true:=fun u hu=>by
  obtain ⟨z,_,rfl⟩:=List.mem_map.1 hu
  rfl
theorem wider_i64 {mo : Int} (hm : 0 ≤ mo ∧ mo < 256) {n : Nat} {zs : List Int} : ∀ z ∈ (bsR n zs).map (widerB mo),I64 z:=fun z hz=>by
  obtain ⟨y,hy,rfl⟩:=List.mem_map.1 hz
  have:=bsR_bd n zs y hy
  unfold widerB
  split
  · split
    · exact ⟨by decide,by decide⟩
    · exact ⟨by omega,by omega⟩
  · exact ⟨by omega,by omega⟩
theorem w4 (z mo : Int) : (¬ 0 < z ∧ mo % 5 = 4) ∨ (¬ 0 < z ∧ ¬ mo % 5 = 4) ∨ (0 < z ∧ ¬ mo % 5 = 4) ∨ (0 < z ∧ mo % 5 = 4):=by omega
theorem qcmp_le {p q : Rat} (h : p ≤ q) : qcmp p q ≤ 0:=Int.not_lt.1 (mt qcmp_gt.1 (Rat.not_lt.2 h))
theorem mem_step {l : List Int} {k : Nat} {y z : Int} (h : l[k]? = some y) : (decide (z ∈ l.take k) || decide (y = z)) = decide (z ∈ l.take (k + 1)):=by
  rw [take_one' h,← Bool.decide_or]
  refine decide_eq_decide.2 ?_
  rw [List.mem_append,List.mem_singleton]
  exact or_congr Iff.rfl eq_comm
theorem TraceWider_c {kind bits : Int} [Iw kind] [Iw bits] {q : Nat} {r : Ray} [IR r] {HA ZA PA : Option Addr} {HN Hc ZN Zc PN Pc : Nat} {hz zs : List Int} {ss : List P3} {mo : Int} (w : World) (hH : IntsAt w HA HN hz) (hZ : IntsAt w ZA ZN zs) (hP : LAt ptC 3 w PA PN ss) (hq : q < 256) (hm : 0 ≤ mo ∧ mo < 256) : Does Tryz.prog 7 [.agg #[.int .i64 kind,.int .i64 bits,.slice HA HN Hc,.int .u8 (q : Int),.slice ZA ZN Zc,.int .i64 r.s.x,.int .i64 r.s.y,.int .i64 r.s.z,.int .i64 r.w,.int .i64 r.d.x,.int .i64 r.d.y,.int .i64 r.d.z,.slice PA PN Pc],.int .u8 mo] w (fun v _=>v = .bool true):=by
  refine ⟨en_7,?_⟩
  have m:=Mem.refl w
  have e5 : mo.tmod 5 = mo % 5:=Int.tmod_eq_emod_of_nonneg hm.1
  go_enter Tryz.func7,Tryz.ntmps7
  refine c_seq fun K1 k1=>wp_region_lit (mboxA m rfl ?_)
  clear m; intro g1 u m
  refine n_val (r_assign) (n_nil (k1 _ _ ?_))
  try clear k1 K1
  refine c_seq fun K2 k2=>wp_region_lit ?_
  simp only [zA,zB,zC,zD,zE,zF,zG]
  refine mcallP m rfl rfl (sanity_c) ?_
  clear m; intro u m
  refine n_val (r_assign) (n_nil (k2 _ _ ?_))
  try clear k2 K2
  refine c_seq fun K3 k3=>wp_region_lit ?_
  simp only [zA,zB,zC,zD,zE,zF,zG]
  refine n_load rfl ((m.b 0 rfl).full agg_28 cells_28) ?_
  simp only [zA,zB,zC,zD,zE,zF,zG]
  refine n_call rfl rfl (shown_c (kind:=kind) (bits:=bits) (r:=r) (zs:=zs) (ss:=ss) (hz:=hz) _ (hH.ext m.ext) (hZ.ext m.ext) (hP.ext m.ext) hq) ?_
  rintro v u e ⟨A7,n7,cap7,hs,L,rfl,hn7,hM,hcov⟩; replace m:=m.plus hM; clear hM e; simp only [List.cons_append,List.nil_append] at m
  obtain ⟨F,hF⟩ : ∃ F,F = chunksR (1 + q % 12) 30 (baseT kind bits hz):=⟨_,rfl⟩
  have hfn : Fine F:=by rw [hF]; exact fine_chunks
  rw [← hF] at hcov
  have hcl:=hcov.len
  rw [shown_len] at hcl
  have e7 : n7 = F.length:=hn7.trans hcl
  subst e7
  have hfs:=hfn.shown ss (bsR F.length zs)
  have hfl:=hfn.len
  refine n_val (r_assign) (n_nil (k3 _ _ ?_))
  try clear k3 K3
  refine c_seq fun K4 k4=>wp_region_lit ?_
  simp only [zA,zB,zC,zD,zE,zF,zG]
  refine n_load rfl ((m.b 2 rfl).full agg_28 cells_28) ?_
  simp only [zA,zB,zC,zD,zE,zF,zG]
  refine n_val (r_move) (n_val (r_lenS rfl Tryz.underlying29 rfl) ?_)
  simp only [zA,zB,zC,zD,zE,zF,zG]
  refine n_call rfl rfl (bounds_c (n0:=F.length) (kind:=kind) (bits:=bits) (r:=r) (zs:=zs) (ss:=ss) (hz:=hz) _ (hH.ext m.ext) (hZ.ext m.ext) (hP.ext m.ext) hq hfl) ?_
  rintro v u e ⟨A8,cap8,rfl,hN⟩; replace m:=m.newO e hN; clear e hN
  refine n_val (r_assign) (n_nil (k4 _ _ ?_))
  try clear k4 K4
  refine c_seq fun K5 k5=>wp_region_lit ?_
  simp only [zA,zB,zC,zD,zE,zF,zG]
  refine n_build0 Tryz.underlying22 (c:=1) (by kernel_rfl)  ?_
  intro u g2 e hg hB; replace m:=m.newB e hg hB; clear e hg hB
  simp only [zA,zB,zC,zD,zE,zF,zG]
  replace m:=m.own 0 rfl (n:=0) (c:=1) rfl (leT rfl); simp only [zG] at m
  refine n_val (r_move) ?_
  simp only [zA,zB,zC,zD,zE,zF,zG]
  refine mappend m 0 rfl rfl Tryz.underlying22 inf_3 rfl (by decide) rfl rfl (m.o 1 rfl).own.1 (m.o 1 rfl).row (int_one _) (by omega) (by omega) ?_
  clear m; intro A5 cap5 u m; simp only [zF,zG] at m
  simp only [Nat.zero_add,List.nil_append] at m ⊢
  refine n_val (r_assign) (n_nil (k5 _ _ ?_))
  try clear k5 K5
  refine c_seq fun K6 k6=>c_seq fun K7 k7=>wp_region_lit (n_val (r_assign) (n_nil (k7 _ _ ?_)))
  try clear k7 K7
  refine wp_block ?_
  simp only [zA,zB,zC,zD,zE,zF,zG]
  try simp only [Nat.zero_add,Nat.reduceAdd,Nat.reduceMul,Int.reduceToNat]
  refine c_loopg [9] [25,26,27,28,29,30,31,32,33,34,35,36,37,38,39,40,41,42,43,44,45,46,47,48,49,50,51,52,53,54,55,56,57,58] (fun n vs wl=>∃ (i : Nat),vs = [.int .i64 (i:Int)] ∧ Mem w wl [oI 3 1 A5 F.length cap5 ((wid mo (bsR F.length zs) i).map (Value.int .i64 ·)),oI 3 1 A8 F.length cap8 ((bsR F.length zs).map (Value.int .i64 ·)),oI 48 1 A7 F.length cap7 (hs.map Hd.v),rowsI L,bI g1 [.int .i64 kind,.int .i64 bits,.slice HA HN Hc,.int .u8 (q : Int),.slice ZA ZN Zc,.int .i64 r.s.x,.int .i64 r.s.y,.int .i64 r.s.z,.int .i64 r.w,.int .i64 r.d.x,.int .i64 r.d.y,.int .i64 r.d.z,.slice PA PN Pc] 28] ∧ (i ≤ F.length) ∧ (n = F.length - i)) ?_ ?_
  · skip
    apply Exists.intro
    simp only [zQ,zR,zD,zE]
    exact ⟨0,rfl,(m.reO 0 rfl (by rw [wid_zero]; exact (m.o 0 rfl))),Nat.zero_le _,rfl⟩
  · intro n vs wr hI u
    clear m
    obtain ⟨i,rfl,m,hi,hn⟩:=hI
    simp only [setG_cons,setG_nil,setMany_cons,setMany_nil,zF,zG]
    refine c_seq fun K8 k8=>c_seq fun K9 k9=>wp_region_lit (n_val (r_move) (n_val (r_move) (n_val (r_lenS rfl Tryz.underlying22 rfl) (n_val (r_lss rfl rfl) ?_))))
    simp only [zA,zB,zC,zD,zE,zF,zG]
    refine n_nil (k9 _ _ ?_)
    try clear k9 K9
    refine c_if rfl (fun hc1=>?_) (fun hc1=>?_)
    · skip
      obtain ⟨g5,rfl⟩:=(m.o 0 rfl).some (by omega)
      obtain ⟨z,hz⟩ : ∃ z,((bsR F.length zs))[i]? = some z:=⟨_,List.getElem?_eq_getElem (by rw [bsR_len]; omega)⟩
      have hz2 : (((wid mo (bsR F.length zs) i).map (Value.int .i64 ·)))[i]? = some (.int .i64 z):=by rw [List.getElem?_map,wid_get hz]; rfl
      have hzb:=bsR_bd _ _ z (List.mem_of_getElem? hz)
      have hset:=wid_set (mo:=mo) hz
      refine wp_skip (k8 _ _ ?_)
      try clear k8 K8
      refine c_seq fun K10 k10=>wp_block (c_seq fun K11 k11=>c_seq fun K12 k12=>?_)
      rcases w4 z mo with ⟨hz0,h4⟩ | ⟨hz0,h4⟩ | ⟨hz0,h4⟩ | ⟨hz0,h4⟩
      · skip
        have hzw : widerB mo z = z:=by rw [widerB,if_neg hz0]
        rw [hzw] at hset
        refine wp_region_lit (n_val (r_move) (n_val (r_move) ?_))
        simp only [zA,zB,zC,zD,zE,zF,zG]
        refine n_val (r_indexAddrS Tryz.underlying22 cells_3 rfl rfl (by omega) (by omega) (addr1 (Int.toNat_natCast _))) ?_
        simp only [zA,zB,zC,zD,zE,zF,zG]
        refine n_load rfl (Lith.lies1 ((m.o 0 rfl).rows i _ hz2) agg_3) ?_
        simp only [zA,zB,zC,zD,zE,zF,zG]
        refine n_val (r_gtrF rfl rfl (by omega)) (n_nil (k12 _ _ ?_))
        try clear k12 K12
        refine c_no rfl (wp_skip (k11 _ _ ?_))
        try clear k11 K11
        refine c_seq fun K13 k13=>wp_region_lit (n_val (r_move) ?_)
        simp only [zA,zB,zC,zD,zE,zF,zG]
        refine n_val (r_rem rfl rfl (by omega) rfl) (n_val (r_eqlT rfl rfl (by omega)) (n_val (r_move) (n_want rfl (n_val (r_move) ?_))))
        simp only [zA,zB,zC,zD,zE,zF,zG]
        refine n_want rfl (n_val (r_move) (n_want rfl ?_))
        simp only [zA,zB,zC,zD,zE,zF,zG]
        refine n_val (r_indexAddrS Tryz.underlying22 cells_3 rfl rfl (by omega) (by omega) (addr1 (Int.toNat_natCast _))) (n_want rfl ?_)
        simp only [zA,zB,zC,zD,zE,zF,zG]
        refine n_load rfl (Lith.lies1 ((m.o 0 rfl).rows i _ hz2) agg_3) ?_
        simp only [zA,zB,zC,zD,zE,zF,zG]
        refine n_want rfl (n_val (r_gtrF rfl rfl (by omega)) (n_val (r_pickT rfl) (n_nil (k13 _ _ ?_))))
        try clear k13 K13
        refine c_no rfl (wp_skip (k10 _ _ ?_))
        try clear k10 K10
        refine wp_region_lit (n_val (r_move) ?_)
        simp only [zA,zB,zC,zD,zE,zF,zG]
        refine n_val (r_add rfl rfl (wrap_i64 (by omega) (by omega))) (n_val (r_assign) (n_nil ?_))
        simp only [zA,zB,zC,zD,zE,zF,zG]
        simp only [Exit.inBlock,Exit.then]
        refine ⟨F.length - (i + 1),_,?_,rfl,?_,?_⟩
        · omega
        · simp only [zQ,zR,zD,zE,setG_cons,setG_nil,setMany_cons,setMany_nil,zF,zG]
        · simp only [zQ,zR,zD,zE]
          exact ⟨i + 1,rfl,(m.reO 0 rfl (by rw [← hset,set_self' (wid_get hz)]; exact (m.o 0 rfl))),by omega,rfl⟩
      · skip
        have hzw : widerB mo z = z:=by rw [widerB,if_neg hz0]
        rw [hzw] at hset
        refine wp_region_lit (n_val (r_move) (n_val (r_move) ?_))
        simp only [zA,zB,zC,zD,zE,zF,zG]
        refine n_val (r_indexAddrS Tryz.underlying22 cells_3 rfl rfl (by omega) (by omega) (addr1 (Int.toNat_natCast _))) ?_
        simp only [zA,zB,zC,zD,zE,zF,zG]
        refine n_load rfl (Lith.lies1 ((m.o 0 rfl).rows i _ hz2) agg_3) ?_
        simp only [zA,zB,zC,zD,zE,zF,zG]
        refine n_val (r_gtrF rfl rfl (by omega)) (n_nil (k12 _ _ ?_))
        try clear k12 K12
        refine c_no rfl (wp_skip (k11 _ _ ?_))
        try clear k11 K11
        refine c_seq fun K14 k14=>wp_region_lit (n_val (r_move) ?_)
        simp only [zA,zB,zC,zD,zE,zF,zG]
        refine n_val (r_rem rfl rfl (by omega) rfl) (n_val (r_eqlF rfl rfl (by omega)) (n_val (r_move) (n_skipT rfl ?_)))
        simp only [zA,zB,zC,zD,zE,zF,zG]
        refine n_skipT rfl (n_skipT rfl (n_skipT rfl (n_skipT rfl ?_)))
        simp only [zA,zB,zC,zD,zE,zF,zG]
        refine n_val (r_pickF rfl) (n_nil (k14 _ _ ?_))
        try clear k14 K14
        refine c_no rfl (wp_skip (k10 _ _ ?_))
        try clear k10 K10
        refine wp_region_lit (n_val (r_move) ?_)
        simp only [zA,zB,zC,zD,zE,zF,zG]
        refine n_val (r_add rfl rfl (wrap_i64 (by omega) (by omega))) (n_val (r_assign) (n_nil ?_))
        simp only [zA,zB,zC,zD,zE,zF,zG]
        simp only [Exit.inBlock,Exit.then]
        refine ⟨F.length - (i + 1),_,?_,rfl,?_,?_⟩
        · omega
        · simp only [zQ,zR,zD,zE,setG_cons,setG_nil,setMany_cons,setMany_nil,zF,zG]
        · simp only [zQ,zR,zD,zE]
          exact ⟨i + 1,rfl,(m.reO 0 rfl (by rw [← hset,set_self' (wid_get hz)]; exact (m.o 0 rfl))),by omega,rfl⟩
      · skip
        have hzw : widerB mo z = z + mo:=by rw [widerB,if_pos hz0,if_neg h4]
        rw [hzw] at hset
        refine wp_region_lit (n_val (r_move) (n_val (r_move) ?_))
        simp only [zA,zB,zC,zD,zE,zF,zG]
        refine n_val (r_indexAddrS Tryz.underlying22 cells_3 rfl rfl (by omega) (by omega) (addr1 (Int.toNat_natCast _))) ?_
        simp only [zA,zB,zC,zD,zE,zF,zG]
        refine n_load rfl (Lith.lies1 ((m.o 0 rfl).rows i _ hz2) agg_3) ?_
        simp only [zA,zB,zC,zD,zE,zF,zG]
        refine n_val (r_gtrT rfl rfl (by omega)) (n_nil (k12 _ _ ?_))
        try clear k12 K12
        refine c_yes rfl (wp_region_lit (n_val (r_move) (n_val (r_move) (n_val (r_move) ?_))))
        simp only [zA,zB,zC,zD,zE,zF,zG]
        refine n_val (r_move) ?_
        simp only [zA,zB,zC,zD,zE,zF,zG]
        refine n_val (r_indexAddrS Tryz.underlying22 cells_3 rfl rfl (by omega) (by omega) (addr1 (Int.toNat_natCast _))) ?_
        simp only [zA,zB,zC,zD,zE,zF,zG]
        refine n_load rfl (Lith.lies1 ((m.o 0 rfl).rows i _ hz2) agg_3) ?_
        simp only [zA,zB,zC,zD,zE,zF,zG]
        refine n_val (r_move) (n_val (r_conv Tryz.underlying3 Tryz.underlying5 rfl (wrap_i64 (by omega) (by omega))) (n_val (r_add rfl rfl (wrap_i64 (by omega) (by omega))) ?_))
        simp only [zA,zB,zC,zD,zE,zF,zG]
        refine n_val (r_indexAddrS Tryz.underlying22 cells_3 rfl rfl (by omega) (by omega) (addrB1 (Int.toNat_natCast _))) ?_
        simp only [zA,zB,zC,zD,zE,zF,zG]
        refine mstoreO m 0 rfl rfl rfl cells_3 (by simp [wid]; omega) rfl ?_
        clear m; intro u m; simp only [zF,zG] at m
        simp only [zA,zB,zC,zD,zE,zF,zG] at m
        rw [over_int (by rw [wid_len,bsR_len]; omega)] at m
        refine n_nil (k11 _ _ ?_)
        try clear k11 K11
        refine c_seq fun K15 k15=>wp_region_lit (n_val (r_move) ?_)
        simp only [zA,zB,zC,zD,zE,zF,zG]
        refine n_val (r_rem rfl rfl (by omega) rfl) (n_val (r_eqlF rfl rfl (by omega)) (n_val (r_move) (n_skipT rfl ?_)))
        simp only [zA,zB,zC,zD,zE,zF,zG]
        refine n_skipT rfl (n_skipT rfl (n_skipT rfl (n_skipT rfl ?_)))
        simp only [zA,zB,zC,zD,zE,zF,zG]
        refine n_val (r_pickF rfl) (n_nil (k15 _ _ ?_))
        try clear k15 K15
        refine c_no rfl (wp_skip (k10 _ _ ?_))
        try clear k10 K10
        refine wp_region_lit (n_val (r_move) ?_)
        simp only [zA,zB,zC,zD,zE,zF,zG]
        refine n_val (r_add rfl rfl (wrap_i64 (by omega) (by omega))) (n_val (r_assign) (n_nil ?_))
        simp only [zA,zB,zC,zD,zE,zF,zG]
        simp only [Exit.inBlock,Exit.then]
        refine ⟨F.length - (i + 1),_,?_,rfl,?_,?_⟩
        · omega
        · simp only [zQ,zR,zD,zE,setG_cons,setG_nil,setMany_cons,setMany_nil,zF,zG]
        · simp only [zQ,zR,zD,zE]
          exact ⟨i + 1,rfl,(m.reO 0 rfl (by rw [← hset]; exact (m.o 0 rfl))),by omega,rfl⟩
      · skip
        have hzw : widerB mo z = -1:=by rw [widerB,if_pos hz0,if_pos h4]
        rw [hzw] at hset
        have hz3 : (((wid mo (bsR F.length zs) i).set i (z + mo)).map (Value.int .i64 ·))[i]? = some (.int .i64 (z + mo)):=by rw [List.getElem?_map,List.getElem?_set_self (by rw [wid_len,bsR_len]; omega)]; rfl
        refine wp_region_lit (n_val (r_move) (n_val (r_move) ?_))
        simp only [zA,zB,zC,zD,zE,zF,zG]
        refine n_val (r_indexAddrS Tryz.underlying22 cells_3 rfl rfl (by omega) (by omega) (addr1 (Int.toNat_natCast _))) ?_
        simp only [zA,zB,zC,zD,zE,zF,zG]
        refine n_load rfl (Lith.lies1 ((m.o 0 rfl).rows i _ hz2) agg_3) ?_
        simp only [zA,zB,zC,zD,zE,zF,zG]
        refine n_val (r_gtrT rfl rfl (by omega)) (n_nil (k12 _ _ ?_))
        try clear k12 K12
        refine c_yes rfl (wp_region_lit (n_val (r_move) (n_val (r_move) (n_val (r_move) ?_))))
        simp only [zA,zB,zC,zD,zE,zF,zG]
        refine n_val (r_move) ?_
        simp only [zA,zB,zC,zD,zE,zF,zG]
        refine n_val (r_indexAddrS Tryz.underlying22 cells_3 rfl rfl (by omega) (by omega) (addr1 (Int.toNat_natCast _))) ?_
        simp only [zA,zB,zC,zD,zE,zF,zG]
        refine n_load rfl (Lith.lies1 ((m.o 0 rfl).rows i _ hz2) agg_3) ?_
        simp only [zA,zB,zC,zD,zE,zF,zG]
        refine n_val (r_move) (n_val (r_conv Tryz.underlying3 Tryz.underlying5 rfl (wrap_i64 (by omega) (by omega))) (n_val (r_add rfl rfl (wrap_i64 (by omega) (by omega))) ?_))
        simp only [zA,zB,zC,zD,zE,zF,zG]
        refine n_val (r_indexAddrS Tryz.underlying22 cells_3 rfl rfl (by omega) (by omega) (addrB1 (Int.toNat_natCast _))) ?_
        simp only [zA,zB,zC,zD,zE,zF,zG]
        refine mstoreO m 0 rfl rfl rfl cells_3 (by simp [wid]; omega) rfl ?_
        clear m; intro u m; simp only [zF,zG] at m
        simp only [zA,zB,zC,zD,zE,zF,zG] at m
        rw [over_int (by rw [wid_len,bsR_len]; omega)] at m
        refine n_nil (k11 _ _ ?_)
        try clear k11 K11
        refine c_seq fun K16 k16=>wp_region_lit (n_val (r_move) ?_)
        simp only [zA,zB,zC,zD,zE,zF,zG]
        refine n_val (r_rem rfl rfl (by omega) rfl) (n_val (r_eqlT rfl rfl (by omega)) (n_val (r_move) (n_want rfl (n_val (r_move) ?_))))
        simp only [zA,zB,zC,zD,zE,zF,zG]
        refine n_want rfl (n_val (r_move) (n_want rfl ?_))
        simp only [zA,zB,zC,zD,zE,zF,zG]
        refine n_val (r_indexAddrS Tryz.underlying22 cells_3 rfl rfl (by omega) (by omega) (addr1 (Int.toNat_natCast _))) (n_want rfl ?_)
        simp only [zA,zB,zC,zD,zE,zF,zG]
        refine n_load rfl (Lith.lies1 ((m.o 0 rfl).rows i _ hz3) agg_3) ?_
        simp only [zA,zB,zC,zD,zE,zF,zG]
        refine n_want rfl (n_val (r_gtrT rfl rfl (by omega)) (n_val (r_pickT rfl) (n_nil (k16 _ _ ?_))))
        try clear k16 K16
        refine c_yes rfl (wp_region_lit (n_val (r_move) (n_val (r_move) ?_)))
        simp only [zA,zB,zC,zD,zE,zF,zG]
        refine n_val (r_indexAddrS Tryz.underlying22 cells_3 rfl rfl (by omega) (by omega) (addrB1 (Int.toNat_natCast _))) ?_
        simp only [zA,zB,zC,zD,zE,zF,zG]
        refine mstoreO m 0 rfl rfl rfl cells_3 (by simp [wid]; omega) rfl ?_
        clear m; intro u m; simp only [zF,zG] at m
        simp only [zA,zB,zC,zD,zE,zF,zG] at m
        rw [over_int (by rw [List.length_set,wid_len,bsR_len]; omega)] at m
        rw [List.set_set] at m
        refine n_nil (k10 _ _ ?_)
        try clear k10 K10
        refine wp_region_lit (n_val (r_move) ?_)
        simp only [zA,zB,zC,zD,zE,zF,zG]
        refine n_val (r_add rfl rfl (wrap_i64 (by omega) (by omega))) (n_val (r_assign) (n_nil ?_))
        simp only [zA,zB,zC,zD,zE,zF,zG]
        simp only [Exit.inBlock,Exit.then]
        refine ⟨F.length - (i + 1),_,?_,rfl,?_,?_⟩
        · omega
        · simp only [zQ,zR,zD,zE,setG_cons,setG_nil,setMany_cons,setMany_nil,zF,zG]
        · simp only [zQ,zR,zD,zE]
          exact ⟨i + 1,rfl,(m.reO 0 rfl (by rw [← hset]; exact (m.o 0 rfl))),by omega,rfl⟩
    · skip
      obtain rfl : i = F.length:=by omega
      have hwe : (wid mo (bsR F.length zs) F.length) = ((bsR F.length zs).map (widerB mo)):=by have:=wid_end (mo:=mo) (bs:=(bsR F.length zs)); rwa [bsR_len] at this
      rw [hwe] at m
      refine wp_exit (k6 _ _ ?_)
      try clear k6 K6
      refine c_seq fun K17 k17=>wp_region_lit (n_val (r_fieldAddr (c:=6) Tryz.underlying28 rfl cells_25 rfl rfl) ?_)
      simp only [zA,zB,zC,zD,zE,zF,zG]
      refine n_load rfl ((m.b 4 rfl).lies agg_25 cells_25 rfl rfl) ?_
      simp only [zA,zB,zC,zD,zE,zF,zG,zH,zI,zJ,zK,Nat.zero_add,Nat.reduceAdd,Nat.reduceMul,Int.reduceToNat]
      refine n_val (r_move) (n_val (r_move) ?_)
      simp only [zA,zB,zC,zD,zE,zF,zG]
      refine n_call rfl rfl (Ask_c (r:=r) (xs:=(shownR ss (bsR F.length zs) F)) (bs:=(bsR F.length zs)) _ (m.lists hcov 2 3 rfl rfl) (ints_ow (m.o 1 rfl) bs_i64) (by omega) (by omega) hfs.2.1) ?_
      rintro v u e ⟨A9,n9,cap9,rfl,hna9,hN⟩; replace m:=m.newO e hN; clear e hN
      simp only [zA,zB,zC,zD,zE,zF,zG]
      refine malloc m zero_39 rfl ?_
      clear m; intro g3 u m
      simp only [zA,zB,zC,zD,zE,zF,zG]
      refine mstoreA m 0 rfl rfl rfl cells_39 (leT rfl) rfl ?_
      clear m; intro u m; simp only [over,zH,zI,zJ,zK,zL,zM,zN,zO,zP,zF,zG,Nat.reduceAdd] at m
      refine n_nil (k17 _ _ ?_)
      try clear k17 K17
      refine c_seq fun K18 k18=>wp_region_lit (n_val (r_fieldAddr (c:=6) Tryz.underlying28 rfl cells_25 rfl rfl) ?_)
      simp only [zA,zB,zC,zD,zE,zF,zG]
      refine n_load rfl ((m.b 6 rfl).lies agg_25 cells_25 rfl rfl) ?_
      simp only [zA,zB,zC,zD,zE,zF,zG,zH,zI,zJ,zK,Nat.zero_add,Nat.reduceAdd,Nat.reduceMul,Int.reduceToNat]
      refine n_val (r_move) (n_val (r_move) ?_)
      simp only [zA,zB,zC,zD,zE,zF,zG]
      refine n_call rfl rfl (Ask_c (r:=r) (xs:=(shownR ss (bsR F.length zs) F)) (bs:=((bsR F.length zs).map (widerB mo))) _ (m.lists hcov 4 5 rfl rfl) (ints_ow (m.o 2 rfl) (wider_i64 hm)) (by omega) (by omega) hfs.2.1) ?_
      rintro v u e ⟨A3,n3,cap3,rfl,hna3,hN⟩; replace m:=m.newO e hN; clear e hN
      simp only [zA,zB,zC,zD,zE,zF,zG]
      refine malloc m zero_39 rfl ?_
      clear m; intro g4 u m
      simp only [zA,zB,zC,zD,zE,zF,zG]
      refine mstoreA m 0 rfl rfl rfl cells_39 (leT rfl) rfl ?_
      clear m; intro u m; simp only [over,zH,zI,zJ,zK,zL,zM,zN,zO,zP,zF,zG,Nat.reduceAdd] at m
      refine n_nil (k18 _ _ ?_)
      try clear k18 K18
      refine c_seq fun K19 k19=>c_seq fun K20 k20=>?_
      have hwr:=wider_right (wider_map hm.1 (bsR F.length zs)) r (ls:=(shownR ss (bsR F.length zs) F))
      have hq0:=(bq_ask (r:=r) (hfn.shownIt ss zs) (bs_i64 (n:=F.length) (zs:=zs))).1
      have hq1:=(bq_ask (r:=r) (hfn.shownIt ss zs) (wider_i64 hm (n:=F.length) (zs:=zs))).1
      have h9le:=(m.o 3 rfl).le
      have h9max:=(m.o 3 rfl).max
      have h3le:=(m.o 1 rfl).le
      have h3max:=(m.o 1 rfl).max
      have hlw:=hwr.2.1
      refine wp_region_lit (n_val (r_assign) (n_nil (k20 _ _ ?_)))
      try clear k20 K20
      refine wp_block ?_
      simp only [zA,zB,zC,zD,zE,zF,zG]
      try simp only [Nat.zero_add,Nat.reduceAdd,Nat.reduceMul,Int.reduceToNat]
      refine c_loopg [12] [4,13,14,69,70,71,72,73,74,75,76,77,78,79,80,81,82,83,84,85,86,87,88,89,90,91,92,93,94,95,96,97,98] (fun n vs wl=>∃ (i : Nat),vs = [.int .i64 (i:Int)] ∧ Mem w wl [bI g4 [.int .i64 (askR r (shownR ss (bsR F.length zs) F) ((bsR F.length zs).map (widerB mo))).kind,.bool (wneg ((askR r (shownR ss (bsR F.length zs) F) ((bsR F.length zs).map (widerB mo))).lo).num),.string (wmag ((askR r (shownR ss (bsR F.length zs) F) ((bsR F.length zs).map (widerB mo))).lo).num),.bool (wneg (((askR r (shownR ss (bsR F.length zs) F) ((bsR F.length zs).map (widerB mo))).lo).den : Int)),.string (wmag (((askR r (shownR ss (bsR F.length zs) F) ((bsR F.length zs).map (widerB mo))).lo).den : Int)),.bool (wneg ((askR r (shownR ss (bsR F.length zs) F) ((bsR F.length zs).map (widerB mo))).hi).num),.string (wmag ((askR r (shownR ss (bsR F.length zs) F) ((bsR F.length zs).map (widerB mo))).hi).num),.bool (wneg (((askR r (shownR ss (bsR F.length zs) F) ((bsR F.length zs).map (widerB mo))).hi).den : Int)),.string (wmag (((askR r (shownR ss (bsR F.length zs) F) ((bsR F.length zs).map (widerB mo))).hi).den : Int)),.bool (askR r (shownR ss (bsR F.length zs) F) ((bsR F.length zs).map (widerB mo))).sure,.slice A3 n3 cap3] 39,oI 3 1 A3 n3 cap3 ((askR r (shownR ss (bsR F.length zs) F) ((bsR F.length zs).map (widerB mo))).opn.map (Value.int .i64 ·)),bI g3 [.int .i64 (askR r (shownR ss (bsR F.length zs) F) (bsR F.length zs)).kind,.bool (wneg ((askR r (shownR ss (bsR F.length zs) F) (bsR F.length zs)).lo).num),.string (wmag ((askR r (shownR ss (bsR F.length zs) F) (bsR F.length zs)).lo).num),.bool (wneg (((askR r (shownR ss (bsR F.length zs) F) (bsR F.length zs)).lo).den : Int)),.string (wmag (((askR r (shownR ss (bsR F.length zs) F) (bsR F.length zs)).lo).den : Int)),.bool (wneg ((askR r (shownR ss (bsR F.length zs) F) (bsR F.length zs)).hi).num),.string (wmag ((askR r (shownR ss (bsR F.length zs) F) (bsR F.length zs)).hi).num),.bool (wneg (((askR r (shownR ss (bsR F.length zs) F) (bsR F.length zs)).hi).den : Int)),.string (wmag (((askR r (shownR ss (bsR F.length zs) F) (bsR F.length zs)).hi).den : Int)),.bool (askR r (shownR ss (bsR F.length zs) F) (bsR F.length zs)).sure,.slice A9 n9 cap9] 39,oI 3 1 A9 n9 cap9 ((askR r (shownR ss (bsR F.length zs) F) (bsR F.length zs)).opn.map (Value.int .i64 ·)),bI g1 [.int .i64 kind,.int .i64 bits,.slice HA HN Hc,.int .u8 (q : Int),.slice ZA ZN Zc,.int .i64 r.s.x,.int .i64 r.s.y,.int .i64 r.s.z,.int .i64 r.w,.int .i64 r.d.x,.int .i64 r.d.y,.int .i64 r.d.z,.slice PA PN Pc] 28] ∧ (i ≤ n9) ∧ (n = n9 - i)) ?_ ?_
      · skip
        apply Exists.intro
        simp only [zQ,zR,zD,zE]
        exact ⟨0,rfl,(m.sel [true,true,true,true,false,false,false,false,true]),Nat.zero_le _,rfl⟩
      · intro n vs wr hI u
        clear m
        obtain ⟨i,rfl,m,hi,hn⟩:=hI
        simp only [setG_cons,setG_nil,setMany_cons,setMany_nil,zF,zG]
        refine c_seq fun K21 k21=>c_seq fun K22 k22=>wp_region_lit (n_val (r_move) (n_val (r_fieldAddr (c:=0) Tryz.underlying39 rfl cells_22 rfl rfl) ?_))
        simp only [zA,zB,zC,zD,zE,zF,zG]
        refine n_load rfl ((m.b 2 rfl).lies1 agg_22 rfl) ?_
        simp only [zA,zB,zC,zD,zE,zF,zG]
        refine n_val (r_lenS rfl Tryz.underlying22 rfl) (n_val (r_lss rfl rfl) (n_nil (k22 _ _ ?_)))
        try clear k22 K22
        simp only [zA,zB,zC,zD,zE,zF,zG]
        refine c_if rfl (fun hc4=>?_) (fun hc4=>?_)
        · skip
          obtain ⟨g9,rfl⟩:=(m.o 3 rfl).some (by omega)
          obtain ⟨v,hv⟩ : ∃ v,(askR r (shownR ss (bsR F.length zs) F) (bsR F.length zs)).opn[i]? = some v:=⟨_,List.getElem?_eq_getElem (by omega)⟩
          have hv2 : (((askR r (shownR ss (bsR F.length zs) F) (bsR F.length zs)).opn.map (Value.int .i64 ·)))[i]? = some (.int .i64 v):=by rw [List.getElem?_map,hv]; rfl
          have hvm:=hwr.1 v (List.mem_of_getElem? hv)
          refine wp_skip (k21 _ _ ?_)
          try clear k21 K21
          refine c_seq fun K23 k23=>wp_block (c_seq fun K24 k24=>wp_region_lit (n_val (r_assign) (n_nil (k24 _ _ ?_))))
          try clear k24 K24
          refine c_seq fun K25 k25=>c_seq fun K26 k26=>wp_region_lit (n_val (r_assign) (n_nil (k26 _ _ ?_)))
          try clear k26 K26
          refine wp_block ?_
          simp only [zA,zB,zC,zD,zE,zF,zG]
          try simp only [Nat.zero_add,Nat.reduceAdd,Nat.reduceMul,Int.reduceToNat]
          refine c_loopg [13,14] [76,77,78,79,80,81,82,83,84,85,86,87,88,89,90,91,92,93,94,95,96] (fun n vs wl=>∃ (k : Nat) (f : Bool),vs = [.bool f,.int .i64 (k:Int)] ∧ Mem w wl [bI g4 [.int .i64 (askR r (shownR ss (bsR F.length zs) F) ((bsR F.length zs).map (widerB mo))).kind,.bool (wneg ((askR r (shownR ss (bsR F.length zs) F) ((bsR F.length zs).map (widerB mo))).lo).num),.string (wmag ((askR r (shownR ss (bsR F.length zs) F) ((bsR F.length zs).map (widerB mo))).lo).num),.bool (wneg (((askR r (shownR ss (bsR F.length zs) F) ((bsR F.length zs).map (widerB mo))).lo).den : Int)),.string (wmag (((askR r (shownR ss (bsR F.length zs) F) ((bsR F.length zs).map (widerB mo))).lo).den : Int)),.bool (wneg ((askR r (shownR ss (bsR F.length zs) F) ((bsR F.length zs).map (widerB mo))).hi).num),.string (wmag ((askR r (shownR ss (bsR F.length zs) F) ((bsR F.length zs).map (widerB mo))).hi).num),.bool (wneg (((askR r (shownR ss (bsR F.length zs) F) ((bsR F.length zs).map (widerB mo))).hi).den : Int)),.string (wmag (((askR r (shownR ss (bsR F.length zs) F) ((bsR F.length zs).map (widerB mo))).hi).den : Int)),.bool (askR r (shownR ss (bsR F.length zs) F) ((bsR F.length zs).map (widerB mo))).sure,.slice A3 n3 cap3] 39,oI 3 1 A3 n3 cap3 ((askR r (shownR ss (bsR F.length zs) F) ((bsR F.length zs).map (widerB mo))).opn.map (Value.int .i64 ·)),bI g3 [.int .i64 (askR r (shownR ss (bsR F.length zs) F) (bsR F.length zs)).kind,.bool (wneg ((askR r (shownR ss (bsR F.length zs) F) (bsR F.length zs)).lo).num),.string (wmag ((askR r (shownR ss (bsR F.length zs) F) (bsR F.length zs)).lo).num),.bool (wneg (((askR r (shownR ss (bsR F.length zs) F) (bsR F.length zs)).lo).den : Int)),.string (wmag (((askR r (shownR ss (bsR F.length zs) F) (bsR F.length zs)).lo).den : Int)),.bool (wneg ((askR r (shownR ss (bsR F.length zs) F) (bsR F.length zs)).hi).num),.string (wmag ((askR r (shownR ss (bsR F.length zs) F) (bsR F.length zs)).hi).num),.bool (wneg (((askR r (shownR ss (bsR F.length zs) F) (bsR F.length zs)).hi).den : Int)),.string (wmag (((askR r (shownR ss (bsR F.length zs) F) (bsR F.length zs)).hi).den : Int)),.bool (askR r (shownR ss (bsR F.length zs) F) (bsR F.length zs)).sure,.slice (some ⟨g9,0,none⟩) n9 cap9] 39,oI 3 1 (some ⟨g9,0,none⟩) n9 cap9 ((askR r (shownR ss (bsR F.length zs) F) (bsR F.length zs)).opn.map (Value.int .i64 ·)),bI g1 [.int .i64 kind,.int .i64 bits,.slice HA HN Hc,.int .u8 (q : Int),.slice ZA ZN Zc,.int .i64 r.s.x,.int .i64 r.s.y,.int .i64 r.s.z,.int .i64 r.w,.int .i64 r.d.x,.int .i64 r.d.y,.int .i64 r.d.z,.slice PA PN Pc] 28] ∧ (f = decide (v ∈ (askR r (shownR ss (bsR F.length zs) F) ((bsR F.length zs).map (widerB mo))).opn.take k)) ∧ (k ≤ n3) ∧ (n = n3 - k)) ?_ ?_
          · skip
            apply Exists.intro
            simp only [zQ,zR,zD,zE]
            exact ⟨0,false,rfl,m,by simp,Nat.zero_le _,rfl⟩
          · intro n vs wr hI u
            clear m
            obtain ⟨k,f,rfl,m,hf,hk,hn⟩:=hI
            simp only [setG_cons,setG_nil,setMany_cons,setMany_nil,zF,zG]
            refine c_seq fun K27 k27=>c_seq fun K28 k28=>wp_region_lit (n_val (r_move) (n_val (r_fieldAddr (c:=0) Tryz.underlying39 rfl cells_22 rfl rfl) ?_))
            simp only [zA,zB,zC,zD,zE,zF,zG]
            refine n_load rfl ((m.b 0 rfl).lies1 agg_22 rfl) ?_
            simp only [zA,zB,zC,zD,zE,zF,zG]
            refine n_val (r_lenS rfl Tryz.underlying22 rfl) (n_val (r_lss rfl rfl) (n_nil (k28 _ _ ?_)))
            try clear k28 K28
            simp only [zA,zB,zC,zD,zE,zF,zG]
            refine c_if rfl (fun hc5=>?_) (fun hc5=>?_)
            · skip
              obtain ⟨g3o,rfl⟩:=(m.o 1 rfl).some (by omega)
              obtain ⟨y,hy⟩ : ∃ y,(askR r (shownR ss (bsR F.length zs) F) ((bsR F.length zs).map (widerB mo))).opn[k]? = some y:=⟨_,List.getElem?_eq_getElem (by omega)⟩
              have hy2 : (((askR r (shownR ss (bsR F.length zs) F) ((bsR F.length zs).map (widerB mo))).opn.map (Value.int .i64 ·)))[k]? = some (.int .i64 y):=by rw [List.getElem?_map,hy]; rfl
              refine wp_skip (k27 _ _ ?_)
              try clear k27 K27
              refine c_seq fun K29 k29=>wp_block (mq m follows_mixed (by kernel_rfl) (q_val (r_move) (q_val (r_move) (q_mayF rfl (fun hb=>r_fieldAddr (c:=0) Tryz.underlying39 rfl cells_22 rfl rfl) ?_))))
              simp only [zA,zB,zC,zD,zE,zF,zG]
              refine q_mayFW rfl (fun hb u m=>r_load (mayE hb rfl) ((m.b 0 rfl).lies1 agg_22 rfl)) (q_mayF rfl (fun hb=>r_move) ?_)
              simp only [zA,zB,zC,zD,zE,zF,zG]
              refine q_mayF rfl (fun hb=>r_indexAddrS Tryz.underlying22 cells_3 (mayE hb rfl) (mayE hb rfl) (by omega) (by omega) (addr1 (Int.toNat_natCast _))) ?_
              simp only [zA,zB,zC,zD,zE,zF,zG]
              refine q_mayFW rfl (fun hb u m=>r_load (mayE hb rfl) (Lith.lies1 ((m.o 1 rfl).rows k _ hy2) agg_3)) (q_mayF rfl (fun hb=>r_fieldAddr (c:=0) Tryz.underlying39 rfl cells_22 rfl rfl) ?_)
              simp only [zA,zB,zC,zD,zE,zF,zG]
              refine q_mayFW rfl (fun hb u m=>r_load (mayE hb rfl) ((m.b 2 rfl).lies1 agg_22 rfl)) (q_mayF rfl (fun hb=>r_move) ?_)
              simp only [zA,zB,zC,zD,zE,zF,zG]
              refine q_mayF rfl (fun hb=>r_indexAddrS Tryz.underlying22 cells_3 (mayE hb rfl) (mayE hb rfl) (by omega) (by omega) (addr1 (Int.toNat_natCast _))) ?_
              simp only [zA,zB,zC,zD,zE,zF,zG]
              refine q_mayFW rfl (fun hb u m=>r_load (mayE hb rfl) (Lith.lies1 ((m.o 3 rfl).rows i _ hv2) agg_3)) (q_mayF rfl (fun hb=>r_eql (mayE hb rfl) (mayE hb rfl)) (q_val (r_pickOr rfl rfl rfl) (q_val (r_assign) (q_nil ?_))))
              clear m; intro u m
              refine k29 _ _ ?_
              try clear k29 K29
              refine wp_region_lit (n_val (r_move) ?_)
              simp only [zA,zB,zC,zD,zE,zF,zG]
              refine n_val (r_add rfl rfl (wrap_i64 (by omega) (by omega))) (n_val (r_assign) (n_nil ?_))
              simp only [zA,zB,zC,zD,zE,zF,zG]
              simp only [Exit.inBlock,Exit.then]
              refine ⟨n3 - (k + 1),_,?_,rfl,?_,?_⟩
              · omega
              · simp only [zQ,zR,zD,zE,setG_cons,setG_nil,setMany_cons,setMany_nil,zF,zG]
              · simp only [zQ,zR,zD,zE]
                exact ⟨k + 1,_,rfl,m,by rw [hf]; exact mem_step hy,by omega,rfl⟩
            · skip
              have hft : f = true:=by rw [hf,List.take_of_length_le (by omega)]; exact decide_eq_true hvm
              refine wp_exit (k25 _ _ ?_)
              try clear k25 K25
              refine c_seq fun K30 k30=>wp_region_lit (n_val (r_move) ?_)
              simp only [zA,zB,zC,zD,zE,zF,zG]
              refine n_val (r_as (r_not rfl) (bool_as (show (!f) = false by rw [hft]; rfl))) (n_nil (k30 _ _ ?_))
              try clear k30 K30
              refine c_no rfl (wp_skip (k23 _ _ ?_))
              try clear k23 K23
              refine wp_region_lit (n_val (r_move) ?_)
              simp only [zA,zB,zC,zD,zE,zF,zG]
              refine n_val (r_add rfl rfl (wrap_i64 (by omega) (by omega))) (n_val (r_assign) (n_nil ?_))
              simp only [zA,zB,zC,zD,zE,zF,zG]
              simp only [Exit.inBlock,Exit.then]
              refine ⟨n9 - (i + 1),_,?_,rfl,?_,?_⟩
              · omega
              · simp only [zQ,zR,zD,zE,setG_cons,setG_nil,setMany_cons,setMany_nil,zF,zG]
              · simp only [zQ,zR,zD,zE]
                exact ⟨i + 1,rfl,m,by omega,rfl⟩
        · skip
          refine wp_exit (k19 _ _ ?_)
          try clear k19 K19
          refine c_seq fun K31 k31=>?_
          have hk : (askR r (shownR ss (bsR F.length zs) F) (bsR F.length zs)).kind = 3 ∨ (¬ (askR r (shownR ss (bsR F.length zs) F) (bsR F.length zs)).kind = 3 ∧ (askR r (shownR ss (bsR F.length zs) F) (bsR F.length zs)).kind = 1) ∨ (¬ (askR r (shownR ss (bsR F.length zs) F) (bsR F.length zs)).kind = 3 ∧ ¬ (askR r (shownR ss (bsR F.length zs) F) (bsR F.length zs)).kind = 1):=by omega
          rcases hk with hk | ⟨hk,hk1⟩ | ⟨hk,hk1⟩
          · skip
            refine wp_region_lit (n_val (r_move) (n_val (r_move) (n_want rfl (n_val (r_fieldAddr (c:=0) Tryz.underlying39 rfl cells_22 rfl rfl) (n_want rfl ?_)))))
            simp only [zA,zB,zC,zD,zE,zF,zG]
            refine n_load rfl ((m.b 0 rfl).lies1 agg_22 rfl) ?_
            simp only [zA,zB,zC,zD,zE,zF,zG]
            refine n_want rfl (n_val (r_lenS rfl Tryz.underlying22 rfl) (n_want rfl (n_val (r_fieldAddr (c:=0) Tryz.underlying39 rfl cells_22 rfl rfl) (n_want rfl ?_))))
            simp only [zA,zB,zC,zD,zE,zF,zG]
            refine n_load rfl ((m.b 2 rfl).lies1 agg_22 rfl) ?_
            simp only [zA,zB,zC,zD,zE,zF,zG]
            refine n_want rfl (n_val (r_lenS rfl Tryz.underlying22 rfl) (n_want rfl (n_val (r_geqT rfl rfl (by omega)) (n_val (r_pickT rfl) (n_val (r_move) ?_)))))
            simp only [zA,zB,zC,zD,zE,zF,zG]
            refine n_want rfl (n_val (r_fieldAddr (c:=0) Tryz.underlying39 rfl cells_3 rfl rfl) (n_want rfl ?_))
            simp only [zA,zB,zC,zD,zE,zF,zG]
            refine n_load rfl ((m.b 2 rfl).lies1 agg_3 rfl) ?_
            simp only [zA,zB,zC,zD,zE,zF,zG]
            refine n_want rfl (n_val (r_neqF rfl rfl (fun h=>h hk)) (n_want rfl (n_val (r_move) (n_want rfl (n_val (r_fieldAddr (c:=3) Tryz.underlying39 rfl cells_37 rfl rfl) (n_want rfl ?_))))))
            simp only [zA,zB,zC,zD,zE,zF,zG]
            refine n_load rfl ((m.b 0 rfl).lies agg_37 cells_37 rfl rfl) ?_
            simp only [zA,zB,zC,zD,zE,zF,zG,zH,zI,zJ,zK,Nat.zero_add,Nat.reduceAdd,Nat.reduceMul,Int.reduceToNat]
            refine n_want rfl (n_val (r_fieldAddr (c:=3) Tryz.underlying39 rfl cells_37 rfl rfl) (n_want rfl ?_))
            simp only [zA,zB,zC,zD,zE,zF,zG]
            refine n_load rfl ((m.b 2 rfl).lies agg_37 cells_37 rfl rfl) ?_
            simp only [zA,zB,zC,zD,zE,zF,zG,zH,zI,zJ,zK,Nat.zero_add,Nat.reduceAdd,Nat.reduceMul,Int.reduceToNat]
            refine n_want rfl (mcallP m rfl rfl (CmpFrac_c (p:=(askR r (shownR ss (bsR F.length zs) F) ((bsR F.length zs).map (widerB mo))).lo) (q:=(askR r (shownR ss (bsR F.length zs) F) (bsR F.length zs)).lo) hq1 hq0) ?_)
            clear m; intro u m
            refine n_want rfl (n_val (r_leqT rfl rfl (qcmp_le (hwr.2.2.1 hk))) (n_want rfl (n_val (r_pickF rfl) (n_val (r_pickT rfl) ?_))))
            simp only [zA,zB,zC,zD,zE,zF,zG]
            refine n_val (r_move) (n_want rfl (n_val (r_fieldAddr (c:=0) Tryz.underlying39 rfl cells_3 rfl rfl) (n_want rfl ?_)))
            simp only [zA,zB,zC,zD,zE,zF,zG]
            refine n_load rfl ((m.b 2 rfl).lies1 agg_3 rfl) ?_
            simp only [zA,zB,zC,zD,zE,zF,zG]
            refine n_want rfl (n_val (r_neqT rfl rfl (by rw [hk]; decide)) (n_want rfl (n_val (r_move) (n_skipF rfl (n_skipF rfl ?_)))))
            simp only [zA,zB,zC,zD,zE,zF,zG]
            refine n_skipF rfl (n_skipF rfl (n_skipF rfl (n_skipF rfl ?_)))
            simp only [zA,zB,zC,zD,zE,zF,zG]
            refine n_want rfl (n_val (r_pickT rfl) (n_val (r_pickT rfl) (n_val (r_assign) (n_nil (k31 _ _ ?_)))))
            try clear k31 K31
            refine wp_ret ?_
            simp only [zA,zB,zC,zD,zE,zF,zG]
            try simp only [Exit.inBlock,Exit.then,if_true]
            refine fin1 rfl rfl ?_
            try simp only [zD,zE]
            exact ⟨_,rfl,m.ext,rfl⟩
          · skip
            refine wp_region_lit (n_val (r_move) (n_val (r_move) (n_want rfl (n_val (r_fieldAddr (c:=0) Tryz.underlying39 rfl cells_22 rfl rfl) (n_want rfl ?_)))))
            simp only [zA,zB,zC,zD,zE,zF,zG]
            refine n_load rfl ((m.b 0 rfl).lies1 agg_22 rfl) ?_
            simp only [zA,zB,zC,zD,zE,zF,zG]
            refine n_want rfl (n_val (r_lenS rfl Tryz.underlying22 rfl) (n_want rfl (n_val (r_fieldAddr (c:=0) Tryz.underlying39 rfl cells_22 rfl rfl) (n_want rfl ?_))))
            simp only [zA,zB,zC,zD,zE,zF,zG]
            refine n_load rfl ((m.b 2 rfl).lies1 agg_22 rfl) ?_
            simp only [zA,zB,zC,zD,zE,zF,zG]
            refine n_want rfl (n_val (r_lenS rfl Tryz.underlying22 rfl) (n_want rfl (n_val (r_geqT rfl rfl (by omega)) (n_val (r_pickT rfl) (n_val (r_move) ?_)))))
            simp only [zA,zB,zC,zD,zE,zF,zG]
            refine n_want rfl (n_val (r_fieldAddr (c:=0) Tryz.underlying39 rfl cells_3 rfl rfl) (n_want rfl ?_))
            simp only [zA,zB,zC,zD,zE,zF,zG]
            refine n_load rfl ((m.b 2 rfl).lies1 agg_3 rfl) ?_
            simp only [zA,zB,zC,zD,zE,zF,zG]
            refine n_want rfl (n_val (r_neqT rfl rfl (hk)) (n_want rfl (n_val (r_move) (n_skipF rfl (n_skipF rfl ?_)))))
            simp only [zA,zB,zC,zD,zE,zF,zG]
            refine n_skipF rfl (n_skipF rfl (n_skipF rfl (n_skipF rfl ?_)))
            simp only [zA,zB,zC,zD,zE,zF,zG]
            refine n_want rfl (n_val (r_pickT rfl) (n_val (r_pickT rfl) (n_val (r_move) (n_want rfl (n_val (r_fieldAddr (c:=0) Tryz.underlying39 rfl cells_3 rfl rfl) ?_)))))
            simp only [zA,zB,zC,zD,zE,zF,zG]
            refine n_want rfl (n_load rfl ((m.b 2 rfl).lies1 agg_3 rfl) ?_)
            simp only [zA,zB,zC,zD,zE,zF,zG]
            refine n_want rfl (n_val (r_neqF rfl rfl (fun h=>h hk1)) (n_want rfl (n_val (r_move) (n_want rfl (n_val (r_fieldAddr (c:=3) Tryz.underlying39 rfl cells_37 rfl rfl) (n_want rfl ?_))))))
            simp only [zA,zB,zC,zD,zE,zF,zG]
            refine n_load rfl ((m.b 0 rfl).lies agg_37 cells_37 rfl rfl) ?_
            simp only [zA,zB,zC,zD,zE,zF,zG,zH,zI,zJ,zK,Nat.zero_add,Nat.reduceAdd,Nat.reduceMul,Int.reduceToNat]
            refine n_want rfl (n_val (r_fieldAddr (c:=3) Tryz.underlying39 rfl cells_37 rfl rfl) (n_want rfl ?_))
            simp only [zA,zB,zC,zD,zE,zF,zG]
            refine n_load rfl ((m.b 2 rfl).lies agg_37 cells_37 rfl rfl) ?_
            simp only [zA,zB,zC,zD,zE,zF,zG,zH,zI,zJ,zK,Nat.zero_add,Nat.reduceAdd,Nat.reduceMul,Int.reduceToNat]
            refine n_want rfl (mcallP m rfl rfl (CmpFrac_c (p:=(askR r (shownR ss (bsR F.length zs) F) ((bsR F.length zs).map (widerB mo))).lo) (q:=(askR r (shownR ss (bsR F.length zs) F) (bsR F.length zs)).lo) hq1 hq0) ?_)
            clear m; intro u m
            refine n_want rfl (n_val (r_leqT rfl rfl (qcmp_le (hwr.2.2.2 hk1))) (n_want rfl (n_val (r_pickF rfl) (n_val (r_pickT rfl) ?_))))
            simp only [zA,zB,zC,zD,zE,zF,zG]
            refine n_val (r_assign) (n_nil (k31 _ _ ?_))
            try clear k31 K31
            refine wp_ret ?_
            simp only [zA,zB,zC,zD,zE,zF,zG]
            try simp only [Exit.inBlock,Exit.then,if_true]
            refine fin1 rfl rfl ?_
            try simp only [zD,zE]
            exact ⟨_,rfl,m.ext,rfl⟩
          · skip
            refine wp_region_lit (n_val (r_move) (n_val (r_move) (n_want rfl (n_val (r_fieldAddr (c:=0) Tryz.underlying39 rfl cells_22 rfl rfl) (n_want rfl ?_)))))
            simp only [zA,zB,zC,zD,zE,zF,zG]
            refine n_load rfl ((m.b 0 rfl).lies1 agg_22 rfl) ?_
            simp only [zA,zB,zC,zD,zE,zF,zG]
            refine n_want rfl (n_val (r_lenS rfl Tryz.underlying22 rfl) (n_want rfl (n_val (r_fieldAddr (c:=0) Tryz.underlying39 rfl cells_22 rfl rfl) (n_want rfl ?_))))
            simp only [zA,zB,zC,zD,zE,zF,zG]
            refine n_load rfl ((m.b 2 rfl).lies1 agg_22 rfl) ?_
            simp only [zA,zB,zC,zD,zE,zF,zG]
            refine n_want rfl (n_val (r_lenS rfl Tryz.underlying22 rfl) (n_want rfl (n_val (r_geqT rfl rfl (by omega)) (n_val (r_pickT rfl) (n_val (r_move) ?_)))))
            simp only [zA,zB,zC,zD,zE,zF,zG]
            refine n_want rfl (n_val (r_fieldAddr (c:=0) Tryz.underlying39 rfl cells_3 rfl rfl) (n_want rfl ?_))
            simp only [zA,zB,zC,zD,zE,zF,zG]
            refine n_load rfl ((m.b 2 rfl).lies1 agg_3 rfl) ?_
            simp only [zA,zB,zC,zD,zE,zF,zG]
            refine n_want rfl (n_val (r_neqT rfl rfl (hk)) (n_want rfl (n_val (r_move) (n_skipF rfl (n_skipF rfl ?_)))))
            simp only [zA,zB,zC,zD,zE,zF,zG]
            refine n_skipF rfl (n_skipF rfl (n_skipF rfl (n_skipF rfl ?_)))
            simp only [zA,zB,zC,zD,zE,zF,zG]
            refine n_want rfl (n_val (r_pickT rfl) (n_val (r_pickT rfl) (n_val (r_move) (n_want rfl (n_val (r_fieldAddr (c:=0) Tryz.underlying39 rfl cells_3 rfl rfl) ?_)))))
            simp only [zA,zB,zC,zD,zE,zF,zG]
            refine n_want rfl (n_load rfl ((m.b 2 rfl).lies1 agg_3 rfl) ?_)
            simp only [zA,zB,zC,zD,zE,zF,zG]
            refine n_want rfl (n_val (r_neqT rfl rfl (hk1)) (n_want rfl (n_val (r_move) (n_skipF rfl (n_skipF rfl ?_)))))
            simp only [zA,zB,zC,zD,zE,zF,zG]
            refine n_skipF rfl (n_skipF rfl (n_skipF rfl (n_skipF rfl ?_)))
            simp only [zA,zB,zC,zD,zE,zF,zG]
            refine n_want rfl (n_val (r_pickT rfl) (n_val (r_pickT rfl) (n_val (r_assign) (n_nil (k31 _ _ ?_)))))
            try clear k31 K31
            refine wp_ret ?_
            simp only [zA,zB,zC,zD,zE,zF,zG]
            try simp only [Exit.inBlock,Exit.then,if_true]
            refine fin1 rfl rfl ?_
            try simp only [zD,zE]
            exact ⟨_,rfl,m.ext,rfl⟩
end Go.Proofs.YtimjandkmfcmiaaGreatDoor
namespace Go.Lith
open Go.RowKit Go.ChangeShapes
variable {H : Type} {enc : TypeId × Value → H} {P : Program}
theorem trodAll_ext (hl : laidOutB P = true) {W W' : World} (hb : Ext W W') {sp : Nat → Bool} :
    ∀ {ts : List TypeId} {vs : List Value} {ds : List (DataW H)} {ps : List MemPlace},(ts.all fun t=>P.readableRec t && decide (t < P.types.size)) = true → DataW.TrodAll enc P W 0 (fun _=>true) true ts vs ds ps → (∀ p ∈ ps,sp p.block = true) → DataW.TrodAll enc P W' 0 sp true ts vs ds ps
  | [],[],[],_,_,h,_=>h
  | [],[],_ :: _,_,_,h,_=>h.elim
  | [],_ :: _,_,_,_,h,_=>h.elim
  | _ :: _,[],_,_,_,h,_=>h.elim
  | _ :: _,_ :: _,[],_,_,h,_=>h.elim
  | t :: ts,v :: vs,d :: ds,ps,hv,h,hs=>by
    obtain ⟨p,q,⟨n,h1⟩,h2,e⟩:=h
    subst e
    simp only [List.all_cons,Bool.and_eq_true,decide_eq_true_eq] at hv
    have hlt:=DataW.trod_lt n _ _ _ h1
    exact ⟨p,q,⟨n,DataW.trod_stays (kids_book hl hv.1.1) (book_sized hv.1.1) (fun h=>by cases h) ⟨hv.1.2,book_self t⟩ h1 (fun x hx=>Below.same hb (hlt x hx)) (fun x hx=>hs x (by simp [hx]))⟩,
      trodAll_ext hl hb (by simpa using hv.2) h2 (fun x hx=>hs x (by simp [hx])),rfl⟩
theorem post_of_ext {f : Func} {s : ChangeSpec} {apart fresh handsOn again : Bool} {W W' : World} {args : Array Value} {t : TypeId} {ds gs : List (DataW H)} {before : List MemPlace}
    (hl : laidOutB P = true) (hps : (f.params.toList.all fun t=>P.readableRec t && decide (t < P.types.size)) = true) (hv : s.vars = []) (hr : f.resultTypes = #[t]) (hu : P.underlying t = some .bool)
    (hW : DataW.Whole enc P f.params.toList s.vars apart W args.toList ds gs before) (hfn : (s.fn H (ds ++ gs)).results = [.lit (.bool true)] ∧ (s.fn H (ds ++ gs)).args = ds ∧ (s.fn H (ds ++ gs)).vars = []) (hb : Ext W W') :
    s.post enc P f apart fresh handsOn again W args (.bool true) W':=by
  have hW0:=hW
  obtain ⟨p,q,hA,hV,rfl,hz,hn⟩:=hW0
  rw [hv] at hV
  obtain ⟨rfl,rfl⟩:=trodVars_none hV
  have hargs : ∀ sp : Nat → Bool,(∀ x ∈ p ++ [],sp x.block = true) → DataW.TrodAll enc P W' 0 sp true f.params.toList args.toList (s.fn H (ds ++ [])).args p:=fun sp hsp=>by
    rw [hfn.2.1]
    exact trodAll_ext hl hb hps hA (fun x hx=>hsp x (by simp [hx]))
  have hvars : ∀ sp : Nat → Bool,DataW.TrodVars enc P W' sp s.vars (s.fn H (ds ++ [])).vars []:=fun sp=>by
    rw [hv,hfn.2.2]
    exact rfl
  have hres : ∀ (b : Nat) (sp : Nat → Bool) (hd : Bool),DataW.TrodAll enc P W' b sp hd f.resultTypes.toList ((Value.bool true).resultList f.resultTypes.size) (s.fn H (ds ++ [])).results []:=fun b sp hd=>by
    rw [hr,hfn.1]
    exact trodAll_cons_mk (shut_bool hu true) trodAll_mk0
  have hok : ∀ (j : Nat) (t : TypeId) (r : Value),f.resultTypes[j]? = some t → ((Value.bool true).resultList f.resultTypes.size)[j]? = some r → Value.okWide P W' .any 0 t r:=ok_one hr rfl (okWide_bool_mk hu _)
  have hlt : ∀ x ∈ p ++ [],x.block < W.heap.size:=hW.lt
  have hold : ∀ x ∈ p ++ [],(fun b=>decide (b < W.heap.size)) x.block = true:=fun x hx=>by simpa using hlt x hx
  refine ⟨ds,[],p ++ [],[],p,[],hW,hres _ _ _,hargs _ hold,hvars _,Below.frame hb _,fun _=>?_⟩
  refine ⟨hok,_,_,([] ++ p) ++ [],⟨[] ++ p,[],trodAll_append (hargs _ (fun _ _=>rfl)) (hres _ _ _),hvars _,rfl,?_,?_⟩,?_⟩
  · intro b off hp
    have h1 : MemPlace.cell b off ∈ p ++ []:=by simpa using hp
    rw [Below.frozen hb (p:=⟨b,off,none⟩) (hlt _ h1)]
    exact hz b off h1
  · intro ha
    simpa using hn ha
  · intro x hp _
    simpa using hp
end Go.Lith
namespace Go.Lith
open Go.RowKit Go.ChangeShapes
variable {H : Type} {enc : TypeId × Value → H} {P : Program} {w : World} {base : Nat} {spare : Nat → Bool} {held : Bool}
theorem open_ptsl {n : Nat} {t e : TypeId} {fuel : Nat} {cs : List Value} {x : DataW H × List MemPlace} (hu : P.underlying t = some (.slice e)) (hi : intsOnly P n e = true) (hc : P.cellsOf e = 3) (h : DataW.trod enc P w base spare held fuel t cs = some x) :
    ∃ (A : Option Addr) (len cap : Nat) (ps : List P3),cs = [.slice A len cap] ∧ len ≤ cap ∧ cap ≤ maxLen ∧ LAt ptC 3 w A len ps:=by
  obtain ⟨A,len,cap,rfl,h1,h2,h3,h4⟩:=open_rows hu hi hc h
  obtain ⟨ps,h5,h6⟩:=choose_list (p:=fun i (p : P3)=>∃ a,A = some a ∧ Row w (a.add (i * 3)) (ptC p)) len (fun i hi=>by
    obtain ⟨a,zs,rfl,_,hr,hl,hz⟩:=h4 i hi
    obtain ⟨x,y,z,rfl⟩:=three hl
    exact ⟨⟨x,y,z⟩,a,rfl,hr⟩)
  exact ⟨A,len,cap,ps,rfl,h1,h2,h5,fun i p hp=>h6 i p hp⟩
theorem u8_of {n : Int} (h : (Lit.int .u8 n).wf = true) : ∃ q : Nat,n = (q : Int) ∧ q < 256:=by
  have:=bounds_u8 h
  exact ⟨n.toNat,by omega,by omega⟩
theorem open_scene {r : Reach} {b0 n : Nat} {t tI tH tB tR tS tP : TypeId} {fs : Array Field} {v : Value} {d : DataW H} {p : List MemPlace} (hs : P.underlying t = some (.struct fs)) (hf : fs.map (fun f=>(f.type,f.offset)) = #[(tI,0),(tI,1),(tH,2),(tB,3),(tH,4),(tR,5),(tS,12)]) (ct : P.cellsOf t = 13)
    (hI : intsOnly P n tI = true) (cI : P.cellsOf tI = 1) (hH : P.underlying tH = some (.slice tI)) (cH : P.cellsOf tH = 1) (hB : P.underlying tB = some (.int .u8)) (cB : P.cellsOf tB = 1) (hR : intsOnly P n tR = true) (cR : P.cellsOf tR = 7) (hS : P.underlying tS = some (.slice tP)) (cS : P.cellsOf tS = 1) (hP : intsOnly P n tP = true) (cP : P.cellsOf tP = 3)
    (hv : Value.okWide P w r b0 t v) (h : DataW.Trod enc P w base spare held t v d p) :
    ∃ (kind bits : Int) (q : Nat) (r : Ray) (HA ZA PA : Option Addr) (HN Hc ZN Zc PN Pc : Nat) (hz zs : List Int) (ss : List P3),v = .agg #[.int .i64 kind,.int .i64 bits,.slice HA HN Hc,.int .u8 (q : Int),.slice ZA ZN Zc,.int .i64 r.s.x,.int .i64 r.s.y,.int .i64 r.s.z,.int .i64 r.w,.int .i64 r.d.x,.int .i64 r.d.y,.int .i64 r.d.z,.slice PA PN Pc] ∧
      Iw kind ∧ Iw bits ∧ IR r ∧ IntsAt w HA HN hz ∧ IntsAt w ZA ZN zs ∧ LAt ptC 3 w PA PN ss ∧ q < 256:=by
  obtain ⟨fuel,hfu⟩:=h
  unfold Value.okWide at hv
  rw [hs] at hv
  obtain ⟨cs,rfl,hz,_⟩:=hv
  obtain ⟨xs,m,_,_,hl,hxl,hx⟩:=DataW.trod_struct hs hfu
  have field : ∀ (i : Nat) (ty : TypeId) (off : Nat),(#[(tI,0),(tI,1),(tH,2),(tB,3),(tH,4),(tR,5),(tS,12)] : Array (TypeId × Nat))[i]? = some (ty,off) → ∃ y,DataW.trod enc P w base spare held m ty ((cs.toList.drop off).take (P.cellsOf ty)) = some y:=fun i ty off hi=>by
    rw [← hf,Array.getElem?_map] at hi
    cases hq : fs[i]? with
    | none=>rw [hq] at hi; cases hi
    | some f =>
      rw [hq] at hi
      simp only [Option.map_some,Option.some.injEq,Prod.mk.injEq] at hi
      obtain ⟨rfl,rfl⟩:=hi
      have hi' : i < fs.size:=(Array.getElem?_eq_some_iff.1 hq).1
      exact ⟨xs[i]'(by omega),(hx i f hq).trans (List.getElem?_eq_getElem (by omega))⟩
  rw [ct] at hz
  obtain ⟨l⟩:=cs
  match l,hz with
  | [c0,c1,c2,c3,c4,c5,c6,c7,c8,c9,c10,c11,c12],_ =>
    obtain ⟨y0,h0⟩:=field 0 tI 0 rfl
    obtain ⟨y1,h1⟩:=field 1 tI 1 rfl
    obtain ⟨y2,h2⟩:=field 2 tH 2 rfl
    obtain ⟨y3,h3⟩:=field 3 tB 3 rfl
    obtain ⟨y4,h4⟩:=field 4 tH 4 rfl
    obtain ⟨y5,h5⟩:=field 5 tR 5 rfl
    obtain ⟨y6,h6⟩:=field 6 tS 12 rfl
    simp only [cI,cH,cB,cR,cS] at h0 h1 h2 h3 h4 h5 h6
    have e0:=(ints_of_trod n tI m [c0] _ hI h0).2
    have e1:=(ints_of_trod n tI m [c1] _ hI h1).2
    have e5:=(ints_of_trod n tR m [c5,c6,c7,c8,c9,c10,c11] _ hR h5).2
    obtain ⟨kind,rfl,k0⟩:=e0 c0 (by simp)
    obtain ⟨bits,rfl,k1⟩:=e1 c1 (by simp)
    obtain ⟨r5,rfl,k5⟩:=e5 c5 (by simp)
    obtain ⟨r6,rfl,k6⟩:=e5 c6 (by simp)
    obtain ⟨r7,rfl,k7⟩:=e5 c7 (by simp)
    obtain ⟨r8,rfl,k8⟩:=e5 c8 (by simp)
    obtain ⟨r9,rfl,k9⟩:=e5 c9 (by simp)
    obtain ⟨r10,rfl,k10⟩:=e5 c10 (by simp)
    obtain ⟨r11,rfl,k11⟩:=e5 c11 (by simp)
    obtain ⟨z3,hc3,_,wz⟩:=DataW.trod_int (cs:=[c3]) hB h3
    obtain ⟨q,rfl,hq⟩:=u8_of wz
    obtain ⟨HA,HN,Hc,hz',hc2,_,_,_,hZ⟩:=open_intsl (n:=n) (cs:=[c2]) hH hI cI h2
    obtain ⟨ZA,ZN,Zc,zs,hc4,_,_,_,hZ2⟩:=open_intsl (n:=n) (cs:=[c4]) hH hI cI h4
    obtain ⟨PA,PN,Pc,ss,hc12,_,_,hS2⟩:=open_ptsl (n:=n) (cs:=[c12]) hS hP cP h6
    simp only [List.cons.injEq,and_true] at hc2 hc3 hc4 hc12
    subst hc2
    subst hc3
    subst hc4
    subst hc12
    exact ⟨kind,bits,q,⟨⟨r5,r6,r7⟩,r8,⟨r9,r10,r11⟩⟩,HA,ZA,PA,HN,Hc,ZN,Zc,PN,Pc,hz',zs,ss,rfl,⟨k0⟩,⟨k1⟩,⟨⟨k5,k6,k7⟩,k8,⟨k9,k10,k11⟩⟩,hZ,hZ2,hS2,hq⟩
end Go.Lith
