/-
  Texts of one claim, laid together: RayA, Flow, RayS, Surf1, Surf3, Surf1b.
-/
import Derived.Test.YtimjandkmfcmiaaGreatDoorTX5
set_option maxHeartbeats 8000000
set_option linter.unusedSimpArgs false
set_option linter.unusedVariables false
set_option linter.unusedSectionVars false
namespace Go.Proofs.YtimjandkmfcmiaaGreatDoor
open Go.RowKit Go.Lith
set_option maxRecDepth 100000
attribute [local irreducible] wpList wpQuiet wpMix wpMixH wpTree Code.wp
def ansV (a : Ans) (A : Option Addr) (n cap : Nat) : Go.Value:=.agg #[.int .i64 (a.kind),.bool (wneg (a.lo).num),.string (wmag (a.lo).num),.bool (wneg ((a.lo).den : Int)),.string (wmag ((a.lo).den : Int)),.bool (wneg (a.hi).num),.string (wmag (a.hi).num),.bool (wneg ((a.hi).den : Int)),.string (wmag ((a.hi).den : Int)),.bool a.sure,.slice A n cap]
def AnsAt (a : Ans) (w : World) (v : Go.Value) (w' : World) : Prop:=∃ A n cap,v = ansV a A n cap ∧ n = a.opn.length ∧ Ow w w' [] 3 1 A n cap (a.opn.map (Value.int .i64 ·))
def kdsV (xs : List (Nat × Kd)) : List Go.Value:=xs.map fun x=>kdV x.1 x.2
def kindN : List (Nat × Rat) → Int
 | []=>2
 | _ :: _=>3
def numsV (o : List (Nat × Rat)) : List Go.Value:=o.map fun x=>.int .i64 (x.1 : Int)
theorem bnd_lt {w : World} {B : Option Addr} {M : Nat} {bs : List Int} {i : Nat} (hb : IntsAt w B M bs) : bndAt bs i < 9223372036854775808:=by
 unfold bndAt
 cases h : bs[i]? with
 | none=>decide
 | some z=>exact (hb.it z (List.mem_of_getElem? h)).2
theorem sure_len {bs : List Int} {ls : List (List T3)} (k : Nat) : (sureL bs (ls.take k)).length ≤ (ls.take k).flatten.length:=by
 have h1 : (ls.take k).flatten = (ls.take k).zipIdx.flatMap fun x=>x.1:=by
  conv=>lhs; rw [← List.zipIdx_map_fst 0 (ls.take k)]
  rw [List.flatMap_def]
 rw [h1]
 refine flat_len fun x _=>?_
 split
 · exact Nat.le_refl _
 · exact Nat.zero_le _
theorem take_flat {ls : List (List T3)} {k : Nat} {l : List T3} (h : ls[k]? = some l) : (ls.take k).flatten.length + l.length ≤ ls.flatten.length:=by
 have e : ls.flatten = (ls.take (k + 1)).flatten ++ (ls.drop (k + 1)).flatten:=by rw [← List.flatten_append,List.take_append_drop]
 rw [e,take_one' h,List.flatten_append,List.length_append,List.length_append]
 simp
theorem rest_len {bs : List Int} {ls : List (List T3)} : ∀ k,(restL bs (ls.take k)).length ≤ k:=by
 intro k
 induction k with
 | zero=>simp [restL]
 | succ k ih =>
  cases h : ls[k]? with
  | none =>
   have : ls.take (k + 1) = ls.take k:=by rw [List.take_of_length_le (by have:=List.getElem?_eq_none_iff.1 h; omega),List.take_of_length_le (by have:=List.getElem?_eq_none_iff.1 h; omega)]
   rw [this]; omega
  | some l =>
   rw [rest_step h,List.length_append]
   split <;> (simp; omega)
theorem open_len {r : Ray} {h : Option (Rat × Nat)} : ∀ (xs : List (Nat × Kd)),(openL r h xs).length ≤ xs.length
 | []=>Nat.le_refl _
 | x :: xs=>by
  have h1:=open_len (r:=r) (h:=h) xs
  have h2:=openK_len (r:=r) (h:=h) (x:=x)
  unfold openL at h1 ⊢
  rw [List.flatMap_cons,List.length_append,List.length_cons]
  omega
theorem open4 (r : Ray) (h : Option (Rat × Nat)) (x : Nat × Kd) : (beginR r x.2 = none ∧ openK r h x = []) ∨ (∃ q,beginR r x.2 = some q ∧ h = none ∧ openK r h x = [(x.1,q)]) ∨
  ∃ q t k,beginR r x.2 = some q ∧ h = some (t,k) ∧ openK r h x = if q < t then [(x.1,q)] else []:=by
 cases e : beginR r x.2 with
 | none=>exact .inl ⟨rfl,by simp only [openK,e]⟩
 | some q =>
  cases h with
  | none=>exact .inr (.inl ⟨q,rfl,rfl,by simp only [openK,e]⟩)
  | some y=>exact .inr (.inr ⟨q,y.1,y.2,rfl,rfl,by simp only [openK,e]⟩)
theorem kd5 (l : List T3) (z : Int) : kdR l z = .no ∨ kdR l z = .ex ∨ kdR l z = .unk ∨ ∃ lo hi,kdR l z = .near lo hi:=by
 cases kdR l z with
 | no=>exact .inl rfl
 | ex=>exact .inr (.inl rfl)
 | unk=>exact .inr (.inr (.inl rfl))
 | near lo hi=>exact .inr (.inr (.inr ⟨lo,hi,rfl⟩))
theorem kindN_ne {o : List (Nat × Rat)} (h : o ≠ []) : kindN o = 3:=by
 cases o with
 | nil=>exact absurd rfl h
 | cons=>rfl
theorem kindN_app {o : List (Nat × Rat)} {x : Nat × Rat} : kindN (o ++ [x]) = 3:=kindN_ne (by simp)
theorem ok3 (r : Ray) : r.w ≤ 0 ∨ (0 < r.w ∧ r.d.x = 0 ∧ r.d.y = 0 ∧ r.d.z = 0) ∨ r.ok:=by
 by_cases h : r.w ≤ 0
 · exact .inl h
 ·
  by_cases hd : r.d.x = 0 ∧ r.d.y = 0 ∧ r.d.z = 0
  · exact .inr (.inl ⟨by omega,hd⟩)
  · exact .inr (.inr ⟨by omega,hd⟩)
theorem ans_none (o : List (Nat × Rat)) : ansR none o = ⟨kindN o,loQ o,0,false,o.map fun x=>(x.1 : Int)⟩:=by
 cases o <;> rfl
theorem ans_more {t : Rat} {k : Nat} {o : List (Nat × Rat)} (h : o ≠ []) : ansR (some (t,k)) o = ⟨3,loQ o,t,true,o.map fun x=>(x.1 : Int)⟩:=if_pos h
theorem bq_axN {r : Ray} {lo hi : P3} [IR r] [I3 lo] [I3 hi] (hok : r.ok) : ∀ (k : Nat) (st : Rat × Option Rat),axN r lo hi k = some st → Bq 400000 st.1 ∧ BqO st.2:=by
 have hv : ∀ (p : P3) [I3 p] (k : Nat),Bd 129 ((r.to p).at k):=fun p _ k=>by
  have h : Bv 129 (r.to p):=inferInstance
  unfold P3.at
  split
  · exact h.x
  · exact h.y
  · exact h.z
 have hd : ∀ k : Nat,Bd 64 (r.d.at k):=fun k=>by
  have h : I3 r.d:=inferInstance
  unfold P3.at
  split
  · exact h.x.bd
  · exact h.y.bd
  · exact h.z.bd
 intro k
 induction k with
 | zero=>intro st e; cases e; exact ⟨⟨bd_zero _,bd_11.mono (by decide)⟩,fun q h=>by cases h⟩
 | succ k ih =>
  intro st e
  rw [axN] at e
  obtain ⟨s,hs,e⟩:=Option.bind_eq_some_iff.1 e
  obtain ⟨h1,h2⟩:=ih s hs
  unfold axR at e
  split at e
  · cases e
  ·
   split at e
   · cases e; exact ⟨h1,h2⟩
   ·
    rename_i hne
    cases e
    have hF : Bq 400000 (axFr r ((r.to lo).at k) ((r.to hi).at k) (r.d.at k)):=by
     unfold axFr
     split
     · exact bq_ax (hv hi k) (hd k) hne hok
     · exact bq_ax (hv lo k) (hd k) hne hok
    have hT : Bq 400000 (axTo r ((r.to lo).at k) ((r.to hi).at k) (r.d.at k)):=by
     unfold axTo
     split
     · exact bq_ax (hv lo k) (hd k) hne hok
     · exact bq_ax (hv hi k) (hd k) hne hok
    exact ⟨bq_max h1 hF,bqo_some (bq_min h2 hT)⟩
theorem bq_box {r : Ray} {lo hi : P3} {p q : Rat} [IR r] [I3 lo] [I3 hi] (h : boxR r lo hi = some (p,q)) : Bq 400000 p ∧ Bq 400000 q:=by
 unfold boxR at h
 split at h
 ·
  rename_i hok
  obtain ⟨s,hs,e⟩:=Option.bind_eq_some_iff.1 h
  obtain ⟨h1,h2⟩:=bq_axN hok 3 s hs
  split at e
  · cases e
  ·
   rename_i x hx
   split at e
   · cases e
   · cases e; exact ⟨h1,h2 _ hx⟩
 · cases h
theorem bq_begin {r : Ray} {kd : Kd} {q : Rat} [IR r] (hk : KdOk kd) (h : beginR r kd = some q) : Bq 400000 q:=by
 cases kd with
 | no=>cases h
 | ex=>cases h
 | unk=>cases h; exact ⟨bd_zero _,bd_11.mono (by decide)⟩
 | near lo hi =>
  obtain ⟨h1,h2⟩:=hk
  rw [beginR] at h
  obtain ⟨x,hx,rfl⟩:=Option.map_eq_some_iff.1 h
  exact (bq_box (p:=x.1) (q:=x.2) hx).1
theorem bq_lo {r : Ray} {h : Option (Rat × Nat)} {xs : List (Nat × Kd)} [IR r] (hk : ∀ x ∈ xs,KdOk x.2) : Bq 400000 (loQ (openL r h xs)):=by
 by_cases ho : openL r h xs = []
 · rw [ho]; exact ⟨bd_zero _,bd_11.mono (by decide)⟩
 ·
  obtain ⟨x,hx,e⟩:=loQ_mem ho
  rw [e]
  obtain ⟨kd,hm,hb,_⟩:=open_mem.1 (show (x.1,x.2) ∈ _ from hx)
  exact bq_begin (hk _ hm) hb
theorem cells_65 : Cells Tryz.prog 65 1:=cells_of (by kernel_rfl)
theorem agg_65 : IsAgg Tryz.prog 65 false:=isAgg_of _ Tryz.underlying65 rfl
theorem inf_65 : (Tryz.prog.info? 65).map (fun i=>(i.size,i.bytes,i.zero)) = some (1,16,some .nilIface):=by kernel_rfl
theorem Ask_c {r : Ray} [IR r] {N cap M bcap : Nat} {A B : Option Addr} {xs : List (List T3)} {bs : List Int} (w : World) (hS : ListsAt w A N xs) (hb : IntsAt w B M bs) (hN : N ≤ 1000000) (hT : xs.flatten.length ≤ 1099511627776) (hL : ∀ l ∈ xs,l.length ≤ 300000) : Does Tryz.prog 15 [rayV r,.slice A N cap,.slice B M bcap] w (AnsAt (askR r xs bs) w):=by
 refine ⟨en_15,?_⟩
 have m:=Mem.refl w
 have hIT : ∀ t ∈ sureL bs xs,IT t:=fun t ht=>by obtain ⟨i,l,hi,_,hl⟩:=mem_sure.1 ht; obtain ⟨_,_,_,_,hq,_⟩:=hS.row i l hi; exact hq.it t hl
 have hko : ∀ x ∈ restL bs xs,KdOk x.2:=fun x hx=>by obtain ⟨l,hl,e,_⟩:=mem_rest.1 (show (x.1,x.2) ∈ _ from hx); obtain ⟨_,_,_,_,hq,_⟩:=hS.row _ l hl; rw [e]; exact kd_ok hq.it (bnd_lt hb)
 have hsl:=hS.len
 go_enter Tryz.func15,Tryz.ntmps15
 refine c_seq fun K1 k1=>wp_region_lit (mboxA m rfl ?_)
 clear m; intro g1 u m
 simp only [ev,zD,zE,zF,zG]
 refine malloc m zero_39 rfl ?_
 clear m; intro g2 u m
 refine n_nil (k1 _ _ ?_)
 refine c_seq fun K2 k2=>wp_region_lit ?_
 simp only [ev,zD,zE,zF,zG]
 refine mcallP m rfl rfl (tzero_c) ?_
 clear m; intro u m
 simp only [ev,zD,zE,zF,zG]
 refine mcallP m rfl rfl (tzero_c) ?_
 clear m; intro u m
 refine n_val (r_build_39_0_1_2 rfl rfl rfl) ?_
 simp only [ev,zD,zE,zF,zG]
 refine malloc m zero_39 rfl ?_
 clear m; intro g3 u m
 simp only [ev,zD,zE,zF,zG]
 refine mstoreA m 0 rfl rfl rfl cells_39 (leT rfl) rfl ?_
 clear m; intro u m; simp only [over,zH,zI,zJ,zK,zL,zM,zN,zO,zP,zF,zG,Nat.reduceAdd] at m
 refine n_nil (k2 _ _ ?_)
 refine c_seq fun K3 k3=>c_seq fun K4 k4=>?_
 rcases ok3 r with hw | ⟨hw,hd⟩ | hok
 ·
  have hno : ¬ r.ok:=fun h=>by have:=h.1; omega
  refine wp_region_lit (n_val (r_fieldAddr (c:=0) Tryz.underlying25 rfl cells_3 rfl rfl) ?_)
  simp only [ev,zD,zE,zF,zG]
  refine n_load rfl ((m.b 2 rfl).lies1 agg_3 rfl) ?_
  simp only [ev,zD,zE,zF,zG]
  refine n_val (r_leqT rfl rfl (by omega)) (n_val (r_move) (n_skipF rfl (n_skipF rfl ?_)))
  simp only [ev,zD,zE,zF,zG]
  refine n_skipF rfl (n_skipF rfl (n_val (r_pickT rfl) (n_nil (k4 _ _ ?_))))
  refine c_yes rfl (c_seq fun K5 k5=>wp_region_lit ?_)
  simp only [ev,zD,zE,zF,zG]
  refine n_load rfl ((m.b 0 rfl).full agg_39 cells_39) ?_
  simp only [ev,zD,zE,zF,zG]
  refine mstoreA m 1 rfl rfl rfl cells_39 (leT rfl) rfl ?_
  clear m; intro u m; simp only [over,zH,zI,zJ,zK,zL,zM,zN,zO,zP,zF,zG,Nat.reduceAdd] at m
  refine n_nil (k5 _ _ ?_)
  refine wp_ret ?_
  try simp only [Exit.inBlock,Exit.then,if_true]
  refine fin1 rfl ⟨_,rfl,((m.b 1 rfl).full agg_39 cells_39)⟩ ?_
  try simp only [zD,zE]
  exact ⟨_,rfl,m.ext,_,_,_,by rw [askR,if_neg hno]; rfl,by rw [askR,if_neg hno]; rfl,by rw [askR,if_neg hno]; exact Ow.nil _ _ _ _⟩
 ·
  have hno : ¬ r.ok:=fun h=>h.2 hd
  refine wp_region_lit (n_val (r_fieldAddr (c:=0) Tryz.underlying25 rfl cells_3 rfl rfl) ?_)
  simp only [ev,zD,zE,zF,zG]
  refine n_load rfl ((m.b 2 rfl).lies1 agg_3 rfl) ?_
  simp only [ev,zD,zE,zF,zG]
  refine n_val (r_leqF rfl rfl (by omega)) (n_val (r_move) (n_want rfl (n_val (r_fieldAddr (c:=2) Tryz.underlying25 rfl cells_23 rfl rfl) (n_want rfl ?_))))
  simp only [ev,zD,zE,zF,zG]
  refine n_load rfl ((m.b 2 rfl).lies agg_23 cells_23 rfl rfl) ?_
  simp only [ev,zD,zE,zF,zG,zH,zI,zJ,zK,Nat.zero_add,Nat.reduceAdd,Nat.reduceMul,Int.reduceToNat]
  refine n_want rfl (n_val (r_build_23_) (n_want rfl (n_val (r_as (eq_eql_23 rfl rfl) (bool_as (decide_eq_true hd))) (n_val (r_pickF rfl) (n_nil (k4 _ _ ?_))))))
  refine c_yes rfl (c_seq fun K6 k6=>wp_region_lit ?_)
  simp only [ev,zD,zE,zF,zG]
  refine n_load rfl ((m.b 0 rfl).full agg_39 cells_39) ?_
  simp only [ev,zD,zE,zF,zG]
  refine mstoreA m 1 rfl rfl rfl cells_39 (leT rfl) rfl ?_
  clear m; intro u m; simp only [over,zH,zI,zJ,zK,zL,zM,zN,zO,zP,zF,zG,Nat.reduceAdd] at m
  refine n_nil (k6 _ _ ?_)
  refine wp_ret ?_
  try simp only [Exit.inBlock,Exit.then,if_true]
  refine fin1 rfl ⟨_,rfl,((m.b 1 rfl).full agg_39 cells_39)⟩ ?_
  try simp only [zD,zE]
  exact ⟨_,rfl,m.ext,_,_,_,by rw [askR,if_neg hno]; rfl,by rw [askR,if_neg hno]; rfl,by rw [askR,if_neg hno]; exact Ow.nil _ _ _ _⟩
 ·
  have hw:=hok.1
  refine wp_region_lit (n_val (r_fieldAddr (c:=0) Tryz.underlying25 rfl cells_3 rfl rfl) ?_)
  simp only [ev,zD,zE,zF,zG]
  refine n_load rfl ((m.b 2 rfl).lies1 agg_3 rfl) ?_
  simp only [ev,zD,zE,zF,zG]
  refine n_val (r_leqF rfl rfl (by omega)) (n_val (r_move) (n_want rfl (n_val (r_fieldAddr (c:=2) Tryz.underlying25 rfl cells_23 rfl rfl) (n_want rfl ?_))))
  simp only [ev,zD,zE,zF,zG]
  refine n_load rfl ((m.b 2 rfl).lies agg_23 cells_23 rfl rfl) ?_
  simp only [ev,zD,zE,zF,zG,zH,zI,zJ,zK,Nat.zero_add,Nat.reduceAdd,Nat.reduceMul,Int.reduceToNat]
  refine n_want rfl (n_val (r_build_23_) (n_want rfl (n_val (r_as (eq_eql_23 rfl rfl) (bool_as (decide_eq_false hok.2))) (n_val (r_pickF rfl) (n_nil (k4 _ _ ?_))))))
  refine c_no rfl (wp_skip (k3 _ _ ?_))
  refine c_seq fun K7 k7=>wp_region_lit (n_val (r_assign) ?_)
  simp only [ev,zD,zE,zF,zG]
  replace m:=m.nilO 58 9
  refine n_nil (k7 _ _ ?_)
  refine c_seq fun K8 k8=>wp_region_lit (n_val (r_assign) ?_)
  replace m:=m.nilO 65 1
  refine n_nil (k8 _ _ ?_)
  refine c_seq fun K9 k9=>c_seq fun K10 k10=>wp_region_lit (n_val (r_move) (n_val (r_lenS rfl Tryz.underlying29 rfl) (n_val (r_move) ?_)))
  simp only [ev,zD,zE,zF,zG]
  refine n_nil (k10 _ _ ?_)
  refine wp_block ?_
  try simp only [Nat.zero_add,Nat.reduceAdd,Nat.reduceMul,Int.reduceToNat]
  refine c_loopg [8,9,36] [10,11,12,13,14,37,38,39,40,41,42,43,44,45,46,47,48,49,50,51,52,53,54,55,56] (fun n vs wl=>∃ (k n1 n2 cap1 cap2 : Nat) (A1 A2 : Option Addr),vs = [.slice A1 n1 cap1,.slice A2 n2 cap2,.int .i64 (k:Int)] ∧ Mem w wl [oI 65 1 A2 n2 cap2 (kdsV (restL bs (xs.take k))),oI 58 9 A1 n1 cap1 ((sureL bs (xs.take k)).flatMap triCells),bI g3 [.int .i64 (2),.bool (wneg ((0 : Rat)).num),.string (wmag ((0 : Rat)).num),.bool (wneg (((0 : Rat)).den : Int)),.string (wmag (((0 : Rat)).den : Int)),.bool (wneg ((0 : Rat)).num),.string (wmag ((0 : Rat)).num),.bool (wneg (((0 : Rat)).den : Int)),.string (wmag (((0 : Rat)).den : Int)),.bool false,.slice none 0 0] 39,bI g2 [.int .i64 0,.bool false,.string ⟨#[]⟩,.bool false,.string ⟨#[]⟩,.bool false,.string ⟨#[]⟩,.bool false,.string ⟨#[]⟩,.bool false,.slice none 0 0] 39,bI g1 [.int .i64 r.s.x,.int .i64 r.s.y,.int .i64 r.s.z,.int .i64 r.w,.int .i64 r.d.x,.int .i64 r.d.y,.int .i64 r.d.z] 25] ∧ (n1 = (sureL bs (xs.take k)).length) ∧ (n2 = (restL bs (xs.take k)).length) ∧ (k ≤ N) ∧ (n = N - k)) ?_ ?_
  ·
   apply Exists.intro
   simp only [zQ,zR,zD,zE]
   exact ⟨0,_,_,_,_,_,_,rfl,m,rfl,rfl,Nat.zero_le _,rfl⟩
  ·
   intro n vs wr hI u
   clear m
   obtain ⟨k,n1,n2,cap1,cap2,A1,A2,rfl,m,hn1,hn2,hk,hn⟩:=hI
   simp only [setG_cons,setG_nil,setMany_cons,setMany_nil,zF,zG]
   refine c_seq fun K11 k11=>wp_region_lit (n_val (r_lss rfl rfl) (n_nil (k11 _ _ ?_)))
   refine c_seq fun K12 k12=>?_
   simp only [ev,zD,zE,zF,zG]
   refine c_if rfl (fun hc2=>?_) (fun hc2=>?_)
   ·
    obtain ⟨l,hl,a,Bl,nl,cl,rfl,hcell,hTl,hle⟩:=hS.get (i:=k) (by omega)
    refine wp_skip (k12 _ _ ?_)
    refine c_seq fun K13 k13=>wp_block (c_seq fun K14 k14=>wp_region_lit (n_val (r_move) ?_))
    simp only [ev,zD,zE,zF,zG]
    refine n_val (r_indexAddrS Tryz.underlying29 cells_48 rfl rfl (by omega) (by omega) (addr1 (Int.toNat_natCast _))) ?_
    simp only [ev,zD,zE,zF,zG]
    refine n_load rfl (Lith.lies1 (m.ext.cell hcell) agg_48) ?_
    simp only [ev,zD,zE,zF,zG]
    refine n_val (r_assign) (n_val (r_assign) (n_nil (k14 _ _ ?_)))
    refine c_seq fun K15 k15=>wp_region_lit (n_val (r_move) (n_val (r_move) ?_))
    simp only [ev,zD,zE,zF,zG]
    refine n_val (r_move) ?_
    simp only [ev,zD,zE,zF,zG]
    refine mcall m rfl rfl (kind_c (i:=k) (l:=l) (bs:=bs) _ (by omega) (hTl.ext m.ext) (by rw [← hTl.len]; exact hL l (List.mem_of_getElem? hl)) (hb.ext m.ext)) ?_
    clear m; rintro v u m rfl
    refine n_nil (k15 _ _ ?_)
    refine wp_block (c_seq fun K16 k16=>?_)
    simp only [ev,zD,zE,zF,zG]
    rcases kd5 l (bndAt bs k) with hkd | hkd | hkd | ⟨lo,hi,hkd⟩
    ·
     rw [hkd]
     have hs1 : sureL bs (xs.take (k + 1)) = sureL bs (xs.take k):=by rw [sure_step hl,hkd]; exact List.append_nil _
     have hr1 : restL bs (xs.take (k + 1)) = restL bs (xs.take k):=by rw [rest_step hl,hkd]; exact List.append_nil _
     refine wp_region_lit (n_val (r_eqlIN Tryz.underlying65 rfl) (n_nil (k16 _ _ ?_)))
     refine c_yes rfl (wp_region_lit (n_val (r_assign) (n_nil (k13 _ _ ?_))))
     refine wp_region_lit ?_
     simp only [ev,zD,zE,zF,zG]
     refine n_val (r_add rfl rfl (wrap_i64 (by omega) (by omega))) (n_val (r_move) (n_nil ?_))
     simp only [ev,zD,zE,zF,zG]
     simp only [Exit.inBlock,Exit.then]
     refine ⟨N - (k + 1),_,?_,rfl,?_,?_⟩
     · omega
     · simp only [zQ,zR,zD,zE,setG_cons,setG_nil,setMany_cons,setMany_nil,zF,zG]
     ·
      simp only [zQ,zR,zD,zE]
      exact ⟨k + 1,_,_,_,_,_,_,rfl,((m.reO 1 rfl (by rw [hs1]; exact (m.o 1 rfl))).reO 0 rfl (by rw [hr1]; exact (m.o 0 rfl))),by rw [hs1]; exact hn1,by rw [hr1]; exact hn2,by omega,rfl⟩
    ·
     rw [hkd]
     have hs1 : sureL bs (xs.take (k + 1)) = sureL bs (xs.take k) ++ l:=by rw [sure_step hl,hkd]; rfl
     have hr1 : restL bs (xs.take (k + 1)) = restL bs (xs.take k):=by rw [rest_step hl,hkd]; exact List.append_nil _
     refine wp_region_lit (n_val (r_eqlIv Tryz.underlying65 rfl) (n_nil (k16 _ _ ?_)))
     refine c_no rfl (c_seq fun K17 k17=>wp_region_lit (n_val (r_assertT (by kernel_rfl) rfl) (n_val (r_extract rfl rfl) (n_val (r_extract rfl rfl) ?_))))
     simp only [ev,zD,zE,zF,zG]
     refine n_nil (k17 _ _ ?_)
     refine c_yes rfl (c_seq fun K18 k18=>wp_region_lit (malloc m zero_69 rfl ?_))
     clear m; intro g4 u m
     simp only [ev,zD,zE,zF,zG]
     refine mstoreA m 0 rfl rfl rfl cells_69 (leT rfl) rfl ?_
     clear m; intro u m; simp only [over,zH,zI,zJ,zK,zL,zM,zN,zO,zP,zF,zG,Nat.reduceAdd] at m
     refine n_nil (k18 _ _ ?_)
     have hsl1:=sure_len (bs:=bs) (ls:=xs) k
     have hsl2:=take_flat hl
     have hsl3:=hTl.len
     refine wp_region_lit (n_val (r_move) (n_val (r_move) ?_))
     simp only [ev,zD,zE,zF,zG]
     refine mappend m 2 rfl rfl Tryz.underlying48 inf_58 rfl (by decide) rfl rfl (by rw [tri_len,hTl.len]) (TrisAt.cells (hTl.ext m.ext)) (tris_one _) (by omega) (by omega) ?_
     clear m; intro A1 cap1 u m; simp only [zF,zG] at m
     refine n_val (r_assign) (n_nil (k13 _ _ ?_))
     refine wp_region_lit ?_
     simp only [ev,zD,zE,zF,zG]
     refine n_val (r_add rfl rfl (wrap_i64 (by omega) (by omega))) (n_val (r_move) (n_nil ?_))
     simp only [ev,zD,zE,zF,zG]
     simp only [Exit.inBlock,Exit.then]
     refine ⟨N - (k + 1),_,?_,rfl,?_,?_⟩
     · omega
     · simp only [zQ,zR,zD,zE,setG_cons,setG_nil,setMany_cons,setMany_nil,zF,zG]
     ·
      simp only [zQ,zR,zD,zE]
      exact ⟨k + 1,_,_,_,_,_,_,rfl,(((m.reO 2 rfl (by rw [hs1,List.flatMap_append]; exact (m.o 2 rfl))).reO 1 rfl (by rw [hr1]; exact (m.o 1 rfl))).sel [false,true,true,true,true,true]),by rw [hs1,List.length_append,hn1,hTl.len],by rw [hr1]; exact hn2,by omega,rfl⟩
    ·
     rw [hkd]
     have hs1 : sureL bs (xs.take (k + 1)) = sureL bs (xs.take k):=by rw [sure_step hl,hkd]; exact List.append_nil _
     have hr1 : restL bs (xs.take (k + 1)) = restL bs (xs.take k) ++ [(k,.unk)]:=by rw [rest_step hl,hkd]; rfl
     refine wp_region_lit (n_val (r_eqlIv Tryz.underlying65 rfl) (n_nil (k16 _ _ ?_)))
     refine c_no rfl (c_seq fun K19 k19=>wp_region_lit (n_val (r_assertF (by kernel_rfl) zero_69 (by decide) rfl) (n_val (r_extract rfl rfl) (n_val (r_extract rfl rfl) ?_))))
     simp only [ev,zD,zE,zF,zG]
     refine n_nil (k19 _ _ ?_)
     refine c_no rfl (c_seq fun K20 k20=>wp_region_lit (n_val (r_assign) (n_nil (k20 _ _ ?_))))
     simp only [ev,zD,zE,zF,zG]
     have hrl:=rest_len (bs:=bs) (ls:=xs) k
     refine wp_region_lit (n_val (r_move) (n_val (r_move) ?_))
     simp only [ev,zD,zE,zF,zG]
     refine n_build1 Tryz.underlying63 (z:=.nilIface) (by kernel_rfl) rfl rfl rfl ?_
     intro u g4 e hg hB; replace m:=m.newB e hg hB; clear e hg hB
     simp only [ev,zD,zE,zF,zG]
     refine mappend m 1 rfl rfl Tryz.underlying63 inf_65 rfl (by decide) rfl rfl rfl (m.b 0 rfl).rowsO (allT rfl) (by omega) (by omega) ?_
     clear m; intro A2 cap2 u m; simp only [zF,zG] at m
     refine n_val (r_assign) (n_nil (k13 _ _ ?_))
     refine wp_region_lit ?_
     simp only [ev,zD,zE,zF,zG]
     refine n_val (r_add rfl rfl (wrap_i64 (by omega) (by omega))) (n_val (r_move) (n_nil ?_))
     simp only [ev,zD,zE,zF,zG]
     simp only [Exit.inBlock,Exit.then]
     refine ⟨N - (k + 1),_,?_,rfl,?_,?_⟩
     · omega
     · simp only [zQ,zR,zD,zE,setG_cons,setG_nil,setMany_cons,setMany_nil,zF,zG]
     ·
      simp only [zQ,zR,zD,zE]
      exact ⟨k + 1,_,_,_,_,_,_,rfl,(((m.reO 2 rfl (by rw [hs1]; exact (m.o 2 rfl))).reO 1 rfl (by rw [hr1]; exact (m.o 1 rfl).as (by rw [kdsV,kdsV,List.map_append]; rfl))).sel [false,true,true,true,true,true]),by rw [hs1]; exact hn1,by rw [hr1,List.length_append,hn2]; rfl,by omega,rfl⟩
    ·
     rw [hkd]
     have hs1 : sureL bs (xs.take (k + 1)) = sureL bs (xs.take k):=by rw [sure_step hl,hkd]; exact List.append_nil _
     have hr1 : restL bs (xs.take (k + 1)) = restL bs (xs.take k) ++ [(k,.near lo hi)]:=by rw [rest_step hl,hkd]; rfl
     refine wp_region_lit (n_val (r_eqlIv Tryz.underlying65 rfl) (n_nil (k16 _ _ ?_)))
     refine c_no rfl (c_seq fun K21 k21=>wp_region_lit (n_val (r_assertF (by kernel_rfl) zero_69 (by decide) rfl) (n_val (r_extract rfl rfl) (n_val (r_extract rfl rfl) ?_))))
     simp only [ev,zD,zE,zF,zG]
     refine n_nil (k21 _ _ ?_)
     refine c_no rfl (c_seq fun K22 k22=>wp_region_lit (n_val (r_assign) (n_nil (k22 _ _ ?_))))
     simp only [ev,zD,zE,zF,zG]
     have hrl:=rest_len (bs:=bs) (ls:=xs) k
     refine wp_region_lit (n_val (r_move) (n_val (r_move) ?_))
     simp only [ev,zD,zE,zF,zG]
     refine n_build1 Tryz.underlying63 (z:=.nilIface) (by kernel_rfl) rfl rfl rfl ?_
     intro u g4 e hg hB; replace m:=m.newB e hg hB; clear e hg hB
     simp only [ev,zD,zE,zF,zG]
     refine mappend m 1 rfl rfl Tryz.underlying63 inf_65 rfl (by decide) rfl rfl rfl (m.b 0 rfl).rowsO (allT rfl) (by omega) (by omega) ?_
     clear m; intro A2 cap2 u m; simp only [zF,zG] at m
     refine n_val (r_assign) (n_nil (k13 _ _ ?_))
     refine wp_region_lit ?_
     simp only [ev,zD,zE,zF,zG]
     refine n_val (r_add rfl rfl (wrap_i64 (by omega) (by omega))) (n_val (r_move) (n_nil ?_))
     simp only [ev,zD,zE,zF,zG]
     simp only [Exit.inBlock,Exit.then]
     refine ⟨N - (k + 1),_,?_,rfl,?_,?_⟩
     · omega
     · simp only [zQ,zR,zD,zE,setG_cons,setG_nil,setMany_cons,setMany_nil,zF,zG]
     ·
      simp only [zQ,zR,zD,zE]
      exact ⟨k + 1,_,_,_,_,_,_,rfl,(((m.reO 2 rfl (by rw [hs1]; exact (m.o 2 rfl))).reO 1 rfl (by rw [hr1]; exact (m.o 1 rfl).as (by rw [kdsV,kdsV,List.map_append]; rfl))).sel [false,true,true,true,true,true]),by rw [hs1]; exact hn1,by rw [hr1,List.length_append,hn2]; rfl,by omega,rfl⟩
   ·
    have hkN : xs.take k = xs:=List.take_of_length_le (by omega)
    rw [hkN] at m hn1 hn2
    have hrl:=rest_len (bs:=bs) (ls:=xs) xs.length
    rw [List.take_length] at hrl
    have hsl1:=sure_len (bs:=bs) (ls:=xs) xs.length
    rw [List.take_length] at hsl1
    refine wp_exit (k9 _ _ ?_)
    refine c_seq fun K23 k23=>wp_region_lit (n_load rfl ((m.b 4 rfl).full agg_25 cells_25) ?_)
    simp only [ev,zD,zE,zF,zG]
    refine n_val (r_move) ?_
    simp only [ev,zD,zE,zF,zG]
    refine mcall m rfl rfl (rayFirst_c (ts:=sureL bs xs) _ ((m.o 1 rfl).tris hIT) (by omega)) ?_
    clear m; rintro v u m rfl
    refine n_val (r_move) (n_val (r_extract rfl rfl) (n_val (r_extract rfl rfl) ?_))
    simp only [ev,zD,zE,zF,zG]
    refine malloc m zero_43 rfl ?_
    clear m; intro g4 u m
    simp only [ev,zD,zE,zF,zG]
    refine mstoreA m 0 rfl rfl rfl cells_43 (leT rfl) rfl ?_
    clear m; intro u m; simp only [over,zH,zI,zJ,zK,zL,zM,zN,zO,zP,zF,zG,Nat.reduceAdd] at m
    refine n_val (r_assign) (n_nil (k23 _ _ ?_))
    refine c_seq fun K24 k24=>c_seq fun K25 k25=>?_
    simp only [ev,zD,zE,zF,zG]
    replace m:=m.nilO 3 1; have hn3:=rest_len (bs:=bs) (ls:=xs) xs.length; rw [List.take_length] at hn3
    refine wp_region_lit (n_val (r_move) (n_val (r_lenS rfl Tryz.underlying63 rfl) (n_val (r_move) (n_nil (k25 _ _ ?_)))))
    refine wp_block ?_
    simp only [ev,zD,zE,zF,zG]
    try simp only [Nat.zero_add,Nat.reduceAdd,Nat.reduceMul,Int.reduceToNat]
    refine c_loopg [65] [18,19,20,66,67,68,69,70,71,72,73,74,75,76,77,78,79,80,81,82,83,84,85,86,87,88,89,90,91,92,93,94,95,96,97,98,99,100,101,102,103,104,105,106,107] (fun n vs wl=>∃ (k n3 cap3 : Nat) (A3 : Option Addr),vs = [.int .i64 (k:Int)] ∧ Mem w wl [oI 3 1 A3 n3 cap3 (numsV (openL r (firstN r (sureL bs xs)) ((restL bs xs).take k))),bI g4 [.bool (wneg (hitT (firstN r (sureL bs xs))).num),.string (wmag (hitT (firstN r (sureL bs xs))).num),.bool (wneg ((hitT (firstN r (sureL bs xs))).den : Int)),.string (wmag ((hitT (firstN r (sureL bs xs))).den : Int)),.int .i64 (hitK (firstN r (sureL bs xs)) : Int)] 43,oI 65 1 A2 n2 cap2 (kdsV (restL bs xs)),oI 58 9 A1 n1 cap1 ((sureL bs xs).flatMap triCells),bI g3 [.int .i64 (kindN (openL r (firstN r (sureL bs xs)) ((restL bs xs).take k))),.bool (wneg (loQ (openL r (firstN r (sureL bs xs)) ((restL bs xs).take k))).num),.string (wmag (loQ (openL r (firstN r (sureL bs xs)) ((restL bs xs).take k))).num),.bool (wneg ((loQ (openL r (firstN r (sureL bs xs)) ((restL bs xs).take k))).den : Int)),.string (wmag ((loQ (openL r (firstN r (sureL bs xs)) ((restL bs xs).take k))).den : Int)),.bool (wneg ((0 : Rat)).num),.string (wmag ((0 : Rat)).num),.bool (wneg (((0 : Rat)).den : Int)),.string (wmag (((0 : Rat)).den : Int)),.bool false,.slice A3 n3 cap3] 39,bI g2 [.int .i64 0,.bool false,.string ⟨#[]⟩,.bool false,.string ⟨#[]⟩,.bool false,.string ⟨#[]⟩,.bool false,.string ⟨#[]⟩,.bool false,.slice none 0 0] 39,bI g1 [.int .i64 r.s.x,.int .i64 r.s.y,.int .i64 r.s.z,.int .i64 r.w,.int .i64 r.d.x,.int .i64 r.d.y,.int .i64 r.d.z] 25] ∧ (n3 = (openL r (firstN r (sureL bs xs)) ((restL bs xs).take k)).length) ∧ (k ≤ n2) ∧ (n = n2 - k)) ?_ ?_
    ·
     apply Exists.intro
     simp only [zQ,zR,zD,zE]
     exact ⟨0,0,0,none,rfl,m,rfl,Nat.zero_le _,rfl⟩
    ·
     intro n vs wr hI u
     clear m
     obtain ⟨k,n3,cap3,A3,rfl,m,hn3,hk,hn⟩:=hI
     simp only [setG_cons,setG_nil,setMany_cons,setMany_nil,zF,zG]
     refine c_seq fun K26 k26=>wp_region_lit (n_val (r_lss rfl rfl) (n_nil (k26 _ _ ?_)))
     refine c_seq fun K27 k27=>?_
     simp only [ev,zD,zE,zF,zG]
     refine c_if rfl (fun hc5=>?_) (fun hc5=>?_)
     ·
      obtain ⟨gO,rfl⟩:=(m.o 2 rfl).some (by omega)
      obtain ⟨⟨i,kd⟩,hx⟩ : ∃ x,(restL bs xs)[k]? = some x:=⟨_,List.getElem?_eq_getElem (by omega)⟩
      have hx2 : (kdsV (restL bs xs))[k]? = some (kdV i kd):=by rw [kdsV,List.getElem?_map,hx]; rfl
      have hot : kd.other = true:=(mem_rest.1 (List.mem_of_getElem? hx)).choose_spec.2.2
      have hkd : KdOk kd:=hko _ (List.mem_of_getElem? hx)
      refine wp_skip (k27 _ _ ?_)
      refine c_seq fun K28 k28=>wp_block (c_seq fun K29 k29=>wp_region_lit (n_val (r_indexAddrS Tryz.underlying63 cells_65 rfl rfl (by omega) (by omega) (addr1 (Int.toNat_natCast _))) ?_))
      simp only [ev,zD,zE,zF,zG]
      refine n_load rfl (Lith.lies1 ((m.o 2 rfl).rows k _ hx2) agg_65) ?_
      simp only [ev,zD,zE,zF,zG]
      refine n_val (r_assign) (n_nil (k29 _ _ ?_))
      refine c_seq fun K30 k30=>wp_region_lit ?_
      simp only [ev,zD,zE,zF,zG]
      refine n_load rfl ((m.b 6 rfl).full agg_25 cells_25) ?_
      simp only [ev,zD,zE,zF,zG]
      refine n_val (r_move) ?_
      simp only [ev,zD,zE,zF,zG]
      refine mcallP m rfl rfl (begin_c (r:=r) (i:=i) (kd:=kd) hot hkd) ?_
      clear m; intro u m
      refine n_val (r_move) (n_val (r_extract rfl rfl) (n_val (r_extract rfl rfl) ?_))
      simp only [ev,zD,zE,zF,zG]
      refine malloc m zero_37 rfl ?_
      clear m; intro g5 u m
      simp only [ev,zD,zE,zF,zG]
      refine mstoreA m 0 rfl rfl rfl cells_37 (leT rfl) rfl ?_
      clear m; intro u m; simp only [over,zH,zI,zJ,zK,zL,zM,zN,zO,zP,zF,zG,Nat.reduceAdd] at m
      refine n_val (r_assign) (n_nil (k30 _ _ ?_))
      refine c_seq fun K31 k31=>c_seq fun K32 k32=>?_
      simp only [ev,zD,zE,zF,zG]
      rcases open4 r (firstN r (sureL bs xs)) (i,kd) with ⟨hq,ho4⟩ | ⟨q,hq,hh,ho4⟩ | ⟨q,t,kk,hq,hh,ho4⟩
      ·
       have hq : beginR r kd = none:=hq
       have hon : openL r (firstN r (sureL bs xs)) ((restL bs xs).take (k + 1)) = openL r (firstN r (sureL bs xs)) ((restL bs xs).take k):=by rw [open_step hx,ho4,List.append_nil]
       rw [hq]
       simp only [Option.isSome_none,Option.getD_none]
       refine wp_region_lit (n_val (r_move) (n_val (r_not rfl) (n_val (r_move) (n_skipF rfl ?_))))
       simp only [ev,zD,zE,zF,zG]
       refine n_skipF rfl (n_skip0 rfl (n_skip0 rfl (n_skip0 rfl ?_)))
       simp only [ev,zD,zE,zF,zG]
       refine n_skip0 rfl (n_skip0 rfl (n_skipF rfl (n_val (r_pickT rfl) ?_)))
       simp only [ev,zD,zE,zF,zG]
       refine n_nil (k32 _ _ ?_)
       refine c_yes rfl (wp_exit (k28 _ _ ?_))
       refine wp_region_lit (n_val (r_add rfl rfl (wrap_i64 (by omega) (by omega))) (n_val (r_move) (n_nil ?_)))
       simp only [ev,zD,zE,zF,zG]
       simp only [Exit.inBlock,Exit.then]
       refine ⟨n2 - (k + 1),_,?_,rfl,?_,?_⟩
       · omega
       · simp only [zQ,zR,zD,zE,setG_cons,setG_nil,setMany_cons,setMany_nil,zF,zG]
       ·
        simp only [zQ,zR,zD,zE]
        exact ⟨k + 1,_,_,_,rfl,(((m.re 5 rfl (by rw [hon]; exact (m.b 5 rfl))).reO 1 rfl (by rw [hon]; exact (m.o 1 rfl))).sel [false,true,true,true,true,true,true,true]),by rw [hon]; exact hn3,by omega,rfl⟩
      ·
       have hq : beginR r kd = some q:=hq
       have hon : openL r (firstN r (sureL bs xs)) ((restL bs xs).take (k + 1)) = openL r (firstN r (sureL bs xs)) ((restL bs xs).take k) ++ [(i,q)]:=by rw [open_step hx,ho4]
       rw [hq]
       rw [hq] at m
       simp only [Option.isSome_some,Option.getD_some] at m ⊢
       refine wp_region_lit (n_val (r_move) (n_val (r_not rfl) (n_val (r_move) (n_want rfl ?_))))
       simp only [ev,zD,zE,zF,zG]
       refine n_val (r_as r_move (show (Value.bool (firstN r (sureL bs xs)).isSome) = .bool false by rw [hh]; rfl)) (n_want rfl (n_val (r_move) (n_skipT rfl (n_skipT rfl ?_))))
       simp only [ev,zD,zE,zF,zG]
       refine n_skipT rfl (n_skipT rfl (n_skipT rfl (n_want rfl (n_val (r_pickF rfl) ?_))))
       simp only [ev,zD,zE,zF,zG]
       refine n_val (r_pickF rfl) (n_nil (k32 _ _ ?_))
       refine c_no rfl (wp_skip (k31 _ _ ?_))
       refine c_seq fun K33 k33=>c_seq fun K34 k34=>?_
       simp only [ev,zD,zE,zF,zG]
       rcases Decidable.em (openL r (firstN r (sureL bs xs)) ((restL bs xs).take k) = []) with hoe | hoe
       ·
        have hlo : loQ (openL r (firstN r (sureL bs xs)) ((restL bs xs).take (k + 1))) = q:=by rw [hon,hoe]; rfl
        rw [show kindN (openL r (firstN r (sureL bs xs)) ((restL bs xs).take k)) = 2 by rw [hoe]; rfl] at m
        refine wp_region_lit (n_val (r_fieldAddr (c:=0) Tryz.underlying39 rfl cells_3 rfl rfl) ?_)
        simp only [ev,zD,zE,zF,zG]
        refine n_load rfl ((m.b 5 rfl).lies1 agg_3 rfl) ?_
        simp only [ev,zD,zE,zF,zG]
        refine n_val (r_neqT rfl rfl (by decide)) (n_val (r_move) (n_skipF rfl (n_skipF rfl ?_)))
        simp only [ev,zD,zE,zF,zG]
        refine n_skipF rfl (n_skipF rfl (n_skipF rfl (n_val (r_pickT rfl) ?_)))
        simp only [ev,zD,zE,zF,zG]
        refine n_nil (k34 _ _ ?_)
        refine c_yes rfl (wp_region_lit (n_load rfl ((m.b 0 rfl).full agg_37 cells_37) ?_))
        simp only [ev,zD,zE,zF,zG]
        refine n_val (r_fieldAddr (c:=3) Tryz.underlying39 rfl cells_37 rfl rfl) ?_
        simp only [ev,zD,zE,zF,zG]
        refine mstoreA m 5 rfl rfl rfl cells_37 (leT rfl) rfl ?_
        clear m; intro u m; simp only [over,zH,zI,zJ,zK,zL,zM,zN,zO,zP,zF,zG,Nat.reduceAdd] at m
        refine n_nil (k33 _ _ ?_)
        refine c_seq fun K35 k35=>wp_region_lit (n_val (r_fieldAddr (c:=0) Tryz.underlying39 rfl cells_3 rfl rfl) ?_)
        simp only [ev,zD,zE,zF,zG]
        refine mstore1 m 5 rfl rfl rfl cells_3 (leT rfl) ⟨rfl,rfl⟩ ?_
        clear m; intro u m; simp only [over,zH,zI,zJ,zK,zL,zM,zN,zO,zP,zF,zG,Nat.reduceAdd] at m
        refine n_nil (k35 _ _ ?_)
        have hol:=open_len (r:=r) (h:=firstN r (sureL bs xs)) ((restL bs xs).take k)
        rw [List.length_take] at hol
        refine mtree m [true,false,true,true,true,false,true,true] (.take 0 (.take 2 (.two 1 (.one 3 (.one 4 (.one 5 (.take 6 (.one 7 .nil))))) 3 (.two 1 (.one 4 (.one 5 (.take 6 (.one 7 .nil)))) 4 (.one 1 (.one 5 (.take 6 (.one 7 .nil)))))))) follows_mixed (by kernel_rfl) (panic_put (fun _ _ _ _ _ h=>h)) ?_
        clear m; intro u m
        refine t_take (by simp only [zS,zT,zU,zV]; rfl) (h_val (r_fieldAddr (c:=0) Tryz.underlying39 rfl cells_22 rfl rfl) (h_nil (t_take (by simp only [zS,zT,zU,zV]; rfl) (h_val (r_move) (h_nil ?_)))))
        simp only [ev,zD,zE,zF,zG]
        refine t_two (by simp only [zS,zT,zU,zV]; rfl) (by simp only [zS,zT,zU,zV]; rfl) ?_ ?_
        ·
         refine n_load rfl ((m.b 5 rfl).lies1 agg_22 rfl) ?_
         simp only [ev,zD,zE,zF,zG]
         refine n_nil ?_
         refine ⟨m.sel [true,false,true,true,true,false,true,true],?_⟩
         refine t_one (by simp only [zS,zT,zU,zV]; rfl) (mcallI m rfl (inv_kd hot) number_c ?_)
         clear m; intro u m
         refine n_nil ?_
         refine ⟨m.sel [true,false,true,true,true,false,true,true],?_⟩
         refine t_one (by simp only [zS,zT,zU,zV]; rfl) ?_
         simp only [ev,zD,zE,zF,zG]
         refine n_build1 Tryz.underlying22 (z:=.int .i64 0) (by kernel_rfl) rfl rfl rfl ?_
         intro u g6 e hg hB; replace m:=m.newB e hg hB; clear e hg hB
         refine n_nil ?_
         refine ⟨m.sel [false,true,false,true,true,true,false,true,true],?_⟩
         refine t_one (by simp only [zS,zT,zU,zV]; rfl) ?_
         simp only [ev,zD,zE,zF,zG]
         refine mappend m 2 rfl rfl Tryz.underlying22 inf_3 rfl (by decide) rfl rfl rfl (m.b 0 rfl).rowsO (allT rfl) (by omega) (by omega) ?_
         clear m; intro A3 cap3 u m; simp only [zF,zG] at m
         refine n_nil ?_
         refine ⟨m.sel [false,true,false,true,true,true,false,true,true],?_⟩
         refine t_take (by simp only [zS,zT,zU,zV]; rfl) (h_val (r_fieldAddr (c:=0) Tryz.underlying39 rfl cells_22 rfl rfl) (h_nil (t_one (by simp only [zS,zT,zU,zV]; rfl) ?_)))
         simp only [ev,zD,zE,zF,zG]
         refine mstore1 m 6 rfl rfl rfl cells_22 (leT rfl) ⟨rfl,rfl⟩ ?_
         clear m; intro u m; simp only [over,zH,zI,zJ,zK,zL,zM,zN,zO,zP,zF,zG,Nat.reduceAdd] at m
         refine n_nil ?_
         refine ⟨m.sel [false,true,false,true,true,true,false,true,true],?_⟩
         refine t_nil (k28 _ _ ?_)
         refine wp_region_lit (n_val (r_add rfl rfl (wrap_i64 (by omega) (by omega))) (n_val (r_move) (n_nil ?_)))
         simp only [ev,zD,zE,zF,zG]
         simp only [Exit.inBlock,Exit.then]
         refine ⟨n2 - (k + 1),_,?_,rfl,?_,?_⟩
         · omega
         · simp only [zQ,zR,zD,zE,setG_cons,setG_nil,setMany_cons,setMany_nil,zF,zG]
         ·
          simp only [zQ,zR,zD,zE]
          exact ⟨k + 1,_,_,_,rfl,(((m.re 6 rfl (by rw [hlo,hon,kindN_app]; exact (m.b 6 rfl))).reO 2 rfl (by rw [hon]; exact (m.o 2 rfl).as (by rw [numsV,numsV,List.map_append]; rfl))).sel [false,false,true,true,true,true,true,true,true]),by rw [hon,List.length_append,hn3]; rfl,by omega,rfl⟩
        ·
         refine mcallI m rfl (inv_kd hot) number_c ?_
         clear m; intro u m
         refine n_nil ?_
         refine ⟨m.sel [true,false,true,true,true,false,true,true],?_⟩
         simp only [ev,zD,zE,zF,zG]
         refine t_two (by simp only [zS,zT,zU,zV]; rfl) (by simp only [zS,zT,zU,zV]; rfl) ?_ ?_
         ·
          refine n_load rfl ((m.b 5 rfl).lies1 agg_22 rfl) ?_
          simp only [ev,zD,zE,zF,zG]
          refine n_nil ?_
          refine ⟨m.sel [true,false,true,true,true,false,true,true],?_⟩
          refine t_one (by simp only [zS,zT,zU,zV]; rfl) (n_build1 Tryz.underlying22 (z:=.int .i64 0) (by kernel_rfl) rfl rfl rfl ?_)
          intro u g6 e hg hB; replace m:=m.newB e hg hB; clear e hg hB
          refine n_nil ?_
          refine ⟨m.sel [false,true,false,true,true,true,false,true,true],?_⟩
          refine t_one (by simp only [zS,zT,zU,zV]; rfl) ?_
          simp only [ev,zD,zE,zF,zG]
          refine mappend m 2 rfl rfl Tryz.underlying22 inf_3 rfl (by decide) rfl rfl rfl (m.b 0 rfl).rowsO (allT rfl) (by omega) (by omega) ?_
          clear m; intro A3 cap3 u m; simp only [zF,zG] at m
          refine n_nil ?_
          refine ⟨m.sel [false,true,false,true,true,true,false,true,true],?_⟩
          refine t_take (by simp only [zS,zT,zU,zV]; rfl) (h_val (r_fieldAddr (c:=0) Tryz.underlying39 rfl cells_22 rfl rfl) (h_nil (t_one (by simp only [zS,zT,zU,zV]; rfl) ?_)))
          simp only [ev,zD,zE,zF,zG]
          refine mstore1 m 6 rfl rfl rfl cells_22 (leT rfl) ⟨rfl,rfl⟩ ?_
          clear m; intro u m; simp only [over,zH,zI,zJ,zK,zL,zM,zN,zO,zP,zF,zG,Nat.reduceAdd] at m
          refine n_nil ?_
          refine ⟨m.sel [false,true,false,true,true,true,false,true,true],?_⟩
          refine t_nil (k28 _ _ ?_)
          refine wp_region_lit (n_val (r_add rfl rfl (wrap_i64 (by omega) (by omega))) (n_val (r_move) (n_nil ?_)))
          simp only [ev,zD,zE,zF,zG]
          simp only [Exit.inBlock,Exit.then]
          refine ⟨n2 - (k + 1),_,?_,rfl,?_,?_⟩
          · omega
          · simp only [zQ,zR,zD,zE,setG_cons,setG_nil,setMany_cons,setMany_nil,zF,zG]
          ·
           simp only [zQ,zR,zD,zE]
           exact ⟨k + 1,_,_,_,rfl,(((m.re 6 rfl (by rw [hlo,hon,kindN_app]; exact (m.b 6 rfl))).reO 2 rfl (by rw [hon]; exact (m.o 2 rfl).as (by rw [numsV,numsV,List.map_append]; rfl))).sel [false,false,true,true,true,true,true,true,true]),by rw [hon,List.length_append,hn3]; rfl,by omega,rfl⟩
         ·
          refine n_build1 Tryz.underlying22 (z:=.int .i64 0) (by kernel_rfl) rfl rfl rfl ?_
          intro u g6 e hg hB; replace m:=m.newB e hg hB; clear e hg hB
          refine n_nil ?_
          refine ⟨m.sel [false,true,false,true,true,true,false,true,true],?_⟩
          refine t_one (by simp only [zS,zT,zU,zV]; rfl) ?_
          simp only [ev,zD,zE,zF,zG]
          refine n_load rfl ((m.b 6 rfl).lies1 agg_22 rfl) ?_
          simp only [ev,zD,zE,zF,zG]
          refine n_nil ?_
          refine ⟨m.sel [false,true,false,true,true,true,false,true,true],?_⟩
          refine t_one (by simp only [zS,zT,zU,zV]; rfl) (mappend m 2 rfl rfl Tryz.underlying22 inf_3 rfl (by decide) rfl rfl rfl (m.b 0 rfl).rowsO (allT rfl) (by omega) (by omega) ?_)
          clear m; intro A3 cap3 u m; simp only [zF,zG] at m
          refine n_nil ?_
          refine ⟨m.sel [false,true,false,true,true,true,false,true,true],?_⟩
          refine t_take (by simp only [zS,zT,zU,zV]; rfl) (h_val (r_fieldAddr (c:=0) Tryz.underlying39 rfl cells_22 rfl rfl) (h_nil (t_one (by simp only [zS,zT,zU,zV]; rfl) ?_)))
          simp only [ev,zD,zE,zF,zG]
          refine mstore1 m 6 rfl rfl rfl cells_22 (leT rfl) ⟨rfl,rfl⟩ ?_
          clear m; intro u m; simp only [over,zH,zI,zJ,zK,zL,zM,zN,zO,zP,zF,zG,Nat.reduceAdd] at m
          refine n_nil ?_
          refine ⟨m.sel [false,true,false,true,true,true,false,true,true],?_⟩
          refine t_nil (k28 _ _ ?_)
          refine wp_region_lit (n_val (r_add rfl rfl (wrap_i64 (by omega) (by omega))) (n_val (r_move) (n_nil ?_)))
          simp only [ev,zD,zE,zF,zG]
          simp only [Exit.inBlock,Exit.then]
          refine ⟨n2 - (k + 1),_,?_,rfl,?_,?_⟩
          · omega
          · simp only [zQ,zR,zD,zE,setG_cons,setG_nil,setMany_cons,setMany_nil,zF,zG]
          ·
           simp only [zQ,zR,zD,zE]
           exact ⟨k + 1,_,_,_,rfl,(((m.re 6 rfl (by rw [hlo,hon,kindN_app]; exact (m.b 6 rfl))).reO 2 rfl (by rw [hon]; exact (m.o 2 rfl).as (by rw [numsV,numsV,List.map_append]; rfl))).sel [false,false,true,true,true,true,true,true,true]),by rw [hon,List.length_append,hn3]; rfl,by omega,rfl⟩
       ·
        have hbo:=bq_lo (r:=r) (h:=firstN r (sureL bs xs)) (xs:=(restL bs xs).take k) (fun x hx=>hko x (List.mem_of_mem_take hx))
        rw [show kindN (openL r (firstN r (sureL bs xs)) ((restL bs xs).take k)) = 3 from kindN_ne hoe] at m
        refine wp_region_lit (n_val (r_fieldAddr (c:=0) Tryz.underlying39 rfl cells_3 rfl rfl) ?_)
        simp only [ev,zD,zE,zF,zG]
        refine n_load rfl ((m.b 5 rfl).lies1 agg_3 rfl) ?_
        simp only [ev,zD,zE,zF,zG]
        refine n_val (r_neqF rfl rfl (by decide)) (n_val (r_move) (n_want rfl ?_))
        simp only [ev,zD,zE,zF,zG]
        refine n_load rfl ((m.b 0 rfl).full agg_37 cells_37) ?_
        simp only [ev,zD,zE,zF,zG]
        refine n_want rfl (n_val (r_fieldAddr (c:=3) Tryz.underlying39 rfl cells_37 rfl rfl) (n_want rfl ?_))
        simp only [ev,zD,zE,zF,zG]
        refine n_load rfl ((m.b 5 rfl).lies agg_37 cells_37 rfl rfl) ?_
        simp only [ev,zD,zE,zF,zG,zH,zI,zJ,zK,Nat.zero_add,Nat.reduceAdd,Nat.reduceMul,Int.reduceToNat]
        refine n_want rfl (mcallP m rfl rfl (CmpFrac_c (p:=q) (q:=loQ (openL r (firstN r (sureL bs xs)) ((restL bs xs).take k))) (bq_begin hkd hq) hbo) ?_)
        clear m; intro u m
        refine n_want rfl (n_val (r_lss rfl rfl) (n_val (r_pickF rfl) (n_nil (k34 _ _ ?_))))
        simp only [ev,zD,zE,zF,zG]
        refine c_if rfl (fun hc7=>?_) (fun hc7=>?_)
        ·
         have hlo : loQ (openL r (firstN r (sureL bs xs)) ((restL bs xs).take (k + 1))) = q:=by rw [hon,loQ_step hoe]; exact if_pos (qcmp_lt.1 hc7)
         refine wp_region_lit (n_load rfl ((m.b 0 rfl).full agg_37 cells_37) ?_)
         simp only [ev,zD,zE,zF,zG]
         refine n_val (r_fieldAddr (c:=3) Tryz.underlying39 rfl cells_37 rfl rfl) ?_
         simp only [ev,zD,zE,zF,zG]
         refine mstoreA m 5 rfl rfl rfl cells_37 (leT rfl) rfl ?_
         clear m; intro u m; simp only [over,zH,zI,zJ,zK,zL,zM,zN,zO,zP,zF,zG,Nat.reduceAdd] at m
         refine n_nil (k33 _ _ ?_)
         refine c_seq fun K36 k36=>wp_region_lit (n_val (r_fieldAddr (c:=0) Tryz.underlying39 rfl cells_3 rfl rfl) ?_)
         simp only [ev,zD,zE,zF,zG]
         refine mstore1 m 5 rfl rfl rfl cells_3 (leT rfl) ⟨rfl,rfl⟩ ?_
         clear m; intro u m; simp only [over,zH,zI,zJ,zK,zL,zM,zN,zO,zP,zF,zG,Nat.reduceAdd] at m
         refine n_nil (k36 _ _ ?_)
         have hol:=open_len (r:=r) (h:=firstN r (sureL bs xs)) ((restL bs xs).take k)
         rw [List.length_take] at hol
         refine mtree m [true,false,true,true,true,false,true,true] (.take 0 (.take 2 (.two 1 (.one 3 (.one 4 (.one 5 (.take 6 (.one 7 .nil))))) 3 (.two 1 (.one 4 (.one 5 (.take 6 (.one 7 .nil)))) 4 (.one 1 (.one 5 (.take 6 (.one 7 .nil)))))))) follows_mixed (by kernel_rfl) (panic_put (fun _ _ _ _ _ h=>h)) ?_
         clear m; intro u m
         refine t_take (by simp only [zS,zT,zU,zV]; rfl) (h_val (r_fieldAddr (c:=0) Tryz.underlying39 rfl cells_22 rfl rfl) (h_nil (t_take (by simp only [zS,zT,zU,zV]; rfl) (h_val (r_move) (h_nil ?_)))))
         simp only [ev,zD,zE,zF,zG]
         refine t_two (by simp only [zS,zT,zU,zV]; rfl) (by simp only [zS,zT,zU,zV]; rfl) ?_ ?_
         ·
          refine n_load rfl ((m.b 5 rfl).lies1 agg_22 rfl) ?_
          simp only [ev,zD,zE,zF,zG]
          refine n_nil ?_
          refine ⟨m.sel [true,false,true,true,true,false,true,true],?_⟩
          refine t_one (by simp only [zS,zT,zU,zV]; rfl) (mcallI m rfl (inv_kd hot) number_c ?_)
          clear m; intro u m
          refine n_nil ?_
          refine ⟨m.sel [true,false,true,true,true,false,true,true],?_⟩
          refine t_one (by simp only [zS,zT,zU,zV]; rfl) ?_
          simp only [ev,zD,zE,zF,zG]
          refine n_build1 Tryz.underlying22 (z:=.int .i64 0) (by kernel_rfl) rfl rfl rfl ?_
          intro u g6 e hg hB; replace m:=m.newB e hg hB; clear e hg hB
          refine n_nil ?_
          refine ⟨m.sel [false,true,false,true,true,true,false,true,true],?_⟩
          refine t_one (by simp only [zS,zT,zU,zV]; rfl) ?_
          simp only [ev,zD,zE,zF,zG]
          refine mappend m 2 rfl rfl Tryz.underlying22 inf_3 rfl (by decide) rfl rfl rfl (m.b 0 rfl).rowsO (allT rfl) (by omega) (by omega) ?_
          clear m; intro A3 cap3 u m; simp only [zF,zG] at m
          refine n_nil ?_
          refine ⟨m.sel [false,true,false,true,true,true,false,true,true],?_⟩
          refine t_take (by simp only [zS,zT,zU,zV]; rfl) (h_val (r_fieldAddr (c:=0) Tryz.underlying39 rfl cells_22 rfl rfl) (h_nil (t_one (by simp only [zS,zT,zU,zV]; rfl) ?_)))
          simp only [ev,zD,zE,zF,zG]
          refine mstore1 m 6 rfl rfl rfl cells_22 (leT rfl) ⟨rfl,rfl⟩ ?_
          clear m; intro u m; simp only [over,zH,zI,zJ,zK,zL,zM,zN,zO,zP,zF,zG,Nat.reduceAdd] at m
          refine n_nil ?_
          refine ⟨m.sel [false,true,false,true,true,true,false,true,true],?_⟩
          refine t_nil (k28 _ _ ?_)
          refine wp_region_lit (n_val (r_add rfl rfl (wrap_i64 (by omega) (by omega))) (n_val (r_move) (n_nil ?_)))
          simp only [ev,zD,zE,zF,zG]
          simp only [Exit.inBlock,Exit.then]
          refine ⟨n2 - (k + 1),_,?_,rfl,?_,?_⟩
          · omega
          · simp only [zQ,zR,zD,zE,setG_cons,setG_nil,setMany_cons,setMany_nil,zF,zG]
          ·
           simp only [zQ,zR,zD,zE]
           exact ⟨k + 1,_,_,_,rfl,(((m.re 6 rfl (by rw [hlo,hon,kindN_app]; exact (m.b 6 rfl))).reO 2 rfl (by rw [hon]; exact (m.o 2 rfl).as (by rw [numsV,numsV,List.map_append]; rfl))).sel [false,false,true,true,true,true,true,true,true]),by rw [hon,List.length_append,hn3]; rfl,by omega,rfl⟩
         ·
          refine mcallI m rfl (inv_kd hot) number_c ?_
          clear m; intro u m
          refine n_nil ?_
          refine ⟨m.sel [true,false,true,true,true,false,true,true],?_⟩
          simp only [ev,zD,zE,zF,zG]
          refine t_two (by simp only [zS,zT,zU,zV]; rfl) (by simp only [zS,zT,zU,zV]; rfl) ?_ ?_
          ·
           refine n_load rfl ((m.b 5 rfl).lies1 agg_22 rfl) ?_
           simp only [ev,zD,zE,zF,zG]
           refine n_nil ?_
           refine ⟨m.sel [true,false,true,true,true,false,true,true],?_⟩
           refine t_one (by simp only [zS,zT,zU,zV]; rfl) (n_build1 Tryz.underlying22 (z:=.int .i64 0) (by kernel_rfl) rfl rfl rfl ?_)
           intro u g6 e hg hB; replace m:=m.newB e hg hB; clear e hg hB
           refine n_nil ?_
           refine ⟨m.sel [false,true,false,true,true,true,false,true,true],?_⟩
           refine t_one (by simp only [zS,zT,zU,zV]; rfl) ?_
           simp only [ev,zD,zE,zF,zG]
           refine mappend m 2 rfl rfl Tryz.underlying22 inf_3 rfl (by decide) rfl rfl rfl (m.b 0 rfl).rowsO (allT rfl) (by omega) (by omega) ?_
           clear m; intro A3 cap3 u m; simp only [zF,zG] at m
           refine n_nil ?_
           refine ⟨m.sel [false,true,false,true,true,true,false,true,true],?_⟩
           refine t_take (by simp only [zS,zT,zU,zV]; rfl) (h_val (r_fieldAddr (c:=0) Tryz.underlying39 rfl cells_22 rfl rfl) (h_nil (t_one (by simp only [zS,zT,zU,zV]; rfl) ?_)))
           simp only [ev,zD,zE,zF,zG]
           refine mstore1 m 6 rfl rfl rfl cells_22 (leT rfl) ⟨rfl,rfl⟩ ?_
           clear m; intro u m; simp only [over,zH,zI,zJ,zK,zL,zM,zN,zO,zP,zF,zG,Nat.reduceAdd] at m
           refine n_nil ?_
           refine ⟨m.sel [false,true,false,true,true,true,false,true,true],?_⟩
           refine t_nil (k28 _ _ ?_)
           refine wp_region_lit (n_val (r_add rfl rfl (wrap_i64 (by omega) (by omega))) (n_val (r_move) (n_nil ?_)))
           simp only [ev,zD,zE,zF,zG]
           simp only [Exit.inBlock,Exit.then]
           refine ⟨n2 - (k + 1),_,?_,rfl,?_,?_⟩
           · omega
           · simp only [zQ,zR,zD,zE,setG_cons,setG_nil,setMany_cons,setMany_nil,zF,zG]
           ·
            simp only [zQ,zR,zD,zE]
            exact ⟨k + 1,_,_,_,rfl,(((m.re 6 rfl (by rw [hlo,hon,kindN_app]; exact (m.b 6 rfl))).reO 2 rfl (by rw [hon]; exact (m.o 2 rfl).as (by rw [numsV,numsV,List.map_append]; rfl))).sel [false,false,true,true,true,true,true,true,true]),by rw [hon,List.length_append,hn3]; rfl,by omega,rfl⟩
          ·
           refine n_build1 Tryz.underlying22 (z:=.int .i64 0) (by kernel_rfl) rfl rfl rfl ?_
           intro u g6 e hg hB; replace m:=m.newB e hg hB; clear e hg hB
           refine n_nil ?_
           refine ⟨m.sel [false,true,false,true,true,true,false,true,true],?_⟩
           refine t_one (by simp only [zS,zT,zU,zV]; rfl) ?_
           simp only [ev,zD,zE,zF,zG]
           refine n_load rfl ((m.b 6 rfl).lies1 agg_22 rfl) ?_
           simp only [ev,zD,zE,zF,zG]
           refine n_nil ?_
           refine ⟨m.sel [false,true,false,true,true,true,false,true,true],?_⟩
           refine t_one (by simp only [zS,zT,zU,zV]; rfl) (mappend m 2 rfl rfl Tryz.underlying22 inf_3 rfl (by decide) rfl rfl rfl (m.b 0 rfl).rowsO (allT rfl) (by omega) (by omega) ?_)
           clear m; intro A3 cap3 u m; simp only [zF,zG] at m
           refine n_nil ?_
           refine ⟨m.sel [false,true,false,true,true,true,false,true,true],?_⟩
           refine t_take (by simp only [zS,zT,zU,zV]; rfl) (h_val (r_fieldAddr (c:=0) Tryz.underlying39 rfl cells_22 rfl rfl) (h_nil (t_one (by simp only [zS,zT,zU,zV]; rfl) ?_)))
           simp only [ev,zD,zE,zF,zG]
           refine mstore1 m 6 rfl rfl rfl cells_22 (leT rfl) ⟨rfl,rfl⟩ ?_
           clear m; intro u m; simp only [over,zH,zI,zJ,zK,zL,zM,zN,zO,zP,zF,zG,Nat.reduceAdd] at m
           refine n_nil ?_
           refine ⟨m.sel [false,true,false,true,true,true,false,true,true],?_⟩
           refine t_nil (k28 _ _ ?_)
           refine wp_region_lit (n_val (r_add rfl rfl (wrap_i64 (by omega) (by omega))) (n_val (r_move) (n_nil ?_)))
           simp only [ev,zD,zE,zF,zG]
           simp only [Exit.inBlock,Exit.then]
           refine ⟨n2 - (k + 1),_,?_,rfl,?_,?_⟩
           · omega
           · simp only [zQ,zR,zD,zE,setG_cons,setG_nil,setMany_cons,setMany_nil,zF,zG]
           ·
            simp only [zQ,zR,zD,zE]
            exact ⟨k + 1,_,_,_,rfl,(((m.re 6 rfl (by rw [hlo,hon,kindN_app]; exact (m.b 6 rfl))).reO 2 rfl (by rw [hon]; exact (m.o 2 rfl).as (by rw [numsV,numsV,List.map_append]; rfl))).sel [false,false,true,true,true,true,true,true,true]),by rw [hon,List.length_append,hn3]; rfl,by omega,rfl⟩
        ·
         have hlo : loQ (openL r (firstN r (sureL bs xs)) ((restL bs xs).take (k + 1))) = loQ (openL r (firstN r (sureL bs xs)) ((restL bs xs).take k)):=by rw [hon,loQ_step hoe]; exact if_neg (mt qcmp_lt.2 hc7)
         refine wp_skip (k33 _ _ ?_)
         refine c_seq fun K37 k37=>wp_region_lit (n_val (r_fieldAddr (c:=0) Tryz.underlying39 rfl cells_3 rfl rfl) ?_)
         simp only [ev,zD,zE,zF,zG]
         refine mstore1 m 5 rfl rfl rfl cells_3 (leT rfl) ⟨rfl,rfl⟩ ?_
         clear m; intro u m; simp only [over,zH,zI,zJ,zK,zL,zM,zN,zO,zP,zF,zG,Nat.reduceAdd] at m
         refine n_nil (k37 _ _ ?_)
         have hol:=open_len (r:=r) (h:=firstN r (sureL bs xs)) ((restL bs xs).take k)
         rw [List.length_take] at hol
         refine mtree m [true,false,true,true,true,false,true,true] (.take 0 (.take 2 (.two 1 (.one 3 (.one 4 (.one 5 (.take 6 (.one 7 .nil))))) 3 (.two 1 (.one 4 (.one 5 (.take 6 (.one 7 .nil)))) 4 (.one 1 (.one 5 (.take 6 (.one 7 .nil)))))))) follows_mixed (by kernel_rfl) (panic_put (fun _ _ _ _ _ h=>h)) ?_
         clear m; intro u m
         refine t_take (by simp only [zS,zT,zU,zV]; rfl) (h_val (r_fieldAddr (c:=0) Tryz.underlying39 rfl cells_22 rfl rfl) (h_nil (t_take (by simp only [zS,zT,zU,zV]; rfl) (h_val (r_move) (h_nil ?_)))))
         simp only [ev,zD,zE,zF,zG]
         refine t_two (by simp only [zS,zT,zU,zV]; rfl) (by simp only [zS,zT,zU,zV]; rfl) ?_ ?_
         ·
          refine n_load rfl ((m.b 5 rfl).lies1 agg_22 rfl) ?_
          simp only [ev,zD,zE,zF,zG]
          refine n_nil ?_
          refine ⟨m.sel [true,false,true,true,true,false,true,true],?_⟩
          refine t_one (by simp only [zS,zT,zU,zV]; rfl) (mcallI m rfl (inv_kd hot) number_c ?_)
          clear m; intro u m
          refine n_nil ?_
          refine ⟨m.sel [true,false,true,true,true,false,true,true],?_⟩
          refine t_one (by simp only [zS,zT,zU,zV]; rfl) ?_
          simp only [ev,zD,zE,zF,zG]
          refine n_build1 Tryz.underlying22 (z:=.int .i64 0) (by kernel_rfl) rfl rfl rfl ?_
          intro u g6 e hg hB; replace m:=m.newB e hg hB; clear e hg hB
          refine n_nil ?_
          refine ⟨m.sel [false,true,false,true,true,true,false,true,true],?_⟩
          refine t_one (by simp only [zS,zT,zU,zV]; rfl) ?_
          simp only [ev,zD,zE,zF,zG]
          refine mappend m 2 rfl rfl Tryz.underlying22 inf_3 rfl (by decide) rfl rfl rfl (m.b 0 rfl).rowsO (allT rfl) (by omega) (by omega) ?_
          clear m; intro A3 cap3 u m; simp only [zF,zG] at m
          refine n_nil ?_
          refine ⟨m.sel [false,true,false,true,true,true,false,true,true],?_⟩
          refine t_take (by simp only [zS,zT,zU,zV]; rfl) (h_val (r_fieldAddr (c:=0) Tryz.underlying39 rfl cells_22 rfl rfl) (h_nil (t_one (by simp only [zS,zT,zU,zV]; rfl) ?_)))
          simp only [ev,zD,zE,zF,zG]
          refine mstore1 m 6 rfl rfl rfl cells_22 (leT rfl) ⟨rfl,rfl⟩ ?_
          clear m; intro u m; simp only [over,zH,zI,zJ,zK,zL,zM,zN,zO,zP,zF,zG,Nat.reduceAdd] at m
          refine n_nil ?_
          refine ⟨m.sel [false,true,false,true,true,true,false,true,true],?_⟩
          refine t_nil (k28 _ _ ?_)
          refine wp_region_lit (n_val (r_add rfl rfl (wrap_i64 (by omega) (by omega))) (n_val (r_move) (n_nil ?_)))
          simp only [ev,zD,zE,zF,zG]
          simp only [Exit.inBlock,Exit.then]
          refine ⟨n2 - (k + 1),_,?_,rfl,?_,?_⟩
          · omega
          · simp only [zQ,zR,zD,zE,setG_cons,setG_nil,setMany_cons,setMany_nil,zF,zG]
          ·
           simp only [zQ,zR,zD,zE]
           exact ⟨k + 1,_,_,_,rfl,(((m.re 6 rfl (by rw [hlo,hon,kindN_app]; exact (m.b 6 rfl))).reO 2 rfl (by rw [hon]; exact (m.o 2 rfl).as (by rw [numsV,numsV,List.map_append]; rfl))).sel [false,false,true,true,true,true,true,true,true]),by rw [hon,List.length_append,hn3]; rfl,by omega,rfl⟩
         ·
          refine mcallI m rfl (inv_kd hot) number_c ?_
          clear m; intro u m
          refine n_nil ?_
          refine ⟨m.sel [true,false,true,true,true,false,true,true],?_⟩
          simp only [ev,zD,zE,zF,zG]
          refine t_two (by simp only [zS,zT,zU,zV]; rfl) (by simp only [zS,zT,zU,zV]; rfl) ?_ ?_
          ·
           refine n_load rfl ((m.b 5 rfl).lies1 agg_22 rfl) ?_
           simp only [ev,zD,zE,zF,zG]
           refine n_nil ?_
           refine ⟨m.sel [true,false,true,true,true,false,true,true],?_⟩
           refine t_one (by simp only [zS,zT,zU,zV]; rfl) (n_build1 Tryz.underlying22 (z:=.int .i64 0) (by kernel_rfl) rfl rfl rfl ?_)
           intro u g6 e hg hB; replace m:=m.newB e hg hB; clear e hg hB
           refine n_nil ?_
           refine ⟨m.sel [false,true,false,true,true,true,false,true,true],?_⟩
           refine t_one (by simp only [zS,zT,zU,zV]; rfl) ?_
           simp only [ev,zD,zE,zF,zG]
           refine mappend m 2 rfl rfl Tryz.underlying22 inf_3 rfl (by decide) rfl rfl rfl (m.b 0 rfl).rowsO (allT rfl) (by omega) (by omega) ?_
           clear m; intro A3 cap3 u m; simp only [zF,zG] at m
           refine n_nil ?_
           refine ⟨m.sel [false,true,false,true,true,true,false,true,true],?_⟩
           refine t_take (by simp only [zS,zT,zU,zV]; rfl) (h_val (r_fieldAddr (c:=0) Tryz.underlying39 rfl cells_22 rfl rfl) (h_nil (t_one (by simp only [zS,zT,zU,zV]; rfl) ?_)))
           simp only [ev,zD,zE,zF,zG]
           refine mstore1 m 6 rfl rfl rfl cells_22 (leT rfl) ⟨rfl,rfl⟩ ?_
           clear m; intro u m; simp only [over,zH,zI,zJ,zK,zL,zM,zN,zO,zP,zF,zG,Nat.reduceAdd] at m
           refine n_nil ?_
           refine ⟨m.sel [false,true,false,true,true,true,false,true,true],?_⟩
           refine t_nil (k28 _ _ ?_)
           refine wp_region_lit (n_val (r_add rfl rfl (wrap_i64 (by omega) (by omega))) (n_val (r_move) (n_nil ?_)))
           simp only [ev,zD,zE,zF,zG]
           simp only [Exit.inBlock,Exit.then]
           refine ⟨n2 - (k + 1),_,?_,rfl,?_,?_⟩
           · omega
           · simp only [zQ,zR,zD,zE,setG_cons,setG_nil,setMany_cons,setMany_nil,zF,zG]
           ·
            simp only [zQ,zR,zD,zE]
            exact ⟨k + 1,_,_,_,rfl,(((m.re 6 rfl (by rw [hlo,hon,kindN_app]; exact (m.b 6 rfl))).reO 2 rfl (by rw [hon]; exact (m.o 2 rfl).as (by rw [numsV,numsV,List.map_append]; rfl))).sel [false,false,true,true,true,true,true,true,true]),by rw [hon,List.length_append,hn3]; rfl,by omega,rfl⟩
          ·
           refine n_build1 Tryz.underlying22 (z:=.int .i64 0) (by kernel_rfl) rfl rfl rfl ?_
           intro u g6 e hg hB; replace m:=m.newB e hg hB; clear e hg hB
           refine n_nil ?_
           refine ⟨m.sel [false,true,false,true,true,true,false,true,true],?_⟩
           refine t_one (by simp only [zS,zT,zU,zV]; rfl) ?_
           simp only [ev,zD,zE,zF,zG]
           refine n_load rfl ((m.b 6 rfl).lies1 agg_22 rfl) ?_
           simp only [ev,zD,zE,zF,zG]
           refine n_nil ?_
           refine ⟨m.sel [false,true,false,true,true,true,false,true,true],?_⟩
           refine t_one (by simp only [zS,zT,zU,zV]; rfl) (mappend m 2 rfl rfl Tryz.underlying22 inf_3 rfl (by decide) rfl rfl rfl (m.b 0 rfl).rowsO (allT rfl) (by omega) (by omega) ?_)
           clear m; intro A3 cap3 u m; simp only [zF,zG] at m
           refine n_nil ?_
           refine ⟨m.sel [false,true,false,true,true,true,false,true,true],?_⟩
           refine t_take (by simp only [zS,zT,zU,zV]; rfl) (h_val (r_fieldAddr (c:=0) Tryz.underlying39 rfl cells_22 rfl rfl) (h_nil (t_one (by simp only [zS,zT,zU,zV]; rfl) ?_)))
           simp only [ev,zD,zE,zF,zG]
           refine mstore1 m 6 rfl rfl rfl cells_22 (leT rfl) ⟨rfl,rfl⟩ ?_
           clear m; intro u m; simp only [over,zH,zI,zJ,zK,zL,zM,zN,zO,zP,zF,zG,Nat.reduceAdd] at m
           refine n_nil ?_
           refine ⟨m.sel [false,true,false,true,true,true,false,true,true],?_⟩
           refine t_nil (k28 _ _ ?_)
           refine wp_region_lit (n_val (r_add rfl rfl (wrap_i64 (by omega) (by omega))) (n_val (r_move) (n_nil ?_)))
           simp only [ev,zD,zE,zF,zG]
           simp only [Exit.inBlock,Exit.then]
           refine ⟨n2 - (k + 1),_,?_,rfl,?_,?_⟩
           · omega
           · simp only [zQ,zR,zD,zE,setG_cons,setG_nil,setMany_cons,setMany_nil,zF,zG]
           ·
            simp only [zQ,zR,zD,zE]
            exact ⟨k + 1,_,_,_,rfl,(((m.re 6 rfl (by rw [hlo,hon,kindN_app]; exact (m.b 6 rfl))).reO 2 rfl (by rw [hon]; exact (m.o 2 rfl).as (by rw [numsV,numsV,List.map_append]; rfl))).sel [false,false,true,true,true,true,true,true,true]),by rw [hon,List.length_append,hn3]; rfl,by omega,rfl⟩
      ·
       have hq : beginR r kd = some q:=hq
       have hbt:=bq_first (r:=r) hIT
       have htt : hitT (firstN r (sureL bs xs)) = t:=by rw [hh]; rfl
       rw [hq]
       rw [hq] at m
       simp only [Option.isSome_some,Option.getD_some] at m ⊢
       refine wp_region_lit (n_val (r_move) (n_val (r_not rfl) (n_val (r_move) (n_want rfl ?_))))
       simp only [ev,zD,zE,zF,zG]
       refine n_val (r_as r_move (show (Value.bool (firstN r (sureL bs xs)).isSome) = .bool true by rw [hh]; rfl)) (n_want rfl (n_val (r_move) (n_want rfl ?_)))
       simp only [ev,zD,zE,zF,zG]
       refine n_load rfl ((m.b 0 rfl).full agg_37 cells_37) ?_
       simp only [ev,zD,zE,zF,zG]
       refine n_want rfl (n_val (r_fieldAddr (c:=3) Tryz.underlying43 rfl cells_37 rfl rfl) (n_want rfl ?_))
       simp only [ev,zD,zE,zF,zG]
       refine n_load rfl ((m.b 2 rfl).lies agg_37 cells_37 rfl rfl) ?_
       simp only [ev,zD,zE,zF,zG,zH,zI,zJ,zK,Nat.zero_add,Nat.reduceAdd,Nat.reduceMul,Int.reduceToNat]
       refine n_want rfl (mcallP m rfl rfl (CmpFrac_c (p:=q) (q:=hitT (firstN r (sureL bs xs))) (bq_begin hkd hq) hbt) ?_)
       clear m; intro u m
       refine n_want rfl (n_val (r_geq rfl rfl) (n_want rfl (n_val (r_pickT rfl) (n_val (r_pickF rfl) ?_))))
       simp only [ev,zD,zE,zF,zG]
       refine n_nil (k32 _ _ ?_)
       refine c_if rfl (fun hc6=>?_) (fun hc6=>?_)
       ·
        rw [htt] at hc6
        have hnl : ¬ q < t:=fun h=>by have:=qcmp_lt.2 h; omega
        rw [if_neg hnl] at ho4
        have hon : openL r (firstN r (sureL bs xs)) ((restL bs xs).take (k + 1)) = openL r (firstN r (sureL bs xs)) ((restL bs xs).take k):=by rw [open_step hx,ho4,List.append_nil]
        refine wp_exit (k28 _ _ ?_)
        refine wp_region_lit (n_val (r_add rfl rfl (wrap_i64 (by omega) (by omega))) (n_val (r_move) (n_nil ?_)))
        simp only [ev,zD,zE,zF,zG]
        simp only [Exit.inBlock,Exit.then]
        refine ⟨n2 - (k + 1),_,?_,rfl,?_,?_⟩
        · omega
        · simp only [zQ,zR,zD,zE,setG_cons,setG_nil,setMany_cons,setMany_nil,zF,zG]
        ·
         simp only [zQ,zR,zD,zE]
         exact ⟨k + 1,_,_,_,rfl,(((m.re 5 rfl (by rw [hon]; exact (m.b 5 rfl))).reO 1 rfl (by rw [hon]; exact (m.o 1 rfl))).sel [false,true,true,true,true,true,true,true]),by rw [hon]; exact hn3,by omega,rfl⟩
       ·
        rw [htt] at hc6
        have hnl : q < t:=qcmp_lt.1 (by omega)
        rw [if_pos hnl] at ho4
        have hon : openL r (firstN r (sureL bs xs)) ((restL bs xs).take (k + 1)) = openL r (firstN r (sureL bs xs)) ((restL bs xs).take k) ++ [(i,q)]:=by rw [open_step hx,ho4]
        refine wp_skip (k31 _ _ ?_)
        refine c_seq fun K38 k38=>c_seq fun K39 k39=>?_
        rcases Decidable.em (openL r (firstN r (sureL bs xs)) ((restL bs xs).take k) = []) with hoe | hoe
        ·
         have hlo : loQ (openL r (firstN r (sureL bs xs)) ((restL bs xs).take (k + 1))) = q:=by rw [hon,hoe]; rfl
         rw [show kindN (openL r (firstN r (sureL bs xs)) ((restL bs xs).take k)) = 2 by rw [hoe]; rfl] at m
         refine wp_region_lit (n_val (r_fieldAddr (c:=0) Tryz.underlying39 rfl cells_3 rfl rfl) ?_)
         simp only [ev,zD,zE,zF,zG]
         refine n_load rfl ((m.b 5 rfl).lies1 agg_3 rfl) ?_
         simp only [ev,zD,zE,zF,zG]
         refine n_val (r_neqT rfl rfl (by decide)) (n_val (r_move) (n_skipF rfl (n_skipF rfl ?_)))
         simp only [ev,zD,zE,zF,zG]
         refine n_skipF rfl (n_skipF rfl (n_skipF rfl (n_val (r_pickT rfl) ?_)))
         simp only [ev,zD,zE,zF,zG]
         refine n_nil (k39 _ _ ?_)
         refine c_yes rfl (wp_region_lit (n_load rfl ((m.b 0 rfl).full agg_37 cells_37) ?_))
         simp only [ev,zD,zE,zF,zG]
         refine n_val (r_fieldAddr (c:=3) Tryz.underlying39 rfl cells_37 rfl rfl) ?_
         simp only [ev,zD,zE,zF,zG]
         refine mstoreA m 5 rfl rfl rfl cells_37 (leT rfl) rfl ?_
         clear m; intro u m; simp only [over,zH,zI,zJ,zK,zL,zM,zN,zO,zP,zF,zG,Nat.reduceAdd] at m
         refine n_nil (k38 _ _ ?_)
         refine c_seq fun K40 k40=>wp_region_lit (n_val (r_fieldAddr (c:=0) Tryz.underlying39 rfl cells_3 rfl rfl) ?_)
         simp only [ev,zD,zE,zF,zG]
         refine mstore1 m 5 rfl rfl rfl cells_3 (leT rfl) ⟨rfl,rfl⟩ ?_
         clear m; intro u m; simp only [over,zH,zI,zJ,zK,zL,zM,zN,zO,zP,zF,zG,Nat.reduceAdd] at m
         refine n_nil (k40 _ _ ?_)
         have hol:=open_len (r:=r) (h:=firstN r (sureL bs xs)) ((restL bs xs).take k)
         rw [List.length_take] at hol
         refine mtree m [true,false,true,true,true,false,true,true] (.take 0 (.take 2 (.two 1 (.one 3 (.one 4 (.one 5 (.take 6 (.one 7 .nil))))) 3 (.two 1 (.one 4 (.one 5 (.take 6 (.one 7 .nil)))) 4 (.one 1 (.one 5 (.take 6 (.one 7 .nil)))))))) follows_mixed (by kernel_rfl) (panic_put (fun _ _ _ _ _ h=>h)) ?_
         clear m; intro u m
         refine t_take (by simp only [zS,zT,zU,zV]; rfl) (h_val (r_fieldAddr (c:=0) Tryz.underlying39 rfl cells_22 rfl rfl) (h_nil (t_take (by simp only [zS,zT,zU,zV]; rfl) (h_val (r_move) (h_nil ?_)))))
         simp only [ev,zD,zE,zF,zG]
         refine t_two (by simp only [zS,zT,zU,zV]; rfl) (by simp only [zS,zT,zU,zV]; rfl) ?_ ?_
         ·
          refine n_load rfl ((m.b 5 rfl).lies1 agg_22 rfl) ?_
          simp only [ev,zD,zE,zF,zG]
          refine n_nil ?_
          refine ⟨m.sel [true,false,true,true,true,false,true,true],?_⟩
          refine t_one (by simp only [zS,zT,zU,zV]; rfl) (mcallI m rfl (inv_kd hot) number_c ?_)
          clear m; intro u m
          refine n_nil ?_
          refine ⟨m.sel [true,false,true,true,true,false,true,true],?_⟩
          refine t_one (by simp only [zS,zT,zU,zV]; rfl) ?_
          simp only [ev,zD,zE,zF,zG]
          refine n_build1 Tryz.underlying22 (z:=.int .i64 0) (by kernel_rfl) rfl rfl rfl ?_
          intro u g6 e hg hB; replace m:=m.newB e hg hB; clear e hg hB
          refine n_nil ?_
          refine ⟨m.sel [false,true,false,true,true,true,false,true,true],?_⟩
          refine t_one (by simp only [zS,zT,zU,zV]; rfl) ?_
          simp only [ev,zD,zE,zF,zG]
          refine mappend m 2 rfl rfl Tryz.underlying22 inf_3 rfl (by decide) rfl rfl rfl (m.b 0 rfl).rowsO (allT rfl) (by omega) (by omega) ?_
          clear m; intro A3 cap3 u m; simp only [zF,zG] at m
          refine n_nil ?_
          refine ⟨m.sel [false,true,false,true,true,true,false,true,true],?_⟩
          refine t_take (by simp only [zS,zT,zU,zV]; rfl) (h_val (r_fieldAddr (c:=0) Tryz.underlying39 rfl cells_22 rfl rfl) (h_nil (t_one (by simp only [zS,zT,zU,zV]; rfl) ?_)))
          simp only [ev,zD,zE,zF,zG]
          refine mstore1 m 6 rfl rfl rfl cells_22 (leT rfl) ⟨rfl,rfl⟩ ?_
          clear m; intro u m; simp only [over,zH,zI,zJ,zK,zL,zM,zN,zO,zP,zF,zG,Nat.reduceAdd] at m
          refine n_nil ?_
          refine ⟨m.sel [false,true,false,true,true,true,false,true,true],?_⟩
          refine t_nil (k28 _ _ ?_)
          refine wp_region_lit (n_val (r_add rfl rfl (wrap_i64 (by omega) (by omega))) (n_val (r_move) (n_nil ?_)))
          simp only [ev,zD,zE,zF,zG]
          simp only [Exit.inBlock,Exit.then]
          refine ⟨n2 - (k + 1),_,?_,rfl,?_,?_⟩
          · omega
          · simp only [zQ,zR,zD,zE,setG_cons,setG_nil,setMany_cons,setMany_nil,zF,zG]
          ·
           simp only [zQ,zR,zD,zE]
           exact ⟨k + 1,_,_,_,rfl,(((m.re 6 rfl (by rw [hlo,hon,kindN_app]; exact (m.b 6 rfl))).reO 2 rfl (by rw [hon]; exact (m.o 2 rfl).as (by rw [numsV,numsV,List.map_append]; rfl))).sel [false,false,true,true,true,true,true,true,true]),by rw [hon,List.length_append,hn3]; rfl,by omega,rfl⟩
         ·
          refine mcallI m rfl (inv_kd hot) number_c ?_
          clear m; intro u m
          refine n_nil ?_
          refine ⟨m.sel [true,false,true,true,true,false,true,true],?_⟩
          simp only [ev,zD,zE,zF,zG]
          refine t_two (by simp only [zS,zT,zU,zV]; rfl) (by simp only [zS,zT,zU,zV]; rfl) ?_ ?_
          ·
           refine n_load rfl ((m.b 5 rfl).lies1 agg_22 rfl) ?_
           simp only [ev,zD,zE,zF,zG]
           refine n_nil ?_
           refine ⟨m.sel [true,false,true,true,true,false,true,true],?_⟩
           refine t_one (by simp only [zS,zT,zU,zV]; rfl) (n_build1 Tryz.underlying22 (z:=.int .i64 0) (by kernel_rfl) rfl rfl rfl ?_)
           intro u g6 e hg hB; replace m:=m.newB e hg hB; clear e hg hB
           refine n_nil ?_
           refine ⟨m.sel [false,true,false,true,true,true,false,true,true],?_⟩
           refine t_one (by simp only [zS,zT,zU,zV]; rfl) ?_
           simp only [ev,zD,zE,zF,zG]
           refine mappend m 2 rfl rfl Tryz.underlying22 inf_3 rfl (by decide) rfl rfl rfl (m.b 0 rfl).rowsO (allT rfl) (by omega) (by omega) ?_
           clear m; intro A3 cap3 u m; simp only [zF,zG] at m
           refine n_nil ?_
           refine ⟨m.sel [false,true,false,true,true,true,false,true,true],?_⟩
           refine t_take (by simp only [zS,zT,zU,zV]; rfl) (h_val (r_fieldAddr (c:=0) Tryz.underlying39 rfl cells_22 rfl rfl) (h_nil (t_one (by simp only [zS,zT,zU,zV]; rfl) ?_)))
           simp only [ev,zD,zE,zF,zG]
           refine mstore1 m 6 rfl rfl rfl cells_22 (leT rfl) ⟨rfl,rfl⟩ ?_
           clear m; intro u m; simp only [over,zH,zI,zJ,zK,zL,zM,zN,zO,zP,zF,zG,Nat.reduceAdd] at m
           refine n_nil ?_
           refine ⟨m.sel [false,true,false,true,true,true,false,true,true],?_⟩
           refine t_nil (k28 _ _ ?_)
           refine wp_region_lit (n_val (r_add rfl rfl (wrap_i64 (by omega) (by omega))) (n_val (r_move) (n_nil ?_)))
           simp only [ev,zD,zE,zF,zG]
           simp only [Exit.inBlock,Exit.then]
           refine ⟨n2 - (k + 1),_,?_,rfl,?_,?_⟩
           · omega
           · simp only [zQ,zR,zD,zE,setG_cons,setG_nil,setMany_cons,setMany_nil,zF,zG]
           ·
            simp only [zQ,zR,zD,zE]
            exact ⟨k + 1,_,_,_,rfl,(((m.re 6 rfl (by rw [hlo,hon,kindN_app]; exact (m.b 6 rfl))).reO 2 rfl (by rw [hon]; exact (m.o 2 rfl).as (by rw [numsV,numsV,List.map_append]; rfl))).sel [false,false,true,true,true,true,true,true,true]),by rw [hon,List.length_append,hn3]; rfl,by omega,rfl⟩
          ·
           refine n_build1 Tryz.underlying22 (z:=.int .i64 0) (by kernel_rfl) rfl rfl rfl ?_
           intro u g6 e hg hB; replace m:=m.newB e hg hB; clear e hg hB
           refine n_nil ?_
           refine ⟨m.sel [false,true,false,true,true,true,false,true,true],?_⟩
           refine t_one (by simp only [zS,zT,zU,zV]; rfl) ?_
           simp only [ev,zD,zE,zF,zG]
           refine n_load rfl ((m.b 6 rfl).lies1 agg_22 rfl) ?_
           simp only [ev,zD,zE,zF,zG]
           refine n_nil ?_
           refine ⟨m.sel [false,true,false,true,true,true,false,true,true],?_⟩
           refine t_one (by simp only [zS,zT,zU,zV]; rfl) (mappend m 2 rfl rfl Tryz.underlying22 inf_3 rfl (by decide) rfl rfl rfl (m.b 0 rfl).rowsO (allT rfl) (by omega) (by omega) ?_)
           clear m; intro A3 cap3 u m; simp only [zF,zG] at m
           refine n_nil ?_
           refine ⟨m.sel [false,true,false,true,true,true,false,true,true],?_⟩
           refine t_take (by simp only [zS,zT,zU,zV]; rfl) (h_val (r_fieldAddr (c:=0) Tryz.underlying39 rfl cells_22 rfl rfl) (h_nil (t_one (by simp only [zS,zT,zU,zV]; rfl) ?_)))
           simp only [ev,zD,zE,zF,zG]
           refine mstore1 m 6 rfl rfl rfl cells_22 (leT rfl) ⟨rfl,rfl⟩ ?_
           clear m; intro u m; simp only [over,zH,zI,zJ,zK,zL,zM,zN,zO,zP,zF,zG,Nat.reduceAdd] at m
           refine n_nil ?_
           refine ⟨m.sel [false,true,false,true,true,true,false,true,true],?_⟩
           refine t_nil (k28 _ _ ?_)
           refine wp_region_lit (n_val (r_add rfl rfl (wrap_i64 (by omega) (by omega))) (n_val (r_move) (n_nil ?_)))
           simp only [ev,zD,zE,zF,zG]
           simp only [Exit.inBlock,Exit.then]
           refine ⟨n2 - (k + 1),_,?_,rfl,?_,?_⟩
           · omega
           · simp only [zQ,zR,zD,zE,setG_cons,setG_nil,setMany_cons,setMany_nil,zF,zG]
           ·
            simp only [zQ,zR,zD,zE]
            exact ⟨k + 1,_,_,_,rfl,(((m.re 6 rfl (by rw [hlo,hon,kindN_app]; exact (m.b 6 rfl))).reO 2 rfl (by rw [hon]; exact (m.o 2 rfl).as (by rw [numsV,numsV,List.map_append]; rfl))).sel [false,false,true,true,true,true,true,true,true]),by rw [hon,List.length_append,hn3]; rfl,by omega,rfl⟩
        ·
         have hbo:=bq_lo (r:=r) (h:=firstN r (sureL bs xs)) (xs:=(restL bs xs).take k) (fun x hx=>hko x (List.mem_of_mem_take hx))
         rw [show kindN (openL r (firstN r (sureL bs xs)) ((restL bs xs).take k)) = 3 from kindN_ne hoe] at m
         refine wp_region_lit (n_val (r_fieldAddr (c:=0) Tryz.underlying39 rfl cells_3 rfl rfl) ?_)
         simp only [ev,zD,zE,zF,zG]
         refine n_load rfl ((m.b 5 rfl).lies1 agg_3 rfl) ?_
         simp only [ev,zD,zE,zF,zG]
         refine n_val (r_neqF rfl rfl (by decide)) (n_val (r_move) (n_want rfl ?_))
         simp only [ev,zD,zE,zF,zG]
         refine n_load rfl ((m.b 0 rfl).full agg_37 cells_37) ?_
         simp only [ev,zD,zE,zF,zG]
         refine n_want rfl (n_val (r_fieldAddr (c:=3) Tryz.underlying39 rfl cells_37 rfl rfl) (n_want rfl ?_))
         simp only [ev,zD,zE,zF,zG]
         refine n_load rfl ((m.b 5 rfl).lies agg_37 cells_37 rfl rfl) ?_
         simp only [ev,zD,zE,zF,zG,zH,zI,zJ,zK,Nat.zero_add,Nat.reduceAdd,Nat.reduceMul,Int.reduceToNat]
         refine n_want rfl (mcallP m rfl rfl (CmpFrac_c (p:=q) (q:=loQ (openL r (firstN r (sureL bs xs)) ((restL bs xs).take k))) (bq_begin hkd hq) hbo) ?_)
         clear m; intro u m
         refine n_want rfl (n_val (r_lss rfl rfl) (n_val (r_pickF rfl) (n_nil (k39 _ _ ?_))))
         simp only [ev,zD,zE,zF,zG]
         refine c_if rfl (fun hc7=>?_) (fun hc7=>?_)
         ·
          have hlo : loQ (openL r (firstN r (sureL bs xs)) ((restL bs xs).take (k + 1))) = q:=by rw [hon,loQ_step hoe]; exact if_pos (qcmp_lt.1 hc7)
          refine wp_region_lit (n_load rfl ((m.b 0 rfl).full agg_37 cells_37) ?_)
          simp only [ev,zD,zE,zF,zG]
          refine n_val (r_fieldAddr (c:=3) Tryz.underlying39 rfl cells_37 rfl rfl) ?_
          simp only [ev,zD,zE,zF,zG]
          refine mstoreA m 5 rfl rfl rfl cells_37 (leT rfl) rfl ?_
          clear m; intro u m; simp only [over,zH,zI,zJ,zK,zL,zM,zN,zO,zP,zF,zG,Nat.reduceAdd] at m
          refine n_nil (k38 _ _ ?_)
          refine c_seq fun K41 k41=>wp_region_lit (n_val (r_fieldAddr (c:=0) Tryz.underlying39 rfl cells_3 rfl rfl) ?_)
          simp only [ev,zD,zE,zF,zG]
          refine mstore1 m 5 rfl rfl rfl cells_3 (leT rfl) ⟨rfl,rfl⟩ ?_
          clear m; intro u m; simp only [over,zH,zI,zJ,zK,zL,zM,zN,zO,zP,zF,zG,Nat.reduceAdd] at m
          refine n_nil (k41 _ _ ?_)
          have hol:=open_len (r:=r) (h:=firstN r (sureL bs xs)) ((restL bs xs).take k)
          rw [List.length_take] at hol
          refine mtree m [true,false,true,true,true,false,true,true] (.take 0 (.take 2 (.two 1 (.one 3 (.one 4 (.one 5 (.take 6 (.one 7 .nil))))) 3 (.two 1 (.one 4 (.one 5 (.take 6 (.one 7 .nil)))) 4 (.one 1 (.one 5 (.take 6 (.one 7 .nil)))))))) follows_mixed (by kernel_rfl) (panic_put (fun _ _ _ _ _ h=>h)) ?_
          clear m; intro u m
          refine t_take (by simp only [zS,zT,zU,zV]; rfl) (h_val (r_fieldAddr (c:=0) Tryz.underlying39 rfl cells_22 rfl rfl) (h_nil (t_take (by simp only [zS,zT,zU,zV]; rfl) (h_val (r_move) (h_nil ?_)))))
          simp only [ev,zD,zE,zF,zG]
          refine t_two (by simp only [zS,zT,zU,zV]; rfl) (by simp only [zS,zT,zU,zV]; rfl) ?_ ?_
          ·
           refine n_load rfl ((m.b 5 rfl).lies1 agg_22 rfl) ?_
           simp only [ev,zD,zE,zF,zG]
           refine n_nil ?_
           refine ⟨m.sel [true,false,true,true,true,false,true,true],?_⟩
           refine t_one (by simp only [zS,zT,zU,zV]; rfl) (mcallI m rfl (inv_kd hot) number_c ?_)
           clear m; intro u m
           refine n_nil ?_
           refine ⟨m.sel [true,false,true,true,true,false,true,true],?_⟩
           refine t_one (by simp only [zS,zT,zU,zV]; rfl) ?_
           simp only [ev,zD,zE,zF,zG]
           refine n_build1 Tryz.underlying22 (z:=.int .i64 0) (by kernel_rfl) rfl rfl rfl ?_
           intro u g6 e hg hB; replace m:=m.newB e hg hB; clear e hg hB
           refine n_nil ?_
           refine ⟨m.sel [false,true,false,true,true,true,false,true,true],?_⟩
           refine t_one (by simp only [zS,zT,zU,zV]; rfl) ?_
           simp only [ev,zD,zE,zF,zG]
           refine mappend m 2 rfl rfl Tryz.underlying22 inf_3 rfl (by decide) rfl rfl rfl (m.b 0 rfl).rowsO (allT rfl) (by omega) (by omega) ?_
           clear m; intro A3 cap3 u m; simp only [zF,zG] at m
           refine n_nil ?_
           refine ⟨m.sel [false,true,false,true,true,true,false,true,true],?_⟩
           refine t_take (by simp only [zS,zT,zU,zV]; rfl) (h_val (r_fieldAddr (c:=0) Tryz.underlying39 rfl cells_22 rfl rfl) (h_nil (t_one (by simp only [zS,zT,zU,zV]; rfl) ?_)))
           simp only [ev,zD,zE,zF,zG]
           refine mstore1 m 6 rfl rfl rfl cells_22 (leT rfl) ⟨rfl,rfl⟩ ?_
           clear m; intro u m; simp only [over,zH,zI,zJ,zK,zL,zM,zN,zO,zP,zF,zG,Nat.reduceAdd] at m
           refine n_nil ?_
           refine ⟨m.sel [false,true,false,true,true,true,false,true,true],?_⟩
           refine t_nil (k28 _ _ ?_)
           refine wp_region_lit (n_val (r_add rfl rfl (wrap_i64 (by omega) (by omega))) (n_val (r_move) (n_nil ?_)))
           simp only [ev,zD,zE,zF,zG]
           simp only [Exit.inBlock,Exit.then]
           refine ⟨n2 - (k + 1),_,?_,rfl,?_,?_⟩
           · omega
           · simp only [zQ,zR,zD,zE,setG_cons,setG_nil,setMany_cons,setMany_nil,zF,zG]
           ·
            simp only [zQ,zR,zD,zE]
            exact ⟨k + 1,_,_,_,rfl,(((m.re 6 rfl (by rw [hlo,hon,kindN_app]; exact (m.b 6 rfl))).reO 2 rfl (by rw [hon]; exact (m.o 2 rfl).as (by rw [numsV,numsV,List.map_append]; rfl))).sel [false,false,true,true,true,true,true,true,true]),by rw [hon,List.length_append,hn3]; rfl,by omega,rfl⟩
          ·
           refine mcallI m rfl (inv_kd hot) number_c ?_
           clear m; intro u m
           refine n_nil ?_
           refine ⟨m.sel [true,false,true,true,true,false,true,true],?_⟩
           simp only [ev,zD,zE,zF,zG]
           refine t_two (by simp only [zS,zT,zU,zV]; rfl) (by simp only [zS,zT,zU,zV]; rfl) ?_ ?_
           ·
            refine n_load rfl ((m.b 5 rfl).lies1 agg_22 rfl) ?_
            simp only [ev,zD,zE,zF,zG]
            refine n_nil ?_
            refine ⟨m.sel [true,false,true,true,true,false,true,true],?_⟩
            refine t_one (by simp only [zS,zT,zU,zV]; rfl) (n_build1 Tryz.underlying22 (z:=.int .i64 0) (by kernel_rfl) rfl rfl rfl ?_)
            intro u g6 e hg hB; replace m:=m.newB e hg hB; clear e hg hB
            refine n_nil ?_
            refine ⟨m.sel [false,true,false,true,true,true,false,true,true],?_⟩
            refine t_one (by simp only [zS,zT,zU,zV]; rfl) ?_
            simp only [ev,zD,zE,zF,zG]
            refine mappend m 2 rfl rfl Tryz.underlying22 inf_3 rfl (by decide) rfl rfl rfl (m.b 0 rfl).rowsO (allT rfl) (by omega) (by omega) ?_
            clear m; intro A3 cap3 u m; simp only [zF,zG] at m
            refine n_nil ?_
            refine ⟨m.sel [false,true,false,true,true,true,false,true,true],?_⟩
            refine t_take (by simp only [zS,zT,zU,zV]; rfl) (h_val (r_fieldAddr (c:=0) Tryz.underlying39 rfl cells_22 rfl rfl) (h_nil (t_one (by simp only [zS,zT,zU,zV]; rfl) ?_)))
            simp only [ev,zD,zE,zF,zG]
            refine mstore1 m 6 rfl rfl rfl cells_22 (leT rfl) ⟨rfl,rfl⟩ ?_
            clear m; intro u m; simp only [over,zH,zI,zJ,zK,zL,zM,zN,zO,zP,zF,zG,Nat.reduceAdd] at m
            refine n_nil ?_
            refine ⟨m.sel [false,true,false,true,true,true,false,true,true],?_⟩
            refine t_nil (k28 _ _ ?_)
            refine wp_region_lit (n_val (r_add rfl rfl (wrap_i64 (by omega) (by omega))) (n_val (r_move) (n_nil ?_)))
            simp only [ev,zD,zE,zF,zG]
            simp only [Exit.inBlock,Exit.then]
            refine ⟨n2 - (k + 1),_,?_,rfl,?_,?_⟩
            · omega
            · simp only [zQ,zR,zD,zE,setG_cons,setG_nil,setMany_cons,setMany_nil,zF,zG]
            ·
             simp only [zQ,zR,zD,zE]
             exact ⟨k + 1,_,_,_,rfl,(((m.re 6 rfl (by rw [hlo,hon,kindN_app]; exact (m.b 6 rfl))).reO 2 rfl (by rw [hon]; exact (m.o 2 rfl).as (by rw [numsV,numsV,List.map_append]; rfl))).sel [false,false,true,true,true,true,true,true,true]),by rw [hon,List.length_append,hn3]; rfl,by omega,rfl⟩
           ·
            refine n_build1 Tryz.underlying22 (z:=.int .i64 0) (by kernel_rfl) rfl rfl rfl ?_
            intro u g6 e hg hB; replace m:=m.newB e hg hB; clear e hg hB
            refine n_nil ?_
            refine ⟨m.sel [false,true,false,true,true,true,false,true,true],?_⟩
            refine t_one (by simp only [zS,zT,zU,zV]; rfl) ?_
            simp only [ev,zD,zE,zF,zG]
            refine n_load rfl ((m.b 6 rfl).lies1 agg_22 rfl) ?_
            simp only [ev,zD,zE,zF,zG]
            refine n_nil ?_
            refine ⟨m.sel [false,true,false,true,true,true,false,true,true],?_⟩
            refine t_one (by simp only [zS,zT,zU,zV]; rfl) (mappend m 2 rfl rfl Tryz.underlying22 inf_3 rfl (by decide) rfl rfl rfl (m.b 0 rfl).rowsO (allT rfl) (by omega) (by omega) ?_)
            clear m; intro A3 cap3 u m; simp only [zF,zG] at m
            refine n_nil ?_
            refine ⟨m.sel [false,true,false,true,true,true,false,true,true],?_⟩
            refine t_take (by simp only [zS,zT,zU,zV]; rfl) (h_val (r_fieldAddr (c:=0) Tryz.underlying39 rfl cells_22 rfl rfl) (h_nil (t_one (by simp only [zS,zT,zU,zV]; rfl) ?_)))
            simp only [ev,zD,zE,zF,zG]
            refine mstore1 m 6 rfl rfl rfl cells_22 (leT rfl) ⟨rfl,rfl⟩ ?_
            clear m; intro u m; simp only [over,zH,zI,zJ,zK,zL,zM,zN,zO,zP,zF,zG,Nat.reduceAdd] at m
            refine n_nil ?_
            refine ⟨m.sel [false,true,false,true,true,true,false,true,true],?_⟩
            refine t_nil (k28 _ _ ?_)
            refine wp_region_lit (n_val (r_add rfl rfl (wrap_i64 (by omega) (by omega))) (n_val (r_move) (n_nil ?_)))
            simp only [ev,zD,zE,zF,zG]
            simp only [Exit.inBlock,Exit.then]
            refine ⟨n2 - (k + 1),_,?_,rfl,?_,?_⟩
            · omega
            · simp only [zQ,zR,zD,zE,setG_cons,setG_nil,setMany_cons,setMany_nil,zF,zG]
            ·
             simp only [zQ,zR,zD,zE]
             exact ⟨k + 1,_,_,_,rfl,(((m.re 6 rfl (by rw [hlo,hon,kindN_app]; exact (m.b 6 rfl))).reO 2 rfl (by rw [hon]; exact (m.o 2 rfl).as (by rw [numsV,numsV,List.map_append]; rfl))).sel [false,false,true,true,true,true,true,true,true]),by rw [hon,List.length_append,hn3]; rfl,by omega,rfl⟩
         ·
          have hlo : loQ (openL r (firstN r (sureL bs xs)) ((restL bs xs).take (k + 1))) = loQ (openL r (firstN r (sureL bs xs)) ((restL bs xs).take k)):=by rw [hon,loQ_step hoe]; exact if_neg (mt qcmp_lt.2 hc7)
          refine wp_skip (k38 _ _ ?_)
          refine c_seq fun K42 k42=>wp_region_lit (n_val (r_fieldAddr (c:=0) Tryz.underlying39 rfl cells_3 rfl rfl) ?_)
          simp only [ev,zD,zE,zF,zG]
          refine mstore1 m 5 rfl rfl rfl cells_3 (leT rfl) ⟨rfl,rfl⟩ ?_
          clear m; intro u m; simp only [over,zH,zI,zJ,zK,zL,zM,zN,zO,zP,zF,zG,Nat.reduceAdd] at m
          refine n_nil (k42 _ _ ?_)
          have hol:=open_len (r:=r) (h:=firstN r (sureL bs xs)) ((restL bs xs).take k)
          rw [List.length_take] at hol
          refine mtree m [true,false,true,true,true,false,true,true] (.take 0 (.take 2 (.two 1 (.one 3 (.one 4 (.one 5 (.take 6 (.one 7 .nil))))) 3 (.two 1 (.one 4 (.one 5 (.take 6 (.one 7 .nil)))) 4 (.one 1 (.one 5 (.take 6 (.one 7 .nil)))))))) follows_mixed (by kernel_rfl) (panic_put (fun _ _ _ _ _ h=>h)) ?_
          clear m; intro u m
          refine t_take (by simp only [zS,zT,zU,zV]; rfl) (h_val (r_fieldAddr (c:=0) Tryz.underlying39 rfl cells_22 rfl rfl) (h_nil (t_take (by simp only [zS,zT,zU,zV]; rfl) (h_val (r_move) (h_nil ?_)))))
          simp only [ev,zD,zE,zF,zG]
          refine t_two (by simp only [zS,zT,zU,zV]; rfl) (by simp only [zS,zT,zU,zV]; rfl) ?_ ?_
          ·
           refine n_load rfl ((m.b 5 rfl).lies1 agg_22 rfl) ?_
           simp only [ev,zD,zE,zF,zG]
           refine n_nil ?_
           refine ⟨m.sel [true,false,true,true,true,false,true,true],?_⟩
           refine t_one (by simp only [zS,zT,zU,zV]; rfl) (mcallI m rfl (inv_kd hot) number_c ?_)
           clear m; intro u m
           refine n_nil ?_
           refine ⟨m.sel [true,false,true,true,true,false,true,true],?_⟩
           refine t_one (by simp only [zS,zT,zU,zV]; rfl) ?_
           simp only [ev,zD,zE,zF,zG]
           refine n_build1 Tryz.underlying22 (z:=.int .i64 0) (by kernel_rfl) rfl rfl rfl ?_
           intro u g6 e hg hB; replace m:=m.newB e hg hB; clear e hg hB
           refine n_nil ?_
           refine ⟨m.sel [false,true,false,true,true,true,false,true,true],?_⟩
           refine t_one (by simp only [zS,zT,zU,zV]; rfl) ?_
           simp only [ev,zD,zE,zF,zG]
           refine mappend m 2 rfl rfl Tryz.underlying22 inf_3 rfl (by decide) rfl rfl rfl (m.b 0 rfl).rowsO (allT rfl) (by omega) (by omega) ?_
           clear m; intro A3 cap3 u m; simp only [zF,zG] at m
           refine n_nil ?_
           refine ⟨m.sel [false,true,false,true,true,true,false,true,true],?_⟩
           refine t_take (by simp only [zS,zT,zU,zV]; rfl) (h_val (r_fieldAddr (c:=0) Tryz.underlying39 rfl cells_22 rfl rfl) (h_nil (t_one (by simp only [zS,zT,zU,zV]; rfl) ?_)))
           simp only [ev,zD,zE,zF,zG]
           refine mstore1 m 6 rfl rfl rfl cells_22 (leT rfl) ⟨rfl,rfl⟩ ?_
           clear m; intro u m; simp only [over,zH,zI,zJ,zK,zL,zM,zN,zO,zP,zF,zG,Nat.reduceAdd] at m
           refine n_nil ?_
           refine ⟨m.sel [false,true,false,true,true,true,false,true,true],?_⟩
           refine t_nil (k28 _ _ ?_)
           refine wp_region_lit (n_val (r_add rfl rfl (wrap_i64 (by omega) (by omega))) (n_val (r_move) (n_nil ?_)))
           simp only [ev,zD,zE,zF,zG]
           simp only [Exit.inBlock,Exit.then]
           refine ⟨n2 - (k + 1),_,?_,rfl,?_,?_⟩
           · omega
           · simp only [zQ,zR,zD,zE,setG_cons,setG_nil,setMany_cons,setMany_nil,zF,zG]
           ·
            simp only [zQ,zR,zD,zE]
            exact ⟨k + 1,_,_,_,rfl,(((m.re 6 rfl (by rw [hlo,hon,kindN_app]; exact (m.b 6 rfl))).reO 2 rfl (by rw [hon]; exact (m.o 2 rfl).as (by rw [numsV,numsV,List.map_append]; rfl))).sel [false,false,true,true,true,true,true,true,true]),by rw [hon,List.length_append,hn3]; rfl,by omega,rfl⟩
          ·
           refine mcallI m rfl (inv_kd hot) number_c ?_
           clear m; intro u m
           refine n_nil ?_
           refine ⟨m.sel [true,false,true,true,true,false,true,true],?_⟩
           simp only [ev,zD,zE,zF,zG]
           refine t_two (by simp only [zS,zT,zU,zV]; rfl) (by simp only [zS,zT,zU,zV]; rfl) ?_ ?_
           ·
            refine n_load rfl ((m.b 5 rfl).lies1 agg_22 rfl) ?_
            simp only [ev,zD,zE,zF,zG]
            refine n_nil ?_
            refine ⟨m.sel [true,false,true,true,true,false,true,true],?_⟩
            refine t_one (by simp only [zS,zT,zU,zV]; rfl) (n_build1 Tryz.underlying22 (z:=.int .i64 0) (by kernel_rfl) rfl rfl rfl ?_)
            intro u g6 e hg hB; replace m:=m.newB e hg hB; clear e hg hB
            refine n_nil ?_
            refine ⟨m.sel [false,true,false,true,true,true,false,true,true],?_⟩
            refine t_one (by simp only [zS,zT,zU,zV]; rfl) ?_
            simp only [ev,zD,zE,zF,zG]
            refine mappend m 2 rfl rfl Tryz.underlying22 inf_3 rfl (by decide) rfl rfl rfl (m.b 0 rfl).rowsO (allT rfl) (by omega) (by omega) ?_
            clear m; intro A3 cap3 u m; simp only [zF,zG] at m
            refine n_nil ?_
            refine ⟨m.sel [false,true,false,true,true,true,false,true,true],?_⟩
            refine t_take (by simp only [zS,zT,zU,zV]; rfl) (h_val (r_fieldAddr (c:=0) Tryz.underlying39 rfl cells_22 rfl rfl) (h_nil (t_one (by simp only [zS,zT,zU,zV]; rfl) ?_)))
            simp only [ev,zD,zE,zF,zG]
            refine mstore1 m 6 rfl rfl rfl cells_22 (leT rfl) ⟨rfl,rfl⟩ ?_
            clear m; intro u m; simp only [over,zH,zI,zJ,zK,zL,zM,zN,zO,zP,zF,zG,Nat.reduceAdd] at m
            refine n_nil ?_
            refine ⟨m.sel [false,true,false,true,true,true,false,true,true],?_⟩
            refine t_nil (k28 _ _ ?_)
            refine wp_region_lit (n_val (r_add rfl rfl (wrap_i64 (by omega) (by omega))) (n_val (r_move) (n_nil ?_)))
            simp only [ev,zD,zE,zF,zG]
            simp only [Exit.inBlock,Exit.then]
            refine ⟨n2 - (k + 1),_,?_,rfl,?_,?_⟩
            · omega
            · simp only [zQ,zR,zD,zE,setG_cons,setG_nil,setMany_cons,setMany_nil,zF,zG]
            ·
             simp only [zQ,zR,zD,zE]
             exact ⟨k + 1,_,_,_,rfl,(((m.re 6 rfl (by rw [hlo,hon,kindN_app]; exact (m.b 6 rfl))).reO 2 rfl (by rw [hon]; exact (m.o 2 rfl).as (by rw [numsV,numsV,List.map_append]; rfl))).sel [false,false,true,true,true,true,true,true,true]),by rw [hon,List.length_append,hn3]; rfl,by omega,rfl⟩
           ·
            refine n_build1 Tryz.underlying22 (z:=.int .i64 0) (by kernel_rfl) rfl rfl rfl ?_
            intro u g6 e hg hB; replace m:=m.newB e hg hB; clear e hg hB
            refine n_nil ?_
            refine ⟨m.sel [false,true,false,true,true,true,false,true,true],?_⟩
            refine t_one (by simp only [zS,zT,zU,zV]; rfl) ?_
            simp only [ev,zD,zE,zF,zG]
            refine n_load rfl ((m.b 6 rfl).lies1 agg_22 rfl) ?_
            simp only [ev,zD,zE,zF,zG]
            refine n_nil ?_
            refine ⟨m.sel [false,true,false,true,true,true,false,true,true],?_⟩
            refine t_one (by simp only [zS,zT,zU,zV]; rfl) (mappend m 2 rfl rfl Tryz.underlying22 inf_3 rfl (by decide) rfl rfl rfl (m.b 0 rfl).rowsO (allT rfl) (by omega) (by omega) ?_)
            clear m; intro A3 cap3 u m; simp only [zF,zG] at m
            refine n_nil ?_
            refine ⟨m.sel [false,true,false,true,true,true,false,true,true],?_⟩
            refine t_take (by simp only [zS,zT,zU,zV]; rfl) (h_val (r_fieldAddr (c:=0) Tryz.underlying39 rfl cells_22 rfl rfl) (h_nil (t_one (by simp only [zS,zT,zU,zV]; rfl) ?_)))
            simp only [ev,zD,zE,zF,zG]
            refine mstore1 m 6 rfl rfl rfl cells_22 (leT rfl) ⟨rfl,rfl⟩ ?_
            clear m; intro u m; simp only [over,zH,zI,zJ,zK,zL,zM,zN,zO,zP,zF,zG,Nat.reduceAdd] at m
            refine n_nil ?_
            refine ⟨m.sel [false,true,false,true,true,true,false,true,true],?_⟩
            refine t_nil (k28 _ _ ?_)
            refine wp_region_lit (n_val (r_add rfl rfl (wrap_i64 (by omega) (by omega))) (n_val (r_move) (n_nil ?_)))
            simp only [ev,zD,zE,zF,zG]
            simp only [Exit.inBlock,Exit.then]
            refine ⟨n2 - (k + 1),_,?_,rfl,?_,?_⟩
            · omega
            · simp only [zQ,zR,zD,zE,setG_cons,setG_nil,setMany_cons,setMany_nil,zF,zG]
            ·
             simp only [zQ,zR,zD,zE]
             exact ⟨k + 1,_,_,_,rfl,(((m.re 6 rfl (by rw [hlo,hon,kindN_app]; exact (m.b 6 rfl))).reO 2 rfl (by rw [hon]; exact (m.o 2 rfl).as (by rw [numsV,numsV,List.map_append]; rfl))).sel [false,false,true,true,true,true,true,true,true]),by rw [hon,List.length_append,hn3]; rfl,by omega,rfl⟩
     ·
      have hkN : (restL bs xs).take k = restL bs xs:=List.take_of_length_le (by omega)
      rw [hkN] at m hn3
      refine wp_exit (k24 _ _ ?_)
      refine c_seq fun K43 k43=>wp_block (c_seq fun K44 k44=>?_)
      rcases Option.eq_none_or_eq_some (firstN r (sureL bs xs)) with hh | ⟨⟨t,kk⟩,hh⟩
      ·
       rw [show (firstN r (sureL bs xs)).isSome = false by rw [hh]; rfl]
       have ha : ansR (firstN r (sureL bs xs)) (openL r (firstN r (sureL bs xs)) (restL bs xs)) = ⟨kindN (openL r (firstN r (sureL bs xs)) (restL bs xs)),loQ (openL r (firstN r (sureL bs xs)) (restL bs xs)),0,false,(openL r (firstN r (sureL bs xs)) (restL bs xs)).map fun x=>(x.1 : Int)⟩:=by
        conv=>lhs; arg 1; rw [hh]
        exact ans_none _
       refine wp_region_lit (n_val (r_move) (n_val (r_not rfl) (n_val (r_assign) (n_nil (k44 _ _ ?_)))))
       refine c_yes rfl (wp_skip (k43 _ _ ?_))
       refine c_seq fun K45 k45=>wp_region_lit ?_
       simp only [ev,zD,zE,zF,zG]
       refine n_load rfl ((m.b 4 rfl).full agg_39 cells_39) ?_
       simp only [ev,zD,zE,zF,zG]
       refine mstoreA m 5 rfl rfl rfl cells_39 (leT rfl) rfl ?_
       clear m; intro u m; simp only [over,zH,zI,zJ,zK,zL,zM,zN,zO,zP,zF,zG,Nat.reduceAdd] at m
       refine n_nil (k45 _ _ ?_)
       refine wp_ret ?_
       try simp only [Exit.inBlock,Exit.then,if_true]
       refine fin1 rfl ⟨_,rfl,((m.b 5 rfl).full agg_39 cells_39)⟩ ?_
       try simp only [zD,zE]
       exact ⟨_,rfl,m.ext,A3,n3,cap3,by rw [askR,if_pos hok,ha]; rfl,by rw [askR,if_pos hok,ha,hn3]; exact (List.length_map ..).symm,by rw [askR,if_pos hok,ha]; exact (m.o 0 rfl).as (by rw [numsV,List.map_map]; rfl)⟩
      ·
       rw [show (firstN r (sureL bs xs)).isSome = true by rw [hh]; rfl]
       rw [show hitT (firstN r (sureL bs xs)) = t by rw [hh]; rfl] at m
       refine wp_region_lit (n_val (r_move) (n_val (r_not rfl) (n_val (r_assign) (n_nil (k44 _ _ ?_)))))
       refine c_no rfl (c_seq fun K46 k46=>?_)
       simp only [ev,zD,zE,zF,zG]
       rcases Decidable.em (openL r (firstN r (sureL bs xs)) (restL bs xs) = []) with hoe | hoe
       ·
        have ha : ansR (firstN r (sureL bs xs)) (openL r (firstN r (sureL bs xs)) (restL bs xs)) = ⟨1,t,t,false,[]⟩:=by
         rw [hoe]
         conv=>lhs; arg 1; rw [hh]
         rfl
        rw [show kindN (openL r (firstN r (sureL bs xs)) (restL bs xs)) = 2 by rw [hoe]; rfl] at m
        refine wp_region_lit (n_val (r_fieldAddr (c:=0) Tryz.underlying39 rfl cells_3 rfl rfl) ?_)
        simp only [ev,zD,zE,zF,zG]
        refine n_load rfl ((m.b 4 rfl).lies1 agg_3 rfl) ?_
        simp only [ev,zD,zE,zF,zG]
        refine n_val (r_eqlF rfl rfl (by decide)) (n_val (r_assign) (n_nil (k46 _ _ ?_)))
        refine c_no rfl ?_
        simp only [ev,zD,zE,zF,zG]
        refine mh m [true,true,true,true,false,true,true] [(0,true),(2,true),(4,true),(1,true),(3,true),(5,false),(6,true),(7,false),(8,true),(9,false)] follows_mixed (by kernel_rfl) (panic_put (fun _ _ _ _ _ h=>h)) (ol:=?_) ?hol ?_
        case hol=>simp only [zQ,zR,zS,zT,zU,zV]; try rfl
        clear m; intro u m
        refine h_val (r_fieldAddr (c:=3) Tryz.underlying43 rfl cells_37 rfl rfl) (h_val (r_fieldAddr (c:=3) Tryz.underlying43 rfl cells_37 rfl rfl) (h_val (r_fieldAddr (c:=0) Tryz.underlying39 rfl cells_3 rfl rfl) ?_))
        simp only [ev,zD,zE,zF,zG]
        refine h_load rfl (fun u m=>((m.b 1 rfl).lies agg_37 cells_37 rfl rfl)) ?_
        simp only [ev,zD,zE,zF,zG,zH,zI,zJ,zK,Nat.zero_add,Nat.reduceAdd,Nat.reduceMul,Int.reduceToNat]
        refine h_load rfl (fun u m=>((m.b 1 rfl).lies agg_37 cells_37 rfl rfl)) ?_
        simp only [ev,zD,zE,zF,zG,zH,zI,zJ,zK,Nat.zero_add,Nat.reduceAdd,Nat.reduceMul,Int.reduceToNat]
        refine h_step (mstore1 m 4 rfl rfl rfl cells_3 (leT rfl) ⟨rfl,rfl⟩ ?_)
        clear m; intro u m; simp only [over,zH,zI,zJ,zK,zL,zM,zN,zO,zP,zF,zG,Nat.reduceAdd] at m
        refine n_nil ?_
        refine ⟨m.sel [true,true,true,true,false,true,true],?_⟩
        refine h_val (r_fieldAddr (c:=3) Tryz.underlying39 rfl cells_37 rfl rfl) (h_step ?_)
        simp only [ev,zD,zE,zF,zG]
        refine mstoreA m 4 rfl rfl rfl cells_37 (leT rfl) rfl ?_
        clear m; intro u m; simp only [over,zH,zI,zJ,zK,zL,zM,zN,zO,zP,zF,zG,Nat.reduceAdd] at m
        refine n_nil ?_
        refine ⟨m.sel [true,true,true,true,false,true,true],?_⟩
        refine h_val (r_fieldAddr (c:=3) Tryz.underlying39 rfl cells_37 rfl rfl) (h_step ?_)
        simp only [ev,zD,zE,zF,zG]
        refine mstoreA m 4 rfl rfl rfl cells_37 (leT rfl) rfl ?_
        clear m; intro u m; simp only [over,zH,zI,zJ,zK,zL,zM,zN,zO,zP,zF,zG,Nat.reduceAdd] at m
        refine n_nil ?_
        refine ⟨m.sel [true,true,true,true,false,true,true],?_⟩
        refine h_nil (k43 _ _ ?_)
        refine c_seq fun K47 k47=>wp_region_lit (n_load rfl ((m.b 4 rfl).full agg_39 cells_39) ?_)
        simp only [ev,zD,zE,zF,zG]
        refine mstoreA m 5 rfl rfl rfl cells_39 (leT rfl) rfl ?_
        clear m; intro u m; simp only [over,zH,zI,zJ,zK,zL,zM,zN,zO,zP,zF,zG,Nat.reduceAdd] at m
        refine n_nil (k47 _ _ ?_)
        refine wp_ret ?_
        try simp only [Exit.inBlock,Exit.then,if_true]
        refine fin1 rfl ⟨_,rfl,((m.b 5 rfl).full agg_39 cells_39)⟩ ?_
        try simp only [zD,zE]
        exact ⟨_,rfl,m.ext,A3,n3,cap3,by rw [askR,if_pos hok,ha]; rfl,by rw [askR,if_pos hok,ha,hn3,hoe]; rfl,by rw [askR,if_pos hok,ha]; exact (m.o 0 rfl).as (by rw [hoe]; rfl)⟩
       ·
        have ha : ansR (firstN r (sureL bs xs)) (openL r (firstN r (sureL bs xs)) (restL bs xs)) = ⟨3,loQ (openL r (firstN r (sureL bs xs)) (restL bs xs)),t,true,(openL r (firstN r (sureL bs xs)) (restL bs xs)).map fun x=>(x.1 : Int)⟩:=by
         conv=>lhs; arg 1; rw [hh]
         exact ans_more hoe
        rw [show kindN (openL r (firstN r (sureL bs xs)) (restL bs xs)) = 3 from kindN_ne hoe] at m
        refine wp_region_lit (n_val (r_fieldAddr (c:=0) Tryz.underlying39 rfl cells_3 rfl rfl) ?_)
        simp only [ev,zD,zE,zF,zG]
        refine n_load rfl ((m.b 4 rfl).lies1 agg_3 rfl) ?_
        simp only [ev,zD,zE,zF,zG]
        refine n_val (r_eqlT rfl rfl (by decide)) (n_val (r_assign) (n_nil (k46 _ _ ?_)))
        refine c_yes rfl (wp_region_lit (n_val (r_fieldAddr (c:=3) Tryz.underlying43 rfl cells_37 rfl rfl) ?_))
        simp only [ev,zD,zE,zF,zG]
        refine n_load rfl ((m.b 1 rfl).lies agg_37 cells_37 rfl rfl) ?_
        simp only [ev,zD,zE,zF,zG,zH,zI,zJ,zK,Nat.zero_add,Nat.reduceAdd,Nat.reduceMul,Int.reduceToNat]
        refine n_val (r_fieldAddr (c:=3) Tryz.underlying39 rfl cells_37 rfl rfl) ?_
        simp only [ev,zD,zE,zF,zG]
        refine mstoreA m 4 rfl rfl rfl cells_37 (leT rfl) rfl ?_
        clear m; intro u m; simp only [over,zH,zI,zJ,zK,zL,zM,zN,zO,zP,zF,zG,Nat.reduceAdd] at m
        refine n_val (r_fieldAddr (c:=0) Tryz.underlying39 rfl cells_4 rfl rfl) ?_
        simp only [ev,zD,zE,zF,zG]
        refine mstore1 m 4 rfl rfl rfl cells_4 (leT rfl) ⟨rfl,rfl⟩ ?_
        clear m; intro u m; simp only [over,zH,zI,zJ,zK,zL,zM,zN,zO,zP,zF,zG,Nat.reduceAdd] at m
        refine n_nil (k43 _ _ ?_)
        refine c_seq fun K48 k48=>wp_region_lit (n_load rfl ((m.b 4 rfl).full agg_39 cells_39) ?_)
        simp only [ev,zD,zE,zF,zG]
        refine mstoreA m 5 rfl rfl rfl cells_39 (leT rfl) rfl ?_
        clear m; intro u m; simp only [over,zH,zI,zJ,zK,zL,zM,zN,zO,zP,zF,zG,Nat.reduceAdd] at m
        refine n_nil (k48 _ _ ?_)
        refine wp_ret ?_
        try simp only [Exit.inBlock,Exit.then,if_true]
        refine fin1 rfl ⟨_,rfl,((m.b 5 rfl).full agg_39 cells_39)⟩ ?_
        try simp only [zD,zE]
        exact ⟨_,rfl,m.ext,A3,n3,cap3,by rw [askR,if_pos hok,ha]; rfl,by rw [askR,if_pos hok,ha,hn3]; exact (List.length_map ..).symm,by rw [askR,if_pos hok,ha]; exact (m.o 0 rfl).as (by rw [numsV,List.map_map]; rfl)⟩
end Go.Proofs.YtimjandkmfcmiaaGreatDoor
namespace Go.Lith
open Go.RowKit
structure Fact where
  R : Value → World → Prop
  st : ∀ v u u',R v u → Ext u u' → R v u'
def fTrue : Fact:=⟨fun _ _=>True,fun _ _ _ h _=>h⟩
def fEq (x : Value) : Fact:=⟨fun v _=>v = x,fun _ _ _ h _=>h⟩
def fSl (f : World → Option Addr → Nat → Nat → Prop) (h : ∀ u u' A n c,f u A n c → Ext u u' → f u' A n c) : Fact :=
  ⟨fun v u=>∃ A n c,v = .slice A n c ∧ f u A n c,fun v u u' ⟨A,n,c,e,hf⟩ hE=>⟨A,n,c,e,h u u' A n c hf hE⟩⟩
def fTris (ts : List T3) : Fact:=fSl (fun u A n c=>TrisAt u A n ts ∧ n ≤ c) fun _ _ _ _ _ h hE=>⟨h.1.ext hE,h.2⟩
def fInts (zs : List Int) : Fact:=fSl (fun u A n _=>IntsAt u A n zs) fun _ _ _ _ _ h hE=>h.ext hE
def fLists (xs : List (List T3)) : Fact:=fSl (fun u A n _=>ListsAt u A n xs) fun _ _ _ _ _ h hE=>h.ext hE
def factAt (L : List Fact) (i : Nat) : Fact:=L.getD i fTrue
def flowB (ops : Array Oper) (D : List Nat) (pre : List (List Nat)) : Bool :=
  decide (D.length = ops.size) && decide D.Nodup && (List.range ops.size).all fun i=>match ops[i]? with
    | none=>false
    | some o=>o.after.all (fun e=>!Region.binds .any e || decide (e.on < i)) && (pre.getD i []).all fun j=>decide (j < ops.size) && o.after.any fun e=>Region.binds .any e && e.on == j
section
variable {P : Program} {Q : Exit → Act → World → Prop} {l : List Oper} {ds : List Deferred} {l0 : List Value}
theorem set_setG : ∀ (D : List Nat) (l0 : List Value) (u : Nat → Value) (d : Nat) (v : Value),D.Nodup → d ∈ D → (setG l0 D u).set d v = setG l0 D (fun t=>if t = d then v else u t)
  | [],_,_,_,_,_,h=>by cases h
  | t :: D,l0,u,d,v,hn,h=>by
    have hn:=List.nodup_cons.1 hn
    rw [setG_cons,setG_cons]
    by_cases e : t = d
    · subst e
      rw [if_pos rfl]
      have key : ∀ (D : List Nat) (l : List Value) (u u' : Nat → Value) (v : Value),t ∉ D → (∀ s ∈ D,u' s = u s) → (setG l D u).set t v = setG (l.set t v) D u':=by
        intro D
        induction D with
        | nil=>intro l u u' v _ _; rfl
        | cons s D ih =>
          intro l u u' v hs he
          rw [setG_cons,setG_cons,he s (List.mem_cons_self ..),ih (l.set s (u s)) u u' v (fun h=>hs (List.mem_cons_of_mem _ h)) (fun s hs=>he s (List.mem_cons_of_mem _ hs)),List.set_comm _ _ (fun e=>hs (by rw [e]; exact List.mem_cons_self ..))]
      rw [key D _ u (fun s=>if s = t then v else u s) v hn.1 (fun s hs=>if_neg (fun (e : s = t)=>hn.1 (e ▸ hs))),List.set_set]
    · rw [if_neg e]
      exact set_setG D (l0.set t (u t)) u d v hn.2 (by rcases List.mem_cons.1 h with e' | h; exact absurd e'.symm e; exact h)
theorem flow_cnt {l : Array Bool} {i : Nat} (hi : l.getD i true = false) : l.toList.count false = (l.setIfInBounds i true).toList.count false + 1:=by
  have hlt : i < l.size:=by
    rcases Nat.lt_or_ge i l.size with h | h
    · exact h
    · rw [Array.getD_eq_getD_getElem?,Array.getElem?_eq_none h] at hi
      cases hi
  have hv : l[i] = false:=by
    rw [Array.getD_eq_getD_getElem?,Array.getElem?_eq_getElem hlt] at hi
    exact hi
  rw [Array.toList_setIfInBounds,List.count_set (by simpa using hlt)]
  have hpos : 0 < l.toList.count false:=List.count_pos_iff.2 (by rw [← hv]; simp)
  have e : (l.toList[i]'(by simpa using hlt) == false) = true:=by simp [hv]
  rw [if_pos e,if_neg (by decide)]
  omega
theorem wpAny_flow {D : List Nat} {pre : List (List Nat)} {L : List Fact} {C : World → Prop} (hC : ∀ u u',C u → Ext u u' → C u') (hB : flowB l.toArray D pre = true)
    (step : ∀ i,i < D.length → ∀ (u : Nat → Value) (w : World) (Q' : Exit → Act → World → Prop),C w → (∀ j ∈ pre.getD i [],(factAt L j).R (u (D.getD j 0)) w) →
      (∀ v w',Ext w w' → (factAt L i).R v w' → Q' .normal (Fr ((setG l0 D u).set (D.getD i 0) v) ds) w') → wpList P l.toArray Q' [(l.toArray[i]?).getD default] (Fr (setG l0 D u) ds) w)
    (post : ∀ (u : Nat → Value) (w : World),C w → (∀ i,i < D.length → (factAt L i).R (u (D.getD i 0)) w) → Q .normal (Fr (setG l0 D u) ds) w) :
    ∀ (fuel : Nat) (listed : Array Bool) (u : Nat → Value) (w : World),listed.size = l.toArray.size → listed.toList.count false = fuel → C w → (∀ i,i < D.length → listed.getD i true = true → (factAt L i).R (u (D.getD i 0)) w) →
      wpAny P .any l.toArray Q fuel listed (Fr (setG l0 D u) ds) w:=by
  simp only [flowB,Bool.and_eq_true,decide_eq_true_eq,List.all_eq_true,List.mem_range] at hB
  obtain ⟨⟨hlen,hnd⟩,hops⟩:=hB
  have hall : ∀ (listed : Array Bool),listed.size = l.toArray.size → Region.ready .any l.toArray listed = [] → ∀ i,i < D.length → listed.getD i true = true:=by
    intro listed hs hr i
    induction i using Nat.strongRecOn with
    | ind i ih =>
      intro hi
      cases hg : listed.getD i true with
      | true=>rfl
      | false =>
        exfalso
        have hm : i ∈ Region.ready .any l.toArray listed:=by
          refine mem_ready.2 ⟨hg,?_⟩
          have:=hops i (by omega)
          cases ho : l.toArray[i]? with
          | none=>rw [ho] at this; cases this
          | some o =>
            refine ⟨o,rfl,fun e he hb=>?_⟩
            rw [ho] at this
            simp only [Bool.and_eq_true] at this
            have h1:=Array.all_eq_true_iff_forall_mem.1 this.1 e he
            rw [hb] at h1
            have h2 : e.on < i:=by simpa using h1
            have h3:=ih e.on h2 (by omega)
            have h4 : e.on < listed.size:=by omega
            rw [Array.getD_eq_getD_getElem?,Array.getElem?_eq_getElem h4] at h3 ⊢
            exact h3
        rw [hr] at hm
        cases hm
  intro fuel
  induction fuel with
  | zero =>
    intro listed u w hs hc hw hR
    have hn : ∀ i,i < D.length → listed.getD i true = true:=fun i hi=>by
      have hlt : i < listed.size:=by omega
      rw [Array.getD_eq_getD_getElem?,Array.getElem?_eq_getElem hlt]
      show listed[i] = true
      cases h : listed[i] with
      | true=>rfl
      | false =>
        have : false ∈ listed.toList:=by rw [← h]; simp
        have:=List.count_pos_iff.2 this
        omega
    refine ⟨List.eq_nil_iff_forall_not_mem.2 fun i hi=>?_,post u w hw fun i hi=>hR i hi (hn i hi)⟩
    obtain ⟨h1,o,ho,_⟩:=mem_ready.1 hi
    have:=hn i (by rw [hlen]; exact (Array.getElem?_eq_some_iff.1 ho).1)
    rw [h1] at this
    cases this
  | succ fuel ih =>
    intro listed u w hs hc hw hR
    refine ⟨fun hr=>post u w hw fun i hi=>hR i hi (hall listed hs hr i hi),fun i hi=>?_⟩
    obtain ⟨h1,o,ho,h2⟩:=mem_ready.1 hi
    have hin : i < l.toArray.size:=(Array.getElem?_eq_some_iff.1 ho).1
    have hiD : i < D.length:=by omega
    refine wpOp_of_list ho ?_
    have hst:=step i hiD u w (Exit.then (wpAny P .any l.toArray Q fuel (listed.setIfInBounds i true)) Q) hw (fun j hj=>?_) (fun v w' hE hv=>?_)
    · rw [ho] at hst
      exact hst
    · have:=hops i hin
      rw [ho] at this
      simp only [Bool.and_eq_true,List.all_eq_true] at this
      have h3:=this.2 j hj
      obtain ⟨hj1,h3⟩:=h3
      rw [← Array.any_toList,List.any_eq_true] at h3
      obtain ⟨e,he,h4⟩:=h3
      have he : e ∈ o.after:=by simpa using he
      simp only [Bool.and_eq_true,beq_iff_eq] at h4
      obtain ⟨hb,rfl⟩:=h4
      have h5:=h2 e he hb
      have hjn : e.on < l.toArray.size:=by simpa using hj1
      have h6 : e.on < listed.size:=by omega
      refine hR e.on (by omega) ?_
      rw [Array.getD_eq_getD_getElem?,Array.getElem?_eq_getElem h6] at h5 ⊢
      exact h5
    · show wpAny P .any l.toArray Q fuel (listed.setIfInBounds i true) _ w'
      have hmem : D.getD i 0 ∈ D:=by
        rw [List.getD_eq_getElem?_getD,List.getElem?_eq_getElem hiD]
        exact List.getElem_mem hiD
      rw [set_setG D l0 u _ v hnd hmem]
      refine ih _ _ _ (by simpa using hs) ?_ (hC w w' hw hE) fun j hj hjl=>?_
      · have:=flow_cnt h1
        omega
      · by_cases e : j = i
        · subst e
          show (factAt L j).R (if D.getD j 0 = D.getD j 0 then v else _) w'
          rw [if_pos rfl]
          exact hv
        · have hne : D.getD j 0 ≠ D.getD i 0:=fun h=>e (by
            rw [List.getD_eq_getElem?_getD,List.getD_eq_getElem?_getD,List.getElem?_eq_getElem hj,List.getElem?_eq_getElem hiD] at h
            exact (List.getElem_inj hnd).1 h)
          show (factAt L j).R (if D.getD j 0 = D.getD i 0 then v else u (D.getD j 0)) w'
          rw [if_neg hne]
          refine (factAt L j).st _ _ _ (hR j hj ?_) hE
          have hjs : j < listed.size:=by omega
          rw [Array.getD_eq_getD_getElem?,Array.getElem?_setIfInBounds_ne (Ne.symm e)] at hjl
          rw [Array.getD_eq_getD_getElem?]
          exact hjl
theorem mflow {w0 w : World} {is : List It} {id : Nat} (m : Mem w0 w is) (L : List Fact) (D : List Nat) (pre : List (List Nat)) (hm : P.follows .mixedOrders = true) (hB : flowB l.toArray D pre = true)
    (step : ∀ i,i < D.length → ∀ (u : Nat → Value) (w : World) (Q' : Exit → Act → World → Prop),Mem w0 w is → (∀ j ∈ pre.getD i [],(factAt L j).R (u (D.getD j 0)) w) →
      (∀ v w',Ext w w' → (factAt L i).R v w' → Q' .normal (Fr ((setG l0 D u).set (D.getD i 0) v) ds) w') → wpList P l.toArray Q' [(l.toArray[i]?).getD default] (Fr (setG l0 D u) ds) w)
    (post : ∀ (u : Nat → Value) (w : World),Mem w0 w is → (∀ i,i < D.length → (factAt L i).R (u (D.getD i 0)) w) → Q .normal (Fr (setG l0 D u) ds) w) : (Code.region id l.toArray true).wp P Q (Fr l0 ds) w:=by
  refine wp_region_any hm ?_
  have h:=wpAny_flow (L:=L) (fun _ _ h hE=>Mem.ext' h hE) hB step post l.toArray.size (Array.replicate l.toArray.size false) (l0.getD · undef) { w with drawn:=w.drawn + 1 } (by simp) (by simp) (m.ext' (Ext.refl w).drawn) (fun i hi h=>by
    have hlen : D.length = l.toArray.size:=by
      simp only [flowB,Bool.and_eq_true,decide_eq_true_eq] at hB
      exact hB.1.1
    rw [Array.getD_eq_getD_getElem?,Array.getElem?_eq_getElem (by rw [hlen] at hi; simpa using hi)] at h
    simp at h)
  rw [setG_same] at h
  exact h
theorem fl_op {ops : Array Oper} {i : Nat} {o : Oper} {a : Act} {w : World} (ho : (ops[i]?).getD default = o) (h : wpList P ops Q [o] a w) : wpList P ops Q [(ops[i]?).getD default] a w:=ho ▸ h
end
theorem ints_blk {w : World} {g : Nat} {t : TypeId} {cs : List Value} {zs : List Int} (hB : Blk w g cs t) (hc : cs = zs.map (Value.int .i64 ·)) (hi : ∀ z ∈ zs,I64 z) : IntsAt w (some ⟨g,0,none⟩) zs.length zs:=by
  subst hc
  refine ⟨rfl,hi,fun i z hz=>⟨_,rfl,?_⟩⟩
  have:=hB.row 0 i (.int .i64 z) (by rw [List.drop_zero,List.getElem?_map,hz]; rfl)
  exact this
theorem ints_nil (w : World) : IntsAt w none 0 []:=⟨rfl,fun _ h=>(by cases h),fun _ _ h=>(by cases h)⟩
theorem ints_ow {w0 w : World} {S : List (Option Nat)} {E : TypeId} {A : Option Addr} {n cap : Nat} {zs : List Int} (h : Ow w0 w S E 1 A n cap (zs.map (Value.int .i64 ·))) (hi : ∀ z ∈ zs,I64 z) : IntsAt w A n zs:=by
  have hl:=h.own.1
  rw [List.length_map,Nat.mul_one] at hl
  exact ⟨hl,hi,fun i z hz=>h.row i _ (by rw [List.getElem?_map,hz]; rfl)⟩
theorem lists_one {w : World} {g n c : Nat} {t : TypeId} {A : Option Addr} {l : List T3} (hB : Blk w g [.slice A n c] t) (h : TrisAt w A n l) (hc : n ≤ c) : ListsAt w (some ⟨g,0,none⟩) 1 [l]:=by
  refine ⟨rfl,fun i x hx=>?_⟩
  match i,hx with
  | 0,hx=>cases hx; exact ⟨_,⟨A,n,c⟩,rfl,hB.row 0 0 _ rfl,h,hc⟩
theorem lists_two {w : World} {g n c n' c' : Nat} {t : TypeId} {A A' : Option Addr} {l l' : List T3} (hB : Blk w g [.slice A n c,.slice A' n' c'] t) (h : TrisAt w A n l) (hc : n ≤ c) (h' : TrisAt w A' n' l') (hc' : n' ≤ c') : ListsAt w (some ⟨g,0,none⟩) 2 [l,l']:=by
  refine ⟨rfl,fun i x hx=>?_⟩
  match i,hx with
  | 0,hx=>cases hx; exact ⟨_,⟨A,n,c⟩,rfl,hB.row 0 0 _ rfl,h,hc⟩
  | 1,hx=>cases hx; exact ⟨_,⟨A',n',c'⟩,rfl,hB.row 0 1 _ rfl,h',hc'⟩
end Go.Lith
namespace Go.Proofs.YtimjandkmfcmiaaGreatDoor
open Go.RowKit Go.Lith
set_option maxRecDepth 100000
attribute [local irreducible] wpList wpQuiet wpMix wpMixH wpTree Code.wp
def fAns (a : Ans) : Fact:=⟨fun v u=>∃ A n c,v = ansV a A n c ∧ IntsAt u A n a.opn,fun _ _ _ ⟨A,n,c,e,h⟩ hE=>⟨A,n,c,e,h.ext hE⟩⟩
theorem ans_at {a : Ans} {w w' : World} {v : Go.Value} (h : AnsAt a w v w') (hi : ∀ z ∈ a.opn,I64 z) : ∃ A n c,v = ansV a A n c ∧ IntsAt w' A n a.opn:=by
 obtain ⟨A,n,cap,e,_,hO⟩:=h
 exact ⟨A,n,cap,e,ints_ow hO hi⟩
def liftT (x z : Int) : T3:=⟨⟨x,x,z⟩,⟨4 + x,x,z⟩,⟨x,4 + x,z⟩⟩
theorem lift_it {x z : Int} (hx : 0 ≤ x ∧ x ≤ 100) (hz : 0 ≤ z ∧ z ≤ 100) : ∀ t ∈ [liftT x z],IT t:=fun t ht=>by
 rw [List.mem_singleton.1 ht]
 refine ⟨⟨⟨?_,?_⟩,⟨?_,?_⟩,⟨?_,?_⟩⟩,⟨⟨?_,?_⟩,⟨?_,?_⟩,⟨?_,?_⟩⟩,⟨⟨?_,?_⟩,⟨?_,?_⟩,⟨?_,?_⟩⟩⟩ <;> (simp only [liftT]; omega)
def R0 : Ray:=⟨⟨1,1,0⟩,1,⟨0,0,2⟩⟩
instance : IR R0:=⟨⟨⟨by decide,by decide⟩,⟨by decide,by decide⟩,⟨by decide,by decide⟩⟩,⟨by decide,by decide⟩,⟨⟨by decide,by decide⟩,⟨by decide,by decide⟩,⟨by decide,by decide⟩⟩⟩
theorem i64_nil : ∀ z ∈ ([] : List Int),I64 z:=fun z h=>by cases h
theorem i64_1 {n : Int} (h : 0 ≤ n ∧ n ≤ 1) : ∀ z ∈ [n],I64 z:=fun z hz=>by rw [List.mem_singleton.1 hz]; exact ⟨by omega,by omega⟩
theorem i64_2 {n m : Int} (h : 0 ≤ n ∧ n ≤ 1) (k : 0 ≤ m ∧ m ≤ 1) : ∀ z ∈ [n,m],I64 z:=fun z hz=>by
 simp only [List.mem_cons,List.not_mem_nil,or_false] at hz
 rcases hz with rfl | rfl
 · exact ⟨by omega,by omega⟩
 · exact ⟨by omega,by omega⟩
def fracV (n d : Int) : Go.Value:=.agg #[.bool (wneg n),.string (wmag n),.bool (wneg d),.string (wmag d)]
theorem ask_0 : askR R0 [[liftT 0 9]] [0] = (⟨1,(Rat.divInt 9 2),(Rat.divInt 9 2),false,[]⟩ : Ans):=by kernel_rfl
theorem ask_1 : askR R0 [[liftT 0 9]] [1] = (⟨3,(Rat.divInt 4 1),(Rat.divInt 0 1),false,[0]⟩ : Ans):=by kernel_rfl
theorem ask_2 : askR R0 [[liftT 0 9],[liftT 0 5]] [0,1] = (⟨3,(Rat.divInt 2 1),(Rat.divInt 9 2),true,[1]⟩ : Ans):=by kernel_rfl
theorem ask_3 : askR R0 [[liftT 0 9],[liftT 0 20]] [0,1] = (⟨1,(Rat.divInt 9 2),(Rat.divInt 9 2),false,[]⟩ : Ans):=by kernel_rfl
theorem ask_4 : askR R0 [[liftT 0 9],[]] [0] = (⟨3,(Rat.divInt 0 1),(Rat.divInt 9 2),true,[1]⟩ : Ans):=by kernel_rfl
theorem ask_5 : askR R0 [[liftT 9 9]] [1] = (⟨2,(Rat.divInt 0 1),(Rat.divInt 0 1),false,[]⟩ : Ans):=by kernel_rfl
theorem frv_9_2 : fracV 9 2 = Q (Rat.divInt 9 2):=by kernel_rfl
theorem frv_0_1 : fracV 0 1 = Q (Rat.divInt 0 1):=by kernel_rfl
theorem frv_4_1 : fracV 4 1 = Q (Rat.divInt 4 1):=by kernel_rfl
theorem frv_2_1 : fracV 2 1 = Q (Rat.divInt 2 1):=by kernel_rfl
theorem Same_c {a : Ans} {A A2 : Option Addr} {N N2 cap cap2 : Nat} (w : World) (h1 : IntsAt w A N a.opn) (h2 : IntsAt w A2 N2 a.opn) (hN : N ≤ 1000000) : Does Tryz.prog 14 [ansV a A N cap,ansV a A2 N2 cap2] w (fun v _=>v = .bool true):=by
 refine ⟨en_14,?_⟩
 have m:=Mem.refl w
 have e1:=h1.len
 have e2:=h2.len
 go_enter Tryz.func14,Tryz.ntmps14
 refine c_seq fun K1 k1=>wp_region_lit (mboxA m rfl ?_)
 clear m; intro g1 u m
 simp only [ev,zD,zE,zF,zG]
 refine mboxA m rfl ?_
 clear m; intro g2 u m
 refine n_val (r_assign) (n_nil (k1 _ _ ?_))
 refine c_seq fun K2 k2=>c_seq fun K3 k3=>wp_region_lit (n_val (r_fieldAddr (c:=0) Tryz.underlying39 rfl cells_3 rfl rfl) ?_)
 simp only [ev,zD,zE,zF,zG]
 refine n_load rfl ((m.b 1 rfl).lies1 agg_3 rfl) ?_
 simp only [ev,zD,zE,zF,zG]
 refine n_val (r_fieldAddr (c:=0) Tryz.underlying39 rfl cells_3 rfl rfl) ?_
 simp only [ev,zD,zE,zF,zG]
 refine n_load rfl ((m.b 0 rfl).lies1 agg_3 rfl) ?_
 simp only [ev,zD,zE,zF,zG]
 refine n_val (r_neqF rfl rfl (fun h=>h rfl)) (n_val (r_move) (n_want rfl (n_val (r_fieldAddr (c:=3) Tryz.underlying39 rfl cells_37 rfl rfl) (n_want rfl ?_))))
 simp only [ev,zD,zE,zF,zG]
 refine n_load rfl ((m.b 1 rfl).lies agg_37 cells_37 rfl rfl) ?_
 simp only [ev,zD,zE,zF,zG,zH,zI,zJ,zK,Nat.zero_add,Nat.reduceAdd,Nat.reduceMul,Int.reduceToNat]
 refine n_want rfl (n_val (r_fieldAddr (c:=3) Tryz.underlying39 rfl cells_37 rfl rfl) (n_want rfl ?_))
 simp only [ev,zD,zE,zF,zG]
 refine n_load rfl ((m.b 0 rfl).lies agg_37 cells_37 rfl rfl) ?_
 simp only [ev,zD,zE,zF,zG,zH,zI,zJ,zK,Nat.zero_add,Nat.reduceAdd,Nat.reduceMul,Int.reduceToNat]
 refine n_want rfl (n_val (r_as (eq_neq_37 rfl rfl) (bool_as (decide_eq_false (fun h=>h ⟨rfl,rfl,rfl,rfl⟩)))) (n_val (r_pickF rfl) (n_val (r_move) (n_want rfl (n_val (r_fieldAddr (c:=3) Tryz.underlying39 rfl cells_37 rfl rfl) ?_)))))
 simp only [ev,zD,zE,zF,zG]
 refine n_want rfl (n_load rfl ((m.b 1 rfl).lies agg_37 cells_37 rfl rfl) ?_)
 simp only [ev,zD,zE,zF,zG,zH,zI,zJ,zK,Nat.zero_add,Nat.reduceAdd,Nat.reduceMul,Int.reduceToNat]
 refine n_want rfl (n_val (r_fieldAddr (c:=3) Tryz.underlying39 rfl cells_37 rfl rfl) (n_want rfl ?_))
 simp only [ev,zD,zE,zF,zG]
 refine n_load rfl ((m.b 0 rfl).lies agg_37 cells_37 rfl rfl) ?_
 simp only [ev,zD,zE,zF,zG,zH,zI,zJ,zK,Nat.zero_add,Nat.reduceAdd,Nat.reduceMul,Int.reduceToNat]
 refine n_want rfl (n_val (r_as (eq_neq_37 rfl rfl) (bool_as (decide_eq_false (fun h=>h ⟨rfl,rfl,rfl,rfl⟩)))) (n_val (r_pickF rfl) (n_val (r_move) (n_want rfl (n_val (r_fieldAddr (c:=0) Tryz.underlying39 rfl cells_4 rfl rfl) ?_)))))
 simp only [ev,zD,zE,zF,zG]
 refine n_want rfl (n_load rfl ((m.b 1 rfl).lies1 agg_4 rfl) ?_)
 simp only [ev,zD,zE,zF,zG]
 refine n_want rfl (n_val (r_fieldAddr (c:=0) Tryz.underlying39 rfl cells_4 rfl rfl) (n_want rfl ?_))
 simp only [ev,zD,zE,zF,zG]
 refine n_load rfl ((m.b 0 rfl).lies1 agg_4 rfl) ?_
 simp only [ev,zD,zE,zF,zG]
 refine n_want rfl (n_val (r_as (r_neqB Tryz.underlying4 rfl rfl) (bool_as (by simp))) (n_val (r_pickF rfl) (n_val (r_move) (n_want rfl (n_val (r_fieldAddr (c:=0) Tryz.underlying39 rfl cells_22 rfl rfl) ?_)))))
 simp only [ev,zD,zE,zF,zG]
 refine n_want rfl (n_load rfl ((m.b 1 rfl).lies1 agg_22 rfl) ?_)
 simp only [ev,zD,zE,zF,zG]
 refine n_want rfl (n_val (r_lenS rfl Tryz.underlying22 rfl) (n_want rfl (n_val (r_fieldAddr (c:=0) Tryz.underlying39 rfl cells_22 rfl rfl) (n_want rfl ?_))))
 simp only [ev,zD,zE,zF,zG]
 refine n_load rfl ((m.b 0 rfl).lies1 agg_22 rfl) ?_
 simp only [ev,zD,zE,zF,zG]
 refine n_want rfl (n_val (r_lenS rfl Tryz.underlying22 rfl) (n_want rfl (n_val (r_neqF rfl rfl (by omega)) (n_val (r_pickF rfl) (n_nil (k3 _ _ ?_))))))
 refine c_no rfl (wp_skip (k2 _ _ ?_))
 refine c_seq fun K4 k4=>c_seq fun K5 k5=>wp_region_lit (n_val (r_assign) ?_)
 simp only [ev,zD,zE,zF,zG]
 refine n_nil (k5 _ _ ?_)
 refine wp_block ?_
 try simp only [Nat.zero_add,Nat.reduceAdd,Nat.reduceMul,Int.reduceToNat]
 refine c_loopg [5] [4,41,42,43,44,45,46,47,48,49,50,51,52,53,54,55,56,57,58] (fun n vs wl=>∃ (k : Nat),vs = [.int .i64 (k:Int)] ∧ Mem w wl [bI g2 [.int .i64 (a.kind),.bool (wneg (a.lo).num),.string (wmag (a.lo).num),.bool (wneg ((a.lo).den : Int)),.string (wmag ((a.lo).den : Int)),.bool (wneg (a.hi).num),.string (wmag (a.hi).num),.bool (wneg ((a.hi).den : Int)),.string (wmag ((a.hi).den : Int)),.bool (a.sure),.slice A2 N2 cap2] 39,bI g1 [.int .i64 (a.kind),.bool (wneg (a.lo).num),.string (wmag (a.lo).num),.bool (wneg ((a.lo).den : Int)),.string (wmag ((a.lo).den : Int)),.bool (wneg (a.hi).num),.string (wmag (a.hi).num),.bool (wneg ((a.hi).den : Int)),.string (wmag ((a.hi).den : Int)),.bool (a.sure),.slice A N cap] 39] ∧ (k ≤ N) ∧ (n = N - k)) ?_ ?_
 ·
  apply Exists.intro
  simp only [zQ,zR,zD,zE]
  exact ⟨0,rfl,m,Nat.zero_le _,rfl⟩
 ·
  intro n vs wr hI u
  clear m
  obtain ⟨k,rfl,m,hk,hn1⟩:=hI
  simp only [setG_cons,setG_nil,setMany_cons,setMany_nil,zF,zG]
  refine c_seq fun K6 k6=>c_seq fun K7 k7=>wp_region_lit (n_val (r_move) (n_val (r_fieldAddr (c:=0) Tryz.underlying39 rfl cells_22 rfl rfl) ?_))
  simp only [ev,zD,zE,zF,zG]
  refine n_load rfl ((m.b 1 rfl).lies1 agg_22 rfl) ?_
  simp only [ev,zD,zE,zF,zG]
  refine n_val (r_lenS rfl Tryz.underlying22 rfl) (n_val (r_lss rfl rfl) (n_nil (k7 _ _ ?_)))
  simp only [ev,zD,zE,zF,zG]
  refine c_if rfl (fun hc2=>?_) (fun hc2=>?_)
  ·
   obtain ⟨z,hz,_,p,rfl,hc⟩:=h1.get (i:=k) (by omega)
   obtain ⟨z2,hz2,_,p2,rfl,hd⟩:=h2.get (i:=k) (by omega)
   obtain rfl : z2 = z:=by rw [hz] at hz2; exact (Option.some.inj hz2).symm
   refine wp_skip (k6 _ _ ?_)
   refine c_seq fun K8 k8=>wp_block (c_seq fun K9 k9=>mq m follows_mixed (by kernel_rfl) (q_val (r_fieldAddr (c:=0) Tryz.underlying39 rfl cells_22 rfl rfl) ?_))
   simp only [ev,zD,zE,zF,zG]
   refine ql rfl (fun u m=>((m.b 1 rfl).lies1 agg_22 rfl)) ?_
   simp only [ev,zD,zE,zF,zG]
   refine q_val (r_move) ?_
   simp only [ev,zD,zE,zF,zG]
   refine q_val (r_indexAddrS Tryz.underlying22 cells_3 rfl rfl (by omega) (by omega) (addr1 (Int.toNat_natCast _))) ?_
   simp only [ev,zD,zE,zF,zG]
   refine ql rfl (fun u m=>(Lith.lies1 (m.ext.cell hc) agg_3)) ?_
   simp only [ev,zD,zE,zF,zG]
   refine q_val (r_fieldAddr (c:=0) Tryz.underlying39 rfl cells_22 rfl rfl) ?_
   simp only [ev,zD,zE,zF,zG]
   refine ql rfl (fun u m=>((m.b 0 rfl).lies1 agg_22 rfl)) ?_
   simp only [ev,zD,zE,zF,zG]
   refine q_val (r_move) ?_
   simp only [ev,zD,zE,zF,zG]
   refine q_val (r_indexAddrS Tryz.underlying22 cells_3 rfl rfl (by omega) (by omega) (addr1 (Int.toNat_natCast _))) ?_
   simp only [ev,zD,zE,zF,zG]
   refine ql rfl (fun u m=>(Lith.lies1 (m.ext.cell hd) agg_3)) ?_
   simp only [ev,zD,zE,zF,zG]
   refine q_val (r_neqF rfl rfl (fun h=>h rfl)) (q_nil ?_)
   clear m; intro u m
   refine k9 _ _ ?_
   refine c_no rfl (wp_skip (k8 _ _ ?_))
   refine wp_region_lit (n_val (r_move) ?_)
   simp only [ev,zD,zE,zF,zG]
   refine n_val (r_add rfl rfl (wrap_i64 (by omega) (by omega))) (n_val (r_assign) (n_nil ?_))
   simp only [ev,zD,zE,zF,zG]
   simp only [Exit.inBlock,Exit.then]
   refine ⟨N - (k + 1),_,?_,rfl,?_,?_⟩
   · omega
   · simp only [zQ,zR,zD,zE,setG_cons,setG_nil,setMany_cons,setMany_nil,zF,zG]
   ·
    simp only [zQ,zR,zD,zE]
    exact ⟨k + 1,rfl,m,by omega,rfl⟩
  ·
   refine wp_exit (k4 _ _ ?_)
   refine c_seq fun K10 k10=>wp_region_lit (n_val (r_assign) (n_nil (k10 _ _ ?_)))
   refine wp_ret ?_
   simp only [ev,zD,zE,zF,zG]
   try simp only [Exit.inBlock,Exit.then,if_true]
   refine fin1 rfl rfl ?_
   try simp only [zD,zE]
   exact ⟨_,rfl,m.ext,rfl⟩
theorem frac_c {n d : Int} [Iw n] [Iw d] : Pure Tryz.prog 22 [.int .i64 n,.int .i64 d] (fracV n d):=by
 intro w
 refine ⟨en_22,?_⟩
 have m:=Mem.refl w
 go_enter Tryz.func22,Tryz.ntmps22
 refine c_seq fun K1 k1=>wp_region_lit (malloc m zero_37 rfl ?_)
 clear m; intro g1 u m
 refine n_nil (k1 _ _ ?_)
 refine c_seq fun K2 k2=>wp_region_lit (n_val (r_move) ?_)
 simp only [ev,zD,zE,zF,zG]
 refine mcallP m rfl rfl (rFrom_c Iw.h) ?_
 clear m; intro u m
 refine n_val (r_move) ?_
 simp only [ev,zD,zE,zF,zG]
 refine mcallP m rfl rfl (rFrom_c Iw.h) ?_
 clear m; intro u m
 refine n_val (r_build_37_0_1 rfl rfl) ?_
 simp only [ev,zD,zE,zF,zG]
 refine mstoreA m 0 rfl rfl rfl cells_37 (leT rfl) rfl ?_
 clear m; intro u m; simp only [over,zH,zI,zJ,zK,zL,zM,zN,zO,zP,zF,zG,Nat.reduceAdd] at m
 refine n_nil (k2 _ _ ?_)
 refine wp_ret ?_
 try simp only [Exit.inBlock,Exit.then,if_true]
 refine fin1 rfl ⟨_,rfl,((m.b 0 rfl).full agg_37 cells_37)⟩ ?_
 try simp only [zD,zE]
 exact ⟨_,rfl,m.ext,rfl⟩
theorem frac_q {n d : Int} [Iw n] [Iw d] {q : Rat} (h : fracV n d = Q q) : Pure Tryz.prog 22 [.int .i64 n,.int .i64 d] (Q q):=h ▸ frac_c
theorem frac_9_2 : Pure Tryz.prog 22 [.int .i64 9,.int .i64 2] (Q (Rat.divInt 9 2)) :=
 haveI : Iw (9 : Int):=⟨⟨by decide,by decide⟩⟩
 haveI : Iw (2 : Int):=⟨⟨by decide,by decide⟩⟩
 frac_q frv_9_2
theorem frac_0_1 : Pure Tryz.prog 22 [.int .i64 0,.int .i64 1] (Q (Rat.divInt 0 1)) :=
 haveI : Iw (0 : Int):=⟨⟨by decide,by decide⟩⟩
 haveI : Iw (1 : Int):=⟨⟨by decide,by decide⟩⟩
 frac_q frv_0_1
theorem frac_4_1 : Pure Tryz.prog 22 [.int .i64 4,.int .i64 1] (Q (Rat.divInt 4 1)) :=
 haveI : Iw (4 : Int):=⟨⟨by decide,by decide⟩⟩
 haveI : Iw (1 : Int):=⟨⟨by decide,by decide⟩⟩
 frac_q frv_4_1
theorem frac_2_1 : Pure Tryz.prog 22 [.int .i64 2,.int .i64 1] (Q (Rat.divInt 2 1)) :=
 haveI : Iw (2 : Int):=⟨⟨by decide,by decide⟩⟩
 haveI : Iw (1 : Int):=⟨⟨by decide,by decide⟩⟩
 frac_q frv_2_1
theorem lifted_c {x z : Int} (w : World) (hx : 0 ≤ x ∧ x ≤ 100) (hz : 0 ≤ z ∧ z ≤ 100) : Does Tryz.prog 23 [.int .i64 x,.int .i64 z] w (fun v w'=>∃ g,v = .slice (some ⟨g,0,none⟩) 1 1 ∧ w.heap.size ≤ g ∧ Blk w' g (triCells (liftT x z)) 58):=by
 refine ⟨en_23,?_⟩
 have m:=Mem.refl w
 go_enter Tryz.func23,Tryz.ntmps23
 refine c_seq fun K1 k1=>wp_region_lit (n_val (r_assign) (n_nil (k1 _ _ ?_)))
 refine c_seq fun K2 k2=>wp_region_lit (n_val (r_move) (n_val (r_move) (n_val (r_move) ?_)))
 simp only [ev,zD,zE,zF,zG]
 refine n_val (r_build_56_0_1_2 rfl rfl rfl) (n_val (r_move) ?_)
 simp only [ev,zD,zE,zF,zG]
 refine n_val (r_add rfl rfl (wrap_i64 (by omega) (by omega))) (n_val (r_move) (n_val (r_move) (n_val (r_build_56_0_1_2 rfl rfl rfl) ?_)))
 simp only [ev,zD,zE,zF,zG]
 refine n_val (r_move) (n_val (r_move) ?_)
 simp only [ev,zD,zE,zF,zG]
 refine n_val (r_add rfl rfl (wrap_i64 (by omega) (by omega))) (n_val (r_move) (n_val (r_build_56_0_1_2 rfl rfl rfl) (n_val (r_build_58_0_1_2 rfl rfl rfl) ?_)))
 simp only [ev,zD,zE,zF,zG]
 refine n_bs_48_1 rfl ?_
 intro u g1 e hg hB; replace m:=m.newB e hg hB; clear e hg hB
 refine n_val (r_assign) (n_nil (k2 _ _ ?_))
 refine wp_ret ?_
 simp only [ev,zD,zE,zF,zG]
 try simp only [Exit.inBlock,Exit.then,if_true]
 refine fin1 rfl rfl ?_
 try simp only [zD,zE]
 exact ⟨_,rfl,m.ext,_,rfl,m.ge _ List.mem_cons_self _ rfl,(m.b 0 rfl)⟩
theorem sanity_c  : Pure Tryz.prog 11 [] (.bool true):=by
 intro w
 refine ⟨en_11,?_⟩
 have m:=Mem.refl w
 go_enter Tryz.func11,Tryz.ntmps11
 refine c_seq fun K1 k1=>wp_region_lit (n_val (r_assign) (n_nil (k1 _ _ ?_)))
 refine c_seq fun K2 k2=>wp_region_lit (n_val (r_build_23_0_1_2 rfl rfl rfl) (n_val (r_build_25_0_1_3_4 rfl rfl rfl rfl) ?_))
 simp only [ev,zD,zE,zF,zG]
 refine malloc m zero_25 rfl ?_
 clear m; intro g1 u m
 simp only [ev,zD,zE,zF,zG]
 refine mstoreA m 0 rfl rfl rfl cells_25 (leT rfl) rfl ?_
 clear m; intro u m; simp only [over,zH,zI,zJ,zK,zL,zM,zN,zO,zP,zF,zG,Nat.reduceAdd] at m
 refine n_nil (k2 _ _ ?_)
 refine c_seq fun K3 k3=>wp_region_lit (n_call rfl rfl (lifted_c (x:=0) (z:=9) _ (by decide) (by decide)) ?_)
 rintro v u e ⟨g2,rfl,hg,hB⟩; replace m:=m.newB e hg hB; clear e hg hB
 refine n_val (r_assign) (n_nil (k3 _ _ ?_))
 refine c_seq fun K4 k4=>wp_region_lit ?_
 simp only [ev,zD,zE,zF,zG]
 refine mcallP m rfl rfl (frac_9_2) ?_
 clear m; intro u m
 simp only [ev,zD,zE,zF,zG]
 refine malloc m zero_37 rfl ?_
 clear m; intro g3 u m
 simp only [ev,zD,zE,zF,zG]
 refine mstoreA m 0 rfl rfl rfl cells_37 (leT rfl) rfl ?_
 clear m; intro u m; simp only [over,zH,zI,zJ,zK,zL,zM,zN,zO,zP,zF,zG,Nat.reduceAdd] at m
 refine n_nil (k4 _ _ ?_)
 refine c_seq fun K5 k5=>wp_region_lit (mcallP m rfl rfl (frac_0_1) ?_)
 clear m; intro u m
 simp only [ev,zD,zE,zF,zG]
 refine malloc m zero_37 rfl ?_
 clear m; intro g4 u m
 simp only [ev,zD,zE,zF,zG]
 refine mstoreA m 0 rfl rfl rfl cells_37 (leT rfl) rfl ?_
 clear m; intro u m; simp only [over,zH,zI,zJ,zK,zL,zM,zN,zO,zP,zF,zG,Nat.reduceAdd] at m
 refine n_nil (k5 _ _ ?_)
 refine c_seq fun K6 k6=>wp_region_lit (n_load rfl ((m.b 1 rfl).full agg_37 cells_37) ?_)
 simp only [ev,zD,zE,zF,zG]
 refine n_load rfl ((m.b 1 rfl).full agg_37 cells_37) ?_
 simp only [ev,zD,zE,zF,zG]
 refine n_val (r_build_39_0_1_2 rfl rfl rfl) ?_
 simp only [ev,zD,zE,zF,zG]
 refine malloc m zero_39 rfl ?_
 clear m; intro g5 u m
 simp only [ev,zD,zE,zF,zG]
 refine mstoreA m 0 rfl rfl rfl cells_39 (leT rfl) rfl ?_
 clear m; intro u m; simp only [over,zH,zI,zJ,zK,zL,zM,zN,zO,zP,zF,zG,Nat.reduceAdd] at m
 refine n_nil (k6 _ _ ?_)
 refine c_seq fun K7 k7=>?_
 refine mflow m [fEq (rayV R0),fEq (.slice (some ⟨g2,0,none⟩) 1 1),fLists ([[liftT 0 9]]),fInts ([0]),fAns ((⟨1,(Rat.divInt 9 2),(Rat.divInt 9 2),false,[]⟩ : Ans)),fAns ((⟨1,(Rat.divInt 9 2),(Rat.divInt 9 2),false,[]⟩ : Ans)),fEq (.bool true),fEq (.bool true)] [20,21,22,23,24,25,26,6] [[],[],[1],[],[0,2,3],[],[4,5],[6]] follows_mixed (by kernel_rfl) ?_ ?_
 ·
  intro i hi
  match i,hi with
  | 0,_ =>
   clear m hi
   intro g ww Q' c hp hK
   simp only [setG_cons,setG_nil,zD,zE,zF,zG] at hK ⊢
   have m:=Mem.refl ww
   refine fl_op (by simp only [zS,zT,zU,zV]; rfl) ?_
   refine n_load rfl ((c.b 4 rfl).full agg_25 cells_25) ?_
   simp only [ev,zD,zE,zF,zG]
   refine n_nil ?_
   exact hK _ _ m.ext (rfl)
  | 1,_ =>
   clear m hi
   intro g ww Q' c hp hK
   simp only [setG_cons,setG_nil,zD,zE,zF,zG] at hK ⊢
   have m:=Mem.refl ww
   refine fl_op (by simp only [zS,zT,zU,zV]; rfl) ?_
   refine n_val (r_move) (n_nil ?_)
   simp only [ev,zD,zE,zF,zG]
   exact hK _ _ m.ext (rfl)
  | 2,_ =>
   clear m hi
   intro g ww Q' c hp hK
   simp only [setG_cons,setG_nil,zD,zE,zF,zG] at hK ⊢
   obtain q1 : g 21 = .slice (some ⟨g2,0,none⟩) 1 1:=hp 1 (by decide)
   simp only [q1] at hK ⊢
   have m:=Mem.refl ww
   refine fl_op (by simp only [zS,zT,zU,zV]; rfl) ?_
   refine n_build1 Tryz.underlying29 (z:=.slice none 0 0) (by kernel_rfl) rfl rfl rfl ?_
   intro u g6 e hg hB; replace m:=m.newB e hg hB; clear e hg hB
   refine n_nil ?_
   simp only [ev,zD,zE,zF,zG]
   exact hK _ _ m.ext (⟨_,_,_,rfl,lists_one (m.b 0 rfl) ((TrisAt.of_cells (ts:=[liftT 0 9]) (c.b 3 rfl) rfl rfl (lift_it (by decide) (by decide))).ext m.ext) (Nat.le_refl _)⟩)
  | 3,_ =>
   clear m hi
   intro g ww Q' c hp hK
   simp only [setG_cons,setG_nil,zD,zE,zF,zG] at hK ⊢
   have m:=Mem.refl ww
   refine fl_op (by simp only [zS,zT,zU,zV]; rfl) ?_
   refine n_build1 Tryz.underlying22 (z:=.int .i64 0) (by kernel_rfl) rfl rfl rfl ?_
   intro u g6 e hg hB; replace m:=m.newB e hg hB; clear e hg hB
   refine n_nil ?_
   simp only [ev,zD,zE,zF,zG]
   exact hK _ _ m.ext (⟨_,_,_,rfl,ints_blk (zs:=[0]) (m.b 0 rfl) rfl (i64_1 (by decide))⟩)
  | 4,_ =>
   clear m hi
   intro g ww Q' c hp hK
   simp only [setG_cons,setG_nil,zD,zE,zF,zG] at hK ⊢
   obtain q0 : g 20 = rayV R0:=hp 0 (by decide)
   obtain ⟨A2,N2,c2,q2,h2⟩ : ∃ A n c,g 22 = .slice A n c ∧ ListsAt ww A n ([[liftT 0 9]]):=hp 2 (by decide)
   obtain ⟨A3,N3,c3,q3,h3⟩ : ∃ A n c,g 23 = .slice A n c ∧ IntsAt ww A n ([0]):=hp 3 (by decide)
   simp only [q0,q2,q3] at hK ⊢
   have m:=Mem.refl ww
   refine fl_op (by simp only [zS,zT,zU,zV]; rfl) ?_
   refine mcall m rfl rfl (Ask_c (r:=R0) (xs:=[[liftT 0 9]]) (bs:=[0]) _ h2 h3 (by rw [← h2.len]; decide) (by decide) (by decide)) ?_
   clear m; rintro v u m hR
   refine n_nil ?_
   simp only [ev,zD,zE,zF,zG]
   rw [ask_0] at hR
   exact hK _ _ m.ext (ans_at hR (i64_nil))
  | 5,_ =>
   clear m hi
   intro g ww Q' c hp hK
   simp only [setG_cons,setG_nil,zD,zE,zF,zG] at hK ⊢
   have m:=Mem.refl ww
   refine fl_op (by simp only [zS,zT,zU,zV]; rfl) ?_
   refine n_load rfl ((c.b 0 rfl).full agg_39 cells_39) ?_
   simp only [ev,zD,zE,zF,zG]
   refine n_nil ?_
   exact hK _ _ m.ext (⟨none,0,0,rfl,ints_nil _⟩)
  | 6,_ =>
   clear m hi
   intro g ww Q' c hp hK
   simp only [setG_cons,setG_nil,zD,zE,zF,zG] at hK ⊢
   obtain ⟨A4,N4,c4,q4,h4⟩ : ∃ A n c,g 24 = ansV ((⟨1,(Rat.divInt 9 2),(Rat.divInt 9 2),false,[]⟩ : Ans)) A n c ∧ IntsAt ww A n ((⟨1,(Rat.divInt 9 2),(Rat.divInt 9 2),false,[]⟩ : Ans)).opn:=hp 4 (by decide)
   obtain ⟨A5,N5,c5,q5,h5⟩ : ∃ A n c,g 25 = ansV ((⟨1,(Rat.divInt 9 2),(Rat.divInt 9 2),false,[]⟩ : Ans)) A n c ∧ IntsAt ww A n ((⟨1,(Rat.divInt 9 2),(Rat.divInt 9 2),false,[]⟩ : Ans)).opn:=hp 5 (by decide)
   simp only [q4,q5] at hK ⊢
   have m:=Mem.refl ww
   refine fl_op (by simp only [zS,zT,zU,zV]; rfl) ?_
   refine mcall m rfl rfl (Same_c _ h4 h5 (by have:=h4.len; simp at this; omega)) ?_
   clear m; rintro v u m rfl
   refine n_nil ?_
   simp only [ev,zD,zE,zF,zG]
   exact hK _ _ m.ext (rfl)
  | 7,_ =>
   clear m hi
   intro g ww Q' c hp hK
   simp only [setG_cons,setG_nil,zD,zE,zF,zG] at hK ⊢
   obtain q6 : g 26 = .bool true:=hp 6 (by decide)
   simp only [q6] at hK ⊢
   have m:=Mem.refl ww
   refine fl_op (by simp only [zS,zT,zU,zV]; rfl) ?_
   refine n_val (r_assign) (n_nil ?_)
   simp only [ev,zD,zE,zF,zG]
   exact hK _ _ m.ext (rfl)
  | i + 8,h=>exact absurd h (by simp)
 clear m; intro g ww m hp
 simp only [setG_cons,setG_nil,zF,zG]
 obtain q7 : g 6 = .bool true:=hp 7 (by decide)
 simp only [q7]
 clear hp
 refine k7 _ _ ?_
 refine c_seq fun K8 k8=>?_
 refine mflow m [fEq (rayV R0),fEq (.slice (some ⟨g2,0,none⟩) 1 1),fLists ([[liftT 0 9]]),fInts ([1]),fAns ((⟨3,(Rat.divInt 4 1),(Rat.divInt 0 1),false,[0]⟩ : Ans)),fEq (Q (Rat.divInt 4 1)),fEq (Q (Rat.divInt 0 1)),fInts ([0]),fAns ((⟨3,(Rat.divInt 4 1),(Rat.divInt 0 1),false,[0]⟩ : Ans)),fEq (.bool true),fEq (.bool true)] [27,28,29,30,31,32,33,34,35,36,7] [[],[],[1],[],[0,2,3],[],[],[],[5,6,7],[4,8],[9]] follows_mixed (by kernel_rfl) ?_ ?_
 ·
  intro i hi
  match i,hi with
  | 0,_ =>
   clear m hi
   intro g ww Q' c hp hK
   simp only [setG_cons,setG_nil,zD,zE,zF,zG] at hK ⊢
   have m:=Mem.refl ww
   refine fl_op (by simp only [zS,zT,zU,zV]; rfl) ?_
   refine n_load rfl ((c.b 4 rfl).full agg_25 cells_25) ?_
   simp only [ev,zD,zE,zF,zG]
   refine n_nil ?_
   exact hK _ _ m.ext (rfl)
  | 1,_ =>
   clear m hi
   intro g ww Q' c hp hK
   simp only [setG_cons,setG_nil,zD,zE,zF,zG] at hK ⊢
   have m:=Mem.refl ww
   refine fl_op (by simp only [zS,zT,zU,zV]; rfl) ?_
   refine n_val (r_move) (n_nil ?_)
   simp only [ev,zD,zE,zF,zG]
   exact hK _ _ m.ext (rfl)
  | 2,_ =>
   clear m hi
   intro g ww Q' c hp hK
   simp only [setG_cons,setG_nil,zD,zE,zF,zG] at hK ⊢
   obtain q1 : g 28 = .slice (some ⟨g2,0,none⟩) 1 1:=hp 1 (by decide)
   simp only [q1] at hK ⊢
   have m:=Mem.refl ww
   refine fl_op (by simp only [zS,zT,zU,zV]; rfl) ?_
   refine n_build1 Tryz.underlying29 (z:=.slice none 0 0) (by kernel_rfl) rfl rfl rfl ?_
   intro u g6 e hg hB; replace m:=m.newB e hg hB; clear e hg hB
   refine n_nil ?_
   simp only [ev,zD,zE,zF,zG]
   exact hK _ _ m.ext (⟨_,_,_,rfl,lists_one (m.b 0 rfl) ((TrisAt.of_cells (ts:=[liftT 0 9]) (c.b 3 rfl) rfl rfl (lift_it (by decide) (by decide))).ext m.ext) (Nat.le_refl _)⟩)
  | 3,_ =>
   clear m hi
   intro g ww Q' c hp hK
   simp only [setG_cons,setG_nil,zD,zE,zF,zG] at hK ⊢
   have m:=Mem.refl ww
   refine fl_op (by simp only [zS,zT,zU,zV]; rfl) ?_
   refine n_build1 Tryz.underlying22 (z:=.int .i64 0) (by kernel_rfl) rfl rfl rfl ?_
   intro u g6 e hg hB; replace m:=m.newB e hg hB; clear e hg hB
   refine n_nil ?_
   simp only [ev,zD,zE,zF,zG]
   exact hK _ _ m.ext (⟨_,_,_,rfl,ints_blk (zs:=[1]) (m.b 0 rfl) rfl (i64_1 (by decide))⟩)
  | 4,_ =>
   clear m hi
   intro g ww Q' c hp hK
   simp only [setG_cons,setG_nil,zD,zE,zF,zG] at hK ⊢
   obtain q0 : g 27 = rayV R0:=hp 0 (by decide)
   obtain ⟨A2,N2,c2,q2,h2⟩ : ∃ A n c,g 29 = .slice A n c ∧ ListsAt ww A n ([[liftT 0 9]]):=hp 2 (by decide)
   obtain ⟨A3,N3,c3,q3,h3⟩ : ∃ A n c,g 30 = .slice A n c ∧ IntsAt ww A n ([1]):=hp 3 (by decide)
   simp only [q0,q2,q3] at hK ⊢
   have m:=Mem.refl ww
   refine fl_op (by simp only [zS,zT,zU,zV]; rfl) ?_
   refine mcall m rfl rfl (Ask_c (r:=R0) (xs:=[[liftT 0 9]]) (bs:=[1]) _ h2 h3 (by rw [← h2.len]; decide) (by decide) (by decide)) ?_
   clear m; rintro v u m hR
   refine n_nil ?_
   simp only [ev,zD,zE,zF,zG]
   rw [ask_1] at hR
   exact hK _ _ m.ext (ans_at hR (i64_1 (by decide)))
  | 5,_ =>
   clear m hi
   intro g ww Q' c hp hK
   simp only [setG_cons,setG_nil,zD,zE,zF,zG] at hK ⊢
   have m:=Mem.refl ww
   refine fl_op (by simp only [zS,zT,zU,zV]; rfl) ?_
   refine mcallP m rfl rfl (frac_4_1) ?_
   clear m; intro u m
   refine n_nil ?_
   simp only [ev,zD,zE,zF,zG]
   exact hK _ _ m.ext (rfl)
  | 6,_ =>
   clear m hi
   intro g ww Q' c hp hK
   simp only [setG_cons,setG_nil,zD,zE,zF,zG] at hK ⊢
   have m:=Mem.refl ww
   refine fl_op (by simp only [zS,zT,zU,zV]; rfl) ?_
   refine n_load rfl ((c.b 1 rfl).full agg_37 cells_37) ?_
   simp only [ev,zD,zE,zF,zG]
   refine n_nil ?_
   exact hK _ _ m.ext (rfl)
  | 7,_ =>
   clear m hi
   intro g ww Q' c hp hK
   simp only [setG_cons,setG_nil,zD,zE,zF,zG] at hK ⊢
   have m:=Mem.refl ww
   refine fl_op (by simp only [zS,zT,zU,zV]; rfl) ?_
   refine n_build1 Tryz.underlying22 (z:=.int .i64 0) (by kernel_rfl) rfl rfl rfl ?_
   intro u g6 e hg hB; replace m:=m.newB e hg hB; clear e hg hB
   refine n_nil ?_
   simp only [ev,zD,zE,zF,zG]
   exact hK _ _ m.ext (⟨_,_,_,rfl,ints_blk (zs:=[0]) (m.b 0 rfl) rfl (i64_1 (by decide))⟩)
  | 8,_ =>
   clear m hi
   intro g ww Q' c hp hK
   simp only [setG_cons,setG_nil,zD,zE,zF,zG] at hK ⊢
   obtain q5 : g 32 = Q (Rat.divInt 4 1):=hp 5 (by decide)
   obtain q6 : g 33 = Q (Rat.divInt 0 1):=hp 6 (by decide)
   obtain ⟨A7,N7,c7,q7,h7⟩ : ∃ A n c,g 34 = .slice A n c ∧ IntsAt ww A n ([0]):=hp 7 (by decide)
   simp only [q5,q6,q7] at hK ⊢
   have m:=Mem.refl ww
   refine fl_op (by simp only [zS,zT,zU,zV]; rfl) ?_
   refine n_val (r_build_39_0_1_2_4 rfl rfl rfl rfl) (n_nil ?_)
   simp only [ev,zD,zE,zF,zG]
   exact hK _ _ m.ext (⟨_,_,_,rfl,h7.ext m.ext⟩)
  | 9,_ =>
   clear m hi
   intro g ww Q' c hp hK
   simp only [setG_cons,setG_nil,zD,zE,zF,zG] at hK ⊢
   obtain ⟨A4,N4,c4,q4,h4⟩ : ∃ A n c,g 31 = ansV ((⟨3,(Rat.divInt 4 1),(Rat.divInt 0 1),false,[0]⟩ : Ans)) A n c ∧ IntsAt ww A n ((⟨3,(Rat.divInt 4 1),(Rat.divInt 0 1),false,[0]⟩ : Ans)).opn:=hp 4 (by decide)
   obtain ⟨A8,N8,c8,q8,h8⟩ : ∃ A n c,g 35 = ansV ((⟨3,(Rat.divInt 4 1),(Rat.divInt 0 1),false,[0]⟩ : Ans)) A n c ∧ IntsAt ww A n ((⟨3,(Rat.divInt 4 1),(Rat.divInt 0 1),false,[0]⟩ : Ans)).opn:=hp 8 (by decide)
   simp only [q4,q8] at hK ⊢
   have m:=Mem.refl ww
   refine fl_op (by simp only [zS,zT,zU,zV]; rfl) ?_
   refine mcall m rfl rfl (Same_c _ h4 h8 (by have:=h4.len; simp at this; omega)) ?_
   clear m; rintro v u m rfl
   refine n_nil ?_
   simp only [ev,zD,zE,zF,zG]
   exact hK _ _ m.ext (rfl)
  | 10,_ =>
   clear m hi
   intro g ww Q' c hp hK
   simp only [setG_cons,setG_nil,zD,zE,zF,zG] at hK ⊢
   obtain q9 : g 36 = .bool true:=hp 9 (by decide)
   simp only [q9] at hK ⊢
   have m:=Mem.refl ww
   refine fl_op (by simp only [zS,zT,zU,zV]; rfl) ?_
   refine n_val (r_assign) (n_nil ?_)
   simp only [ev,zD,zE,zF,zG]
   exact hK _ _ m.ext (rfl)
  | i + 11,h=>exact absurd h (by simp)
 clear m; intro g ww m hp
 simp only [setG_cons,setG_nil,zF,zG]
 obtain q10 : g 7 = .bool true:=hp 10 (by decide)
 simp only [q10]
 clear hp
 refine k8 _ _ ?_
 refine c_seq fun K9 k9=>?_
 refine mflow m [fEq (rayV R0),fEq (.slice (some ⟨g2,0,none⟩) 1 1),fTris ([liftT 0 5]),fLists ([[liftT 0 9],[liftT 0 5]]),fInts ([0,1]),fAns ((⟨3,(Rat.divInt 2 1),(Rat.divInt 9 2),true,[1]⟩ : Ans)),fEq (Q (Rat.divInt 2 1)),fEq (Q (Rat.divInt 9 2)),fInts ([1]),fAns ((⟨3,(Rat.divInt 2 1),(Rat.divInt 9 2),true,[1]⟩ : Ans)),fEq (.bool true),fEq (.bool true)] [37,38,39,40,41,42,43,44,45,46,47,8] [[],[],[],[1,2],[],[0,3,4],[],[],[],[6,7,8],[5,9],[10]] follows_mixed (by kernel_rfl) ?_ ?_
 ·
  intro i hi
  match i,hi with
  | 0,_ =>
   clear m hi
   intro g ww Q' c hp hK
   simp only [setG_cons,setG_nil,zD,zE,zF,zG] at hK ⊢
   have m:=Mem.refl ww
   refine fl_op (by simp only [zS,zT,zU,zV]; rfl) ?_
   refine n_load rfl ((c.b 4 rfl).full agg_25 cells_25) ?_
   simp only [ev,zD,zE,zF,zG]
   refine n_nil ?_
   exact hK _ _ m.ext (rfl)
  | 1,_ =>
   clear m hi
   intro g ww Q' c hp hK
   simp only [setG_cons,setG_nil,zD,zE,zF,zG] at hK ⊢
   have m:=Mem.refl ww
   refine fl_op (by simp only [zS,zT,zU,zV]; rfl) ?_
   refine n_val (r_move) (n_nil ?_)
   simp only [ev,zD,zE,zF,zG]
   exact hK _ _ m.ext (rfl)
  | 2,_ =>
   clear m hi
   intro g ww Q' c hp hK
   simp only [setG_cons,setG_nil,zD,zE,zF,zG] at hK ⊢
   have m:=Mem.refl ww
   refine fl_op (by simp only [zS,zT,zU,zV]; rfl) ?_
   refine n_call rfl rfl (lifted_c (x:=0) (z:=5) _ (by decide) (by decide)) ?_
   rintro v u e ⟨g6,rfl,hg,hB⟩; replace m:=m.newB e hg hB; clear e hg hB
   refine n_nil ?_
   simp only [ev,zD,zE,zF,zG]
   exact hK _ _ m.ext (⟨_,_,_,rfl,TrisAt.of_cells (m.b 0 rfl) rfl rfl (lift_it (by decide) (by decide)),Nat.le_refl _⟩)
  | 3,_ =>
   clear m hi
   intro g ww Q' c hp hK
   simp only [setG_cons,setG_nil,zD,zE,zF,zG] at hK ⊢
   obtain q1 : g 38 = .slice (some ⟨g2,0,none⟩) 1 1:=hp 1 (by decide)
   obtain ⟨A2,N2,c2,q2,h2,k2⟩ : ∃ A n c,g 39 = .slice A n c ∧ TrisAt ww A n ([liftT 0 5]) ∧ n ≤ c:=hp 2 (by decide)
   simp only [q1,q2] at hK ⊢
   have m:=Mem.refl ww
   refine fl_op (by simp only [zS,zT,zU,zV]; rfl) ?_
   refine n_build2 Tryz.underlying29 (z:=.slice none 0 0) (by kernel_rfl) rfl rfl rfl rfl rfl ?_
   intro u g6 e hg hB; replace m:=m.newB e hg hB; clear e hg hB
   refine n_nil ?_
   simp only [ev,zD,zE,zF,zG]
   exact hK _ _ m.ext (⟨_,_,_,rfl,lists_two (m.b 0 rfl) ((TrisAt.of_cells (ts:=[liftT 0 9]) (c.b 3 rfl) rfl rfl (lift_it (by decide) (by decide))).ext m.ext) (Nat.le_refl _) (h2.ext m.ext) k2⟩)
  | 4,_ =>
   clear m hi
   intro g ww Q' c hp hK
   simp only [setG_cons,setG_nil,zD,zE,zF,zG] at hK ⊢
   have m:=Mem.refl ww
   refine fl_op (by simp only [zS,zT,zU,zV]; rfl) ?_
   refine n_build2 Tryz.underlying22 (z:=.int .i64 0) (by kernel_rfl) rfl rfl rfl rfl rfl ?_
   intro u g6 e hg hB; replace m:=m.newB e hg hB; clear e hg hB
   refine n_nil ?_
   simp only [ev,zD,zE,zF,zG]
   exact hK _ _ m.ext (⟨_,_,_,rfl,ints_blk (zs:=[0,1]) (m.b 0 rfl) rfl (i64_2 (by decide) (by decide))⟩)
  | 5,_ =>
   clear m hi
   intro g ww Q' c hp hK
   simp only [setG_cons,setG_nil,zD,zE,zF,zG] at hK ⊢
   obtain q0 : g 37 = rayV R0:=hp 0 (by decide)
   obtain ⟨A3,N3,c3,q3,h3⟩ : ∃ A n c,g 40 = .slice A n c ∧ ListsAt ww A n ([[liftT 0 9],[liftT 0 5]]):=hp 3 (by decide)
   obtain ⟨A4,N4,c4,q4,h4⟩ : ∃ A n c,g 41 = .slice A n c ∧ IntsAt ww A n ([0,1]):=hp 4 (by decide)
   simp only [q0,q3,q4] at hK ⊢
   have m:=Mem.refl ww
   refine fl_op (by simp only [zS,zT,zU,zV]; rfl) ?_
   refine mcall m rfl rfl (Ask_c (r:=R0) (xs:=[[liftT 0 9],[liftT 0 5]]) (bs:=[0,1]) _ h3 h4 (by rw [← h3.len]; decide) (by decide) (by decide)) ?_
   clear m; rintro v u m hR
   refine n_nil ?_
   simp only [ev,zD,zE,zF,zG]
   rw [ask_2] at hR
   exact hK _ _ m.ext (ans_at hR (i64_1 (by decide)))
  | 6,_ =>
   clear m hi
   intro g ww Q' c hp hK
   simp only [setG_cons,setG_nil,zD,zE,zF,zG] at hK ⊢
   have m:=Mem.refl ww
   refine fl_op (by simp only [zS,zT,zU,zV]; rfl) ?_
   refine mcallP m rfl rfl (frac_2_1) ?_
   clear m; intro u m
   refine n_nil ?_
   simp only [ev,zD,zE,zF,zG]
   exact hK _ _ m.ext (rfl)
  | 7,_ =>
   clear m hi
   intro g ww Q' c hp hK
   simp only [setG_cons,setG_nil,zD,zE,zF,zG] at hK ⊢
   have m:=Mem.refl ww
   refine fl_op (by simp only [zS,zT,zU,zV]; rfl) ?_
   refine n_load rfl ((c.b 2 rfl).full agg_37 cells_37) ?_
   simp only [ev,zD,zE,zF,zG]
   refine n_nil ?_
   exact hK _ _ m.ext (rfl)
  | 8,_ =>
   clear m hi
   intro g ww Q' c hp hK
   simp only [setG_cons,setG_nil,zD,zE,zF,zG] at hK ⊢
   have m:=Mem.refl ww
   refine fl_op (by simp only [zS,zT,zU,zV]; rfl) ?_
   refine n_build1 Tryz.underlying22 (z:=.int .i64 0) (by kernel_rfl) rfl rfl rfl ?_
   intro u g6 e hg hB; replace m:=m.newB e hg hB; clear e hg hB
   refine n_nil ?_
   simp only [ev,zD,zE,zF,zG]
   exact hK _ _ m.ext (⟨_,_,_,rfl,ints_blk (zs:=[1]) (m.b 0 rfl) rfl (i64_1 (by decide))⟩)
  | 9,_ =>
   clear m hi
   intro g ww Q' c hp hK
   simp only [setG_cons,setG_nil,zD,zE,zF,zG] at hK ⊢
   obtain q6 : g 43 = Q (Rat.divInt 2 1):=hp 6 (by decide)
   obtain q7 : g 44 = Q (Rat.divInt 9 2):=hp 7 (by decide)
   obtain ⟨A8,N8,c8,q8,h8⟩ : ∃ A n c,g 45 = .slice A n c ∧ IntsAt ww A n ([1]):=hp 8 (by decide)
   simp only [q6,q7,q8] at hK ⊢
   have m:=Mem.refl ww
   refine fl_op (by simp only [zS,zT,zU,zV]; rfl) ?_
   refine n_val (r_build_39_0_1_2_3_4 rfl rfl rfl rfl rfl) (n_nil ?_)
   simp only [ev,zD,zE,zF,zG]
   exact hK _ _ m.ext (⟨_,_,_,rfl,h8.ext m.ext⟩)
  | 10,_ =>
   clear m hi
   intro g ww Q' c hp hK
   simp only [setG_cons,setG_nil,zD,zE,zF,zG] at hK ⊢
   obtain ⟨A5,N5,c5,q5,h5⟩ : ∃ A n c,g 42 = ansV ((⟨3,(Rat.divInt 2 1),(Rat.divInt 9 2),true,[1]⟩ : Ans)) A n c ∧ IntsAt ww A n ((⟨3,(Rat.divInt 2 1),(Rat.divInt 9 2),true,[1]⟩ : Ans)).opn:=hp 5 (by decide)
   obtain ⟨A9,N9,c9,q9,h9⟩ : ∃ A n c,g 46 = ansV ((⟨3,(Rat.divInt 2 1),(Rat.divInt 9 2),true,[1]⟩ : Ans)) A n c ∧ IntsAt ww A n ((⟨3,(Rat.divInt 2 1),(Rat.divInt 9 2),true,[1]⟩ : Ans)).opn:=hp 9 (by decide)
   simp only [q5,q9] at hK ⊢
   have m:=Mem.refl ww
   refine fl_op (by simp only [zS,zT,zU,zV]; rfl) ?_
   refine mcall m rfl rfl (Same_c _ h5 h9 (by have:=h5.len; simp at this; omega)) ?_
   clear m; rintro v u m rfl
   refine n_nil ?_
   simp only [ev,zD,zE,zF,zG]
   exact hK _ _ m.ext (rfl)
  | 11,_ =>
   clear m hi
   intro g ww Q' c hp hK
   simp only [setG_cons,setG_nil,zD,zE,zF,zG] at hK ⊢
   obtain q10 : g 47 = .bool true:=hp 10 (by decide)
   simp only [q10] at hK ⊢
   have m:=Mem.refl ww
   refine fl_op (by simp only [zS,zT,zU,zV]; rfl) ?_
   refine n_val (r_assign) (n_nil ?_)
   simp only [ev,zD,zE,zF,zG]
   exact hK _ _ m.ext (rfl)
  | i + 12,h=>exact absurd h (by simp)
 clear m; intro g ww m hp
 simp only [setG_cons,setG_nil,zF,zG]
 obtain q11 : g 8 = .bool true:=hp 11 (by decide)
 simp only [q11]
 clear hp
 refine k9 _ _ ?_
 refine c_seq fun K10 k10=>?_
 refine mflow m [fEq (rayV R0),fEq (.slice (some ⟨g2,0,none⟩) 1 1),fTris ([liftT 0 20]),fLists ([[liftT 0 9],[liftT 0 20]]),fInts ([0,1]),fAns ((⟨1,(Rat.divInt 9 2),(Rat.divInt 9 2),false,[]⟩ : Ans)),fAns ((⟨1,(Rat.divInt 9 2),(Rat.divInt 9 2),false,[]⟩ : Ans)),fEq (.bool true),fEq (.bool true)] [48,49,50,51,52,53,54,55,9] [[],[],[],[1,2],[],[0,3,4],[],[5,6],[7]] follows_mixed (by kernel_rfl) ?_ ?_
 ·
  intro i hi
  match i,hi with
  | 0,_ =>
   clear m hi
   intro g ww Q' c hp hK
   simp only [setG_cons,setG_nil,zD,zE,zF,zG] at hK ⊢
   have m:=Mem.refl ww
   refine fl_op (by simp only [zS,zT,zU,zV]; rfl) ?_
   refine n_load rfl ((c.b 4 rfl).full agg_25 cells_25) ?_
   simp only [ev,zD,zE,zF,zG]
   refine n_nil ?_
   exact hK _ _ m.ext (rfl)
  | 1,_ =>
   clear m hi
   intro g ww Q' c hp hK
   simp only [setG_cons,setG_nil,zD,zE,zF,zG] at hK ⊢
   have m:=Mem.refl ww
   refine fl_op (by simp only [zS,zT,zU,zV]; rfl) ?_
   refine n_val (r_move) (n_nil ?_)
   simp only [ev,zD,zE,zF,zG]
   exact hK _ _ m.ext (rfl)
  | 2,_ =>
   clear m hi
   intro g ww Q' c hp hK
   simp only [setG_cons,setG_nil,zD,zE,zF,zG] at hK ⊢
   have m:=Mem.refl ww
   refine fl_op (by simp only [zS,zT,zU,zV]; rfl) ?_
   refine n_call rfl rfl (lifted_c (x:=0) (z:=20) _ (by decide) (by decide)) ?_
   rintro v u e ⟨g6,rfl,hg,hB⟩; replace m:=m.newB e hg hB; clear e hg hB
   refine n_nil ?_
   simp only [ev,zD,zE,zF,zG]
   exact hK _ _ m.ext (⟨_,_,_,rfl,TrisAt.of_cells (m.b 0 rfl) rfl rfl (lift_it (by decide) (by decide)),Nat.le_refl _⟩)
  | 3,_ =>
   clear m hi
   intro g ww Q' c hp hK
   simp only [setG_cons,setG_nil,zD,zE,zF,zG] at hK ⊢
   obtain q1 : g 49 = .slice (some ⟨g2,0,none⟩) 1 1:=hp 1 (by decide)
   obtain ⟨A2,N2,c2,q2,h2,k2⟩ : ∃ A n c,g 50 = .slice A n c ∧ TrisAt ww A n ([liftT 0 20]) ∧ n ≤ c:=hp 2 (by decide)
   simp only [q1,q2] at hK ⊢
   have m:=Mem.refl ww
   refine fl_op (by simp only [zS,zT,zU,zV]; rfl) ?_
   refine n_build2 Tryz.underlying29 (z:=.slice none 0 0) (by kernel_rfl) rfl rfl rfl rfl rfl ?_
   intro u g6 e hg hB; replace m:=m.newB e hg hB; clear e hg hB
   refine n_nil ?_
   simp only [ev,zD,zE,zF,zG]
   exact hK _ _ m.ext (⟨_,_,_,rfl,lists_two (m.b 0 rfl) ((TrisAt.of_cells (ts:=[liftT 0 9]) (c.b 3 rfl) rfl rfl (lift_it (by decide) (by decide))).ext m.ext) (Nat.le_refl _) (h2.ext m.ext) k2⟩)
  | 4,_ =>
   clear m hi
   intro g ww Q' c hp hK
   simp only [setG_cons,setG_nil,zD,zE,zF,zG] at hK ⊢
   have m:=Mem.refl ww
   refine fl_op (by simp only [zS,zT,zU,zV]; rfl) ?_
   refine n_build2 Tryz.underlying22 (z:=.int .i64 0) (by kernel_rfl) rfl rfl rfl rfl rfl ?_
   intro u g6 e hg hB; replace m:=m.newB e hg hB; clear e hg hB
   refine n_nil ?_
   simp only [ev,zD,zE,zF,zG]
   exact hK _ _ m.ext (⟨_,_,_,rfl,ints_blk (zs:=[0,1]) (m.b 0 rfl) rfl (i64_2 (by decide) (by decide))⟩)
  | 5,_ =>
   clear m hi
   intro g ww Q' c hp hK
   simp only [setG_cons,setG_nil,zD,zE,zF,zG] at hK ⊢
   obtain q0 : g 48 = rayV R0:=hp 0 (by decide)
   obtain ⟨A3,N3,c3,q3,h3⟩ : ∃ A n c,g 51 = .slice A n c ∧ ListsAt ww A n ([[liftT 0 9],[liftT 0 20]]):=hp 3 (by decide)
   obtain ⟨A4,N4,c4,q4,h4⟩ : ∃ A n c,g 52 = .slice A n c ∧ IntsAt ww A n ([0,1]):=hp 4 (by decide)
   simp only [q0,q3,q4] at hK ⊢
   have m:=Mem.refl ww
   refine fl_op (by simp only [zS,zT,zU,zV]; rfl) ?_
   refine mcall m rfl rfl (Ask_c (r:=R0) (xs:=[[liftT 0 9],[liftT 0 20]]) (bs:=[0,1]) _ h3 h4 (by rw [← h3.len]; decide) (by decide) (by decide)) ?_
   clear m; rintro v u m hR
   refine n_nil ?_
   simp only [ev,zD,zE,zF,zG]
   rw [ask_3] at hR
   exact hK _ _ m.ext (ans_at hR (i64_nil))
  | 6,_ =>
   clear m hi
   intro g ww Q' c hp hK
   simp only [setG_cons,setG_nil,zD,zE,zF,zG] at hK ⊢
   have m:=Mem.refl ww
   refine fl_op (by simp only [zS,zT,zU,zV]; rfl) ?_
   refine n_load rfl ((c.b 0 rfl).full agg_39 cells_39) ?_
   simp only [ev,zD,zE,zF,zG]
   refine n_nil ?_
   exact hK _ _ m.ext (⟨none,0,0,rfl,ints_nil _⟩)
  | 7,_ =>
   clear m hi
   intro g ww Q' c hp hK
   simp only [setG_cons,setG_nil,zD,zE,zF,zG] at hK ⊢
   obtain ⟨A5,N5,c5,q5,h5⟩ : ∃ A n c,g 53 = ansV ((⟨1,(Rat.divInt 9 2),(Rat.divInt 9 2),false,[]⟩ : Ans)) A n c ∧ IntsAt ww A n ((⟨1,(Rat.divInt 9 2),(Rat.divInt 9 2),false,[]⟩ : Ans)).opn:=hp 5 (by decide)
   obtain ⟨A6,N6,c6,q6,h6⟩ : ∃ A n c,g 54 = ansV ((⟨1,(Rat.divInt 9 2),(Rat.divInt 9 2),false,[]⟩ : Ans)) A n c ∧ IntsAt ww A n ((⟨1,(Rat.divInt 9 2),(Rat.divInt 9 2),false,[]⟩ : Ans)).opn:=hp 6 (by decide)
   simp only [q5,q6] at hK ⊢
   have m:=Mem.refl ww
   refine fl_op (by simp only [zS,zT,zU,zV]; rfl) ?_
   refine mcall m rfl rfl (Same_c _ h5 h6 (by have:=h5.len; simp at this; omega)) ?_
   clear m; rintro v u m rfl
   refine n_nil ?_
   simp only [ev,zD,zE,zF,zG]
   exact hK _ _ m.ext (rfl)
  | 8,_ =>
   clear m hi
   intro g ww Q' c hp hK
   simp only [setG_cons,setG_nil,zD,zE,zF,zG] at hK ⊢
   obtain q7 : g 55 = .bool true:=hp 7 (by decide)
   simp only [q7] at hK ⊢
   have m:=Mem.refl ww
   refine fl_op (by simp only [zS,zT,zU,zV]; rfl) ?_
   refine n_val (r_assign) (n_nil ?_)
   simp only [ev,zD,zE,zF,zG]
   exact hK _ _ m.ext (rfl)
  | i + 9,h=>exact absurd h (by simp)
 clear m; intro g ww m hp
 simp only [setG_cons,setG_nil,zF,zG]
 obtain q8 : g 9 = .bool true:=hp 8 (by decide)
 simp only [q8]
 clear hp
 refine k10 _ _ ?_
 refine c_seq fun K11 k11=>?_
 refine mflow m [fEq (rayV R0),fEq (.slice (some ⟨g2,0,none⟩) 1 1),fLists ([[liftT 0 9],[]]),fInts ([0]),fAns ((⟨3,(Rat.divInt 0 1),(Rat.divInt 9 2),true,[1]⟩ : Ans)),fEq (Q (Rat.divInt 0 1)),fEq (Q (Rat.divInt 9 2)),fInts ([1]),fAns ((⟨3,(Rat.divInt 0 1),(Rat.divInt 9 2),true,[1]⟩ : Ans)),fEq (.bool true),fEq (.bool true)] [56,57,58,59,60,61,62,63,64,65,10] [[],[],[1],[],[0,2,3],[],[],[],[5,6,7],[4,8],[9]] follows_mixed (by kernel_rfl) ?_ ?_
 ·
  intro i hi
  match i,hi with
  | 0,_ =>
   clear m hi
   intro g ww Q' c hp hK
   simp only [setG_cons,setG_nil,zD,zE,zF,zG] at hK ⊢
   have m:=Mem.refl ww
   refine fl_op (by simp only [zS,zT,zU,zV]; rfl) ?_
   refine n_load rfl ((c.b 4 rfl).full agg_25 cells_25) ?_
   simp only [ev,zD,zE,zF,zG]
   refine n_nil ?_
   exact hK _ _ m.ext (rfl)
  | 1,_ =>
   clear m hi
   intro g ww Q' c hp hK
   simp only [setG_cons,setG_nil,zD,zE,zF,zG] at hK ⊢
   have m:=Mem.refl ww
   refine fl_op (by simp only [zS,zT,zU,zV]; rfl) ?_
   refine n_val (r_move) (n_nil ?_)
   simp only [ev,zD,zE,zF,zG]
   exact hK _ _ m.ext (rfl)
  | 2,_ =>
   clear m hi
   intro g ww Q' c hp hK
   simp only [setG_cons,setG_nil,zD,zE,zF,zG] at hK ⊢
   obtain q1 : g 57 = .slice (some ⟨g2,0,none⟩) 1 1:=hp 1 (by decide)
   simp only [q1] at hK ⊢
   have m:=Mem.refl ww
   refine fl_op (by simp only [zS,zT,zU,zV]; rfl) ?_
   refine n_build2 Tryz.underlying29 (z:=.slice none 0 0) (by kernel_rfl) rfl rfl rfl rfl rfl ?_
   intro u g6 e hg hB; replace m:=m.newB e hg hB; clear e hg hB
   refine n_nil ?_
   simp only [ev,zD,zE,zF,zG]
   exact hK _ _ m.ext (⟨_,_,_,rfl,lists_two (m.b 0 rfl) ((TrisAt.of_cells (ts:=[liftT 0 9]) (c.b 3 rfl) rfl rfl (lift_it (by decide) (by decide))).ext m.ext) (Nat.le_refl _) (TrisAt.nil _ _) (Nat.le_refl _)⟩)
  | 3,_ =>
   clear m hi
   intro g ww Q' c hp hK
   simp only [setG_cons,setG_nil,zD,zE,zF,zG] at hK ⊢
   have m:=Mem.refl ww
   refine fl_op (by simp only [zS,zT,zU,zV]; rfl) ?_
   refine n_build1 Tryz.underlying22 (z:=.int .i64 0) (by kernel_rfl) rfl rfl rfl ?_
   intro u g6 e hg hB; replace m:=m.newB e hg hB; clear e hg hB
   refine n_nil ?_
   simp only [ev,zD,zE,zF,zG]
   exact hK _ _ m.ext (⟨_,_,_,rfl,ints_blk (zs:=[0]) (m.b 0 rfl) rfl (i64_1 (by decide))⟩)
  | 4,_ =>
   clear m hi
   intro g ww Q' c hp hK
   simp only [setG_cons,setG_nil,zD,zE,zF,zG] at hK ⊢
   obtain q0 : g 56 = rayV R0:=hp 0 (by decide)
   obtain ⟨A2,N2,c2,q2,h2⟩ : ∃ A n c,g 58 = .slice A n c ∧ ListsAt ww A n ([[liftT 0 9],[]]):=hp 2 (by decide)
   obtain ⟨A3,N3,c3,q3,h3⟩ : ∃ A n c,g 59 = .slice A n c ∧ IntsAt ww A n ([0]):=hp 3 (by decide)
   simp only [q0,q2,q3] at hK ⊢
   have m:=Mem.refl ww
   refine fl_op (by simp only [zS,zT,zU,zV]; rfl) ?_
   refine mcall m rfl rfl (Ask_c (r:=R0) (xs:=[[liftT 0 9],[]]) (bs:=[0]) _ h2 h3 (by rw [← h2.len]; decide) (by decide) (by decide)) ?_
   clear m; rintro v u m hR
   refine n_nil ?_
   simp only [ev,zD,zE,zF,zG]
   rw [ask_4] at hR
   exact hK _ _ m.ext (ans_at hR (i64_1 (by decide)))
  | 5,_ =>
   clear m hi
   intro g ww Q' c hp hK
   simp only [setG_cons,setG_nil,zD,zE,zF,zG] at hK ⊢
   have m:=Mem.refl ww
   refine fl_op (by simp only [zS,zT,zU,zV]; rfl) ?_
   refine n_load rfl ((c.b 1 rfl).full agg_37 cells_37) ?_
   simp only [ev,zD,zE,zF,zG]
   refine n_nil ?_
   exact hK _ _ m.ext (rfl)
  | 6,_ =>
   clear m hi
   intro g ww Q' c hp hK
   simp only [setG_cons,setG_nil,zD,zE,zF,zG] at hK ⊢
   have m:=Mem.refl ww
   refine fl_op (by simp only [zS,zT,zU,zV]; rfl) ?_
   refine n_load rfl ((c.b 2 rfl).full agg_37 cells_37) ?_
   simp only [ev,zD,zE,zF,zG]
   refine n_nil ?_
   exact hK _ _ m.ext (rfl)
  | 7,_ =>
   clear m hi
   intro g ww Q' c hp hK
   simp only [setG_cons,setG_nil,zD,zE,zF,zG] at hK ⊢
   have m:=Mem.refl ww
   refine fl_op (by simp only [zS,zT,zU,zV]; rfl) ?_
   refine n_build1 Tryz.underlying22 (z:=.int .i64 0) (by kernel_rfl) rfl rfl rfl ?_
   intro u g6 e hg hB; replace m:=m.newB e hg hB; clear e hg hB
   refine n_nil ?_
   simp only [ev,zD,zE,zF,zG]
   exact hK _ _ m.ext (⟨_,_,_,rfl,ints_blk (zs:=[1]) (m.b 0 rfl) rfl (i64_1 (by decide))⟩)
  | 8,_ =>
   clear m hi
   intro g ww Q' c hp hK
   simp only [setG_cons,setG_nil,zD,zE,zF,zG] at hK ⊢
   obtain q5 : g 61 = Q (Rat.divInt 0 1):=hp 5 (by decide)
   obtain q6 : g 62 = Q (Rat.divInt 9 2):=hp 6 (by decide)
   obtain ⟨A7,N7,c7,q7,h7⟩ : ∃ A n c,g 63 = .slice A n c ∧ IntsAt ww A n ([1]):=hp 7 (by decide)
   simp only [q5,q6,q7] at hK ⊢
   have m:=Mem.refl ww
   refine fl_op (by simp only [zS,zT,zU,zV]; rfl) ?_
   refine n_val (r_build_39_0_1_2_3_4 rfl rfl rfl rfl rfl) (n_nil ?_)
   simp only [ev,zD,zE,zF,zG]
   exact hK _ _ m.ext (⟨_,_,_,rfl,h7.ext m.ext⟩)
  | 9,_ =>
   clear m hi
   intro g ww Q' c hp hK
   simp only [setG_cons,setG_nil,zD,zE,zF,zG] at hK ⊢
   obtain ⟨A4,N4,c4,q4,h4⟩ : ∃ A n c,g 60 = ansV ((⟨3,(Rat.divInt 0 1),(Rat.divInt 9 2),true,[1]⟩ : Ans)) A n c ∧ IntsAt ww A n ((⟨3,(Rat.divInt 0 1),(Rat.divInt 9 2),true,[1]⟩ : Ans)).opn:=hp 4 (by decide)
   obtain ⟨A8,N8,c8,q8,h8⟩ : ∃ A n c,g 64 = ansV ((⟨3,(Rat.divInt 0 1),(Rat.divInt 9 2),true,[1]⟩ : Ans)) A n c ∧ IntsAt ww A n ((⟨3,(Rat.divInt 0 1),(Rat.divInt 9 2),true,[1]⟩ : Ans)).opn:=hp 8 (by decide)
   simp only [q4,q8] at hK ⊢
   have m:=Mem.refl ww
   refine fl_op (by simp only [zS,zT,zU,zV]; rfl) ?_
   refine mcall m rfl rfl (Same_c _ h4 h8 (by have:=h4.len; simp at this; omega)) ?_
   clear m; rintro v u m rfl
   refine n_nil ?_
   simp only [ev,zD,zE,zF,zG]
   exact hK _ _ m.ext (rfl)
  | 10,_ =>
   clear m hi
   intro g ww Q' c hp hK
   simp only [setG_cons,setG_nil,zD,zE,zF,zG] at hK ⊢
   obtain q9 : g 65 = .bool true:=hp 9 (by decide)
   simp only [q9] at hK ⊢
   have m:=Mem.refl ww
   refine fl_op (by simp only [zS,zT,zU,zV]; rfl) ?_
   refine n_val (r_assign) (n_nil ?_)
   simp only [ev,zD,zE,zF,zG]
   exact hK _ _ m.ext (rfl)
  | i + 11,h=>exact absurd h (by simp)
 clear m; intro g ww m hp
 simp only [setG_cons,setG_nil,zF,zG]
 obtain q10 : g 10 = .bool true:=hp 10 (by decide)
 simp only [q10]
 clear hp
 refine k11 _ _ ?_
 refine c_seq fun K12 k12=>?_
 refine mflow m [fEq (rayV R0),fTris ([liftT 9 9]),fLists ([[liftT 9 9]]),fInts ([1]),fAns ((⟨2,(Rat.divInt 0 1),(Rat.divInt 0 1),false,[]⟩ : Ans)),fEq (Q (Rat.divInt 0 1)),fEq (Q (Rat.divInt 0 1)),fAns ((⟨2,(Rat.divInt 0 1),(Rat.divInt 0 1),false,[]⟩ : Ans)),fEq (.bool true),fEq (.bool true)] [66,67,68,69,70,71,72,73,74,11] [[],[],[1],[],[0,2,3],[],[],[5,6],[4,7],[8]] follows_mixed (by kernel_rfl) ?_ ?_
 ·
  intro i hi
  match i,hi with
  | 0,_ =>
   clear m hi
   intro g ww Q' c hp hK
   simp only [setG_cons,setG_nil,zD,zE,zF,zG] at hK ⊢
   have m:=Mem.refl ww
   refine fl_op (by simp only [zS,zT,zU,zV]; rfl) ?_
   refine n_load rfl ((c.b 4 rfl).full agg_25 cells_25) ?_
   simp only [ev,zD,zE,zF,zG]
   refine n_nil ?_
   exact hK _ _ m.ext (rfl)
  | 1,_ =>
   clear m hi
   intro g ww Q' c hp hK
   simp only [setG_cons,setG_nil,zD,zE,zF,zG] at hK ⊢
   have m:=Mem.refl ww
   refine fl_op (by simp only [zS,zT,zU,zV]; rfl) ?_
   refine n_call rfl rfl (lifted_c (x:=9) (z:=9) _ (by decide) (by decide)) ?_
   rintro v u e ⟨g6,rfl,hg,hB⟩; replace m:=m.newB e hg hB; clear e hg hB
   refine n_nil ?_
   simp only [ev,zD,zE,zF,zG]
   exact hK _ _ m.ext (⟨_,_,_,rfl,TrisAt.of_cells (m.b 0 rfl) rfl rfl (lift_it (by decide) (by decide)),Nat.le_refl _⟩)
  | 2,_ =>
   clear m hi
   intro g ww Q' c hp hK
   simp only [setG_cons,setG_nil,zD,zE,zF,zG] at hK ⊢
   obtain ⟨A1,N1,c1,q1,h1,k1⟩ : ∃ A n c,g 67 = .slice A n c ∧ TrisAt ww A n ([liftT 9 9]) ∧ n ≤ c:=hp 1 (by decide)
   simp only [q1] at hK ⊢
   have m:=Mem.refl ww
   refine fl_op (by simp only [zS,zT,zU,zV]; rfl) ?_
   refine n_build1 Tryz.underlying29 (z:=.slice none 0 0) (by kernel_rfl) rfl rfl rfl ?_
   intro u g6 e hg hB; replace m:=m.newB e hg hB; clear e hg hB
   refine n_nil ?_
   simp only [ev,zD,zE,zF,zG]
   exact hK _ _ m.ext (⟨_,_,_,rfl,lists_one (m.b 0 rfl) (h1.ext m.ext) k1⟩)
  | 3,_ =>
   clear m hi
   intro g ww Q' c hp hK
   simp only [setG_cons,setG_nil,zD,zE,zF,zG] at hK ⊢
   have m:=Mem.refl ww
   refine fl_op (by simp only [zS,zT,zU,zV]; rfl) ?_
   refine n_build1 Tryz.underlying22 (z:=.int .i64 0) (by kernel_rfl) rfl rfl rfl ?_
   intro u g6 e hg hB; replace m:=m.newB e hg hB; clear e hg hB
   refine n_nil ?_
   simp only [ev,zD,zE,zF,zG]
   exact hK _ _ m.ext (⟨_,_,_,rfl,ints_blk (zs:=[1]) (m.b 0 rfl) rfl (i64_1 (by decide))⟩)
  | 4,_ =>
   clear m hi
   intro g ww Q' c hp hK
   simp only [setG_cons,setG_nil,zD,zE,zF,zG] at hK ⊢
   obtain q0 : g 66 = rayV R0:=hp 0 (by decide)
   obtain ⟨A2,N2,c2,q2,h2⟩ : ∃ A n c,g 68 = .slice A n c ∧ ListsAt ww A n ([[liftT 9 9]]):=hp 2 (by decide)
   obtain ⟨A3,N3,c3,q3,h3⟩ : ∃ A n c,g 69 = .slice A n c ∧ IntsAt ww A n ([1]):=hp 3 (by decide)
   simp only [q0,q2,q3] at hK ⊢
   have m:=Mem.refl ww
   refine fl_op (by simp only [zS,zT,zU,zV]; rfl) ?_
   refine mcall m rfl rfl (Ask_c (r:=R0) (xs:=[[liftT 9 9]]) (bs:=[1]) _ h2 h3 (by rw [← h2.len]; decide) (by decide) (by decide)) ?_
   clear m; rintro v u m hR
   refine n_nil ?_
   simp only [ev,zD,zE,zF,zG]
   rw [ask_5] at hR
   exact hK _ _ m.ext (ans_at hR (i64_nil))
  | 5,_ =>
   clear m hi
   intro g ww Q' c hp hK
   simp only [setG_cons,setG_nil,zD,zE,zF,zG] at hK ⊢
   have m:=Mem.refl ww
   refine fl_op (by simp only [zS,zT,zU,zV]; rfl) ?_
   refine n_load rfl ((c.b 1 rfl).full agg_37 cells_37) ?_
   simp only [ev,zD,zE,zF,zG]
   refine n_nil ?_
   exact hK _ _ m.ext (rfl)
  | 6,_ =>
   clear m hi
   intro g ww Q' c hp hK
   simp only [setG_cons,setG_nil,zD,zE,zF,zG] at hK ⊢
   have m:=Mem.refl ww
   refine fl_op (by simp only [zS,zT,zU,zV]; rfl) ?_
   refine n_load rfl ((c.b 1 rfl).full agg_37 cells_37) ?_
   simp only [ev,zD,zE,zF,zG]
   refine n_nil ?_
   exact hK _ _ m.ext (rfl)
  | 7,_ =>
   clear m hi
   intro g ww Q' c hp hK
   simp only [setG_cons,setG_nil,zD,zE,zF,zG] at hK ⊢
   obtain q5 : g 71 = Q (Rat.divInt 0 1):=hp 5 (by decide)
   obtain q6 : g 72 = Q (Rat.divInt 0 1):=hp 6 (by decide)
   simp only [q5,q6] at hK ⊢
   have m:=Mem.refl ww
   refine fl_op (by simp only [zS,zT,zU,zV]; rfl) ?_
   refine n_val (r_build_39_0_1_2 rfl rfl rfl) (n_nil ?_)
   simp only [ev,zD,zE,zF,zG]
   exact hK _ _ m.ext (⟨none,0,0,rfl,ints_nil _⟩)
  | 8,_ =>
   clear m hi
   intro g ww Q' c hp hK
   simp only [setG_cons,setG_nil,zD,zE,zF,zG] at hK ⊢
   obtain ⟨A4,N4,c4,q4,h4⟩ : ∃ A n c,g 70 = ansV ((⟨2,(Rat.divInt 0 1),(Rat.divInt 0 1),false,[]⟩ : Ans)) A n c ∧ IntsAt ww A n ((⟨2,(Rat.divInt 0 1),(Rat.divInt 0 1),false,[]⟩ : Ans)).opn:=hp 4 (by decide)
   obtain ⟨A7,N7,c7,q7,h7⟩ : ∃ A n c,g 73 = ansV ((⟨2,(Rat.divInt 0 1),(Rat.divInt 0 1),false,[]⟩ : Ans)) A n c ∧ IntsAt ww A n ((⟨2,(Rat.divInt 0 1),(Rat.divInt 0 1),false,[]⟩ : Ans)).opn:=hp 7 (by decide)
   simp only [q4,q7] at hK ⊢
   have m:=Mem.refl ww
   refine fl_op (by simp only [zS,zT,zU,zV]; rfl) ?_
   refine mcall m rfl rfl (Same_c _ h4 h7 (by have:=h4.len; simp at this; omega)) ?_
   clear m; rintro v u m rfl
   refine n_nil ?_
   simp only [ev,zD,zE,zF,zG]
   exact hK _ _ m.ext (rfl)
  | 9,_ =>
   clear m hi
   intro g ww Q' c hp hK
   simp only [setG_cons,setG_nil,zD,zE,zF,zG] at hK ⊢
   obtain q8 : g 74 = .bool true:=hp 8 (by decide)
   simp only [q8] at hK ⊢
   have m:=Mem.refl ww
   refine fl_op (by simp only [zS,zT,zU,zV]; rfl) ?_
   refine n_val (r_assign) (n_nil ?_)
   simp only [ev,zD,zE,zF,zG]
   exact hK _ _ m.ext (rfl)
  | i + 10,h=>exact absurd h (by simp)
 clear m; intro g ww m hp
 simp only [setG_cons,setG_nil,zF,zG]
 obtain q9 : g 11 = .bool true:=hp 9 (by decide)
 simp only [q9]
 clear hp
 refine k12 _ _ ?_
 refine c_seq fun K13 k13=>wp_region_lit (n_val (r_move) (n_val (r_move) (n_want rfl (n_val (r_move) (n_val (r_pickT rfl) ?_)))))
 simp only [ev,zD,zE,zF,zG]
 refine n_val (r_move) (n_want rfl (n_val (r_move) (n_val (r_pickT rfl) (n_val (r_move) ?_))))
 simp only [ev,zD,zE,zF,zG]
 refine n_want rfl (n_val (r_move) (n_val (r_pickT rfl) (n_val (r_move) (n_want rfl (n_val (r_move) ?_)))))
 simp only [ev,zD,zE,zF,zG]
 refine n_val (r_pickT rfl) (n_val (r_move) (n_want rfl (n_val (r_move) (n_val (r_pickT rfl) ?_))))
 simp only [ev,zD,zE,zF,zG]
 refine n_val (r_assign) (n_nil (k13 _ _ ?_))
 refine wp_ret ?_
 simp only [ev,zD,zE,zF,zG]
 try simp only [Exit.inBlock,Exit.then,if_true]
 refine fin1 rfl rfl ?_
 try simp only [zD,zE]
 exact ⟨_,rfl,m.ext,rfl⟩
end Go.Proofs.YtimjandkmfcmiaaGreatDoor
namespace Go.Proofs.YtimjandkmfcmiaaGreatDoor
open Go.RowKit Go.Lith
set_option maxRecDepth 100000
attribute [local irreducible] wpList wpQuiet wpMix wpMixH wpTree Code.wp
theorem r4Mod_c {n k : Int} [Iw n] (h0 : 0 < k) (h1 : k < 4611686018427387904) : Pure Tryz.prog 91 [.int .i64 n,.int .i64 k] (.int .i64 (n % k)):=by
 intro w
 refine ⟨en_91,?_⟩
 have m:=Mem.refl w
 have hb:=tm_bd (n:=n) h0
 go_enter Tryz.func91,Tryz.ntmps91
 refine c_seq fun K1 k1=>wp_region_lit (n_val (r_assign) (n_nil (k1 _ _ ?_)))
 refine c_seq fun K2 k2=>wp_region_lit (n_val (r_move) (n_val (r_move) ?_))
 simp only [ev,zD,zE,zF,zG]
 refine n_val (r_rem rfl rfl (by omega) rfl) (n_val (r_move) ?_)
 simp only [ev,zD,zE,zF,zG]
 refine n_val (r_add rfl rfl (wrap_i64 (by omega) (by omega))) (n_val (r_move) ?_)
 simp only [ev,zD,zE,zF,zG]
 refine n_val (r_rem rfl rfl (by omega) (mod_law h0)) (n_val (r_assign) (n_nil (k2 _ _ ?_)))
 refine wp_ret ?_
 simp only [ev,zD,zE,zF,zG]
 try simp only [Exit.inBlock,Exit.then,if_true]
 refine fin1 rfl rfl ?_
 try simp only [zD,zE]
 exact ⟨_,rfl,m.ext,rfl⟩
theorem r1Mod_c {n k : Int} [Iw n] (h0 : 0 < k) (h1 : k < 4611686018427387904) : Pure Tryz.prog 21 [.int .i64 n,.int .i64 k] (.int .i64 (n % k)):=by
 intro w
 refine ⟨en_21,?_⟩
 have m:=Mem.refl w
 have hb:=tm_bd (n:=n) h0
 go_enter Tryz.func21,Tryz.ntmps21
 refine c_seq fun K1 k1=>wp_region_lit (n_val (r_assign) (n_nil (k1 _ _ ?_)))
 refine c_seq fun K2 k2=>wp_region_lit (n_val (r_move) (n_val (r_move) ?_))
 simp only [ev,zD,zE,zF,zG]
 refine n_val (r_rem rfl rfl (by omega) rfl) (n_val (r_move) ?_)
 simp only [ev,zD,zE,zF,zG]
 refine n_val (r_add rfl rfl (wrap_i64 (by omega) (by omega))) (n_val (r_move) ?_)
 simp only [ev,zD,zE,zF,zG]
 refine n_val (r_rem rfl rfl (by omega) (mod_law h0)) (n_val (r_assign) (n_nil (k2 _ _ ?_)))
 refine wp_ret ?_
 simp only [ev,zD,zE,zF,zG]
 try simp only [Exit.inBlock,Exit.then,if_true]
 refine fin1 rfl rfl ?_
 try simp only [zD,zE]
 exact ⟨_,rfl,m.ext,rfl⟩
theorem hill_c {x y N cap : Nat} {A : Option Addr} {zs : List Int} (w : World) (hZ : IntsAt w A N zs) (hx : x ≤ 6) (hy : y ≤ 6) : Does Tryz.prog 92 [.int .i64 (x : Int),.int .i64 (y : Int),.int .i64 10,.slice A N cap] w (fun v _=>v = pt (hillP 10 zs x y)):=by
 refine ⟨en_92,?_⟩
 have m:=Mem.refl w
 go_enter Tryz.func92,Tryz.ntmps92
 refine c_seq fun K1 k1=>wp_region_lit (malloc m zero_56 rfl ?_)
 clear m; intro g1 u m
 refine n_nil (k1 _ _ ?_)
 refine c_seq fun K2 k2=>wp_region_lit (n_val (r_assign) (n_nil (k2 _ _ ?_)))
 refine c_seq fun K3 k3=>c_seq fun K4 k4=>wp_region_lit (n_val (r_move) (n_val (r_lenS rfl Tryz.underlying22 rfl) ?_))
 simp only [ev,zD,zE,zF,zG]
 refine n_val (r_gtr rfl rfl) (n_nil (k4 _ _ ?_))
 simp only [ev,zD,zE,zF,zG]
 refine c_if rfl (fun hc1=>?_) (fun hc1=>?_)
 ·
  have hi : (y * 7 + x) % N < N:=Nat.mod_lt _ (by omega)
  obtain ⟨z,hz,hzI,a,rfl,hcell⟩:=hZ.get hi
  have hz6:=emod_bd (n:=z) (m:=64) (by decide)
  refine wp_region_lit (n_val (r_move) (n_val (r_move) ?_))
  simp only [ev,zD,zE,zF,zG]
  refine n_val (r_mul rfl rfl (wrap_i64 (by omega) (by omega))) (n_val (r_move) ?_)
  simp only [ev,zD,zE,zF,zG]
  refine n_val (r_add rfl rfl (wrap_i64 (by omega) (by omega))) (n_val (r_move) (n_val (r_lenS rfl Tryz.underlying22 rfl) ?_))
  simp only [ev,zD,zE,zF,zG]
  refine n_val (r_rem rfl rfl (by omega) (tmodN (k:=y * 7 + x))) (n_val (r_indexAddrS Tryz.underlying22 cells_3 rfl rfl (Int.natCast_nonneg _) (Int.ofNat_lt.2 hi) (addr1 (Int.toNat_natCast _))) ?_)
  simp only [ev,zD,zE,zF,zG]
  refine n_load rfl (lies1 (m.ext.cell hcell) agg_3) ?_
  simp only [ev,zD,zE,zF,zG]
  refine mcallP m rfl rfl (r4Mod_c (n:=z) (k:=64) (by decide) (by decide)) ?_
  clear m; intro u m
  refine n_val (r_assign) (n_nil (k3 _ _ ?_))
  refine c_seq fun K5 k5=>wp_region_lit (n_val (r_move) (n_val (r_move) ?_))
  simp only [ev,zD,zE,zF,zG]
  refine n_val (r_mul rfl rfl (wrap_i64 (by omega) (by omega))) (n_val (r_move) (n_val (r_move) ?_))
  simp only [ev,zD,zE,zF,zG]
  refine n_val (r_mul rfl rfl (wrap_i64 (by omega) (by omega))) (n_val (r_move) ?_)
  simp only [ev,zD,zE,zF,zG]
  refine n_val (r_add rfl rfl (wrap_i64 (by omega) (by omega))) (n_val (r_build_56_0_1_2 rfl rfl rfl) ?_)
  simp only [ev,zD,zE,zF,zG]
  refine mstoreA m 0 rfl rfl rfl cells_56 (leT rfl) rfl ?_
  clear m; intro u m; simp only [over,zH,zI,zJ,zK,zL,zM,zN,zO,zP,zF,zG,Nat.reduceAdd] at m
  refine n_nil (k5 _ _ ?_)
  refine wp_ret ?_
  try simp only [Exit.inBlock,Exit.then,if_true]
  refine fin1 rfl ⟨_,rfl,((m.b 0 rfl).full agg_56 cells_56)⟩ ?_
  try simp only [zD,zE]
  exact ⟨_,rfl,m.ext,by simp only [pt,hillP,hgt_some hZ.len hz]⟩
 ·
  refine wp_skip (k3 _ _ ?_)
  refine c_seq fun K6 k6=>wp_region_lit (n_val (r_move) (n_val (r_move) ?_))
  simp only [ev,zD,zE,zF,zG]
  refine n_val (r_mul rfl rfl (wrap_i64 (by omega) (by omega))) (n_val (r_move) (n_val (r_move) ?_))
  simp only [ev,zD,zE,zF,zG]
  refine n_val (r_mul rfl rfl (wrap_i64 (by omega) (by omega))) (n_val (r_move) (n_val (r_add (m:=100) (n:=0) (r:=100) rfl rfl (by decide)) (n_val (r_build_56_0_1_2 rfl rfl rfl) ?_)))
  simp only [ev,zD,zE,zF,zG]
  refine mstoreA m 0 rfl rfl rfl cells_56 (leT rfl) rfl ?_
  clear m; intro u m; simp only [over,zH,zI,zJ,zK,zL,zM,zN,zO,zP,zF,zG,Nat.reduceAdd] at m
  refine n_nil (k6 _ _ ?_)
  refine wp_ret ?_
  try simp only [Exit.inBlock,Exit.then,if_true]
  refine fin1 rfl ⟨_,rfl,((m.b 0 rfl).full agg_56 cells_56)⟩ ?_
  try simp only [zD,zE]
  exact ⟨_,rfl,m.ext,by simp [pt,hillP,hgt_nil hZ.len hc1]⟩
theorem quad_c {a b c d : P3} (w : World) : Does Tryz.prog 93 [pt a,pt b,pt c,pt d] w (TS 58 (quadT a b c d) w):=by
 refine ⟨en_93,?_⟩
 have m:=Mem.refl w
 go_enter Tryz.func93,Tryz.ntmps93
 refine c_seq fun K1 k1=>wp_region_lit (mboxA m rfl ?_)
 clear m; intro g1 u m
 simp only [ev,zD,zE,zF,zG]
 refine mboxA m rfl ?_
 clear m; intro g2 u m
 simp only [ev,zD,zE,zF,zG]
 refine mboxA m rfl ?_
 clear m; intro g3 u m
 simp only [ev,zD,zE,zF,zG]
 refine mboxA m rfl ?_
 clear m; intro g4 u m
 refine n_val (r_assign) (n_nil (k1 _ _ ?_))
 refine c_seq fun K2 k2=>wp_region_lit ?_
 simp only [ev,zD,zE,zF,zG]
 refine n_load rfl ((m.b 3 rfl).full agg_56 cells_56) ?_
 simp only [ev,zD,zE,zF,zG]
 refine n_load rfl ((m.b 2 rfl).full agg_56 cells_56) ?_
 simp only [ev,zD,zE,zF,zG]
 refine n_load rfl ((m.b 1 rfl).full agg_56 cells_56) ?_
 simp only [ev,zD,zE,zF,zG]
 refine n_val (r_build_58_0_1_2 rfl rfl rfl) ?_
 simp only [ev,zD,zE,zF,zG]
 refine n_load rfl ((m.b 3 rfl).full agg_56 cells_56) ?_
 simp only [ev,zD,zE,zF,zG]
 refine n_load rfl ((m.b 1 rfl).full agg_56 cells_56) ?_
 simp only [ev,zD,zE,zF,zG]
 refine n_load rfl ((m.b 0 rfl).full agg_56 cells_56) ?_
 simp only [ev,zD,zE,zF,zG]
 refine n_val (r_build_58_0_1_2 rfl rfl rfl) ?_
 simp only [ev,zD,zE,zF,zG]
 refine n_bs_48_2 rfl rfl ?_
 intro u g5 e hg hB; replace m:=m.newB e hg hB; clear e hg hB
 refine n_val (r_assign) (n_nil (k2 _ _ ?_))
 refine wp_ret ?_
 simp only [ev,zD,zE,zF,zG]
 try simp only [Exit.inBlock,Exit.then,if_true]
 refine fin1 rfl rfl ?_
 try simp only [zD,zE]
 exact ⟨_,rfl,m.ext,⟨_,_,_,rfl,rfl,m.bo 0 rfl rfl (leT rfl)⟩⟩
theorem Hills_c {n0 : Int} [Iw n0] {N cap : Nat} {A : Option Addr} {zs : List Int} (w : World) (hZ : IntsAt w A N zs) : Does Tryz.prog 54 [.int .i64 n0,.int .i64 10,.slice A N cap] w (TS 58 (hillsT 10 zs (1 + n0 % 6).toNat) w):=by
 refine ⟨en_54,?_⟩
 have m:=Mem.refl w
 have hb:=emod_bd (n:=n0) (m:=6) (by decide)
 obtain ⟨q,hq⟩ : ∃ q : Nat,q = (1 + n0 % 6).toNat:=⟨_,rfl⟩
 rw [← hq]
 have hq2 : 1 + n0 % 6 = (q : Int):=by omega
 go_enter Tryz.func54,Tryz.ntmps54
 refine c_seq fun K1 k1=>wp_region_lit (n_val (r_assign) (n_nil (k1 _ _ ?_)))
 refine c_seq fun K2 k2=>wp_region_lit (n_val (r_move) ?_)
 simp only [ev,zD,zE,zF,zG]
 refine mcallP m rfl rfl (r4Mod_c (n:=n0) (k:=6) (by decide) (by decide)) ?_
 clear m; intro u m
 simp only [ev,zD,zE,zF,zG]
 refine n_val (r_add rfl rfl (wrap_i64 (by omega) (by omega))) (n_val (r_assign) (n_nil ?_))
 simp only [ev,zD,zE,zF,zG]
 rw [hq2]
 refine k2 _ _ ?_
 refine c_seq fun K3 k3=>wp_region_lit (n_val (r_assign) ?_)
 replace m:=m.nilO 58 9
 refine n_nil (k3 _ _ ?_)
 refine c_seq fun K4 k4=>c_seq fun K5 k5=>wp_region_lit (n_val (r_assign) (n_nil (k5 _ _ ?_)))
 refine wp_block ?_
 simp only [ev,zD,zE,zF,zG]
 try simp only [Nat.zero_add,Nat.reduceAdd,Nat.reduceMul,Int.reduceToNat]
 refine c_loopg [7,8] [9,10,11,12,13,17,18,19,20,21,22,23,24,25,26,27,28,29,30,31,32,33,34,35,36,37,38,39,40,41,42,43,44,45,46,47,48,49,50,51,52,53,54,55,56,57] (fun n vs wl=>∃ (A1 : Option Addr) (cap1 y : Nat),vs = [.slice A1 (hillsPre 10 zs q (y) (0)).length cap1,.int .i64 (y:Int)] ∧ Mem w wl [oI 58 9 A1 (hillsPre 10 zs q (y) (0)).length cap1 ((hillsPre 10 zs q (y) (0)).flatMap triCells)] ∧ (y ≤ q) ∧ (n = q - y)) ?_ ?_
 ·
  apply Exists.intro
  simp only [zQ,zR,zD,zE]
  exact ⟨none,0,0,rfl,m,Nat.zero_le _,rfl⟩
 ·
  intro n vs wr hI u
  clear m
  obtain ⟨A1,cap1,y,rfl,m,hy,hn⟩:=hI
  simp only [setG_cons,setG_nil,setMany_cons,setMany_nil,zF,zG]
  refine c_seq fun K6 k6=>c_seq fun K7 k7=>wp_region_lit (n_val (r_move) (n_val (r_move) (n_val (r_lss rfl rfl) (n_nil (k7 _ _ ?_)))))
  simp only [ev,zD,zE,zF,zG]
  refine c_if rfl (fun hc1=>?_) (fun hc1=>?_)
  ·
   refine wp_skip (k6 _ _ ?_)
   refine c_seq fun K8 k8=>wp_block (c_seq fun K9 k9=>wp_region_lit (n_val (r_assign) (n_nil (k9 _ _ ?_))))
   refine wp_block ?_
   simp only [ev,zD,zE,zF,zG]
   try simp only [Nat.zero_add,Nat.reduceAdd,Nat.reduceMul,Int.reduceToNat]
   refine c_loopg [7,9] [10,11,12,13,22,23,24,25,26,27,28,29,30,31,32,33,34,35,36,37,38,39,40,41,42,43,44,45,46,47,48,49,50,51,52,53,54,55,56,57] (fun n vs wl=>∃ (A1 : Option Addr) (cap1 x : Nat),vs = [.slice A1 (hillsPre 10 zs q (y) (x)).length cap1,.int .i64 (x:Int)] ∧ Mem w wl [oI 58 9 A1 (hillsPre 10 zs q (y) (x)).length cap1 ((hillsPre 10 zs q (y) (x)).flatMap triCells)] ∧ (x ≤ q) ∧ (n = q - x)) ?_ ?_
   ·
    apply Exists.intro
    simp only [zQ,zR,zD,zE]
    exact ⟨_,_,0,rfl,m,Nat.zero_le _,rfl⟩
   ·
    intro n vs wr hI u
    clear m
    obtain ⟨A1,cap1,x,rfl,m,hx,hn2⟩:=hI
    simp only [setG_cons,setG_nil,setMany_cons,setMany_nil,zF,zG]
    refine c_seq fun K10 k10=>c_seq fun K11 k11=>wp_region_lit (n_val (r_move) (n_val (r_move) (n_val (r_lss rfl rfl) (n_nil (k11 _ _ ?_)))))
    simp only [ev,zD,zE,zF,zG]
    refine c_if rfl (fun hc2=>?_) (fun hc2=>?_)
    ·
     refine wp_skip (k10 _ _ ?_)
     refine c_seq fun K12 k12=>wp_block (c_seq fun K13 k13=>wp_region_lit (n_val (r_move) (n_val (r_move) (n_val (r_move) (n_val (r_move) ?_)))))
     simp only [ev,zD,zE,zF,zG]
     refine mcall m rfl rfl (hill_c (x:=x) (y:=y) _ (hZ.ext m.ext) (by omega) (by omega)) ?_
     clear m; rintro v u m rfl
     simp only [ev,zD,zE,zF,zG]
     refine malloc m zero_56 rfl ?_
     clear m; intro g1 u m
     simp only [ev,zD,zE,zF,zG]
     refine mstoreA m 0 rfl rfl rfl cells_56 (leT rfl) rfl ?_
     clear m; intro u m; simp only [over,zH,zI,zJ,zK,zL,zM,zN,zO,zP,zF,zG,Nat.reduceAdd] at m
     refine n_nil (k13 _ _ ?_)
     refine c_seq fun K14 k14=>wp_region_lit (n_val (r_move) ?_)
     simp only [ev,zD,zE,zF,zG]
     refine n_val (r_add rfl rfl (wrap_i64 (by omega) (by omega))) (n_val (r_move) (n_val (r_move) (n_val (r_move) ?_)))
     simp only [ev,zD,zE,zF,zG]
     refine mcall m rfl rfl (hill_c (x:=x + 1) (y:=y) _ (hZ.ext m.ext) (by omega) (by omega)) ?_
     clear m; rintro v u m rfl
     simp only [ev,zD,zE,zF,zG]
     refine malloc m zero_56 rfl ?_
     clear m; intro g2 u m
     simp only [ev,zD,zE,zF,zG]
     refine mstoreA m 0 rfl rfl rfl cells_56 (leT rfl) rfl ?_
     clear m; intro u m; simp only [over,zH,zI,zJ,zK,zL,zM,zN,zO,zP,zF,zG,Nat.reduceAdd] at m
     refine n_nil (k14 _ _ ?_)
     refine c_seq fun K15 k15=>wp_region_lit (n_val (r_move) ?_)
     simp only [ev,zD,zE,zF,zG]
     refine n_val (r_add rfl rfl (wrap_i64 (by omega) (by omega))) (n_val (r_move) ?_)
     simp only [ev,zD,zE,zF,zG]
     refine n_val (r_add rfl rfl (wrap_i64 (by omega) (by omega))) (n_val (r_move) (n_val (r_move) ?_))
     simp only [ev,zD,zE,zF,zG]
     refine mcall m rfl rfl (hill_c (x:=x + 1) (y:=y + 1) _ (hZ.ext m.ext) (by omega) (by omega)) ?_
     clear m; rintro v u m rfl
     simp only [ev,zD,zE,zF,zG]
     refine malloc m zero_56 rfl ?_
     clear m; intro g3 u m
     simp only [ev,zD,zE,zF,zG]
     refine mstoreA m 0 rfl rfl rfl cells_56 (leT rfl) rfl ?_
     clear m; intro u m; simp only [over,zH,zI,zJ,zK,zL,zM,zN,zO,zP,zF,zG,Nat.reduceAdd] at m
     refine n_nil (k15 _ _ ?_)
     refine c_seq fun K16 k16=>wp_region_lit (n_val (r_move) (n_val (r_move) ?_))
     simp only [ev,zD,zE,zF,zG]
     refine n_val (r_add rfl rfl (wrap_i64 (by omega) (by omega))) (n_val (r_move) (n_val (r_move) ?_))
     simp only [ev,zD,zE,zF,zG]
     refine mcall m rfl rfl (hill_c (x:=x) (y:=y + 1) _ (hZ.ext m.ext) (by omega) (by omega)) ?_
     clear m; rintro v u m rfl
     simp only [ev,zD,zE,zF,zG]
     refine malloc m zero_56 rfl ?_
     clear m; intro g4 u m
     simp only [ev,zD,zE,zF,zG]
     refine mstoreA m 0 rfl rfl rfl cells_56 (leT rfl) rfl ?_
     clear m; intro u m; simp only [over,zH,zI,zJ,zK,zL,zM,zN,zO,zP,zF,zG,Nat.reduceAdd] at m
     refine n_nil (k16 _ _ ?_)
     refine wp_region_lit (n_val (r_move) ?_)
     simp only [ev,zD,zE,zF,zG]
     refine n_load rfl ((m.b 3 rfl).full agg_56 cells_56) ?_
     simp only [ev,zD,zE,zF,zG]
     refine n_load rfl ((m.b 2 rfl).full agg_56 cells_56) ?_
     simp only [ev,zD,zE,zF,zG]
     refine n_load rfl ((m.b 1 rfl).full agg_56 cells_56) ?_
     simp only [ev,zD,zE,zF,zG]
     refine n_load rfl ((m.b 0 rfl).full agg_56 cells_56) ?_
     simp only [ev,zD,zE,zF,zG]
     refine n_call rfl rfl (quad_c (a:=hillP 10 zs x y) (b:=hillP 10 zs (x + 1) y) (c:=hillP 10 zs (x + 1) (y + 1)) (d:=hillP 10 zs x (y + 1)) _) ?_
     rintro v u e ⟨A2,cap2,_,rfl,rfl,hN⟩; replace m:=m.newO e hN; clear e hN
     simp only [ev,zD,zE,zF,zG]
     refine mappend m 5 rfl rfl Tryz.underlying48 inf_58 rfl (by decide) rfl rfl (m.o 0 rfl).own.1 (m.o 0 rfl).row (tris_one _) (by have:=hillsPre_le (s:=10) (zs:=zs) (n:=q) (y:=y) (x:=x) (by omega) (by omega) (by omega); show _ + 2 ≤ _; omega) (by have:=hillsPre_le (s:=10) (zs:=zs) (n:=q) (y:=y) (x:=x) (by omega) (by omega) (by omega); show (_ + 2) * 72 ≤ _; omega) ?_
     clear m; intro A1 cap1 u m; simp only [zF,zG] at m
     rw [hp_cells,hp_len] at m
     rw [hp_len]
     refine n_val (r_assign) (n_nil (k12 _ _ ?_))
     refine wp_region_lit (n_val (r_move) ?_)
     simp only [ev,zD,zE,zF,zG]
     refine n_val (r_add rfl rfl (wrap_i64 (by omega) (by omega))) (n_val (r_assign) (n_nil ?_))
     simp only [ev,zD,zE,zF,zG]
     simp only [Exit.inBlock,Exit.then]
     refine ⟨q - (x + 1),_,?_,rfl,?_,?_⟩
     · omega
     · simp only [zQ,zR,zD,zE,setG_cons,setG_nil,setMany_cons,setMany_nil,zF,zG]
     ·
      simp only [zQ,zR,zD,zE]
      exact ⟨_,_,x + 1,rfl,(m.sel [false,false,false,false,false,true]),by omega,rfl⟩
    ·
     have hxq : x = q:=by omega
     rw [hxq,hillsPre_row] at m ⊢
     refine wp_exit (k8 _ _ ?_)
     refine wp_region_lit (n_val (r_move) ?_)
     simp only [ev,zD,zE,zF,zG]
     refine n_val (r_add rfl rfl (wrap_i64 (by omega) (by omega))) (n_val (r_assign) (n_nil ?_))
     simp only [ev,zD,zE,zF,zG]
     simp only [Exit.inBlock,Exit.then]
     refine ⟨q - (y + 1),_,?_,rfl,?_,?_⟩
     · omega
     · simp only [zQ,zR,zD,zE,setG_cons,setG_nil,setMany_cons,setMany_nil,zF,zG]
     ·
      simp only [zQ,zR,zD,zE]
      exact ⟨_,_,y + 1,rfl,m,by omega,rfl⟩
  ·
   have hyq : y = q:=by omega
   rw [hyq,hillsPre_end] at m ⊢
   refine wp_exit (k4 _ _ ?_)
   refine c_seq fun K17 k17=>wp_region_lit (n_val (r_move) (n_val (r_assign) (n_nil (k17 _ _ ?_))))
   refine wp_ret ?_
   simp only [ev,zD,zE,zF,zG]
   try simp only [Exit.inBlock,Exit.then,if_true]
   refine fin1 rfl rfl ?_
   try simp only [zD,zE]
   exact ⟨_,rfl,m.ext,⟨_,_,_,rfl,rfl,(m.o 0 rfl)⟩⟩
end Go.Proofs.YtimjandkmfcmiaaGreatDoor
namespace Go.Proofs.YtimjandkmfcmiaaGreatDoor
open Go.RowKit Go.Lith
set_option maxRecDepth 100000
attribute [local irreducible] wpList wpQuiet wpMix wpMixH wpTree Code.wp
end Go.Proofs.YtimjandkmfcmiaaGreatDoor
namespace Go.Proofs.YtimjandkmfcmiaaGreatDoor
open Go.RowKit Go.Lith
set_option maxRecDepth 100000
attribute [local irreducible] wpList wpQuiet wpMix wpMixH wpTree Code.wp
theorem cube_c {p : P3} (w : World) (hp : Sm 100 p) : Does Tryz.prog 90 [pt p,.int .i64 8] w (TS 58 (cubeT p 8) w):=by
 refine ⟨en_90,?_⟩
 have m:=Mem.refl w
 have hp1:=hp.1; have hp2:=hp.2.1; have hp3:=hp.2.2
 go_enter Tryz.func90,Tryz.ntmps90
 refine c_seq fun K1 k1=>wp_region_lit (mboxA m rfl ?_)
 clear m; intro g1 u m
 refine n_val (r_assign) (n_nil (k1 _ _ ?_))
 refine c_seq fun K2 k2=>wp_region_lit ?_
 simp only [ev,zD,zE,zF,zG]
 refine malloc m zero_163 rfl ?_
 clear m; intro g2 u m
 refine n_nil (k2 _ _ ?_)
 refine c_seq fun K3 k3=>c_seq fun K4 k4=>wp_region_lit (n_val (r_assign) (n_nil (k4 _ _ ?_)))
 refine wp_block (wp_loop_rounds 9 (rounds_step (c_seq fun K5 k5=>c_seq fun K6 k6=>wp_region_lit (n_val (r_move) (n_val (r_lssT (m:=0) (n:=8) rfl rfl (by decide)) ?_)))))
 simp only [ev,zD,zE,zF,zG]
 refine n_nil (k6 _ _ ?_)
 refine c_yes rfl (wp_skip (k5 _ _ ?_))
 refine c_seq fun K7 k7=>wp_block (wp_region_lit (n_val (r_move) (n_val (r_fieldAddr (c:=0) Tryz.underlying56 rfl cells_3 rfl rfl) ?_)))
 simp only [ev,zD,zE,zF,zG]
 refine n_load rfl ((m.b 1 rfl).lies1 agg_3 rfl) ?_
 simp only [ev,zD,zE,zF,zG]
 refine n_val (r_move) (n_val (r_rem (m:=0) (n:=2) (r:=0) rfl rfl (by decide) (by decide)) (n_val (r_move) (n_val (r_mul (m:=0) (n:=8) (r:=0) rfl rfl (by decide)) ?_)))
 simp only [ev,zD,zE,zF,zG]
 refine n_val (r_add rfl rfl (wrap_i64 (by omega) (by omega))) (n_val (r_fieldAddr (c:=0) Tryz.underlying56 rfl cells_3 rfl rfl) ?_)
 simp only [ev,zD,zE,zF,zG]
 refine n_load rfl ((m.b 1 rfl).lies1 agg_3 rfl) ?_
 simp only [ev,zD,zE,zF,zG]
 refine n_val (r_move) (n_val (r_quo (m:=0) (n:=2) (r:=0) rfl rfl (by decide) (by decide)) (n_val (r_rem (m:=0) (n:=2) (r:=0) rfl rfl (by decide) (by decide)) (n_val (r_move) ?_)))
 simp only [ev,zD,zE,zF,zG]
 refine n_val (r_mul (m:=0) (n:=8) (r:=0) rfl rfl (by decide)) ?_
 simp only [ev,zD,zE,zF,zG]
 refine n_val (r_add rfl rfl (wrap_i64 (by omega) (by omega))) (n_val (r_fieldAddr (c:=0) Tryz.underlying56 rfl cells_3 rfl rfl) ?_)
 simp only [ev,zD,zE,zF,zG]
 refine n_load rfl ((m.b 1 rfl).lies1 agg_3 rfl) ?_
 simp only [ev,zD,zE,zF,zG]
 refine n_val (r_move) (n_val (r_quo (m:=0) (n:=4) (r:=0) rfl rfl (by decide) (by decide)) (n_val (r_move) (n_val (r_mul (m:=0) (n:=8) (r:=0) rfl rfl (by decide)) ?_)))
 simp only [ev,zD,zE,zF,zG]
 refine n_val (r_add rfl rfl (wrap_i64 (by omega) (by omega))) (n_val (r_build_56_0_1_2 rfl rfl rfl) (n_val (r_indexAddrA Tryz.underlying163 cells_56 rfl rfl (by decide) (by decide) rfl) ?_))
 simp only [ev,zD,zE,zF,zG]
 refine mstoreA m 0 rfl rfl rfl cells_56 (leT rfl) rfl ?_
 clear m; intro u m; simp only [over,zH,zI,zJ,zK,zL,zM,zN,zO,zP,zF,zG,Nat.reduceAdd] at m
 refine n_nil (k7 _ _ ?_)
 refine wp_region_lit (n_val (r_move) (n_val (r_add (m:=0) (n:=1) (r:=1) rfl rfl (by decide)) (n_val (r_assign) (n_nil (then_rounds (c_seq fun K8 k8=>c_seq fun K9 k9=>wp_region_lit (n_val (r_move) ?_)))))))
 simp only [ev,zD,zE,zF,zG]
 refine n_val (r_lssT (m:=1) (n:=8) rfl rfl (by decide)) (n_nil (k9 _ _ ?_))
 refine c_yes rfl (wp_skip (k8 _ _ ?_))
 refine c_seq fun K10 k10=>wp_block (wp_region_lit (n_val (r_move) (n_val (r_fieldAddr (c:=0) Tryz.underlying56 rfl cells_3 rfl rfl) ?_)))
 simp only [ev,zD,zE,zF,zG]
 refine n_load rfl ((m.b 1 rfl).lies1 agg_3 rfl) ?_
 simp only [ev,zD,zE,zF,zG]
 refine n_val (r_move) (n_val (r_rem (m:=1) (n:=2) (r:=1) rfl rfl (by decide) (by decide)) (n_val (r_move) (n_val (r_mul (m:=1) (n:=8) (r:=8) rfl rfl (by decide)) ?_)))
 simp only [ev,zD,zE,zF,zG]
 refine n_val (r_add rfl rfl (wrap_i64 (by omega) (by omega))) (n_val (r_fieldAddr (c:=0) Tryz.underlying56 rfl cells_3 rfl rfl) ?_)
 simp only [ev,zD,zE,zF,zG]
 refine n_load rfl ((m.b 1 rfl).lies1 agg_3 rfl) ?_
 simp only [ev,zD,zE,zF,zG]
 refine n_val (r_move) (n_val (r_quo (m:=1) (n:=2) (r:=0) rfl rfl (by decide) (by decide)) (n_val (r_rem (m:=0) (n:=2) (r:=0) rfl rfl (by decide) (by decide)) (n_val (r_move) ?_)))
 simp only [ev,zD,zE,zF,zG]
 refine n_val (r_mul (m:=0) (n:=8) (r:=0) rfl rfl (by decide)) ?_
 simp only [ev,zD,zE,zF,zG]
 refine n_val (r_add rfl rfl (wrap_i64 (by omega) (by omega))) (n_val (r_fieldAddr (c:=0) Tryz.underlying56 rfl cells_3 rfl rfl) ?_)
 simp only [ev,zD,zE,zF,zG]
 refine n_load rfl ((m.b 1 rfl).lies1 agg_3 rfl) ?_
 simp only [ev,zD,zE,zF,zG]
 refine n_val (r_move) (n_val (r_quo (m:=1) (n:=4) (r:=0) rfl rfl (by decide) (by decide)) (n_val (r_move) (n_val (r_mul (m:=0) (n:=8) (r:=0) rfl rfl (by decide)) ?_)))
 simp only [ev,zD,zE,zF,zG]
 refine n_val (r_add rfl rfl (wrap_i64 (by omega) (by omega))) (n_val (r_build_56_0_1_2 rfl rfl rfl) (n_val (r_indexAddrA Tryz.underlying163 cells_56 rfl rfl (by decide) (by decide) rfl) ?_))
 simp only [ev,zD,zE,zF,zG]
 refine mstoreA m 0 rfl rfl rfl cells_56 (leT rfl) rfl ?_
 clear m; intro u m; simp only [over,zH,zI,zJ,zK,zL,zM,zN,zO,zP,zF,zG,Nat.reduceAdd] at m
 refine n_nil (k10 _ _ ?_)
 refine wp_region_lit (n_val (r_move) (n_val (r_add (m:=1) (n:=1) (r:=2) rfl rfl (by decide)) (n_val (r_assign) (n_nil (then_rounds (c_seq fun K11 k11=>c_seq fun K12 k12=>wp_region_lit (n_val (r_move) ?_)))))))
 simp only [ev,zD,zE,zF,zG]
 refine n_val (r_lssT (m:=2) (n:=8) rfl rfl (by decide)) (n_nil (k12 _ _ ?_))
 refine c_yes rfl (wp_skip (k11 _ _ ?_))
 refine c_seq fun K13 k13=>wp_block (wp_region_lit (n_val (r_move) (n_val (r_fieldAddr (c:=0) Tryz.underlying56 rfl cells_3 rfl rfl) ?_)))
 simp only [ev,zD,zE,zF,zG]
 refine n_load rfl ((m.b 1 rfl).lies1 agg_3 rfl) ?_
 simp only [ev,zD,zE,zF,zG]
 refine n_val (r_move) (n_val (r_rem (m:=2) (n:=2) (r:=0) rfl rfl (by decide) (by decide)) (n_val (r_move) (n_val (r_mul (m:=0) (n:=8) (r:=0) rfl rfl (by decide)) ?_)))
 simp only [ev,zD,zE,zF,zG]
 refine n_val (r_add rfl rfl (wrap_i64 (by omega) (by omega))) (n_val (r_fieldAddr (c:=0) Tryz.underlying56 rfl cells_3 rfl rfl) ?_)
 simp only [ev,zD,zE,zF,zG]
 refine n_load rfl ((m.b 1 rfl).lies1 agg_3 rfl) ?_
 simp only [ev,zD,zE,zF,zG]
 refine n_val (r_move) (n_val (r_quo (m:=2) (n:=2) (r:=1) rfl rfl (by decide) (by decide)) (n_val (r_rem (m:=1) (n:=2) (r:=1) rfl rfl (by decide) (by decide)) (n_val (r_move) ?_)))
 simp only [ev,zD,zE,zF,zG]
 refine n_val (r_mul (m:=1) (n:=8) (r:=8) rfl rfl (by decide)) ?_
 simp only [ev,zD,zE,zF,zG]
 refine n_val (r_add rfl rfl (wrap_i64 (by omega) (by omega))) (n_val (r_fieldAddr (c:=0) Tryz.underlying56 rfl cells_3 rfl rfl) ?_)
 simp only [ev,zD,zE,zF,zG]
 refine n_load rfl ((m.b 1 rfl).lies1 agg_3 rfl) ?_
 simp only [ev,zD,zE,zF,zG]
 refine n_val (r_move) (n_val (r_quo (m:=2) (n:=4) (r:=0) rfl rfl (by decide) (by decide)) (n_val (r_move) (n_val (r_mul (m:=0) (n:=8) (r:=0) rfl rfl (by decide)) ?_)))
 simp only [ev,zD,zE,zF,zG]
 refine n_val (r_add rfl rfl (wrap_i64 (by omega) (by omega))) (n_val (r_build_56_0_1_2 rfl rfl rfl) (n_val (r_indexAddrA Tryz.underlying163 cells_56 rfl rfl (by decide) (by decide) rfl) ?_))
 simp only [ev,zD,zE,zF,zG]
 refine mstoreA m 0 rfl rfl rfl cells_56 (leT rfl) rfl ?_
 clear m; intro u m; simp only [over,zH,zI,zJ,zK,zL,zM,zN,zO,zP,zF,zG,Nat.reduceAdd] at m
 refine n_nil (k13 _ _ ?_)
 refine wp_region_lit (n_val (r_move) (n_val (r_add (m:=2) (n:=1) (r:=3) rfl rfl (by decide)) (n_val (r_assign) (n_nil (then_rounds (c_seq fun K14 k14=>c_seq fun K15 k15=>wp_region_lit (n_val (r_move) ?_)))))))
 simp only [ev,zD,zE,zF,zG]
 refine n_val (r_lssT (m:=3) (n:=8) rfl rfl (by decide)) (n_nil (k15 _ _ ?_))
 refine c_yes rfl (wp_skip (k14 _ _ ?_))
 refine c_seq fun K16 k16=>wp_block (wp_region_lit (n_val (r_move) (n_val (r_fieldAddr (c:=0) Tryz.underlying56 rfl cells_3 rfl rfl) ?_)))
 simp only [ev,zD,zE,zF,zG]
 refine n_load rfl ((m.b 1 rfl).lies1 agg_3 rfl) ?_
 simp only [ev,zD,zE,zF,zG]
 refine n_val (r_move) (n_val (r_rem (m:=3) (n:=2) (r:=1) rfl rfl (by decide) (by decide)) (n_val (r_move) (n_val (r_mul (m:=1) (n:=8) (r:=8) rfl rfl (by decide)) ?_)))
 simp only [ev,zD,zE,zF,zG]
 refine n_val (r_add rfl rfl (wrap_i64 (by omega) (by omega))) (n_val (r_fieldAddr (c:=0) Tryz.underlying56 rfl cells_3 rfl rfl) ?_)
 simp only [ev,zD,zE,zF,zG]
 refine n_load rfl ((m.b 1 rfl).lies1 agg_3 rfl) ?_
 simp only [ev,zD,zE,zF,zG]
 refine n_val (r_move) (n_val (r_quo (m:=3) (n:=2) (r:=1) rfl rfl (by decide) (by decide)) (n_val (r_rem (m:=1) (n:=2) (r:=1) rfl rfl (by decide) (by decide)) (n_val (r_move) ?_)))
 simp only [ev,zD,zE,zF,zG]
 refine n_val (r_mul (m:=1) (n:=8) (r:=8) rfl rfl (by decide)) ?_
 simp only [ev,zD,zE,zF,zG]
 refine n_val (r_add rfl rfl (wrap_i64 (by omega) (by omega))) (n_val (r_fieldAddr (c:=0) Tryz.underlying56 rfl cells_3 rfl rfl) ?_)
 simp only [ev,zD,zE,zF,zG]
 refine n_load rfl ((m.b 1 rfl).lies1 agg_3 rfl) ?_
 simp only [ev,zD,zE,zF,zG]
 refine n_val (r_move) (n_val (r_quo (m:=3) (n:=4) (r:=0) rfl rfl (by decide) (by decide)) (n_val (r_move) (n_val (r_mul (m:=0) (n:=8) (r:=0) rfl rfl (by decide)) ?_)))
 simp only [ev,zD,zE,zF,zG]
 refine n_val (r_add rfl rfl (wrap_i64 (by omega) (by omega))) (n_val (r_build_56_0_1_2 rfl rfl rfl) (n_val (r_indexAddrA Tryz.underlying163 cells_56 rfl rfl (by decide) (by decide) rfl) ?_))
 simp only [ev,zD,zE,zF,zG]
 refine mstoreA m 0 rfl rfl rfl cells_56 (leT rfl) rfl ?_
 clear m; intro u m; simp only [over,zH,zI,zJ,zK,zL,zM,zN,zO,zP,zF,zG,Nat.reduceAdd] at m
 refine n_nil (k16 _ _ ?_)
 refine wp_region_lit (n_val (r_move) (n_val (r_add (m:=3) (n:=1) (r:=4) rfl rfl (by decide)) (n_val (r_assign) (n_nil (then_rounds (c_seq fun K17 k17=>c_seq fun K18 k18=>wp_region_lit (n_val (r_move) ?_)))))))
 simp only [ev,zD,zE,zF,zG]
 refine n_val (r_lssT (m:=4) (n:=8) rfl rfl (by decide)) (n_nil (k18 _ _ ?_))
 refine c_yes rfl (wp_skip (k17 _ _ ?_))
 refine c_seq fun K19 k19=>wp_block (wp_region_lit (n_val (r_move) (n_val (r_fieldAddr (c:=0) Tryz.underlying56 rfl cells_3 rfl rfl) ?_)))
 simp only [ev,zD,zE,zF,zG]
 refine n_load rfl ((m.b 1 rfl).lies1 agg_3 rfl) ?_
 simp only [ev,zD,zE,zF,zG]
 refine n_val (r_move) (n_val (r_rem (m:=4) (n:=2) (r:=0) rfl rfl (by decide) (by decide)) (n_val (r_move) (n_val (r_mul (m:=0) (n:=8) (r:=0) rfl rfl (by decide)) ?_)))
 simp only [ev,zD,zE,zF,zG]
 refine n_val (r_add rfl rfl (wrap_i64 (by omega) (by omega))) (n_val (r_fieldAddr (c:=0) Tryz.underlying56 rfl cells_3 rfl rfl) ?_)
 simp only [ev,zD,zE,zF,zG]
 refine n_load rfl ((m.b 1 rfl).lies1 agg_3 rfl) ?_
 simp only [ev,zD,zE,zF,zG]
 refine n_val (r_move) (n_val (r_quo (m:=4) (n:=2) (r:=2) rfl rfl (by decide) (by decide)) (n_val (r_rem (m:=2) (n:=2) (r:=0) rfl rfl (by decide) (by decide)) (n_val (r_move) ?_)))
 simp only [ev,zD,zE,zF,zG]
 refine n_val (r_mul (m:=0) (n:=8) (r:=0) rfl rfl (by decide)) ?_
 simp only [ev,zD,zE,zF,zG]
 refine n_val (r_add rfl rfl (wrap_i64 (by omega) (by omega))) (n_val (r_fieldAddr (c:=0) Tryz.underlying56 rfl cells_3 rfl rfl) ?_)
 simp only [ev,zD,zE,zF,zG]
 refine n_load rfl ((m.b 1 rfl).lies1 agg_3 rfl) ?_
 simp only [ev,zD,zE,zF,zG]
 refine n_val (r_move) (n_val (r_quo (m:=4) (n:=4) (r:=1) rfl rfl (by decide) (by decide)) (n_val (r_move) (n_val (r_mul (m:=1) (n:=8) (r:=8) rfl rfl (by decide)) ?_)))
 simp only [ev,zD,zE,zF,zG]
 refine n_val (r_add rfl rfl (wrap_i64 (by omega) (by omega))) (n_val (r_build_56_0_1_2 rfl rfl rfl) (n_val (r_indexAddrA Tryz.underlying163 cells_56 rfl rfl (by decide) (by decide) rfl) ?_))
 simp only [ev,zD,zE,zF,zG]
 refine mstoreA m 0 rfl rfl rfl cells_56 (leT rfl) rfl ?_
 clear m; intro u m; simp only [over,zH,zI,zJ,zK,zL,zM,zN,zO,zP,zF,zG,Nat.reduceAdd] at m
 refine n_nil (k19 _ _ ?_)
 refine wp_region_lit (n_val (r_move) (n_val (r_add (m:=4) (n:=1) (r:=5) rfl rfl (by decide)) (n_val (r_assign) (n_nil (then_rounds (c_seq fun K20 k20=>c_seq fun K21 k21=>wp_region_lit (n_val (r_move) ?_)))))))
 simp only [ev,zD,zE,zF,zG]
 refine n_val (r_lssT (m:=5) (n:=8) rfl rfl (by decide)) (n_nil (k21 _ _ ?_))
 refine c_yes rfl (wp_skip (k20 _ _ ?_))
 refine c_seq fun K22 k22=>wp_block (wp_region_lit (n_val (r_move) (n_val (r_fieldAddr (c:=0) Tryz.underlying56 rfl cells_3 rfl rfl) ?_)))
 simp only [ev,zD,zE,zF,zG]
 refine n_load rfl ((m.b 1 rfl).lies1 agg_3 rfl) ?_
 simp only [ev,zD,zE,zF,zG]
 refine n_val (r_move) (n_val (r_rem (m:=5) (n:=2) (r:=1) rfl rfl (by decide) (by decide)) (n_val (r_move) (n_val (r_mul (m:=1) (n:=8) (r:=8) rfl rfl (by decide)) ?_)))
 simp only [ev,zD,zE,zF,zG]
 refine n_val (r_add rfl rfl (wrap_i64 (by omega) (by omega))) (n_val (r_fieldAddr (c:=0) Tryz.underlying56 rfl cells_3 rfl rfl) ?_)
 simp only [ev,zD,zE,zF,zG]
 refine n_load rfl ((m.b 1 rfl).lies1 agg_3 rfl) ?_
 simp only [ev,zD,zE,zF,zG]
 refine n_val (r_move) (n_val (r_quo (m:=5) (n:=2) (r:=2) rfl rfl (by decide) (by decide)) (n_val (r_rem (m:=2) (n:=2) (r:=0) rfl rfl (by decide) (by decide)) (n_val (r_move) ?_)))
 simp only [ev,zD,zE,zF,zG]
 refine n_val (r_mul (m:=0) (n:=8) (r:=0) rfl rfl (by decide)) ?_
 simp only [ev,zD,zE,zF,zG]
 refine n_val (r_add rfl rfl (wrap_i64 (by omega) (by omega))) (n_val (r_fieldAddr (c:=0) Tryz.underlying56 rfl cells_3 rfl rfl) ?_)
 simp only [ev,zD,zE,zF,zG]
 refine n_load rfl ((m.b 1 rfl).lies1 agg_3 rfl) ?_
 simp only [ev,zD,zE,zF,zG]
 refine n_val (r_move) (n_val (r_quo (m:=5) (n:=4) (r:=1) rfl rfl (by decide) (by decide)) (n_val (r_move) (n_val (r_mul (m:=1) (n:=8) (r:=8) rfl rfl (by decide)) ?_)))
 simp only [ev,zD,zE,zF,zG]
 refine n_val (r_add rfl rfl (wrap_i64 (by omega) (by omega))) (n_val (r_build_56_0_1_2 rfl rfl rfl) (n_val (r_indexAddrA Tryz.underlying163 cells_56 rfl rfl (by decide) (by decide) rfl) ?_))
 simp only [ev,zD,zE,zF,zG]
 refine mstoreA m 0 rfl rfl rfl cells_56 (leT rfl) rfl ?_
 clear m; intro u m; simp only [over,zH,zI,zJ,zK,zL,zM,zN,zO,zP,zF,zG,Nat.reduceAdd] at m
 refine n_nil (k22 _ _ ?_)
 refine wp_region_lit (n_val (r_move) (n_val (r_add (m:=5) (n:=1) (r:=6) rfl rfl (by decide)) (n_val (r_assign) (n_nil (then_rounds (c_seq fun K23 k23=>c_seq fun K24 k24=>wp_region_lit (n_val (r_move) ?_)))))))
 simp only [ev,zD,zE,zF,zG]
 refine n_val (r_lssT (m:=6) (n:=8) rfl rfl (by decide)) (n_nil (k24 _ _ ?_))
 refine c_yes rfl (wp_skip (k23 _ _ ?_))
 refine c_seq fun K25 k25=>wp_block (wp_region_lit (n_val (r_move) (n_val (r_fieldAddr (c:=0) Tryz.underlying56 rfl cells_3 rfl rfl) ?_)))
 simp only [ev,zD,zE,zF,zG]
 refine n_load rfl ((m.b 1 rfl).lies1 agg_3 rfl) ?_
 simp only [ev,zD,zE,zF,zG]
 refine n_val (r_move) (n_val (r_rem (m:=6) (n:=2) (r:=0) rfl rfl (by decide) (by decide)) (n_val (r_move) (n_val (r_mul (m:=0) (n:=8) (r:=0) rfl rfl (by decide)) ?_)))
 simp only [ev,zD,zE,zF,zG]
 refine n_val (r_add rfl rfl (wrap_i64 (by omega) (by omega))) (n_val (r_fieldAddr (c:=0) Tryz.underlying56 rfl cells_3 rfl rfl) ?_)
 simp only [ev,zD,zE,zF,zG]
 refine n_load rfl ((m.b 1 rfl).lies1 agg_3 rfl) ?_
 simp only [ev,zD,zE,zF,zG]
 refine n_val (r_move) (n_val (r_quo (m:=6) (n:=2) (r:=3) rfl rfl (by decide) (by decide)) (n_val (r_rem (m:=3) (n:=2) (r:=1) rfl rfl (by decide) (by decide)) (n_val (r_move) ?_)))
 simp only [ev,zD,zE,zF,zG]
 refine n_val (r_mul (m:=1) (n:=8) (r:=8) rfl rfl (by decide)) ?_
 simp only [ev,zD,zE,zF,zG]
 refine n_val (r_add rfl rfl (wrap_i64 (by omega) (by omega))) (n_val (r_fieldAddr (c:=0) Tryz.underlying56 rfl cells_3 rfl rfl) ?_)
 simp only [ev,zD,zE,zF,zG]
 refine n_load rfl ((m.b 1 rfl).lies1 agg_3 rfl) ?_
 simp only [ev,zD,zE,zF,zG]
 refine n_val (r_move) (n_val (r_quo (m:=6) (n:=4) (r:=1) rfl rfl (by decide) (by decide)) (n_val (r_move) (n_val (r_mul (m:=1) (n:=8) (r:=8) rfl rfl (by decide)) ?_)))
 simp only [ev,zD,zE,zF,zG]
 refine n_val (r_add rfl rfl (wrap_i64 (by omega) (by omega))) (n_val (r_build_56_0_1_2 rfl rfl rfl) (n_val (r_indexAddrA Tryz.underlying163 cells_56 rfl rfl (by decide) (by decide) rfl) ?_))
 simp only [ev,zD,zE,zF,zG]
 refine mstoreA m 0 rfl rfl rfl cells_56 (leT rfl) rfl ?_
 clear m; intro u m; simp only [over,zH,zI,zJ,zK,zL,zM,zN,zO,zP,zF,zG,Nat.reduceAdd] at m
 refine n_nil (k25 _ _ ?_)
 refine wp_region_lit (n_val (r_move) (n_val (r_add (m:=6) (n:=1) (r:=7) rfl rfl (by decide)) (n_val (r_assign) (n_nil (then_rounds (c_seq fun K26 k26=>c_seq fun K27 k27=>wp_region_lit (n_val (r_move) ?_)))))))
 simp only [ev,zD,zE,zF,zG]
 refine n_val (r_lssT (m:=7) (n:=8) rfl rfl (by decide)) (n_nil (k27 _ _ ?_))
 refine c_yes rfl (wp_skip (k26 _ _ ?_))
 refine c_seq fun K28 k28=>wp_block (wp_region_lit (n_val (r_move) (n_val (r_fieldAddr (c:=0) Tryz.underlying56 rfl cells_3 rfl rfl) ?_)))
 simp only [ev,zD,zE,zF,zG]
 refine n_load rfl ((m.b 1 rfl).lies1 agg_3 rfl) ?_
 simp only [ev,zD,zE,zF,zG]
 refine n_val (r_move) (n_val (r_rem (m:=7) (n:=2) (r:=1) rfl rfl (by decide) (by decide)) (n_val (r_move) (n_val (r_mul (m:=1) (n:=8) (r:=8) rfl rfl (by decide)) ?_)))
 simp only [ev,zD,zE,zF,zG]
 refine n_val (r_add rfl rfl (wrap_i64 (by omega) (by omega))) (n_val (r_fieldAddr (c:=0) Tryz.underlying56 rfl cells_3 rfl rfl) ?_)
 simp only [ev,zD,zE,zF,zG]
 refine n_load rfl ((m.b 1 rfl).lies1 agg_3 rfl) ?_
 simp only [ev,zD,zE,zF,zG]
 refine n_val (r_move) (n_val (r_quo (m:=7) (n:=2) (r:=3) rfl rfl (by decide) (by decide)) (n_val (r_rem (m:=3) (n:=2) (r:=1) rfl rfl (by decide) (by decide)) (n_val (r_move) ?_)))
 simp only [ev,zD,zE,zF,zG]
 refine n_val (r_mul (m:=1) (n:=8) (r:=8) rfl rfl (by decide)) ?_
 simp only [ev,zD,zE,zF,zG]
 refine n_val (r_add rfl rfl (wrap_i64 (by omega) (by omega))) (n_val (r_fieldAddr (c:=0) Tryz.underlying56 rfl cells_3 rfl rfl) ?_)
 simp only [ev,zD,zE,zF,zG]
 refine n_load rfl ((m.b 1 rfl).lies1 agg_3 rfl) ?_
 simp only [ev,zD,zE,zF,zG]
 refine n_val (r_move) (n_val (r_quo (m:=7) (n:=4) (r:=1) rfl rfl (by decide) (by decide)) (n_val (r_move) (n_val (r_mul (m:=1) (n:=8) (r:=8) rfl rfl (by decide)) ?_)))
 simp only [ev,zD,zE,zF,zG]
 refine n_val (r_add rfl rfl (wrap_i64 (by omega) (by omega))) (n_val (r_build_56_0_1_2 rfl rfl rfl) (n_val (r_indexAddrA Tryz.underlying163 cells_56 rfl rfl (by decide) (by decide) rfl) ?_))
 simp only [ev,zD,zE,zF,zG]
 refine mstoreA m 0 rfl rfl rfl cells_56 (leT rfl) rfl ?_
 clear m; intro u m; simp only [over,zH,zI,zJ,zK,zL,zM,zN,zO,zP,zF,zG,Nat.reduceAdd] at m
 refine n_nil (k28 _ _ ?_)
 refine wp_region_lit (n_val (r_move) (n_val (r_add (m:=7) (n:=1) (r:=8) rfl rfl (by decide)) (n_val (r_assign) (n_nil (then_rounds (c_seq fun K29 k29=>c_seq fun K30 k30=>wp_region_lit (n_val (r_move) ?_)))))))
 simp only [ev,zD,zE,zF,zG]
 refine n_val (r_lssF (m:=8) (n:=8) rfl rfl (by decide)) (n_nil (k30 _ _ ?_))
 refine c_no rfl (wp_exit (k3 _ _ ?_))
 refine c_seq fun K31 k31=>?_
 simp only [ev,zD,zE,zF,zG]
 change Mem w _ [bI g2 [.int .i64 (cubeC p 8 0).x,.int .i64 (cubeC p 8 0).y,.int .i64 (cubeC p 8 0).z,.int .i64 (cubeC p 8 1).x,.int .i64 (cubeC p 8 1).y,.int .i64 (cubeC p 8 1).z,.int .i64 (cubeC p 8 2).x,.int .i64 (cubeC p 8 2).y,.int .i64 (cubeC p 8 2).z,.int .i64 (cubeC p 8 3).x,.int .i64 (cubeC p 8 3).y,.int .i64 (cubeC p 8 3).z,.int .i64 (cubeC p 8 4).x,.int .i64 (cubeC p 8 4).y,.int .i64 (cubeC p 8 4).z,.int .i64 (cubeC p 8 5).x,.int .i64 (cubeC p 8 5).y,.int .i64 (cubeC p 8 5).z,.int .i64 (cubeC p 8 6).x,.int .i64 (cubeC p 8 6).y,.int .i64 (cubeC p 8 6).z,.int .i64 (cubeC p 8 7).x,.int .i64 (cubeC p 8 7).y,.int .i64 (cubeC p 8 7).z] _,_] at m
 refine wp_region_lit (n_val (r_indexAddrA Tryz.underlying163 cells_56 rfl rfl (by decide) (by decide) rfl) ?_)
 simp only [ev,zD,zE,zF,zG]
 refine n_load rfl ((m.b 0 rfl).lies agg_56 cells_56 rfl rfl) ?_
 simp only [ev,zD,zE,zF,zG,zH,zI,zJ,zK,Nat.zero_add,Nat.reduceAdd,Nat.reduceMul,Int.reduceToNat]
 refine n_val (r_indexAddrA Tryz.underlying163 cells_56 rfl rfl (by decide) (by decide) rfl) ?_
 simp only [ev,zD,zE,zF,zG]
 refine n_load rfl ((m.b 0 rfl).lies agg_56 cells_56 rfl rfl) ?_
 simp only [ev,zD,zE,zF,zG,zH,zI,zJ,zK,Nat.zero_add,Nat.reduceAdd,Nat.reduceMul,Int.reduceToNat]
 refine n_val (r_indexAddrA Tryz.underlying163 cells_56 rfl rfl (by decide) (by decide) rfl) ?_
 simp only [ev,zD,zE,zF,zG]
 refine n_load rfl ((m.b 0 rfl).lies agg_56 cells_56 rfl rfl) ?_
 simp only [ev,zD,zE,zF,zG,zH,zI,zJ,zK,Nat.zero_add,Nat.reduceAdd,Nat.reduceMul,Int.reduceToNat]
 refine n_val (r_indexAddrA Tryz.underlying163 cells_56 rfl rfl (by decide) (by decide) rfl) ?_
 simp only [ev,zD,zE,zF,zG]
 refine n_load rfl ((m.b 0 rfl).lies agg_56 cells_56 rfl rfl) ?_
 simp only [ev,zD,zE,zF,zG,zH,zI,zJ,zK,Nat.zero_add,Nat.reduceAdd,Nat.reduceMul,Int.reduceToNat]
 refine n_call rfl rfl (quad_c (a:=cubeC p 8 0) (b:=cubeC p 8 2) (c:=cubeC p 8 3) (d:=cubeC p 8 1) _) ?_
 rintro v u e ⟨A1,cap1,_,rfl,rfl,hN⟩; replace m:=m.newO e hN; clear e hN
 refine n_val (r_assign) (n_nil (k31 _ _ ?_))
 refine c_seq fun K32 k32=>wp_region_lit (n_val (r_move) (n_val (r_indexAddrA Tryz.underlying163 cells_56 rfl rfl (by decide) (by decide) rfl) ?_))
 simp only [ev,zD,zE,zF,zG]
 refine n_load rfl ((m.b 1 rfl).lies agg_56 cells_56 rfl rfl) ?_
 simp only [ev,zD,zE,zF,zG,zH,zI,zJ,zK,Nat.zero_add,Nat.reduceAdd,Nat.reduceMul,Int.reduceToNat]
 refine n_val (r_indexAddrA Tryz.underlying163 cells_56 rfl rfl (by decide) (by decide) rfl) ?_
 simp only [ev,zD,zE,zF,zG]
 refine n_load rfl ((m.b 1 rfl).lies agg_56 cells_56 rfl rfl) ?_
 simp only [ev,zD,zE,zF,zG,zH,zI,zJ,zK,Nat.zero_add,Nat.reduceAdd,Nat.reduceMul,Int.reduceToNat]
 refine n_val (r_indexAddrA Tryz.underlying163 cells_56 rfl rfl (by decide) (by decide) rfl) ?_
 simp only [ev,zD,zE,zF,zG]
 refine n_load rfl ((m.b 1 rfl).lies agg_56 cells_56 rfl rfl) ?_
 simp only [ev,zD,zE,zF,zG,zH,zI,zJ,zK,Nat.zero_add,Nat.reduceAdd,Nat.reduceMul,Int.reduceToNat]
 refine n_val (r_indexAddrA Tryz.underlying163 cells_56 rfl rfl (by decide) (by decide) rfl) ?_
 simp only [ev,zD,zE,zF,zG]
 refine n_load rfl ((m.b 1 rfl).lies agg_56 cells_56 rfl rfl) ?_
 simp only [ev,zD,zE,zF,zG,zH,zI,zJ,zK,Nat.zero_add,Nat.reduceAdd,Nat.reduceMul,Int.reduceToNat]
 refine n_call rfl rfl (quad_c (a:=cubeC p 8 4) (b:=cubeC p 8 5) (c:=cubeC p 8 7) (d:=cubeC p 8 6) _) ?_
 rintro v u e ⟨A2,cap2,_,rfl,rfl,hN⟩; replace m:=m.newO e hN; clear e hN
 simp only [ev,zD,zE,zF,zG]
 refine mappend m 1 rfl rfl Tryz.underlying48 inf_58 rfl (by decide) rfl rfl (m.o 0 rfl).own.1 (m.o 0 rfl).row (tris_one _) (leT rfl) (leT rfl) ?_
 clear m; intro A1 cap1 u m; simp only [zF,zG] at m
 refine n_val (r_assign) (n_nil (k32 _ _ ?_))
 refine c_seq fun K33 k33=>wp_region_lit (n_val (r_move) (n_val (r_indexAddrA Tryz.underlying163 cells_56 rfl rfl (by decide) (by decide) rfl) ?_))
 simp only [ev,zD,zE,zF,zG]
 refine n_load rfl ((m.b 2 rfl).lies agg_56 cells_56 rfl rfl) ?_
 simp only [ev,zD,zE,zF,zG,zH,zI,zJ,zK,Nat.zero_add,Nat.reduceAdd,Nat.reduceMul,Int.reduceToNat]
 refine n_val (r_indexAddrA Tryz.underlying163 cells_56 rfl rfl (by decide) (by decide) rfl) ?_
 simp only [ev,zD,zE,zF,zG]
 refine n_load rfl ((m.b 2 rfl).lies agg_56 cells_56 rfl rfl) ?_
 simp only [ev,zD,zE,zF,zG,zH,zI,zJ,zK,Nat.zero_add,Nat.reduceAdd,Nat.reduceMul,Int.reduceToNat]
 refine n_val (r_indexAddrA Tryz.underlying163 cells_56 rfl rfl (by decide) (by decide) rfl) ?_
 simp only [ev,zD,zE,zF,zG]
 refine n_load rfl ((m.b 2 rfl).lies agg_56 cells_56 rfl rfl) ?_
 simp only [ev,zD,zE,zF,zG,zH,zI,zJ,zK,Nat.zero_add,Nat.reduceAdd,Nat.reduceMul,Int.reduceToNat]
 refine n_val (r_indexAddrA Tryz.underlying163 cells_56 rfl rfl (by decide) (by decide) rfl) ?_
 simp only [ev,zD,zE,zF,zG]
 refine n_load rfl ((m.b 2 rfl).lies agg_56 cells_56 rfl rfl) ?_
 simp only [ev,zD,zE,zF,zG,zH,zI,zJ,zK,Nat.zero_add,Nat.reduceAdd,Nat.reduceMul,Int.reduceToNat]
 refine n_call rfl rfl (quad_c (a:=cubeC p 8 0) (b:=cubeC p 8 1) (c:=cubeC p 8 5) (d:=cubeC p 8 4) _) ?_
 rintro v u e ⟨A3,cap3,_,rfl,rfl,hN⟩; replace m:=m.newO e hN; clear e hN
 simp only [ev,zD,zE,zF,zG]
 refine mappend m 2 rfl rfl Tryz.underlying48 inf_58 rfl (by decide) rfl rfl (m.o 0 rfl).own.1 (m.o 0 rfl).row (tris_one _) (leT rfl) (leT rfl) ?_
 clear m; intro A1 cap1 u m; simp only [zF,zG] at m
 refine n_val (r_assign) (n_nil (k33 _ _ ?_))
 refine c_seq fun K34 k34=>wp_region_lit (n_val (r_move) (n_val (r_indexAddrA Tryz.underlying163 cells_56 rfl rfl (by decide) (by decide) rfl) ?_))
 simp only [ev,zD,zE,zF,zG]
 refine n_load rfl ((m.b 3 rfl).lies agg_56 cells_56 rfl rfl) ?_
 simp only [ev,zD,zE,zF,zG,zH,zI,zJ,zK,Nat.zero_add,Nat.reduceAdd,Nat.reduceMul,Int.reduceToNat]
 refine n_val (r_indexAddrA Tryz.underlying163 cells_56 rfl rfl (by decide) (by decide) rfl) ?_
 simp only [ev,zD,zE,zF,zG]
 refine n_load rfl ((m.b 3 rfl).lies agg_56 cells_56 rfl rfl) ?_
 simp only [ev,zD,zE,zF,zG,zH,zI,zJ,zK,Nat.zero_add,Nat.reduceAdd,Nat.reduceMul,Int.reduceToNat]
 refine n_val (r_indexAddrA Tryz.underlying163 cells_56 rfl rfl (by decide) (by decide) rfl) ?_
 simp only [ev,zD,zE,zF,zG]
 refine n_load rfl ((m.b 3 rfl).lies agg_56 cells_56 rfl rfl) ?_
 simp only [ev,zD,zE,zF,zG,zH,zI,zJ,zK,Nat.zero_add,Nat.reduceAdd,Nat.reduceMul,Int.reduceToNat]
 refine n_val (r_indexAddrA Tryz.underlying163 cells_56 rfl rfl (by decide) (by decide) rfl) ?_
 simp only [ev,zD,zE,zF,zG]
 refine n_load rfl ((m.b 3 rfl).lies agg_56 cells_56 rfl rfl) ?_
 simp only [ev,zD,zE,zF,zG,zH,zI,zJ,zK,Nat.zero_add,Nat.reduceAdd,Nat.reduceMul,Int.reduceToNat]
 refine n_call rfl rfl (quad_c (a:=cubeC p 8 2) (b:=cubeC p 8 6) (c:=cubeC p 8 7) (d:=cubeC p 8 3) _) ?_
 rintro v u e ⟨A4,cap4,_,rfl,rfl,hN⟩; replace m:=m.newO e hN; clear e hN
 simp only [ev,zD,zE,zF,zG]
 refine mappend m 3 rfl rfl Tryz.underlying48 inf_58 rfl (by decide) rfl rfl (m.o 0 rfl).own.1 (m.o 0 rfl).row (tris_one _) (leT rfl) (leT rfl) ?_
 clear m; intro A1 cap1 u m; simp only [zF,zG] at m
 refine n_val (r_assign) (n_nil (k34 _ _ ?_))
 refine c_seq fun K35 k35=>wp_region_lit (n_val (r_move) (n_val (r_indexAddrA Tryz.underlying163 cells_56 rfl rfl (by decide) (by decide) rfl) ?_))
 simp only [ev,zD,zE,zF,zG]
 refine n_load rfl ((m.b 4 rfl).lies agg_56 cells_56 rfl rfl) ?_
 simp only [ev,zD,zE,zF,zG,zH,zI,zJ,zK,Nat.zero_add,Nat.reduceAdd,Nat.reduceMul,Int.reduceToNat]
 refine n_val (r_indexAddrA Tryz.underlying163 cells_56 rfl rfl (by decide) (by decide) rfl) ?_
 simp only [ev,zD,zE,zF,zG]
 refine n_load rfl ((m.b 4 rfl).lies agg_56 cells_56 rfl rfl) ?_
 simp only [ev,zD,zE,zF,zG,zH,zI,zJ,zK,Nat.zero_add,Nat.reduceAdd,Nat.reduceMul,Int.reduceToNat]
 refine n_val (r_indexAddrA Tryz.underlying163 cells_56 rfl rfl (by decide) (by decide) rfl) ?_
 simp only [ev,zD,zE,zF,zG]
 refine n_load rfl ((m.b 4 rfl).lies agg_56 cells_56 rfl rfl) ?_
 simp only [ev,zD,zE,zF,zG,zH,zI,zJ,zK,Nat.zero_add,Nat.reduceAdd,Nat.reduceMul,Int.reduceToNat]
 refine n_val (r_indexAddrA Tryz.underlying163 cells_56 rfl rfl (by decide) (by decide) rfl) ?_
 simp only [ev,zD,zE,zF,zG]
 refine n_load rfl ((m.b 4 rfl).lies agg_56 cells_56 rfl rfl) ?_
 simp only [ev,zD,zE,zF,zG,zH,zI,zJ,zK,Nat.zero_add,Nat.reduceAdd,Nat.reduceMul,Int.reduceToNat]
 refine n_call rfl rfl (quad_c (a:=cubeC p 8 0) (b:=cubeC p 8 4) (c:=cubeC p 8 6) (d:=cubeC p 8 2) _) ?_
 rintro v u e ⟨A5,cap5,_,rfl,rfl,hN⟩; replace m:=m.newO e hN; clear e hN
 simp only [ev,zD,zE,zF,zG]
 refine mappend m 4 rfl rfl Tryz.underlying48 inf_58 rfl (by decide) rfl rfl (m.o 0 rfl).own.1 (m.o 0 rfl).row (tris_one _) (leT rfl) (leT rfl) ?_
 clear m; intro A1 cap1 u m; simp only [zF,zG] at m
 refine n_val (r_assign) (n_nil (k35 _ _ ?_))
 refine c_seq fun K36 k36=>wp_region_lit (n_val (r_move) (n_val (r_indexAddrA Tryz.underlying163 cells_56 rfl rfl (by decide) (by decide) rfl) ?_))
 simp only [ev,zD,zE,zF,zG]
 refine n_load rfl ((m.b 5 rfl).lies agg_56 cells_56 rfl rfl) ?_
 simp only [ev,zD,zE,zF,zG,zH,zI,zJ,zK,Nat.zero_add,Nat.reduceAdd,Nat.reduceMul,Int.reduceToNat]
 refine n_val (r_indexAddrA Tryz.underlying163 cells_56 rfl rfl (by decide) (by decide) rfl) ?_
 simp only [ev,zD,zE,zF,zG]
 refine n_load rfl ((m.b 5 rfl).lies agg_56 cells_56 rfl rfl) ?_
 simp only [ev,zD,zE,zF,zG,zH,zI,zJ,zK,Nat.zero_add,Nat.reduceAdd,Nat.reduceMul,Int.reduceToNat]
 refine n_val (r_indexAddrA Tryz.underlying163 cells_56 rfl rfl (by decide) (by decide) rfl) ?_
 simp only [ev,zD,zE,zF,zG]
 refine n_load rfl ((m.b 5 rfl).lies agg_56 cells_56 rfl rfl) ?_
 simp only [ev,zD,zE,zF,zG,zH,zI,zJ,zK,Nat.zero_add,Nat.reduceAdd,Nat.reduceMul,Int.reduceToNat]
 refine n_val (r_indexAddrA Tryz.underlying163 cells_56 rfl rfl (by decide) (by decide) rfl) ?_
 simp only [ev,zD,zE,zF,zG]
 refine n_load rfl ((m.b 5 rfl).lies agg_56 cells_56 rfl rfl) ?_
 simp only [ev,zD,zE,zF,zG,zH,zI,zJ,zK,Nat.zero_add,Nat.reduceAdd,Nat.reduceMul,Int.reduceToNat]
 refine n_call rfl rfl (quad_c (a:=cubeC p 8 1) (b:=cubeC p 8 3) (c:=cubeC p 8 7) (d:=cubeC p 8 5) _) ?_
 rintro v u e ⟨A6,cap6,_,rfl,rfl,hN⟩; replace m:=m.newO e hN; clear e hN
 simp only [ev,zD,zE,zF,zG]
 refine mappend m 5 rfl rfl Tryz.underlying48 inf_58 rfl (by decide) rfl rfl (m.o 0 rfl).own.1 (m.o 0 rfl).row (tris_one _) (leT rfl) (leT rfl) ?_
 clear m; intro A1 cap1 u m; simp only [zF,zG] at m
 refine n_val (r_assign) (n_nil (k36 _ _ ?_))
 refine wp_ret ?_
 simp only [ev,zD,zE,zF,zG]
 try simp only [Exit.inBlock,Exit.then,if_true]
 refine fin1 rfl rfl ?_
 try simp only [zD,zE]
 exact ⟨_,rfl,m.ext,⟨_,_,_,rfl,rfl,((m.o 5 rfl)).as (by simp only [cubeT,List.flatMap_append])⟩⟩
theorem Voxels_c {b : Nat} (w : World) (hb : b < 134217728) : Does Tryz.prog 53 [.int .i64 (b : Int),.int .i64 8,.agg #[.int .i64 4,.int .i64 5,.int .i64 6]] w (TS 58 (voxT b) w):=by
 refine ⟨en_53,?_⟩
 have m:=Mem.refl w
 have hb0:=hb
 go_enter Tryz.func53,Tryz.ntmps53
 refine c_seq fun K1 k1=>wp_region_lit (mboxA m rfl ?_)
 clear m; intro g1 u m
 refine n_val (r_assign) (n_nil (k1 _ _ ?_))
 refine c_seq fun K2 k2=>wp_region_lit (n_val (r_assign) ?_)
 replace m:=m.nilO 58 9
 refine n_nil (k2 _ _ ?_)
 refine c_seq fun K3 k3=>c_seq fun K4 k4=>wp_region_lit (n_val (r_assign) ?_)
 simp only [ev,zD,zE,zF,zG]
 refine n_nil (k4 _ _ ?_)
 refine wp_block ?_
 try simp only [Nat.zero_add,Nat.reduceAdd,Nat.reduceMul,Int.reduceToNat]
 refine c_loopg [7,8] [9,10,11,12,13,14,15,16,17,18,19,20,21,22,23,24,25,26,27,28,29,30,31,32,33,34,35,36,37,38,39,40,41,42,43,44,45,46,47,48,49,50,51,52,53,54,55,56,57,58,59,60,61,62,63,64,65,66,67,68,69,70,71,72,73,74,75,76,77,78,79,80,81,82,83,84,85,86,87,88,89,90,91,92,93,94,95,96,97,98,99,100,101,102,103,104,105,106,107,108,109,110,111,112,113,114,115,116,117,118,119,120,121,122,123,124,125,126,127,128,129,130,131,132,133,134,135,136,137,138,139] (fun n vs wl=>∃ (A1 : Option Addr) (cap1 k : Nat),vs = [.slice A1 (voxPre b (k) (0)).length cap1,.int .i64 (k:Int)] ∧ Mem w wl [oI 58 9 A1 (voxPre b (k) (0)).length cap1 ((voxPre b (k) (0)).flatMap triCells),bI g1 [.int .i64 4,.int .i64 5,.int .i64 6] 56] ∧ (k ≤ 27) ∧ (n = 27 - k)) ?_ ?_
 ·
  apply Exists.intro
  simp only [zQ,zR,zD,zE]
  exact ⟨none,0,0,rfl,m,Nat.zero_le _,rfl⟩
 ·
  intro n vs wr hI u
  clear m
  obtain ⟨A1,cap1,k,rfl,m,hk,hn⟩:=hI
  simp only [setG_cons,setG_nil,setMany_cons,setMany_nil,zF,zG]
  refine c_seq fun K5 k5=>c_seq fun K6 k6=>wp_region_lit (n_val (r_move) (n_val (r_lss rfl rfl) (n_nil (k6 _ _ ?_))))
  simp only [ev,zD,zE,zF,zG]
  refine c_if rfl (fun hc1=>?_) (fun hc1=>?_)
  ·
   refine wp_skip (k5 _ _ ?_)
   refine c_seq fun K7 k7=>wp_block (c_seq fun K8 k8=>wp_region_lit (n_val (r_move) ?_))
   simp only [ev,zD,zE,zF,zG]
   refine n_val (r_rem rfl rfl (by omega) (tmodN (k:=k) (c:=3))) (n_val (r_assign) (n_nil (k8 _ _ ?_)))
   refine c_seq fun K9 k9=>wp_region_lit (n_val (r_move) ?_)
   simp only [ev,zD,zE,zF,zG]
   refine n_val (r_quo rfl rfl (by omega) (quo_i64' (n:=3) (by omega))) ?_
   simp only [ev,zD,zE,zF,zG]
   refine n_val (r_rem rfl rfl (by omega) (tmodN (k:=k / 3) (c:=3))) (n_val (r_assign) (n_nil (k9 _ _ ?_)))
   refine c_seq fun K10 k10=>wp_region_lit (n_val (r_move) ?_)
   simp only [ev,zD,zE,zF,zG]
   refine n_val (r_quo rfl rfl (by omega) (quo_i64' (n:=9) (by omega))) (n_val (r_assign) (n_nil (k10 _ _ ?_)))
   refine c_seq fun K11 k11=>c_seq fun K12 k12=>wp_region_lit (n_val (r_move) (n_val (r_move) ?_))
   simp only [ev,zD,zE,zF,zG]
   refine n_val (r_conv Tryz.underlying103 Tryz.underlying3 rfl (wrap_u64 (by omega) (by omega))) ?_
   simp only [ev,zD,zE,zF,zG]
   refine n_val (r_shr rfl rfl (by omega) (shrI (by omega) (by omega))) (n_val (r_and rfl rfl (and1 (div_le hb))) (n_val (r_eql rfl rfl) (n_nil (k12 _ _ ?_))))
   simp only [ev,zD,zE,zF,zG]
   refine c_if rfl (fun hc2=>?_) (fun hc2=>?_)
   ·
    have hv : vbit b k = false:=by unfold vbit; exact decide_eq_false (by have:=hc2; simp only [Int.toNat_natCast] at this; omega)
    rw [voxPre_no hv] at m ⊢
    refine wp_exit (k7 _ _ ?_)
    refine wp_region_lit (n_val (r_move) ?_)
    simp only [ev,zD,zE,zF,zG]
    refine n_val (r_add rfl rfl (wrap_i64 (by omega) (by omega))) (n_val (r_assign) (n_nil ?_))
    simp only [ev,zD,zE,zF,zG]
    simp only [Exit.inBlock,Exit.then]
    refine ⟨27 - (k + 1),_,?_,rfl,?_,?_⟩
    · omega
    · simp only [zQ,zR,zD,zE,setG_cons,setG_nil,setMany_cons,setMany_nil,zF,zG]
    ·
     simp only [zQ,zR,zD,zE]
     exact ⟨_,_,k + 1,rfl,m,by omega,rfl⟩
   ·
    have hv : vbit b k = true:=by unfold vbit; exact decide_eq_true (by have:=hc2; simp only [Int.toNat_natCast] at this; omega)
    refine wp_skip (k11 _ _ ?_)
    refine c_seq fun K13 k13=>wp_region_lit (n_val (r_fieldAddr (c:=0) Tryz.underlying56 rfl cells_3 rfl rfl) ?_)
    simp only [ev,zD,zE,zF,zG]
    refine n_load rfl ((m.b 1 rfl).lies1 agg_3 rfl) ?_
    simp only [ev,zD,zE,zF,zG]
    refine n_val (r_move) (n_val (r_move) ?_)
    simp only [ev,zD,zE,zF,zG]
    refine n_val (r_mul rfl rfl (wrap_i64 (by omega) (by omega))) ?_
    simp only [ev,zD,zE,zF,zG]
    refine n_val (r_add rfl rfl (wrap_i64 (by omega) (by omega))) (n_val (r_fieldAddr (c:=0) Tryz.underlying56 rfl cells_3 rfl rfl) ?_)
    simp only [ev,zD,zE,zF,zG]
    refine n_load rfl ((m.b 1 rfl).lies1 agg_3 rfl) ?_
    simp only [ev,zD,zE,zF,zG]
    refine n_val (r_move) (n_val (r_move) ?_)
    simp only [ev,zD,zE,zF,zG]
    refine n_val (r_mul rfl rfl (wrap_i64 (by omega) (by omega))) ?_
    simp only [ev,zD,zE,zF,zG]
    refine n_val (r_add rfl rfl (wrap_i64 (by omega) (by omega))) (n_val (r_fieldAddr (c:=0) Tryz.underlying56 rfl cells_3 rfl rfl) ?_)
    simp only [ev,zD,zE,zF,zG]
    refine n_load rfl ((m.b 1 rfl).lies1 agg_3 rfl) ?_
    simp only [ev,zD,zE,zF,zG]
    refine n_val (r_move) (n_val (r_move) ?_)
    simp only [ev,zD,zE,zF,zG]
    refine n_val (r_mul rfl rfl (wrap_i64 (by omega) (by omega))) ?_
    simp only [ev,zD,zE,zF,zG]
    refine n_val (r_add rfl rfl (wrap_i64 (by omega) (by omega))) (n_val (r_build_56_0_1_2 rfl rfl rfl) ?_)
    simp only [ev,zD,zE,zF,zG]
    refine malloc m zero_56 rfl ?_
    clear m; intro g2 u m
    simp only [ev,zD,zE,zF,zG]
    refine mstoreA m 0 rfl rfl rfl cells_56 (leT rfl) rfl ?_
    clear m; intro u m; simp only [over,zH,zI,zJ,zK,zL,zM,zN,zO,zP,zF,zG,Nat.reduceAdd] at m
    refine n_nil (k13 _ _ ?_)
    refine c_seq fun K14 k14=>wp_region_lit (n_load rfl ((m.b 0 rfl).full agg_56 cells_56) ?_)
    simp only [ev,zD,zE,zF,zG]
    refine n_val (r_move) ?_
    simp only [ev,zD,zE,zF,zG]
    refine n_call rfl rfl (cube_c (p:=vP k) _ (vP_sm (by omega))) ?_
    rintro v u e ⟨A2,cap2,_,rfl,rfl,hN⟩; replace m:=m.newO e hN; clear e hN
    obtain ⟨gc,rfl⟩:=(m.o 0 rfl).some (by rw [cubeT_length]; decide)
    rw [cubeT_length] at m ⊢
    refine n_val (r_assign) (n_nil (k14 _ _ ?_))
    refine c_seq fun K15 k15=>wp_region_lit (n_val (r_build_23_0_1_2 rfl rfl rfl) (n_val (r_build_23_0_1_2 rfl rfl rfl) ?_))
    simp only [ev,zD,zE,zF,zG]
    refine n_val (r_build_23_0_1_2 rfl rfl rfl) (n_val (r_build_23_0_1_2 rfl rfl rfl) (n_val (r_build_23_0_1_2 rfl rfl rfl) (n_val (r_build_23_0_1_2 rfl rfl rfl) ?_)))
    simp only [ev,zD,zE,zF,zG]
    refine n_val (r_build_134_0_1_2_3_4_5 rfl rfl rfl rfl rfl rfl) ?_
    simp only [ev,zD,zE,zF,zG]
    refine malloc m zero_134 rfl ?_
    clear m; intro g3 u m
    simp only [ev,zD,zE,zF,zG]
    refine mstoreA m 0 rfl rfl rfl cells_134 (leT rfl) rfl ?_
    clear m; intro u m; simp only [over,zH,zI,zJ,zK,zL,zM,zN,zO,zP,zF,zG,Nat.reduceAdd] at m
    refine n_nil (k15 _ _ ?_)
    refine c_seq fun K16 k16=>wp_region_lit (n_val (r_assign) (n_nil (k16 _ _ ?_)))
    refine wp_block ?_
    simp only [ev,zD,zE,zF,zG]
    try simp only [Nat.zero_add,Nat.reduceAdd,Nat.reduceMul,Int.reduceToNat]
    refine c_loopg [7,15] [16,17,18,19,66,67,68,69,70,71,72,73,74,75,76,77,78,79,80,81,82,83,84,85,86,87,88,89,90,91,92,93,94,95,96,97,98,99,100,101,102,103,104,105,106,107,108,109,110,111,112,113,114,115,116,117,118,119,120,121,122,123,124,125,126,127,128,129,130,131,132,133,134,135,136,137,138,139] (fun n vs wl=>∃ (A1 : Option Addr) (cap1 f : Nat),vs = [.slice A1 (voxPre b (k) (f)).length cap1,.int .i64 (f:Int)] ∧ Mem w wl [bI g3 stepCells 134,oI 58 9 (some ⟨gc,0,none⟩) 12 cap2 ((cubeT (vP k) 8).flatMap triCells),oI 58 9 A1 (voxPre b (k) (f)).length cap1 ((voxPre b (k) (f)).flatMap triCells),bI g1 [.int .i64 4,.int .i64 5,.int .i64 6] 56] ∧ (f ≤ 6) ∧ (n = 6 - f)) ?_ ?_
    ·
     apply Exists.intro
     simp only [zQ,zR,zD,zE]
     exact ⟨_,_,0,rfl,(m.sel [true,true,false,true,true]),Nat.zero_le _,rfl⟩
    ·
     intro n vs wr hI u
     clear m
     obtain ⟨A1,cap1,f,rfl,m,hf6,hn2⟩:=hI
     simp only [setG_cons,setG_nil,setMany_cons,setMany_nil,zF,zG]
     refine c_seq fun K17 k17=>c_seq fun K18 k18=>wp_region_lit (n_val (r_move) (n_val (r_lss rfl rfl) (n_nil (k18 _ _ ?_))))
     simp only [ev,zD,zE,zF,zG]
     refine c_if rfl (fun hc3=>?_) (fun hc3=>?_)
     ·
      have hf : f < 6:=by omega
      have hs:=st_bd f
      obtain ⟨t,u0,ht,hu,hpr⟩:=vox_at (n:=k) hf
      refine wp_skip (k17 _ _ ?_)
      refine c_seq fun K19 k19=>wp_block (c_seq fun K20 k20=>wp_region_lit (n_val (r_move) (n_val (r_move) ?_)))
      simp only [ev,zD,zE,zF,zG]
      refine n_val (r_indexAddrA Tryz.underlying134 cells_23 rfl rfl (by omega) (by omega) (addrBN (Int.toNat_natCast _))) (n_val (r_indexAddrA Tryz.underlying23 cells_3 rfl rfl (by decide) (by decide) rfl) ?_)
      simp only [ev,zD,zE,zF,zG]
      refine n_load rfl ((m.b 0 rfl).lies1 (i:=f * 3) agg_3 (stc_x hf)) ?_
      simp only [ev,zD,zE,zF,zG]
      refine n_val (r_add rfl rfl (wrap_i64 (by omega) (by omega))) (n_val (r_assign) (n_nil (k20 _ _ ?_)))
      refine c_seq fun K21 k21=>wp_region_lit (n_val (r_move) (n_val (r_move) ?_))
      simp only [ev,zD,zE,zF,zG]
      refine n_val (r_indexAddrA Tryz.underlying134 cells_23 rfl rfl (by omega) (by omega) (addrBN (Int.toNat_natCast _))) (n_val (r_indexAddrA Tryz.underlying23 cells_3 rfl rfl (by decide) (by decide) rfl) ?_)
      simp only [ev,zD,zE,zF,zG]
      refine n_load rfl ((m.b 0 rfl).lies1 (i:=f * 3 + 1) agg_3 (stc_y hf)) ?_
      simp only [ev,zD,zE,zF,zG]
      refine n_val (r_add rfl rfl (wrap_i64 (by omega) (by omega))) (n_val (r_assign) (n_nil (k21 _ _ ?_)))
      refine c_seq fun K22 k22=>wp_region_lit (n_val (r_move) (n_val (r_move) ?_))
      simp only [ev,zD,zE,zF,zG]
      refine n_val (r_indexAddrA Tryz.underlying134 cells_23 rfl rfl (by omega) (by omega) (addrBN (Int.toNat_natCast _))) (n_val (r_indexAddrA Tryz.underlying23 cells_3 rfl rfl (by decide) (by decide) rfl) ?_)
      simp only [ev,zD,zE,zF,zG]
      refine n_load rfl ((m.b 0 rfl).lies1 (i:=f * 3 + 2) agg_3 (stc_z hf)) ?_
      simp only [ev,zD,zE,zF,zG]
      refine n_val (r_add rfl rfl (wrap_i64 (by omega) (by omega))) (n_val (r_assign) (n_nil (k22 _ _ ?_)))
      refine c_seq fun K23 k23=>wp_region_lit (n_val (r_move) (n_val (r_geq rfl rfl) ?_))
      simp only [ev,zD,zE,zF,zG]
      refine n_val (r_move) (n_mayT rfl (fun hb=>r_move) (n_mayT rfl (fun hb=>r_lss (mayE hb rfl) rfl) (n_val (r_pickAnd rfl rfl rfl) ?_)))
      simp only [ev,zD,zE,zF,zG]
      refine n_val (r_move) (n_mayT rfl (fun hb=>r_move) (n_mayT rfl (fun hb=>r_geq (mayE hb rfl) rfl) (n_val (r_pickAnd rfl rfl rfl) ?_)))
      simp only [ev,zD,zE,zF,zG]
      refine n_val (r_move) (n_mayT rfl (fun hb=>r_move) (n_mayT rfl (fun hb=>r_lss (mayE hb rfl) rfl) (n_val (r_pickAnd rfl rfl rfl) ?_)))
      simp only [ev,zD,zE,zF,zG]
      refine n_val (r_move) (n_mayT rfl (fun hb=>r_move) (n_mayT rfl (fun hb=>r_geq (mayE hb rfl) rfl) (n_val (r_pickAnd rfl rfl rfl) ?_)))
      simp only [ev,zD,zE,zF,zG]
      refine n_val (r_move) (n_mayT rfl (fun hb=>r_move) (n_mayT rfl (fun hb=>r_lss (mayE hb rfl) rfl) (n_val (r_pickAnd rfl rfl rfl) ?_)))
      simp only [ev,zD,zE,zF,zG]
      refine n_val (r_assign) (n_nil (k23 _ _ ?_))
      refine c_seq fun K24 k24=>wp_region_lit (n_val (r_move) (n_val (r_not rfl) (n_val (r_move) ?_)))
      simp only [ev,zD,zE,zF,zG]
      refine n_mayF rfl (fun hb=>r_move) (n_mayF rfl (fun hb=>r_move) ?_)
      simp only [ev,zD,zE,zF,zG]
      refine n_mayF rfl (fun hb=>r_mul (mayE hb rfl) rfl (wrap_i64 (by omega) (by omega))) (n_mayF rfl (fun hb=>r_move) ?_)
      simp only [ev,zD,zE,zF,zG]
      refine n_mayF rfl (fun hb=>r_add (mayE hb rfl) (mayE hb rfl) (wrap_i64 (by omega) (by omega))) ?_
      simp only [ev,zD,zE,zF,zG]
      refine n_mayF rfl (fun hb=>r_mul (mayE hb rfl) rfl (wrap_i64 (by omega) (by omega))) (n_mayF rfl (fun hb=>r_move) ?_)
      simp only [ev,zD,zE,zF,zG]
      refine n_mayF rfl (fun hb=>r_add (mayE hb rfl) (mayE hb rfl) (wrap_i64 (by omega) (by omega))) (n_mayF rfl (fun hb=>r_conv Tryz.underlying103 Tryz.underlying3 (mayE hb rfl) (wrap_u64 (by have h:=vin hb; omega) (by have h:=vin hb; omega))) ?_)
      simp only [ev,zD,zE,zF,zG]
      refine n_mayF rfl (fun hb=>r_shr (mayE hb rfl) (mayE hb rfl) (by have h:=vin hb; omega) (shrI (by have h:=vin hb; omega) (by have h:=vin hb; omega))) (n_mayF rfl (fun hb=>r_and (mayE hb rfl) rfl (and1 (div_le hb0))) (n_mayF rfl (fun hb=>r_eql (mayE hb rfl) rfl) (n_val (r_pickOr rfl rfl rfl) ?_)))
      simp only [ev,zD,zE,zF,zG]
      refine n_nil (k24 _ _ ?_)
      refine c_cond rfl (fun hc4=>?_) (fun hc4=>?_)
      ·
       have hvf:=(vface_eq (b:=b) (n:=k) (f:=f)).symm.trans hc4
       refine mh m [true,true,false,true] [(0,true),(1,true),(2,true),(3,true),(4,true),(6,true),(7,true),(8,true),(9,true),(10,true),(5,true),(11,true),(12,false),(13,false),(14,true)] follows_mixed (by kernel_rfl) (panic_put (fun _ _ _ _ _ h=>h)) (ol:=?_) ?hol ?_
       case hol=>simp only [zQ,zR,zS,zT,zU,zV]; try rfl
       clear m; intro u m
       refine h_val (r_move) (h_val (r_move) (h_val (r_move) ?_))
       simp only [ev,zD,zE,zF,zG]
       refine h_val (r_mul rfl rfl (wrap_i64 (by omega) (by omega))) ?_
       simp only [ev,zD,zE,zF,zG]
       refine h_val (r_indexAddrS Tryz.underlying48 cells_58 rfl rfl (by omega) (by omega) (addrN (show _ = 2 * f by omega))) (h_val (r_move) (h_val (r_move) ?_))
       simp only [ev,zD,zE,zF,zG]
       refine h_val (r_mul rfl rfl (wrap_i64 (by omega) (by omega))) ?_
       simp only [ev,zD,zE,zF,zG]
       refine h_val (r_add rfl rfl (wrap_i64 (by omega) (by omega))) ?_
       simp only [ev,zD,zE,zF,zG]
       refine h_val (r_indexAddrS Tryz.underlying48 cells_58 rfl rfl (by omega) (by omega) (addrN (show _ = 2 * f + 1 by omega))) ?_
       simp only [ev,zD,zE,zF,zG]
       refine h_load rfl (fun u m=>(((m.o 1 rfl).tri ht).lies agg_58 cells_58)) ?_
       simp only [ev,zD,zE,zF,zG]
       refine h_load rfl (fun u m=>(((m.o 1 rfl).tri hu).lies agg_58 cells_58)) ?_
       simp only [ev,zD,zE,zF,zG]
       refine h_step (n_bs_48_2 rfl rfl ?_)
       intro u g4 e hg hB; replace m:=m.newB e hg hB; clear e hg hB
       refine n_nil ?_
       refine ⟨m.sel [false,true,true,false,true],?_⟩
       refine h_step ?_
       simp only [ev,zD,zE,zF,zG]
       refine mappend m 3 rfl rfl Tryz.underlying48 inf_58 rfl (by decide) rfl rfl rfl (m.b 0 rfl).rowsO (allT rfl) (by have:=voxPre_le (b:=b) (n:=k) (f:=f) (by omega) (by omega); omega) (by have:=voxPre_le (b:=b) (n:=k) (f:=f) (by omega) (by omega); omega) ?_
       clear m; intro A1 cap1 u m; simp only [zF,zG] at m
       rw [vox_cells hpr hvf,vox_len hf hvf] at m
       rw [vox_len hf hvf]
       refine n_nil ?_
       refine ⟨m.sel [false,true,true,false,true],?_⟩
       refine h_val (r_assign) (h_nil (k19 _ _ ?_))
       refine wp_region_lit (n_val (r_move) ?_)
       simp only [ev,zD,zE,zF,zG]
       refine n_val (r_add rfl rfl (wrap_i64 (by omega) (by omega))) (n_val (r_assign) (n_nil ?_))
       simp only [ev,zD,zE,zF,zG]
       simp only [Exit.inBlock,Exit.then]
       refine ⟨6 - (f + 1),_,?_,rfl,?_,?_⟩
       · omega
       · simp only [zQ,zR,zD,zE,setG_cons,setG_nil,setMany_cons,setMany_nil,zF,zG]
       ·
        simp only [zQ,zR,zD,zE]
        exact ⟨_,_,f + 1,rfl,(m.sel [false,true,true,true,true]),by omega,rfl⟩
      ·
       have hvf:=(vface_eq (b:=b) (n:=k) (f:=f)).symm.trans hc4
       rw [← voxPre_out hvf] at m ⊢
       refine wp_skip (k19 _ _ ?_)
       refine wp_region_lit (n_val (r_move) ?_)
       simp only [ev,zD,zE,zF,zG]
       refine n_val (r_add rfl rfl (wrap_i64 (by omega) (by omega))) (n_val (r_assign) (n_nil ?_))
       simp only [ev,zD,zE,zF,zG]
       simp only [Exit.inBlock,Exit.then]
       refine ⟨6 - (f + 1),_,?_,rfl,?_,?_⟩
       · omega
       · simp only [zQ,zR,zD,zE,setG_cons,setG_nil,setMany_cons,setMany_nil,zF,zG]
       ·
        simp only [zQ,zR,zD,zE]
        exact ⟨_,_,f + 1,rfl,m,by omega,rfl⟩
     ·
      have hfq : f = 6:=by omega
      rw [hfq,voxPre_yes hv] at m ⊢
      refine wp_exit (k7 _ _ ?_)
      refine wp_region_lit (n_val (r_move) ?_)
      simp only [ev,zD,zE,zF,zG]
      refine n_val (r_add rfl rfl (wrap_i64 (by omega) (by omega))) (n_val (r_assign) (n_nil ?_))
      simp only [ev,zD,zE,zF,zG]
      simp only [Exit.inBlock,Exit.then]
      refine ⟨27 - (k + 1),_,?_,rfl,?_,?_⟩
      · omega
      · simp only [zQ,zR,zD,zE,setG_cons,setG_nil,setMany_cons,setMany_nil,zF,zG]
      ·
       simp only [zQ,zR,zD,zE]
       exact ⟨_,_,k + 1,rfl,(m.sel [false,false,true,true]),by omega,rfl⟩
  ·
   have hkq : k = 27:=by omega
   rw [hkq,voxPre_end] at m ⊢
   refine wp_exit (k3 _ _ ?_)
   refine c_seq fun K25 k25=>wp_region_lit (n_val (r_move) (n_val (r_assign) (n_nil (k25 _ _ ?_))))
   refine wp_ret ?_
   simp only [ev,zD,zE,zF,zG]
   try simp only [Exit.inBlock,Exit.then,if_true]
   refine fin1 rfl rfl ?_
   try simp only [zD,zE]
   exact ⟨_,rfl,m.ext,⟨_,_,_,rfl,rfl,(m.o 0 rfl)⟩⟩
theorem Base_c {kind bits : Int} [Iw kind] [Iw bits] {N cap : Nat} {A : Option Addr} {zs : List Int} (w : World) (hZ : IntsAt w A N zs) : Does Tryz.prog 35 [.int .i64 kind,.int .i64 bits,.slice A N cap] w (TS 58 (baseT kind bits zs) w):=by
 refine ⟨en_35,?_⟩
 have m:=Mem.refl w
 have hbb:=emod_bd (n:=bits) (m:=134217728) (by decide)
 haveI : Iw (kind.tdiv 3):=⟨(tdiv3_bd (Iw.h (n:=kind))).2⟩
 go_enter Tryz.func35,Tryz.ntmps35
 refine c_seq fun K1 k1=>wp_region_lit (n_val (r_assign) (n_nil (k1 _ _ ?_)))
 refine c_seq fun K2 k2=>c_seq fun K3 k3=>wp_region_lit (n_val (r_move) ?_)
 simp only [ev,zD,zE,zF,zG]
 refine mcallP m rfl rfl (r1Mod_c (n:=kind) (k:=3) (by decide) (by decide)) ?_
 clear m; intro u m
 refine n_val (r_eql rfl rfl) (n_nil (k3 _ _ ?_))
 simp only [ev,zD,zE,zF,zG]
 refine c_if rfl (fun hc1=>?_) (fun hc1=>?_)
 ·
  refine c_seq fun K4 k4=>wp_region_lit (n_val (r_move) ?_)
  simp only [ev,zD,zE,zF,zG]
  refine mcallP m rfl rfl (r1Mod_c (n:=bits) (k:=134217728) (by decide) (by decide)) ?_
  clear m; intro u m
  refine n_val (r_build_56_0_1_2 rfl rfl rfl) ?_
  simp only [ev,zD,zE,zF,zG]
  rw [show bits % 134217728 = (((bits % 134217728).toNat : Nat) : Int) by omega]
  refine n_call rfl rfl (Voxels_c (b:=(bits % 134217728).toNat) _ (by omega)) ?_
  rintro v u e ⟨A1,cap1,_,rfl,rfl,hN⟩; replace m:=m.newO e hN; clear e hN
  refine n_val (r_assign) (n_nil (k4 _ _ ?_))
  refine wp_ret ?_
  simp only [ev,zD,zE,zF,zG]
  try simp only [Exit.inBlock,Exit.then,if_true]
  refine fin1 rfl rfl ?_
  try simp only [zD,zE]
  exact ⟨_,rfl,m.ext,by rw [baseT,if_pos hc1]; exact ⟨_,_,_,rfl,rfl,(m.o 0 rfl)⟩⟩
 ·
  refine wp_skip (k2 _ _ ?_)
  refine c_seq fun K5 k5=>wp_region_lit (n_val (r_move) ?_)
  simp only [ev,zD,zE,zF,zG]
  refine n_val (r_quo rfl rfl (by omega) (tdiv3_bd (Iw.h (n:=kind))).1) (n_val (r_move) ?_)
  simp only [ev,zD,zE,zF,zG]
  refine n_call rfl rfl (Hills_c (n0:=kind.tdiv 3) _ (hZ.ext m.ext)) ?_
  rintro v u e ⟨A1,cap1,_,rfl,rfl,hN⟩; replace m:=m.newO e hN; clear e hN
  refine n_val (r_assign) (n_nil (k5 _ _ ?_))
  refine wp_ret ?_
  simp only [ev,zD,zE,zF,zG]
  try simp only [Exit.inBlock,Exit.then,if_true]
  refine fin1 rfl rfl ?_
  try simp only [zD,zE]
  exact ⟨_,rfl,m.ext,by rw [baseT,if_neg hc1]; exact ⟨_,_,_,rfl,rfl,(m.o 0 rfl)⟩⟩
end Go.Proofs.YtimjandkmfcmiaaGreatDoor
