/-
  Texts of one claim, laid together: Map, Map2, Rchk, Rchk2, Moves, Join.
-/
import Derived.OpenVars
import Derived.OpenShut
import Derived.WalkKit
import Derived.ProofKit
import Derived.Test.YtmcgcnpgkkfkoaaGreatDoorM5
set_option maxHeartbeats 8000000
set_option linter.unusedSimpArgs false
set_option linter.unusedVariables false
set_option linter.unusedSectionVars false
namespace Go.Lith
open Go.RowKit Go.ChangeMaps Go.MapKept
/-! ### Lists of pairs -/
section
variable {K V : Type} [DecidableEq K]
end
/-! ### A map's entries -/
def mpr (e : MapEntry) : Value × Value:=(e.key,e.val)
structure MapOf {K V : Type} (ek : K → Value) (ev : V → Value) (D : List (K × V)) (es : Array MapEntry) (c : Nat) : Prop where
  cells : es.toList.map mpr = D.map fun x=>(ek x.1,ev x.2)
  born : ∀ e ∈ es.toList,e.born < c
  nd : (es.toList.map (·.born)).Nodup
theorem MapOf.nil {K V : Type} (ek : K → Value) (ev : V → Value) : MapOf ek ev ([] : List (K × V)) #[] 0:=⟨rfl,fun _ h=>by simp at h,by simp⟩
theorem MapOf.len {K V : Type} {ek : K → Value} {ev : V → Value} {D : List (K × V)} {es : Array MapEntry} {c : Nat} (h : MapOf ek ev D es c) : es.size = D.length:=by
  have:=congrArg List.length h.cells
  simpa using this
structure KeyT {K : Type} [DecidableEq K] (P : Program) (T : TypeId) (ek : K → Value) : Prop where
  chk : ∀ e k w,(Instr.checkKey e 10000 T (ek k)).run P w = .ok () w
  now : ∃ t,P.underlying T = some t ∧ ∀ a b,Instr.sameNow t (ek a) (ek b) = none ∨ Instr.sameNow t (ek a) (ek b) = some (decide (a = b))
  eq : ∀ a b w,(Op.equal T (ek a) (ek b)).run P w = .ok (decide (a = b)) w
  bits : ∀ a,Instr.sameBits 10000 (ek a) (ek a) = true
section
variable {K V : Type} [DecidableEq K] {P : Program} {T : TypeId} {ek : K → Value} {ev : V → Value}
end
section
variable {K V : Type} [DecidableEq K] {P : Program} {T M E ty : TypeId} {ek : K → Value} {ev : V → Value} {w w0 : World} {g c : Nat} {es : Array MapEntry} {D : List (K × V)}
theorem map_set_of {α β : Type} (f : α → β) (L : List α) (i : Nat) (x : α) (g : α → α) (hi : L[i]? = some x) : (L.modify i g).map f = (L.map f).set i (f (g x)):=by
  apply List.ext_getElem?
  intro j
  simp only [List.getElem?_map,List.getElem?_modify,List.getElem?_set,List.length_map]
  by_cases e : i = j
  · subst e
    rw [hi]
    have:=(List.getElem?_eq_some_iff.1 hi).1
    simp [this]
  · simp [e]
theorem MapOf.set (hD : MapOf ek ev D es c) {p : Nat} {k : K} {v : V} (hp : D[p]? = some (k,v)) (u : V) : MapOf ek ev (D.set p (k,u)) (es.modify p fun e=>{ e with key:=ek k,val:=ev u }) c:=by
  have hl : es.toList.length = D.length:=by have:=congrArg List.length hD.cells; simpa using this
  have hlt : p < es.toList.length:=by rw [hl]; exact (List.getElem?_eq_some_iff.1 hp).1
  have hx : es.toList[p]? = some es.toList[p]:=List.getElem?_eq_getElem hlt
  have hb : (es.modify p fun e=>{ e with key:=ek k,val:=ev u }).toList.map (·.born) = es.toList.map (·.born):=by
    rw [Array.toList_modify,map_set_of _ _ _ _ _ hx]
    apply List.ext_getElem?
    intro j
    rw [List.getElem?_set]
    split
    · rename_i e; subst e; rw [if_pos (by simpa using hlt),List.getElem?_map,hx]; rfl
    · rfl
  refine ⟨?_,fun e he=>?_,by rw [hb]; exact hD.nd⟩
  · rw [Array.toList_modify,map_set_of _ _ _ _ _ hx,hD.cells,List.map_set]
    rfl
  · have : e.born ∈ (es.modify p fun e=>{ e with key:=ek k,val:=ev u }).toList.map (·.born):=List.mem_map.2 ⟨e,he,rfl⟩
    rw [hb] at this
    obtain ⟨e',he',hh⟩:=List.mem_map.1 this
    rw [← hh]
    exact hD.born e' he'
theorem MapOf.push (hD : MapOf ek ev D es c) (k : K) (u : V) : MapOf ek ev (D ++ [(k,u)]) (es.push { key:=ek k,val:=ev u,born:=c }) (c + 1):=by
  refine ⟨by simp [hD.cells,mpr],fun e he=>?_,?_⟩
  · rw [Array.toList_push] at he
    rcases List.mem_append.1 he with he | he
    · exact Nat.lt_succ_of_lt (hD.born e he)
    · rw [List.mem_singleton.1 he]; exact Nat.lt_succ_self _
  · rw [Array.toList_push,List.map_append]
    refine List.nodup_append.2 ⟨hD.nd,by simp,fun a ha b hb e=>?_⟩
    obtain ⟨e',he',rfl⟩:=List.mem_map.1 ha
    have : b = c:=by simpa using hb
    have:=hD.born e' he'
    omega
/-! ### Ranges -/
def Trav (ek : K → Value) (ev : V → Value) (D : List (K × V)) (es : Array MapEntry) (seen : Array Nat) (dn rs : List (K × V)) : Prop :=
  (dn ++ rs).Perm D ∧ ∃ dE rE : List MapEntry,seen.toList = dE.map (·.born) ∧ (dE ++ rE).Perm es.toList ∧ dE.map mpr = dn.map (fun x=>(ek x.1,ev x.2)) ∧ rE.map mpr = rs.map (fun x=>(ek x.1,ev x.2))
theorem Trav.done {seen : Array Nat} {dn : List (K × V)} (h : Trav ek ev D es seen dn []) : dn.Perm D:=by simpa using h.1
end
/-! ### Things in memory -/
def mI (g : Nat) (es : Array MapEntry) (c : Nat) : It where
  id:=some g
  P w:=MapB w g es c
  lt w b h e:=by cases e; exact h.lt
  st w w' h _ k:=(k g rfl).trans h
def iI (r g c : Nat) (seen : Array Nat) : It where
  id:=some r
  P w:=IterB w r g c seen c
  lt w b h e:=by cases e; exact h.lt
  st w w' h _ k:=(k r rfl).trans h
theorem Mem.p {w0 w : World} {is : List It} (m : Mem w0 w is) (k : Nat) {g c : Nat} {es : Array MapEntry} (hk : is[k]? = some (mI g es c)) : MapB w g es c:=m.get k hk
theorem Mem.r {w0 w : World} {is : List It} (m : Mem w0 w is) (k : Nat) {r g c : Nat} {seen : Array Nat} (hk : is[k]? = some (iI r g c seen)) : IterB w r g c seen c:=m.get k hk
section
variable {K V : Type} [DecidableEq K] {P : Program} {T M E ty : TypeId} {ek : K → Value} {ev : V → Value} {w w0 : World} {g c : Nat} {es : Array MapEntry} {D : List (K × V)} {is : List It}
variable {ds : List Deferred} {l : List Value} {x y z : Operand} {ops : Array Oper} {Q : Exit → Act → World → Prop} {rest : List Oper} {d : Nat} {pos : String} {after : Array Edge}
end
end Go.Lith
namespace Go.Lith
open Go.RowKit Go.ChangeMaps Go.MapKept
section
variable {K V : Type} [DecidableEq K] {P : Program} {T M E ty : TypeId} {ek : K → Value} {en : V → Value} {w w0 : World} {g c : Nat} {es : Array MapEntry} {D : List (K × V)} {is : List It}
variable {ds : List Deferred} {l : List Value} {x y z : Operand} {ops : Array Oper} {Q : Exit → Act → World → Prop} {rest : List Oper} {d : Nat} {pos : String} {after : Array Edge}
theorem mcallF {f : FuncId} {fo : Operand} {xs : Array Operand} {args : List Value} {first cap : Array Value} {a0 : Array TypeId} {R : Value → It → Prop} (m : Mem w0 w is) (k : Nat) (hE : Enters P f) (hf : ev l fo = .func (.func f) first cap) (hxs : first.toList ++ xs.toList.map (ev l) ++ cap.toList = args)
    (hc : Mem w0 w is → Calls P f args.toArray w fun e w'=>∃ v i,e = .returned v ∧ Mem w0 w' (is.set k i) ∧ R v i) (h : ∀ v i u,Mem w0 u (is.set k i) → R v i → wpList P ops Q rest (Fr (l.set d v) ds) u) :
    wpList P ops Q (Oper.mk (some d) (.call { callee:=.value fo,args:=xs,argTypes:=a0 }) ty pos after none :: rest) (Fr l ds) w:=by
  refine wpList_plain rfl fun K hK=>?_
  unfold Oper.wp
  rw [fr_eval,run_call hE hf hxs _ rfl]
  refine (hc m).mono ?_
  rintro e w' ⟨v,i,rfl,hM,hR⟩
  show K ((Fr l ds).put (some d) v) w'
  rw [fr_put]
  exact hK _ _ (h v i w' hM hR)
end
/-! ### Keys -/
def CkR (P : Program) (e : Bool) (d : Nat) (T : TypeId) (x : Value) : Prop:=∀ w,(Instr.checkKey e d T x).run P w = .ok () w
section
variable {P : Program} {e : Bool} {d : Nat} {T E : TypeId}
theorem run_forIn_yield {β : Type} {w : World} (g : β → PUnit → Sem (ForInStep PUnit)) : ∀ (L : List β),(∀ x ∈ L,(g x ⟨⟩).run P w = .ok (.yield ⟨⟩) w) → (forIn L PUnit.unit g : Sem PUnit).run P w = .ok ⟨⟩ w
  | [],_=>by simp
  | x :: L,h=>by
    simp only [List.forIn_cons,Sem.run_bind,h x (List.mem_cons_self ..),Result.andThen_ok]
    exact run_forIn_yield g L fun y hy=>h y (List.mem_cons_of_mem _ hy)
theorem CkR.int {k k' : IntKind} {n : Int} (hu : P.underlying T = some (.int k')) : CkR P e (d + 1) T (.int k n):=fun w=>by
  unfold Instr.checkKey
  simp [run_underlying hu]
theorem CkR.struct {fs : Array Field} {cs : Array Value} (hu : P.underlying T = some (.struct fs)) (h : ∀ f ∈ fs.toList,∃ v,(∀ w,(part f.type cs f.offset).run P w = .ok v w) ∧ CkR P e d f.type v) : CkR P e (d + 1) T (.agg cs):=fun w=>by
  unfold Instr.checkKey
  simp only [Sem.run_bind,run_underlying hu,Result.andThen_ok]
  rw [← Array.forIn_toList]
  refine (congrArg (fun r=>Result.andThen r _) (run_forIn_yield _ fs.toList fun f hf=>?_)).trans (by rfl)
  obtain ⟨v,h1,h2⟩:=h f hf
  by_cases hn : f.name = "_"
  · simp [hn]
  · simp [hn,h1 w,h2 w]
theorem CkR.array {n c : Nat} {cs : Array Value} (hu : P.underlying T = some (.array n E)) (hc : Cells P E c) (h : ∀ i,i < n → ∃ v,(∀ w,(part E cs (i * c)).run P w = .ok v w) ∧ CkR P e d E v) : CkR P e (d + 1) T (.agg cs):=fun w=>by
  unfold Instr.checkKey
  simp only [Sem.run_bind,run_underlying hu,Result.andThen_ok]
  simp only [Std.Legacy.Range.forIn_eq_forIn_range',Std.Legacy.Range.size,Nat.sub_zero,Nat.add_one_sub_one,Nat.div_one]
  refine (congrArg (fun r=>Result.andThen r _) (run_forIn_yield _ (List.range' 0 n) fun i hi=>?_)).trans (by rfl)
  obtain ⟨v,h1,h2⟩:=h i (by simpa using hi)
  simp [size_run hc,h1 w,h2 w]
theorem KeyT.agg {K : Type} [DecidableEq K] {ek : K → Value} {cs : K → Array Value} (ha : ∀ k,ek k = .agg (cs k)) {t : TypeDesc} (ht : P.underlying T = some t) (hc : ∀ e k,CkR P e 10000 T (ek k)) (he : ∀ a b,EqR P 10000 T (ek a) (ek b) (a = b)) (hb : ∀ a,Instr.sameBits 10000 (ek a) (ek a) = true) : KeyT P T ek where
  chk e k w:=hc e k w
  now:=⟨t,ht,fun a b=>.inl (by rw [ha,ha]; cases t <;> rfl)⟩
  eq a b w:=eql_run (he a b) w
  bits:=hb
end
end Go.Lith
namespace Go.Proofs.YtmcgcnpgkkfkoaaGreatDoor
open Go.RowKit Go.Lith
set_option maxRecDepth 100000
attribute [local irreducible] wpList wpQuiet wpMix wpMixH wpTree Code.wp
theorem rLess_c {p q : P3} : Pure Tryz.prog 175 [pt p,pt q] (.bool (decide (p.Lt q))):=by
 intro w
 refine ⟨en_175,?_⟩
 have m:=Mem.refl w
 go_enter Tryz.func175,Tryz.ntmps175
 refine c_seq fun K1 k1=>wp_region_lit (mboxA m rfl ?_)
 clear m; intro g1 u m
 simp only [ev,zD,zE,zF,zG]
 refine mboxA m rfl ?_
 clear m; intro g2 u m
 refine n_val (r_assign) (n_nil (k1 _ _ ?_))
 refine c_seq fun K2 k2=>c_seq fun K3 k3=>wp_region_lit (n_val (r_fieldAddr (c:=0) Tryz.underlying28 rfl cells_3 rfl rfl) ?_)
 simp only [ev,zD,zE,zF,zG]
 refine n_load rfl ((m.b 1 rfl).lies1 agg_3 rfl) ?_
 simp only [ev,zD,zE,zF,zG]
 refine n_val (r_fieldAddr (c:=0) Tryz.underlying28 rfl cells_3 rfl rfl) ?_
 simp only [ev,zD,zE,zF,zG]
 refine n_load rfl ((m.b 0 rfl).lies1 agg_3 rfl) ?_
 simp only [ev,zD,zE,zF,zG]
 refine n_val (r_neq rfl rfl) (n_nil (k3 _ _ ?_))
 simp only [ev,zD,zE,zF,zG]
 refine c_if rfl (fun hc1=>?_) (fun hc1=>?_)
 ·
  refine c_seq fun K4 k4=>wp_region_lit (n_val (r_fieldAddr (c:=0) Tryz.underlying28 rfl cells_3 rfl rfl) ?_)
  simp only [ev,zD,zE,zF,zG]
  refine n_load rfl ((m.b 1 rfl).lies1 agg_3 rfl) ?_
  simp only [ev,zD,zE,zF,zG]
  refine n_val (r_fieldAddr (c:=0) Tryz.underlying28 rfl cells_3 rfl rfl) ?_
  simp only [ev,zD,zE,zF,zG]
  refine n_load rfl ((m.b 0 rfl).lies1 agg_3 rfl) ?_
  simp only [ev,zD,zE,zF,zG]
  refine n_val (r_lss rfl rfl) (n_val (r_assign) (n_nil (k4 _ _ ?_)))
  refine wp_ret ?_
  simp only [ev,zD,zE,zF,zG]
  try simp only [Exit.inBlock,Exit.then,if_true]
  refine fin1 rfl rfl ?_
  try simp only [zD,zE]
  exact ⟨_,rfl,m.ext,by simp only [P3.lt_x hc1]⟩
 ·
  have ex : p.x = q.x:=by omega
  refine wp_skip (k2 _ _ ?_)
  refine c_seq fun K5 k5=>c_seq fun K6 k6=>wp_region_lit (n_val (r_fieldAddr (c:=0) Tryz.underlying28 rfl cells_3 rfl rfl) ?_)
  simp only [ev,zD,zE,zF,zG]
  refine n_load rfl ((m.b 1 rfl).lies1 agg_3 rfl) ?_
  simp only [ev,zD,zE,zF,zG]
  refine n_val (r_fieldAddr (c:=0) Tryz.underlying28 rfl cells_3 rfl rfl) ?_
  simp only [ev,zD,zE,zF,zG]
  refine n_load rfl ((m.b 0 rfl).lies1 agg_3 rfl) ?_
  simp only [ev,zD,zE,zF,zG]
  refine n_val (r_neq rfl rfl) (n_nil (k6 _ _ ?_))
  simp only [ev,zD,zE,zF,zG]
  refine c_if rfl (fun hc2=>?_) (fun hc2=>?_)
  ·
   refine c_seq fun K7 k7=>wp_region_lit (n_val (r_fieldAddr (c:=0) Tryz.underlying28 rfl cells_3 rfl rfl) ?_)
   simp only [ev,zD,zE,zF,zG]
   refine n_load rfl ((m.b 1 rfl).lies1 agg_3 rfl) ?_
   simp only [ev,zD,zE,zF,zG]
   refine n_val (r_fieldAddr (c:=0) Tryz.underlying28 rfl cells_3 rfl rfl) ?_
   simp only [ev,zD,zE,zF,zG]
   refine n_load rfl ((m.b 0 rfl).lies1 agg_3 rfl) ?_
   simp only [ev,zD,zE,zF,zG]
   refine n_val (r_lss rfl rfl) (n_val (r_assign) (n_nil (k7 _ _ ?_)))
   refine wp_ret ?_
   simp only [ev,zD,zE,zF,zG]
   try simp only [Exit.inBlock,Exit.then,if_true]
   refine fin1 rfl rfl ?_
   try simp only [zD,zE]
   exact ⟨_,rfl,m.ext,by simp only [P3.lt_y ex hc2]⟩
  ·
   have ey : p.y = q.y:=by omega
   refine wp_skip (k5 _ _ ?_)
   refine c_seq fun K8 k8=>wp_region_lit (n_val (r_fieldAddr (c:=0) Tryz.underlying28 rfl cells_3 rfl rfl) ?_)
   simp only [ev,zD,zE,zF,zG]
   refine n_load rfl ((m.b 1 rfl).lies1 agg_3 rfl) ?_
   simp only [ev,zD,zE,zF,zG]
   refine n_val (r_fieldAddr (c:=0) Tryz.underlying28 rfl cells_3 rfl rfl) ?_
   simp only [ev,zD,zE,zF,zG]
   refine n_load rfl ((m.b 0 rfl).lies1 agg_3 rfl) ?_
   simp only [ev,zD,zE,zF,zG]
   refine n_val (r_lss rfl rfl) (n_val (r_assign) (n_nil (k8 _ _ ?_)))
   refine wp_ret ?_
   simp only [ev,zD,zE,zF,zG]
   try simp only [Exit.inBlock,Exit.then,if_true]
   refine fin1 rfl rfl ?_
   try simp only [zD,zE]
   exact ⟨_,rfl,m.ext,by simp only [P3.lt_z ex ey]⟩
theorem rlessE_c {a b : E3} : Pure Tryz.prog 159 [ed a,ed b] (.bool (ltE a b)):=by
 intro w
 refine ⟨en_159,?_⟩
 have m:=Mem.refl w
 go_enter Tryz.func159,Tryz.ntmps159
 refine c_seq fun K1 k1=>wp_region_lit (mboxA m rfl ?_)
 clear m; intro g1 u m
 simp only [ev,zD,zE,zF,zG]
 refine mboxA m rfl ?_
 clear m; intro g2 u m
 refine n_val (r_assign) (n_nil (k1 _ _ ?_))
 refine c_seq fun K2 k2=>c_seq fun K3 k3=>wp_region_lit (n_val (r_indexAddrA Tryz.underlying153 cells_28 rfl rfl (by decide) (by decide) rfl) ?_)
 simp only [ev,zD,zE,zF,zG]
 refine n_load rfl ((m.b 1 rfl).lies agg_28 cells_28 rfl rfl) ?_
 simp only [ev,zD,zE,zF,zG,zH,zI,zJ,zK,Nat.zero_add,Nat.reduceAdd,Nat.reduceMul,Int.reduceToNat]
 refine n_val (r_indexAddrA Tryz.underlying153 cells_28 rfl rfl (by decide) (by decide) rfl) ?_
 simp only [ev,zD,zE,zF,zG]
 refine n_load rfl ((m.b 0 rfl).lies agg_28 cells_28 rfl rfl) ?_
 simp only [ev,zD,zE,zF,zG,zH,zI,zJ,zK,Nat.zero_add,Nat.reduceAdd,Nat.reduceMul,Int.reduceToNat]
 refine n_val (eq_neq_28 rfl rfl) (n_nil (k3 _ _ ?_))
 simp only [ev,zD,zE,zF,zG]
 refine c_if rfl (fun hc1=>?_) (fun hc1=>?_)
 ·
  refine c_seq fun K4 k4=>wp_region_lit (n_val (r_indexAddrA Tryz.underlying153 cells_28 rfl rfl (by decide) (by decide) rfl) ?_)
  simp only [ev,zD,zE,zF,zG]
  refine n_load rfl ((m.b 1 rfl).lies agg_28 cells_28 rfl rfl) ?_
  simp only [ev,zD,zE,zF,zG,zH,zI,zJ,zK,Nat.zero_add,Nat.reduceAdd,Nat.reduceMul,Int.reduceToNat]
  refine n_val (r_indexAddrA Tryz.underlying153 cells_28 rfl rfl (by decide) (by decide) rfl) ?_
  simp only [ev,zD,zE,zF,zG]
  refine n_load rfl ((m.b 0 rfl).lies agg_28 cells_28 rfl rfl) ?_
  simp only [ev,zD,zE,zF,zG,zH,zI,zJ,zK,Nat.zero_add,Nat.reduceAdd,Nat.reduceMul,Int.reduceToNat]
  refine mcallP m rfl rfl (rLess_c (p:=a.1) (q:=b.1)) ?_
  clear m; intro u m
  refine n_val (r_assign) (n_nil (k4 _ _ ?_))
  refine wp_ret ?_
  simp only [ev,zD,zE,zF,zG]
  try simp only [Exit.inBlock,Exit.then,if_true]
  refine fin1 rfl rfl ?_
  try simp only [zD,zE]
  exact ⟨_,rfl,m.ext,by rw [ltE,if_pos (fun h=>hc1 (by rw [h]; exact ⟨rfl,rfl,rfl⟩))]⟩
 ·
  refine wp_skip (k2 _ _ ?_)
  refine c_seq fun K5 k5=>wp_region_lit (n_val (r_indexAddrA Tryz.underlying153 cells_28 rfl rfl (by decide) (by decide) rfl) ?_)
  simp only [ev,zD,zE,zF,zG]
  refine n_load rfl ((m.b 1 rfl).lies agg_28 cells_28 rfl rfl) ?_
  simp only [ev,zD,zE,zF,zG,zH,zI,zJ,zK,Nat.zero_add,Nat.reduceAdd,Nat.reduceMul,Int.reduceToNat]
  refine n_val (r_indexAddrA Tryz.underlying153 cells_28 rfl rfl (by decide) (by decide) rfl) ?_
  simp only [ev,zD,zE,zF,zG]
  refine n_load rfl ((m.b 0 rfl).lies agg_28 cells_28 rfl rfl) ?_
  simp only [ev,zD,zE,zF,zG,zH,zI,zJ,zK,Nat.zero_add,Nat.reduceAdd,Nat.reduceMul,Int.reduceToNat]
  refine mcallP m rfl rfl (rLess_c (p:=a.2) (q:=b.2)) ?_
  clear m; intro u m
  refine n_val (r_assign) (n_nil (k5 _ _ ?_))
  refine wp_ret ?_
  simp only [ev,zD,zE,zF,zG]
  try simp only [Exit.inBlock,Exit.then,if_true]
  refine fin1 rfl rfl ?_
  try simp only [zD,zE]
  exact ⟨_,rfl,m.ext,by rw [ltE,if_neg (fun h=>h (P3.eq (Classical.not_not.1 hc1).1 (Classical.not_not.1 hc1).2.1 (Classical.not_not.1 hc1).2.2))]⟩
theorem edges_c {ts : List T3} {N cap : Nat} {A : Option Addr} (w : World) (hT : TrisAt w A N ts) (hN : N ≤ 1000000000) : Does Tryz.prog 120 [.slice A N cap] w (SL 153 6 ((edgesT ts).flatMap edCells) (edgesT ts).length w):=by
 refine ⟨en_120,?_⟩
 have m:=Mem.refl w
 go_enter Tryz.func120,Tryz.ntmps120
 refine c_seq fun K1 k1=>wp_region_lit (n_val (r_assign) (n_nil (k1 _ _ ?_)))
 refine c_seq fun K2 k2=>wp_region_lit (n_val (r_assign) ?_)
 replace m:=m.nilO 153 6
 refine n_nil (k2 _ _ ?_)
 refine c_seq fun K3 k3=>c_seq fun K4 k4=>wp_region_lit (n_val (r_assign) (n_nil (k4 _ _ ?_)))
 refine wp_block ?_
 simp only [ev,zD,zE,zF,zG]
 try simp only [Nat.zero_add,Nat.reduceAdd,Nat.reduceMul,Int.reduceToNat]
 refine c_loopg [3,4] [5,6,7,8,9,10,11,12,13,14,15,16,17,18,19,20,21,22,23,24,25,26,27,28,29,30,31,32,33] (fun n vs wl=>∃ (k : Nat) (A3 : Option Addr) (cap3 : Nat),vs = [.slice A3 (edgesT (ts.take k)).length cap3,.int .i64 (k:Int)] ∧ Mem w wl [oI 153 6 A3 (edgesT (ts.take k)).length cap3 ((edgesT (ts.take k)).flatMap edCells)] ∧ (k ≤ N) ∧ (n = N - k)) ?_ ?_
 ·
  apply Exists.intro
  simp only [zQ,zR,zD,zE]
  exact ⟨0,_,_,rfl,m,Nat.zero_le _,rfl⟩
 ·
  intro n vs wr hI u
  clear m
  obtain ⟨k,A3,cap3,rfl,m,hk,hn⟩:=hI
  simp only [setG_cons,setG_nil,setMany_cons,setMany_nil,zF,zG]
  refine c_seq fun K5 k5=>c_seq fun K6 k6=>wp_region_lit (n_val (r_move) (n_val (r_move) (n_val (r_lenS rfl Tryz.underlying24 rfl) (n_val (r_lss rfl rfl) ?_))))
  simp only [ev,zD,zE,zF,zG]
  refine n_nil (k6 _ _ ?_)
  refine c_if rfl (fun hc1=>?_) (fun hc1=>?_)
  ·
   obtain ⟨t,ht,_,a,rfl,hrow⟩:=hT.get (i:=k) (by omega)
   refine wp_skip (k5 _ _ ?_)
   refine c_seq fun K7 k7=>wp_block (c_seq fun K8 k8=>wp_region_lit (n_val (r_move) (n_val (r_move) ?_)))
   simp only [ev,zD,zE,zF,zG]
   refine n_val (r_indexAddrS Tryz.underlying24 cells_59 rfl rfl (by omega) (by omega) (addrN (Int.toNat_natCast _))) ?_
   simp only [ev,zD,zE,zF,zG]
   refine n_load rfl ((hrow.ext m.ext).lies agg_59 cells_59) ?_
   simp only [ev,zD,zE,zF,zG]
   refine malloc m zero_59 rfl ?_
   clear m; intro g1 u m
   simp only [ev,zD,zE,zF,zG]
   refine mstoreA m 0 rfl rfl rfl cells_59 (leT rfl) rfl ?_
   clear m; intro u m; simp only [over,zH,zI,zJ,zK,zL,zM,zN,zO,zP,zF,zG,Nat.reduceAdd] at m
   refine n_nil (k8 _ _ ?_)
   refine wp_region_lit (n_val (r_move) (n_val (r_indexAddrA Tryz.underlying59 cells_28 rfl rfl (by decide) (by decide) rfl) ?_))
   simp only [ev,zD,zE,zF,zG]
   refine n_load rfl ((m.b 0 rfl).lies agg_28 cells_28 rfl rfl) ?_
   simp only [ev,zD,zE,zF,zG,zH,zI,zJ,zK,Nat.zero_add,Nat.reduceAdd,Nat.reduceMul,Int.reduceToNat]
   refine n_val (r_indexAddrA Tryz.underlying59 cells_28 rfl rfl (by decide) (by decide) rfl) ?_
   simp only [ev,zD,zE,zF,zG]
   refine n_load rfl ((m.b 0 rfl).lies agg_28 cells_28 rfl rfl) ?_
   simp only [ev,zD,zE,zF,zG,zH,zI,zJ,zK,Nat.zero_add,Nat.reduceAdd,Nat.reduceMul,Int.reduceToNat]
   refine n_val (r_build_153_0_1 rfl rfl) (n_val (r_indexAddrA Tryz.underlying59 cells_28 rfl rfl (by decide) (by decide) rfl) ?_)
   simp only [ev,zD,zE,zF,zG]
   refine n_load rfl ((m.b 0 rfl).lies agg_28 cells_28 rfl rfl) ?_
   simp only [ev,zD,zE,zF,zG,zH,zI,zJ,zK,Nat.zero_add,Nat.reduceAdd,Nat.reduceMul,Int.reduceToNat]
   refine n_val (r_indexAddrA Tryz.underlying59 cells_28 rfl rfl (by decide) (by decide) rfl) ?_
   simp only [ev,zD,zE,zF,zG]
   refine n_load rfl ((m.b 0 rfl).lies agg_28 cells_28 rfl rfl) ?_
   simp only [ev,zD,zE,zF,zG,zH,zI,zJ,zK,Nat.zero_add,Nat.reduceAdd,Nat.reduceMul,Int.reduceToNat]
   refine n_val (r_build_153_0_1 rfl rfl) (n_val (r_indexAddrA Tryz.underlying59 cells_28 rfl rfl (by decide) (by decide) rfl) ?_)
   simp only [ev,zD,zE,zF,zG]
   refine n_load rfl ((m.b 0 rfl).lies agg_28 cells_28 rfl rfl) ?_
   simp only [ev,zD,zE,zF,zG,zH,zI,zJ,zK,Nat.zero_add,Nat.reduceAdd,Nat.reduceMul,Int.reduceToNat]
   refine n_val (r_indexAddrA Tryz.underlying59 cells_28 rfl rfl (by decide) (by decide) rfl) ?_
   simp only [ev,zD,zE,zF,zG]
   refine n_load rfl ((m.b 0 rfl).lies agg_28 cells_28 rfl rfl) ?_
   simp only [ev,zD,zE,zF,zG,zH,zI,zJ,zK,Nat.zero_add,Nat.reduceAdd,Nat.reduceMul,Int.reduceToNat]
   refine n_val (r_build_153_0_1 rfl rfl) ?_
   simp only [ev,zD,zE,zF,zG]
   refine n_bs_150_3 rfl rfl rfl ?_
   intro u g2 e hg hB; replace m:=m.newB e hg hB; clear e hg hB
   simp only [ev,zD,zE,zF,zG]
   refine mappend m 2 rfl rfl Tryz.underlying150 inf_153 rfl (by decide) rfl rfl rfl (m.b 0 rfl).rowsO (allT rfl) (by have:=edges_len (ts.take k); rw [List.length_take] at this; omega) (by have:=edges_len (ts.take k); rw [List.length_take] at this; omega) ?_
   clear m; intro A3 cap3 u m; simp only [zF,zG] at m
   rw [show (edgesT (ts.take k)).flatMap edCells ++ _ = (edgesT (ts.take (k + 1))).flatMap edCells by rw [edges_step ht,List.flatMap_append]; rfl,show (edgesT (ts.take k)).length + 3 = (edgesT (ts.take (k + 1))).length by rw [edges_step ht,List.length_append]; rfl] at m
   rw [show (edgesT (ts.take k)).length + 3 = (edgesT (ts.take (k + 1))).length by rw [edges_step ht,List.length_append]; rfl]
   refine n_val (r_assign) (n_nil (k7 _ _ ?_))
   refine wp_region_lit (n_val (r_move) ?_)
   simp only [ev,zD,zE,zF,zG]
   refine n_val (r_add rfl rfl (wrap_i64 (by omega) (by omega))) (n_val (r_assign) (n_nil ?_))
   simp only [ev,zD,zE,zF,zG]
   simp only [Exit.inBlock,Exit.then]
   refine ⟨N - (k + 1),_,?_,rfl,?_,?_⟩
   · omega
   · simp only [zQ,zR,zD,zE,setG_cons,setG_nil,setMany_cons,setMany_nil,zF,zG]
   ·
    simp only [zQ,zR,zD,zE]
    exact ⟨k + 1,_,_,rfl,(m.sel [false,false,true]),by omega,rfl⟩
  ·
   have hkN : k = N:=by omega
   rw [hkN,show ts.take N = ts from List.take_of_length_le (by rw [hT.len]; exact Nat.le_refl _)] at m ⊢
   refine wp_exit (k3 _ _ ?_)
   refine c_seq fun K9 k9=>wp_region_lit (n_val (r_move) (n_val (r_assign) (n_nil (k9 _ _ ?_))))
   refine wp_ret ?_
   simp only [ev,zD,zE,zF,zG]
   try simp only [Exit.inBlock,Exit.then,if_true]
   refine fin1 rfl rfl ?_
   try simp only [zD,zE]
   exact ⟨_,rfl,m.ext,⟨_,_,_,rfl,rfl,(m.o 0 rfl)⟩⟩
theorem count_c {es : List E3} {N cap : Nat} {A : Option Addr} {e : E3} (w : World) (hL : LAt edCells 6 w A N es) (hN : N ≤ 1000000000) : Does Tryz.prog 121 [.slice A N cap,ed e] w (fun v _=>v = .int .i64 ((cntE es e : Nat) : Int)):=by
 refine ⟨en_121,?_⟩
 have m:=Mem.refl w
 go_enter Tryz.func121,Tryz.ntmps121
 refine c_seq fun K1 k1=>wp_region_lit (mboxA m rfl ?_)
 clear m; intro g1 u m
 refine n_val (r_assign) (n_nil (k1 _ _ ?_))
 refine c_seq fun K2 k2=>wp_region_lit (n_val (r_assign) (n_nil (k2 _ _ ?_)))
 refine c_seq fun K3 k3=>c_seq fun K4 k4=>wp_region_lit (n_val (r_assign) ?_)
 simp only [ev,zD,zE,zF,zG]
 refine n_nil (k4 _ _ ?_)
 refine wp_block ?_
 try simp only [Nat.zero_add,Nat.reduceAdd,Nat.reduceMul,Int.reduceToNat]
 refine c_loopg [5,6] [7,8,9,10,11,12,13,14,15,16,17,18,19,20] (fun n vs wl=>∃ (k q : Nat),vs = [.int .i64 (q : Int),.int .i64 (k:Int)] ∧ Mem w wl [bI g1 (edCells e) 153] ∧ (q = cntE (es.take k) e) ∧ (k ≤ N) ∧ (n = N - k)) ?_ ?_
 ·
  apply Exists.intro
  simp only [zQ,zR,zD,zE]
  exact ⟨0,0,rfl,m,rfl,Nat.zero_le _,rfl⟩
 ·
  intro n vs wr hI u
  clear m
  obtain ⟨k,q,rfl,m,hq,hk,hn⟩:=hI
  subst hq
  simp only [setG_cons,setG_nil,setMany_cons,setMany_nil,zF,zG]
  refine c_seq fun K5 k5=>c_seq fun K6 k6=>wp_region_lit (n_val (r_move) (n_val (r_move) (n_val (r_lenS rfl Tryz.underlying150 rfl) (n_val (r_lss rfl rfl) ?_))))
  simp only [ev,zD,zE,zF,zG]
  refine n_nil (k6 _ _ ?_)
  refine c_if rfl (fun hc1=>?_) (fun hc1=>?_)
  ·
   obtain ⟨x,hx,a,rfl,hrow⟩:=hL.get (i:=k) (by omega)
   refine wp_skip (k5 _ _ ?_)
   refine c_seq fun K7 k7=>wp_block (c_seq fun K8 k8=>mq m follows_mixed (by kernel_rfl) (q_val (r_move) (q_val (r_move) ?_)))
   simp only [ev,zD,zE,zF,zG]
   refine q_val (r_indexAddrS Tryz.underlying150 cells_153 rfl rfl (by omega) (by omega) (addrN (Int.toNat_natCast _))) ?_
   simp only [ev,zD,zE,zF,zG]
   refine ql rfl (fun u m=>((hrow.ext m.ext).lies agg_153 cells_153)) ?_
   simp only [ev,zD,zE,zF,zG]
   refine ql rfl (fun u m=>((m.b 0 rfl).full agg_153 cells_153)) ?_
   simp only [ev,zD,zE,zF,zG]
   refine q_val (eq_eql_153 rfl rfl) (q_nil ?_)
   clear m; intro u m
   refine k8 _ _ ?_
   simp only [ev,zD,zE,zF,zG]
   refine c_if rfl (fun hc2=>?_) (fun hc2=>?_)
   ·
    have hxe : x = e:=Prod.ext (P3.eq hc2.1 hc2.2.1 hc2.2.2.1) (P3.eq hc2.2.2.2.1 hc2.2.2.2.2.1 hc2.2.2.2.2.2)
    have hcl : cntE (es.take k) e ≤ N:=Nat.le_trans cnt_le (by rw [List.length_take]; omega)
    have hs:=cnt_step (e:=e) hx
    rw [if_pos hxe] at hs
    refine wp_region_lit (n_val (r_move) ?_)
    simp only [ev,zD,zE,zF,zG]
    refine n_val (r_add rfl rfl (wrap_i64 (by omega) (by omega))) (n_val (r_assign) (n_nil (k7 _ _ ?_)))
    refine wp_region_lit (n_val (r_move) ?_)
    simp only [ev,zD,zE,zF,zG]
    refine n_val (r_add rfl rfl (wrap_i64 (by omega) (by omega))) (n_val (r_assign) (n_nil ?_))
    simp only [ev,zD,zE,zF,zG]
    rw [show ((cntE (es.take k) e : Nat) : Int) + 1 = ((cntE (es.take (k + 1)) e : Nat) : Int) by rw [hs]; rfl]
    simp only [Exit.inBlock,Exit.then]
    refine ⟨N - (k + 1),_,?_,rfl,?_,?_⟩
    · omega
    · simp only [zQ,zR,zD,zE,setG_cons,setG_nil,setMany_cons,setMany_nil,zF,zG]
    ·
     simp only [zQ,zR,zD,zE]
     exact ⟨k + 1,cntE (es.take (k + 1)) e,rfl,m,rfl,by omega,rfl⟩
   ·
    have hs : cntE (es.take (k + 1)) e = cntE (es.take k) e:=(cnt_step (e:=e) hx).trans (by rw [if_neg (fun h=>hc2 (by rw [h]; exact ⟨rfl,rfl,rfl,rfl,rfl,rfl⟩))]; rfl)
    refine wp_skip (k7 _ _ ?_)
    refine wp_region_lit (n_val (r_move) ?_)
    simp only [ev,zD,zE,zF,zG]
    refine n_val (r_add rfl rfl (wrap_i64 (by omega) (by omega))) (n_val (r_assign) (n_nil ?_))
    simp only [ev,zD,zE,zF,zG]
    rw [← hs]
    simp only [Exit.inBlock,Exit.then]
    refine ⟨N - (k + 1),_,?_,rfl,?_,?_⟩
    · omega
    · simp only [zQ,zR,zD,zE,setG_cons,setG_nil,setMany_cons,setMany_nil,zF,zG]
    ·
     simp only [zQ,zR,zD,zE]
     exact ⟨k + 1,cntE (es.take (k + 1)) e,rfl,m,rfl,by omega,rfl⟩
  ·
   have hkN : k = N:=by omega
   rw [hkN,show es.take N = es from List.take_of_length_le (by rw [hL.len]; exact Nat.le_refl _)]
   refine wp_exit (k3 _ _ ?_)
   refine c_seq fun K9 k9=>wp_region_lit (n_val (r_move) (n_val (r_assign) (n_nil (k9 _ _ ?_))))
   refine wp_ret ?_
   simp only [ev,zD,zE,zF,zG]
   try simp only [Exit.inBlock,Exit.then,if_true]
   refine fin1 rfl rfl ?_
   try simp only [zD,zE]
   exact ⟨_,rfl,m.ext,rfl⟩
theorem with0_c {ps : List P3} {N cap : Nat} {A : Option Addr} {p : P3} (w : World) (hL : LAt ptC 3 w A N ps) (hN : N ≤ 1000000000) (hcap : N ≤ cap) : Does Tryz.prog 160 [.slice A N cap,pt p] w (fun v w'=>(v = .slice A N cap ∧ withP ps p = ps) ∨ SL 28 3 ((withP ps p).flatMap ptC) (withP ps p).length w v w'):=by
 refine ⟨en_160,?_⟩
 have m:=Mem.refl w
 obtain rfl : ps.length = N:=hL.len
 go_enter Tryz.func160,Tryz.ntmps160
 refine c_seq fun K1 k1=>wp_region_lit (mboxA m rfl ?_)
 clear m; intro g1 u m
 refine n_val (r_assign) (n_nil (k1 _ _ ?_))
 refine c_seq fun K2 k2=>wp_region_lit (n_val (r_assign) (n_nil (k2 _ _ ?_)))
 refine c_seq fun K3 k3=>wp_block ?_
 simp only [ev,zD,zE,zF,zG]
 try simp only [Nat.zero_add,Nat.reduceAdd,Nat.reduceMul,Int.reduceToNat]
 refine c_loopg [5] [6,8,9,10,11,12,13,14,15,16,17,18,19,20,21] (fun n vs wl=>∃ (k : Nat),vs = [.int .i64 (k:Int)] ∧ Mem w wl [bI g1 (ptC p) 28] ∧ (Pre (fun x=>decide (x.Lt p)) ps k) ∧ (k ≤ ps.length) ∧ (n = ps.length - k)) ?_ ?_
 ·
  apply Exists.intro
  simp only [zQ,zR,zD,zE]
  exact ⟨0,rfl,m,Pre.zero,Nat.zero_le _,rfl⟩
 ·
  intro n vs wr hI u
  clear m
  obtain ⟨k,rfl,m,hpre,hk,hn⟩:=hI
  simp only [setG_cons,setG_nil,setMany_cons,setMany_nil,zF,zG]
  refine c_seq fun K4 k4=>c_seq fun K5 k5=>wp_region_lit (n_val (r_move) (n_val (r_move) (n_val (r_lenS rfl Tryz.underlying118 rfl) (n_val (r_lss rfl rfl) ?_))))
  simp only [ev,zD,zE,zF,zG]
  refine n_nil (k5 _ _ ?_)
  refine c_if rfl (fun hc1=>?_) (fun hc1=>?_)
  ·
   obtain ⟨x,hx,a,rfl,hrow⟩:=hL.get (i:=k) (by omega)
   refine wp_skip (k4 _ _ ?_)
   refine wp_block (c_seq fun K6 k6=>mq m follows_mixed (by kernel_rfl) (q_val (r_move) (q_val (r_move) ?_)))
   simp only [ev,zD,zE,zF,zG]
   refine q_val (r_indexAddrS Tryz.underlying118 cells_28 rfl rfl (by omega) (by omega) (addrN (Int.toNat_natCast _))) ?_
   simp only [ev,zD,zE,zF,zG]
   refine ql rfl (fun u m=>((hrow.ext m.ext).lies agg_28 cells_28)) ?_
   simp only [ev,zD,zE,zF,zG]
   refine ql rfl (fun u m=>((m.b 0 rfl).full agg_28 cells_28)) ?_
   simp only [ev,zD,zE,zF,zG]
   refine qcP rfl rfl (rLess_c) (q_val (r_assign) (q_nil ?_))
   clear m; intro u m
   refine k6 _ _ ?_
   refine c_seq fun K7 k7=>c_seq fun K8 k8=>wp_region_lit (n_val (r_move) (n_val (r_not rfl) ?_))
   simp only [ev,zD,zE,zF,zG]
   refine n_nil (k8 _ _ ?_)
   refine c_cond rfl (fun hc2=>?_) (fun hc2=>?_)
   ·
    have hpos : posP ps p = k:=tw_eq hpre hx (by simpa using hc2)
    refine wp_exit (k3 _ _ ?_)
    refine c_seq fun K9 k9=>c_seq fun K10 k10=>mq m follows_mixed (by kernel_rfl) (q_val (r_move) (q_val (r_move) (q_val (r_lenS rfl Tryz.underlying118 rfl) ?_)))
    simp only [ev,zD,zE,zF,zG]
    refine q_val (r_lssT rfl rfl (by omega)) (q_val (r_move) (q_want rfl (q_val (r_move) (q_want rfl (q_val (r_move) ?_)))))
    simp only [ev,zD,zE,zF,zG]
    refine q_want rfl (q_val (r_indexAddrS Tryz.underlying118 cells_28 rfl rfl (by omega) (by omega) (addrN (Int.toNat_natCast _))) (q_want rfl ?_))
    simp only [ev,zD,zE,zF,zG]
    refine ql rfl (fun u m=>((hrow.ext m.ext).lies agg_28 cells_28)) ?_
    simp only [ev,zD,zE,zF,zG]
    refine q_want rfl (ql rfl (fun u m=>((m.b 0 rfl).full agg_28 cells_28)) ?_)
    simp only [ev,zD,zE,zF,zG]
    refine q_want rfl (q_val (eq_eql_28 rfl rfl) (q_val (r_pickT rfl) (q_nil ?_)))
    clear m; intro u m
    refine k10 _ _ ?_
    simp only [ev,zD,zE,zF,zG]
    refine c_if rfl (fun hc3=>?_) (fun hc3=>?_)
    ·
     have hxp : x = p:=P3.eq hc3.1 hc3.2.1 hc3.2.2
     refine c_seq fun K11 k11=>wp_region_lit (n_val (r_move) (n_val (r_assign) (n_nil (k11 _ _ ?_))))
     refine wp_ret ?_
     simp only [ev,zD,zE,zF,zG]
     try simp only [Exit.inBlock,Exit.then,if_true]
     refine fin1 rfl rfl ?_
     try simp only [zD,zE]
     exact ⟨_,rfl,m.ext,.inl ⟨rfl,by rw [withP,hpos,hx,if_pos (by rw [hxp])]⟩⟩
    ·
     have hw : withP ps p = ps.take k ++ [p] ++ ps.drop k:=by unfold withP; rw [hpos,if_neg (by rw [hx]; exact fun h=>hc3 (by cases h; exact ⟨rfl,rfl,rfl⟩))]
     refine wp_skip (k9 _ _ ?_)
     refine c_seq fun K12 k12=>wp_region_lit (n_val (r_assign) ?_)
     replace m:=m.nilO 28 3
     refine n_nil (k12 _ _ ?_)
     refine c_seq fun K13 k13=>wp_region_lit (n_val (r_move) (n_val (r_move) (n_val (r_move) ?_)))
     simp only [ev,zD,zE,zF,zG]
     refine n_val (r_sliceHi Tryz.underlying118 cells_28 rfl rfl (Int.toNat_natCast _) (by omega) (by omega)) ?_
     simp only [ev,zD,zE,zF,zG]
     refine mappend m 0 rfl rfl Tryz.underlying118 inf_28 rfl (by decide) rfl rfl (by rw [flatE_len pc3,List.length_take,Nat.min_eq_left (by omega)]) (((hL.take (by omega)).ext m.ext).cells pc3 (by decide)) (pc_one _) (by omega) (by omega) ?_
     clear m; intro A7 cap7 u m; simp only [zF,zG] at m
     rw [List.nil_append,Nat.zero_add] at m
     rw [Nat.zero_add]
     refine n_val (r_assign) (n_nil (k13 _ _ ?_))
     refine c_seq fun K14 k14=>wp_region_lit (n_val (r_move) ?_)
     simp only [ev,zD,zE,zF,zG]
     refine n_load rfl ((m.b 1 rfl).full agg_28 cells_28) ?_
     simp only [ev,zD,zE,zF,zG]
     refine n_bs_118_1 rfl ?_
     intro u g2 e hg hB; replace m:=m.newB e hg hB; clear e hg hB
     simp only [ev,zD,zE,zF,zG]
     refine mappend m 1 rfl rfl Tryz.underlying118 inf_28 rfl (by decide) rfl rfl rfl (m.b 0 rfl).rowsO (allT rfl) (by omega) (by omega) ?_
     clear m; intro A7 cap7 u m; simp only [zF,zG] at m
     refine n_val (r_assign) (n_nil (k14 _ _ ?_))
     refine c_seq fun K15 k15=>wp_region_lit (n_val (r_move) (n_val (r_move) ?_))
     simp only [ev,zD,zE,zF,zG]
     refine n_val (r_move) ?_
     simp only [ev,zD,zE,zF,zG]
     refine n_val (r_sliceLo Tryz.underlying118 cells_28 rfl rfl (Int.toNat_natCast _) (by omega) (by omega) rfl) ?_
     simp only [ev,zD,zE,zF,zG]
     refine mappend m 1 rfl rfl Tryz.underlying118 inf_28 rfl (by decide) rfl rfl (by rw [flatE_len pc3,List.length_drop]) ((hL.ext m.ext).cellsD pc3 (by decide) hcap) (pc_one _) (by omega) (by omega) ?_
     clear m; intro A7 cap7 u m; simp only [zF,zG] at m
     refine n_val (r_assign) (n_nil (k15 _ _ ?_))
     refine wp_ret ?_
     simp only [ev,zD,zE,zF,zG]
     try simp only [Exit.inBlock,Exit.then,if_true]
     refine fin1 rfl rfl ?_
     try simp only [zD,zE]
     exact ⟨_,rfl,m.ext,.inr ⟨_,_,_,by rw [hw]; simp; omega,rfl,(m.o 1 rfl).as (by rw [hw,List.flatMap_append,List.flatMap_append]; rfl)⟩⟩
   ·
    have hpre2:=hpre.step hx (by simpa using hc2)
    refine wp_skip (k7 _ _ ?_)
    refine wp_region_lit (n_val (r_move) ?_)
    simp only [ev,zD,zE,zF,zG]
    refine n_val (r_add rfl rfl (wrap_i64 (by omega) (by omega))) (n_val (r_assign) (n_nil ?_))
    simp only [ev,zD,zE,zF,zG]
    simp only [Exit.inBlock,Exit.then]
    refine ⟨ps.length - (k + 1),_,?_,rfl,?_,?_⟩
    · omega
    · simp only [zQ,zR,zD,zE,setG_cons,setG_nil,setMany_cons,setMany_nil,zF,zG]
    ·
     simp only [zQ,zR,zD,zE]
     exact ⟨k + 1,rfl,m,hpre2,by omega,rfl⟩
  ·
   obtain rfl : k = ps.length:=by omega
   have hpos : posP ps p = ps.length:=tw_all hpre
   have hw : withP ps p = ps.take ps.length ++ [p] ++ ps.drop ps.length:=by unfold withP; rw [hpos,if_neg (by rw [List.getElem?_eq_none (Nat.le_refl _)]; simp)]
   refine wp_exit (k3 _ _ ?_)
   refine c_seq fun K16 k16=>c_seq fun K17 k17=>mq m follows_mixed (by kernel_rfl) (q_val (r_move) (q_val (r_move) (q_val (r_lenS rfl Tryz.underlying118 rfl) ?_)))
   simp only [ev,zD,zE,zF,zG]
   refine q_val (r_lssF rfl rfl (by omega)) (q_val (r_move) (q_skipT rfl (q_skipT rfl ?_)))
   simp only [ev,zD,zE,zF,zG]
   refine q_skipT rfl (q_skipT rfl (q_skipT rfl (q_skipT rfl ?_)))
   simp only [ev,zD,zE,zF,zG]
   refine q_val (r_pickF rfl) (q_nil ?_)
   clear m; intro u m
   refine k17 _ _ ?_
   refine c_no rfl (wp_skip (k16 _ _ ?_))
   refine c_seq fun K18 k18=>wp_region_lit (n_val (r_assign) ?_)
   replace m:=m.nilO 28 3
   refine n_nil (k18 _ _ ?_)
   refine c_seq fun K19 k19=>wp_region_lit (n_val (r_move) (n_val (r_move) ?_))
   simp only [ev,zD,zE,zF,zG]
   refine n_val (r_move) ?_
   simp only [ev,zD,zE,zF,zG]
   refine n_val (r_sliceHi Tryz.underlying118 cells_28 rfl rfl (Int.toNat_natCast _) (by omega) (by omega)) ?_
   simp only [ev,zD,zE,zF,zG]
   refine mappend m 0 rfl rfl Tryz.underlying118 inf_28 rfl (by decide) rfl rfl (by rw [flatE_len pc3,List.length_take,Nat.min_eq_left (by omega)]) (((hL.take (by omega)).ext m.ext).cells pc3 (by decide)) (pc_one _) (by omega) (by omega) ?_
   clear m; intro A7 cap7 u m; simp only [zF,zG] at m
   rw [List.nil_append,Nat.zero_add] at m
   rw [Nat.zero_add]
   refine n_val (r_assign) (n_nil (k19 _ _ ?_))
   refine c_seq fun K20 k20=>wp_region_lit (n_val (r_move) ?_)
   simp only [ev,zD,zE,zF,zG]
   refine n_load rfl ((m.b 1 rfl).full agg_28 cells_28) ?_
   simp only [ev,zD,zE,zF,zG]
   refine n_bs_118_1 rfl ?_
   intro u g2 e hg hB; replace m:=m.newB e hg hB; clear e hg hB
   simp only [ev,zD,zE,zF,zG]
   refine mappend m 1 rfl rfl Tryz.underlying118 inf_28 rfl (by decide) rfl rfl rfl (m.b 0 rfl).rowsO (allT rfl) (by omega) (by omega) ?_
   clear m; intro A7 cap7 u m; simp only [zF,zG] at m
   refine n_val (r_assign) (n_nil (k20 _ _ ?_))
   refine c_seq fun K21 k21=>wp_region_lit (n_val (r_move) (n_val (r_move) ?_))
   simp only [ev,zD,zE,zF,zG]
   refine n_val (r_move) ?_
   simp only [ev,zD,zE,zF,zG]
   refine n_val (r_sliceLo Tryz.underlying118 cells_28 rfl rfl (Int.toNat_natCast _) (by omega) (by omega) rfl) ?_
   simp only [ev,zD,zE,zF,zG]
   refine mappend m 1 rfl rfl Tryz.underlying118 inf_28 rfl (by decide) rfl rfl (by rw [flatE_len pc3,List.length_drop]) ((hL.ext m.ext).cellsD pc3 (by decide) hcap) (pc_one _) (by omega) (by omega) ?_
   clear m; intro A7 cap7 u m; simp only [zF,zG] at m
   refine n_val (r_assign) (n_nil (k21 _ _ ?_))
   refine wp_ret ?_
   simp only [ev,zD,zE,zF,zG]
   try simp only [Exit.inBlock,Exit.then,if_true]
   refine fin1 rfl rfl ?_
   try simp only [zD,zE]
   exact ⟨_,rfl,m.ext,.inr ⟨_,_,_,by rw [hw]; simp,rfl,(m.o 1 rfl).as (by rw [hw,List.flatMap_append,List.flatMap_append]; rfl)⟩⟩
theorem with_c {w0 w : World} {is : List It} {A : Option Addr} {n cap : Nat} {ps : List P3} {p : P3} (m : Mem w0 w is) (k : Nat) (hi : is[k]? = some (oI 28 3 A n cap (ps.flatMap ptC))) (hN : n ≤ 1000000000) :
  Calls Tryz.prog 160 [.slice A n cap,pt p].toArray w fun e w'=>∃ v i,e = .returned v ∧ Mem w0 w' (is.set k i) ∧ ∃ A' cap' n',n' = (withP ps p).length ∧ v = .slice A' n' cap' ∧ i = oI 28 3 A' n' cap' ((withP ps p).flatMap ptC):=by
 have hO:=m.o k hi
 refine (with0_c (p:=p) w (hO.lat pc3 (by decide)) hN hO.le).2.mono ?_
 rintro e w' ⟨v,rfl,hE,h⟩
 rcases h with ⟨rfl,h⟩ | ⟨A',cap',n',rfl,rfl,hN'⟩
 · exact ⟨_,oI 28 3 A n cap (ps.flatMap ptC),rfl,by rw [set_sm hi]; exact m.ext' hE,A,cap,n,by rw [h]; exact (hO.num pc3 (by decide)).symm,rfl,by rw [h]⟩
 · exact ⟨_,_,rfl,(m.newO hE hN').mv k hi,_,_,_,rfl,rfl,rfl⟩
theorem corners_c {ts : List T3} {N cap : Nat} {A : Option Addr} (w : World) (hT : TrisAt w A N ts) (hN : N ≤ 100000000) : Does Tryz.prog 123 [.slice A N cap] w (SL 28 3 ((cornersT ts).flatMap ptC) (cornersT ts).length w):=by
 refine ⟨en_123,?_⟩
 have m:=Mem.refl w
 go_enter Tryz.func123,Tryz.ntmps123
 refine c_seq fun K1 k1=>wp_region_lit (n_val (r_assign) (n_nil (k1 _ _ ?_)))
 refine c_seq fun K2 k2=>wp_region_lit (n_val (r_assign) ?_)
 replace m:=m.nilO 28 3
 refine n_nil (k2 _ _ ?_)
 refine c_seq fun K3 k3=>c_seq fun K4 k4=>wp_region_lit (n_val (r_assign) (n_nil (k4 _ _ ?_)))
 refine wp_block ?_
 simp only [ev,zD,zE,zF,zG]
 try simp only [Nat.zero_add,Nat.reduceAdd,Nat.reduceMul,Int.reduceToNat]
 refine c_loopg [3,4] [5,6,7,8,9,10,11,12,13,14,15,16,17,18,19,20,21,22,23] (fun n vs wl=>∃ (k n3 : Nat) (A3 : Option Addr) (cap3 : Nat),vs = [.slice A3 n3 cap3,.int .i64 (k:Int)] ∧ Mem w wl [oI 28 3 A3 n3 cap3 ((cornersT (ts.take k)).flatMap ptC)] ∧ (n3 = (cornersT (ts.take k)).length) ∧ (k ≤ N) ∧ (n = N - k)) ?_ ?_
 ·
  apply Exists.intro
  simp only [zQ,zR,zD,zE]
  exact ⟨0,0,_,_,rfl,m,rfl,Nat.zero_le _,rfl⟩
 ·
  intro n vs wr hI u
  clear m
  obtain ⟨k,n3,A3,cap3,rfl,m,hn3,hk,hn⟩:=hI
  simp only [setG_cons,setG_nil,setMany_cons,setMany_nil,zF,zG]
  refine c_seq fun K5 k5=>c_seq fun K6 k6=>wp_region_lit (n_val (r_move) (n_val (r_move) (n_val (r_lenS rfl Tryz.underlying24 rfl) (n_val (r_lss rfl rfl) ?_))))
  simp only [ev,zD,zE,zF,zG]
  refine n_nil (k6 _ _ ?_)
  refine c_if rfl (fun hc1=>?_) (fun hc1=>?_)
  ·
   obtain ⟨t,ht,_,a,rfl,hrow⟩:=hT.get (i:=k) (by omega)
   have hb0:=corners_len (ts.take k)
   have hb1:=withP_len (cornersT (ts.take k)) t.a
   have hb2:=withP_len (withP (cornersT (ts.take k)) t.a) t.b
   rw [List.length_take] at hb0
   refine wp_skip (k5 _ _ ?_)
   refine c_seq fun K7 k7=>wp_block (c_seq fun K8 k8=>wp_region_lit (n_val (r_assign) (n_nil (k8 _ _ ?_))))
   refine wp_block (wp_loop_rounds 4 (rounds_step (c_seq fun K9 k9=>c_seq fun K10 k10=>wp_region_lit (n_val (r_move) (n_val (r_lssT (m:=0) (n:=3) rfl rfl (by decide)) (n_nil (k10 _ _ ?_)))))))
   refine c_yes rfl (wp_skip (k9 _ _ ?_))
   refine c_seq fun K11 k11=>wp_block (wp_region_lit (n_val (r_move) ?_))
   simp only [ev,zD,zE,zF,zG]
   refine n_val (r_move) (n_val (r_move) (n_val (r_move) ?_))
   simp only [ev,zD,zE,zF,zG]
   refine n_val (r_indexAddrS Tryz.underlying24 cells_59 rfl rfl (by omega) (by omega) (addrN (Int.toNat_natCast _))) (n_val (r_indexAddrA Tryz.underlying59 cells_28 rfl rfl (by decide) (by decide) rfl) ?_)
   simp only [ev,zD,zE,zF,zG]
   refine n_load rfl ((Row.cor (hrow.ext m.ext) (c:=0) (by decide)).lies agg_28 cells_28) ?_
   simp only [ev,zD,zE,zF,zG]
   refine mcallF m 0 en_160 rfl rfl (fun m=>with_c (p:=t.a) m 0 rfl (by omega)) ?_
   clear m; rintro v i u m ⟨A3,cap3,n3,hn3,rfl,rfl⟩; simp only [zF,zG] at m
   refine n_val (r_assign) (n_nil (k11 _ _ ?_))
   refine wp_region_lit (n_val (r_move) (n_val (r_add (m:=0) (n:=1) (r:=1) rfl rfl (by decide)) ?_))
   simp only [ev,zD,zE,zF,zG]
   refine n_val (r_assign) (n_nil (then_rounds (c_seq fun K12 k12=>c_seq fun K13 k13=>wp_region_lit (n_val (r_move) (n_val (r_lssT (m:=1) (n:=3) rfl rfl (by decide)) (n_nil (k13 _ _ ?_)))))))
   refine c_yes rfl (wp_skip (k12 _ _ ?_))
   refine c_seq fun K14 k14=>wp_block (wp_region_lit (n_val (r_move) ?_))
   simp only [ev,zD,zE,zF,zG]
   refine n_val (r_move) (n_val (r_move) (n_val (r_move) ?_))
   simp only [ev,zD,zE,zF,zG]
   refine n_val (r_indexAddrS Tryz.underlying24 cells_59 rfl rfl (by omega) (by omega) (addrN (Int.toNat_natCast _))) (n_val (r_indexAddrA Tryz.underlying59 cells_28 rfl rfl (by decide) (by decide) rfl) ?_)
   simp only [ev,zD,zE,zF,zG]
   refine n_load rfl ((Row.cor (hrow.ext m.ext) (c:=1) (by decide)).lies agg_28 cells_28) ?_
   simp only [ev,zD,zE,zF,zG]
   refine mcallF m 0 en_160 rfl rfl (fun m=>with_c (p:=t.b) m 0 rfl (by omega)) ?_
   clear m; rintro v i u m ⟨A3,cap3,n3,hn3,rfl,rfl⟩; simp only [zF,zG] at m
   refine n_val (r_assign) (n_nil (k14 _ _ ?_))
   refine wp_region_lit (n_val (r_move) (n_val (r_add (m:=1) (n:=1) (r:=2) rfl rfl (by decide)) ?_))
   simp only [ev,zD,zE,zF,zG]
   refine n_val (r_assign) (n_nil (then_rounds (c_seq fun K15 k15=>c_seq fun K16 k16=>wp_region_lit (n_val (r_move) (n_val (r_lssT (m:=2) (n:=3) rfl rfl (by decide)) (n_nil (k16 _ _ ?_)))))))
   refine c_yes rfl (wp_skip (k15 _ _ ?_))
   refine c_seq fun K17 k17=>wp_block (wp_region_lit (n_val (r_move) ?_))
   simp only [ev,zD,zE,zF,zG]
   refine n_val (r_move) (n_val (r_move) (n_val (r_move) ?_))
   simp only [ev,zD,zE,zF,zG]
   refine n_val (r_indexAddrS Tryz.underlying24 cells_59 rfl rfl (by omega) (by omega) (addrN (Int.toNat_natCast _))) (n_val (r_indexAddrA Tryz.underlying59 cells_28 rfl rfl (by decide) (by decide) rfl) ?_)
   simp only [ev,zD,zE,zF,zG]
   refine n_load rfl ((Row.cor (hrow.ext m.ext) (c:=2) (by decide)).lies agg_28 cells_28) ?_
   simp only [ev,zD,zE,zF,zG]
   refine mcallF m 0 en_160 rfl rfl (fun m=>with_c (p:=t.c) m 0 rfl (by omega)) ?_
   clear m; rintro v i u m ⟨A3,cap3,n3,hn3,rfl,rfl⟩; simp only [zF,zG] at m
   refine n_val (r_assign) (n_nil (k17 _ _ ?_))
   refine wp_region_lit (n_val (r_move) (n_val (r_add (m:=2) (n:=1) (r:=3) rfl rfl (by decide)) ?_))
   simp only [ev,zD,zE,zF,zG]
   refine n_val (r_assign) (n_nil (then_rounds (c_seq fun K18 k18=>c_seq fun K19 k19=>wp_region_lit (n_val (r_move) (n_val (r_lssF (m:=3) (n:=3) rfl rfl (by decide)) (n_nil (k19 _ _ ?_)))))))
   refine c_no rfl (wp_exit (k7 _ _ ?_))
   refine wp_region_lit (n_val (r_move) ?_)
   simp only [ev,zD,zE,zF,zG]
   refine n_val (r_add rfl rfl (wrap_i64 (by omega) (by omega))) (n_val (r_assign) (n_nil ?_))
   simp only [ev,zD,zE,zF,zG]
   simp only [Exit.inBlock,Exit.then]
   refine ⟨N - (k + 1),_,?_,rfl,?_,?_⟩
   · omega
   · simp only [zQ,zR,zD,zE,setG_cons,setG_nil,setMany_cons,setMany_nil,zF,zG]
   ·
    simp only [zQ,zR,zD,zE]
    exact ⟨k + 1,_,_,_,rfl,(m.reO 0 rfl ((m.o 0 rfl).as (by rw [corners_step ht]))),by rw [corners_step ht]; exact hn3,by omega,rfl⟩
  ·
   have hkN : k = N:=by omega
   rw [hkN,show ts.take N = ts from List.take_of_length_le (by rw [hT.len]; exact Nat.le_refl _)] at m hn3
   refine wp_exit (k3 _ _ ?_)
   refine c_seq fun K20 k20=>wp_region_lit (n_val (r_move) (n_val (r_assign) (n_nil (k20 _ _ ?_))))
   refine wp_ret ?_
   simp only [ev,zD,zE,zF,zG]
   try simp only [Exit.inBlock,Exit.then,if_true]
   refine fin1 rfl rfl ?_
   try simp only [zD,zE]
   exact ⟨_,rfl,m.ext,⟨_,_,_,hn3,rfl,(m.o 0 rfl)⟩⟩
theorem behind_c {ts : List T3} {N cap : Nat} {A : Option Addr} {p q : P3} (w : World) (hT : LAt triCells 9 w A N ts) (hN : N ≤ 1000000000) : Does Tryz.prog 161 [.slice A N cap,pt p,pt q] w (fun v _=>v = .tuple #[pt ((behindT ts p q).getD p),.bool (behindT ts p q).isSome]):=by
 refine ⟨en_161,?_⟩
 have m:=Mem.refl w
 go_enter Tryz.func161,Tryz.ntmps161
 refine c_seq fun K1 k1=>wp_region_lit (mboxA m rfl ?_)
 clear m; intro g1 u m
 simp only [ev,zD,zE,zF,zG]
 refine mboxA m rfl ?_
 clear m; intro g2 u m
 simp only [ev,zD,zE,zF,zG]
 refine malloc m zero_28 rfl ?_
 clear m; intro g3 u m
 refine n_val (r_assign) (n_nil (k1 _ _ ?_))
 refine c_seq fun K2 k2=>c_seq fun K3 k3=>wp_region_lit (n_val (r_assign) (n_nil (k3 _ _ ?_)))
 refine wp_block ?_
 simp only [ev,zD,zE,zF,zG]
 try simp only [Nat.zero_add,Nat.reduceAdd,Nat.reduceMul,Int.reduceToNat]
 refine c_loopg [8] [7,9,10,11,12,13,14,15,16,17,18,19,20,21,22,23,24,25,26,27,28,29,30,31,32,33,34,35,36,37,38,39,40,41,42,43,44,45,46,47] (fun n vs wl=>∃ (k : Nat),vs = [.int .i64 (k:Int)] ∧ Mem w wl [bI g3 [.int .i64 0,.int .i64 0,.int .i64 0] 28,bI g2 (ptC q) 28,bI g1 (ptC p) 28] ∧ (behindT (ts.take k) p q = none) ∧ (k ≤ N) ∧ (n = N - k)) ?_ ?_
 ·
  apply Exists.intro
  simp only [zQ,zR,zD,zE]
  exact ⟨0,rfl,m,rfl,Nat.zero_le _,rfl⟩
 ·
  intro n vs wr hI u
  clear m
  obtain ⟨k,rfl,m,hb0,hk,hn⟩:=hI
  simp only [setG_cons,setG_nil,setMany_cons,setMany_nil,zF,zG]
  refine c_seq fun K4 k4=>c_seq fun K5 k5=>wp_region_lit (n_val (r_move) (n_val (r_move) (n_val (r_lenS rfl Tryz.underlying24 rfl) (n_val (r_lss rfl rfl) ?_))))
  simp only [ev,zD,zE,zF,zG]
  refine n_nil (k5 _ _ ?_)
  refine c_if rfl (fun hc1=>?_) (fun hc1=>?_)
  ·
   obtain ⟨t,ht,a,rfl,hrow⟩:=hT.get (i:=k) (by omega)
   refine wp_skip (k4 _ _ ?_)
   refine c_seq fun K6 k6=>wp_block (c_seq fun K7 k7=>wp_region_lit (n_val (r_assign) (n_nil (k7 _ _ ?_))))
   refine wp_block (wp_loop_rounds 4 (rounds_step (c_seq fun K8 k8=>c_seq fun K9 k9=>wp_region_lit (n_val (r_move) (n_val (r_lssT (m:=0) (n:=3) rfl rfl (by decide)) (n_nil (k9 _ _ ?_)))))))
   refine c_yes rfl (wp_skip (k8 _ _ ?_))
   refine c_seq fun K10 k10=>wp_block (c_seq fun K11 k11=>?_)
   simp only [ev,zD,zE,zF,zG]
   refine mq m follows_mixed (by kernel_rfl) (q_val (r_move) (q_val (r_move) (q_val (r_move) ?_)))
   simp only [ev,zD,zE,zF,zG]
   refine q_val (r_indexAddrS Tryz.underlying24 cells_59 rfl rfl (by omega) (by omega) (addrN (Int.toNat_natCast _))) (q_val (r_indexAddrA Tryz.underlying59 cells_28 rfl rfl (by decide) (by decide) rfl) ?_)
   simp only [ev,zD,zE,zF,zG]
   refine ql rfl (fun u m=>((Row.cor (hrow.ext m.ext) (c:=0) (by omega)).lies agg_28 cells_28)) ?_
   simp only [ev,zD,zE,zF,zG]
   refine ql rfl (fun u m=>((m.b 2 rfl).full agg_28 cells_28)) ?_
   simp only [ev,zD,zE,zF,zG]
   refine q_val (eq_eql_28 rfl rfl) (q_val (r_move) (q_mayT rfl (fun hb=>r_move) (q_mayT rfl (fun hb=>r_move) ?_)))
   simp only [ev,zD,zE,zF,zG]
   refine q_mayT rfl (fun hb=>r_move) (q_mayT rfl (fun hb=>r_add (m:=0) (n:=1) (r:=1) (mayE hb rfl) rfl (by decide)) (q_mayT rfl (fun hb=>r_rem (m:=1) (n:=3) (r:=1) (mayE hb rfl) rfl (by decide) (by decide)) ?_))
   simp only [ev,zD,zE,zF,zG]
   refine q_mayT rfl (fun hb=>r_indexAddrS Tryz.underlying24 cells_59 (mayE hb rfl) (mayE hb rfl) (by omega) (by omega) (addrN (Int.toNat_natCast _))) (q_mayT rfl (fun hb=>r_indexAddrA Tryz.underlying59 cells_28 (mayE hb rfl) (mayE hb rfl) (by decide) (by decide) rfl) ?_)
   simp only [ev,zD,zE,zF,zG]
   refine q_mayTW rfl (fun hb u m=>r_load (mayE hb rfl) ((Row.cor (hrow.ext m.ext) (c:=1) (by omega)).lies agg_28 cells_28)) (q_mayTW rfl (fun hb u m=>r_load rfl ((m.b 1 rfl).full agg_28 cells_28)) (q_mayT rfl (fun hb=>eq_eql_28 (mayE hb rfl) (mayE hb rfl)) (q_val (r_pickAnd rfl rfl rfl) (q_nil ?_))))
   clear m; intro u m
   refine k11 _ _ ?_
   simp only [ev,zD,zE,zF,zG]
   refine c_cond rfl (fun hc3=>?_) (fun hc3=>?_)
   ·
    have hf:=behind_take ((behind_step ht hb0).trans (fnd0  (two_pts.1 hc3)))
    refine c_seq fun K12 k12=>wp_region_lit (n_val (r_move) (n_val (r_move) (n_val (r_move) (n_val (r_add (m:=0) (n:=2) (r:=2) rfl rfl (by decide)) ?_))))
    simp only [ev,zD,zE,zF,zG]
    refine n_val (r_rem (m:=2) (n:=3) (r:=2) rfl rfl (by decide) (by decide)) ?_
    simp only [ev,zD,zE,zF,zG]
    refine n_val (r_indexAddrS Tryz.underlying24 cells_59 rfl rfl (by omega) (by omega) (addrN (Int.toNat_natCast _))) (n_val (r_indexAddrA Tryz.underlying59 cells_28 rfl rfl (by decide) (by decide) rfl) ?_)
    simp only [ev,zD,zE,zF,zG]
    refine n_load rfl ((Row.cor (hrow.ext m.ext) (c:=2) (by omega)).lies agg_28 cells_28) ?_
    simp only [ev,zD,zE,zF,zG]
    refine mstoreA m 0 rfl rfl rfl cells_28 (leT rfl) rfl ?_
    clear m; intro u m; simp only [over,zH,zI,zJ,zK,zL,zM,zN,zO,zP,zF,zG,Nat.reduceAdd] at m
    refine n_val (r_assign) (n_nil (k12 _ _ ?_))
    refine wp_ret ?_
    simp only [ev,zD,zE,zF,zG]
    try simp only [Exit.inBlock,Exit.then,if_true]
    refine fin2 rfl ⟨_,rfl,((m.b 0 rfl).full agg_28 cells_28)⟩ rfl ?_
    try simp only [zD,zE]
    exact ⟨_,rfl,m.ext,by rw [hf]; rfl⟩
   ·
    have hq0:=no_pts hc3
    refine wp_skip (k10 _ _ ?_)
    refine wp_region_lit (n_val (r_move) (n_val (r_add (m:=0) (n:=1) (r:=1) rfl rfl (by decide)) (n_val (r_assign) (n_nil (then_rounds (c_seq fun K13 k13=>c_seq fun K14 k14=>wp_region_lit (n_val (r_move) ?_)))))))
    simp only [ev,zD,zE,zF,zG]
    refine n_val (r_lssT (m:=1) (n:=3) rfl rfl (by decide)) (n_nil (k14 _ _ ?_))
    refine c_yes rfl (wp_skip (k13 _ _ ?_))
    refine c_seq fun K15 k15=>wp_block (c_seq fun K16 k16=>?_)
    simp only [ev,zD,zE,zF,zG]
    refine mq m follows_mixed (by kernel_rfl) (q_val (r_move) (q_val (r_move) (q_val (r_move) ?_)))
    simp only [ev,zD,zE,zF,zG]
    refine q_val (r_indexAddrS Tryz.underlying24 cells_59 rfl rfl (by omega) (by omega) (addrN (Int.toNat_natCast _))) (q_val (r_indexAddrA Tryz.underlying59 cells_28 rfl rfl (by decide) (by decide) rfl) ?_)
    simp only [ev,zD,zE,zF,zG]
    refine ql rfl (fun u m=>((Row.cor (hrow.ext m.ext) (c:=1) (by omega)).lies agg_28 cells_28)) ?_
    simp only [ev,zD,zE,zF,zG]
    refine ql rfl (fun u m=>((m.b 2 rfl).full agg_28 cells_28)) ?_
    simp only [ev,zD,zE,zF,zG]
    refine q_val (eq_eql_28 rfl rfl) (q_val (r_move) (q_mayT rfl (fun hb=>r_move) (q_mayT rfl (fun hb=>r_move) ?_)))
    simp only [ev,zD,zE,zF,zG]
    refine q_mayT rfl (fun hb=>r_move) (q_mayT rfl (fun hb=>r_add (m:=1) (n:=1) (r:=2) (mayE hb rfl) rfl (by decide)) (q_mayT rfl (fun hb=>r_rem (m:=2) (n:=3) (r:=2) (mayE hb rfl) rfl (by decide) (by decide)) ?_))
    simp only [ev,zD,zE,zF,zG]
    refine q_mayT rfl (fun hb=>r_indexAddrS Tryz.underlying24 cells_59 (mayE hb rfl) (mayE hb rfl) (by omega) (by omega) (addrN (Int.toNat_natCast _))) (q_mayT rfl (fun hb=>r_indexAddrA Tryz.underlying59 cells_28 (mayE hb rfl) (mayE hb rfl) (by decide) (by decide) rfl) ?_)
    simp only [ev,zD,zE,zF,zG]
    refine q_mayTW rfl (fun hb u m=>r_load (mayE hb rfl) ((Row.cor (hrow.ext m.ext) (c:=2) (by omega)).lies agg_28 cells_28)) (q_mayTW rfl (fun hb u m=>r_load rfl ((m.b 1 rfl).full agg_28 cells_28)) (q_mayT rfl (fun hb=>eq_eql_28 (mayE hb rfl) (mayE hb rfl)) (q_val (r_pickAnd rfl rfl rfl) (q_nil ?_))))
    clear m; intro u m
    refine k16 _ _ ?_
    simp only [ev,zD,zE,zF,zG]
    refine c_cond rfl (fun hc3=>?_) (fun hc3=>?_)
    ·
     have hf:=behind_take ((behind_step ht hb0).trans (fnd1 hq0 (two_pts.1 hc3)))
     refine c_seq fun K17 k17=>wp_region_lit (n_val (r_move) (n_val (r_move) (n_val (r_move) (n_val (r_add (m:=1) (n:=2) (r:=3) rfl rfl (by decide)) ?_))))
     simp only [ev,zD,zE,zF,zG]
     refine n_val (r_rem (m:=3) (n:=3) (r:=0) rfl rfl (by decide) (by decide)) ?_
     simp only [ev,zD,zE,zF,zG]
     refine n_val (r_indexAddrS Tryz.underlying24 cells_59 rfl rfl (by omega) (by omega) (addrN (Int.toNat_natCast _))) (n_val (r_indexAddrA Tryz.underlying59 cells_28 rfl rfl (by decide) (by decide) rfl) ?_)
     simp only [ev,zD,zE,zF,zG]
     refine n_load rfl ((Row.cor (hrow.ext m.ext) (c:=0) (by omega)).lies agg_28 cells_28) ?_
     simp only [ev,zD,zE,zF,zG]
     refine mstoreA m 0 rfl rfl rfl cells_28 (leT rfl) rfl ?_
     clear m; intro u m; simp only [over,zH,zI,zJ,zK,zL,zM,zN,zO,zP,zF,zG,Nat.reduceAdd] at m
     refine n_val (r_assign) (n_nil (k17 _ _ ?_))
     refine wp_ret ?_
     simp only [ev,zD,zE,zF,zG]
     try simp only [Exit.inBlock,Exit.then,if_true]
     refine fin2 rfl ⟨_,rfl,((m.b 0 rfl).full agg_28 cells_28)⟩ rfl ?_
     try simp only [zD,zE]
     exact ⟨_,rfl,m.ext,by rw [hf]; rfl⟩
    ·
     have hq1:=no_pts hc3
     refine wp_skip (k15 _ _ ?_)
     refine wp_region_lit (n_val (r_move) (n_val (r_add (m:=1) (n:=1) (r:=2) rfl rfl (by decide)) (n_val (r_assign) (n_nil (then_rounds (c_seq fun K18 k18=>c_seq fun K19 k19=>wp_region_lit (n_val (r_move) ?_)))))))
     simp only [ev,zD,zE,zF,zG]
     refine n_val (r_lssT (m:=2) (n:=3) rfl rfl (by decide)) (n_nil (k19 _ _ ?_))
     refine c_yes rfl (wp_skip (k18 _ _ ?_))
     refine c_seq fun K20 k20=>wp_block (c_seq fun K21 k21=>?_)
     simp only [ev,zD,zE,zF,zG]
     refine mq m follows_mixed (by kernel_rfl) (q_val (r_move) (q_val (r_move) (q_val (r_move) ?_)))
     simp only [ev,zD,zE,zF,zG]
     refine q_val (r_indexAddrS Tryz.underlying24 cells_59 rfl rfl (by omega) (by omega) (addrN (Int.toNat_natCast _))) (q_val (r_indexAddrA Tryz.underlying59 cells_28 rfl rfl (by decide) (by decide) rfl) ?_)
     simp only [ev,zD,zE,zF,zG]
     refine ql rfl (fun u m=>((Row.cor (hrow.ext m.ext) (c:=2) (by omega)).lies agg_28 cells_28)) ?_
     simp only [ev,zD,zE,zF,zG]
     refine ql rfl (fun u m=>((m.b 2 rfl).full agg_28 cells_28)) ?_
     simp only [ev,zD,zE,zF,zG]
     refine q_val (eq_eql_28 rfl rfl) (q_val (r_move) (q_mayT rfl (fun hb=>r_move) (q_mayT rfl (fun hb=>r_move) ?_)))
     simp only [ev,zD,zE,zF,zG]
     refine q_mayT rfl (fun hb=>r_move) (q_mayT rfl (fun hb=>r_add (m:=2) (n:=1) (r:=3) (mayE hb rfl) rfl (by decide)) (q_mayT rfl (fun hb=>r_rem (m:=3) (n:=3) (r:=0) (mayE hb rfl) rfl (by decide) (by decide)) ?_))
     simp only [ev,zD,zE,zF,zG]
     refine q_mayT rfl (fun hb=>r_indexAddrS Tryz.underlying24 cells_59 (mayE hb rfl) (mayE hb rfl) (by omega) (by omega) (addrN (Int.toNat_natCast _))) (q_mayT rfl (fun hb=>r_indexAddrA Tryz.underlying59 cells_28 (mayE hb rfl) (mayE hb rfl) (by decide) (by decide) rfl) ?_)
     simp only [ev,zD,zE,zF,zG]
     refine q_mayTW rfl (fun hb u m=>r_load (mayE hb rfl) ((Row.cor (hrow.ext m.ext) (c:=0) (by omega)).lies agg_28 cells_28)) (q_mayTW rfl (fun hb u m=>r_load rfl ((m.b 1 rfl).full agg_28 cells_28)) (q_mayT rfl (fun hb=>eq_eql_28 (mayE hb rfl) (mayE hb rfl)) (q_val (r_pickAnd rfl rfl rfl) (q_nil ?_))))
     clear m; intro u m
     refine k21 _ _ ?_
     simp only [ev,zD,zE,zF,zG]
     refine c_cond rfl (fun hc3=>?_) (fun hc3=>?_)
     ·
      have hf:=behind_take ((behind_step ht hb0).trans (fnd2 hq0 hq1 (two_pts.1 hc3)))
      refine c_seq fun K22 k22=>wp_region_lit (n_val (r_move) (n_val (r_move) (n_val (r_move) (n_val (r_add (m:=2) (n:=2) (r:=4) rfl rfl (by decide)) ?_))))
      simp only [ev,zD,zE,zF,zG]
      refine n_val (r_rem (m:=4) (n:=3) (r:=1) rfl rfl (by decide) (by decide)) ?_
      simp only [ev,zD,zE,zF,zG]
      refine n_val (r_indexAddrS Tryz.underlying24 cells_59 rfl rfl (by omega) (by omega) (addrN (Int.toNat_natCast _))) (n_val (r_indexAddrA Tryz.underlying59 cells_28 rfl rfl (by decide) (by decide) rfl) ?_)
      simp only [ev,zD,zE,zF,zG]
      refine n_load rfl ((Row.cor (hrow.ext m.ext) (c:=1) (by omega)).lies agg_28 cells_28) ?_
      simp only [ev,zD,zE,zF,zG]
      refine mstoreA m 0 rfl rfl rfl cells_28 (leT rfl) rfl ?_
      clear m; intro u m; simp only [over,zH,zI,zJ,zK,zL,zM,zN,zO,zP,zF,zG,Nat.reduceAdd] at m
      refine n_val (r_assign) (n_nil (k22 _ _ ?_))
      refine wp_ret ?_
      simp only [ev,zD,zE,zF,zG]
      try simp only [Exit.inBlock,Exit.then,if_true]
      refine fin2 rfl ⟨_,rfl,((m.b 0 rfl).full agg_28 cells_28)⟩ rfl ?_
      try simp only [zD,zE]
      exact ⟨_,rfl,m.ext,by rw [hf]; rfl⟩
     ·
      have hq2:=no_pts hc3
      refine wp_skip (k20 _ _ ?_)
      refine wp_region_lit (n_val (r_move) (n_val (r_add (m:=2) (n:=1) (r:=3) rfl rfl (by decide)) (n_val (r_assign) (n_nil (then_rounds (c_seq fun K23 k23=>c_seq fun K24 k24=>wp_region_lit (n_val (r_move) ?_)))))))
      simp only [ev,zD,zE,zF,zG]
      refine n_val (r_lssF (m:=3) (n:=3) rfl rfl (by decide)) (n_nil (k24 _ _ ?_))
      refine c_no rfl (wp_exit (k6 _ _ ?_))
      refine wp_region_lit (n_val (r_move) ?_)
      simp only [ev,zD,zE,zF,zG]
      refine n_val (r_add rfl rfl (wrap_i64 (by omega) (by omega))) (n_val (r_assign) (n_nil ?_))
      simp only [ev,zD,zE,zF,zG]
      simp only [Exit.inBlock,Exit.then]
      refine ⟨N - (k + 1),_,?_,rfl,?_,?_⟩
      · omega
      · simp only [zQ,zR,zD,zE,setG_cons,setG_nil,setMany_cons,setMany_nil,zF,zG]
      ·
       simp only [zQ,zR,zD,zE]
       exact ⟨k + 1,rfl,m,(behind_step ht hb0).trans (fndn hq0 hq1 hq2),by omega,rfl⟩
  ·
   have hkN : k = N:=by omega
   rw [hkN,show ts.take N = ts from List.take_of_length_le (by rw [hT.len]; exact Nat.le_refl _)] at hb0
   refine wp_exit (k2 _ _ ?_)
   refine c_seq fun K25 k25=>wp_region_lit (n_load rfl ((m.b 2 rfl).full agg_28 cells_28) ?_)
   simp only [ev,zD,zE,zF,zG]
   refine mstoreA m 0 rfl rfl rfl cells_28 (leT rfl) rfl ?_
   clear m; intro u m; simp only [over,zH,zI,zJ,zK,zL,zM,zN,zO,zP,zF,zG,Nat.reduceAdd] at m
   refine n_val (r_assign) (n_nil (k25 _ _ ?_))
   refine wp_ret ?_
   simp only [ev,zD,zE,zF,zG]
   try simp only [Exit.inBlock,Exit.then,if_true]
   refine fin2 rfl ⟨_,rfl,((m.b 0 rfl).full agg_28 cells_28)⟩ rfl ?_
   try simp only [zD,zE]
   exact ⟨_,rfl,m.ext,by rw [hb0]; rfl⟩
theorem pinched_c {ts : List T3} {N cap : Nat} {A : Option Addr} {p : P3} (w : World) (hT : TrisAt w A N ts) (hN : N ≤ 100000000) : Does Tryz.prog 124 [.slice A N cap,pt p] w (fun v _=>v = .bool (pinT ts p)):=by
 refine ⟨en_124,?_⟩
 have m:=Mem.refl w
 go_enter Tryz.func124,Tryz.ntmps124
 refine c_seq fun K1 k1=>wp_region_lit (mboxA m rfl ?_)
 clear m; intro g1 u m
 refine n_val (r_assign) (n_nil (k1 _ _ ?_))
 refine c_seq fun K2 k2=>wp_region_lit (n_val (r_assign) ?_)
 replace m:=m.nilO 59 9
 refine n_nil (k2 _ _ ?_)
 refine c_seq fun K3 k3=>wp_region_lit (n_val (r_assign) ?_)
 simp only [ev,zD,zE,zF,zG]
 replace m:=m.nilO 28 3
 refine n_nil (k3 _ _ ?_)
 refine c_seq fun K4 k4=>c_seq fun K5 k5=>wp_region_lit (n_val (r_assign) (n_nil (k5 _ _ ?_)))
 refine wp_block ?_
 simp only [ev,zD,zE,zF,zG]
 try simp only [Nat.zero_add,Nat.reduceAdd,Nat.reduceMul,Int.reduceToNat]
 refine c_loopg [5,6,7] [8,14,15,16,17,18,19,20,21,22,23,24,25,26,27,28,29,30,31,32,33,34,35,36,37,38,39,40,41,42,43,44,45,46,47,48,49] (fun n vs wl=>∃ (k n5 n6 cap5 cap6 : Nat) (A5 A6 : Option Addr),vs = [.slice A5 n5 cap5,.slice A6 n6 cap6,.int .i64 (k:Int)] ∧ Mem w wl [oI 28 3 A6 n6 cap6 ((startT (ts.take k) p).flatMap ptC),oI 59 9 A5 n5 cap5 ((mineT (ts.take k) p).flatMap triCells),bI g1 (ptC p) 28] ∧ (n5 ≤ k * 3) ∧ (n6 ≤ k * 3) ∧ (k ≤ N) ∧ (n = N - k)) ?_ ?_
 ·
  apply Exists.intro
  simp only [zQ,zR,zD,zE]
  exact ⟨0,_,_,_,_,_,_,rfl,m,Nat.le_refl _,Nat.le_refl _,Nat.zero_le _,rfl⟩
 ·
  intro n vs wr hI u
  clear m
  obtain ⟨k,n5,n6,cap5,cap6,A5,A6,rfl,m,hl5,hl6,hk,hn⟩:=hI
  simp only [setG_cons,setG_nil,setMany_cons,setMany_nil,zF,zG]
  refine c_seq fun K6 k6=>c_seq fun K7 k7=>wp_region_lit (n_val (r_move) (n_val (r_move) (n_val (r_lenS rfl Tryz.underlying24 rfl) (n_val (r_lss rfl rfl) ?_))))
  simp only [ev,zD,zE,zF,zG]
  refine n_nil (k7 _ _ ?_)
  refine c_if rfl (fun hc1=>?_) (fun hc1=>?_)
  ·
   obtain ⟨t,ht,_,a,rfl,hrow⟩:=hT.get (i:=k) (by omega)
   refine wp_skip (k6 _ _ ?_)
   refine c_seq fun K8 k8=>wp_block (c_seq fun K9 k9=>wp_region_lit (n_val (r_assign) (n_nil (k9 _ _ ?_))))
   refine wp_block ?_
   simp only [ev,zD,zE,zF,zG]
   try simp only [Nat.zero_add,Nat.reduceAdd,Nat.reduceMul,Int.reduceToNat]
   refine c_loopg [5,6,8] [20,21,22,23,24,25,26,27,28,29,30,31,32,33,34,35,36,37,38,39,40,41,42,43,44,45,46,47,48,49] (fun n vs wl=>∃ (c n5 n6 cap5 cap6 : Nat) (A5 A6 : Option Addr),vs = [.slice A5 n5 cap5,.slice A6 n6 cap6,.int .i64 (c:Int)] ∧ Mem w wl [oI 28 3 A6 n6 cap6 ((startP ts p (k) t (c)).flatMap ptC),oI 59 9 A5 n5 cap5 ((mineP ts p (k) t (c)).flatMap triCells),bI g1 (ptC p) 28] ∧ (n5 ≤ k * 3 + c) ∧ (n6 ≤ k * 3 + c) ∧ (c ≤ 3) ∧ (n = 3 - c)) ?_ ?_
   ·
    rw [← mineP_0 (t:=t),← startP_0 (t:=t)] at m
    apply Exists.intro
    simp only [zQ,zR,zD,zE]
    exact ⟨0,_,_,_,_,_,_,rfl,m,hl5,hl6,Nat.zero_le _,rfl⟩
   ·
    intro n vs wr hI u
    clear m
    obtain ⟨c,n5,n6,cap5,cap6,A5,A6,rfl,m,hl5,hl6,hc,hn2⟩:=hI
    simp only [setG_cons,setG_nil,setMany_cons,setMany_nil,zF,zG]
    refine c_seq fun K10 k10=>c_seq fun K11 k11=>wp_region_lit (n_val (r_move) (n_val (r_lss rfl rfl) (n_nil (k11 _ _ ?_))))
    simp only [ev,zD,zE,zF,zG]
    refine c_if rfl (fun hc2=>?_) (fun hc2=>?_)
    ·
     have hc3 : c < 3:=by omega
     refine wp_skip (k10 _ _ ?_)
     refine c_seq fun K12 k12=>wp_block (c_seq fun K13 k13=>mq m follows_mixed (by kernel_rfl) (q_val (r_move) (q_val (r_move) (q_val (r_move) ?_))))
     simp only [ev,zD,zE,zF,zG]
     refine q_val (r_indexAddrS Tryz.underlying24 cells_59 rfl rfl (by omega) (by omega) (addrN (Int.toNat_natCast _))) ?_
     simp only [ev,zD,zE,zF,zG]
     refine q_val (r_indexAddrA Tryz.underlying59 cells_28 rfl rfl (by omega) (by omega) (addrN (Int.toNat_natCast _))) ?_
     simp only [ev,zD,zE,zF,zG]
     refine ql rfl (fun u m=>((Row.cor (hrow.ext m.ext) (c:=c) (by omega)).lies agg_28 cells_28)) ?_
     simp only [ev,zD,zE,zF,zG]
     refine ql rfl (fun u m=>((m.b 2 rfl).full agg_28 cells_28)) ?_
     simp only [ev,zD,zE,zF,zG]
     refine q_val (eq_eql_28 rfl rfl) (q_nil ?_)
     clear m; intro u m
     refine k13 _ _ ?_
     simp only [ev,zD,zE,zF,zG]
     refine c_if rfl (fun hc3=>?_) (fun hc3=>?_)
     ·
      have hcp : t.cor c = p:=P3.eq hc3.1 hc3.2.1 hc3.2.2
      refine c_seq fun K14 k14=>wp_region_lit (n_val (r_move) (n_val (r_move) (n_val (r_move) ?_)))
      simp only [ev,zD,zE,zF,zG]
      refine n_val (r_indexAddrS Tryz.underlying24 cells_59 rfl rfl (by omega) (by omega) (addrN (Int.toNat_natCast _))) ?_
      simp only [ev,zD,zE,zF,zG]
      refine n_load rfl ((hrow.ext m.ext).lies agg_59 cells_59) ?_
      simp only [ev,zD,zE,zF,zG]
      refine n_bs_24_1 rfl ?_
      intro u g2 e hg hB; replace m:=m.newB e hg hB; clear e hg hB
      simp only [ev,zD,zE,zF,zG]
      refine mappend m 2 rfl rfl Tryz.underlying24 inf_59 rfl (by decide) rfl rfl rfl (m.b 0 rfl).rowsO (allT rfl) (by omega) (by omega) ?_
      clear m; intro A5 cap5 u m; simp only [zF,zG] at m
      refine n_val (r_assign) (n_nil (k14 _ _ ?_))
      refine wp_region_lit (n_val (r_move) (n_val (r_move) ?_))
      simp only [ev,zD,zE,zF,zG]
      refine n_val (r_move) (n_val (r_move) ?_)
      simp only [ev,zD,zE,zF,zG]
      refine n_val (r_add rfl rfl (wrap_i64 (by omega) (by omega))) ?_
      simp only [ev,zD,zE,zF,zG]
      refine n_val (r_rem rfl rfl (by omega) (tmodN (k:=c + 1))) ?_
      simp only [ev,zD,zE,zF,zG]
      refine n_val (r_indexAddrS Tryz.underlying24 cells_59 rfl rfl (by omega) (by omega) (addrN (Int.toNat_natCast _))) ?_
      simp only [ev,zD,zE,zF,zG]
      refine n_val (r_indexAddrA Tryz.underlying59 cells_28 rfl rfl (by omega) (by omega) (addrN (Int.toNat_natCast _))) ?_
      simp only [ev,zD,zE,zF,zG]
      refine n_load rfl ((Row.cor (hrow.ext m.ext) (c:=(c + 1) % 3) (by omega)).lies agg_28 cells_28) ?_
      simp only [ev,zD,zE,zF,zG]
      refine n_bs_118_1 rfl ?_
      intro u g3 e hg hB; replace m:=m.newB e hg hB; clear e hg hB
      simp only [ev,zD,zE,zF,zG]
      refine mappend m 2 rfl rfl Tryz.underlying118 inf_28 rfl (by decide) rfl rfl rfl (m.b 0 rfl).rowsO (allT rfl) (by omega) (by omega) ?_
      clear m; intro A6 cap6 u m; simp only [zF,zG] at m
      refine n_val (r_assign) (n_nil (k12 _ _ ?_))
      refine wp_region_lit (n_val (r_move) ?_)
      simp only [ev,zD,zE,zF,zG]
      refine n_val (r_add rfl rfl (wrap_i64 (by omega) (by omega))) (n_val (r_assign) (n_nil ?_))
      simp only [ev,zD,zE,zF,zG]
      simp only [Exit.inBlock,Exit.then]
      refine ⟨3 - (c + 1),_,?_,rfl,?_,?_⟩
      · omega
      · simp only [zQ,zR,zD,zE,setG_cons,setG_nil,setMany_cons,setMany_nil,zF,zG]
      ·
       simp only [zQ,zR,zD,zE]
       exact ⟨c + 1,_,_,_,_,_,_,rfl,(((m.reO 3 rfl ((m.o 3 rfl).as (by rw [mineP_yes hcp,List.flatMap_append]; rfl))).reO 2 rfl ((m.o 2 rfl).as (by rw [startP_yes hcp,List.flatMap_append]; rfl))).sel [false,false,true,true,true]),by omega,by omega,by omega,rfl⟩
     ·
      have hcp : ¬ t.cor c = p:=fun h=>hc3 (by rw [h]; exact ⟨rfl,rfl,rfl⟩)
      refine wp_skip (k12 _ _ ?_)
      refine wp_region_lit (n_val (r_move) ?_)
      simp only [ev,zD,zE,zF,zG]
      refine n_val (r_add rfl rfl (wrap_i64 (by omega) (by omega))) (n_val (r_assign) (n_nil ?_))
      simp only [ev,zD,zE,zF,zG]
      simp only [Exit.inBlock,Exit.then]
      refine ⟨3 - (c + 1),_,?_,rfl,?_,?_⟩
      · omega
      · simp only [zQ,zR,zD,zE,setG_cons,setG_nil,setMany_cons,setMany_nil,zF,zG]
      ·
       simp only [zQ,zR,zD,zE]
       exact ⟨c + 1,_,_,_,_,_,_,rfl,((m.reO 1 rfl ((m.o 1 rfl).as (by rw [mineP_no hcp]))).reO 0 rfl ((m.o 0 rfl).as (by rw [startP_no hcp]))),by omega,by omega,by omega,rfl⟩
    ·
     obtain rfl : c = 3:=by omega
     rw [mineP_3 ht,startP_3 ht] at m
     refine wp_exit (k8 _ _ ?_)
     refine wp_region_lit (n_val (r_move) ?_)
     simp only [ev,zD,zE,zF,zG]
     refine n_val (r_add rfl rfl (wrap_i64 (by omega) (by omega))) (n_val (r_assign) (n_nil ?_))
     simp only [ev,zD,zE,zF,zG]
     simp only [Exit.inBlock,Exit.then]
     refine ⟨N - (k + 1),_,?_,rfl,?_,?_⟩
     · omega
     · simp only [zQ,zR,zD,zE,setG_cons,setG_nil,setMany_cons,setMany_nil,zF,zG]
     ·
      simp only [zQ,zR,zD,zE]
      exact ⟨k + 1,_,_,_,_,_,_,rfl,m,by omega,by omega,by omega,rfl⟩
  ·
   have hkN : k = N:=by omega
   rw [hkN,show ts.take N = ts from List.take_of_length_le (by rw [hT.len]; exact Nat.le_refl _)] at m
   obtain ⟨M,hM⟩ : ∃ M,M = mineT ts p:=⟨_,rfl⟩
   obtain ⟨S,hS⟩ : ∃ S,S = startT ts p:=⟨_,rfl⟩
   rw [← hM,← hS] at m
   have h5 : M.length = n5:=(m.o 1 rfl).num tri9 (by decide)
   have h6 : S.length = n6:=(m.o 0 rfl).num pc3 (by decide)
   have hle6:=(m.o 0 rfl).le
   have hP : pinT ts p = S.any (fun s=>ringT M p s (M.length - 1) s):=by rw [hM,hS]; rfl
   clear hM hS
   refine wp_exit (k4 _ _ ?_)
   refine c_seq fun K15 k15=>c_seq fun K16 k16=>wp_region_lit (n_val (r_assign) (n_nil (k16 _ _ ?_)))
   refine wp_block ?_
   simp only [ev,zD,zE,zF,zG]
   try simp only [Nat.zero_add,Nat.reduceAdd,Nat.reduceMul,Int.reduceToNat]
   refine c_loopg [9] [4,10,11,12,13,50,51,52,53,54,55,56,57,58,59,60,61,62,63,64,65,66,67,68,69,70,71,72,73,74,75,76,77,78,79,80,81] (fun n vs wl=>∃ (k2 : Nat),vs = [.int .i64 (k2:Int)] ∧ Mem w wl [oI 28 3 A6 n6 cap6 ((S).flatMap ptC),oI 59 9 A5 n5 cap5 ((M).flatMap triCells),bI g1 (ptC p) 28] ∧ ((S.take k2).any (fun s=>ringT M p s (M.length - 1) s) = false) ∧ (k2 ≤ n6) ∧ (n = n6 - k2)) ?_ ?_
   ·
    apply Exists.intro
    simp only [zQ,zR,zD,zE]
    exact ⟨0,rfl,m,rfl,Nat.zero_le _,rfl⟩
   ·
    intro n vs wr hI u
    clear m
    obtain ⟨k2,rfl,m,hno,hk2,hn3⟩:=hI
    simp only [setG_cons,setG_nil,setMany_cons,setMany_nil,zF,zG]
    refine c_seq fun K17 k17=>c_seq fun K18 k18=>wp_region_lit (n_val (r_move) (n_val (r_move) (n_val (r_lenS rfl Tryz.underlying118 rfl) (n_val (r_lss rfl rfl) ?_))))
    simp only [ev,zD,zE,zF,zG]
    refine n_nil (k18 _ _ ?_)
    refine c_if rfl (fun hc4=>?_) (fun hc4=>?_)
    ·
     obtain ⟨sx,hsx⟩ : ∃ sx,S[k2]? = some sx:=⟨_,List.getElem?_eq_getElem (by omega)⟩
     obtain ⟨gO,rfl⟩:=(m.o 0 rfl).some (by omega)
     refine wp_skip (k17 _ _ ?_)
     refine c_seq fun K19 k19=>wp_block (c_seq fun K20 k20=>wp_region_lit (n_val (r_move) (n_val (r_move) ?_)))
     simp only [ev,zD,zE,zF,zG]
     refine n_val (r_indexAddrS Tryz.underlying118 cells_28 rfl rfl (by omega) (by omega) (addrN (Int.toNat_natCast _))) ?_
     simp only [ev,zD,zE,zF,zG]
     refine n_load rfl (((m.o 0 rfl).at pc3 hsx).lies agg_28 cells_28) ?_
     simp only [ev,zD,zE,zF,zG]
     refine malloc m zero_28 rfl ?_
     clear m; intro g2 u m
     simp only [ev,zD,zE,zF,zG]
     refine mstoreA m 0 rfl rfl rfl cells_28 (leT rfl) rfl ?_
     clear m; intro u m; simp only [over,zH,zI,zJ,zK,zL,zM,zN,zO,zP,zF,zG,Nat.reduceAdd] at m
     refine n_nil (k20 _ _ ?_)
     refine c_seq fun K21 k21=>wp_region_lit (n_val (r_assign) (n_nil (k21 _ _ ?_)))
     refine wp_block ?_
     simp only [ev,zD,zE,zF,zG]
     try simp only [Nat.zero_add,Nat.reduceAdd,Nat.reduceMul,Int.reduceToNat]
     refine c_loopg [11] [4,12,13,60,61,62,63,64,65,66,67,68,69,70,71,72,73,74,75,76,77,78,79,80,81] (fun n vs wl=>∃ (j : Nat) (x : P3),vs = [.int .i64 (j:Int)] ∧ Mem w wl [bI g2 (ptC x) 28,oI 28 3 (some ⟨gO,0,none⟩) n6 cap6 (S.flatMap ptC),oI 59 9 A5 n5 cap5 ((M).flatMap triCells),bI g1 (ptC p) 28] ∧ (ringT M p sx (M.length - 1) sx = ringT M p sx (M.length - j) x) ∧ (1 ≤ j) ∧ (j ≤ n5 + 1) ∧ (n = n5 + 1 - j)) ?_ ?_
     ·
      apply Exists.intro
      simp only [zQ,zR,zD,zE]
      exact ⟨1,sx,rfl,m,rfl,Nat.le_refl _,by omega,rfl⟩
     ·
      intro n vs wr hI u
      clear m
      obtain ⟨j,x,rfl,m,hrg,hj,hj2,hn4⟩:=hI
      simp only [setG_cons,setG_nil,setMany_cons,setMany_nil,zF,zG]
      refine c_seq fun K22 k22=>c_seq fun K23 k23=>wp_region_lit (n_val (r_move) (n_val (r_move) (n_val (r_lenS rfl Tryz.underlying24 rfl) (n_val (r_lss rfl rfl) ?_))))
      simp only [ev,zD,zE,zF,zG]
      refine n_nil (k23 _ _ ?_)
      refine c_if rfl (fun hc5=>?_) (fun hc5=>?_)
      ·
       obtain ⟨f,hf⟩ : ∃ f,M.length - j = f + 1:=⟨M.length - j - 1,by omega⟩
       rw [hf] at hrg
       refine wp_skip (k22 _ _ ?_)
       refine c_seq fun K24 k24=>wp_block (c_seq fun K25 k25=>wp_region_lit (n_val (r_move) ?_))
       simp only [ev,zD,zE,zF,zG]
       refine n_load rfl ((m.b 3 rfl).full agg_28 cells_28) ?_
       simp only [ev,zD,zE,zF,zG]
       refine n_load rfl ((m.b 0 rfl).full agg_28 cells_28) ?_
       simp only [ev,zD,zE,zF,zG]
       refine mcall m rfl rfl (behind_c (p:=p) (q:=x) _ ((m.o 2 rfl).lat tri9 (by decide)) (by omega)) ?_
       clear m; rintro v u m rfl
       refine n_val (r_move) (n_val (r_extract rfl rfl) (n_val (r_extract rfl rfl) ?_))
       simp only [ev,zD,zE,zF,zG]
       refine malloc m zero_28 rfl ?_
       clear m; intro g3 u m
       simp only [ev,zD,zE,zF,zG]
       refine mstoreA m 0 rfl rfl rfl cells_28 (leT rfl) rfl ?_
       clear m; intro u m; simp only [over,zH,zI,zJ,zK,zL,zM,zN,zO,zP,zF,zG,Nat.reduceAdd] at m
       refine n_val (r_assign) (n_nil (k25 _ _ ?_))
       refine c_seq fun K26 k26=>c_seq fun K27 k27=>wp_region_lit (n_val (r_move) (n_val (r_not rfl) (n_nil (k27 _ _ ?_))))
       simp only [ev,zD,zE,zF,zG]
       refine c_cond rfl (fun hc6=>?_) (fun hc6=>?_)
       ·
        have hbn : behindT M p x = none:=by cases hb : behindT M p x with | none=>rfl | some y=>rw [hb] at hc6; cases hc6
        have hz : ringT M p sx (M.length - 1) sx = false:=by rw [hrg,ring_none hbn]
        have hno2 : (S.take (k2 + 1)).any (fun s=>ringT M p s (M.length - 1) s) = false:=by rw [any_take hsx,hno,hz]; rfl
        refine wp_exit (k19 _ _ ?_)
        refine wp_region_lit (n_val (r_move) ?_)
        simp only [ev,zD,zE,zF,zG]
        refine n_val (r_add rfl rfl (wrap_i64 (by omega) (by omega))) (n_val (r_assign) (n_nil ?_))
        simp only [ev,zD,zE,zF,zG]
        simp only [Exit.inBlock,Exit.then]
        refine ⟨n6 - (k2 + 1),_,?_,rfl,?_,?_⟩
        · omega
        · simp only [zQ,zR,zD,zE,setG_cons,setG_nil,setMany_cons,setMany_nil,zF,zG]
        ·
         simp only [zQ,zR,zD,zE]
         exact ⟨k2 + 1,rfl,(m.sel [false,false,true,true,true]),hno2,by omega,rfl⟩
       ·
        obtain ⟨y,hy⟩ : ∃ y,behindT M p x = some y:=by cases hb : behindT M p x with | none=>rw [hb] at hc6; cases hc6 | some y=>exact ⟨y,rfl⟩
        rw [hy] at m; simp only [Option.getD_some] at m
        refine wp_skip (k26 _ _ ?_)
        refine c_seq fun K28 k28=>wp_region_lit (n_load rfl ((m.b 0 rfl).full agg_28 cells_28) ?_)
        simp only [ev,zD,zE,zF,zG]
        refine mstoreA m 1 rfl rfl rfl cells_28 (leT rfl) rfl ?_
        clear m; intro u m; simp only [over,zH,zI,zJ,zK,zL,zM,zN,zO,zP,zF,zG,Nat.reduceAdd] at m
        refine n_nil (k28 _ _ ?_)
        refine c_seq fun K29 k29=>mq m follows_mixed (by kernel_rfl) (ql rfl (fun u m=>((m.b 1 rfl).full agg_28 cells_28)) ?_)
        simp only [ev,zD,zE,zF,zG]
        refine q_val (r_move) (q_val (r_move) ?_)
        simp only [ev,zD,zE,zF,zG]
        refine q_val (r_indexAddrS Tryz.underlying118 cells_28 rfl rfl (by omega) (by omega) (addrN (Int.toNat_natCast _))) ?_
        simp only [ev,zD,zE,zF,zG]
        refine ql rfl (fun u m=>(((m.o 2 rfl).at pc3 hsx).lies agg_28 cells_28)) ?_
        simp only [ev,zD,zE,zF,zG]
        refine q_val (eq_eql_28 rfl rfl) (q_nil ?_)
        clear m; intro u m
        refine k29 _ _ ?_
        simp only [ev,zD,zE,zF,zG]
        refine c_if rfl (fun hc7=>?_) (fun hc7=>?_)
        ·
         have hys : y = sx:=P3.eq hc7.1 hc7.2.1 hc7.2.2
         have hz : S.any (fun s=>ringT M p s (M.length - 1) s) = true:=any_hit hsx (by show ringT M p sx (M.length - 1) sx = true; rw [hrg]; exact ring_hit (by rw [hy,hys]))
         refine c_seq fun K30 k30=>wp_region_lit (n_val (r_assign) (n_nil (k30 _ _ ?_)))
         refine wp_ret ?_
         simp only [ev,zD,zE,zF,zG]
         try simp only [Exit.inBlock,Exit.then,if_true]
         refine fin1 rfl rfl ?_
         try simp only [zD,zE]
         exact ⟨_,rfl,m.ext,by rw [hP,hz]⟩
        ·
         have hys : ¬ y = sx:=fun h=>hc7 (by rw [h]; exact ⟨rfl,rfl,rfl⟩)
         refine wp_skip (k24 _ _ ?_)
         refine wp_region_lit (n_val (r_move) ?_)
         simp only [ev,zD,zE,zF,zG]
         refine n_val (r_add rfl rfl (wrap_i64 (by omega) (by omega))) (n_val (r_assign) (n_nil ?_))
         simp only [ev,zD,zE,zF,zG]
         simp only [Exit.inBlock,Exit.then]
         refine ⟨n5 + 1 - (j + 1),_,?_,rfl,?_,?_⟩
         · omega
         · simp only [zQ,zR,zD,zE,setG_cons,setG_nil,setMany_cons,setMany_nil,zF,zG]
         ·
          simp only [zQ,zR,zD,zE]
          exact ⟨j + 1,y,rfl,(m.sel [false,true,true,true,true]),by rw [hrg,ring_next hy hys,show M.length - (j + 1) = f by omega],by omega,by omega,rfl⟩
      ·
       have hz : ringT M p sx (M.length - 1) sx = false:=by rw [hrg,show M.length - j = 0 by omega]; rfl
       have hno2 : (S.take (k2 + 1)).any (fun s=>ringT M p s (M.length - 1) s) = false:=by rw [any_take hsx,hno,hz]; rfl
       refine wp_exit (k19 _ _ ?_)
       refine wp_region_lit (n_val (r_move) ?_)
       simp only [ev,zD,zE,zF,zG]
       refine n_val (r_add rfl rfl (wrap_i64 (by omega) (by omega))) (n_val (r_assign) (n_nil ?_))
       simp only [ev,zD,zE,zF,zG]
       simp only [Exit.inBlock,Exit.then]
       refine ⟨n6 - (k2 + 1),_,?_,rfl,?_,?_⟩
       · omega
       · simp only [zQ,zR,zD,zE,setG_cons,setG_nil,setMany_cons,setMany_nil,zF,zG]
       ·
        simp only [zQ,zR,zD,zE]
        exact ⟨k2 + 1,rfl,(m.sel [false,true,true,true]),hno2,by omega,rfl⟩
    ·
     have hk2 : k2 = S.length:=by omega
     rw [hk2,List.take_length] at hno
     refine wp_exit (k15 _ _ ?_)
     refine c_seq fun K31 k31=>wp_region_lit (n_val (r_assign) (n_nil (k31 _ _ ?_)))
     refine wp_ret ?_
     simp only [ev,zD,zE,zF,zG]
     try simp only [Exit.inBlock,Exit.then,if_true]
     refine fin1 rfl rfl ?_
     try simp only [zD,zE]
     exact ⟨_,rfl,m.ext,by rw [hP,hno]⟩
end Go.Proofs.YtmcgcnpgkkfkoaaGreatDoor
namespace Go.Proofs.YtmcgcnpgkkfkoaaGreatDoor
open Go.RowKit Go.Lith
set_option maxRecDepth 100000
attribute [local irreducible] wpList wpQuiet wpMix wpMixH wpTree Code.wp
theorem bordS_skip {all out : List E3} {e : E3} (h : 0 < cntE all (e.2,e.1) ∨ 0 < cntE out e) : bordS all out e = out:=if_pos h
theorem bordS_ins {all out : List E3} {e : E3} {k : Nat} (h1 : ¬ 0 < cntE all (e.2,e.1)) (h2 : ¬ 0 < cntE out e) (h : posE out e = k) : bordS all out e = out.take k ++ [e] ++ out.drop k:=by
 rw [bordS,if_neg (fun h=>h.elim h1 h2),insE,h]
theorem row_ed {w : World} {a : Addr} {e : E3} (h : Row w a (edCells e)) : Row w a [.int .i64 e.1.x,.int .i64 e.1.y,.int .i64 e.1.z,.int .i64 e.2.x,.int .i64 e.2.y,.int .i64 e.2.z]:=h
theorem gt0 {n : Nat} : ((0 : Int) < (n : Int)) ↔ 0 < n:=by omega
theorem border_c {ts : List T3} {N cap : Nat} {A : Option Addr} (w : World) (hT : TrisAt w A N ts) (hN : N ≤ 100000000) : Does Tryz.prog 122 [.slice A N cap] w (SL 153 6 ((borderT ts).flatMap edCells) (borderT ts).length w):=by
 refine ⟨en_122,?_⟩
 have m:=Mem.refl w
 go_enter Tryz.func122,Tryz.ntmps122
 refine c_seq fun K1 k1=>wp_region_lit (n_val (r_assign) (n_nil (k1 _ _ ?_)))
 refine c_seq fun K2 k2=>wp_region_lit (n_val (r_move) ?_)
 simp only [ev,zD,zE,zF,zG]
 refine n_call rfl rfl (edges_c _ (hT.ext m.ext) (by omega)) ?_
 rintro v u e ⟨A3,cap3,n3,hn3,rfl,hN⟩; replace m:=m.newO e hN; clear e hN
 have he3:=edges_len ts
 have htl:=hT.len
 refine n_val (r_assign) (n_nil (k2 _ _ ?_))
 refine c_seq fun K3 k3=>wp_region_lit (n_val (r_assign) ?_)
 replace m:=m.nilO 153 6
 refine n_nil (k3 _ _ ?_)
 refine c_seq fun K4 k4=>c_seq fun K5 k5=>wp_region_lit (n_val (r_assign) ?_)
 simp only [ev,zD,zE,zF,zG]
 refine n_nil (k5 _ _ ?_)
 refine wp_block ?_
 try simp only [Nat.zero_add,Nat.reduceAdd,Nat.reduceMul,Int.reduceToNat]
 refine c_loopg [4,5] [6,7,8,9,12,13,14,15,16,17,18,19,20,21,22,23,24,25,26,27,28,29,30,31,32,33,34,35,36,37,38,39,40,41,42,43,44,45,46,47,48,49,50,51,52,53,54,55,56,57,58,59,60,61,62,63] (fun n vs wl=>∃ (k n4 cap4 : Nat) (A4 : Option Addr),vs = [.slice A4 n4 cap4,.int .i64 (k:Int)] ∧ Mem w wl [oI 153 6 A4 n4 cap4 ((((edgesT ts).take k).foldl (bordS (edgesT ts)) []).flatMap edCells),oI 153 6 A3 n3 cap3 ((edgesT ts).flatMap edCells)] ∧ (n4 ≤ k) ∧ (k ≤ n3) ∧ (n = n3 - k)) ?_ ?_
 ·
  apply Exists.intro
  simp only [zQ,zR,zD,zE]
  exact ⟨0,_,_,_,rfl,m,Nat.le_refl _,Nat.zero_le _,rfl⟩
 ·
  intro n vs wr hI u
  clear m
  obtain ⟨k,n4,cap4,A4,rfl,m,hl4,hk,hn⟩:=hI
  simp only [setG_cons,setG_nil,setMany_cons,setMany_nil,zF,zG]
  refine c_seq fun K6 k6=>c_seq fun K7 k7=>wp_region_lit (n_val (r_move) (n_val (r_move) (n_val (r_lenS rfl Tryz.underlying150 rfl) (n_val (r_lss rfl rfl) ?_))))
  simp only [ev,zD,zE,zF,zG]
  refine n_nil (k7 _ _ ?_)
  refine c_if rfl (fun hc1=>?_) (fun hc1=>?_)
  ·
   obtain ⟨e,he⟩ : ∃ e,(edgesT ts)[k]? = some e:=⟨_,List.getElem?_eq_getElem (by omega)⟩
   obtain ⟨gO,rfl⟩:=(m.o 1 rfl).some (by omega)
   refine wp_skip (k6 _ _ ?_)
   refine c_seq fun K8 k8=>wp_block (c_seq fun K9 k9=>wp_region_lit (n_val (r_move) (n_val (r_move) ?_)))
   simp only [ev,zD,zE,zF,zG]
   refine n_val (r_indexAddrS Tryz.underlying150 cells_153 rfl rfl (by omega) (by omega) (addrN (Int.toNat_natCast _))) ?_
   simp only [ev,zD,zE,zF,zG]
   refine n_load rfl ((row_ed ((m.o 1 rfl).at ed6 he)).lies agg_153 cells_153) ?_
   simp only [ev,zD,zE,zF,zG]
   refine malloc m zero_153 rfl ?_
   clear m; intro g1 u m
   simp only [ev,zD,zE,zF,zG]
   refine mstoreA m 0 rfl rfl rfl cells_153 (leT rfl) rfl ?_
   clear m; intro u m; simp only [over,zH,zI,zJ,zK,zL,zM,zN,zO,zP,zF,zG,Nat.reduceAdd] at m
   refine n_nil (k9 _ _ ?_)
   refine c_seq fun K10 k10=>c_seq fun K11 k11=>?_
   obtain ⟨B,hB⟩ : ∃ B,B = ((edgesT ts).take k).foldl (bordS (edgesT ts)) []:=⟨_,rfl⟩
   rw [← hB] at m
   have h4 : B.length = n4:=(m.o 1 rfl).num ed6 (by decide)
   have hle4:=(m.o 1 rfl).le
   have hs:=bord_step (all:=edgesT ts) he
   rw [← hB] at hs
   rcases Nat.eq_zero_or_pos (cntE (edgesT ts) (e.2,e.1)) with hz | hz
   ·
    refine wp_region_lit (n_val (r_move) (n_val (r_indexAddrA Tryz.underlying153 cells_28 rfl rfl (by decide) (by decide) rfl) ?_))
    simp only [ev,zD,zE,zF,zG]
    refine n_load rfl ((m.b 0 rfl).lies agg_28 cells_28 rfl rfl) ?_
    simp only [ev,zD,zE,zF,zG,zH,zI,zJ,zK,Nat.zero_add,Nat.reduceAdd,Nat.reduceMul,Int.reduceToNat]
    refine n_val (r_indexAddrA Tryz.underlying153 cells_28 rfl rfl (by decide) (by decide) rfl) ?_
    simp only [ev,zD,zE,zF,zG]
    refine n_load rfl ((m.b 0 rfl).lies agg_28 cells_28 rfl rfl) ?_
    simp only [ev,zD,zE,zF,zG,zH,zI,zJ,zK,Nat.zero_add,Nat.reduceAdd,Nat.reduceMul,Int.reduceToNat]
    refine n_val (r_build_153_0_1 rfl rfl) ?_
    simp only [ev,zD,zE,zF,zG]
    refine mcall m rfl rfl (count_c (es:=edgesT ts) (e:=(e.2,e.1)) _ ((m.o 2 rfl).lat ed6 (by decide)) (by omega)) ?_
    clear m; rintro v u m rfl
    simp only [ev,zD,zE,zF,zG]
    refine n_val (r_gtrF rfl rfl (by omega)) (n_val (r_move) (n_want rfl (n_val (r_move) (n_want rfl ?_))))
    simp only [ev,zD,zE,zF,zG]
    refine n_load rfl ((m.b 0 rfl).full agg_153 cells_153) ?_
    simp only [ev,zD,zE,zF,zG]
    refine n_want rfl (mcall m rfl rfl (count_c (es:=B) (e:=e) _ ((m.o 1 rfl).lat ed6 (by decide)) (by omega)) ?_)
    clear m; rintro v u m rfl
    refine n_want rfl (n_val (r_gtr rfl rfl) (n_val (r_pickF rfl) (n_nil (k11 _ _ ?_))))
    simp only [ev,zD,zE,zF,zG]
    refine c_if rfl (fun hc2=>?_) (fun hc2=>?_)
    ·
     rw [bordS_skip (.inr (gt0.1 hc2))] at hs
     refine wp_exit (k8 _ _ ?_)
     refine wp_region_lit (n_val (r_move) ?_)
     simp only [ev,zD,zE,zF,zG]
     refine n_val (r_add rfl rfl (wrap_i64 (by omega) (by omega))) (n_val (r_assign) (n_nil ?_))
     simp only [ev,zD,zE,zF,zG]
     simp only [Exit.inBlock,Exit.then]
     refine ⟨n3 - (k + 1),_,?_,rfl,?_,?_⟩
     · omega
     · simp only [zQ,zR,zD,zE,setG_cons,setG_nil,setMany_cons,setMany_nil,zF,zG]
     ·
      simp only [zQ,zR,zD,zE]
      exact ⟨k + 1,_,_,_,rfl,((m.reO 1 rfl ((m.o 1 rfl).as (by rw [hs]))).sel [false,true,true]),by omega,by omega,rfl⟩
    ·
     have hz2 : ¬ 0 < cntE B e:=fun h=>hc2 (gt0.2 h)
     refine wp_skip (k10 _ _ ?_)
     refine c_seq fun K12 k12=>wp_region_lit (n_val (r_assign) (n_nil (k12 _ _ ?_)))
     refine c_seq fun K13 k13=>wp_block ?_
     simp only [ev,zD,zE,zF,zG]
     try simp only [Nat.zero_add,Nat.reduceAdd,Nat.reduceMul,Int.reduceToNat]
     refine c_loopg [7] [8,36,37,38,39,40,41,42,43,44,45,46,47,48,49] (fun n vs wl=>∃ (j : Nat),vs = [.int .i64 (j:Int)] ∧ Mem w wl [bI g1 (edCells e) 153,oI 153 6 A4 n4 cap4 ((B).flatMap edCells),oI 153 6 (some ⟨gO,0,none⟩) n3 cap3 ((edgesT ts).flatMap edCells)] ∧ (Pre (fun x=>ltE x e) B j) ∧ (j ≤ n4) ∧ (n = n4 - j)) ?_ ?_
     ·
      apply Exists.intro
      simp only [zQ,zR,zD,zE]
      exact ⟨0,rfl,m,Pre.zero,Nat.zero_le _,rfl⟩
     ·
      intro n vs wr hI u
      clear m
      obtain ⟨j,rfl,m,hpre,hj,hn2⟩:=hI
      simp only [setG_cons,setG_nil,setMany_cons,setMany_nil,zF,zG]
      refine c_seq fun K14 k14=>c_seq fun K15 k15=>wp_region_lit (n_val (r_move) (n_val (r_move) (n_val (r_lenS rfl Tryz.underlying150 rfl) (n_val (r_lss rfl rfl) ?_))))
      simp only [ev,zD,zE,zF,zG]
      refine n_nil (k15 _ _ ?_)
      refine c_if rfl (fun hc3=>?_) (fun hc3=>?_)
      ·
       obtain ⟨x,hx⟩ : ∃ x,B[j]? = some x:=⟨_,List.getElem?_eq_getElem (by omega)⟩
       obtain ⟨gP,rfl⟩:=(m.o 1 rfl).some (by omega)
       refine wp_skip (k14 _ _ ?_)
       refine wp_block (c_seq fun K16 k16=>mq m follows_mixed (by kernel_rfl) (q_val (r_move) (q_val (r_move) ?_)))
       simp only [ev,zD,zE,zF,zG]
       refine q_val (r_indexAddrS Tryz.underlying150 cells_153 rfl rfl (by omega) (by omega) (addrN (Int.toNat_natCast _))) ?_
       simp only [ev,zD,zE,zF,zG]
       refine ql rfl (fun u m=>(((m.o 1 rfl).at ed6 hx).lies agg_153 cells_153)) ?_
       simp only [ev,zD,zE,zF,zG]
       refine ql rfl (fun u m=>((m.b 0 rfl).full agg_153 cells_153)) ?_
       simp only [ev,zD,zE,zF,zG]
       refine qcP rfl rfl (rlessE_c (a:=x) (b:=e)) (q_val (r_assign) (q_nil ?_))
       clear m; intro u m
       refine k16 _ _ ?_
       refine c_seq fun K17 k17=>c_seq fun K18 k18=>wp_region_lit (n_val (r_move) (n_val (r_not rfl) ?_))
       simp only [ev,zD,zE,zF,zG]
       refine n_nil (k18 _ _ ?_)
       refine c_cond rfl (fun hc4=>?_) (fun hc4=>?_)
       ·
        have hpos : posE B e = j:=tw_eq hpre hx (by simpa using hc4)
        rw [bordS_ins (by omega) hz2 hpos] at hs
        refine wp_exit (k13 _ _ ?_)
        refine c_seq fun K19 k19=>wp_region_lit (n_val (r_assign) ?_)
        replace m:=m.nilO 153 6
        refine n_nil (k19 _ _ ?_)
        refine c_seq fun K20 k20=>wp_region_lit (n_val (r_move) (n_val (r_move) (n_val (r_move) ?_)))
        simp only [ev,zD,zE,zF,zG]
        refine n_val (r_sliceHi Tryz.underlying150 cells_153 rfl rfl (Int.toNat_natCast _) (by omega) (by omega)) ?_
        simp only [ev,zD,zE,zF,zG]
        refine mappend m 0 rfl rfl Tryz.underlying150 inf_153 rfl (by decide) rfl rfl (by rw [flatE_len ed6,List.length_take,Nat.min_eq_left (show j ≤ B.length by omega)]) ((((m.o 2 rfl).lat ed6 (by decide)).take (k:=j) (by omega)).cells ed6 (by decide)) (ed_one _) (by omega) (by omega) ?_
        clear m; intro A9 cap9 u m; simp only [zF,zG] at m
        rw [List.nil_append,Nat.zero_add] at m
        rw [Nat.zero_add]
        refine n_val (r_assign) (n_nil (k20 _ _ ?_))
        refine c_seq fun K21 k21=>wp_region_lit (n_val (r_move) ?_)
        simp only [ev,zD,zE,zF,zG]
        refine n_load rfl ((m.b 1 rfl).full agg_153 cells_153) ?_
        simp only [ev,zD,zE,zF,zG]
        refine n_bs_150_1 rfl ?_
        intro u g2 e hg hB; replace m:=m.newB e hg hB; clear e hg hB
        simp only [ev,zD,zE,zF,zG]
        refine mappend m 1 rfl rfl Tryz.underlying150 inf_153 rfl (by decide) rfl rfl rfl (m.b 0 rfl).rowsO (allT rfl) (by omega) (by omega) ?_
        clear m; intro A9 cap9 u m; simp only [zF,zG] at m
        refine n_val (r_assign) (n_nil (k21 _ _ ?_))
        refine wp_region_lit (n_val (r_move) (n_val (r_move) ?_))
        simp only [ev,zD,zE,zF,zG]
        refine n_val (r_move) ?_
        simp only [ev,zD,zE,zF,zG]
        refine n_val (r_sliceLo Tryz.underlying150 cells_153 rfl rfl (Int.toNat_natCast _) (by omega) (by omega) rfl) ?_
        simp only [ev,zD,zE,zF,zG]
        refine mappend m 1 rfl rfl Tryz.underlying150 inf_153 rfl (by decide) rfl rfl (by rw [flatE_len ed6,List.length_drop,h4]) (((m.o 3 rfl).lat ed6 (by decide)).cellsD ed6 (by decide) (by omega)) (ed_one _) (by omega) (by omega) ?_
        clear m; intro A9 cap9 u m; simp only [zF,zG] at m
        refine n_val (r_assign) ?_
        simp only [ev,zD,zE,zF,zG]
        replace m:=(m.pull 1 rfl).mv 2 rfl; simp only [E_zero,E_succ,zF,zG] at m
        refine n_nil (k8 _ _ ?_)
        refine wp_region_lit (n_val (r_move) ?_)
        simp only [ev,zD,zE,zF,zG]
        refine n_val (r_add rfl rfl (wrap_i64 (by omega) (by omega))) (n_val (r_assign) (n_nil ?_))
        simp only [ev,zD,zE,zF,zG]
        simp only [Exit.inBlock,Exit.then]
        refine ⟨n3 - (k + 1),_,?_,rfl,?_,?_⟩
        · omega
        · simp only [zQ,zR,zD,zE,setG_cons,setG_nil,setMany_cons,setMany_nil,zF,zG]
        ·
         simp only [zQ,zR,zD,zE]
         exact ⟨k + 1,_,_,_,rfl,((m.reO 2 rfl ((m.o 2 rfl).as (by rw [hs,List.flatMap_append,List.flatMap_append]; rfl))).sel [false,false,true,true]),by omega,by omega,rfl⟩
       ·
        have hpre2:=hpre.step hx (by simpa using hc4)
        refine wp_skip (k17 _ _ ?_)
        refine wp_region_lit (n_val (r_move) ?_)
        simp only [ev,zD,zE,zF,zG]
        refine n_val (r_add rfl rfl (wrap_i64 (by omega) (by omega))) (n_val (r_assign) (n_nil ?_))
        simp only [ev,zD,zE,zF,zG]
        simp only [Exit.inBlock,Exit.then]
        refine ⟨n4 - (j + 1),_,?_,rfl,?_,?_⟩
        · omega
        · simp only [zQ,zR,zD,zE,setG_cons,setG_nil,setMany_cons,setMany_nil,zF,zG]
        ·
         simp only [zQ,zR,zD,zE]
         exact ⟨j + 1,rfl,m,hpre2,by omega,rfl⟩
      ·
       have hjl : j = B.length:=by omega
       have hpos : posE B e = j:=by rw [hjl] at hpre ⊢; exact tw_all hpre
       rw [bordS_ins (by omega) hz2 hpos] at hs
       refine wp_exit (k13 _ _ ?_)
       refine c_seq fun K22 k22=>wp_region_lit (n_val (r_assign) ?_)
       replace m:=m.nilO 153 6
       refine n_nil (k22 _ _ ?_)
       refine c_seq fun K23 k23=>wp_region_lit (n_val (r_move) (n_val (r_move) (n_val (r_move) ?_)))
       simp only [ev,zD,zE,zF,zG]
       refine n_val (r_sliceHi Tryz.underlying150 cells_153 rfl rfl (Int.toNat_natCast _) (by omega) (by omega)) ?_
       simp only [ev,zD,zE,zF,zG]
       refine mappend m 0 rfl rfl Tryz.underlying150 inf_153 rfl (by decide) rfl rfl (by rw [flatE_len ed6,List.length_take,Nat.min_eq_left (show j ≤ B.length by omega)]) ((((m.o 2 rfl).lat ed6 (by decide)).take (k:=j) (by omega)).cells ed6 (by decide)) (ed_one _) (by omega) (by omega) ?_
       clear m; intro A9 cap9 u m; simp only [zF,zG] at m
       rw [List.nil_append,Nat.zero_add] at m
       rw [Nat.zero_add]
       refine n_val (r_assign) (n_nil (k23 _ _ ?_))
       refine c_seq fun K24 k24=>wp_region_lit (n_val (r_move) ?_)
       simp only [ev,zD,zE,zF,zG]
       refine n_load rfl ((m.b 1 rfl).full agg_153 cells_153) ?_
       simp only [ev,zD,zE,zF,zG]
       refine n_bs_150_1 rfl ?_
       intro u g2 e hg hB; replace m:=m.newB e hg hB; clear e hg hB
       simp only [ev,zD,zE,zF,zG]
       refine mappend m 1 rfl rfl Tryz.underlying150 inf_153 rfl (by decide) rfl rfl rfl (m.b 0 rfl).rowsO (allT rfl) (by omega) (by omega) ?_
       clear m; intro A9 cap9 u m; simp only [zF,zG] at m
       refine n_val (r_assign) (n_nil (k24 _ _ ?_))
       refine wp_region_lit (n_val (r_move) (n_val (r_move) ?_))
       simp only [ev,zD,zE,zF,zG]
       refine n_val (r_move) ?_
       simp only [ev,zD,zE,zF,zG]
       refine n_val (r_sliceLo Tryz.underlying150 cells_153 rfl rfl (Int.toNat_natCast _) (by omega) (by omega) rfl) ?_
       simp only [ev,zD,zE,zF,zG]
       refine mappend m 1 rfl rfl Tryz.underlying150 inf_153 rfl (by decide) rfl rfl (by rw [flatE_len ed6,List.length_drop,h4]) (((m.o 3 rfl).lat ed6 (by decide)).cellsD ed6 (by decide) (by omega)) (ed_one _) (by omega) (by omega) ?_
       clear m; intro A9 cap9 u m; simp only [zF,zG] at m
       refine n_val (r_assign) ?_
       simp only [ev,zD,zE,zF,zG]
       replace m:=(m.pull 1 rfl).mv 2 rfl; simp only [E_zero,E_succ,zF,zG] at m
       refine n_nil (k8 _ _ ?_)
       refine wp_region_lit (n_val (r_move) ?_)
       simp only [ev,zD,zE,zF,zG]
       refine n_val (r_add rfl rfl (wrap_i64 (by omega) (by omega))) (n_val (r_assign) (n_nil ?_))
       simp only [ev,zD,zE,zF,zG]
       simp only [Exit.inBlock,Exit.then]
       refine ⟨n3 - (k + 1),_,?_,rfl,?_,?_⟩
       · omega
       · simp only [zQ,zR,zD,zE,setG_cons,setG_nil,setMany_cons,setMany_nil,zF,zG]
       ·
        simp only [zQ,zR,zD,zE]
        exact ⟨k + 1,_,_,_,rfl,((m.reO 2 rfl ((m.o 2 rfl).as (by rw [hs,List.flatMap_append,List.flatMap_append]; rfl))).sel [false,false,true,true]),by omega,by omega,rfl⟩
   ·
    rw [bordS_skip (.inl hz)] at hs
    refine wp_region_lit (n_val (r_move) (n_val (r_indexAddrA Tryz.underlying153 cells_28 rfl rfl (by decide) (by decide) rfl) ?_))
    simp only [ev,zD,zE,zF,zG]
    refine n_load rfl ((m.b 0 rfl).lies agg_28 cells_28 rfl rfl) ?_
    simp only [ev,zD,zE,zF,zG,zH,zI,zJ,zK,Nat.zero_add,Nat.reduceAdd,Nat.reduceMul,Int.reduceToNat]
    refine n_val (r_indexAddrA Tryz.underlying153 cells_28 rfl rfl (by decide) (by decide) rfl) ?_
    simp only [ev,zD,zE,zF,zG]
    refine n_load rfl ((m.b 0 rfl).lies agg_28 cells_28 rfl rfl) ?_
    simp only [ev,zD,zE,zF,zG,zH,zI,zJ,zK,Nat.zero_add,Nat.reduceAdd,Nat.reduceMul,Int.reduceToNat]
    refine n_val (r_build_153_0_1 rfl rfl) ?_
    simp only [ev,zD,zE,zF,zG]
    refine mcall m rfl rfl (count_c (es:=edgesT ts) (e:=(e.2,e.1)) _ ((m.o 2 rfl).lat ed6 (by decide)) (by omega)) ?_
    clear m; rintro v u m rfl
    simp only [ev,zD,zE,zF,zG]
    refine n_val (r_gtrT rfl rfl (by omega)) (n_val (r_move) (n_skipF rfl (n_skipF rfl ?_)))
    simp only [ev,zD,zE,zF,zG]
    refine n_skipF rfl (n_skipF rfl (n_val (r_pickT rfl) (n_nil (k11 _ _ ?_))))
    refine c_yes rfl (wp_exit (k8 _ _ ?_))
    refine wp_region_lit (n_val (r_move) ?_)
    simp only [ev,zD,zE,zF,zG]
    refine n_val (r_add rfl rfl (wrap_i64 (by omega) (by omega))) (n_val (r_assign) (n_nil ?_))
    simp only [ev,zD,zE,zF,zG]
    simp only [Exit.inBlock,Exit.then]
    refine ⟨n3 - (k + 1),_,?_,rfl,?_,?_⟩
    · omega
    · simp only [zQ,zR,zD,zE,setG_cons,setG_nil,setMany_cons,setMany_nil,zF,zG]
    ·
     simp only [zQ,zR,zD,zE]
     exact ⟨k + 1,_,_,_,rfl,((m.reO 1 rfl ((m.o 1 rfl).as (by rw [hs]))).sel [false,true,true]),by omega,by omega,rfl⟩
  ·
   have hkN : k = (edgesT ts).length:=by omega
   rw [hkN,List.take_length] at m
   refine wp_exit (k4 _ _ ?_)
   refine c_seq fun K25 k25=>wp_region_lit (n_val (r_move) (n_val (r_assign) (n_nil (k25 _ _ ?_))))
   refine wp_ret ?_
   simp only [ev,zD,zE,zF,zG]
   try simp only [Exit.inBlock,Exit.then,if_true]
   refine fin1 rfl rfl ?_
   try simp only [zD,zE]
   exact ⟨_,rfl,m.ext,⟨_,_,_,((m.o 0 rfl).num ed6 (by decide)).symm,rfl,(m.o 0 rfl)⟩⟩
theorem check20 {op : Bool} {ts : List T3} (h : ts.any degT = true) : checkT op ts = 20:=by simp [checkT,h]
theorem check21 {op : Bool} {ts : List T3} (h : ts.any degT = false) (h2 : (edgesT ts).any (fun e=>decide (1 < cntE (edgesT ts) e)) = true) : checkT op ts = 21:=by rw [checkT,h,h2]; rfl
theorem check22 {ts : List T3} (h : ts.any degT = false) (h2 : (edgesT ts).any (fun e=>decide (1 < cntE (edgesT ts) e)) = false) (h3 : 0 < (borderT ts).length) : checkT false ts = 22:=by rw [checkT,h,h2,decide_eq_true h3]; rfl
theorem check23 {op : Bool} {ts : List T3} (h : ts.any degT = false) (h2 : (edgesT ts).any (fun e=>decide (1 < cntE (edgesT ts) e)) = false) (h3 : (!op && decide (0 < (borderT ts).length)) = false) (h4 : (cornersT ts).any (pinT ts) = true) : checkT op ts = 23:=by rw [checkT,h,h2,h3,h4]; rfl
theorem check0 {op : Bool} {ts : List T3} (h : ts.any degT = false) (h2 : (edgesT ts).any (fun e=>decide (1 < cntE (edgesT ts) e)) = false) (h3 : (!op && decide (0 < (borderT ts).length)) = false) (h4 : (cornersT ts).any (pinT ts) = false) : checkT op ts = 0:=by rw [checkT,h,h2,h3,h4]; rfl
theorem gt1 {n : Nat} : ((1 : Int) < (n : Int)) ↔ 1 < n:=by omega
theorem check_f {ts : List T3} {N cap : Nat} {A : Option Addr} (w : World) (hT : TrisAt w A N ts) (hN : N ≤ 100000000) : Does Tryz.prog 63 [.slice A N cap,.bool false] w (fun v _=>v = .int .i64 (checkT false ts)):=by
 refine ⟨en_63,?_⟩
 have m:=Mem.refl w
 have htl:=hT.len
 have he3:=edges_len ts
 have hcl:=corners_len ts
 go_enter Tryz.func63,Tryz.ntmps63
 refine c_seq fun K1 k1=>wp_region_lit (n_val (r_assign) (n_nil (k1 _ _ ?_)))
 refine c_seq fun K2 k2=>c_seq fun K3 k3=>wp_region_lit (n_val (r_assign) (n_nil (k3 _ _ ?_)))
 refine wp_block ?_
 simp only [ev,zD,zE,zF,zG]
 try simp only [Nat.zero_add,Nat.reduceAdd,Nat.reduceMul,Int.reduceToNat]
 refine c_loopg [5] [4,11,12,13,14,15,16,17,18,19,20,21,22,23,24,25,26,27,28,29,30,31,32,33,34,35,36,37,38,39,40,41,42,43,44,45,46,47,48,49,50,51,52,53] (fun n vs wl=>∃ (k : Nat),vs = [.int .i64 (k:Int)] ∧ Mem w wl [] ∧ ((ts.take k).any degT = false) ∧ (k ≤ N) ∧ (n = N - k)) ?_ ?_
 ·
  apply Exists.intro
  simp only [zQ,zR,zD,zE]
  exact ⟨0,rfl,m,rfl,Nat.zero_le _,rfl⟩
 ·
  intro n vs wr hI u
  clear m
  obtain ⟨k,rfl,m,hd0,hk,hn⟩:=hI
  simp only [setG_cons,setG_nil,setMany_cons,setMany_nil,zF,zG]
  refine c_seq fun K4 k4=>c_seq fun K5 k5=>wp_region_lit (n_val (r_move) (n_val (r_move) (n_val (r_lenS rfl Tryz.underlying24 rfl) (n_val (r_lss rfl rfl) ?_))))
  simp only [ev,zD,zE,zF,zG]
  refine n_nil (k5 _ _ ?_)
  refine c_if rfl (fun hc1=>?_) (fun hc1=>?_)
  ·
   obtain ⟨t,ht,_,a,rfl,hrow⟩:=hT.get (i:=k) (by omega)
   refine wp_skip (k4 _ _ ?_)
   refine c_seq fun K6 k6=>wp_block (c_seq fun K7 k7=>mq m follows_mixed (by kernel_rfl) (q_val (r_move) (q_val (r_move) ?_)))
   simp only [ev,zD,zE,zF,zG]
   refine q_val (r_indexAddrS Tryz.underlying24 cells_59 rfl rfl (by omega) (by omega) (addrN (Int.toNat_natCast _))) (q_val (r_indexAddrA Tryz.underlying59 cells_28 rfl rfl (by decide) (by decide) rfl) ?_)
   simp only [ev,zD,zE,zF,zG]
   refine ql rfl (fun u m=>((Row.cor ((hrow.ext m.ext)) (c:=0) (by decide)).lies agg_28 cells_28)) ?_
   simp only [ev,zD,zE,zF,zG]
   refine q_val (r_move) (q_val (r_move) ?_)
   simp only [ev,zD,zE,zF,zG]
   refine q_val (r_indexAddrS Tryz.underlying24 cells_59 rfl rfl (by omega) (by omega) (addrN (Int.toNat_natCast _))) (q_val (r_indexAddrA Tryz.underlying59 cells_28 rfl rfl (by decide) (by decide) rfl) ?_)
   simp only [ev,zD,zE,zF,zG]
   refine ql rfl (fun u m=>((Row.cor ((hrow.ext m.ext)) (c:=1) (by decide)).lies agg_28 cells_28)) ?_
   simp only [ev,zD,zE,zF,zG]
   refine q_val (eq_eql_28 rfl rfl) (q_val (r_move) (q_mayF rfl (fun hb=>r_move) (q_mayF rfl (fun hb=>r_move) ?_)))
   simp only [ev,zD,zE,zF,zG]
   refine q_mayF rfl (fun hb=>r_indexAddrS Tryz.underlying24 cells_59 (mayE hb rfl) (mayE hb rfl) (by omega) (by omega) (addrN (Int.toNat_natCast _))) (q_mayF rfl (fun hb=>r_indexAddrA Tryz.underlying59 cells_28 (mayE hb rfl) rfl (by decide) (by decide) rfl) ?_)
   simp only [ev,zD,zE,zF,zG]
   refine q_mayFW rfl (fun hb u m=>r_load (mayE hb rfl) ((Row.cor ((hrow.ext m.ext)) (c:=1) (by decide)).lies agg_28 cells_28)) (q_mayF rfl (fun hb=>r_move) (q_mayF rfl (fun hb=>r_move) ?_))
   simp only [ev,zD,zE,zF,zG]
   refine q_mayF rfl (fun hb=>r_indexAddrS Tryz.underlying24 cells_59 (mayE hb rfl) (mayE hb rfl) (by omega) (by omega) (addrN (Int.toNat_natCast _))) (q_mayF rfl (fun hb=>r_indexAddrA Tryz.underlying59 cells_28 (mayE hb rfl) rfl (by decide) (by decide) rfl) ?_)
   simp only [ev,zD,zE,zF,zG]
   refine q_mayFW rfl (fun hb u m=>r_load (mayE hb rfl) ((Row.cor ((hrow.ext m.ext)) (c:=2) (by decide)).lies agg_28 cells_28)) (q_mayF rfl (fun hb=>eq_eql_28 (mayE hb rfl) (mayE hb rfl)) (q_val (r_pickOr rfl rfl rfl) (q_val (r_move) (q_mayF rfl (fun hb=>r_move) ?_))))
   simp only [ev,zD,zE,zF,zG]
   refine q_mayF rfl (fun hb=>r_move) ?_
   simp only [ev,zD,zE,zF,zG]
   refine q_mayF rfl (fun hb=>r_indexAddrS Tryz.underlying24 cells_59 (mayE hb rfl) (mayE hb rfl) (by omega) (by omega) (addrN (Int.toNat_natCast _))) (q_mayF rfl (fun hb=>r_indexAddrA Tryz.underlying59 cells_28 (mayE hb rfl) rfl (by decide) (by decide) rfl) ?_)
   simp only [ev,zD,zE,zF,zG]
   refine q_mayFW rfl (fun hb u m=>r_load (mayE hb rfl) ((Row.cor ((hrow.ext m.ext)) (c:=2) (by decide)).lies agg_28 cells_28)) (q_mayF rfl (fun hb=>r_move) (q_mayF rfl (fun hb=>r_move) ?_))
   simp only [ev,zD,zE,zF,zG]
   refine q_mayF rfl (fun hb=>r_indexAddrS Tryz.underlying24 cells_59 (mayE hb rfl) (mayE hb rfl) (by omega) (by omega) (addrN (Int.toNat_natCast _))) (q_mayF rfl (fun hb=>r_indexAddrA Tryz.underlying59 cells_28 (mayE hb rfl) rfl (by decide) (by decide) rfl) ?_)
   simp only [ev,zD,zE,zF,zG]
   refine q_mayFW rfl (fun hb u m=>r_load (mayE hb rfl) ((Row.cor ((hrow.ext m.ext)) (c:=0) (by decide)).lies agg_28 cells_28)) (q_mayF rfl (fun hb=>eq_eql_28 (mayE hb rfl) (mayE hb rfl)) (q_val (r_pickOr rfl rfl rfl) (q_nil ?_)))
   clear m; intro u m
   refine k7 _ _ ?_
   simp only [ev,zD,zE,zF,zG]
   refine c_cond rfl (fun hc2=>?_) (fun hc2=>?_)
   ·
    have hd:=any_hit (p:=degT) ht (deg_eq.symm.trans hc2)
    refine c_seq fun K8 k8=>wp_region_lit (n_val (r_assign) (n_nil (k8 _ _ ?_)))
    refine wp_ret ?_
    simp only [ev,zD,zE,zF,zG]
    try simp only [Exit.inBlock,Exit.then,if_true]
    refine fin1 rfl rfl ?_
    try simp only [zD,zE]
    exact ⟨_,rfl,m.ext,by rw [check20 hd]⟩
   ·
    have hd1 : (ts.take (k + 1)).any degT = false:=by rw [any_take ht,hd0,← deg_eq]; exact hc2
    refine wp_skip (k6 _ _ ?_)
    refine wp_region_lit (n_val (r_move) ?_)
    simp only [ev,zD,zE,zF,zG]
    refine n_val (r_add rfl rfl (wrap_i64 (by omega) (by omega))) (n_val (r_assign) (n_nil ?_))
    simp only [ev,zD,zE,zF,zG]
    simp only [Exit.inBlock,Exit.then]
    refine ⟨N - (k + 1),_,?_,rfl,?_,?_⟩
    · omega
    · simp only [zQ,zR,zD,zE,setG_cons,setG_nil,setMany_cons,setMany_nil,zF,zG]
    ·
     simp only [zQ,zR,zD,zE]
     exact ⟨k + 1,rfl,m,hd1,by omega,rfl⟩
  ·
   have hkN : k = N:=by omega
   rw [hkN,show ts.take N = ts from List.take_of_length_le (by omega)] at hd0
   refine wp_exit (k2 _ _ ?_)
   refine c_seq fun K9 k9=>wp_region_lit (n_val (r_move) ?_)
   simp only [ev,zD,zE,zF,zG]
   refine n_call rfl rfl (edges_c _ (hT.ext m.ext) (by omega)) ?_
   rintro v u e ⟨A3,cap3,n3,hn3,rfl,hN⟩; replace m:=m.newO e hN; clear e hN
   have hle3:=(m.o 0 rfl).le
   refine n_val (r_assign) (n_nil (k9 _ _ ?_))
   refine c_seq fun K10 k10=>c_seq fun K11 k11=>wp_region_lit (n_val (r_assign) (n_nil (k11 _ _ ?_)))
   refine wp_block ?_
   simp only [ev,zD,zE,zF,zG]
   try simp only [Nat.zero_add,Nat.reduceAdd,Nat.reduceMul,Int.reduceToNat]
   refine c_loopg [7] [4,56,57,58,59,60,61,62,63,64,65,66,67,68] (fun n vs wl=>∃ (k : Nat),vs = [.int .i64 (k:Int)] ∧ Mem w wl [oI 153 6 A3 n3 cap3 ((edgesT ts).flatMap edCells)] ∧ (((edgesT ts).take k).any (fun e=>decide (1 < cntE (edgesT ts) e)) = false) ∧ (k ≤ n3) ∧ (n = n3 - k)) ?_ ?_
   ·
    apply Exists.intro
    simp only [zQ,zR,zD,zE]
    exact ⟨0,rfl,m,rfl,Nat.zero_le _,rfl⟩
   ·
    intro n vs wr hI u
    clear m
    obtain ⟨k,rfl,m,hc0,hk,hn⟩:=hI
    simp only [setG_cons,setG_nil,setMany_cons,setMany_nil,zF,zG]
    refine c_seq fun K12 k12=>c_seq fun K13 k13=>wp_region_lit (n_val (r_move) (n_val (r_move) (n_val (r_lenS rfl Tryz.underlying150 rfl) (n_val (r_lss rfl rfl) ?_))))
    simp only [ev,zD,zE,zF,zG]
    refine n_nil (k13 _ _ ?_)
    refine c_if rfl (fun hc3=>?_) (fun hc3=>?_)
    ·
     obtain ⟨e,he⟩ : ∃ e,(edgesT ts)[k]? = some e:=⟨_,List.getElem?_eq_getElem (by omega)⟩
     obtain ⟨gO,rfl⟩:=(m.o 0 rfl).some (by omega)
     refine wp_skip (k12 _ _ ?_)
     refine c_seq fun K14 k14=>wp_block (c_seq fun K15 k15=>wp_region_lit (n_val (r_move) (n_val (r_move) (n_val (r_move) ?_))))
     simp only [ev,zD,zE,zF,zG]
     refine n_val (r_indexAddrS Tryz.underlying150 cells_153 rfl rfl (by omega) (by omega) (addrN (Int.toNat_natCast _))) ?_
     simp only [ev,zD,zE,zF,zG]
     refine n_load rfl (((m.o 0 rfl).at ed6 he).lies agg_153 cells_153) ?_
     simp only [ev,zD,zE,zF,zG]
     refine mcall m rfl rfl (count_c (es:=edgesT ts) (e:=e) _ ((m.o 0 rfl).lat ed6 (by decide)) (by omega)) ?_
     clear m; rintro v u m rfl
     refine n_val (r_gtr rfl rfl) (n_nil (k15 _ _ ?_))
     simp only [ev,zD,zE,zF,zG]
     refine c_if rfl (fun hc4=>?_) (fun hc4=>?_)
     ·
      have hc:=any_hit (p:=(fun e=>decide (1 < cntE (edgesT ts) e))) he (decide_eq_true (gt1.1 hc4))
      refine c_seq fun K16 k16=>wp_region_lit (n_val (r_assign) (n_nil (k16 _ _ ?_)))
      refine wp_ret ?_
      simp only [ev,zD,zE,zF,zG]
      try simp only [Exit.inBlock,Exit.then,if_true]
      refine fin1 rfl rfl ?_
      try simp only [zD,zE]
      exact ⟨_,rfl,m.ext,by rw [check21 hd0 hc]⟩
     ·
      have hc01 : ((edgesT ts).take (k + 1)).any (fun e=>decide (1 < cntE (edgesT ts) e)) = false:=by rw [any_take he,hc0,decide_eq_false (fun h=>hc4 (gt1.2 h))]; rfl
      refine wp_skip (k14 _ _ ?_)
      refine wp_region_lit (n_val (r_move) ?_)
      simp only [ev,zD,zE,zF,zG]
      refine n_val (r_add rfl rfl (wrap_i64 (by omega) (by omega))) (n_val (r_assign) (n_nil ?_))
      simp only [ev,zD,zE,zF,zG]
      simp only [Exit.inBlock,Exit.then]
      refine ⟨n3 - (k + 1),_,?_,rfl,?_,?_⟩
      · omega
      · simp only [zQ,zR,zD,zE,setG_cons,setG_nil,setMany_cons,setMany_nil,zF,zG]
      ·
       simp only [zQ,zR,zD,zE]
       exact ⟨k + 1,rfl,m,hc01,by omega,rfl⟩
    ·
     have hkN : k = (edgesT ts).length:=by omega
     rw [hkN,List.take_length] at hc0
     refine wp_exit (k10 _ _ ?_)
     refine c_seq fun K17 k17=>c_seq fun K18 k18=>wp_region_lit (n_val (r_move) (n_val (r_not rfl) (n_val (r_move) (n_want rfl (n_val (r_move) ?_)))))
     simp only [ev,zD,zE,zF,zG]
     refine n_want rfl (n_call rfl rfl (border_c _ (hT.ext m.ext) hN) ?_)
     rintro v u e ⟨A7,cap7,n7,hn7,rfl,hN⟩; replace m:=m.newO e hN; clear e hN
     refine n_want rfl (n_val (r_lenS rfl Tryz.underlying150 rfl) (n_want rfl (n_val (r_gtr rfl rfl) (n_val (r_pickT rfl) ?_))))
     simp only [ev,zD,zE,zF,zG]
     refine n_nil (k18 _ _ ?_)
     refine c_if rfl (fun hc5=>?_) (fun hc5=>?_)
     ·
      have hb : 0 < (borderT ts).length:=by omega
      refine c_seq fun K19 k19=>wp_region_lit (n_val (r_assign) (n_nil (k19 _ _ ?_)))
      refine wp_ret ?_
      simp only [ev,zD,zE,zF,zG]
      try simp only [Exit.inBlock,Exit.then,if_true]
      refine fin1 rfl rfl ?_
      try simp only [zD,zE]
      exact ⟨_,rfl,m.ext,by rw [check22 hd0 hc0 hb]⟩
     ·
      have hb : (!false && decide (0 < (borderT ts).length)) = false:=by rw [decide_eq_false (by omega)]; rfl
      refine wp_skip (k17 _ _ ?_)
      refine c_seq fun K20 k20=>wp_region_lit (n_val (r_move) ?_)
      simp only [ev,zD,zE,zF,zG]
      refine n_call rfl rfl (corners_c _ (hT.ext m.ext) hN) ?_
      rintro v u e ⟨A8,cap8,n8,hn8,rfl,hN⟩; replace m:=m.newO e hN; clear e hN
      have hle8:=(m.o 0 rfl).le
      refine n_val (r_assign) (n_nil (k20 _ _ ?_))
      refine c_seq fun K21 k21=>c_seq fun K22 k22=>wp_region_lit (n_val (r_assign) (n_nil (k22 _ _ ?_)))
      refine wp_block ?_
      simp only [ev,zD,zE,zF,zG]
      try simp only [Nat.zero_add,Nat.reduceAdd,Nat.reduceMul,Int.reduceToNat]
      refine c_loopg [9] [4,10,79,80,81,82,83,84,85,86,87,88,89,90,91] (fun n vs wl=>∃ (k : Nat),vs = [.int .i64 (k:Int)] ∧ Mem w wl [oI 28 3 A8 n8 cap8 ((cornersT ts).flatMap ptC)] ∧ (((cornersT ts).take k).any (pinT ts) = false) ∧ (k ≤ n8) ∧ (n = n8 - k)) ?_ ?_
      ·
       apply Exists.intro
       simp only [zQ,zR,zD,zE]
       exact ⟨0,rfl,(m.sel [true,false,false]),rfl,Nat.zero_le _,rfl⟩
      ·
       intro n vs wr hI u
       clear m
       obtain ⟨k,rfl,m,hp0,hk,hn⟩:=hI
       simp only [setG_cons,setG_nil,setMany_cons,setMany_nil,zF,zG]
       refine c_seq fun K23 k23=>c_seq fun K24 k24=>wp_region_lit (n_val (r_move) (n_val (r_move) (n_val (r_lenS rfl Tryz.underlying118 rfl) (n_val (r_lss rfl rfl) ?_))))
       simp only [ev,zD,zE,zF,zG]
       refine n_nil (k24 _ _ ?_)
       refine c_if rfl (fun hc6=>?_) (fun hc6=>?_)
       ·
        obtain ⟨x,hx⟩ : ∃ x,(cornersT ts)[k]? = some x:=⟨_,List.getElem?_eq_getElem (by omega)⟩
        obtain ⟨gO,rfl⟩:=(m.o 0 rfl).some (by omega)
        refine wp_skip (k23 _ _ ?_)
        refine c_seq fun K25 k25=>wp_block (c_seq fun K26 k26=>wp_region_lit (n_val (r_move) (n_val (r_move) (n_val (r_move) ?_))))
        simp only [ev,zD,zE,zF,zG]
        refine n_val (r_indexAddrS Tryz.underlying118 cells_28 rfl rfl (by omega) (by omega) (addrN (Int.toNat_natCast _))) ?_
        simp only [ev,zD,zE,zF,zG]
        refine n_load rfl (((m.o 0 rfl).at pc3 hx).lies agg_28 cells_28) ?_
        simp only [ev,zD,zE,zF,zG]
        refine mcall m rfl rfl (pinched_c (p:=x) _ (hT.ext m.ext) (by omega)) ?_
        clear m; rintro v u m rfl
        refine n_val (r_assign) (n_nil (k26 _ _ ?_))
        refine c_seq fun K27 k27=>wp_region_lit (n_val (r_move) (n_nil (k27 _ _ ?_)))
        simp only [ev,zD,zE,zF,zG]
        refine c_cond rfl (fun hc7=>?_) (fun hc7=>?_)
        ·
         have hp:=any_hit (p:=pinT ts) hx hc7
         refine c_seq fun K28 k28=>wp_region_lit (n_val (r_assign) (n_nil (k28 _ _ ?_)))
         refine wp_ret ?_
         simp only [ev,zD,zE,zF,zG]
         try simp only [Exit.inBlock,Exit.then,if_true]
         refine fin1 rfl rfl ?_
         try simp only [zD,zE]
         exact ⟨_,rfl,m.ext,by rw [check23 hd0 hc0 hb hp]⟩
        ·
         have hp1 : ((cornersT ts).take (k + 1)).any (pinT ts) = false:=by rw [any_take hx,hp0,hc7]; rfl
         refine wp_skip (k25 _ _ ?_)
         refine wp_region_lit (n_val (r_move) ?_)
         simp only [ev,zD,zE,zF,zG]
         refine n_val (r_add rfl rfl (wrap_i64 (by omega) (by omega))) (n_val (r_assign) (n_nil ?_))
         simp only [ev,zD,zE,zF,zG]
         simp only [Exit.inBlock,Exit.then]
         refine ⟨n8 - (k + 1),_,?_,rfl,?_,?_⟩
         · omega
         · simp only [zQ,zR,zD,zE,setG_cons,setG_nil,setMany_cons,setMany_nil,zF,zG]
         ·
          simp only [zQ,zR,zD,zE]
          exact ⟨k + 1,rfl,m,hp1,by omega,rfl⟩
       ·
        have hkN : k = (cornersT ts).length:=by omega
        rw [hkN,List.take_length] at hp0
        refine wp_exit (k21 _ _ ?_)
        refine c_seq fun K29 k29=>wp_region_lit (n_val (r_assign) (n_nil (k29 _ _ ?_)))
        refine wp_ret ?_
        simp only [ev,zD,zE,zF,zG]
        try simp only [Exit.inBlock,Exit.then,if_true]
        refine fin1 rfl rfl ?_
        try simp only [zD,zE]
        exact ⟨_,rfl,m.ext,by rw [check0 hd0 hc0 hb hp0]⟩
theorem rCheck_c {ts : List T3} {N cap : Nat} {A : Option Addr} (w : World) (hT : TrisAt w A N ts) (hN : N ≤ 100000000) : Does Tryz.prog 20 [.slice A N cap] w (fun v _=>v = .int .i64 (checkT false ts)):=by
 refine ⟨en_20,?_⟩
 have m:=Mem.refl w
 go_enter Tryz.func20,Tryz.ntmps20
 refine c_seq fun K1 k1=>wp_region_lit (n_val (r_assign) (n_nil (k1 _ _ ?_)))
 refine c_seq fun K2 k2=>wp_region_lit (n_val (r_move) ?_)
 simp only [ev,zD,zE,zF,zG]
 refine mcall m rfl rfl (check_f _ (hT.ext m.ext) hN) ?_
 clear m; rintro v u m rfl
 refine n_val (r_assign) (n_nil (k2 _ _ ?_))
 refine wp_ret ?_
 simp only [ev,zD,zE,zF,zG]
 try simp only [Exit.inBlock,Exit.then,if_true]
 refine fin1 rfl rfl ?_
 try simp only [zD,zE]
 exact ⟨_,rfl,m.ext,rfl⟩
end Go.Proofs.YtmcgcnpgkkfkoaaGreatDoor
namespace Go.Proofs.YtmcgcnpgkkfkoaaGreatDoor
open Go.RowKit Go.Lith
set_option maxRecDepth 100000
attribute [local irreducible] wpList wpQuiet wpMix wpMixH wpTree Code.wp
theorem wrapT {n : Int} (h : I64 n) : IntKind.i64.wrap n = n:=wrap_i64 h.1 h.2
theorem cq_bq {m v : Int} {a b : Nat} (h : Bd a m) (k : Bd b v) (ha : a ≤ 1000:=by decide) (hb : b ≤ 1000:=by decide) : Bq 150000 (cq m v):=by
 unfold cq
 split
 · exact ⟨bd_zero _,bd_11.mono (by decide)⟩
 ·
  rename_i h0
  have hv : Bd 1003 (v * 4):=bd_mul (b:=3) (k.mono hb) (show (4 : Int).natAbs < 2 ^ 3 by decide)
  exact (Bq.mk' (h.mono ha) hv (by omega)).mono (by decide)
theorem bq_i {n : Int} (h : I64 n) : Bq 150000 (n : Rat):=⟨h.bd.mono (by decide),bd_11.mono (by decide)⟩
def movV (v : P3) : P3:=⟨v.x.tmod 1099511627776,v.y.tmod 1099511627776,v.z.tmod 1099511627776⟩
theorem movV_bd (v : P3) : (-1099511627776 < (movV v).x ∧ (movV v).x < 1099511627776) ∧ (-1099511627776 < (movV v).y ∧ (movV v).y < 1099511627776) ∧ (-1099511627776 < (movV v).z ∧ (movV v).z < 1099511627776):=⟨tm_bd (by decide),tm_bd (by decide),tm_bd (by decide)⟩
theorem movV_i3 (v : P3) : I3 (movV v):=by
 obtain ⟨h1,h2,h3⟩:=movV_bd v
 exact ⟨⟨by omega,by omega⟩,⟨by omega,by omega⟩,⟨by omega,by omega⟩⟩
theorem sm_sh {k : Int} {p : P3} (v : P3) (h : Sm k p) (hk : k ≤ 1000) : I3 (p.sh (movV v)):=by
 obtain ⟨h1,h2,h3⟩:=movV_bd v
 obtain ⟨k1,k2,k3⟩:=h
 refine ⟨⟨?_,?_⟩,⟨?_,?_⟩,⟨?_,?_⟩⟩ <;> (simp only [P3.sh]; omega)
theorem smT_sh {k : Int} {t : T3} (v : P3) (h : SmT k t) (hk : k ≤ 1000) : IT (t.sh (movV v)):=⟨sm_sh v h.1 hk,sm_sh v h.2.1 hk,sm_sh v h.2.2 hk⟩
theorem vol_pos {a : Int} (h : 0 < a) : 0 < (Rat.divInt a 6).num:=by
 have h1 : 0 ≤ (Rat.divInt a 6).num:=Rat.num_nonneg.2 (Rat.divInt_nonneg (Int.le_of_lt h) (by decide))
 have h2 : (Rat.divInt a 6).num ≠ 0:=fun e=>by
  have e0 : Rat.divInt a 6 = 0:=Rat.num_eq_zero.1 e
  rw [← Rat.zero_divInt 1,Rat.divInt_eq_divInt_iff (by decide) (by decide)] at e0
  omega
 omega
theorem Moved_c {ts : List T3} {N cap : Nat} {A : Option Addr} {v : P3} (w : World) (hT : TrisAt w A N ts) (hI : ∀ t ∈ ts,IT (t.sh v)) (hN : N ≤ 100000) : Does Tryz.prog 21 [.slice A N cap,pt v] w (TS 59 (ts.map (T3.sh v)) w):=by
 refine ⟨en_21,?_⟩
 have m:=Mem.refl w
 have htl:=hT.len
 go_enter Tryz.func21,Tryz.ntmps21
 refine c_seq fun K1 k1=>wp_region_lit (mboxA m rfl ?_)
 clear m; intro g1 u m
 refine n_val (r_assign) (n_nil (k1 _ _ ?_))
 refine c_seq fun K2 k2=>wp_region_lit (n_val (r_assign) ?_)
 replace m:=m.nilO 59 9
 refine n_nil (k2 _ _ ?_)
 refine c_seq fun K3 k3=>c_seq fun K4 k4=>wp_region_lit (n_val (r_assign) ?_)
 simp only [ev,zD,zE,zF,zG]
 refine n_nil (k4 _ _ ?_)
 refine wp_block ?_
 try simp only [Nat.zero_add,Nat.reduceAdd,Nat.reduceMul,Int.reduceToNat]
 refine c_loopg [5,6] [7,8,9,10,11,12,13,14,15,16,17,18,19,20,21,22,23,24,25,26,27,28,29,30,31,32,33,34,35,36,37,38,39,40,41,42,43,44,45,46,47,48,49,50] (fun n vs wl=>∃ (k cap5 : Nat) (A5 : Option Addr),vs = [.slice A5 k cap5,.int .i64 (k:Int)] ∧ Mem w wl [oI 59 9 A5 k cap5 (((ts.take k).map (T3.sh v)).flatMap triCells),bI g1 [.int .i64 v.x,.int .i64 v.y,.int .i64 v.z] 28] ∧ (k ≤ N) ∧ (n = N - k)) ?_ ?_
 ·
  apply Exists.intro
  simp only [zQ,zR,zD,zE]
  exact ⟨0,_,_,rfl,m,Nat.zero_le _,rfl⟩
 ·
  intro n vs wr hI u
  clear m
  obtain ⟨k,cap5,A5,rfl,m,hk,hn⟩:=hI
  simp only [setG_cons,setG_nil,setMany_cons,setMany_nil,zF,zG]
  refine c_seq fun K5 k5=>c_seq fun K6 k6=>wp_region_lit (n_val (r_move) (n_val (r_move) (n_val (r_lenS rfl Tryz.underlying24 rfl) (n_val (r_lss rfl rfl) ?_))))
  simp only [ev,zD,zE,zF,zG]
  refine n_nil (k6 _ _ ?_)
  refine c_if rfl (fun hc1=>?_) (fun hc1=>?_)
  ·
   obtain ⟨t,ht,_,a,rfl,hrow⟩:=hT.get (i:=k) (by omega)
   have hIt:=hI t (List.mem_of_getElem? ht)
   refine wp_skip (k5 _ _ ?_)
   refine c_seq fun K7 k7=>wp_block (c_seq fun K8 k8=>wp_region_lit (n_val (r_move) (n_val (r_move) ?_)))
   simp only [ev,zD,zE,zF,zG]
   refine n_val (r_indexAddrS Tryz.underlying24 cells_59 rfl rfl (by omega) (by omega) (addrN (Int.toNat_natCast _))) ?_
   simp only [ev,zD,zE,zF,zG]
   refine n_load rfl ((hrow.ext m.ext).lies agg_59 cells_59) ?_
   simp only [ev,zD,zE,zF,zG]
   refine malloc m zero_59 rfl ?_
   clear m; intro g2 u m
   simp only [ev,zD,zE,zF,zG]
   refine mstoreA m 0 rfl rfl rfl cells_59 (leT rfl) rfl ?_
   clear m; intro u m; simp only [over,zH,zI,zJ,zK,zL,zM,zN,zO,zP,zF,zG,Nat.reduceAdd] at m
   refine n_nil (k8 _ _ ?_)
   refine c_seq fun K9 k9=>c_seq fun K10 k10=>wp_region_lit (n_val (r_assign) (n_nil (k10 _ _ ?_)))
   refine wp_block (wp_loop_rounds 4 (rounds_step (c_seq fun K11 k11=>c_seq fun K12 k12=>wp_region_lit (n_val (r_move) (n_val (r_lssT (m:=0) (n:=3) rfl rfl (by decide)) (n_nil (k12 _ _ ?_)))))))
   refine c_yes rfl (wp_skip (k11 _ _ ?_))
   refine c_seq fun K13 k13=>wp_block ?_
   simp only [ev,zD,zE,zF,zG]
   refine mq_tail m 24 follows_mixed (by kernel_rfl) ?_
   simp only [zH,zI,zJ,zK]
   refine q_val (r_move) (q_val (r_move) (q_val (r_indexAddrA Tryz.underlying59 cells_28 rfl rfl (by decide) (by decide) rfl) (q_val (r_fieldAddr (c:=0) Tryz.underlying28 rfl cells_3 rfl rfl) ?_)))
   simp only [ev,zD,zE,zF,zG]
   refine ql rfl (fun u m=>((m.b 0 rfl).lies1 agg_3 rfl)) ?_
   simp only [ev,zD,zE,zF,zG]
   refine q_val (r_fieldAddr (c:=0) Tryz.underlying28 rfl cells_3 rfl rfl) ?_
   simp only [ev,zD,zE,zF,zG]
   refine ql rfl (fun u m=>((m.b 2 rfl).lies1 agg_3 rfl)) ?_
   simp only [ev,zD,zE,zF,zG]
   refine q_val (r_add rfl rfl (wrapT (n:=t.a.x + v.x) hIt.a.x)) (q_val (r_move) (q_val (r_indexAddrA Tryz.underlying59 cells_28 rfl rfl (by decide) (by decide) rfl) (q_val (r_fieldAddr (c:=0) Tryz.underlying28 rfl cells_3 rfl rfl) ?_)))
   simp only [ev,zD,zE,zF,zG]
   refine ql rfl (fun u m=>((m.b 0 rfl).lies1 agg_3 rfl)) ?_
   simp only [ev,zD,zE,zF,zG]
   refine q_val (r_fieldAddr (c:=0) Tryz.underlying28 rfl cells_3 rfl rfl) ?_
   simp only [ev,zD,zE,zF,zG]
   refine ql rfl (fun u m=>((m.b 2 rfl).lies1 agg_3 rfl)) ?_
   simp only [ev,zD,zE,zF,zG]
   refine q_val (r_add rfl rfl (wrapT (n:=t.a.y + v.y) hIt.a.y)) (q_val (r_move) (q_val (r_indexAddrA Tryz.underlying59 cells_28 rfl rfl (by decide) (by decide) rfl) (q_val (r_fieldAddr (c:=0) Tryz.underlying28 rfl cells_3 rfl rfl) ?_)))
   simp only [ev,zD,zE,zF,zG]
   refine ql rfl (fun u m=>((m.b 0 rfl).lies1 agg_3 rfl)) ?_
   simp only [ev,zD,zE,zF,zG]
   refine q_val (r_fieldAddr (c:=0) Tryz.underlying28 rfl cells_3 rfl rfl) ?_
   simp only [ev,zD,zE,zF,zG]
   refine ql rfl (fun u m=>((m.b 2 rfl).lies1 agg_3 rfl)) ?_
   simp only [ev,zD,zE,zF,zG]
   refine q_val (r_add rfl rfl (wrapT (n:=t.a.z + v.z) hIt.a.z)) (q_val (r_build_28_0_1_2 rfl rfl rfl) (q_val (r_indexAddrA Tryz.underlying59 cells_28 rfl rfl (by decide) (by decide) rfl) (q_nil ?_)))
   clear m; intro u m
   simp only [ev,zD,zE,zF,zG]
   refine mstoreA m 0 rfl rfl rfl cells_28 (leT rfl) rfl ?_
   clear m; intro u m; simp only [over,zH,zI,zJ,zK,zL,zM,zN,zO,zP,zF,zG,Nat.reduceAdd] at m
   refine n_nil (k13 _ _ ?_)
   refine wp_region_lit (n_val (r_move) (n_val (r_add (m:=0) (n:=1) (r:=1) rfl rfl (by decide)) (n_val (r_assign) (n_nil (then_rounds (c_seq fun K14 k14=>c_seq fun K15 k15=>wp_region_lit (n_val (r_move) ?_)))))))
   simp only [ev,zD,zE,zF,zG]
   refine n_val (r_lssT (m:=1) (n:=3) rfl rfl (by decide)) (n_nil (k15 _ _ ?_))
   refine c_yes rfl (wp_skip (k14 _ _ ?_))
   refine c_seq fun K16 k16=>wp_block ?_
   simp only [ev,zD,zE,zF,zG]
   refine mq_tail m 24 follows_mixed (by kernel_rfl) ?_
   simp only [zH,zI,zJ,zK]
   refine q_val (r_move) (q_val (r_move) (q_val (r_indexAddrA Tryz.underlying59 cells_28 rfl rfl (by decide) (by decide) rfl) (q_val (r_fieldAddr (c:=0) Tryz.underlying28 rfl cells_3 rfl rfl) ?_)))
   simp only [ev,zD,zE,zF,zG]
   refine ql rfl (fun u m=>((m.b 0 rfl).lies1 agg_3 rfl)) ?_
   simp only [ev,zD,zE,zF,zG]
   refine q_val (r_fieldAddr (c:=0) Tryz.underlying28 rfl cells_3 rfl rfl) ?_
   simp only [ev,zD,zE,zF,zG]
   refine ql rfl (fun u m=>((m.b 2 rfl).lies1 agg_3 rfl)) ?_
   simp only [ev,zD,zE,zF,zG]
   refine q_val (r_add rfl rfl (wrapT (n:=t.b.x + v.x) hIt.b.x)) (q_val (r_move) (q_val (r_indexAddrA Tryz.underlying59 cells_28 rfl rfl (by decide) (by decide) rfl) (q_val (r_fieldAddr (c:=0) Tryz.underlying28 rfl cells_3 rfl rfl) ?_)))
   simp only [ev,zD,zE,zF,zG]
   refine ql rfl (fun u m=>((m.b 0 rfl).lies1 agg_3 rfl)) ?_
   simp only [ev,zD,zE,zF,zG]
   refine q_val (r_fieldAddr (c:=0) Tryz.underlying28 rfl cells_3 rfl rfl) ?_
   simp only [ev,zD,zE,zF,zG]
   refine ql rfl (fun u m=>((m.b 2 rfl).lies1 agg_3 rfl)) ?_
   simp only [ev,zD,zE,zF,zG]
   refine q_val (r_add rfl rfl (wrapT (n:=t.b.y + v.y) hIt.b.y)) (q_val (r_move) (q_val (r_indexAddrA Tryz.underlying59 cells_28 rfl rfl (by decide) (by decide) rfl) (q_val (r_fieldAddr (c:=0) Tryz.underlying28 rfl cells_3 rfl rfl) ?_)))
   simp only [ev,zD,zE,zF,zG]
   refine ql rfl (fun u m=>((m.b 0 rfl).lies1 agg_3 rfl)) ?_
   simp only [ev,zD,zE,zF,zG]
   refine q_val (r_fieldAddr (c:=0) Tryz.underlying28 rfl cells_3 rfl rfl) ?_
   simp only [ev,zD,zE,zF,zG]
   refine ql rfl (fun u m=>((m.b 2 rfl).lies1 agg_3 rfl)) ?_
   simp only [ev,zD,zE,zF,zG]
   refine q_val (r_add rfl rfl (wrapT (n:=t.b.z + v.z) hIt.b.z)) (q_val (r_build_28_0_1_2 rfl rfl rfl) (q_val (r_indexAddrA Tryz.underlying59 cells_28 rfl rfl (by decide) (by decide) rfl) (q_nil ?_)))
   clear m; intro u m
   simp only [ev,zD,zE,zF,zG]
   refine mstoreA m 0 rfl rfl rfl cells_28 (leT rfl) rfl ?_
   clear m; intro u m; simp only [over,zH,zI,zJ,zK,zL,zM,zN,zO,zP,zF,zG,Nat.reduceAdd] at m
   refine n_nil (k16 _ _ ?_)
   refine wp_region_lit (n_val (r_move) (n_val (r_add (m:=1) (n:=1) (r:=2) rfl rfl (by decide)) (n_val (r_assign) (n_nil (then_rounds (c_seq fun K17 k17=>c_seq fun K18 k18=>wp_region_lit (n_val (r_move) ?_)))))))
   simp only [ev,zD,zE,zF,zG]
   refine n_val (r_lssT (m:=2) (n:=3) rfl rfl (by decide)) (n_nil (k18 _ _ ?_))
   refine c_yes rfl (wp_skip (k17 _ _ ?_))
   refine c_seq fun K19 k19=>wp_block ?_
   simp only [ev,zD,zE,zF,zG]
   refine mq_tail m 24 follows_mixed (by kernel_rfl) ?_
   simp only [zH,zI,zJ,zK]
   refine q_val (r_move) (q_val (r_move) (q_val (r_indexAddrA Tryz.underlying59 cells_28 rfl rfl (by decide) (by decide) rfl) (q_val (r_fieldAddr (c:=0) Tryz.underlying28 rfl cells_3 rfl rfl) ?_)))
   simp only [ev,zD,zE,zF,zG]
   refine ql rfl (fun u m=>((m.b 0 rfl).lies1 agg_3 rfl)) ?_
   simp only [ev,zD,zE,zF,zG]
   refine q_val (r_fieldAddr (c:=0) Tryz.underlying28 rfl cells_3 rfl rfl) ?_
   simp only [ev,zD,zE,zF,zG]
   refine ql rfl (fun u m=>((m.b 2 rfl).lies1 agg_3 rfl)) ?_
   simp only [ev,zD,zE,zF,zG]
   refine q_val (r_add rfl rfl (wrapT (n:=t.c.x + v.x) hIt.c.x)) (q_val (r_move) (q_val (r_indexAddrA Tryz.underlying59 cells_28 rfl rfl (by decide) (by decide) rfl) (q_val (r_fieldAddr (c:=0) Tryz.underlying28 rfl cells_3 rfl rfl) ?_)))
   simp only [ev,zD,zE,zF,zG]
   refine ql rfl (fun u m=>((m.b 0 rfl).lies1 agg_3 rfl)) ?_
   simp only [ev,zD,zE,zF,zG]
   refine q_val (r_fieldAddr (c:=0) Tryz.underlying28 rfl cells_3 rfl rfl) ?_
   simp only [ev,zD,zE,zF,zG]
   refine ql rfl (fun u m=>((m.b 2 rfl).lies1 agg_3 rfl)) ?_
   simp only [ev,zD,zE,zF,zG]
   refine q_val (r_add rfl rfl (wrapT (n:=t.c.y + v.y) hIt.c.y)) (q_val (r_move) (q_val (r_indexAddrA Tryz.underlying59 cells_28 rfl rfl (by decide) (by decide) rfl) (q_val (r_fieldAddr (c:=0) Tryz.underlying28 rfl cells_3 rfl rfl) ?_)))
   simp only [ev,zD,zE,zF,zG]
   refine ql rfl (fun u m=>((m.b 0 rfl).lies1 agg_3 rfl)) ?_
   simp only [ev,zD,zE,zF,zG]
   refine q_val (r_fieldAddr (c:=0) Tryz.underlying28 rfl cells_3 rfl rfl) ?_
   simp only [ev,zD,zE,zF,zG]
   refine ql rfl (fun u m=>((m.b 2 rfl).lies1 agg_3 rfl)) ?_
   simp only [ev,zD,zE,zF,zG]
   refine q_val (r_add rfl rfl (wrapT (n:=t.c.z + v.z) hIt.c.z)) (q_val (r_build_28_0_1_2 rfl rfl rfl) (q_val (r_indexAddrA Tryz.underlying59 cells_28 rfl rfl (by decide) (by decide) rfl) (q_nil ?_)))
   clear m; intro u m
   simp only [ev,zD,zE,zF,zG]
   refine mstoreA m 0 rfl rfl rfl cells_28 (leT rfl) rfl ?_
   clear m; intro u m; simp only [over,zH,zI,zJ,zK,zL,zM,zN,zO,zP,zF,zG,Nat.reduceAdd] at m
   refine n_nil (k19 _ _ ?_)
   refine wp_region_lit (n_val (r_move) (n_val (r_add (m:=2) (n:=1) (r:=3) rfl rfl (by decide)) (n_val (r_assign) (n_nil (then_rounds (c_seq fun K20 k20=>c_seq fun K21 k21=>wp_region_lit (n_val (r_move) ?_)))))))
   simp only [ev,zD,zE,zF,zG]
   refine n_val (r_lssF (m:=3) (n:=3) rfl rfl (by decide)) (n_nil (k21 _ _ ?_))
   refine c_no rfl (wp_exit (k9 _ _ ?_))
   refine wp_region_lit (n_val (r_move) ?_)
   simp only [ev,zD,zE,zF,zG]
   refine n_load rfl ((m.b 0 rfl).full agg_59 cells_59) ?_
   simp only [ev,zD,zE,zF,zG]
   refine n_bs_24_1 rfl ?_
   intro u g3 e hg hB; replace m:=m.newB e hg hB; clear e hg hB
   simp only [ev,zD,zE,zF,zG]
   refine mappend m 2 rfl rfl Tryz.underlying24 inf_59 rfl (by decide) rfl rfl rfl (m.b 0 rfl).rowsO (allT rfl) (by omega) (by omega) ?_
   clear m; intro A5 cap5 u m; simp only [zF,zG] at m
   refine n_val (r_assign) (n_nil (k7 _ _ ?_))
   refine wp_region_lit (n_val (r_move) ?_)
   simp only [ev,zD,zE,zF,zG]
   refine n_val (r_add rfl rfl (wrap_i64 (by omega) (by omega))) (n_val (r_assign) (n_nil ?_))
   simp only [ev,zD,zE,zF,zG]
   simp only [Exit.inBlock,Exit.then]
   refine ⟨N - (k + 1),_,?_,rfl,?_,?_⟩
   · omega
   · simp only [zQ,zR,zD,zE,setG_cons,setG_nil,setMany_cons,setMany_nil,zF,zG]
   ·
    simp only [zQ,zR,zD,zE]
    exact ⟨k + 1,_,_,rfl,((m.reO 2 rfl ((m.o 2 rfl).as (by rw [take_snoc ht,List.map_append,List.flatMap_append]; rfl))).sel [false,false,true,true]),by omega,rfl⟩
  ·
   obtain rfl : k = N:=by omega
   rw [show ts.take k = ts from List.take_of_length_le (by omega)] at m
   refine wp_exit (k3 _ _ ?_)
   refine c_seq fun K22 k22=>wp_region_lit (n_val (r_move) (n_val (r_assign) (n_nil (k22 _ _ ?_))))
   refine wp_ret ?_
   simp only [ev,zD,zE,zF,zG]
   try simp only [Exit.inBlock,Exit.then,if_true]
   refine fin1 rfl rfl ?_
   try simp only [zD,zE]
   exact ⟨_,rfl,m.ext,⟨_,_,_,by rw [List.length_map]; exact htl.symm,rfl,(m.o 0 rfl)⟩⟩
theorem MeasureMoves_c {z : Int} {v : P3} [I3 v] (hz : 0 ≤ z ∧ z < 4294967296) : Pure Tryz.prog 5 [.int .u32 z,pt v] (.bool true):=by
 intro w
 refine ⟨en_5,?_⟩
 have m:=Mem.refl w
 obtain ⟨zn,rfl⟩ : ∃ n : Nat,z = (n : Int):=⟨z.toNat,by omega⟩
 obtain ⟨q,hq⟩ : ∃ q,q = zn % 134217728:=⟨_,rfl⟩
 have hq2 : q < 134217728:=by omega
 have hI : ∀ t ∈ voxT q,IT t:=fun t ht=>(voxT_sm t ht).it (by decide)
 have hle:=@voxT_le q
 have hIm : ∀ t ∈ (voxT q).map (T3.sh (movV v)),IT t:=fun t ht=>by obtain ⟨u,hu,rfl⟩:=List.mem_map.1 ht; exact smT_sh v (voxT_sm u hu) (by decide)
 haveI:=movV_i3 v
 go_enter Tryz.func5,Tryz.ntmps5
 refine c_seq fun K1 k1=>wp_region_lit (mboxA m rfl ?_)
 clear m; intro g1 u m
 refine n_val (r_assign) (n_nil (k1 _ _ ?_))
 refine c_seq fun K2 k2=>wp_region_lit ?_
 simp only [ev,zD,zE,zF,zG]
 refine mcallP m rfl rfl (sanity_c) ?_
 clear m; intro u m
 refine n_val (r_assign) (n_nil (k2 _ _ ?_))
 refine c_seq fun K3 k3=>wp_region_lit (n_val (r_move) ?_)
 simp only [ev,zD,zE,zF,zG]
 refine n_val (r_rem rfl rfl (by omega) (tmodN (k:=zn))) ?_
 simp only [ev,zD,zE,zF,zG]
 rw [← hq]
 refine n_val (r_conv Tryz.underlying3 Tryz.underlying44 rfl (wrap_i64 (by omega) (by omega))) (n_val (r_build_28_0_1_2 rfl rfl rfl) ?_)
 simp only [ev,zD,zE,zF,zG]
 refine n_call rfl rfl (Voxels_c (b:=q) _ hq2) ?_
 rintro v u e ⟨A6,cap6,n6,hn6,rfl,hN⟩; replace m:=m.newO e hN; clear e hN
 subst hn6
 refine n_val (r_assign) (n_nil (k3 _ _ ?_))
 refine c_seq fun K4 k4=>c_seq fun K5 k5=>?_
 simp only [ev,zD,zE,zF,zG]
 rcases Nat.eq_zero_or_pos (voxT q).length with hz0 | hz0
 ·
  refine wp_region_lit (n_val (r_move) (n_val (r_lenS rfl Tryz.underlying24 rfl) ?_))
  simp only [ev,zD,zE,zF,zG]
  refine n_val (r_eqlT rfl rfl (by omega)) (n_val (r_move) (n_skipF rfl (n_skipF rfl ?_)))
  simp only [ev,zD,zE,zF,zG]
  refine n_skipF rfl (n_val (r_pickT rfl) (n_nil (k5 _ _ ?_)))
  refine c_yes rfl (c_seq fun K6 k6=>wp_region_lit (n_val (r_move) (n_val (r_assign) ?_)))
  simp only [ev,zD,zE,zF,zG]
  refine n_nil (k6 _ _ ?_)
  refine wp_ret ?_
  try simp only [Exit.inBlock,Exit.then,if_true]
  refine fin1 rfl rfl ?_
  try simp only [zD,zE]
  exact ⟨_,rfl,m.ext,rfl⟩
 ·
  have hpos:=vox_pos (b:=q) (fun h=>by rw [h] at hz0; exact absurd hz0 (by decide))
  have hne : sumT det (voxT q) ≠ 0:=by omega
  have hdm : sumT det ((voxT q).map (T3.sh (movV v))) = sumT det (voxT q):=by rw [vox_det,vox_det0]
  have hbd : Bd 264 (sumT det (voxT q)):=sumT_bd (m:=200) (fun u hu=>by haveI:=hI u hu; exact det_bd) (by have:=@voxT_le q; omega)
  have hbx : Bd 364 (sumT (mom P3.x) (voxT q)):=sumT_bd (m:=300) (fun u hu=>by haveI:=hI u hu; exact mom_bd Iw.h.bd Iw.h.bd Iw.h.bd) (by have:=@voxT_le q; omega)
  have hby : Bd 364 (sumT (mom P3.y) (voxT q)):=sumT_bd (m:=300) (fun u hu=>by haveI:=hI u hu; exact mom_bd Iw.h.bd Iw.h.bd Iw.h.bd) (by have:=@voxT_le q; omega)
  have hbz : Bd 364 (sumT (mom P3.z) (voxT q)):=sumT_bd (m:=300) (fun u hu=>by haveI:=hI u hu; exact mom_bd Iw.h.bd Iw.h.bd Iw.h.bd) (by have:=@voxT_le q; omega)
  refine wp_region_lit (n_val (r_move) (n_val (r_lenS rfl Tryz.underlying24 rfl) ?_))
  simp only [ev,zD,zE,zF,zG]
  refine n_val (r_eqlF rfl rfl (by omega)) (n_val (r_move) (n_want rfl (n_val (r_move) (n_want rfl ?_))))
  simp only [ev,zD,zE,zF,zG]
  refine mcall m rfl rfl (rCheck_c _ ((m.o 0 rfl).tris hI) (by omega)) ?_
  clear m; rintro v u m rfl
  refine n_want rfl (n_val (r_neq rfl rfl) (n_val (r_pickF rfl) (n_nil (k5 _ _ ?_))))
  simp only [ev,zD,zE,zF,zG]
  refine c_if rfl (fun hc1=>?_) (fun hc1=>?_)
  ·
   refine c_seq fun K7 k7=>wp_region_lit (n_val (r_move) (n_val (r_assign) (n_nil (k7 _ _ ?_))))
   refine wp_ret ?_
   simp only [ev,zD,zE,zF,zG]
   try simp only [Exit.inBlock,Exit.then,if_true]
   refine fin1 rfl rfl ?_
   try simp only [zD,zE]
   exact ⟨_,rfl,m.ext,rfl⟩
  ·
   refine wp_skip (k4 _ _ ?_)
   refine c_seq fun K8 k8=>wp_region_lit (n_val (r_fieldAddr (c:=0) Tryz.underlying28 rfl cells_3 rfl rfl) ?_)
   simp only [ev,zD,zE,zF,zG]
   refine n_load rfl ((m.b 1 rfl).lies1 agg_3 rfl) ?_
   simp only [ev,zD,zE,zF,zG]
   refine n_val (r_rem rfl rfl (by omega) rfl) (n_val (r_fieldAddr (c:=0) Tryz.underlying28 rfl cells_3 rfl rfl) ?_)
   simp only [ev,zD,zE,zF,zG]
   refine n_load rfl ((m.b 1 rfl).lies1 agg_3 rfl) ?_
   simp only [ev,zD,zE,zF,zG]
   refine n_val (r_rem rfl rfl (by omega) rfl) (n_val (r_fieldAddr (c:=0) Tryz.underlying28 rfl cells_3 rfl rfl) ?_)
   simp only [ev,zD,zE,zF,zG]
   refine n_load rfl ((m.b 1 rfl).lies1 agg_3 rfl) ?_
   simp only [ev,zD,zE,zF,zG]
   refine n_val (r_rem rfl rfl (by omega) rfl) (n_val (r_build_28_0_1_2 rfl rfl rfl) ?_)
   simp only [ev,zD,zE,zF,zG]
   refine mstoreA m 1 rfl rfl rfl cells_28 (leT rfl) rfl ?_
   clear m; intro u m; simp only [over,zH,zI,zJ,zK,zL,zM,zN,zO,zP,zF,zG,Nat.reduceAdd] at m
   refine n_nil (k8 _ _ ?_)
   refine c_seq fun K9 k9=>wp_region_lit (n_val (r_move) ?_)
   simp only [ev,zD,zE,zF,zG]
   refine n_load rfl ((m.b 1 rfl).full agg_28 cells_28) ?_
   simp only [ev,zD,zE,zF,zG]
   refine n_call rfl rfl (Moved_c (v:=movV v) _ ((m.o 0 rfl).tris hI) (fun t ht=>smT_sh v (voxT_sm t ht) (by decide)) (by omega)) ?_
   rintro v u e ⟨A7,cap7,n7,hn7,rfl,hN⟩; replace m:=m.newO e hN; clear e hN
   rw [List.length_map] at hn7
   subst hn7
   refine n_val (r_assign) (n_nil (k9 _ _ ?_))
   refine c_seq fun K10 k10=>wp_region_lit (n_val (r_move) ?_)
   simp only [ev,zD,zE,zF,zG]
   refine mcall m rfl rfl (Centre_c _ ((m.o 1 rfl).tris hI) (by omega)) ?_
   clear m; rintro v u m rfl
   simp only [ev,zD,zE,zF,zG]
   rw [decide_eq_true (show sumT det (voxT q) ≠ 0 from hne)]
   refine n_val (r_move) (n_val (r_extract rfl rfl) (n_val (r_extract rfl rfl) ?_))
   simp only [ev,zD,zE,zF,zG]
   refine malloc m zero_49 rfl ?_
   clear m; intro g2 u m
   simp only [ev,zD,zE,zF,zG]
   refine mstoreA m 0 rfl rfl rfl cells_49 (leT rfl) rfl ?_
   clear m; intro u m; simp only [over,zH,zI,zJ,zK,zL,zM,zN,zO,zP,zF,zG,Nat.reduceAdd] at m
   refine n_val (r_assign) (n_nil (k10 _ _ ?_))
   refine c_seq fun K11 k11=>wp_region_lit (n_val (r_move) ?_)
   simp only [ev,zD,zE,zF,zG]
   refine mcall m rfl rfl (Centre_c _ ((m.o 1 rfl).tris hIm) (by omega)) ?_
   clear m; rintro v u m rfl
   simp only [ev,zD,zE,zF,zG]
   rw [hdm,mov_x,mov_y,mov_z,cq_mov hne,cq_mov hne,cq_mov hne,decide_eq_true (show sumT det (voxT q) ≠ 0 from hne)]
   refine n_val (r_move) (n_val (r_extract rfl rfl) (n_val (r_extract rfl rfl) ?_))
   simp only [ev,zD,zE,zF,zG]
   refine malloc m zero_49 rfl ?_
   clear m; intro g3 u m
   simp only [ev,zD,zE,zF,zG]
   refine mstoreA m 0 rfl rfl rfl cells_49 (leT rfl) rfl ?_
   clear m; intro u m; simp only [over,zH,zI,zJ,zK,zL,zM,zN,zO,zP,zF,zG,Nat.reduceAdd] at m
   refine n_val (r_assign) (n_nil (k11 _ _ ?_))
   refine c_seq fun K12 k12=>wp_region_lit (n_val (r_fieldAddr (c:=0) Tryz.underlying28 rfl cells_3 rfl rfl) ?_)
   simp only [ev,zD,zE,zF,zG]
   refine n_load rfl ((m.b 4 rfl).lies1 agg_3 rfl) ?_
   simp only [ev,zD,zE,zF,zG]
   refine n_val (r_fieldAddr (c:=0) Tryz.underlying28 rfl cells_3 rfl rfl) ?_
   simp only [ev,zD,zE,zF,zG]
   refine n_load rfl ((m.b 4 rfl).lies1 agg_3 rfl) ?_
   simp only [ev,zD,zE,zF,zG]
   refine n_val (r_fieldAddr (c:=0) Tryz.underlying28 rfl cells_3 rfl rfl) ?_
   simp only [ev,zD,zE,zF,zG]
   refine n_load rfl ((m.b 4 rfl).lies1 agg_3 rfl) ?_
   simp only [ev,zD,zE,zF,zG]
   refine n_val (r_build_23_0_1_2 rfl rfl rfl) ?_
   simp only [ev,zD,zE,zF,zG]
   refine malloc m zero_23 rfl ?_
   clear m; intro g4 u m
   simp only [ev,zD,zE,zF,zG]
   refine mstoreA m 0 rfl rfl rfl cells_23 (leT rfl) rfl ?_
   clear m; intro u m; simp only [over,zH,zI,zJ,zK,zL,zM,zN,zO,zP,zF,zG,Nat.reduceAdd] at m
   refine n_nil (k12 _ _ ?_)
   refine c_seq fun K13 k13=>c_seq fun K14 k14=>wp_region_lit (n_val (r_assign) (n_nil (k14 _ _ ?_)))
   refine wp_block (wp_loop_rounds 4 (rounds_step (c_seq fun K15 k15=>c_seq fun K16 k16=>wp_region_lit (n_val (r_move) (n_val (r_lssT (m:=0) (n:=3) rfl rfl (by decide)) (n_nil (k16 _ _ ?_)))))))
   refine c_yes rfl (wp_skip (k15 _ _ ?_))
   refine c_seq fun K17 k17=>wp_block (c_seq fun K18 k18=>?_)
   simp only [ev,zD,zE,zF,zG]
   refine mq m follows_mixed (by kernel_rfl) (q_val (r_move) (q_val (r_indexAddrA Tryz.underlying49 cells_34 rfl rfl (by decide) (by decide) rfl) ?_))
   simp only [ev,zD,zE,zF,zG]
   refine ql rfl (fun u m=>((m.b 2 rfl).lies agg_34 cells_34 rfl rfl)) ?_
   simp only [ev,zD,zE,zF,zG,zH,zI,zJ,zK,Nat.zero_add,Nat.reduceAdd,Nat.reduceMul,Int.reduceToNat]
   refine q_val (r_move) (q_val (r_indexAddrA Tryz.underlying23 cells_3 rfl rfl (by decide) (by decide) rfl) ?_)
   simp only [ev,zD,zE,zF,zG]
   refine ql rfl (fun u m=>((m.b 0 rfl).lies1 agg_3 rfl)) ?_
   simp only [ev,zD,zE,zF,zG]
   refine qcP rfl rfl (lfrac_c (n:=(movV v).x) (d:=1)) ?_
   simp only [ev,zD,zE,zF,zG]
   refine qcP rfl rfl (AddFrac_c (p:=cq (sumT (mom P3.x) (voxT q)) (sumT det (voxT q))) (q:=(((movV v).x : Int) : Rat)) (cq_bq hbx hbd) (bq_i Iw.h)) (q_val (r_move) (q_val (r_indexAddrA Tryz.underlying49 cells_34 rfl rfl (by decide) (by decide) rfl) ?_))
   simp only [ev,zD,zE,zF,zG]
   refine ql rfl (fun u m=>((m.b 1 rfl).lies agg_34 cells_34 rfl rfl)) ?_
   simp only [ev,zD,zE,zF,zG,zH,zI,zJ,zK,Nat.zero_add,Nat.reduceAdd,Nat.reduceMul,Int.reduceToNat]
   refine q_val (r_as (eq_neq_34 rfl rfl) (bool_as (decide_eq_false (fun h=>h ⟨rfl,rfl,rfl,rfl⟩)))) (q_nil ?_)
   clear m; intro u m
   refine k18 _ _ ?_
   refine c_no rfl (wp_skip (k17 _ _ ?_))
   refine wp_region_lit (n_val (r_move) (n_val (r_add (m:=0) (n:=1) (r:=1) rfl rfl (by decide)) (n_val (r_assign) ?_)))
   simp only [ev,zD,zE,zF,zG]
   refine n_nil (then_rounds (c_seq fun K19 k19=>c_seq fun K20 k20=>wp_region_lit (n_val (r_move) (n_val (r_lssT (m:=1) (n:=3) rfl rfl (by decide)) (n_nil (k20 _ _ ?_))))))
   refine c_yes rfl (wp_skip (k19 _ _ ?_))
   refine c_seq fun K21 k21=>wp_block (c_seq fun K22 k22=>?_)
   simp only [ev,zD,zE,zF,zG]
   refine mq m follows_mixed (by kernel_rfl) (q_val (r_move) (q_val (r_indexAddrA Tryz.underlying49 cells_34 rfl rfl (by decide) (by decide) rfl) ?_))
   simp only [ev,zD,zE,zF,zG]
   refine ql rfl (fun u m=>((m.b 2 rfl).lies agg_34 cells_34 rfl rfl)) ?_
   simp only [ev,zD,zE,zF,zG,zH,zI,zJ,zK,Nat.zero_add,Nat.reduceAdd,Nat.reduceMul,Int.reduceToNat]
   refine q_val (r_move) (q_val (r_indexAddrA Tryz.underlying23 cells_3 rfl rfl (by decide) (by decide) rfl) ?_)
   simp only [ev,zD,zE,zF,zG]
   refine ql rfl (fun u m=>((m.b 0 rfl).lies1 agg_3 rfl)) ?_
   simp only [ev,zD,zE,zF,zG]
   refine qcP rfl rfl (lfrac_c (n:=(movV v).y) (d:=1)) ?_
   simp only [ev,zD,zE,zF,zG]
   refine qcP rfl rfl (AddFrac_c (p:=cq (sumT (mom P3.y) (voxT q)) (sumT det (voxT q))) (q:=(((movV v).y : Int) : Rat)) (cq_bq hby hbd) (bq_i Iw.h)) (q_val (r_move) (q_val (r_indexAddrA Tryz.underlying49 cells_34 rfl rfl (by decide) (by decide) rfl) ?_))
   simp only [ev,zD,zE,zF,zG]
   refine ql rfl (fun u m=>((m.b 1 rfl).lies agg_34 cells_34 rfl rfl)) ?_
   simp only [ev,zD,zE,zF,zG,zH,zI,zJ,zK,Nat.zero_add,Nat.reduceAdd,Nat.reduceMul,Int.reduceToNat]
   refine q_val (r_as (eq_neq_34 rfl rfl) (bool_as (decide_eq_false (fun h=>h ⟨rfl,rfl,rfl,rfl⟩)))) (q_nil ?_)
   clear m; intro u m
   refine k22 _ _ ?_
   refine c_no rfl (wp_skip (k21 _ _ ?_))
   refine wp_region_lit (n_val (r_move) (n_val (r_add (m:=1) (n:=1) (r:=2) rfl rfl (by decide)) (n_val (r_assign) ?_)))
   simp only [ev,zD,zE,zF,zG]
   refine n_nil (then_rounds (c_seq fun K23 k23=>c_seq fun K24 k24=>wp_region_lit (n_val (r_move) (n_val (r_lssT (m:=2) (n:=3) rfl rfl (by decide)) (n_nil (k24 _ _ ?_))))))
   refine c_yes rfl (wp_skip (k23 _ _ ?_))
   refine c_seq fun K25 k25=>wp_block (c_seq fun K26 k26=>?_)
   simp only [ev,zD,zE,zF,zG]
   refine mq m follows_mixed (by kernel_rfl) (q_val (r_move) (q_val (r_indexAddrA Tryz.underlying49 cells_34 rfl rfl (by decide) (by decide) rfl) ?_))
   simp only [ev,zD,zE,zF,zG]
   refine ql rfl (fun u m=>((m.b 2 rfl).lies agg_34 cells_34 rfl rfl)) ?_
   simp only [ev,zD,zE,zF,zG,zH,zI,zJ,zK,Nat.zero_add,Nat.reduceAdd,Nat.reduceMul,Int.reduceToNat]
   refine q_val (r_move) (q_val (r_indexAddrA Tryz.underlying23 cells_3 rfl rfl (by decide) (by decide) rfl) ?_)
   simp only [ev,zD,zE,zF,zG]
   refine ql rfl (fun u m=>((m.b 0 rfl).lies1 agg_3 rfl)) ?_
   simp only [ev,zD,zE,zF,zG]
   refine qcP rfl rfl (lfrac_c (n:=(movV v).z) (d:=1)) ?_
   simp only [ev,zD,zE,zF,zG]
   refine qcP rfl rfl (AddFrac_c (p:=cq (sumT (mom P3.z) (voxT q)) (sumT det (voxT q))) (q:=(((movV v).z : Int) : Rat)) (cq_bq hbz hbd) (bq_i Iw.h)) (q_val (r_move) (q_val (r_indexAddrA Tryz.underlying49 cells_34 rfl rfl (by decide) (by decide) rfl) ?_))
   simp only [ev,zD,zE,zF,zG]
   refine ql rfl (fun u m=>((m.b 1 rfl).lies agg_34 cells_34 rfl rfl)) ?_
   simp only [ev,zD,zE,zF,zG,zH,zI,zJ,zK,Nat.zero_add,Nat.reduceAdd,Nat.reduceMul,Int.reduceToNat]
   refine q_val (r_as (eq_neq_34 rfl rfl) (bool_as (decide_eq_false (fun h=>h ⟨rfl,rfl,rfl,rfl⟩)))) (q_nil ?_)
   clear m; intro u m
   refine k26 _ _ ?_
   refine c_no rfl (wp_skip (k25 _ _ ?_))
   refine wp_region_lit (n_val (r_move) (n_val (r_add (m:=2) (n:=1) (r:=3) rfl rfl (by decide)) (n_val (r_assign) ?_)))
   simp only [ev,zD,zE,zF,zG]
   refine n_nil (then_rounds (c_seq fun K27 k27=>c_seq fun K28 k28=>wp_region_lit (n_val (r_move) (n_val (r_lssF (m:=3) (n:=3) rfl rfl (by decide)) (n_nil (k28 _ _ ?_))))))
   refine c_no rfl (wp_exit (k13 _ _ ?_))
   refine c_seq fun K29 k29=>wp_region_lit (n_val (r_move) (n_val (r_move) ?_))
   simp only [ev,zD,zE,zF,zG]
   refine n_want rfl (n_val (r_move) (n_val (r_pickT rfl) (n_val (r_move) (n_want rfl (n_val (r_move) ?_)))))
   simp only [ev,zD,zE,zF,zG]
   refine n_val (r_pickT rfl) (n_val (r_move) (n_want rfl (n_val (r_move) (n_want rfl ?_))))
   simp only [ev,zD,zE,zF,zG]
   refine mcall m rfl rfl (Volume_c _ ((m.o 4 rfl).tris hI) (by omega)) ?_
   clear m; rintro v u m rfl
   refine n_want rfl (n_val (r_move) (n_want rfl ?_))
   simp only [ev,zD,zE,zF,zG]
   refine mcall m rfl rfl (Volume_c _ ((m.o 3 rfl).tris hIm) (by omega)) ?_
   clear m; rintro v u m rfl
   simp only [ev,zD,zE,zF,zG]
   rw [hdm]
   refine n_want rfl (n_val (r_as (eq_eql_34 rfl rfl) (bool_as (decide_eq_true ⟨rfl,rfl,rfl,rfl⟩))) (n_val (r_pickT rfl) (n_val (r_move) (n_want rfl (n_val (r_move) ?_)))))
   simp only [ev,zD,zE,zF,zG]
   refine n_want rfl (mcall m rfl rfl (Volume_c _ ((m.o 4 rfl).tris hI) (by omega)) ?_)
   clear m; rintro v u m rfl
   refine n_want rfl (n_val (r_field_34_0 rfl rfl) (n_want rfl ?_))
   simp only [ev,zD,zE,zF,zG]
   refine mcallP m rfl rfl (Sign_c (a:=(Rat.divInt (sumT det (voxT q)) 6).num) ((Bq.mk' hbd (show (6 : Int).natAbs < 2 ^ 3 by decide) (by decide)).n.mono (by decide))) ?_
   clear m; intro u m
   refine n_want rfl (n_val (r_gtrT rfl rfl (isign_gt.2 (vol_pos hpos))) (n_val (r_pickT rfl) (n_val (r_assign) ?_)))
   simp only [ev,zD,zE,zF,zG]
   refine n_nil (k29 _ _ ?_)
   refine wp_ret ?_
   try simp only [Exit.inBlock,Exit.then,if_true]
   refine fin1 rfl rfl ?_
   try simp only [zD,zE]
   exact ⟨_,rfl,m.ext,rfl⟩
end Go.Proofs.YtmcgcnpgkkfkoaaGreatDoor
namespace Go.Lith
open Go.RowKit Go.ChangeShapes
variable {H : Type} {enc : TypeId × Value → H} {P : Program}
theorem trodAll_ext (hl : laidOutB P = true) {W W' : World} (hb : Ext W W') {sp : Nat → Bool} :
    ∀ {ts : List TypeId} {vs : List Value} {ds : List (DataW H)} {ps : List MemPlace},(ts.all fun t=>P.readableRec t && decide (t < P.types.size)) = true → DataW.TrodAll enc P W 0 (fun _=>true) true ts vs ds ps → (∀ p ∈ ps,sp p.block = true) → DataW.TrodAll enc P W' 0 sp true ts vs ds ps
  | [],[],[],_,_,h,_=>h
  | [],[],_ :: _,_,_,h,_=>h.elim
  | [],_ :: _,_,_,_,h,_=>h.elim
  | _ :: _,[],_,_,_,h,_=>h.elim
  | _ :: _,_ :: _,[],_,_,h,_=>h.elim
  | t :: ts,v :: vs,d :: ds,ps,hv,h,hs=>by
    obtain ⟨p,q,⟨n,h1⟩,h2,e⟩:=h
    subst e
    simp only [List.all_cons,Bool.and_eq_true,decide_eq_true_eq] at hv
    have hlt:=DataW.trod_lt n _ _ _ h1
    exact ⟨p,q,⟨n,DataW.trod_stays (kids_book hl hv.1.1) (book_sized hv.1.1) (fun h=>by cases h) ⟨hv.1.2,book_self t⟩ h1 (fun x hx=>Below.same hb (hlt x hx)) (fun x hx=>hs x (by simp [hx]))⟩,
      trodAll_ext hl hb (by simpa using hv.2) h2 (fun x hx=>hs x (by simp [hx])),rfl⟩
theorem post_of_ext {f : Func} {s : ChangeSpec} {apart fresh handsOn again : Bool} {W W' : World} {args : Array Value} {t : TypeId} {ds gs : List (DataW H)} {before : List MemPlace}
    (hl : laidOutB P = true) (hps : (f.params.toList.all fun t=>P.readableRec t && decide (t < P.types.size)) = true) (hv : s.vars = []) (hr : f.resultTypes = #[t]) (hu : P.underlying t = some .bool)
    (hW : DataW.Whole enc P f.params.toList s.vars apart W args.toList ds gs before) (hfn : (s.fn H (ds ++ gs)).results = [.lit (.bool true)] ∧ (s.fn H (ds ++ gs)).args = ds ∧ (s.fn H (ds ++ gs)).vars = []) (hb : Ext W W') :
    s.post enc P f apart fresh handsOn again W args (.bool true) W':=by
  have hW0:=hW
  obtain ⟨p,q,hA,hV,rfl,hz,hn⟩:=hW0
  rw [hv] at hV
  obtain ⟨rfl,rfl⟩:=trodVars_none hV
  have hargs : ∀ sp : Nat → Bool,(∀ x ∈ p ++ [],sp x.block = true) → DataW.TrodAll enc P W' 0 sp true f.params.toList args.toList (s.fn H (ds ++ [])).args p:=fun sp hsp=>by
    rw [hfn.2.1]
    exact trodAll_ext hl hb hps hA (fun x hx=>hsp x (by simp [hx]))
  have hvars : ∀ sp : Nat → Bool,DataW.TrodVars enc P W' sp s.vars (s.fn H (ds ++ [])).vars []:=fun sp=>by
    rw [hv,hfn.2.2]
    exact rfl
  have hres : ∀ (b : Nat) (sp : Nat → Bool) (hd : Bool),DataW.TrodAll enc P W' b sp hd f.resultTypes.toList ((Value.bool true).resultList f.resultTypes.size) (s.fn H (ds ++ [])).results []:=fun b sp hd=>by
    rw [hr,hfn.1]
    exact trodAll_cons_mk (shut_bool hu true) trodAll_mk0
  have hok : ∀ (j : Nat) (t : TypeId) (r : Value),f.resultTypes[j]? = some t → ((Value.bool true).resultList f.resultTypes.size)[j]? = some r → Value.okWide P W' .any 0 t r:=ok_one hr rfl (okWide_bool_mk hu _)
  have hlt : ∀ x ∈ p ++ [],x.block < W.heap.size:=hW.lt
  have hold : ∀ x ∈ p ++ [],(fun b=>decide (b < W.heap.size)) x.block = true:=fun x hx=>by simpa using hlt x hx
  refine ⟨ds,[],p ++ [],[],p,[],hW,hres _ _ _,hargs _ hold,hvars _,Below.frame hb _,fun _=>?_⟩
  refine ⟨hok,_,_,([] ++ p) ++ [],⟨[] ++ p,[],trodAll_append (hargs _ (fun _ _=>rfl)) (hres _ _ _),hvars _,rfl,?_,?_⟩,?_⟩
  · intro b off hp
    have h1 : MemPlace.cell b off ∈ p ++ []:=by simpa using hp
    rw [Below.frozen hb (p:=⟨b,off,none⟩) (hlt _ h1)]
    exact hz b off h1
  · intro ha
    simpa using hn ha
  · intro x hp _
    simpa using hp
end Go.Lith
