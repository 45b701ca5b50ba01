/-
  Texts of one claim, laid together: Map2, Sort, Sets, Box, Areas, Scale, Cmp, SortPt, Maps1, Maps2, Frac2, Law3, Join.
-/
import Derived.Shelf.SlSortCmp.WholeK
import Derived.Shelf.SlSortCmp.NoneTotal
import Derived.Shelf.SlLaysF0
import Derived.Test.YtmcgcnpgkkfkoaaGreatDoorProg
import Derived.OpenVars
import Derived.OpenShut
import Derived.WalkKit
import Derived.ProofKit
import Derived.Test.YtmcgcnpgkkfkoaaGreatDoorS5
set_option maxHeartbeats 8000000
set_option linter.unusedSimpArgs false
set_option linter.unusedVariables false
set_option linter.unusedSectionVars false
namespace Go.Lith
open Go.RowKit Go.ChangeMaps Go.MapKept
section
variable {K V : Type} [DecidableEq K] {P : Program} {T M E ty : TypeId} {ek : K → Value} {en : V → Value} {w w0 : World} {g c : Nat} {es : Array MapEntry} {D : List (K × V)} {is : List It}
variable {ds : List Deferred} {l : List Value} {x y z : Operand} {ops : Array Oper} {Q : Exit → Act → World → Prop} {rest : List Oper} {d : Nat} {pos : String} {after : Array Edge}
theorem r_lookup {v0 : V} {k : K} (hu : P.underlying M = some (.map T E)) (hz : Zero P E (en v0)) (kt : KeyT P T ek) (hx : ev l x = .map (some g)) (hy : ev l y = ek k) (hM : MapB w g es c) (hD : MapOf ek en D es c) : RunW P l (.lookup M x y false) ty (en ((mget D k).getD v0)) w:=fun o ho _=>by
  have:=run_lookupM hu kt hM hD hz k false
  simp only [Bool.false_eq_true,if_false] at this
  simp [execOp,ho,ev_eq,hx,hy,this]
theorem mupdate {v : V} {a : K} (m : Mem w0 w is) (k : Nat) (hk : is[k]? = some (mI g es c)) (hu : P.underlying M = some (.map T E)) (kt : KeyT P T ek) (hx : ev l x = .map (some g)) (hy : ev l y = ek a) (hz : ev l z = en v) (hD : MapOf ek en D es c)
    (h : ∀ es' c' u,Mem w0 u (is.set k (mI g es' c')) → MapOf ek en (mput D a v) es' c' → wpList P ops Q rest (Fr l ds) u) : wpList P ops Q (Oper.mk none (.mapUpdate M x y z) ty pos after none :: rest) (Fr l ds) w:=by
  have hM:=m.p k hk
  obtain ⟨es',c',hr,hD'⟩:=run_updateM hu kt hM hD a v
  have hC:=chg_setBlock (w:=w) (g:=g) (.map es' c')
  refine n_skipW (w':=setBlock w g (.map es' c')) (fun o ho=>by simp [execOp,ho,ev_eq,hx,hy,hz,hr]) (h es' c' _ ?_ hD')
  exact m.put k hk hC.os hC.tape hC.output (by rw [hC.size]; exact Nat.le_refl _) (fun b _ hne=>hC.block b fun e=>hne (by rw [e]; rfl)) (heap_setBlock hM) (.inl rfl)
theorem mnext {r : Nat} {seen : Array Nat} {dn rs : List (K × V)} (m : Mem w0 w is) (k : Nat) (hk : is[k]? = some (iI r g c seen)) (hx : ev l x = .pointer (some ⟨r,0,none⟩)) (hM : MapB w g es c) (hD : MapOf ek en D es c) (hT : Trav ek en D es seen dn rs)
    (h : ∀ b kv vv seen' u,Mem w0 u (is.set k (iI r g c seen')) → Nxt ek en D es dn rs b kv vv seen' → wpList P ops Q rest (Fr (l.set d (nextV b kv vv)) ds) u) :
    wpList P ops Q (Oper.mk (some d) (.next x false) ty pos after none :: rest) (Fr l ds) w:=by
  have hI:=m.r k hk
  obtain ⟨b,kv,vv,seen',w1,hw1,hr,hN⟩:=run_nextM (P:=P) (ty:=ty) (s:=0) hI hM hD hT
  refine n_newW (w':=setBlock w1 r (.mapIter (some g) c seen' c)) (v:=nextV b kv vv) (fun o ho hty=>by simp [execOp,ho,ev_eq,hx,hty,hr]) (h b kv vv seen' _ ?_ hN)
  have e1 : w1.heap = w.heap ∧ w1.os = w.os ∧ w1.tape = w.tape ∧ w1.output = w.output:=by rcases hw1 with rfl | rfl <;> exact ⟨rfl,rfl,rfl,rfl⟩
  refine m.put k hk e1.2.1 e1.2.2.1 e1.2.2.2 (by simp [setBlock,e1.1]) (fun b' _ hne=>?_) ?_ (.inl rfl)
  · have : b' ≠ r:=fun e=>hne (by rw [e]; rfl)
    simp only [setBlock,e1.1]
    exact Array.getElem?_setIfInBounds_ne (Ne.symm this)
  · exact heap_setBlock (w:=w1) (o:=.mapIter (some g) c seen c) (by rw [e1.1]; exact hI)
theorem r_nextB {b : Bool} {kv vv : Value} (hx : ev l x = nextV b kv vv) : Run P l (.extract x 0) ty (.bool b):=fun w o ho _=>by
  cases b <;> simp [execOp,ho,ev_eq,hx,nextV,Instr.extract]
theorem r_entry {r : Nat} {seen : Array Nat} {dn rs : List (K × V)} {k : K} {v : V} (hx : ev l x = .pointer (some ⟨r,0,none⟩)) (hI : IterB w r g c seen c) (hM : MapB w g es c) (hD : MapOf ek en D es c) (hT : Trav ek en D es seen (dn ++ [(k,v)]) rs) :
    RunW P l (.entry x) ty (.tuple #[ek k,en v]) w:=fun o ho _=>by
  have:=run_entryM (P:=P) hI hM hD hT
  simp [execOp,ho,ev_eq,hx,this]
theorem mcallF {f : FuncId} {fo : Operand} {xs : Array Operand} {args : List Value} {first cap : Array Value} {a0 : Array TypeId} {R : Value → It → Prop} (m : Mem w0 w is) (k : Nat) (hE : Enters P f) (hf : ev l fo = .func (.func f) first cap) (hxs : first.toList ++ xs.toList.map (ev l) ++ cap.toList = args)
    (hc : Mem w0 w is → Calls P f args.toArray w fun e w'=>∃ v i,e = .returned v ∧ Mem w0 w' (is.set k i) ∧ R v i) (h : ∀ v i u,Mem w0 u (is.set k i) → R v i → wpList P ops Q rest (Fr (l.set d v) ds) u) :
    wpList P ops Q (Oper.mk (some d) (.call { callee:=.value fo,args:=xs,argTypes:=a0 }) ty pos after none :: rest) (Fr l ds) w:=by
  refine wpList_plain rfl fun K hK=>?_
  unfold Oper.wp
  rw [fr_eval,run_call hE hf hxs _ rfl]
  refine (hc m).mono ?_
  rintro e w' ⟨v,i,rfl,hM,hR⟩
  show K ((Fr l ds).put (some d) v) w'
  rw [fr_put]
  exact hK _ _ (h v i w' hM hR)
end
theorem c_ifB {P : Program} {Q : Exit → Act → World → Prop} {l : List Value} {ds : List Deferred} {c1 c2 : Code} {w : World} {x : Operand} {b : Bool} (hx : ev l x = .bool b) (ht : b = true → c1.wp P Q (Fr l ds) w) (hf : b = false → c2.wp P Q (Fr l ds) w) : (Code.cond x c1 c2).wp P Q (Fr l ds) w:=c_cond hx ht hf
theorem set_same {α : Type} {is : List α} {k : Nat} {i : α} (h : is[k]? = some i) : is.set k i = is:=by
  apply List.ext_getElem?
  intro j
  rw [List.getElem?_set]
  split
  · rename_i e; subst e
    have:=(List.getElem?_eq_some_iff.1 h).1
    rw [if_pos this,h]
  · rfl
theorem mput_same {K V : Type} [DecidableEq K] : ∀ {D : List (K × V)} {k : K} {v : V},mget D k = some v → mput D k v = D
  | [],_,_,h=>by cases h
  | x :: D,k,v,h=>by
    unfold mget at h
    unfold mput
    split at h
    · rename_i e; cases h; subst e; rw [if_pos rfl]
    · rename_i e; rw [if_neg e,mput_same h]
/-! ### Keys -/
def CkR (P : Program) (e : Bool) (d : Nat) (T : TypeId) (x : Value) : Prop:=∀ w,(Instr.checkKey e d T x).run P w = .ok () w
section
variable {P : Program} {e : Bool} {d : Nat} {T E : TypeId}
theorem run_forIn_yield {β : Type} {w : World} (g : β → PUnit → Sem (ForInStep PUnit)) : ∀ (L : List β),(∀ x ∈ L,(g x ⟨⟩).run P w = .ok (.yield ⟨⟩) w) → (forIn L PUnit.unit g : Sem PUnit).run P w = .ok ⟨⟩ w
  | [],_=>by simp
  | x :: L,h=>by
    simp only [List.forIn_cons,Sem.run_bind,h x (List.mem_cons_self ..),Result.andThen_ok]
    exact run_forIn_yield g L fun y hy=>h y (List.mem_cons_of_mem _ hy)
theorem CkR.int {k k' : IntKind} {n : Int} (hu : P.underlying T = some (.int k')) : CkR P e (d + 1) T (.int k n):=fun w=>by
  unfold Instr.checkKey
  simp [run_underlying hu]
theorem CkR.struct {fs : Array Field} {cs : Array Value} (hu : P.underlying T = some (.struct fs)) (h : ∀ f ∈ fs.toList,∃ v,(∀ w,(part f.type cs f.offset).run P w = .ok v w) ∧ CkR P e d f.type v) : CkR P e (d + 1) T (.agg cs):=fun w=>by
  unfold Instr.checkKey
  simp only [Sem.run_bind,run_underlying hu,Result.andThen_ok]
  rw [← Array.forIn_toList]
  refine (congrArg (fun r=>Result.andThen r _) (run_forIn_yield _ fs.toList fun f hf=>?_)).trans (by rfl)
  obtain ⟨v,h1,h2⟩:=h f hf
  by_cases hn : f.name = "_"
  · simp [hn]
  · simp [hn,h1 w,h2 w]
theorem CkR.array {n c : Nat} {cs : Array Value} (hu : P.underlying T = some (.array n E)) (hc : Cells P E c) (h : ∀ i,i < n → ∃ v,(∀ w,(part E cs (i * c)).run P w = .ok v w) ∧ CkR P e d E v) : CkR P e (d + 1) T (.agg cs):=fun w=>by
  unfold Instr.checkKey
  simp only [Sem.run_bind,run_underlying hu,Result.andThen_ok]
  simp only [Std.Legacy.Range.forIn_eq_forIn_range',Std.Legacy.Range.size,Nat.sub_zero,Nat.add_one_sub_one,Nat.div_one]
  refine (congrArg (fun r=>Result.andThen r _) (run_forIn_yield _ (List.range' 0 n) fun i hi=>?_)).trans (by rfl)
  obtain ⟨v,h1,h2⟩:=h i (by simpa using hi)
  simp [size_run hc,h1 w,h2 w]
theorem KeyT.agg {K : Type} [DecidableEq K] {ek : K → Value} {cs : K → Array Value} (ha : ∀ k,ek k = .agg (cs k)) {t : TypeDesc} (ht : P.underlying T = some t) (hc : ∀ e k,CkR P e 10000 T (ek k)) (he : ∀ a b,EqR P 10000 T (ek a) (ek b) (a = b)) (hb : ∀ a,Instr.sameBits 10000 (ek a) (ek a) = true) : KeyT P T ek where
  chk e k w:=hc e k w
  now:=⟨t,ht,fun a b=>.inl (by rw [ha,ha]; cases t <;> rfl)⟩
  eq a b w:=eql_run (he a b) w
  bits:=hb
end
end Go.Lith
namespace Go.Lith
open Go.RowKit Go.Proofs Go.Sort Go.Shelf
theorem fm_get {α : Type} {enc : α → List Value} {k : Nat} (hk : ∀ x,(enc x).length = k) (h0 : 0 < k) : ∀ (L : List α) (t : Nat),(L.flatMap enc)[t]? = (L[t / k]?).bind fun x=>(enc x)[t % k]?
  | [],t=>by simp
  | x :: L,t=>by
    rw [List.flatMap_cons,List.getElem?_append]
    by_cases h : t < k
    · rw [if_pos (by rw [hk]; exact h),Nat.div_eq_of_lt h,Nat.mod_eq_of_lt h]
      rfl
    · rw [if_neg (by rw [hk]; exact h),hk,fm_get hk h0 L (t - k)]
      have e1 : t / k = (t - k) / k + 1:=by rw [Nat.div_eq t k,if_pos ⟨h0,Nat.le_of_not_lt h⟩]
      have e2 : t % k = (t - k) % k:=Nat.mod_eq_sub_mod (Nat.le_of_not_lt h)
      rw [e1,e2,List.getElem?_cons_succ]
theorem flatK_list {α : Type} [Inhabited α] {enc : α → List Value} {k : Nat} (hk : ∀ x,(enc x).length = k) (h0 : 0 < k) (L : List α) : (flatK enc k L.toArray).toList = L.flatMap enc:=by
  have hlen : (L.flatMap enc).length = L.length * k:=by
    induction L with
    | nil=>simp
    | cons x L ih=>rw [List.flatMap_cons,List.length_append,ih,hk,List.length_cons,Nat.add_mul]; omega
  apply List.ext_getElem?
  intro t
  by_cases ht : t < L.length * k
  · have hd : t / k < L.length:=by
      rw [Nat.div_lt_iff_lt_mul h0]
      exact ht
    have hm : t % k < k:=Nat.mod_lt _ h0
    have h1:=get_flatK enc k L.toArray t (by simpa using ht)
    rw [getElem!_pos _ t (by simpa using ht)] at h1
    rw [fm_get hk h0,List.getElem?_eq_getElem hd,Option.bind_some,Array.getElem?_toList,Array.getElem?_eq_getElem (by simpa using ht),h1,List.getElem?_eq_getElem (show t % k < (enc L[t / k]).length by rw [hk]; exact hm)]
    congr 1
    rw [getElem!_pos L.toArray _ (by simpa using hd),List.getElem_toArray,getElem!_pos _ _ (by rw [hk]; exact hm)]
  · rw [List.getElem?_eq_none (by simpa using Nat.le_of_not_lt ht),List.getElem?_eq_none (by rw [hlen]; exact Nat.le_of_not_lt ht)]
section
variable {α : Type} [Inhabited α] {P : Program} {ρ : Ren} {enc : α → List Value} {c : Nat} {E : TypeId} {w w0 : World} {is : List It} {A : Option Addr} {n cap : Nat}
theorem own_holds {g : Nat} {xs : List α} {cur : Array Value} (hk : ∀ x,(enc x).length = c) (h0 : 0 < c) (hg : w.heap[g]? = some (.cells cur E (0,0))) (h : cur.toList.take (xs.length * c) = xs.flatMap enc) : HoldsK enc c w g 0 xs.toArray:=by
  intro j hj
  have hl:=flatK_list hk h0 xs
  have hj' : j < xs.length * c:=by simpa using hj
  have e : (flatK enc c xs.toArray)[j]? = cur[j]?:=by
    rw [← Array.getElem?_toList,hl,← h,List.getElem?_take,if_pos hj',Array.getElem?_toList]
  rw [Array.getElem?_eq_getElem hj] at e
  refine ⟨?_,?_⟩
  · simp only [World.cell?,hg,Nat.zero_add,Option.isSome_none,Bool.false_eq_true,if_false]
    rw [← e,getElem!_pos _ j hj]
    rfl
  · simp [World.frozen?,hg]
theorem sortWorld_own {g : Nat} {xs ys : List α} {cur : Array Value} {q : Nat} {os : Array Obj} (hk : ∀ x,(enc x).length = c) (h0 : 0 < c) (hg : w.heap[g]? = some (.cells cur E (0,0))) (hl : xs.length * c ≤ cur.size) (hlen : ys.length = xs.length) :
    ∃ cur' : Array Value,(sortWorldK enc c w g 0 q ys.toArray os).heap[g]? = some (.cells cur' E (0,0)) ∧ cur'.size = cur.size ∧ cur'.toList.take (xs.length * c) = ys.flatMap enc:=by
  have hlt : g < w.heap.size:=(Array.getElem?_eq_some_iff.1 hg).1
  refine ⟨putCells id 0 (flatK enc c ys.toArray) cur,?_,by simp [putCells],?_⟩
  · unfold sortWorldK putRowK putRow mapBlock grow
    simp only
    rw [Array.getElem?_append_left (by simpa [ahead] using hlt),Array.getElem?_modify]
    simp [ahead,hg,onCells]
  · have hf:=flatK_list hk h0 ys
    apply List.ext_getElem?
    intro t
    rw [List.getElem?_take,← hf,Array.getElem?_toList,Array.getElem?_toList]
    have hs : (flatK enc c ys.toArray).size = xs.length * c:=by simp [hlen]
    split
    · rename_i ht
      have : t < cur.size:=Nat.lt_of_lt_of_le ht hl
      simp only [putCells,Array.getElem?_mapIdx,Array.getElem?_eq_getElem this,Option.map_some,Nat.zero_le,Nat.zero_add,true_and,Nat.sub_zero,hs,ht,if_true]
      rw [Array.getElem?_eq_getElem (by rw [hs]; exact ht),getElem!_pos _ t (by rw [hs]; exact ht)]
      rfl
    · rename_i ht
      rw [Array.getElem?_eq_none (by rw [hs]; exact Nat.le_of_not_lt ht)]
theorem sort_mem (L : SlLaysF0.n6 P ρ) (aE : ∀ w,(isAgg (ρ.t 24)).run P w = .ok true w) (zE : ∀ w,(Go.sizeOf (ρ.t 24)).run P w = .ok c w) (hk : ∀ x,(enc x).length = c) (h0 : 0 < c) (h1 : ∀ x,∀ v ∈ enc x,v.oneCell' = true)
    (cf : α → α → Int) (hO : SWO (ltOf cf)) {f : FuncId} (hcmp : ∀ x y,GPure P f [.agg (enc x).toArray,.agg (enc y).toArray] (.int .i64 (cf x y))) {xs : List α} (m : Mem w0 w is) (k : Nat) (hi : is[k]? = some (oI E c A n cap (xs.flatMap enc))) (hsz : n < 4611686018427387904) :
    Calls P (ρ.f 6) #[.slice A n cap,.func (.func f) #[] #[]] w fun e w'=>∃ v i,e = .returned v ∧ Mem w0 w' (is.set k i) ∧ (v = .tuple #[] ∧ ∃ ys : List α,i = oI E c A n cap (ys.flatMap enc) ∧ ys.Perm xs ∧ ys.Pairwise fun a b=>ltOf cf b a = false):=by
  have h : w.ownsRow 0 E c (.slice A n cap) n (xs.flatMap enc):=m.get k hi
  have hlen : (xs.flatMap enc).length = xs.length * c:=by
    have:=flatK_list hk h0 xs
    rw [← this]
    simp
  have hn : xs.length = n:=by
    have:=h.1
    rw [hlen] at this
    exact Nat.eq_of_mul_eq_mul_right h0 this
  have hge:=fun b hb=>m.ge _ (List.mem_of_getElem? hi) b hb
  rcases ownsRow_cases h with ⟨rfl,rfl,rfl,hx⟩ | ⟨g,cur,rfl,_,hg,hcap,hmax,hcur,htake⟩
  · refine (AnyF.slices_SortFunc_none L none 0 _ w).mono ?_
    rintro e w' ⟨rfl,rfl⟩
    obtain rfl : xs = []:=List.eq_nil_of_length_eq_zero hn
    refine ⟨_,oI E c none 0 0 [],rfl,?_,rfl,[],rfl,List.Perm.refl _,.nil⟩
    have : is.set k (oI E c none 0 0 []) = is:=by
      apply List.ext_getElem?
      intro j
      rw [List.getElem?_set]
      split
      · rename_i e; subst e
        have:=(List.getElem?_eq_some_iff.1 hi).1
        rw [if_pos this,hi]
        rfl
      · rfl
    rw [this]
    exact m
  · have hlt : g < w.heap.size:=(Array.getElem?_eq_some_iff.1 hg).1
    rw [← hn] at htake
    have hH:=own_holds (xs:=xs) hk h0 hg htake
    have hx:=AnyQ.slices_SortFunc L c aE zE enc hk h1 cf hO f #[] g 0 cap xs.toArray w (fun args w'=>run_callFunc (hcmp default default w').1) (fun mm os dk _ x y=>by
      have:=((hcmp x y (sortWorldK enc c w g 0 mm dk os)).2.mono fun e w' h=>(show e = .returned (.int .i64 (cf x y)) ∧ ∃ q os',w' = grow ((sortWorldK enc c w g 0 mm dk os).drewN q) os' from by obtain ⟨u,rfl,hX,rfl⟩:=h; exact ⟨rfl,hX.grow⟩))
      simpa using this) hH hlt (by simpa [hn] using hsz)
    have es : xs.toArray.size = n:=by simpa using hn
    rw [es] at hx
    refine hx.mono ?_
    rintro e w' ⟨rfl,d',q,os,hp,hs,rfl⟩
    have hd : d'.size = n:=by rw [hp.1]; exact es
    obtain ⟨ys,rfl⟩ : ∃ ys : List α,d' = ys.toArray:=⟨d'.toList,by simp⟩
    have hyl : ys.length = n:=by simpa using hd
    have hcs : xs.length * c ≤ cur.size:=by rw [hn,hcur]; exact Nat.mul_le_mul_right _ hcap
    obtain ⟨cur',e1,e2,e3⟩:=sortWorld_own (q:=q) (os:=os) (ys:=ys) hk h0 hg hcs (by rw [hyl,hn])
    refine ⟨_,oI E c (some ⟨g,0,none⟩) n cap (ys.flatMap enc),rfl,?_,rfl,ys,rfl,?_,?_⟩
    · refine m.put k hi rfl rfl rfl ?_ (fun b hb hne=>?_) ?_ (.inl rfl)
      · simp [sortWorldK,putRowK,putRow,mapBlock,grow,ahead]
      · have hbg : g ≠ b:=fun e=>hne (by rw [e]; rfl)
        unfold sortWorldK putRowK putRow mapBlock grow
        simp only
        rw [Array.getElem?_append_left (by simpa [ahead] using hb),Array.getElem?_modify,if_neg hbg]
        rfl
      · refine ⟨?_,.inr ⟨g,cap,cur',rfl,Nat.zero_le _,e1,hcap,hmax,by rw [e2,hcur],?_⟩⟩
        · have:=flatK_list hk h0 ys
          rw [← this]
          simp [hyl]
        · rw [← hn]; exact e3
    · have:=hp.2.2
      simpa [hyl,hn,List.take_of_length_le (Nat.le_of_eq hyl),List.take_of_length_le (Nat.le_of_eq hn),List.extract_eq_take_drop] using this
    · rw [List.pairwise_iff_getElem]
      intro i j hi' hj' hij
      have:=hs i j (Nat.zero_le _) hij (by rw [← hyl]; exact hj')
      rw [getElem!_pos _ i (by simpa using hi'),getElem!_pos _ j (by simpa using hj')] at this
      simpa using this
end
end Go.Lith
namespace Go.Lith
open Go.RowKit Go.Sort
instance : Inhabited P3:=⟨⟨0,0,0⟩⟩
def ptCells (p : P3) : List Value:=[.int .i64 p.x,.int .i64 p.y,.int .i64 p.z]
theorem ptCells_one (p : P3) : ∀ v ∈ ptCells p,v.oneCell' = true:=fun v h=>by
  simp only [ptCells,List.mem_cons,List.not_mem_nil,or_false] at h
  rcases h with rfl | rfl | rfl <;> rfl
theorem cmpP_neg (p q : P3) : (cmpP p q < 0) ↔ p.Lt q:=by
  unfold cmpP
  split
  · simp [*]
  · split <;> simp [*]
theorem cmpP_swo : SWO (Go.Proofs.ltOf cmpP) where
  irrefl x:=by simp [Go.Proofs.ltOf,cmpP_neg,P3.lt_irrefl]
  trans x y z h1 h2:=by
    simp only [Go.Proofs.ltOf,decide_eq_true_eq,cmpP_neg] at *
    exact P3.lt_trans h1 h2
  ntrans x y z h1 h2:=by
    simp only [Go.Proofs.ltOf,decide_eq_false_iff_not,cmpP_neg] at *
    unfold P3.Lt at *
    omega
theorem Trav.len {K V : Type} [DecidableEq K] {ek : K → Value} {en : V → Value} {D dn rs : List (K × V)} {es : Array MapEntry} {seen : Array Nat} (h : Trav ek en D es seen dn rs) : dn.length + rs.length = D.length:=by
  have:=h.1.length_eq
  simpa using this
theorem nxt_f {K V : Type} [DecidableEq K] {ek : K → Value} {en : V → Value} {D dn rs : List (K × V)} {es : Array MapEntry} {b : Bool} {kv vv : Value} {sn : Array Nat} (hb : b = false) (h : Nxt ek en D es dn rs b kv vv sn) : rs = []:=by
  rcases h with ⟨_,h⟩ | ⟨h,_⟩
  · exact h
  · rw [h] at hb; cases hb
theorem nxt_t {K V : Type} [DecidableEq K] {ek : K → Value} {en : V → Value} {D dn rs : List (K × V)} {es : Array MapEntry} {b : Bool} {kv vv : Value} {sn : Array Nat} (hb : b = true) (h : Nxt ek en D es dn rs b kv vv sn) :
    ∃ k v rs',rs.Perm ((k,v) :: rs') ∧ Trav ek en D es sn (dn ++ [(k,v)]) rs':=by
  rcases h with ⟨h,_⟩ | ⟨_,k,v,rs',h1,_,_,h2⟩
  · rw [h] at hb; cases hb
  · exact ⟨k,v,rs',h1,h2⟩
def addsP (D : List (P3 × Bool)) (ps : List P3) : List (P3 × Bool):=ps.foldl (fun D p=>mput D p true) D
theorem mem_mput {K V : Type} [DecidableEq K] (D : List (K × V)) (k a : K) (v : V) : a ∈ (mput D k v).map (·.1) ↔ a ∈ D.map (·.1) ∨ a = k:=by
  rw [mput_keys]
  split
  · exact ⟨.inl,fun h=>h.elim id (fun e=>e ▸ ‹_›)⟩
  · simp
theorem addsP_mem : ∀ (ps : List P3) (D : List (P3 × Bool)) (a : P3),a ∈ (addsP D ps).map (·.1) ↔ a ∈ D.map (·.1) ∨ a ∈ ps
  | [],D,a=>by simp [addsP]
  | p :: ps,D,a=>by
    have:=addsP_mem ps (mput D p true) a
    unfold addsP at this ⊢
    rw [List.foldl_cons,this,mem_mput,List.mem_cons,or_assoc]
theorem addsP_nodup : ∀ (ps : List P3) (D : List (P3 × Bool)),(D.map (·.1)).Nodup → ((addsP D ps).map (·.1)).Nodup
  | [],_,h=>h
  | p :: ps,D,h=>addsP_nodup ps (mput D p true) (mput_nodup h p true)
theorem mput_length {K V : Type} [DecidableEq K] : ∀ (D : List (K × V)) (k : K) (v : V),(mput D k v).length ≤ D.length + 1
  | [],_,_=>by simp [mput]
  | x :: D,k,v=>by
    unfold mput
    split
    · simp
    · simp only [List.length_cons]
      exact Nat.succ_le_succ (mput_length D k v)
theorem addsP_length : ∀ (ps : List P3) (D : List (P3 × Bool)),(addsP D ps).length ≤ D.length + ps.length
  | [],D=>Nat.le_refl _
  | p :: ps,D=>Nat.le_trans (addsP_length ps (mput D p true)) (by
    have:=mput_length D p true
    simp only [List.length_cons]
    omega)
theorem addsP_app (D : List (P3 × Bool)) (ps qs : List P3) : addsP D (ps ++ qs) = addsP (addsP D ps) qs:=List.foldl_append ..
def corsT (ts : List T3) : List P3:=ts.flatMap fun t=>[t.a,t.b,t.c]
def Sorted (ps : List P3) : Prop:=ps.Pairwise fun a b=>a.Lt b
theorem sorted_of {ps : List P3} (hn : ps.Nodup) (h : ps.Pairwise fun a b=>¬ b.Lt a) : Sorted ps:=by
  have:=hn.and h
  exact this.imp fun {a b} h=>(P3.lt_tri a b).resolve_right (by rintro (e | e); exact h.1 e; exact h.2 e)
end Go.Lith
namespace Go.Lith
open Go.RowKit
def minP (p q : P3) : P3:=⟨if q.x < p.x then q.x else p.x,if q.y < p.y then q.y else p.y,if q.z < p.z then q.z else p.z⟩
def maxP (p q : P3) : P3:=⟨if p.x < q.x then q.x else p.x,if p.y < q.y then q.y else p.y,if p.z < q.z then q.z else p.z⟩
def loP : List P3 → P3
  | []=>⟨0,0,0⟩
  | p :: ps=>ps.foldl minP p
def hiP : List P3 → P3
  | []=>⟨0,0,0⟩
  | p :: ps=>ps.foldl maxP p
theorem minP_self (p : P3) : minP p p = p:=by simp [minP]
theorem maxP_self (p : P3) : maxP p p = p:=by simp [maxP]
theorem take_one' {α : Type} {ps : List α} {k : Nat} {p : α} (h : ps[k]? = some p) : ps.take (k + 1) = ps.take k ++ [p]:=by
  rw [List.take_add_one,h]
  rfl
theorem loP_step {ps : List P3} {k : Nat} {p : P3} (hp : ps[k]? = some p) (hk : 0 < k) : loP (ps.take (k + 1)) = minP (loP (ps.take k)) p:=by
  obtain ⟨j,rfl⟩ : ∃ j,k = j + 1:=⟨k - 1,by omega⟩
  cases ps with
  | nil=>cases hp
  | cons a ps =>
    rw [List.getElem?_cons_succ] at hp
    rw [List.take_succ_cons,List.take_succ_cons,take_one' hp]
    simp [loP,List.foldl_append]
theorem hiP_step {ps : List P3} {k : Nat} {p : P3} (hp : ps[k]? = some p) (hk : 0 < k) : hiP (ps.take (k + 1)) = maxP (hiP (ps.take k)) p:=by
  obtain ⟨j,rfl⟩ : ∃ j,k = j + 1:=⟨k - 1,by omega⟩
  cases ps with
  | nil=>cases hp
  | cons a ps =>
    rw [List.getElem?_cons_succ] at hp
    rw [List.take_succ_cons,List.take_succ_cons,take_one' hp]
    simp [hiP,List.foldl_append]
theorem loP_one {ps : List P3} {p : P3} (hp : ps[0]? = some p) : loP (ps.take 1) = minP p p:=by
  cases ps with
  | nil=>cases hp
  | cons a ps=>cases hp; rw [minP_self]; rfl
theorem hiP_one {ps : List P3} {p : P3} (hp : ps[0]? = some p) : hiP (ps.take 1) = maxP p p:=by
  cases ps with
  | nil=>cases hp
  | cons a ps=>cases hp; rw [maxP_self]; rfl
theorem loP_one1 {ps : List P3} {k : Nat} {p : P3} (hk : k = 0) (hp : ps[k]? = some p) : loP (ps.take (k + 1)) = minP p p:=by subst hk; exact loP_one hp
theorem hiP_one1 {ps : List P3} {k : Nat} {p : P3} (hk : k = 0) (hp : ps[k]? = some p) : hiP (ps.take (k + 1)) = maxP p p:=by subst hk; exact hiP_one hp
theorem fold_lo : ∀ (ps : List P3) (p : P3),(∀ a ∈ p :: ps,(ps.foldl minP p).x ≤ a.x ∧ (ps.foldl minP p).y ≤ a.y ∧ (ps.foldl minP p).z ≤ a.z) ∧
    (∃ a ∈ p :: ps,(ps.foldl minP p).x = a.x) ∧ (∃ a ∈ p :: ps,(ps.foldl minP p).y = a.y) ∧ ∃ a ∈ p :: ps,(ps.foldl minP p).z = a.z
  | [],p=>⟨fun a h=>by rw [List.mem_singleton.1 h]; exact ⟨Int.le_refl _,Int.le_refl _,Int.le_refl _⟩,⟨p,by simp,rfl⟩,⟨p,by simp,rfl⟩,⟨p,by simp,rfl⟩⟩
  | q :: ps,p=>by
    obtain ⟨h,⟨ax,hx,ex⟩,⟨ay,hy,ey⟩,⟨az,hz,ez⟩⟩:=fold_lo ps (minP p q)
    rw [List.foldl_cons]
    have hm:=h _ (List.mem_cons_self ..)
    have m1 : (minP p q).x ≤ p.x ∧ (minP p q).x ≤ q.x ∧ ((minP p q).x = p.x ∨ (minP p q).x = q.x):=by simp only [minP]; split <;> omega
    have m2 : (minP p q).y ≤ p.y ∧ (minP p q).y ≤ q.y ∧ ((minP p q).y = p.y ∨ (minP p q).y = q.y):=by simp only [minP]; split <;> omega
    have m3 : (minP p q).z ≤ p.z ∧ (minP p q).z ≤ q.z ∧ ((minP p q).z = p.z ∨ (minP p q).z = q.z):=by simp only [minP]; split <;> omega
    refine ⟨fun a ha=>?_,?_,?_,?_⟩
    · rcases List.mem_cons.1 ha with rfl | ha
      · omega
      · rcases List.mem_cons.1 ha with rfl | ha
        · omega
        · exact h a (List.mem_cons_of_mem _ ha)
    · rcases List.mem_cons.1 hx with rfl | hx
      · rcases m1.2.2 with e | e
        · exact ⟨p,by simp,by omega⟩
        · exact ⟨q,by simp,by omega⟩
      · exact ⟨ax,by simp [hx],ex⟩
    · rcases List.mem_cons.1 hy with rfl | hy
      · rcases m2.2.2 with e | e
        · exact ⟨p,by simp,by omega⟩
        · exact ⟨q,by simp,by omega⟩
      · exact ⟨ay,by simp [hy],ey⟩
    · rcases List.mem_cons.1 hz with rfl | hz
      · rcases m3.2.2 with e | e
        · exact ⟨p,by simp,by omega⟩
        · exact ⟨q,by simp,by omega⟩
      · exact ⟨az,by simp [hz],ez⟩
theorem fold_hi : ∀ (ps : List P3) (p : P3),(∀ a ∈ p :: ps,a.x ≤ (ps.foldl maxP p).x ∧ a.y ≤ (ps.foldl maxP p).y ∧ a.z ≤ (ps.foldl maxP p).z) ∧
    (∃ a ∈ p :: ps,(ps.foldl maxP p).x = a.x) ∧ (∃ a ∈ p :: ps,(ps.foldl maxP p).y = a.y) ∧ ∃ a ∈ p :: ps,(ps.foldl maxP p).z = a.z
  | [],p=>⟨fun a h=>by rw [List.mem_singleton.1 h]; exact ⟨Int.le_refl _,Int.le_refl _,Int.le_refl _⟩,⟨p,by simp,rfl⟩,⟨p,by simp,rfl⟩,⟨p,by simp,rfl⟩⟩
  | q :: ps,p=>by
    obtain ⟨h,⟨ax,hx,ex⟩,⟨ay,hy,ey⟩,⟨az,hz,ez⟩⟩:=fold_hi ps (maxP p q)
    rw [List.foldl_cons]
    have hm:=h _ (List.mem_cons_self ..)
    have m1 : p.x ≤ (maxP p q).x ∧ q.x ≤ (maxP p q).x ∧ ((maxP p q).x = p.x ∨ (maxP p q).x = q.x):=by simp only [maxP]; split <;> omega
    have m2 : p.y ≤ (maxP p q).y ∧ q.y ≤ (maxP p q).y ∧ ((maxP p q).y = p.y ∨ (maxP p q).y = q.y):=by simp only [maxP]; split <;> omega
    have m3 : p.z ≤ (maxP p q).z ∧ q.z ≤ (maxP p q).z ∧ ((maxP p q).z = p.z ∨ (maxP p q).z = q.z):=by simp only [maxP]; split <;> omega
    refine ⟨fun a ha=>?_,?_,?_,?_⟩
    · rcases List.mem_cons.1 ha with rfl | ha
      · omega
      · rcases List.mem_cons.1 ha with rfl | ha
        · omega
        · exact h a (List.mem_cons_of_mem _ ha)
    · rcases List.mem_cons.1 hx with rfl | hx
      · rcases m1.2.2 with e | e
        · exact ⟨p,by simp,by omega⟩
        · exact ⟨q,by simp,by omega⟩
      · exact ⟨ax,by simp [hx],ex⟩
    · rcases List.mem_cons.1 hy with rfl | hy
      · rcases m2.2.2 with e | e
        · exact ⟨p,by simp,by omega⟩
        · exact ⟨q,by simp,by omega⟩
      · exact ⟨ay,by simp [hy],ey⟩
    · rcases List.mem_cons.1 hz with rfl | hz
      · rcases m3.2.2 with e | e
        · exact ⟨p,by simp,by omega⟩
        · exact ⟨q,by simp,by omega⟩
      · exact ⟨az,by simp [hz],ez⟩
theorem loP_ext {ps qs : List P3} (h : ∀ a,a ∈ ps ↔ a ∈ qs) : loP ps = loP qs:=by
  cases ps with
  | nil=>cases qs with
    | nil=>rfl
    | cons q qs=>have:=(h q).2 (List.mem_cons_self ..); cases this
  | cons p ps=>cases qs with
    | nil=>have:=(h p).1 (List.mem_cons_self ..); cases this
    | cons q qs =>
      obtain ⟨h1,⟨a,ha,ea⟩,⟨b,hb,eb⟩,⟨c,hc,ec⟩⟩:=fold_lo ps p
      obtain ⟨k1,⟨a',ha',ea'⟩,⟨b',hb',eb'⟩,⟨c',hc',ec'⟩⟩:=fold_lo qs q
      have x1:=h1 a' ((h a').2 ha'); have y1:=h1 b' ((h b').2 hb'); have z1:=h1 c' ((h c').2 hc')
      have x2:=k1 a ((h a).1 ha); have y2:=k1 b ((h b).1 hb); have z2:=k1 c ((h c).1 hc)
      apply P3.eq <;> simp only [loP] <;> omega
theorem hiP_ext {ps qs : List P3} (h : ∀ a,a ∈ ps ↔ a ∈ qs) : hiP ps = hiP qs:=by
  cases ps with
  | nil=>cases qs with
    | nil=>rfl
    | cons q qs=>have:=(h q).2 (List.mem_cons_self ..); cases this
  | cons p ps=>cases qs with
    | nil=>have:=(h p).1 (List.mem_cons_self ..); cases this
    | cons q qs =>
      obtain ⟨h1,⟨a,ha,ea⟩,⟨b,hb,eb⟩,⟨c,hc,ec⟩⟩:=fold_hi ps p
      obtain ⟨k1,⟨a',ha',ea'⟩,⟨b',hb',eb'⟩,⟨c',hc',ec'⟩⟩:=fold_hi qs q
      have x1:=h1 a' ((h a').2 ha'); have y1:=h1 b' ((h b').2 hb'); have z1:=h1 c' ((h c').2 hc')
      have x2:=k1 a ((h a).1 ha); have y2:=k1 b ((h b).1 hb); have z2:=k1 c ((h c).1 hc)
      apply P3.eq <;> simp only [hiP] <;> omega
theorem corsT_step {ts : List T3} {k : Nat} {t : T3} (h : ts[k]? = some t) : corsT (ts.take (k + 1)) = corsT (ts.take k) ++ [t.a,t.b,t.c]:=by
  unfold corsT
  rw [take_one' h,List.flatMap_append]
  simp
theorem addsP_step {ts : List T3} {k : Nat} {t : T3} (h : ts[k]? = some t) : addsP [] (corsT (ts.take (k + 1))) = mput (mput (mput (addsP [] (corsT (ts.take k))) t.a true) t.b true) t.c true:=by
  rw [corsT_step h,addsP_app]
  rfl
theorem corsT_length (ts : List T3) : (corsT ts).length = ts.length * 3:=by
  unfold corsT
  induction ts with
  | nil=>rfl
  | cons t ts ih=>rw [List.flatMap_cons,List.length_append,ih]; simp only [List.length_cons,List.length_nil]; omega
theorem drop_flatP : ∀ (ps : List P3) (i : Nat) (p : P3),ps[i]? = some p → (ps.flatMap ptCells).drop (i * 3) = ptCells p ++ (ps.drop (i + 1)).flatMap ptCells
  | [],_,_,h=>by cases h
  | q :: ps,0,p,h=>by cases h; simp
  | q :: ps,i + 1,p,h=>by
    rw [List.flatMap_cons,List.drop_append,show (ptCells q).length = 3 from rfl,List.drop_eq_nil_of_le (show (ptCells q).length ≤ (i + 1) * 3 from by show 3 ≤ _; omega),List.nil_append,show (i + 1) * 3 - 3 = i * 3 by omega,drop_flatP ps i p h]
    rfl
theorem Ow.pt {w0 w : World} {S : List (Option Nat)} {E : TypeId} {n cap g i : Nat} {ps : List P3} {p : P3} (h : Ow w0 w S E 3 (Option.some ⟨g,0,none⟩) n cap (ps.flatMap ptCells)) (hp : ps[i]? = Option.some p) : Row w ((⟨g,0,none⟩ : Addr).add (i * 3)) [.int .i64 p.x,.int .i64 p.y,.int .i64 p.z]:=by
  show Row w _ (ptCells p)
  intro j u hj
  have hj' : j < (ptCells p).length:=(List.getElem?_eq_some_iff.1 hj).1
  rw [addr_add_add]
  refine h.rows _ _ ?_
  rw [← List.getElem?_drop,drop_flatP ps i p hp,List.getElem?_append_left hj']
  exact hj
theorem Ow.max {w0 w : World} {S : List (Option Nat)} {E : TypeId} {c n cap : Nat} {A : Option Addr} {xs : List Value} (h : Ow w0 w S E c A n cap xs) : cap ≤ 9223372036854775807:=by
  rcases h.cases with ⟨_,_,rfl,_⟩ | ⟨_,_,_,_,_,_,h,_⟩
  · exact Nat.zero_le _
  · exact h
theorem ptsLen {ps : List P3} : (ps.flatMap ptCells).length = ps.length * 3:=by
  induction ps with
  | nil=>rfl
  | cons p ps ih=>rw [List.flatMap_cons,List.length_append,ih,show (ptCells p).length = 3 from rfl,List.length_cons]; omega
end Go.Lith
namespace Go.Lith
open Go.RowKit
end Go.Lith
namespace Go.Lith
open Go.RowKit
def P3.sc (k : Int) (p : P3) : P3:=⟨k * p.x,k * p.y,k * p.z⟩
def T3.sc (k : Int) (t : T3) : T3:=⟨t.a.sc k,t.b.sc k,t.c.sc k⟩
section
variable {k : Int} {p q x : P3} {t : T3}
theorem sub_sc : (p.sc k).sub (q.sc k) = (p.sub q).sc k:=by simp only [P3.sc,P3.sub,Int.mul_sub]
theorem dot_sc {j : Int} : (p.sc k).dot (q.sc j) = k * j * p.dot q:=by simp only [P3.sc,P3.dot]; grind
theorem cross_sc {j : Int} : (p.sc k).cross (q.sc j) = (p.cross q).sc (k * j):=by simp only [P3.sc,P3.cross,P3.mk.injEq]; grind
theorem normal_sc : (t.sc k).normal = t.normal.sc (k * k):=by
  show ((t.b.sc k).sub (t.a.sc k)).cross ((t.c.sc k).sub (t.a.sc k)) = _
  rw [sub_sc,sub_sc,cross_sc]
  rfl
theorem le_sc {m n c : Int} (hc : 0 < c) : c * m ≤ c * n ↔ m ≤ n:=⟨fun h=>Int.le_of_mul_le_mul_left h hc,fun h=>Int.mul_le_mul_of_nonneg_left h (Int.le_of_lt hc)⟩
theorem le_sc0 {m c : Int} (hc : 0 < c) : c * m ≤ 0 ↔ m ≤ 0:=by have:=le_sc (m:=m) (n:=0) hc; rwa [Int.mul_zero] at this
theorem sc_le0 {m c : Int} (hc : 0 < c) : 0 ≤ c * m ↔ 0 ≤ m:=by have:=le_sc (m:=0) (n:=m) hc; rwa [Int.mul_zero] at this
theorem sc_eq0 {m c : Int} (hc : 0 < c) : c * m = 0 ↔ m = 0:=⟨fun h=>(Int.mul_eq_zero.1 h).resolve_left (by omega),fun h=>by rw [h,Int.mul_zero]⟩
theorem div_sc {a b c n d : Int} (hc : c ≠ 0) (ha : a = c * n) (hb : b = c * d) : Rat.divInt a b = Rat.divInt n d:=by
  subst ha hb
  exact Rat.divInt_mul_left hc
theorem mul_div (c n d : Int) : (c : Rat) * Rat.divInt n d = Rat.divInt (c * n) d:=by
  have e : (c : Rat) = Rat.divInt c 1:=(Rat.num_divInt_den (c : Rat)).symm
  rw [e,Rat.divInt_mul_divInt,Int.one_mul]
theorem segq_sc (hk : 0 < k) : segq (x.sc k) (p.sc k) (q.sc k) = ((k * k : Int) : Rat) * segq x p q:=by
  have h2 : 0 < k * k:=Int.mul_pos hk hk
  unfold segq
  simp only [sub_sc,dot_sc,le_sc0 h2,le_sc h2]
  split
  · rw [mul_div]
  · split
    · rw [mul_div]
    · rw [mul_div]
      exact div_sc (c:=k * k) (by omega) (by grind) rfl
theorem side_sc {n a b y : P3} {j : Int} : side (n.sc j) (a.sc k) (b.sc k) (y.sc k) = j * (k * k) * side n a b y:=by
  unfold side
  rw [sub_sc,sub_sc,cross_sc,dot_sc]
theorem ins_sc (hk : 0 < k) : ins (x.sc k) (t.sc k) ↔ ins x t:=by
  have h2 : 0 < k * k:=Int.mul_pos hk hk
  have h4 : 0 < k * k * (k * k):=Int.mul_pos h2 h2
  unfold ins
  rw [normal_sc]
  show 0 ≤ side _ (t.a.sc k) (t.b.sc k) _ ∧ 0 ≤ side _ (t.b.sc k) (t.c.sc k) _ ∧ 0 ≤ side _ (t.c.sc k) (t.a.sc k) _ ↔ _
  simp only [side_sc,sc_le0 h4]
theorem flat_sc (hk : 0 < k) : (t.sc k).flat ↔ t.flat:=by
  have h2 : 0 < k * k:=Int.mul_pos hk hk
  unfold T3.flat
  rw [normal_sc]
  simp only [P3.sc,sc_eq0 h2]
theorem rat_le_sc {c : Int} {a b : Rat} (hc : 0 < c) : (c : Rat) * a < (c : Rat) * b ↔ a < b:=by
  have h : (0 : Rat) < (c : Rat):=Rat.intCast_pos.2 hc
  exact ⟨fun hh=>Rat.lt_of_mul_lt_mul_left hh (Rat.le_of_lt h),fun hh=>Rat.mul_lt_mul_of_pos_left hh h⟩
theorem minq_sc {c : Int} {a b : Rat} (hc : 0 < c) : minq ((c : Rat) * a) ((c : Rat) * b) = (c : Rat) * minq a b:=by
  unfold minq
  simp only [rat_le_sc hc]
  split <;> rfl
theorem faceq_sc (hk : 0 < k) : faceq (x.sc k) (t.sc k) = ((k * k : Int) : Rat) * faceq x t:=by
  have h2 : 0 < k * k:=Int.mul_pos hk hk
  have h4 : 0 < k * k * (k * k):=Int.mul_pos h2 h2
  unfold faceq
  rw [normal_sc]
  show Rat.divInt ((t.normal.sc (k * k)).dot ((x.sc k).sub (t.a.sc k)) * (t.normal.sc (k * k)).dot ((x.sc k).sub (t.a.sc k))) _ = _
  simp only [sub_sc,dot_sc]
  rw [mul_div]
  exact div_sc (c:=k * k * (k * k)) (by omega) (by grind) rfl
theorem triq_sc (hk : 0 < k) : triq (x.sc k) (t.sc k) = ((k * k : Int) : Rat) * triq x t:=by
  have h2 : 0 < k * k:=Int.mul_pos hk hk
  unfold triq
  simp only [flat_sc hk,ins_sc hk]
  split
  · exact faceq_sc hk
  · unfold edgeq
    show minq (minq (segq (x.sc k) (t.a.sc k) (t.b.sc k)) (segq (x.sc k) (t.b.sc k) (t.c.sc k))) (segq (x.sc k) (t.c.sc k) (t.a.sc k)) = _
    rw [segq_sc hk,segq_sc hk,segq_sc hk,minq_sc h2,minq_sc h2]
theorem fold_sc (hk : 0 < k) : ∀ (ts : List T3) (m : Rat),(ts.map (T3.sc k)).foldl (fun m u=>minq m (triq (x.sc k) u)) (((k * k : Int) : Rat) * m) = ((k * k : Int) : Rat) * ts.foldl (fun m u=>minq m (triq x u)) m
  | [],m=>rfl
  | t :: ts,m=>by
    rw [List.map_cons,List.foldl_cons,List.foldl_cons,triq_sc hk,minq_sc (Int.mul_pos hk hk),fold_sc hk ts]
theorem farq_sc (hk : 0 < k) (ts : List T3) : farq (x.sc k) (ts.map (T3.sc k)) = ((k * k : Int) : Rat) * farq x ts:=by
  cases ts with
  | nil=>simp [farq]
  | cons t ts =>
    show (ts.map (T3.sc k)).foldl _ (triq (x.sc k) (t.sc k)) = _
    rw [triq_sc hk,fold_sc hk]
    rfl
theorem det_sc : det (t.sc k) = k * k * k * det t:=by
  show (t.a.sc k).dot ((t.b.sc k).cross (t.c.sc k)) = _
  rw [cross_sc,dot_sc]
  show _ = k * k * k * t.a.dot (t.b.cross t.c)
  grind
theorem sumT_sc {f g : T3 → Int} {c : Int} (h : ∀ t,f (t.sc k) = c * g t) : ∀ ts : List T3,sumT f (ts.map (T3.sc k)) = c * sumT g ts
  | []=>by simp [sumT]
  | t :: ts=>by
    have ih:=sumT_sc h ts
    unfold sumT at ih ⊢
    rw [List.map_cons,List.map_cons,List.sum_cons,List.map_cons,List.sum_cons,ih,h,Int.mul_add]
theorem mom_sc {f : P3 → Int} (hf : ∀ p,f (p.sc k) = k * f p) : mom f (t.sc k) = k * k * k * k * mom f t:=by
  show det (t.sc k) * f (t.a.sc k) + det (t.sc k) * f (t.b.sc k) + det (t.sc k) * f (t.c.sc k) = k * k * k * k * (det t * f t.a + det t * f t.b + det t * f t.c)
  rw [det_sc,hf,hf,hf]
  grind
theorem cq_sc (hk : 0 < k) (m v : Int) : cq (k * k * k * k * m) (k * k * k * v) = (k : Rat) * cq m v:=by
  have h3 : 0 < k * k * k:=Int.mul_pos (Int.mul_pos hk hk) hk
  unfold cq
  simp only [sc_eq0 h3]
  split
  · simp
  · rw [mul_div]
    exact div_sc (c:=k * k * k) (by omega) (by grind) (by grind)
theorem minP_sc (hk : 0 < k) : minP (p.sc k) (q.sc k) = (minP p q).sc k:=by
  have h : ∀ a b : Int,(if k * a < k * b then k * a else k * b) = k * (if a < b then a else b):=fun a b=>by
    have e : k * a < k * b ↔ a < b:=by have:=le_sc (m:=b) (n:=a) hk; omega
    simp only [e]
    split <;> rfl
  simp only [minP,P3.sc,P3.mk.injEq]
  exact ⟨h _ _,h _ _,h _ _⟩
theorem maxP_sc (hk : 0 < k) : maxP (p.sc k) (q.sc k) = (maxP p q).sc k:=by
  have h : ∀ a b : Int,(if k * a < k * b then k * b else k * a) = k * (if a < b then b else a):=fun a b=>by
    have e : k * a < k * b ↔ a < b:=by have:=le_sc (m:=b) (n:=a) hk; omega
    simp only [e]
    split <;> rfl
  simp only [maxP,P3.sc,P3.mk.injEq]
  exact ⟨h _ _,h _ _,h _ _⟩
theorem lo_sc (hk : 0 < k) : ∀ (ps : List P3) (p : P3),(ps.map (P3.sc k)).foldl minP (p.sc k) = (ps.foldl minP p).sc k
  | [],_=>rfl
  | q :: ps,p=>by rw [List.map_cons,List.foldl_cons,List.foldl_cons,minP_sc hk,lo_sc hk ps]
theorem hi_sc (hk : 0 < k) : ∀ (ps : List P3) (p : P3),(ps.map (P3.sc k)).foldl maxP (p.sc k) = (ps.foldl maxP p).sc k
  | [],_=>rfl
  | q :: ps,p=>by rw [List.map_cons,List.foldl_cons,List.foldl_cons,maxP_sc hk,hi_sc hk ps]
theorem corsT_sc (ts : List T3) : corsT (ts.map (T3.sc k)) = (corsT ts).map (P3.sc k):=by
  unfold corsT
  rw [List.flatMap_map,List.map_flatMap]
  rfl
theorem loP_sc (hk : 0 < k) (ts : List T3) : loP (corsT (ts.map (T3.sc k))) = (loP (corsT ts)).sc k:=by
  rw [corsT_sc]
  cases corsT ts with
  | nil=>simp [loP,P3.sc]
  | cons p ps=>exact lo_sc hk ps p
theorem hiP_sc (hk : 0 < k) (ts : List T3) : hiP (corsT (ts.map (T3.sc k))) = (hiP (corsT ts)).sc k:=by
  rw [corsT_sc]
  cases corsT ts with
  | nil=>simp [hiP,P3.sc]
  | cons p ps=>exact hi_sc hk ps p
theorem cqM (hk : 0 < k) {f : P3 → Int} (hf : ∀ p : P3,f (p.sc k) = k * f p) (L : List T3) : cq (sumT (mom f) (L.map (T3.sc k))) (sumT det (L.map (T3.sc k))) = cq (sumT (mom f) L) (sumT det L) * (k : Rat):=by
  rw [sumT_sc (fun t=>mom_sc hf),sumT_sc (fun t=>det_sc),cq_sc hk,Rat.mul_comm]
theorem farM (hk : 0 < k) (L : List T3) : farq (x.sc k) (L.map (T3.sc k)) = farq x L * ((k * k : Int) : Rat):=by rw [farq_sc hk,Rat.mul_comm]
theorem volM (L : List T3) : Rat.divInt (sumT det (L.map (T3.sc k))) 6 = Rat.divInt (sumT det L) 6 * ((k * k * k : Int) : Rat):=by
  rw [sumT_sc (fun t=>det_sc),Rat.mul_comm,mul_div]
theorem neM (hk : 0 < k) (L : List T3) : decide (sumT det (L.map (T3.sc k)) ≠ 0) = decide (sumT det L ≠ 0):=by
  rw [sumT_sc (fun t=>det_sc)]
  simp only [ne_eq,sc_eq0 (Int.mul_pos (Int.mul_pos hk hk) hk)]
theorem bq_int {n : Int} {m : Nat} (h : Bd m n) (h1 : 1 ≤ m) : Bq m (n : Rat):=⟨h,(bd_11 : Bd 1 1).mono h1⟩
def modP (p : P3) : P3:=⟨p.x.tmod 10000,p.y.tmod 10000,p.z.tmod 10000⟩
theorem sc_bd {a : Int} (hk : 1 ≤ k ∧ k ≤ 50) (h : -10000 ≤ a ∧ a ≤ 10000) : -500000 ≤ k * a ∧ k * a ≤ 500000:=by
  have h1 : (k * a).natAbs ≤ 50 * 10000:=by
    rw [Int.natAbs_mul]
    exact Nat.mul_le_mul (by omega) (by omega)
  omega
def Nr (p : P3) : Prop:=(-10000 ≤ p.x ∧ p.x ≤ 10000) ∧ (-10000 ≤ p.y ∧ p.y ≤ 10000) ∧ (-10000 ≤ p.z ∧ p.z ≤ 10000)
theorem Nr.i3 (h : Nr p) : I3 p:=by
  obtain ⟨h1,h2,h3⟩:=h
  exact ⟨⟨by omega,by omega⟩,⟨by omega,by omega⟩,⟨by omega,by omega⟩⟩
theorem Nr.sc (h : Nr p) (hk : 1 ≤ k ∧ k ≤ 50) : I3 (p.sc k):=by
  have h1:=sc_bd hk h.1
  have h2:=sc_bd hk h.2.1
  have h3:=sc_bd hk h.2.2
  exact ⟨⟨by show _ ≤ k * p.x; omega,by show k * p.x < _; omega⟩,⟨by show _ ≤ k * p.y; omega,by show k * p.y < _; omega⟩,⟨by show _ ≤ k * p.z; omega,by show k * p.z < _; omega⟩⟩
theorem nr_mod (p : P3) : Nr (modP p):=by
  have h1:=tm_bd (n:=p.x) (m:=10000) (by decide)
  have h2:=tm_bd (n:=p.y) (m:=10000) (by decide)
  have h3:=tm_bd (n:=p.z) (m:=10000) (by decide)
  simp only [Nr,modP]
  omega
theorem Sm.nr (h : Sm 200 p) : Nr p:=by
  simp only [Sm,Nr] at *
  omega
theorem SmT.cor (h : SmT 200 t) (c : Nat) : Nr (t.cor c):=by
  unfold T3.cor
  split
  · exact h.1.nr
  · split
    · exact h.2.1.nr
    · exact h.2.2.nr
theorem SmT.sc (h : SmT 200 t) (hk : 1 ≤ k ∧ k ≤ 50) : IT (t.sc k):=⟨h.1.nr.sc hk,h.2.1.nr.sc hk,h.2.2.nr.sc hk⟩
theorem mem_corsT {L : List T3} {a : P3} (h : a ∈ corsT L) (hL : ∀ t ∈ L,SmT 200 t) : Nr a:=by
  obtain ⟨t,ht,ha⟩:=List.mem_flatMap.1 h
  simp only [List.mem_cons,List.not_mem_nil,or_false] at ha
  rcases ha with rfl | rfl | rfl
  · exact (hL t ht).1.nr
  · exact (hL t ht).2.1.nr
  · exact (hL t ht).2.2.nr
theorem nr_lo {L : List T3} (hL : ∀ t ∈ L,SmT 200 t) : Nr (loP (corsT L)):=by
  have hm : ∀ a ∈ corsT L,Nr a:=fun a h=>mem_corsT h hL
  cases h : corsT L with
  | nil=>simp [loP,Nr]
  | cons q ps =>
    rw [h] at hm
    obtain ⟨_,⟨a,ha,ea⟩,⟨b,hb,eb⟩,⟨c,hc,ec⟩⟩:=fold_lo ps q
    have h1:=(hm a ha).1; have h2:=(hm b hb).2.1; have h3:=(hm c hc).2.2
    simp only [Nr,loP]
    omega
theorem nr_hi {L : List T3} (hL : ∀ t ∈ L,SmT 200 t) : Nr (hiP (corsT L)):=by
  have hm : ∀ a ∈ corsT L,Nr a:=fun a h=>mem_corsT h hL
  cases h : corsT L with
  | nil=>simp [hiP,Nr]
  | cons q ps =>
    rw [h] at hm
    obtain ⟨_,⟨a,ha,ea⟩,⟨b,hb,eb⟩,⟨c,hc,ec⟩⟩:=fold_hi ps q
    have h1:=(hm a ha).1; have h2:=(hm b hb).2.1; have h3:=(hm c hc).2.2
    simp only [Nr,hiP]
    omega
end
end Go.Lith
namespace Go.Proofs.YtmcgcnpgkkfkoaaGreatDoor
open Go.RowKit Go.Lith
set_option maxRecDepth 100000
attribute [local irreducible] wpList wpQuiet wpMix wpMixH wpTree Code.wp
theorem gex_x {p : P3} : GPure Tryz.prog 163 [pt p] (.int .i64 p.x):=by
 intro w
 refine ⟨en_163,?_⟩
 have m:=MemG.refl w
 go_enter Tryz.func163,Tryz.ntmps163
 refine c_seq fun K1 k1=>wp_region_lit (GmboxA m rfl ?_)
 clear m; intro g1 u m
 refine n_val (r_assign) (n_nil (k1 _ _ ?_))
 refine c_seq fun K2 k2=>wp_region_lit (n_val (r_fieldAddr (c:=0) Tryz.underlying170 rfl cells_3 rfl rfl) ?_)
 simp only [ev,zD,zE,zF,zG]
 refine n_load rfl ((m.b 0 rfl).lies1 agg_3 rfl) ?_
 simp only [ev,zD,zE,zF,zG]
 refine n_val (r_assign) (n_nil (k2 _ _ ?_))
 refine wp_ret ?_
 simp only [ev,zD,zE,zF,zG]
 try simp only [Exit.inBlock,Exit.then,if_true]
 refine fin1 rfl rfl ?_
 try simp only [zD,zE]
 exact ⟨_,rfl,m.ext,rfl⟩
theorem gex_y {p : P3} : GPure Tryz.prog 164 [pt p] (.int .i64 p.y):=by
 intro w
 refine ⟨en_164,?_⟩
 have m:=MemG.refl w
 go_enter Tryz.func164,Tryz.ntmps164
 refine c_seq fun K1 k1=>wp_region_lit (GmboxA m rfl ?_)
 clear m; intro g1 u m
 refine n_val (r_assign) (n_nil (k1 _ _ ?_))
 refine c_seq fun K2 k2=>wp_region_lit (n_val (r_fieldAddr (c:=0) Tryz.underlying170 rfl cells_3 rfl rfl) ?_)
 simp only [ev,zD,zE,zF,zG]
 refine n_load rfl ((m.b 0 rfl).lies1 agg_3 rfl) ?_
 simp only [ev,zD,zE,zF,zG]
 refine n_val (r_assign) (n_nil (k2 _ _ ?_))
 refine wp_ret ?_
 simp only [ev,zD,zE,zF,zG]
 try simp only [Exit.inBlock,Exit.then,if_true]
 refine fin1 rfl rfl ?_
 try simp only [zD,zE]
 exact ⟨_,rfl,m.ext,rfl⟩
theorem gex_z {p : P3} : GPure Tryz.prog 165 [pt p] (.int .i64 p.z):=by
 intro w
 refine ⟨en_165,?_⟩
 have m:=MemG.refl w
 go_enter Tryz.func165,Tryz.ntmps165
 refine c_seq fun K1 k1=>wp_region_lit (GmboxA m rfl ?_)
 clear m; intro g1 u m
 refine n_val (r_assign) (n_nil (k1 _ _ ?_))
 refine c_seq fun K2 k2=>wp_region_lit (n_val (r_fieldAddr (c:=0) Tryz.underlying170 rfl cells_3 rfl rfl) ?_)
 simp only [ev,zD,zE,zF,zG]
 refine n_load rfl ((m.b 0 rfl).lies1 agg_3 rfl) ?_
 simp only [ev,zD,zE,zF,zG]
 refine n_val (r_assign) (n_nil (k2 _ _ ?_))
 refine wp_ret ?_
 simp only [ev,zD,zE,zF,zG]
 try simp only [Exit.inBlock,Exit.then,if_true]
 refine fin1 rfl rfl ?_
 try simp only [zD,zE]
 exact ⟨_,rfl,m.ext,rfl⟩
theorem gaxes_c  : GPure Tryz.prog 139 [] (.agg #[.func (.func 163) #[] #[],.func (.func 164) #[] #[],.func (.func 165) #[] #[]]):=by
 intro w
 refine ⟨en_139,?_⟩
 have m:=MemG.refl w
 go_enter Tryz.func139,Tryz.ntmps139
 refine c_seq fun K1 k1=>wp_region_lit (Gmalloc m zero_168 rfl ?_)
 clear m; intro g1 u m
 refine n_nil (k1 _ _ ?_)
 refine c_seq fun K2 k2=>wp_region_lit (n_val (r_build_168_0_1_2 rfl rfl rfl) ?_)
 simp only [ev,zD,zE,zF,zG]
 refine GmstoreA m 0 rfl rfl rfl cells_168 (leT rfl) rfl ?_
 clear m; intro u m; simp only [over,zH,zI,zJ,zK,zL,zM,zN,zO,zP,zF,zG,Nat.reduceAdd] at m
 refine n_nil (k2 _ _ ?_)
 refine wp_ret ?_
 try simp only [Exit.inBlock,Exit.then,if_true]
 refine fin1 rfl ⟨_,rfl,((m.b 0 rfl).full agg_168 cells_168)⟩ ?_
 try simp only [zD,zE]
 exact ⟨_,rfl,m.ext,rfl⟩
theorem gless_c {p q : P3} : GPure Tryz.prog 135 [pt p,pt q] (.bool (decide (p.Lt q))):=by
 intro w
 refine ⟨en_135,?_⟩
 have m:=MemG.refl w
 go_enter Tryz.func135,Tryz.ntmps135
 refine c_seq fun K1 k1=>wp_region_lit (GmboxA m rfl ?_)
 clear m; intro g1 u m
 simp only [ev,zD,zE,zF,zG]
 refine GmboxA m rfl ?_
 clear m; intro g2 u m
 refine n_val (r_assign) (n_nil (k1 _ _ ?_))
 refine c_seq fun K2 k2=>c_seq fun K3 k3=>wp_region_lit ?_
 simp only [ev,zD,zE,zF,zG]
 refine GmcallP m rfl rfl (gaxes_c) ?_
 clear m; intro u m
 refine n_val (r_move) (n_nil (k3 _ _ ?_))
 refine wp_block (wp_loop_rounds 4 (rounds_step (c_seq fun K4 k4=>wp_region_lit (n_val (r_lssT (m:=0) (n:=3) rfl rfl (by decide)) (n_nil (k4 _ _ ?_))))))
 refine c_seq fun K5 k5=>c_yes rfl (wp_skip (k5 _ _ ?_))
 refine c_seq fun K6 k6=>wp_block (c_seq fun K7 k7=>wp_region_lit (n_val (r_index_168_0 rfl rfl) ?_))
 simp only [ev,zD,zE,zF,zG]
 refine n_val (r_assign) (n_nil (k7 _ _ ?_))
 refine c_seq fun K8 k8=>?_
 simp only [ev,zD,zE,zF,zG]
 refine Gmq m follows_mixed (by kernel_rfl) (q_val (r_move) ?_)
 simp only [ev,zD,zE,zF,zG]
 refine Gql rfl (fun u m=>((m.b 1 rfl).full agg_28 cells_28)) ?_
 simp only [ev,zD,zE,zF,zG]
 refine GqcP rfl rfl (gex_x) (q_val (r_move) ?_)
 simp only [ev,zD,zE,zF,zG]
 refine Gql rfl (fun u m=>((m.b 0 rfl).full agg_28 cells_28)) ?_
 simp only [ev,zD,zE,zF,zG]
 refine GqcP rfl rfl (gex_x) (q_val (r_assign) (q_val (r_assign) (q_nil ?_)))
 clear m; intro u m
 refine k8 _ _ ?_
 refine c_seq fun K9 k9=>wp_region_lit (n_val (r_move) ?_)
 simp only [ev,zD,zE,zF,zG]
 refine n_val (r_move) (n_val (r_neq rfl rfl) (n_nil (k9 _ _ ?_)))
 simp only [ev,zD,zE,zF,zG]
 refine c_if rfl (fun hc2=>?_) (fun hc2=>?_)
 ·
  refine c_seq fun K10 k10=>wp_region_lit (n_val (r_move) (n_val (r_move) (n_val (r_lss rfl rfl) (n_val (r_assign) ?_))))
  simp only [ev,zD,zE,zF,zG]
  refine n_nil (k10 _ _ ?_)
  refine wp_ret ?_
  try simp only [Exit.inBlock,Exit.then,if_true]
  refine fin1 rfl rfl ?_
  try simp only [zD,zE]
  exact ⟨_,rfl,m.ext,by simp only [P3.lt_x hc2]⟩
 ·
  have ex : p.x = q.x:=by omega
  refine wp_skip (k6 _ _ ?_)
  refine wp_region_lit (n_val (r_add (m:=0) (n:=1) (r:=1) rfl rfl (by decide)) (n_val (r_move) (n_nil (then_rounds (c_seq fun K11 k11=>wp_region_lit (n_val (r_lssT (m:=1) (n:=3) rfl rfl (by decide)) (n_nil (k11 _ _ ?_))))))))
  refine c_seq fun K12 k12=>c_yes rfl (wp_skip (k12 _ _ ?_))
  refine c_seq fun K13 k13=>wp_block (c_seq fun K14 k14=>wp_region_lit (n_val (r_index_168_1 rfl rfl) ?_))
  simp only [ev,zD,zE,zF,zG]
  refine n_val (r_assign) (n_nil (k14 _ _ ?_))
  refine c_seq fun K15 k15=>?_
  simp only [ev,zD,zE,zF,zG]
  refine Gmq m follows_mixed (by kernel_rfl) (q_val (r_move) ?_)
  simp only [ev,zD,zE,zF,zG]
  refine Gql rfl (fun u m=>((m.b 1 rfl).full agg_28 cells_28)) ?_
  simp only [ev,zD,zE,zF,zG]
  refine GqcP rfl rfl (gex_y) (q_val (r_move) ?_)
  simp only [ev,zD,zE,zF,zG]
  refine Gql rfl (fun u m=>((m.b 0 rfl).full agg_28 cells_28)) ?_
  simp only [ev,zD,zE,zF,zG]
  refine GqcP rfl rfl (gex_y) (q_val (r_assign) (q_val (r_assign) (q_nil ?_)))
  clear m; intro u m
  refine k15 _ _ ?_
  refine c_seq fun K16 k16=>wp_region_lit (n_val (r_move) ?_)
  simp only [ev,zD,zE,zF,zG]
  refine n_val (r_move) (n_val (r_neq rfl rfl) (n_nil (k16 _ _ ?_)))
  simp only [ev,zD,zE,zF,zG]
  refine c_if rfl (fun hc2=>?_) (fun hc2=>?_)
  ·
   refine c_seq fun K17 k17=>wp_region_lit (n_val (r_move) (n_val (r_move) (n_val (r_lss rfl rfl) (n_val (r_assign) ?_))))
   simp only [ev,zD,zE,zF,zG]
   refine n_nil (k17 _ _ ?_)
   refine wp_ret ?_
   try simp only [Exit.inBlock,Exit.then,if_true]
   refine fin1 rfl rfl ?_
   try simp only [zD,zE]
   exact ⟨_,rfl,m.ext,by simp only [P3.lt_y ex hc2]⟩
  ·
   have ey : p.y = q.y:=by omega
   refine wp_skip (k13 _ _ ?_)
   refine wp_region_lit (n_val (r_add (m:=1) (n:=1) (r:=2) rfl rfl (by decide)) (n_val (r_move) (n_nil (then_rounds (c_seq fun K18 k18=>wp_region_lit (n_val (r_lssT (m:=2) (n:=3) rfl rfl (by decide)) (n_nil (k18 _ _ ?_))))))))
   refine c_seq fun K19 k19=>c_yes rfl (wp_skip (k19 _ _ ?_))
   refine c_seq fun K20 k20=>wp_block (c_seq fun K21 k21=>wp_region_lit (n_val (r_index_168_2 rfl rfl) ?_))
   simp only [ev,zD,zE,zF,zG]
   refine n_val (r_assign) (n_nil (k21 _ _ ?_))
   refine c_seq fun K22 k22=>?_
   simp only [ev,zD,zE,zF,zG]
   refine Gmq m follows_mixed (by kernel_rfl) (q_val (r_move) ?_)
   simp only [ev,zD,zE,zF,zG]
   refine Gql rfl (fun u m=>((m.b 1 rfl).full agg_28 cells_28)) ?_
   simp only [ev,zD,zE,zF,zG]
   refine GqcP rfl rfl (gex_z) (q_val (r_move) ?_)
   simp only [ev,zD,zE,zF,zG]
   refine Gql rfl (fun u m=>((m.b 0 rfl).full agg_28 cells_28)) ?_
   simp only [ev,zD,zE,zF,zG]
   refine GqcP rfl rfl (gex_z) (q_val (r_assign) (q_val (r_assign) (q_nil ?_)))
   clear m; intro u m
   refine k22 _ _ ?_
   refine c_seq fun K23 k23=>wp_region_lit (n_val (r_move) ?_)
   simp only [ev,zD,zE,zF,zG]
   refine n_val (r_move) (n_val (r_neq rfl rfl) (n_nil (k23 _ _ ?_)))
   simp only [ev,zD,zE,zF,zG]
   refine c_if rfl (fun hc2=>?_) (fun hc2=>?_)
   ·
    refine c_seq fun K24 k24=>wp_region_lit (n_val (r_move) (n_val (r_move) (n_val (r_lss rfl rfl) (n_val (r_assign) ?_))))
    simp only [ev,zD,zE,zF,zG]
    refine n_nil (k24 _ _ ?_)
    refine wp_ret ?_
    try simp only [Exit.inBlock,Exit.then,if_true]
    refine fin1 rfl rfl ?_
    try simp only [zD,zE]
    exact ⟨_,rfl,m.ext,by simp only [P3.lt_z ex ey]⟩
   ·
    have ez : p.z = q.z:=by omega
    refine wp_skip (k20 _ _ ?_)
    refine wp_region_lit (n_val (r_add (m:=2) (n:=1) (r:=3) rfl rfl (by decide)) (n_val (r_move) (n_nil (then_rounds (c_seq fun K25 k25=>wp_region_lit (n_val (r_lssF (m:=3) (n:=3) rfl rfl (by decide)) (n_nil (k25 _ _ ?_))))))))
    refine c_seq fun K26 k26=>c_no rfl (wp_exit (k2 _ _ ?_))
    refine c_seq fun K27 k27=>wp_region_lit (n_val (r_assign) ?_)
    simp only [ev,zD,zE,zF,zG]
    refine n_nil (k27 _ _ ?_)
    refine wp_ret ?_
    try simp only [Exit.inBlock,Exit.then,if_true]
    refine fin1 rfl rfl ?_
    try simp only [zD,zE]
    exact ⟨_,rfl,m.ext,by rw [decide_eq_false (fun h=>by unfold P3.Lt at h; omega)]⟩
theorem gcmpP_c {p q : P3} : GPure Tryz.prog 144 [pt p,pt q] (.int .i64 (cmpP p q)):=by
 intro w
 refine ⟨en_144,?_⟩
 have m:=MemG.refl w
 go_enter Tryz.func144,Tryz.ntmps144
 refine c_seq fun K1 k1=>wp_region_lit (GmboxA m rfl ?_)
 clear m; intro g1 u m
 simp only [ev,zD,zE,zF,zG]
 refine GmboxA m rfl ?_
 clear m; intro g2 u m
 refine n_val (r_assign) (n_nil (k1 _ _ ?_))
 refine c_seq fun K2 k2=>wp_block (c_seq fun K3 k3=>wp_region_lit ?_)
 simp only [ev,zD,zE,zF,zG]
 refine n_load rfl ((m.b 1 rfl).full agg_28 cells_28) ?_
 simp only [ev,zD,zE,zF,zG]
 refine n_load rfl ((m.b 0 rfl).full agg_28 cells_28) ?_
 simp only [ev,zD,zE,zF,zG]
 refine GmcallP m rfl rfl (gless_c) ?_
 clear m; intro u m
 refine n_val (r_assign) (n_nil (k3 _ _ ?_))
 simp only [ev,zD,zE,zF,zG]
 refine c_if rfl (fun hc1=>?_) (fun hc1=>?_)
 ·
  refine c_seq fun K4 k4=>wp_region_lit (n_val (r_assign) (n_nil (k4 _ _ ?_)))
  refine wp_ret ?_
  simp only [ev,zD,zE,zF,zG]
  try simp only [Exit.inBlock,Exit.then,if_true]
  refine fin1 rfl rfl ?_
  try simp only [zD,zE]
  exact ⟨_,rfl,m.ext,by simp [cmpP,hc1]⟩
 ·
  refine c_seq fun K5 k5=>wp_region_lit (n_load rfl ((m.b 0 rfl).full agg_28 cells_28) ?_)
  simp only [ev,zD,zE,zF,zG]
  refine n_load rfl ((m.b 1 rfl).full agg_28 cells_28) ?_
  simp only [ev,zD,zE,zF,zG]
  refine GmcallP m rfl rfl (gless_c) ?_
  clear m; intro u m
  refine n_val (r_assign) (n_nil (k5 _ _ ?_))
  simp only [ev,zD,zE,zF,zG]
  refine c_if rfl (fun hc2=>?_) (fun hc2=>?_)
  ·
   refine c_seq fun K6 k6=>wp_region_lit (n_val (r_assign) (n_nil (k6 _ _ ?_)))
   refine wp_ret ?_
   simp only [ev,zD,zE,zF,zG]
   try simp only [Exit.inBlock,Exit.then,if_true]
   refine fin1 rfl rfl ?_
   try simp only [zD,zE]
   exact ⟨_,rfl,m.ext,by simp [cmpP,hc1,hc2]⟩
  ·
   refine wp_skip (k2 _ _ ?_)
   refine c_seq fun K7 k7=>wp_region_lit (n_val (r_assign) (n_nil (k7 _ _ ?_)))
   refine wp_ret ?_
   simp only [ev,zD,zE,zF,zG]
   try simp only [Exit.inBlock,Exit.then,if_true]
   refine fin1 rfl rfl ?_
   try simp only [zD,zE]
   exact ⟨_,rfl,m.ext,by simp [cmpP,hc1,hc2]⟩
end Go.Proofs.YtmcgcnpgkkfkoaaGreatDoor
namespace Go.Proofs
open Go.Shelf
def Tryz.sort169_ren : Go.Shelf.Ren:=⟨fun | 6=>169 | 15=>178 | 14=>177 | 28=>190 | 29=>162 | 20=>182 | 21=>183 | 22=>184 | 23=>185 | 24=>186 | 25=>187 | 26=>188 | 27=>189 | 46=>195 | 47=>196 | 48=>197 | 49=>198 | 50=>199 | 57=>201 | n=>n,fun | 22=>118 | 24=>28 | 25=>176 | 3=>3 | 39=>89 | 0=>0 | 53=>44 | 55=>88 | 4=>4 | 46=>211 | 45=>210 | 50=>215 | 5=>5 | 9=>9 | 66=>225 | 70=>229 | 76=>231 | 77=>178 | n=>n,fun | n=>n⟩
theorem Tryz.sort169 : Go.Proofs.SlLaysF0.n6 Tryz.prog Tryz.sort169_ren:={
  mixed:=by kernel_rfl
  f6:=⟨Tryz.f169.name,by decide,Tryz.func169.trans (congrArg some (by kernel_rfl))⟩
  f14:=⟨Tryz.f177.name,by decide,Tryz.func177.trans (congrArg some (by kernel_rfl))⟩
  f15:=Tryz.func178.trans (congrArg some (by kernel_rfl))
  f20:=⟨Tryz.f182.name,by decide,Tryz.func182.trans (congrArg some (by kernel_rfl))⟩
  f21:=⟨Tryz.f183.name,by decide,Tryz.func183.trans (congrArg some (by kernel_rfl))⟩
  f22:=⟨Tryz.f184.name,by decide,Tryz.func184.trans (congrArg some (by kernel_rfl))⟩
  f23:=⟨Tryz.f185.name,by decide,Tryz.func185.trans (congrArg some (by kernel_rfl))⟩
  f24:=⟨Tryz.f186.name,by decide,Tryz.func186.trans (congrArg some (by kernel_rfl))⟩
  f25:=⟨Tryz.f187.name,by decide,Tryz.func187.trans (congrArg some (by kernel_rfl))⟩
  f26:=⟨Tryz.f188.name,by decide,Tryz.func188.trans (congrArg some (by kernel_rfl))⟩
  f27:=⟨Tryz.f189.name,by decide,Tryz.func189.trans (congrArg some (by kernel_rfl))⟩
  f28:=Tryz.func190.trans (congrArg some (by kernel_rfl))
  f29:=Tryz.func162.trans (congrArg some (by kernel_rfl))
  f46:=⟨Tryz.f195.name,by decide,Tryz.func195.trans (congrArg some (by kernel_rfl))⟩
  f47:=Tryz.func196.trans (congrArg some (by kernel_rfl))
  f48:=Tryz.func197.trans (congrArg some (by kernel_rfl))
  f49:=⟨Tryz.f198.name,by decide,Tryz.func198.trans (congrArg some (by kernel_rfl))⟩
  f50:=⟨Tryz.f199.name,by decide,Tryz.func199.trans (congrArg some (by kernel_rfl))⟩
  f57:=⟨Tryz.f201.name,by decide,Tryz.func201.trans (congrArg some (by kernel_rfl))⟩
  t0:=Tryz.underlying0
  a0:=Tryz.isAgg0
  z0:=Tryz.sizeOf0
  v0:=Tryz.zeroValue0
  t3:=Tryz.underlying3
  a3:=Tryz.isAgg3
  z3:=Tryz.sizeOf3
  v3:=Tryz.zeroValue3
  t4:=Tryz.underlying4
  a4:=Tryz.isAgg4
  z4:=Tryz.sizeOf4
  v4:=Tryz.zeroValue4
  t5:=Tryz.underlying5
  a5:=Tryz.isAgg5
  z5:=Tryz.sizeOf5
  v5:=Tryz.zeroValue5
  t9:=Tryz.underlying9
  a9:=Tryz.isAgg9
  z9:=Tryz.sizeOf9
  v9:=Tryz.zeroValue9
  t22:=Tryz.underlying118
  a22:=Tryz.isAgg118
  z22:=Tryz.sizeOf118
  v22:=Tryz.zeroValue118
  t25:=Tryz.underlying176
  a25:=Tryz.isAgg176
  z25:=Tryz.sizeOf176
  v25:=Tryz.zeroValue176
  t39:=Tryz.underlying89
  a39:=Tryz.isAgg89
  z39:=Tryz.sizeOf89
  v39:=Tryz.zeroValue89
  t45:=Tryz.underlying210
  a45:=Tryz.isAgg210
  z45:=Tryz.sizeOf210
  v45:=Tryz.zeroValue210
  t46:=Tryz.underlying211
  a46:=Tryz.isAgg211
  z46:=Tryz.sizeOf211
  v46:=Tryz.zeroValue211
  t50:=Tryz.underlying215
  a50:=Tryz.isAgg215
  z50:=Tryz.sizeOf215
  v50:=Tryz.zeroValue215
  t53:=Tryz.underlying44
  a53:=Tryz.isAgg44
  z53:=Tryz.sizeOf44
  v53:=Tryz.zeroValue44
  t55:=Tryz.underlying88
  a55:=Tryz.isAgg88
  z55:=Tryz.sizeOf88
  v55:=Tryz.zeroValue88
  t66:=Tryz.underlying225
  a66:=Tryz.isAgg225
  z66:=Tryz.sizeOf225
  v66:=Tryz.zeroValue225
  t70:=Tryz.underlying229
  a70:=Tryz.isAgg229
  z70:=Tryz.sizeOf229
  v70:=Tryz.zeroValue229
  t76:=Tryz.underlying231
  a76:=Tryz.isAgg231
  z76:=Tryz.sizeOf231
  v76:=Tryz.zeroValue231
  t77:=Tryz.underlying178
  a77:=Tryz.isAgg178
  z77:=Tryz.sizeOf178
  v77:=Tryz.zeroValue178 }
end Go.Proofs
namespace Go.Proofs.YtmcgcnpgkkfkoaaGreatDoor
open Go.RowKit Go.Lith
set_option maxRecDepth 100000
attribute [local irreducible] wpList wpQuiet wpMix wpMixH wpTree Code.wp
theorem kt_28 : KeyT Tryz.prog 28 pt:=by
 refine KeyT.agg (cs:=fun p=>#[.int .i64 p.x,.int .i64 p.y,.int .i64 p.z]) (fun _=>rfl) Tryz.underlying28 (fun e p=>?_) (fun p q=>?_) (fun p=>?_)
 ·
  refine CkR.struct (d:=9999) Tryz.underlying28 fun f hf=>?_
  simp only [List.mem_cons,List.not_mem_nil,or_false] at hf
  rcases hf with rfl | rfl | rfl <;> exact ⟨_,part_one agg_3 rfl,CkR.int (d:=9998) Tryz.underlying3⟩
 · exact (eqr_28 9998).iff ⟨fun h=>P3.eq h.1 h.2.1 h.2.2,fun h=>by subst h; exact ⟨rfl,rfl,rfl⟩⟩
 · simp [pt,Instr.sameBits]
theorem addP_c {w0 w : World} {is : List It} {g c : Nat} {es : Array MapEntry} {D : List (P3 × Bool)} {p : P3} (m : Mem w0 w is) (k : Nat) (hk : is[k]? = some (mI g es c)) (hD1 : MapOf pt Value.bool D es c) : Calls Tryz.prog 142 [.map (some g),pt p].toArray w fun e w'=>∃ v i,e = .returned v ∧ Mem w0 w' (is.set k i) ∧ (v = .bool (!(mget D p).getD false) ∧ ∃ es' c',i = mI g es' c' ∧ MapOf pt Value.bool (mput D p true) es' c'):=by
 go_enter Tryz.func142,Tryz.ntmps142
 refine c_seq fun K1 k1=>wp_region_lit (mboxA m rfl ?_)
 clear m; intro g1 u m
 refine n_val (r_assign) (n_nil (k1 _ _ ?_))
 refine c_seq fun K2 k2=>c_seq fun K3 k3=>wp_region_lit (n_val (r_move) ?_)
 simp only [ev,zD,zE,zF,zG]
 refine n_load rfl ((m.b 0 rfl).full agg_28 cells_28) ?_
 simp only [ev,zD,zE,zF,zG]
 refine n_valW (r_lookup (ek:=pt) (en:=Value.bool) (k:=p) (v0:=false) Tryz.underlying173 zero_4 kt_28 rfl rfl (m.p (k + 1) hk) hD1) ?_
 simp only [ev,zD,zE,zF,zG]
 refine n_nil (k3 _ _ ?_)
 refine c_ifB rfl (fun hc1=>?_) (fun hc1=>?_)
 ·
  refine c_seq fun K4 k4=>wp_region_lit (n_val (r_assign) (n_nil (k4 _ _ ?_)))
  refine wp_ret ?_
  simp only [ev,zD,zE,zF,zG]
  try simp only [Exit.inBlock,Exit.then,if_true]
  refine fin1 rfl rfl ?_
  try simp only [zD,zE]
  exact ⟨_,mI g es c,rfl,by rw [set_same hk]; exact m.tl,by rw [hc1]; rfl,es,c,rfl,by rw [mput_same (by cases hq : mget D p with | none=>rw [hq] at hc1; cases hc1 | some x=>rw [hq] at hc1; exact congrArg some hc1)]; exact hD1⟩
 ·
  refine wp_skip (k2 _ _ ?_)
  refine c_seq fun K5 k5=>wp_region_lit (n_val (r_move) ?_)
  simp only [ev,zD,zE,zF,zG]
  refine n_load rfl ((m.b 0 rfl).full agg_28 cells_28) ?_
  simp only [ev,zD,zE,zF,zG]
  refine mupdate (ek:=pt) (en:=Value.bool) (a:=p) (v:=true) m (k + 1) hk Tryz.underlying173 kt_28 rfl rfl rfl hD1 ?_
  clear m; intro es1 c1 u m hD'; clear hD1; have hD1:=hD'; clear hD'; simp only [zF,zG] at m
  refine n_nil (k5 _ _ ?_)
  refine c_seq fun K6 k6=>wp_region_lit (n_val (r_assign) (n_nil (k6 _ _ ?_)))
  refine wp_ret ?_
  simp only [ev,zD,zE,zF,zG]
  try simp only [Exit.inBlock,Exit.then,if_true]
  refine fin1 rfl rfl ?_
  try simp only [zD,zE]
  exact ⟨_,_,rfl,m.tl,by rw [hc1]; rfl,_,_,rfl,hD1⟩
theorem sortP_c {w0 w : World} {is : List It} {A : Option Addr} {n cap : Nat} {xs : List P3} (m : Mem w0 w is) (k : Nat) (hi : is[k]? = some (oI 28 3 A n cap (xs.flatMap ptCells))) (hsz : n < 4611686018427387904) :
  Calls Tryz.prog 169 [.slice A n cap,.func (.func 144) #[] #[]].toArray w fun e w'=>∃ v i,e = .returned v ∧ Mem w0 w' (is.set k i) ∧ (v = .tuple #[] ∧ ∃ ys : List P3,i = oI 28 3 A n cap (ys.flatMap ptCells) ∧ ys.Perm xs ∧ ys.Pairwise fun a b=>ltOf cmpP b a = false) :=
 sort_mem (enc:=ptCells) Tryz.sort169 (fun w=>agg_run agg_28 w) (fun w=>size_run cells_28 w) (fun _=>rfl) (by decide) ptCells_one cmpP cmpP_swo (fun x y=>gcmpP_c) m k hi hsz
theorem sortedP_c {g c : Nat} {es : Array MapEntry} {D : List (P3 × Bool)} (w : World) (hM : MapB w g es c) (hD : MapOf pt Value.bool D es c) (hl : D.length ≤ 1000000) : Does Tryz.prog 143 [.map (some g),.func (.func 144) #[] #[]] w (OR 28 3 (fun xs=>∃ ps : List P3,xs = ps.flatMap ptCells ∧ ps.Perm (D.map (·.1)) ∧ ps.Pairwise fun a b=>¬ b.Lt a) w):=by
 refine ⟨en_143,?_⟩
 have m:=Mem.refl w
 go_enter Tryz.func143,Tryz.ntmps143
 refine c_seq fun K1 k1=>wp_region_lit (n_val (r_assign) (n_nil (k1 _ _ ?_)))
 refine c_seq fun K2 k2=>wp_region_lit (n_val (r_assign) ?_)
 replace m:=m.nilO 28 3
 refine n_nil (k2 _ _ ?_)
 refine c_seq fun K3 k3=>c_seq fun K4 k4=>wp_region_lit (n_val (r_move) ?_)
 simp only [ev,zD,zE,zF,zG]
 refine mrange m Tryz.underlying173 rfl (hM.ext m.ext) ?_
 clear m; intro r1 u m
 refine n_nil (k4 _ _ ?_)
 refine wp_block ?_
 simp only [ev,zD,zE,zF,zG]
 try simp only [Nat.zero_add,Nat.reduceAdd,Nat.reduceMul,Int.reduceToNat]
 refine c_loopg [5] [6,9,10,11,12,13,14,15,16] (fun n vs wl=>∃ (dn rs : List (P3 × Bool)) (A1 : Option Addr) (n1 cap1 : Nat) (sn : Array Nat),vs = [.slice A1 n1 cap1] ∧ Mem w wl [iI r1 g c sn,oI 28 3 A1 n1 cap1 ((dn.map (·.1)).flatMap ptCells)] ∧ (Trav pt Value.bool D es sn dn rs) ∧ (n1 = dn.length) ∧ (n = rs.length)) ?_ ?_
 ·
  apply Exists.intro
  simp only [zQ,zR,zD,zE]
  exact ⟨[],D,none,0,0,#[],rfl,m,Trav.start hD,rfl,rfl⟩
 ·
  intro n vs wr hI u
  clear m
  obtain ⟨dn,rs,A1,n1,cap1,sn,rfl,m,hT,hn1,hn⟩:=hI
  have hlen:=hT.len
  simp only [setG_cons,setG_nil,setMany_cons,setMany_nil,zF,zG]
  refine c_seq fun K5 k5=>wp_region_lit (mnext m 0 rfl rfl (hM.ext m.ext) hD hT ?_)
  clear m; intro bb kk vv sn u m hN; simp only [zF,zG] at m
  refine n_val (r_nextB rfl) (n_nil (k5 _ _ ?_))
  refine c_seq fun K6 k6=>?_
  simp only [ev,zD,zE,zF,zG]
  refine c_ifB rfl (fun hc1=>?_) (fun hc1=>?_)
  ·
   obtain ⟨kp,kb,rs2,hp,hT2⟩:=nxt_t hc1 hN
   refine wp_skip (k6 _ _ ?_)
   refine wp_block (c_seq fun K7 k7=>wp_region_lit (n_valW (r_entry rfl (m.r 0 rfl) (hM.ext m.ext) hD hT2) ?_))
   simp only [ev,zD,zE,zF,zG]
   refine n_val (r_extract rfl rfl) ?_
   simp only [ev,zD,zE,zF,zG]
   refine malloc m zero_28 rfl ?_
   clear m; intro g2 u m
   simp only [ev,zD,zE,zF,zG]
   refine mstoreA m 0 rfl rfl rfl cells_28 (leT rfl) rfl ?_
   clear m; intro u m; simp only [over,zH,zI,zJ,zK,zL,zM,zN,zO,zP,zF,zG,Nat.reduceAdd] at m
   refine n_nil (k7 _ _ ?_)
   refine wp_region_lit (n_val (r_move) ?_)
   simp only [ev,zD,zE,zF,zG]
   refine n_load rfl ((m.b 0 rfl).full agg_28 cells_28) ?_
   simp only [ev,zD,zE,zF,zG]
   refine n_bs_118_1 rfl ?_
   intro u g3 e hg hB; replace m:=m.newB e hg hB; clear e hg hB
   simp only [ev,zD,zE,zF,zG]
   refine mappend m 3 rfl rfl Tryz.underlying118 inf_28 rfl (by decide) rfl rfl rfl (m.b 0 rfl).rowsO (allT rfl) (by omega) (by omega) ?_
   clear m; intro A1 cap1 u m; simp only [zF,zG] at m
   refine n_val (r_assign) (n_nil ?_)
   simp only [ev,zD,zE,zF,zG]
   simp only [Exit.inBlock,Exit.then]
   refine ⟨rs2.length,_,?_,rfl,?_,?_⟩
   · rw [hn,hp.length_eq]; exact Nat.lt_succ_self _
   · simp only [zQ,zR,zD,zE,setG_cons,setG_nil,setMany_cons,setMany_nil,zF,zG]
   ·
    simp only [zQ,zR,zD,zE]
    exact ⟨dn ++ [(kp,kb)],rs2,_,_,_,_,rfl,((m.reO 3 rfl ((m.o 3 rfl).as (by simp [ptCells]))).sel [false,false,true,true]),hT2,by simp [hn1],rfl⟩
  ·
   obtain rfl:=nxt_f hc1 hN
   refine wp_exit (k3 _ _ ?_)
   refine c_seq fun K8 k8=>wp_region_lit (n_val (r_move) (n_val (r_move) ?_))
   simp only [ev,zD,zE,zF,zG]
   refine mcallF m 1 en_169 rfl rfl (fun m=>sortP_c m 1 rfl (by omega)) ?_
   clear m; rintro v i u m ⟨rfl,ys,rfl,hys,hso⟩; simp only [zF,zG] at m
   refine n_nil (k8 _ _ ?_)
   refine c_seq fun K9 k9=>wp_region_lit (n_val (r_move) (n_val (r_assign) (n_nil (k9 _ _ ?_))))
   refine wp_ret ?_
   simp only [ev,zD,zE,zF,zG]
   try simp only [Exit.inBlock,Exit.then,if_true]
   refine fin1 rfl rfl ?_
   try simp only [zD,zE]
   exact ⟨_,rfl,m.ext,_,_,_,_,rfl,(m.o 1 rfl),_,rfl,hys.trans (hT.done.map _),hso.imp fun h=>by simpa [ltOf,cmpP_neg] using h⟩
end Go.Proofs.YtmcgcnpgkkfkoaaGreatDoor
namespace Go.Proofs.YtmcgcnpgkkfkoaaGreatDoor
open Go.RowKit Go.Lith
set_option maxRecDepth 100000
attribute [local irreducible] wpList wpQuiet wpMix wpMixH wpTree Code.wp
theorem cornersP_c {ts : List T3} {N cap : Nat} {A : Option Addr} (w : World) (hT : TrisAt w A N ts) (hN : N ≤ 100000) : Does Tryz.prog 84 [.slice A N cap] w (OR 28 3 (fun xs=>∃ ps : List P3,xs = ps.flatMap ptCells ∧ Sorted ps ∧ ∀ a,a ∈ ps ↔ a ∈ corsT ts) w):=by
 refine ⟨en_84,?_⟩
 have m:=Mem.refl w
 go_enter Tryz.func84,Tryz.ntmps84
 refine c_seq fun K1 k1=>wp_region_lit (n_val (r_assign) (n_nil (k1 _ _ ?_)))
 refine c_seq fun K2 k2=>wp_region_lit ?_
 simp only [ev,zD,zE,zF,zG]
 refine mmakeMap m ?_
 clear m; intro q8 u m
 have hD8:=MapOf.nil (K:=P3) (V:=Bool) pt Value.bool
 refine n_val (r_assign) (n_nil (k2 _ _ ?_))
 refine c_seq fun K3 k3=>c_seq fun K4 k4=>wp_region_lit (n_val (r_move) (n_val (r_lenS rfl Tryz.underlying24 rfl) ?_))
 simp only [ev,zD,zE,zF,zG]
 refine n_val (r_move) (n_nil (k4 _ _ ?_))
 refine wp_block ?_
 simp only [ev,zD,zE,zF,zG]
 try simp only [Nat.zero_add,Nat.reduceAdd,Nat.reduceMul,Int.reduceToNat]
 refine c_loopg [11] [5,7,12,13,14,15,16,17,18,19,20,21,22,23] (fun n vs wl=>∃ (k : Nat) (es : Array MapEntry) (c : Nat),vs = [.int .i64 (k:Int)] ∧ Mem w wl [mI q8 es c] ∧ (MapOf pt Value.bool (addsP [] (corsT (ts.take k))) es c) ∧ (k ≤ N) ∧ (n = N - k)) ?_ ?_
 ·
  apply Exists.intro
  simp only [zQ,zR,zD,zE]
  exact ⟨0,_,_,rfl,m,hD8,Nat.zero_le _,rfl⟩
 ·
  intro n vs wr hI u
  clear m
  obtain ⟨k,es,c,rfl,m,hD8,hk,hn⟩:=hI
  simp only [setG_cons,setG_nil,setMany_cons,setMany_nil,zF,zG]
  refine c_seq fun K5 k5=>wp_region_lit (n_val (r_lss rfl rfl) (n_nil (k5 _ _ ?_)))
  refine c_seq fun K6 k6=>?_
  simp only [ev,zD,zE,zF,zG]
  refine c_if rfl (fun hc1=>?_) (fun hc1=>?_)
  ·
   obtain ⟨t,ht,_,a,rfl,hrow⟩:=hT.get (i:=k) (by omega)
   refine wp_skip (k6 _ _ ?_)
   refine c_seq fun K7 k7=>wp_block (c_seq fun K8 k8=>wp_region_lit (n_val (r_indexAddrS Tryz.underlying24 cells_59 rfl rfl (by omega) (by omega) (addrN (Int.toNat_natCast _))) ?_))
   simp only [ev,zD,zE,zF,zG]
   refine n_load rfl (((hrow.ext m.ext)).lies agg_59 cells_59) ?_
   simp only [ev,zD,zE,zF,zG]
   refine malloc m zero_59 rfl ?_
   clear m; intro g2 u m
   simp only [ev,zD,zE,zF,zG]
   refine mstoreA m 0 rfl rfl rfl cells_59 (leT rfl) rfl ?_
   clear m; intro u m; simp only [over,zH,zI,zJ,zK,zL,zM,zN,zO,zP,zF,zG,Nat.reduceAdd] at m
   refine n_nil (k8 _ _ ?_)
   refine c_seq fun K9 k9=>wp_region_lit (n_load rfl ((m.b 0 rfl).full agg_59 cells_59) ?_)
   simp only [ev,zD,zE,zF,zG]
   refine n_val (r_move) (n_nil (k9 _ _ ?_))
   refine wp_block (wp_loop_rounds 4 (rounds_step (c_seq fun K10 k10=>wp_region_lit (n_val (r_lssT (m:=0) (n:=3) rfl rfl (by decide)) (n_nil (k10 _ _ ?_))))))
   refine c_seq fun K11 k11=>c_yes rfl (wp_skip (k11 _ _ ?_))
   refine c_seq fun K12 k12=>wp_block (c_seq fun K13 k13=>wp_region_lit (n_val (r_index_59_0 rfl rfl) ?_))
   simp only [ev,zD,zE,zF,zG]
   refine malloc m zero_28 rfl ?_
   clear m; intro g3 u m
   simp only [ev,zD,zE,zF,zG]
   refine mstoreA m 0 rfl rfl rfl cells_28 (leT rfl) rfl ?_
   clear m; intro u m; simp only [over,zH,zI,zJ,zK,zL,zM,zN,zO,zP,zF,zG,Nat.reduceAdd] at m
   refine n_nil (k13 _ _ ?_)
   refine wp_region_lit (n_val (r_move) ?_)
   simp only [ev,zD,zE,zF,zG]
   refine n_load rfl ((m.b 0 rfl).full agg_28 cells_28) ?_
   simp only [ev,zD,zE,zF,zG]
   refine mcallF m 2 en_142 rfl rfl (fun m=>addP_c (p:=t.a) m 2 rfl hD8) ?_
   clear m; rintro v i u m ⟨rfl,es',c',rfl,hD'⟩; simp only [zF,zG] at m
   simp only [ev,zD,zE,zF,zG]
   clear hD8; have hD8:=hD'; clear hD'
   refine n_nil (k12 _ _ ?_)
   refine wp_region_lit (n_val (r_add (m:=0) (n:=1) (r:=1) rfl rfl (by decide)) (n_val (r_move) (n_nil (then_rounds (c_seq fun K14 k14=>wp_region_lit (n_val (r_lssT (m:=1) (n:=3) rfl rfl (by decide)) (n_nil (k14 _ _ ?_))))))))
   refine c_seq fun K15 k15=>c_yes rfl (wp_skip (k15 _ _ ?_))
   refine c_seq fun K16 k16=>wp_block (c_seq fun K17 k17=>wp_region_lit (n_val (r_index_59_1 rfl rfl) ?_))
   simp only [ev,zD,zE,zF,zG]
   refine malloc m zero_28 rfl ?_
   clear m; intro g4 u m
   simp only [ev,zD,zE,zF,zG]
   refine mstoreA m 0 rfl rfl rfl cells_28 (leT rfl) rfl ?_
   clear m; intro u m; simp only [over,zH,zI,zJ,zK,zL,zM,zN,zO,zP,zF,zG,Nat.reduceAdd] at m
   refine n_nil (k17 _ _ ?_)
   refine wp_region_lit (n_val (r_move) ?_)
   simp only [ev,zD,zE,zF,zG]
   refine n_load rfl ((m.b 0 rfl).full agg_28 cells_28) ?_
   simp only [ev,zD,zE,zF,zG]
   refine mcallF m 3 en_142 rfl rfl (fun m=>addP_c (p:=t.b) m 3 rfl hD8) ?_
   clear m; rintro v i u m ⟨rfl,es',c',rfl,hD'⟩; simp only [zF,zG] at m
   simp only [ev,zD,zE,zF,zG]
   clear hD8; have hD8:=hD'; clear hD'
   refine n_nil (k16 _ _ ?_)
   refine wp_region_lit (n_val (r_add (m:=1) (n:=1) (r:=2) rfl rfl (by decide)) (n_val (r_move) (n_nil (then_rounds (c_seq fun K18 k18=>wp_region_lit (n_val (r_lssT (m:=2) (n:=3) rfl rfl (by decide)) (n_nil (k18 _ _ ?_))))))))
   refine c_seq fun K19 k19=>c_yes rfl (wp_skip (k19 _ _ ?_))
   refine c_seq fun K20 k20=>wp_block (c_seq fun K21 k21=>wp_region_lit (n_val (r_index_59_2 rfl rfl) ?_))
   simp only [ev,zD,zE,zF,zG]
   refine malloc m zero_28 rfl ?_
   clear m; intro g5 u m
   simp only [ev,zD,zE,zF,zG]
   refine mstoreA m 0 rfl rfl rfl cells_28 (leT rfl) rfl ?_
   clear m; intro u m; simp only [over,zH,zI,zJ,zK,zL,zM,zN,zO,zP,zF,zG,Nat.reduceAdd] at m
   refine n_nil (k21 _ _ ?_)
   refine wp_region_lit (n_val (r_move) ?_)
   simp only [ev,zD,zE,zF,zG]
   refine n_load rfl ((m.b 0 rfl).full agg_28 cells_28) ?_
   simp only [ev,zD,zE,zF,zG]
   refine mcallF m 4 en_142 rfl rfl (fun m=>addP_c (p:=t.c) m 4 rfl hD8) ?_
   clear m; rintro v i u m ⟨rfl,es',c',rfl,hD'⟩; simp only [zF,zG] at m
   simp only [ev,zD,zE,zF,zG]
   clear hD8; have hD8:=hD'; clear hD'
   refine n_nil (k20 _ _ ?_)
   refine wp_region_lit (n_val (r_add (m:=2) (n:=1) (r:=3) rfl rfl (by decide)) (n_val (r_move) (n_nil (then_rounds (c_seq fun K22 k22=>wp_region_lit (n_val (r_lssF (m:=3) (n:=3) rfl rfl (by decide)) (n_nil (k22 _ _ ?_))))))))
   refine c_seq fun K23 k23=>c_no rfl (wp_exit (k7 _ _ ?_))
   refine wp_region_lit ?_
   simp only [ev,zD,zE,zF,zG]
   refine n_val (r_add rfl rfl (wrap_i64 (by omega) (by omega))) (n_val (r_move) (n_nil ?_))
   simp only [ev,zD,zE,zF,zG]
   simp only [Exit.inBlock,Exit.then]
   refine ⟨N - (k + 1),_,?_,rfl,?_,?_⟩
   · omega
   · simp only [zQ,zR,zD,zE,setG_cons,setG_nil,setMany_cons,setMany_nil,zF,zG]
   ·
    simp only [zQ,zR,zD,zE]
    exact ⟨k + 1,_,_,rfl,(m.sel [false,false,false,false,true]),by rw [addsP_step ht]; exact hD8,by omega,rfl⟩
  ·
   have hkN : k = N:=by omega
   rw [hkN,show ts.take N = ts from List.take_of_length_le (by rw [hT.len]; exact Nat.le_refl _)] at hD8
   refine wp_exit (k3 _ _ ?_)
   refine c_seq fun K24 k24=>wp_region_lit (n_val (r_move) ?_)
   simp only [ev,zD,zE,zF,zG]
   refine n_call rfl rfl (sortedP_c _ (m.p 0 rfl) hD8 (by have h1:=addsP_length (corsT ts) []; have h2:=corsT_length ts; have h3:=hT.len; simp only [List.length_nil] at h1; omega)) ?_
   rintro v u e ⟨A9,n9,cap9,_,rfl,hN,ps,rfl,hps,hso⟩; replace m:=m.newO e hN; clear e hN
   refine n_val (r_assign) (n_nil (k24 _ _ ?_))
   refine wp_ret ?_
   simp only [ev,zD,zE,zF,zG]
   try simp only [Exit.inBlock,Exit.then,if_true]
   refine fin1 rfl rfl ?_
   try simp only [zD,zE]
   exact ⟨_,rfl,m.ext,_,_,_,_,rfl,(m.o 0 rfl),ps,rfl,sorted_of (hps.nodup_iff.2 (addsP_nodup _ _ .nil)) hso,fun a=>by rw [hps.mem_iff,addsP_mem]; simp⟩
theorem Box_c {ts : List T3} {N cap : Nat} {A : Option Addr} (w : World) (hT : TrisAt w A N ts) (hN : N ≤ 100000) : Does Tryz.prog 32 [.slice A N cap] w (fun v _=>v = .tuple #[pt (loP (corsT ts)),pt (hiP (corsT ts)),.bool (decide ((0 : Int) < (N : Int)))]):=by
 refine ⟨en_32,?_⟩
 have m:=Mem.refl w
 go_enter Tryz.func32,Tryz.ntmps32
 refine c_seq fun K1 k1=>wp_region_lit (malloc m zero_28 rfl ?_)
 clear m; intro g1 u m
 simp only [ev,zD,zE,zF,zG]
 refine malloc m zero_28 rfl ?_
 clear m; intro g2 u m
 refine n_val (r_assign) (n_nil (k1 _ _ ?_))
 refine c_seq fun K2 k2=>c_seq fun K3 k3=>wp_region_lit (n_val (r_move) ?_)
 simp only [ev,zD,zE,zF,zG]
 refine n_call rfl rfl (cornersP_c _ (hT.ext m.ext) hN) ?_
 rintro v u e ⟨A8,n8,cap8,_,rfl,hN,ps,rfl,hso,hmem⟩; replace m:=m.newO e hN; clear e hN
 obtain rfl : ps.length = n8:=by have:=(m.o 0 rfl).own.1; rw [ptsLen] at this; omega
 refine n_val (r_lenS rfl Tryz.underlying118 rfl) (n_val (r_move) (n_nil (k3 _ _ ?_)))
 refine wp_block ?_
 simp only [ev,zD,zE,zF,zG]
 try simp only [Nat.zero_add,Nat.reduceAdd,Nat.reduceMul,Int.reduceToNat]
 refine c_loopg [10] [5,6,11,12,13,14,15,16,17,18,19,20,21,22,23,24,25,26,27,28,29,30,31,32,33,34,35,36,37,38,39,40,41,42,43,44,45,46,47,48,49,50,51] (fun n vs wl=>∃ (k : Nat),vs = [.int .i64 (k:Int)] ∧ Mem w wl [oI 28 3 A8 ps.length cap8 (ps.flatMap ptCells),bI g2 [.int .i64 (hiP (ps.take k)).x,.int .i64 (hiP (ps.take k)).y,.int .i64 (hiP (ps.take k)).z] 28,bI g1 [.int .i64 (loP (ps.take k)).x,.int .i64 (loP (ps.take k)).y,.int .i64 (loP (ps.take k)).z] 28] ∧ (k ≤ ps.length) ∧ (n = ps.length - k)) ?_ ?_
 ·
  apply Exists.intro
  simp only [zQ,zR,zD,zE]
  exact ⟨0,rfl,m,Nat.zero_le _,rfl⟩
 ·
  intro n vs wr hI u
  clear m
  obtain ⟨k,rfl,m,hk,hn⟩:=hI
  simp only [setG_cons,setG_nil,setMany_cons,setMany_nil,zF,zG]
  refine c_seq fun K4 k4=>wp_region_lit (n_val (r_lss rfl rfl) (n_nil (k4 _ _ ?_)))
  refine c_seq fun K5 k5=>?_
  simp only [ev,zD,zE,zF,zG]
  refine c_if rfl (fun hc1=>?_) (fun hc1=>?_)
  ·
   have hle8 : ps.length ≤ 9223372036854775807:=Nat.le_trans (m.o 0 rfl).le (m.o 0 rfl).max
   obtain ⟨p,hp⟩ : ∃ p,ps[k]? = some p:=⟨_,List.getElem?_eq_getElem (by omega)⟩
   obtain ⟨gO,rfl⟩:=(m.o 0 rfl).some (by omega)
   refine wp_skip (k5 _ _ ?_)
   refine c_seq fun K6 k6=>wp_block (c_seq fun K7 k7=>wp_region_lit (n_val (r_move) ?_))
   simp only [ev,zD,zE,zF,zG]
   refine n_val (r_indexAddrS Tryz.underlying118 cells_28 rfl rfl (by omega) (by omega) (addrN (Int.toNat_natCast _))) ?_
   simp only [ev,zD,zE,zF,zG]
   refine n_load rfl (((m.o 0 rfl).pt hp).lies agg_28 cells_28) ?_
   simp only [ev,zD,zE,zF,zG]
   refine malloc m zero_28 rfl ?_
   clear m; intro g3 u m
   refine n_val (r_assign) ?_
   simp only [ev,zD,zE,zF,zG]
   refine mstoreA m 0 rfl rfl rfl cells_28 (leT rfl) rfl ?_
   clear m; intro u m; simp only [over,zH,zI,zJ,zK,zL,zM,zN,zO,zP,zF,zG,Nat.reduceAdd] at m
   refine n_nil (k7 _ _ ?_)
   refine c_seq fun K8 k8=>c_seq fun K9 k9=>wp_region_lit (n_val (r_move) (n_val (r_eql rfl rfl) (n_nil (k9 _ _ ?_))))
   simp only [ev,zD,zE,zF,zG]
   refine c_if rfl (fun hc2=>?_) (fun hc2=>?_)
   ·
    refine mh m [true,true,false,false] [(0,true),(1,true),(2,false),(3,false)] follows_mixed (by kernel_rfl) (panic_put (fun _ _ _ _ _ h=>h)) (ol:=?_) ?hol ?_
    case hol=>simp only [zQ,zR,zS,zT,zU,zV]; try rfl
    clear m; intro u m
    refine h_load rfl (fun u m=>((m.b 0 rfl).full agg_28 cells_28)) ?_
    simp only [ev,zD,zE,zF,zG]
    refine h_load rfl (fun u m=>((m.b 0 rfl).full agg_28 cells_28)) ?_
    simp only [ev,zD,zE,zF,zG]
    refine h_step (mstoreA m 3 rfl rfl rfl cells_28 (leT rfl) rfl ?_)
    clear m; intro u m; simp only [over,zH,zI,zJ,zK,zL,zM,zN,zO,zP,zF,zG,Nat.reduceAdd] at m
    refine n_nil ?_
    refine ⟨m.sel [true,true,false,false],?_⟩
    refine h_step (mstoreA m 2 rfl rfl rfl cells_28 (leT rfl) rfl ?_)
    clear m; intro u m; simp only [over,zH,zI,zJ,zK,zL,zM,zN,zO,zP,zF,zG,Nat.reduceAdd] at m
    refine n_nil ?_
    refine ⟨m.sel [true,true,false,false],?_⟩
    refine h_nil (k8 _ _ ?_)
    refine c_seq fun K10 k10=>wp_region_lit (n_val (r_fieldAddr (c:=0) Tryz.underlying28 rfl cells_3 rfl rfl) ?_)
    simp only [ev,zD,zE,zF,zG]
    refine n_load rfl ((m.b 3 rfl).lies1 agg_3 rfl) ?_
    simp only [ev,zD,zE,zF,zG]
    refine n_val (r_fieldAddr (c:=0) Tryz.underlying28 rfl cells_3 rfl rfl) ?_
    simp only [ev,zD,zE,zF,zG]
    refine n_load rfl ((m.b 0 rfl).lies1 agg_3 rfl) ?_
    simp only [ev,zD,zE,zF,zG]
    refine n_val (r_min rfl rfl rfl) (n_val (r_fieldAddr (c:=0) Tryz.underlying28 rfl cells_3 rfl rfl) ?_)
    simp only [ev,zD,zE,zF,zG]
    refine n_load rfl ((m.b 3 rfl).lies1 agg_3 rfl) ?_
    simp only [ev,zD,zE,zF,zG]
    refine n_val (r_fieldAddr (c:=0) Tryz.underlying28 rfl cells_3 rfl rfl) ?_
    simp only [ev,zD,zE,zF,zG]
    refine n_load rfl ((m.b 0 rfl).lies1 agg_3 rfl) ?_
    simp only [ev,zD,zE,zF,zG]
    refine n_val (r_min rfl rfl rfl) (n_val (r_fieldAddr (c:=0) Tryz.underlying28 rfl cells_3 rfl rfl) ?_)
    simp only [ev,zD,zE,zF,zG]
    refine n_load rfl ((m.b 3 rfl).lies1 agg_3 rfl) ?_
    simp only [ev,zD,zE,zF,zG]
    refine n_val (r_fieldAddr (c:=0) Tryz.underlying28 rfl cells_3 rfl rfl) ?_
    simp only [ev,zD,zE,zF,zG]
    refine n_load rfl ((m.b 0 rfl).lies1 agg_3 rfl) ?_
    simp only [ev,zD,zE,zF,zG]
    refine n_val (r_min rfl rfl rfl) (n_val (r_build_28_0_1_2 rfl rfl rfl) ?_)
    simp only [ev,zD,zE,zF,zG]
    refine mstoreA m 3 rfl rfl rfl cells_28 (leT rfl) rfl ?_
    clear m; intro u m; simp only [over,zH,zI,zJ,zK,zL,zM,zN,zO,zP,zF,zG,Nat.reduceAdd] at m
    refine n_nil (k10 _ _ ?_)
    refine wp_region_lit (n_val (r_fieldAddr (c:=0) Tryz.underlying28 rfl cells_3 rfl rfl) ?_)
    simp only [ev,zD,zE,zF,zG]
    refine n_load rfl ((m.b 2 rfl).lies1 agg_3 rfl) ?_
    simp only [ev,zD,zE,zF,zG]
    refine n_val (r_fieldAddr (c:=0) Tryz.underlying28 rfl cells_3 rfl rfl) ?_
    simp only [ev,zD,zE,zF,zG]
    refine n_load rfl ((m.b 0 rfl).lies1 agg_3 rfl) ?_
    simp only [ev,zD,zE,zF,zG]
    refine n_val (r_max rfl rfl rfl) (n_val (r_fieldAddr (c:=0) Tryz.underlying28 rfl cells_3 rfl rfl) ?_)
    simp only [ev,zD,zE,zF,zG]
    refine n_load rfl ((m.b 2 rfl).lies1 agg_3 rfl) ?_
    simp only [ev,zD,zE,zF,zG]
    refine n_val (r_fieldAddr (c:=0) Tryz.underlying28 rfl cells_3 rfl rfl) ?_
    simp only [ev,zD,zE,zF,zG]
    refine n_load rfl ((m.b 0 rfl).lies1 agg_3 rfl) ?_
    simp only [ev,zD,zE,zF,zG]
    refine n_val (r_max rfl rfl rfl) (n_val (r_fieldAddr (c:=0) Tryz.underlying28 rfl cells_3 rfl rfl) ?_)
    simp only [ev,zD,zE,zF,zG]
    refine n_load rfl ((m.b 2 rfl).lies1 agg_3 rfl) ?_
    simp only [ev,zD,zE,zF,zG]
    refine n_val (r_fieldAddr (c:=0) Tryz.underlying28 rfl cells_3 rfl rfl) ?_
    simp only [ev,zD,zE,zF,zG]
    refine n_load rfl ((m.b 0 rfl).lies1 agg_3 rfl) ?_
    simp only [ev,zD,zE,zF,zG]
    refine n_val (r_max rfl rfl rfl) (n_val (r_build_28_0_1_2 rfl rfl rfl) ?_)
    simp only [ev,zD,zE,zF,zG]
    refine mstoreA m 2 rfl rfl rfl cells_28 (leT rfl) rfl ?_
    clear m; intro u m; simp only [over,zH,zI,zJ,zK,zL,zM,zN,zO,zP,zF,zG,Nat.reduceAdd] at m
    refine n_nil (k6 _ _ ?_)
    refine wp_region_lit (n_val (r_add rfl rfl (wrap_i64 (by omega) (by omega))) (n_val (r_move) (n_nil ?_)))
    simp only [ev,zD,zE,zF,zG]
    simp only [Exit.inBlock,Exit.then]
    refine ⟨ps.length - (k + 1),_,?_,rfl,?_,?_⟩
    · omega
    · simp only [zQ,zR,zD,zE,setG_cons,setG_nil,setMany_cons,setMany_nil,zF,zG]
    ·
     simp only [zQ,zR,zD,zE]
     exact ⟨k + 1,rfl,(((m.re 3 rfl (by rw [loP_one1 (by omega) hp]; exact (m.b 3 rfl))).re 2 rfl (by rw [hiP_one1 (by omega) hp]; exact (m.b 2 rfl))).sel [false,true,true,true]),by omega,rfl⟩
   ·
    have hk0 : 0 < k:=by omega
    refine wp_skip (k8 _ _ ?_)
    refine c_seq fun K11 k11=>wp_region_lit (n_val (r_fieldAddr (c:=0) Tryz.underlying28 rfl cells_3 rfl rfl) ?_)
    simp only [ev,zD,zE,zF,zG]
    refine n_load rfl ((m.b 3 rfl).lies1 agg_3 rfl) ?_
    simp only [ev,zD,zE,zF,zG]
    refine n_val (r_fieldAddr (c:=0) Tryz.underlying28 rfl cells_3 rfl rfl) ?_
    simp only [ev,zD,zE,zF,zG]
    refine n_load rfl ((m.b 0 rfl).lies1 agg_3 rfl) ?_
    simp only [ev,zD,zE,zF,zG]
    refine n_val (r_min rfl rfl rfl) (n_val (r_fieldAddr (c:=0) Tryz.underlying28 rfl cells_3 rfl rfl) ?_)
    simp only [ev,zD,zE,zF,zG]
    refine n_load rfl ((m.b 3 rfl).lies1 agg_3 rfl) ?_
    simp only [ev,zD,zE,zF,zG]
    refine n_val (r_fieldAddr (c:=0) Tryz.underlying28 rfl cells_3 rfl rfl) ?_
    simp only [ev,zD,zE,zF,zG]
    refine n_load rfl ((m.b 0 rfl).lies1 agg_3 rfl) ?_
    simp only [ev,zD,zE,zF,zG]
    refine n_val (r_min rfl rfl rfl) (n_val (r_fieldAddr (c:=0) Tryz.underlying28 rfl cells_3 rfl rfl) ?_)
    simp only [ev,zD,zE,zF,zG]
    refine n_load rfl ((m.b 3 rfl).lies1 agg_3 rfl) ?_
    simp only [ev,zD,zE,zF,zG]
    refine n_val (r_fieldAddr (c:=0) Tryz.underlying28 rfl cells_3 rfl rfl) ?_
    simp only [ev,zD,zE,zF,zG]
    refine n_load rfl ((m.b 0 rfl).lies1 agg_3 rfl) ?_
    simp only [ev,zD,zE,zF,zG]
    refine n_val (r_min rfl rfl rfl) (n_val (r_build_28_0_1_2 rfl rfl rfl) ?_)
    simp only [ev,zD,zE,zF,zG]
    refine mstoreA m 3 rfl rfl rfl cells_28 (leT rfl) rfl ?_
    clear m; intro u m; simp only [over,zH,zI,zJ,zK,zL,zM,zN,zO,zP,zF,zG,Nat.reduceAdd] at m
    refine n_nil (k11 _ _ ?_)
    refine wp_region_lit (n_val (r_fieldAddr (c:=0) Tryz.underlying28 rfl cells_3 rfl rfl) ?_)
    simp only [ev,zD,zE,zF,zG]
    refine n_load rfl ((m.b 2 rfl).lies1 agg_3 rfl) ?_
    simp only [ev,zD,zE,zF,zG]
    refine n_val (r_fieldAddr (c:=0) Tryz.underlying28 rfl cells_3 rfl rfl) ?_
    simp only [ev,zD,zE,zF,zG]
    refine n_load rfl ((m.b 0 rfl).lies1 agg_3 rfl) ?_
    simp only [ev,zD,zE,zF,zG]
    refine n_val (r_max rfl rfl rfl) (n_val (r_fieldAddr (c:=0) Tryz.underlying28 rfl cells_3 rfl rfl) ?_)
    simp only [ev,zD,zE,zF,zG]
    refine n_load rfl ((m.b 2 rfl).lies1 agg_3 rfl) ?_
    simp only [ev,zD,zE,zF,zG]
    refine n_val (r_fieldAddr (c:=0) Tryz.underlying28 rfl cells_3 rfl rfl) ?_
    simp only [ev,zD,zE,zF,zG]
    refine n_load rfl ((m.b 0 rfl).lies1 agg_3 rfl) ?_
    simp only [ev,zD,zE,zF,zG]
    refine n_val (r_max rfl rfl rfl) (n_val (r_fieldAddr (c:=0) Tryz.underlying28 rfl cells_3 rfl rfl) ?_)
    simp only [ev,zD,zE,zF,zG]
    refine n_load rfl ((m.b 2 rfl).lies1 agg_3 rfl) ?_
    simp only [ev,zD,zE,zF,zG]
    refine n_val (r_fieldAddr (c:=0) Tryz.underlying28 rfl cells_3 rfl rfl) ?_
    simp only [ev,zD,zE,zF,zG]
    refine n_load rfl ((m.b 0 rfl).lies1 agg_3 rfl) ?_
    simp only [ev,zD,zE,zF,zG]
    refine n_val (r_max rfl rfl rfl) (n_val (r_build_28_0_1_2 rfl rfl rfl) ?_)
    simp only [ev,zD,zE,zF,zG]
    refine mstoreA m 2 rfl rfl rfl cells_28 (leT rfl) rfl ?_
    clear m; intro u m; simp only [over,zH,zI,zJ,zK,zL,zM,zN,zO,zP,zF,zG,Nat.reduceAdd] at m
    refine n_nil (k6 _ _ ?_)
    refine wp_region_lit (n_val (r_add rfl rfl (wrap_i64 (by omega) (by omega))) (n_val (r_move) (n_nil ?_)))
    simp only [ev,zD,zE,zF,zG]
    simp only [Exit.inBlock,Exit.then]
    refine ⟨ps.length - (k + 1),_,?_,rfl,?_,?_⟩
    · omega
    · simp only [zQ,zR,zD,zE,setG_cons,setG_nil,setMany_cons,setMany_nil,zF,zG]
    ·
     simp only [zQ,zR,zD,zE]
     exact ⟨k + 1,rfl,(((m.re 3 rfl (by rw [loP_step hp hk0]; exact (m.b 3 rfl))).re 2 rfl (by rw [hiP_step hp hk0]; exact (m.b 2 rfl))).sel [false,true,true,true]),by omega,rfl⟩
  ·
   have hkN : k = ps.length:=by omega
   rw [hkN,List.take_length] at m
   refine wp_exit (k2 _ _ ?_)
   refine c_seq fun K12 k12=>?_
   refine mtree m [true,false,false] (.take 2 (.take 3 (.take 4 (.two 0 (.two 1 (.one 5 (.one 6 (.take 7 .nil))) 5 (.one 1 (.one 6 (.take 7 .nil)))) 1 (.one 0 (.one 5 (.one 6 (.take 7 .nil)))))))) follows_mixed (by kernel_rfl) (panic_put (fun _ _ _ _ _ h=>h)) ?_
   clear m; intro u m
   refine t_take (by simp only [zS,zT,zU,zV]; rfl) (h_val (r_move) (h_nil (t_take (by simp only [zS,zT,zU,zV]; rfl) (h_val (r_lenS rfl Tryz.underlying24 rfl) (h_nil (t_take (by simp only [zS,zT,zU,zV]; rfl) (h_val (r_gtr rfl rfl) (h_nil ?_))))))))
   simp only [ev,zD,zE,zF,zG]
   refine t_two (by simp only [zS,zT,zU,zV]; rfl) (by simp only [zS,zT,zU,zV]; rfl) ?_ ?_
   ·
    refine n_load rfl ((m.b 2 rfl).full agg_28 cells_28) ?_
    simp only [ev,zD,zE,zF,zG]
    refine n_nil ?_
    refine ⟨m.sel [true,false,false],?_⟩
    refine t_two (by simp only [zS,zT,zU,zV]; rfl) (by simp only [zS,zT,zU,zV]; rfl) ?_ ?_
    ·
     refine n_load rfl ((m.b 1 rfl).full agg_28 cells_28) ?_
     simp only [ev,zD,zE,zF,zG]
     refine n_nil ?_
     refine ⟨m.sel [true,false,false],?_⟩
     refine t_one (by simp only [zS,zT,zU,zV]; rfl) (mstoreA m 2 rfl rfl rfl cells_28 (leT rfl) rfl ?_)
     clear m; intro u m; simp only [over,zH,zI,zJ,zK,zL,zM,zN,zO,zP,zF,zG,Nat.reduceAdd] at m
     refine n_nil ?_
     refine ⟨m.sel [true,false,false],?_⟩
     refine t_one (by simp only [zS,zT,zU,zV]; rfl) (mstoreA m 1 rfl rfl rfl cells_28 (leT rfl) rfl ?_)
     clear m; intro u m; simp only [over,zH,zI,zJ,zK,zL,zM,zN,zO,zP,zF,zG,Nat.reduceAdd] at m
     refine n_nil ?_
     refine ⟨m.sel [true,false,false],?_⟩
     refine t_take (by simp only [zS,zT,zU,zV]; rfl) (h_val (r_assign) (h_nil (t_nil (k12 _ _ ?_))))
     refine wp_ret ?_
     simp only [ev,zD,zE,zF,zG]
     try simp only [Exit.inBlock,Exit.then,if_true]
     refine fin3 rfl ⟨_,rfl,((m.b 2 rfl).full agg_28 cells_28)⟩ ⟨_,rfl,((m.b 1 rfl).full agg_28 cells_28)⟩ rfl ?_
     try simp only [zD,zE]
     exact ⟨_,rfl,m.ext,by rw [loP_ext hmem,hiP_ext hmem]; rfl⟩
    ·
     refine mstoreA m 2 rfl rfl rfl cells_28 (leT rfl) rfl ?_
     clear m; intro u m; simp only [over,zH,zI,zJ,zK,zL,zM,zN,zO,zP,zF,zG,Nat.reduceAdd] at m
     refine n_nil ?_
     refine ⟨m.sel [true,false,false],?_⟩
     refine t_one (by simp only [zS,zT,zU,zV]; rfl) (n_load rfl ((m.b 1 rfl).full agg_28 cells_28) ?_)
     simp only [ev,zD,zE,zF,zG]
     refine n_nil ?_
     refine ⟨m.sel [true,false,false],?_⟩
     refine t_one (by simp only [zS,zT,zU,zV]; rfl) (mstoreA m 1 rfl rfl rfl cells_28 (leT rfl) rfl ?_)
     clear m; intro u m; simp only [over,zH,zI,zJ,zK,zL,zM,zN,zO,zP,zF,zG,Nat.reduceAdd] at m
     refine n_nil ?_
     refine ⟨m.sel [true,false,false],?_⟩
     refine t_take (by simp only [zS,zT,zU,zV]; rfl) (h_val (r_assign) (h_nil (t_nil (k12 _ _ ?_))))
     refine wp_ret ?_
     simp only [ev,zD,zE,zF,zG]
     try simp only [Exit.inBlock,Exit.then,if_true]
     refine fin3 rfl ⟨_,rfl,((m.b 2 rfl).full agg_28 cells_28)⟩ ⟨_,rfl,((m.b 1 rfl).full agg_28 cells_28)⟩ rfl ?_
     try simp only [zD,zE]
     exact ⟨_,rfl,m.ext,by rw [loP_ext hmem,hiP_ext hmem]; rfl⟩
   ·
    refine n_load rfl ((m.b 1 rfl).full agg_28 cells_28) ?_
    simp only [ev,zD,zE,zF,zG]
    refine n_nil ?_
    refine ⟨m.sel [true,false,false],?_⟩
    refine t_one (by simp only [zS,zT,zU,zV]; rfl) (n_load rfl ((m.b 2 rfl).full agg_28 cells_28) ?_)
    simp only [ev,zD,zE,zF,zG]
    refine n_nil ?_
    refine ⟨m.sel [true,false,false],?_⟩
    refine t_one (by simp only [zS,zT,zU,zV]; rfl) (mstoreA m 2 rfl rfl rfl cells_28 (leT rfl) rfl ?_)
    clear m; intro u m; simp only [over,zH,zI,zJ,zK,zL,zM,zN,zO,zP,zF,zG,Nat.reduceAdd] at m
    refine n_nil ?_
    refine ⟨m.sel [true,false,false],?_⟩
    refine t_one (by simp only [zS,zT,zU,zV]; rfl) (mstoreA m 1 rfl rfl rfl cells_28 (leT rfl) rfl ?_)
    clear m; intro u m; simp only [over,zH,zI,zJ,zK,zL,zM,zN,zO,zP,zF,zG,Nat.reduceAdd] at m
    refine n_nil ?_
    refine ⟨m.sel [true,false,false],?_⟩
    refine t_take (by simp only [zS,zT,zU,zV]; rfl) (h_val (r_assign) (h_nil (t_nil (k12 _ _ ?_))))
    refine wp_ret ?_
    simp only [ev,zD,zE,zF,zG]
    try simp only [Exit.inBlock,Exit.then,if_true]
    refine fin3 rfl ⟨_,rfl,((m.b 2 rfl).full agg_28 cells_28)⟩ ⟨_,rfl,((m.b 1 rfl).full agg_28 cells_28)⟩ rfl ?_
    try simp only [zD,zE]
    exact ⟨_,rfl,m.ext,by rw [loP_ext hmem,hiP_ext hmem]; rfl⟩
end Go.Proofs.YtmcgcnpgkkfkoaaGreatDoor
namespace Go.Proofs.YtmcgcnpgkkfkoaaGreatDoor
open Go.RowKit Go.Lith
set_option maxRecDepth 100000
attribute [local irreducible] wpList wpQuiet wpMix wpMixH wpTree Code.wp
theorem frac_mul (p q : Rat) : Rat.divInt (p.num * q.num) ((p.den : Int) * (q.den : Int)) = p * q:=by
 rw [← Rat.divInt_mul_divInt,Rat.num_divInt_den,Rat.num_divInt_den]
theorem den_ne (p : Rat) : (p.den : Int) ≠ 0:=Int.natCast_ne_zero.2 p.den_nz
theorem den_mul (p q : Rat) : (p.den : Int) * (q.den : Int) ≠ 0:=Int.mul_ne_zero (den_ne p) (den_ne q)
theorem bd_mul {a b c : Nat} {m n : Int} (x : Bd a m) (y : Bd b n) (h : a + b ≤ c:=by decide) : Bd c (m * n):=by
 haveI : Bw a m:=⟨x⟩
 haveI : Bw b n:=⟨y⟩
 have z : Bw (a + b) (m * n):=inferInstance
 exact z.h.mono h
theorem MulFrac_c {p q : Rat} (hp : Bq 150000 p) (hq : Bq 150000 q) : Pure Tryz.prog 38 [Q p,Q q] (Q (p * q)):=by
 intro w
 refine ⟨en_38,?_⟩
 have m:=Mem.refl w
 go_enter Tryz.func38,Tryz.ntmps38
 refine c_seq fun K1 k1=>wp_region_lit (mboxA m rfl ?_)
 clear m; intro g1 u m
 simp only [ev,zD,zE,zF,zG]
 refine mboxA m rfl ?_
 clear m; intro g2 u m
 simp only [ev,zD,zE,zF,zG]
 refine malloc m zero_34 rfl ?_
 clear m; intro g3 u m
 refine n_nil (k1 _ _ ?_)
 refine c_seq fun K2 k2=>wp_region_lit ?_
 simp only [ev,zD,zE,zF,zG]
 refine n_load rfl ((m.b 2 rfl).full agg_34 cells_34) ?_
 simp only [ev,zD,zE,zF,zG]
 refine mcallP m rfl rfl (parts_c (q:=p) (hp.mono (by decide))) ?_
 clear m; intro u m
 refine n_val (r_move) (n_val (r_extract rfl rfl) (n_val (r_extract rfl rfl) ?_))
 simp only [ev,zD,zE,zF,zG]
 refine malloc m zero_32 rfl ?_
 clear m; intro g4 u m
 simp only [ev,zD,zE,zF,zG]
 refine malloc m zero_32 rfl ?_
 clear m; intro g5 u m
 simp only [ev,zD,zE,zF,zG]
 refine mstoreA m 1 rfl rfl rfl cells_32 (leT rfl) rfl ?_
 clear m; intro u m; simp only [over,zH,zI,zJ,zK,zL,zM,zN,zO,zP,zF,zG,Nat.reduceAdd] at m
 refine mstoreA m 0 rfl rfl rfl cells_32 (leT rfl) rfl ?_
 clear m; intro u m; simp only [over,zH,zI,zJ,zK,zL,zM,zN,zO,zP,zF,zG,Nat.reduceAdd] at m
 refine n_nil (k2 _ _ ?_)
 refine c_seq fun K3 k3=>wp_region_lit (n_load rfl ((m.b 3 rfl).full agg_34 cells_34) ?_)
 simp only [ev,zD,zE,zF,zG]
 refine mcallP m rfl rfl (parts_c (q:=q) (hq.mono (by decide))) ?_
 clear m; intro u m
 refine n_val (r_move) (n_val (r_extract rfl rfl) (n_val (r_extract rfl rfl) ?_))
 simp only [ev,zD,zE,zF,zG]
 refine malloc m zero_32 rfl ?_
 clear m; intro g6 u m
 simp only [ev,zD,zE,zF,zG]
 refine malloc m zero_32 rfl ?_
 clear m; intro g7 u m
 simp only [ev,zD,zE,zF,zG]
 refine mstoreA m 1 rfl rfl rfl cells_32 (leT rfl) rfl ?_
 clear m; intro u m; simp only [over,zH,zI,zJ,zK,zL,zM,zN,zO,zP,zF,zG,Nat.reduceAdd] at m
 refine mstoreA m 0 rfl rfl rfl cells_32 (leT rfl) rfl ?_
 clear m; intro u m; simp only [over,zH,zI,zJ,zK,zL,zM,zN,zO,zP,zF,zG,Nat.reduceAdd] at m
 refine n_nil (k3 _ _ ?_)
 refine c_seq fun K4 k4=>?_
 refine mtree m [true,true,true,true,true,true,true] (.take 0 (.take 1 (.take 3 (.take 4 (.two 2 (.two 5 (.two 6 (.take 7 (.take 8 (.take 9 (.one 10 (.one 11 (.take 12 .nil)))))) 10 (.one 6 (.take 7 (.take 8 (.take 9 (.one 11 (.take 12 .nil))))))) 10 (.one 5 (.one 6 (.take 7 (.take 8 (.take 9 (.one 11 (.take 12 .nil)))))))) 10 (.one 2 (.one 5 (.one 6 (.take 7 (.take 8 (.take 9 (.one 11 (.take 12 .nil))))))))))))) follows_mixed (by kernel_rfl) (panic_put (fun _ _ _ _ _ h=>h)) ?_
 clear m; intro u m
 refine t_take (by simp only [zS,zT,zU,zV]; rfl) (h_load rfl (fun u m=>((m.b 3 rfl).full agg_32 cells_32)) ?_)
 simp only [ev,zD,zE,zF,zG]
 refine h_nil (t_take (by simp only [zS,zT,zU,zV]; rfl) (h_load rfl (fun u m=>((m.b 1 rfl).full agg_32 cells_32)) ?_))
 simp only [ev,zD,zE,zF,zG]
 refine h_nil (t_take (by simp only [zS,zT,zU,zV]; rfl) (h_load rfl (fun u m=>((m.b 2 rfl).full agg_32 cells_32)) ?_))
 simp only [ev,zD,zE,zF,zG]
 refine h_nil (t_take (by simp only [zS,zT,zU,zV]; rfl) (h_load rfl (fun u m=>((m.b 0 rfl).full agg_32 cells_32)) ?_))
 simp only [ev,zD,zE,zF,zG]
 refine h_nil ?_
 refine t_two (by simp only [zS,zT,zU,zV]; rfl) (by simp only [zS,zT,zU,zV]; rfl) ?_ ?_
 ·
  refine mcallP m rfl rfl (Mul_c (a:=p.num) (b:=q.num) (hp.n.mono (by decide)) (hq.n.mono (by decide))) ?_
  clear m; intro u m
  refine n_nil ?_
  refine ⟨m,?_⟩
  simp only [ev,zD,zE,zF,zG]
  refine t_two (by simp only [zS,zT,zU,zV]; rfl) (by simp only [zS,zT,zU,zV]; rfl) ?_ ?_
  ·
   refine mcallP m rfl rfl (Mul_c (a:=(p.den : Int)) (b:=(q.den : Int)) (hp.d.mono (by decide)) (hq.d.mono (by decide))) ?_
   clear m; intro u m
   refine n_nil ?_
   refine ⟨m,?_⟩
   simp only [ev,zD,zE,zF,zG]
   refine t_two (by simp only [zS,zT,zU,zV]; rfl) (by simp only [zS,zT,zU,zV]; rfl) ?_ ?_
   ·
    refine mcallP m rfl rfl (Frac_c (n:=p.num * q.num) (d:=(p.den : Int) * (q.den : Int)) (bd_mul hp.n hq.n) (bd_mul hp.d hq.d) (den_mul p q)) ?_
    clear m; intro u m
    refine n_nil ?_
    refine ⟨m,?_⟩
    refine t_take (by simp only [zS,zT,zU,zV]; rfl) (h_val (r_move) (h_nil (t_take (by simp only [zS,zT,zU,zV]; rfl) (h_val (r_extract rfl rfl) (h_nil (t_take (by simp only [zS,zT,zU,zV]; rfl) (h_val (r_extract rfl rfl) ?_)))))))
    simp only [ev,zD,zE,zF,zG]
    refine h_nil (t_one (by simp only [zS,zT,zU,zV]; rfl) (malloc m zero_34 rfl ?_))
    clear m; intro g8 u m
    refine n_nil ?_
    refine ⟨m.sel [false,true,true,true,true,true,true,true],?_⟩
    refine t_one (by simp only [zS,zT,zU,zV]; rfl) ?_
    simp only [ev,zD,zE,zF,zG]
    refine mstoreA m 0 rfl rfl rfl cells_34 (leT rfl) rfl ?_
    clear m; intro u m; simp only [over,zH,zI,zJ,zK,zL,zM,zN,zO,zP,zF,zG,Nat.reduceAdd] at m
    refine n_nil ?_
    refine ⟨m.sel [false,true,true,true,true,true,true,true],?_⟩
    refine t_take (by simp only [zS,zT,zU,zV]; rfl) (h_val (r_assign) (h_nil (t_nil (k4 _ _ ?_))))
    refine c_seq fun K5 k5=>wp_region_lit ?_
    simp only [ev,zD,zE,zF,zG]
    refine n_load rfl ((m.b 0 rfl).full agg_34 cells_34) ?_
    simp only [ev,zD,zE,zF,zG]
    refine mstoreA m 5 rfl rfl rfl cells_34 (leT rfl) rfl ?_
    clear m; intro u m; simp only [over,zH,zI,zJ,zK,zL,zM,zN,zO,zP,zF,zG,Nat.reduceAdd] at m
    refine n_nil (k5 _ _ ?_)
    refine wp_ret ?_
    try simp only [Exit.inBlock,Exit.then,if_true]
    refine fin1 rfl ⟨_,rfl,((m.b 5 rfl).full agg_34 cells_34)⟩ ?_
    try simp only [zD,zE]
    exact ⟨_,rfl,m.ext,by rw [← frac_mul]; rfl⟩
   ·
    refine malloc m zero_34 rfl ?_
    clear m; intro g8 u m
    refine n_nil ?_
    refine ⟨m.sel [false,true,true,true,true,true,true,true],?_⟩
    refine t_one (by simp only [zS,zT,zU,zV]; rfl) ?_
    simp only [ev,zD,zE,zF,zG]
    refine mcallP m rfl rfl (Frac_c (n:=p.num * q.num) (d:=(p.den : Int) * (q.den : Int)) (bd_mul hp.n hq.n) (bd_mul hp.d hq.d) (den_mul p q)) ?_
    clear m; intro u m
    refine n_nil ?_
    refine ⟨m.sel [false,true,true,true,true,true,true,true],?_⟩
    refine t_take (by simp only [zS,zT,zU,zV]; rfl) (h_val (r_move) (h_nil (t_take (by simp only [zS,zT,zU,zV]; rfl) (h_val (r_extract rfl rfl) (h_nil (t_take (by simp only [zS,zT,zU,zV]; rfl) (h_val (r_extract rfl rfl) ?_)))))))
    simp only [ev,zD,zE,zF,zG]
    refine h_nil (t_one (by simp only [zS,zT,zU,zV]; rfl) (mstoreA m 0 rfl rfl rfl cells_34 (leT rfl) rfl ?_))
    clear m; intro u m; simp only [over,zH,zI,zJ,zK,zL,zM,zN,zO,zP,zF,zG,Nat.reduceAdd] at m
    refine n_nil ?_
    refine ⟨m.sel [false,true,true,true,true,true,true,true],?_⟩
    refine t_take (by simp only [zS,zT,zU,zV]; rfl) (h_val (r_assign) (h_nil (t_nil (k4 _ _ ?_))))
    refine c_seq fun K6 k6=>wp_region_lit ?_
    simp only [ev,zD,zE,zF,zG]
    refine n_load rfl ((m.b 0 rfl).full agg_34 cells_34) ?_
    simp only [ev,zD,zE,zF,zG]
    refine mstoreA m 5 rfl rfl rfl cells_34 (leT rfl) rfl ?_
    clear m; intro u m; simp only [over,zH,zI,zJ,zK,zL,zM,zN,zO,zP,zF,zG,Nat.reduceAdd] at m
    refine n_nil (k6 _ _ ?_)
    refine wp_ret ?_
    try simp only [Exit.inBlock,Exit.then,if_true]
    refine fin1 rfl ⟨_,rfl,((m.b 5 rfl).full agg_34 cells_34)⟩ ?_
    try simp only [zD,zE]
    exact ⟨_,rfl,m.ext,by rw [← frac_mul]; rfl⟩
  ·
   refine malloc m zero_34 rfl ?_
   clear m; intro g8 u m
   refine n_nil ?_
   refine ⟨m.sel [false,true,true,true,true,true,true,true],?_⟩
   refine t_one (by simp only [zS,zT,zU,zV]; rfl) ?_
   simp only [ev,zD,zE,zF,zG]
   refine mcallP m rfl rfl (Mul_c (a:=(p.den : Int)) (b:=(q.den : Int)) (hp.d.mono (by decide)) (hq.d.mono (by decide))) ?_
   clear m; intro u m
   refine n_nil ?_
   refine ⟨m.sel [false,true,true,true,true,true,true,true],?_⟩
   refine t_one (by simp only [zS,zT,zU,zV]; rfl) ?_
   simp only [ev,zD,zE,zF,zG]
   refine mcallP m rfl rfl (Frac_c (n:=p.num * q.num) (d:=(p.den : Int) * (q.den : Int)) (bd_mul hp.n hq.n) (bd_mul hp.d hq.d) (den_mul p q)) ?_
   clear m; intro u m
   refine n_nil ?_
   refine ⟨m.sel [false,true,true,true,true,true,true,true],?_⟩
   refine t_take (by simp only [zS,zT,zU,zV]; rfl) (h_val (r_move) (h_nil (t_take (by simp only [zS,zT,zU,zV]; rfl) (h_val (r_extract rfl rfl) (h_nil (t_take (by simp only [zS,zT,zU,zV]; rfl) (h_val (r_extract rfl rfl) ?_)))))))
   simp only [ev,zD,zE,zF,zG]
   refine h_nil (t_one (by simp only [zS,zT,zU,zV]; rfl) (mstoreA m 0 rfl rfl rfl cells_34 (leT rfl) rfl ?_))
   clear m; intro u m; simp only [over,zH,zI,zJ,zK,zL,zM,zN,zO,zP,zF,zG,Nat.reduceAdd] at m
   refine n_nil ?_
   refine ⟨m.sel [false,true,true,true,true,true,true,true],?_⟩
   refine t_take (by simp only [zS,zT,zU,zV]; rfl) (h_val (r_assign) (h_nil (t_nil (k4 _ _ ?_))))
   refine c_seq fun K7 k7=>wp_region_lit ?_
   simp only [ev,zD,zE,zF,zG]
   refine n_load rfl ((m.b 0 rfl).full agg_34 cells_34) ?_
   simp only [ev,zD,zE,zF,zG]
   refine mstoreA m 5 rfl rfl rfl cells_34 (leT rfl) rfl ?_
   clear m; intro u m; simp only [over,zH,zI,zJ,zK,zL,zM,zN,zO,zP,zF,zG,Nat.reduceAdd] at m
   refine n_nil (k7 _ _ ?_)
   refine wp_ret ?_
   try simp only [Exit.inBlock,Exit.then,if_true]
   refine fin1 rfl ⟨_,rfl,((m.b 5 rfl).full agg_34 cells_34)⟩ ?_
   try simp only [zD,zE]
   exact ⟨_,rfl,m.ext,by rw [← frac_mul]; rfl⟩
 ·
  refine malloc m zero_34 rfl ?_
  clear m; intro g8 u m
  refine n_nil ?_
  refine ⟨m.sel [false,true,true,true,true,true,true,true],?_⟩
  refine t_one (by simp only [zS,zT,zU,zV]; rfl) ?_
  simp only [ev,zD,zE,zF,zG]
  refine mcallP m rfl rfl (Mul_c (a:=p.num) (b:=q.num) (hp.n.mono (by decide)) (hq.n.mono (by decide))) ?_
  clear m; intro u m
  refine n_nil ?_
  refine ⟨m.sel [false,true,true,true,true,true,true,true],?_⟩
  refine t_one (by simp only [zS,zT,zU,zV]; rfl) ?_
  simp only [ev,zD,zE,zF,zG]
  refine mcallP m rfl rfl (Mul_c (a:=(p.den : Int)) (b:=(q.den : Int)) (hp.d.mono (by decide)) (hq.d.mono (by decide))) ?_
  clear m; intro u m
  refine n_nil ?_
  refine ⟨m.sel [false,true,true,true,true,true,true,true],?_⟩
  refine t_one (by simp only [zS,zT,zU,zV]; rfl) ?_
  simp only [ev,zD,zE,zF,zG]
  refine mcallP m rfl rfl (Frac_c (n:=p.num * q.num) (d:=(p.den : Int) * (q.den : Int)) (bd_mul hp.n hq.n) (bd_mul hp.d hq.d) (den_mul p q)) ?_
  clear m; intro u m
  refine n_nil ?_
  refine ⟨m.sel [false,true,true,true,true,true,true,true],?_⟩
  refine t_take (by simp only [zS,zT,zU,zV]; rfl) (h_val (r_move) (h_nil (t_take (by simp only [zS,zT,zU,zV]; rfl) (h_val (r_extract rfl rfl) (h_nil (t_take (by simp only [zS,zT,zU,zV]; rfl) (h_val (r_extract rfl rfl) ?_)))))))
  simp only [ev,zD,zE,zF,zG]
  refine h_nil (t_one (by simp only [zS,zT,zU,zV]; rfl) (mstoreA m 0 rfl rfl rfl cells_34 (leT rfl) rfl ?_))
  clear m; intro u m; simp only [over,zH,zI,zJ,zK,zL,zM,zN,zO,zP,zF,zG,Nat.reduceAdd] at m
  refine n_nil ?_
  refine ⟨m.sel [false,true,true,true,true,true,true,true],?_⟩
  refine t_take (by simp only [zS,zT,zU,zV]; rfl) (h_val (r_assign) (h_nil (t_nil (k4 _ _ ?_))))
  refine c_seq fun K8 k8=>wp_region_lit ?_
  simp only [ev,zD,zE,zF,zG]
  refine n_load rfl ((m.b 0 rfl).full agg_34 cells_34) ?_
  simp only [ev,zD,zE,zF,zG]
  refine mstoreA m 5 rfl rfl rfl cells_34 (leT rfl) rfl ?_
  clear m; intro u m; simp only [over,zH,zI,zJ,zK,zL,zM,zN,zO,zP,zF,zG,Nat.reduceAdd] at m
  refine n_nil (k8 _ _ ?_)
  refine wp_ret ?_
  try simp only [Exit.inBlock,Exit.then,if_true]
  refine fin1 rfl ⟨_,rfl,((m.b 5 rfl).full agg_34 cells_34)⟩ ?_
  try simp only [zD,zE]
  exact ⟨_,rfl,m.ext,by rw [← frac_mul]; rfl⟩
end Go.Proofs.YtmcgcnpgkkfkoaaGreatDoor
namespace Go.Proofs.YtmcgcnpgkkfkoaaGreatDoor
open Go.RowKit Go.Lith
set_option maxRecDepth 100000
attribute [local irreducible] wpList wpQuiet wpMix wpMixH wpTree Code.wp
theorem sq_bd {k : Int} (hk : 1 ≤ k ∧ k ≤ 50) : 1 ≤ k * k ∧ k * k ≤ 2500:=⟨by have:=Int.mul_le_mul hk.1 hk.1 (by decide) (by omega); omega,by have:=Int.mul_le_mul hk.2 hk.2 (by omega) (by decide); omega⟩
theorem cu_bd {k : Int} (hk : 1 ≤ k ∧ k ≤ 50) : 1 ≤ k * k * k ∧ k * k * k ≤ 125000:=by
 have h:=sq_bd hk
 exact ⟨by have:=Int.mul_le_mul h.1 hk.1 (by decide) (by omega); omega,by have:=Int.mul_le_mul h.2 hk.2 (by omega) (by decide); omega⟩
theorem cq_bq {m v : Int} {a b : Nat} (h : Bd a m) (k : Bd b v) (ha : a ≤ 1000:=by decide) (hb : b ≤ 1000:=by decide) : Bq 150000 (cq m v):=by
 unfold cq
 split
 · exact ⟨bd_zero _,bd_11.mono (by decide)⟩
 ·
  rename_i h0
  have hv : Bd 1003 (v * 4):=bd_mul (b:=3) (k.mono hb) (show (4 : Int).natAbs < 2 ^ 3 by decide)
  exact (Bq.mk' (h.mono ha) hv (by omega)).mono (by decide)
theorem volS_c {bs : List T3} {k : Int} {N cap : Nat} {A : Option Addr} (w : World) (hT : TrisAt w A N (bs.map (T3.sc k))) (hN : N < 4611686018427387904) : Does Tryz.prog 25 [.slice A N cap] w fun v _=>v = Q (Rat.divInt (sumT det bs) 6 * ((k * k * k : Int) : Rat)):=by
 rw [← volM]
 exact Volume_c w hT hN
theorem bq_k {n : Int} (h : 0 ≤ n ∧ n ≤ 125000) : Bq 150000 (n : Rat):=(bq_int (m:=20) (show n.natAbs < 2 ^ 20 by omega) (by decide)).mono (by decide)
theorem ptimes_c {p : P3} {k : Int} (hk : 1 ≤ k ∧ k ≤ 50) (hp : Nr p) : Pure Tryz.prog 37 [pt p,.int .i64 k] (pt (p.sc k)):=by
 intro w
 refine ⟨en_37,?_⟩
 have m:=Mem.refl w
 have hx:=sc_bd hk hp.1
 have hy:=sc_bd hk hp.2.1
 have hz:=sc_bd hk hp.2.2
 go_enter Tryz.func37,Tryz.ntmps37
 refine c_seq fun K1 k1=>wp_region_lit (mboxA m rfl ?_)
 clear m; intro g1 u m
 simp only [ev,zD,zE,zF,zG]
 refine malloc m zero_28 rfl ?_
 clear m; intro g2 u m
 refine n_nil (k1 _ _ ?_)
 refine c_seq fun K2 k2=>wp_region_lit (n_val (r_move) (n_val (r_fieldAddr (c:=0) Tryz.underlying28 rfl cells_3 rfl rfl) ?_))
 simp only [ev,zD,zE,zF,zG]
 refine n_load rfl ((m.b 1 rfl).lies1 agg_3 rfl) ?_
 simp only [ev,zD,zE,zF,zG]
 refine n_val (r_mul rfl rfl (wrap_i64 (by omega) (by omega))) (n_val (r_move) (n_val (r_fieldAddr (c:=0) Tryz.underlying28 rfl cells_3 rfl rfl) ?_))
 simp only [ev,zD,zE,zF,zG]
 refine n_load rfl ((m.b 1 rfl).lies1 agg_3 rfl) ?_
 simp only [ev,zD,zE,zF,zG]
 refine n_val (r_mul rfl rfl (wrap_i64 (by omega) (by omega))) (n_val (r_move) (n_val (r_fieldAddr (c:=0) Tryz.underlying28 rfl cells_3 rfl rfl) ?_))
 simp only [ev,zD,zE,zF,zG]
 refine n_load rfl ((m.b 1 rfl).lies1 agg_3 rfl) ?_
 simp only [ev,zD,zE,zF,zG]
 refine n_val (r_mul rfl rfl (wrap_i64 (by omega) (by omega))) (n_val (r_build_28_0_1_2 rfl rfl rfl) ?_)
 simp only [ev,zD,zE,zF,zG]
 refine mstoreA m 0 rfl rfl rfl cells_28 (leT rfl) rfl ?_
 clear m; intro u m; simp only [over,zH,zI,zJ,zK,zL,zM,zN,zO,zP,zF,zG,Nat.reduceAdd] at m
 refine n_nil (k2 _ _ ?_)
 refine wp_ret ?_
 try simp only [Exit.inBlock,Exit.then,if_true]
 refine fin1 rfl ⟨_,rfl,((m.b 0 rfl).full agg_28 cells_28)⟩ ?_
 try simp only [zD,zE]
 exact ⟨_,rfl,m.ext,rfl⟩
theorem MeasureScaled_c {kind bits q0 q1 q2 : Int} [Iw kind] [Iw bits] [Iw q0] [Iw q1] [Iw q2] {HA MA : Option Addr} {HN Hc MN Mc : Nat} {zs : List Int} {p : P3} [I3 p] {n : Int} (w : World) (hZ : IntsAt w HA HN zs) (hn : 0 ≤ n ∧ n < 256) : Does Tryz.prog 9 [.agg #[.int .i64 kind,.int .i64 bits,.slice HA HN Hc,.int .i64 q0,.int .i64 q1,.int .i64 q2,.slice MA MN Mc],pt p,.int .u8 n] w (fun v _=>v = .bool true):=by
 refine ⟨en_9,?_⟩
 have m:=Mem.refl w
 go_enter Tryz.func9,Tryz.ntmps9
 refine c_seq fun K1 k1=>wp_region_lit (mboxA m rfl ?_)
 clear m; intro g1 u m
 simp only [ev,zD,zE,zF,zG]
 refine mboxA m rfl ?_
 clear m; intro g2 u m
 refine n_val (r_assign) (n_nil (k1 _ _ ?_))
 refine c_seq fun K2 k2=>wp_region_lit ?_
 simp only [ev,zD,zE,zF,zG]
 refine mcallP m rfl rfl (sanity_c) ?_
 clear m; intro u m
 refine n_val (r_assign) (n_nil (k2 _ _ ?_))
 refine c_seq fun K3 k3=>wp_region_lit (n_val (r_fieldAddr (c:=0) Tryz.underlying26 rfl cells_24 rfl rfl) ?_)
 simp only [ev,zD,zE,zF,zG]
 refine mstore1 m 1 rfl rfl rfl cells_24 (leT rfl) ⟨rfl,rfl⟩ ?_
 clear m; intro u m; simp only [over,zH,zI,zJ,zK,zL,zM,zN,zO,zP,zF,zG,Nat.reduceAdd] at m
 refine n_nil (k3 _ _ ?_)
 refine c_seq fun K4 k4=>wp_region_lit (n_load rfl ((m.b 1 rfl).full agg_26 cells_26) ?_)
 simp only [ev,zD,zE,zF,zG]
 refine n_call rfl rfl (list_c (kind:=kind) (bits:=bits) (q0:=q0) (q1:=q1) (q2:=q2) (ms:=[]) _ (hZ.ext m.ext) (TrisAt.nil _ _) (Nat.le_refl 0)) ?_
 rintro v u e ⟨bs,⟨A1,cap1,_,rfl,rfl,hN⟩,hbl,hbs⟩; replace m:=m.newO e hN; clear e hN
 obtain ⟨L,hL⟩ : ∃ L,bs ++ ([] : List T3).take 6 = L:=⟨_,rfl⟩
 obtain rfl : bs = L:=by rw [← hL]; simp
 rw [hL] at m ⊢
 clear hL
 have hI : ∀ t ∈ bs,IT t:=fun t ht=>(hbs t ht).it (by decide)
 refine n_val (r_assign) (n_nil (k4 _ _ ?_))
 refine c_seq fun K5 k5=>?_
 simp only [ev,zD,zE,zF,zG]
 have h50:=tm_bd (n:=n) (m:=50) (by decide)
 have h500 : 0 ≤ n.tmod 50:=Int.tmod_nonneg _ hn.1
 refine wp_region_lit (n_val (r_move) ?_)
 simp only [ev,zD,zE,zF,zG]
 refine n_val (r_rem rfl rfl (by omega) rfl) (n_val (r_conv Tryz.underlying3 Tryz.underlying5 rfl (wrap_i64 (by omega) (by omega))) ?_)
 simp only [ev,zD,zE,zF,zG]
 refine n_val (r_add rfl rfl (wrap_i64 (by omega) (by omega))) (n_val (r_assign) (n_nil (k5 _ _ ?_)))
 refine c_seq fun K6 k6=>wp_region_lit (n_val (r_fieldAddr (c:=0) Tryz.underlying28 rfl cells_3 rfl rfl) ?_)
 simp only [ev,zD,zE,zF,zG]
 refine n_load rfl ((m.b 1 rfl).lies1 agg_3 rfl) ?_
 simp only [ev,zD,zE,zF,zG]
 refine n_val (r_rem rfl rfl (by omega) rfl) (n_val (r_fieldAddr (c:=0) Tryz.underlying28 rfl cells_3 rfl rfl) ?_)
 simp only [ev,zD,zE,zF,zG]
 refine n_load rfl ((m.b 1 rfl).lies1 agg_3 rfl) ?_
 simp only [ev,zD,zE,zF,zG]
 refine n_val (r_rem rfl rfl (by omega) rfl) (n_val (r_fieldAddr (c:=0) Tryz.underlying28 rfl cells_3 rfl rfl) ?_)
 simp only [ev,zD,zE,zF,zG]
 refine n_load rfl ((m.b 1 rfl).lies1 agg_3 rfl) ?_
 simp only [ev,zD,zE,zF,zG]
 refine n_val (r_rem rfl rfl (by omega) rfl) (n_val (r_build_28_0_1_2 rfl rfl rfl) ?_)
 simp only [ev,zD,zE,zF,zG]
 refine mstoreA m 1 rfl rfl rfl cells_28 (leT rfl) rfl ?_
 clear m; intro u m; simp only [over,zH,zI,zJ,zK,zL,zM,zN,zO,zP,zF,zG,Nat.reduceAdd] at m
 refine n_nil (k6 _ _ ?_)
 refine c_seq fun K7 k7=>?_
 obtain ⟨k,hkd⟩ : ∃ k,k = 1 + n.tmod 50:=⟨_,rfl⟩
 have hk : 1 ≤ k ∧ k ≤ 50:=by omega
 rw [← hkd]
 clear hkd
 have hk0 : 0 < k:=by omega
 refine wp_region_lit (n_val (r_assign) ?_)
 replace m:=m.nilO 59 9
 refine n_nil (k7 _ _ ?_)
 refine c_seq fun K8 k8=>c_seq fun K9 k9=>wp_region_lit (n_val (r_assign) (n_nil (k9 _ _ ?_)))
 refine wp_block ?_
 simp only [ev,zD,zE,zF,zG]
 try simp only [Nat.zero_add,Nat.reduceAdd,Nat.reduceMul,Int.reduceToNat]
 refine c_loopg [10,11] [12,13,47,48,49,50,51,52,53,54,55,56,57,58,59,60,61,62,63,64,65,66,67,68,69,70] (fun n vs wl=>∃ (i : Nat) (A2 : Option Addr) (cap2 : Nat),vs = [.slice A2 i cap2,.int .i64 (i:Int)] ∧ Mem w wl [oI 59 9 A2 i cap2 (((bs.take i).map (T3.sc k)).flatMap triCells),oI 59 9 A1 bs.length cap1 (bs.flatMap triCells),bI g2 [.int .i64 (modP p).x,.int .i64 (modP p).y,.int .i64 (modP p).z] 28] ∧ (i ≤ bs.length) ∧ (n = bs.length - i)) ?_ ?_
 ·
  apply Exists.intro
  simp only [zQ,zR,zD,zE]
  exact ⟨0,_,_,rfl,(m.sel [true,true,true,false]),Nat.zero_le _,rfl⟩
 ·
  intro n vs wr hI u
  clear m
  obtain ⟨i,A2,cap2,rfl,m,hi,hn1⟩:=hI
  simp only [setG_cons,setG_nil,setMany_cons,setMany_nil,zF,zG]
  refine c_seq fun K10 k10=>c_seq fun K11 k11=>wp_region_lit (n_val (r_move) (n_val (r_move) (n_val (r_lenS rfl Tryz.underlying24 rfl) (n_val (r_lss rfl rfl) ?_))))
  simp only [ev,zD,zE,zF,zG]
  refine n_nil (k11 _ _ ?_)
  refine c_if rfl (fun hc1=>?_) (fun hc1=>?_)
  ·
   obtain ⟨t,ht⟩:=get_lt (ts:=bs) (k:=i) (by omega)
   obtain ⟨gO,rfl⟩:=(m.o 1 rfl).some (by omega)
   have hst:=hbs t (List.mem_of_getElem? ht)
   refine wp_skip (k10 _ _ ?_)
   refine c_seq fun K12 k12=>wp_block (c_seq fun K13 k13=>wp_region_lit (malloc m zero_59 rfl ?_))
   clear m; intro g3 u m
   refine n_nil (k13 _ _ ?_)
   refine c_seq fun K14 k14=>c_seq fun K15 k15=>wp_region_lit (n_val (r_assign) (n_nil (k15 _ _ ?_)))
   refine wp_block (wp_loop_rounds 4 (rounds_step (c_seq fun K16 k16=>c_seq fun K17 k17=>wp_region_lit (n_val (r_move) (n_val (r_lssT (m:=0) (n:=3) rfl rfl (by decide)) ?_)))))
   simp only [ev,zD,zE,zF,zG]
   refine n_nil (k17 _ _ ?_)
   refine c_yes rfl (wp_skip (k16 _ _ ?_))
   refine c_seq fun K18 k18=>wp_block (wp_region_lit (n_val (r_move) (n_val (r_move) (n_val (r_move) (n_val (r_move) ?_)))))
   simp only [ev,zD,zE,zF,zG]
   refine n_val (r_indexAddrS Tryz.underlying24 cells_59 rfl rfl (by omega) (by omega) (addrN (Int.toNat_natCast _))) (n_val (r_indexAddrA Tryz.underlying59 cells_28 rfl rfl (by decide) (by decide) rfl) ?_)
   simp only [ev,zD,zE,zF,zG]
   refine n_load rfl ((Row.cor ((m.o 2 rfl).tri ht) (c:=0) (by decide)).lies agg_28 cells_28) ?_
   simp only [ev,zD,zE,zF,zG]
   refine n_val (r_move) ?_
   simp only [ev,zD,zE,zF,zG]
   refine mcallP m rfl rfl (ptimes_c (p:=t.cor 0) (k:=k) hk (hst.cor 0)) ?_
   clear m; intro u m
   refine n_val (r_indexAddrA Tryz.underlying59 cells_28 rfl rfl (by decide) (by decide) rfl) ?_
   simp only [ev,zD,zE,zF,zG]
   refine mstoreA m 0 rfl rfl rfl cells_28 (leT rfl) rfl ?_
   clear m; intro u m; simp only [over,zH,zI,zJ,zK,zL,zM,zN,zO,zP,zF,zG,Nat.reduceAdd] at m
   refine n_nil (k18 _ _ ?_)
   refine wp_region_lit (n_val (r_move) (n_val (r_add (m:=0) (n:=1) (r:=1) rfl rfl (by decide)) (n_val (r_assign) (n_nil (then_rounds (c_seq fun K19 k19=>c_seq fun K20 k20=>wp_region_lit (n_val (r_move) ?_)))))))
   simp only [ev,zD,zE,zF,zG]
   refine n_val (r_lssT (m:=1) (n:=3) rfl rfl (by decide)) (n_nil (k20 _ _ ?_))
   refine c_yes rfl (wp_skip (k19 _ _ ?_))
   refine c_seq fun K21 k21=>wp_block (wp_region_lit (n_val (r_move) (n_val (r_move) (n_val (r_move) ?_))))
   simp only [ev,zD,zE,zF,zG]
   refine n_val (r_move) ?_
   simp only [ev,zD,zE,zF,zG]
   refine n_val (r_indexAddrS Tryz.underlying24 cells_59 rfl rfl (by omega) (by omega) (addrN (Int.toNat_natCast _))) (n_val (r_indexAddrA Tryz.underlying59 cells_28 rfl rfl (by decide) (by decide) rfl) ?_)
   simp only [ev,zD,zE,zF,zG]
   refine n_load rfl ((Row.cor ((m.o 2 rfl).tri ht) (c:=1) (by decide)).lies agg_28 cells_28) ?_
   simp only [ev,zD,zE,zF,zG]
   refine n_val (r_move) ?_
   simp only [ev,zD,zE,zF,zG]
   refine mcallP m rfl rfl (ptimes_c (p:=t.cor 1) (k:=k) hk (hst.cor 1)) ?_
   clear m; intro u m
   refine n_val (r_indexAddrA Tryz.underlying59 cells_28 rfl rfl (by decide) (by decide) rfl) ?_
   simp only [ev,zD,zE,zF,zG]
   refine mstoreA m 0 rfl rfl rfl cells_28 (leT rfl) rfl ?_
   clear m; intro u m; simp only [over,zH,zI,zJ,zK,zL,zM,zN,zO,zP,zF,zG,Nat.reduceAdd] at m
   refine n_nil (k21 _ _ ?_)
   refine wp_region_lit (n_val (r_move) (n_val (r_add (m:=1) (n:=1) (r:=2) rfl rfl (by decide)) (n_val (r_assign) (n_nil (then_rounds (c_seq fun K22 k22=>c_seq fun K23 k23=>wp_region_lit (n_val (r_move) ?_)))))))
   simp only [ev,zD,zE,zF,zG]
   refine n_val (r_lssT (m:=2) (n:=3) rfl rfl (by decide)) (n_nil (k23 _ _ ?_))
   refine c_yes rfl (wp_skip (k22 _ _ ?_))
   refine c_seq fun K24 k24=>wp_block (wp_region_lit (n_val (r_move) (n_val (r_move) (n_val (r_move) ?_))))
   simp only [ev,zD,zE,zF,zG]
   refine n_val (r_move) ?_
   simp only [ev,zD,zE,zF,zG]
   refine n_val (r_indexAddrS Tryz.underlying24 cells_59 rfl rfl (by omega) (by omega) (addrN (Int.toNat_natCast _))) (n_val (r_indexAddrA Tryz.underlying59 cells_28 rfl rfl (by decide) (by decide) rfl) ?_)
   simp only [ev,zD,zE,zF,zG]
   refine n_load rfl ((Row.cor ((m.o 2 rfl).tri ht) (c:=2) (by decide)).lies agg_28 cells_28) ?_
   simp only [ev,zD,zE,zF,zG]
   refine n_val (r_move) ?_
   simp only [ev,zD,zE,zF,zG]
   refine mcallP m rfl rfl (ptimes_c (p:=t.cor 2) (k:=k) hk (hst.cor 2)) ?_
   clear m; intro u m
   refine n_val (r_indexAddrA Tryz.underlying59 cells_28 rfl rfl (by decide) (by decide) rfl) ?_
   simp only [ev,zD,zE,zF,zG]
   refine mstoreA m 0 rfl rfl rfl cells_28 (leT rfl) rfl ?_
   clear m; intro u m; simp only [over,zH,zI,zJ,zK,zL,zM,zN,zO,zP,zF,zG,Nat.reduceAdd] at m
   refine n_nil (k24 _ _ ?_)
   refine wp_region_lit (n_val (r_move) (n_val (r_add (m:=2) (n:=1) (r:=3) rfl rfl (by decide)) (n_val (r_assign) (n_nil (then_rounds (c_seq fun K25 k25=>c_seq fun K26 k26=>wp_region_lit (n_val (r_move) ?_)))))))
   simp only [ev,zD,zE,zF,zG]
   refine n_val (r_lssF (m:=3) (n:=3) rfl rfl (by decide)) (n_nil (k26 _ _ ?_))
   refine c_no rfl (wp_exit (k14 _ _ ?_))
   refine wp_region_lit (n_val (r_move) ?_)
   simp only [ev,zD,zE,zF,zG]
   refine n_load rfl ((m.b 0 rfl).full agg_59 cells_59) ?_
   simp only [ev,zD,zE,zF,zG]
   refine n_bs_24_1 rfl ?_
   intro u g4 e hg hB; replace m:=m.newB e hg hB; clear e hg hB
   simp only [ev,zD,zE,zF,zG]
   refine mappend m 2 rfl rfl Tryz.underlying24 inf_59 rfl (by decide) rfl rfl rfl (m.b 0 rfl).rowsO (allT rfl) (by omega) (by omega) ?_
   clear m; intro A2 cap2 u m; simp only [zF,zG] at m
   refine n_val (r_assign) (n_nil (k12 _ _ ?_))
   refine wp_region_lit (n_val (r_move) ?_)
   simp only [ev,zD,zE,zF,zG]
   refine n_val (r_add rfl rfl (wrap_i64 (by omega) (by omega))) (n_val (r_assign) (n_nil ?_))
   simp only [ev,zD,zE,zF,zG]
   simp only [Exit.inBlock,Exit.then]
   refine ⟨bs.length - (i + 1),_,?_,rfl,?_,?_⟩
   · omega
   · simp only [zQ,zR,zD,zE,setG_cons,setG_nil,setMany_cons,setMany_nil,zF,zG]
   ·
    simp only [zQ,zR,zD,zE]
    exact ⟨i + 1,_,_,rfl,((m.reO 2 rfl ((m.o 2 rfl).as (by rw [take_one' ht,List.map_append,List.flatMap_append]; rfl))).sel [false,false,true,true,true]),by omega,rfl⟩
  ·
   obtain rfl : i = bs.length:=by omega
   rw [List.take_length] at m
   have hI2 : ∀ t ∈ bs.map (T3.sc k),IT t:=fun t ht=>by obtain ⟨u,hu,rfl⟩:=List.mem_map.1 ht; exact (hbs u hu).sc hk
   haveI:=(nr_mod p).i3
   haveI:=(nr_mod p).sc hk
   refine wp_exit (k8 _ _ ?_)
   refine c_seq fun K27 k27=>wp_region_lit (n_load rfl ((m.b 2 rfl).full agg_28 cells_28) ?_)
   simp only [ev,zD,zE,zF,zG]
   refine n_val (r_move) ?_
   simp only [ev,zD,zE,zF,zG]
   refine mcall m rfl rfl (Far2_c (x:=modP p) _ ((m.o 1 rfl).tris hI) (by omega)) ?_
   clear m; rintro v u m rfl
   refine n_val (r_move) (n_val (r_extract rfl rfl) (n_val (r_extract rfl rfl) ?_))
   simp only [ev,zD,zE,zF,zG]
   refine malloc m zero_34 rfl ?_
   clear m; intro g3 u m
   simp only [ev,zD,zE,zF,zG]
   refine mstoreA m 0 rfl rfl rfl cells_34 (leT rfl) rfl ?_
   clear m; intro u m; simp only [over,zH,zI,zJ,zK,zL,zM,zN,zO,zP,zF,zG,Nat.reduceAdd] at m
   refine n_val (r_assign) (n_nil (k27 _ _ ?_))
   refine c_seq fun K28 k28=>wp_region_lit ?_
   simp only [ev,zD,zE,zF,zG]
   refine n_load rfl ((m.b 3 rfl).full agg_28 cells_28) ?_
   simp only [ev,zD,zE,zF,zG]
   refine n_val (r_move) ?_
   simp only [ev,zD,zE,zF,zG]
   refine mcallP m rfl rfl (ptimes_c (p:=modP p) (k:=k) hk (nr_mod p)) ?_
   clear m; intro u m
   refine n_val (r_move) ?_
   simp only [ev,zD,zE,zF,zG]
   refine mcall m rfl rfl (Far2_c (x:=(modP p).sc k) (ts:=bs.map (T3.sc k)) _ ((m.o 1 rfl).tris hI2) (by omega)) ?_
   clear m; rintro v u m rfl
   simp only [ev,zD,zE,zF,zG]
   rw [farM hk0]
   refine n_val (r_move) (n_val (r_extract rfl rfl) (n_val (r_extract rfl rfl) ?_))
   simp only [ev,zD,zE,zF,zG]
   refine malloc m zero_34 rfl ?_
   clear m; intro g4 u m
   simp only [ev,zD,zE,zF,zG]
   refine mstoreA m 0 rfl rfl rfl cells_34 (leT rfl) rfl ?_
   clear m; intro u m; simp only [over,zH,zI,zJ,zK,zL,zM,zN,zO,zP,zF,zG,Nat.reduceAdd] at m
   refine n_val (r_assign) (n_nil (k28 _ _ ?_))
   refine c_seq fun K29 k29=>wp_region_lit (n_val (r_move) ?_)
   simp only [ev,zD,zE,zF,zG]
   refine mcall m rfl rfl (Box_c _ ((m.o 3 rfl).tris hI) (by omega)) ?_
   clear m; rintro v u m rfl
   refine n_val (r_move) (n_val (r_extract rfl rfl) (n_val (r_extract rfl rfl) ?_))
   simp only [ev,zD,zE,zF,zG]
   refine n_val (r_extract rfl rfl) ?_
   simp only [ev,zD,zE,zF,zG]
   refine malloc m zero_28 rfl ?_
   clear m; intro g5 u m
   simp only [ev,zD,zE,zF,zG]
   refine malloc m zero_28 rfl ?_
   clear m; intro g6 u m
   simp only [ev,zD,zE,zF,zG]
   refine mstoreA m 1 rfl rfl rfl cells_28 (leT rfl) rfl ?_
   clear m; intro u m; simp only [over,zH,zI,zJ,zK,zL,zM,zN,zO,zP,zF,zG,Nat.reduceAdd] at m
   refine mstoreA m 0 rfl rfl rfl cells_28 (leT rfl) rfl ?_
   clear m; intro u m; simp only [over,zH,zI,zJ,zK,zL,zM,zN,zO,zP,zF,zG,Nat.reduceAdd] at m
   refine n_val (r_assign) (n_nil (k29 _ _ ?_))
   refine c_seq fun K30 k30=>wp_region_lit (n_val (r_move) ?_)
   simp only [ev,zD,zE,zF,zG]
   refine mcall m rfl rfl (Box_c (ts:=bs.map (T3.sc k)) _ ((m.o 4 rfl).tris hI2) (by omega)) ?_
   clear m; rintro v u m rfl
   simp only [ev,zD,zE,zF,zG]
   rw [loP_sc hk0,hiP_sc hk0]
   refine n_val (r_move) (n_val (r_extract rfl rfl) (n_val (r_extract rfl rfl) (n_val (r_extract rfl rfl) ?_)))
   simp only [ev,zD,zE,zF,zG]
   refine malloc m zero_28 rfl ?_
   clear m; intro g7 u m
   simp only [ev,zD,zE,zF,zG]
   refine malloc m zero_28 rfl ?_
   clear m; intro g8 u m
   simp only [ev,zD,zE,zF,zG]
   refine mstoreA m 1 rfl rfl rfl cells_28 (leT rfl) rfl ?_
   clear m; intro u m; simp only [over,zH,zI,zJ,zK,zL,zM,zN,zO,zP,zF,zG,Nat.reduceAdd] at m
   refine mstoreA m 0 rfl rfl rfl cells_28 (leT rfl) rfl ?_
   clear m; intro u m; simp only [over,zH,zI,zJ,zK,zL,zM,zN,zO,zP,zF,zG,Nat.reduceAdd] at m
   refine n_val (r_assign) (n_nil (k30 _ _ ?_))
   refine c_seq fun K31 k31=>wp_region_lit (n_val (r_move) ?_)
   simp only [ev,zD,zE,zF,zG]
   refine mcall m rfl rfl (Centre_c _ ((m.o 7 rfl).tris hI) (by omega)) ?_
   clear m; rintro v u m rfl
   refine n_val (r_move) (n_val (r_extract rfl rfl) (n_val (r_extract rfl rfl) ?_))
   simp only [ev,zD,zE,zF,zG]
   refine malloc m zero_49 rfl ?_
   clear m; intro g9 u m
   simp only [ev,zD,zE,zF,zG]
   refine mstoreA m 0 rfl rfl rfl cells_49 (leT rfl) rfl ?_
   clear m; intro u m; simp only [over,zH,zI,zJ,zK,zL,zM,zN,zO,zP,zF,zG,Nat.reduceAdd] at m
   refine n_val (r_assign) (n_nil (k31 _ _ ?_))
   refine c_seq fun K32 k32=>wp_region_lit (n_val (r_move) ?_)
   simp only [ev,zD,zE,zF,zG]
   refine mcall m rfl rfl (Centre_c (ts:=bs.map (T3.sc k)) _ ((m.o 7 rfl).tris hI2) (by omega)) ?_
   clear m; rintro v u m rfl
   simp only [ev,zD,zE,zF,zG]
   rw [cqM hk0 (fun _=>rfl),cqM hk0 (fun _=>rfl),cqM hk0 (fun _=>rfl),neM hk0]
   refine n_val (r_move) (n_val (r_extract rfl rfl) (n_val (r_extract rfl rfl) ?_))
   simp only [ev,zD,zE,zF,zG]
   refine malloc m zero_49 rfl ?_
   clear m; intro g10 u m
   simp only [ev,zD,zE,zF,zG]
   refine mstoreA m 0 rfl rfl rfl cells_49 (leT rfl) rfl ?_
   clear m; intro u m; simp only [over,zH,zI,zJ,zK,zL,zM,zN,zO,zP,zF,zG,Nat.reduceAdd] at m
   refine n_val (r_assign) (n_nil (k32 _ _ ?_))
   refine c_seq fun K33 k33=>c_seq fun K34 k34=>?_
   simp only [ev,zD,zE,zF,zG]
   have hkk:=sq_bd hk
   have hkkk:=cu_bd hk
   haveI : Iw k:=⟨⟨by omega,by omega⟩⟩
   haveI : Iw (k * k):=⟨⟨by omega,by omega⟩⟩
   haveI : Iw (k * k * k):=⟨⟨by omega,by omega⟩⟩
   haveI : Iw (1 : Int):=⟨⟨by decide,by decide⟩⟩
   have hbd : Bd 264 (sumT det bs):=sumT_bd (m:=200) (fun u hu=>by haveI:=hI u hu; exact det_bd) (by omega)
   have hbx : Bd 364 (sumT (mom P3.x) bs):=sumT_bd (m:=300) (fun u hu=>by haveI:=hI u hu; exact mom_bd Iw.h.bd Iw.h.bd Iw.h.bd) (by omega)
   have hby : Bd 364 (sumT (mom P3.y) bs):=sumT_bd (m:=300) (fun u hu=>by haveI:=hI u hu; exact mom_bd Iw.h.bd Iw.h.bd Iw.h.bd) (by omega)
   have hbz : Bd 364 (sumT (mom P3.z) bs):=sumT_bd (m:=300) (fun u hu=>by haveI:=hI u hu; exact mom_bd Iw.h.bd Iw.h.bd Iw.h.bd) (by omega)
   refine wp_region_lit (n_val (r_assign) (n_nil (k34 _ _ ?_)))
   refine wp_block (wp_loop_rounds 4 (rounds_step (c_seq fun K35 k35=>c_seq fun K36 k36=>wp_region_lit (n_val (r_move) (n_val (r_lssT (m:=0) (n:=3) rfl rfl (by decide)) (n_nil (k36 _ _ ?_)))))))
   refine c_yes rfl (wp_skip (k35 _ _ ?_))
   refine c_seq fun K37 k37=>wp_block (c_seq fun K38 k38=>?_)
   simp only [ev,zD,zE,zF,zG]
   refine mq m follows_mixed (by kernel_rfl) (q_val (r_move) (q_val (r_move) (q_mayT rfl (fun hb=>r_move) (q_mayT rfl (fun hb=>r_indexAddrA Tryz.underlying49 cells_34 rfl (mayE hb rfl) (by decide) (by decide) rfl) ?_))))
   simp only [ev,zD,zE,zF,zG]
   refine q_mayTW rfl (fun hb u m=>r_load (mayE hb rfl) ((m.b 1 rfl).lies agg_34 cells_34 rfl rfl)) ?_
   simp only [ev,zD,zE,zF,zG,zH,zI,zJ,zK,Nat.zero_add,Nat.reduceAdd,Nat.reduceMul,Int.reduceToNat]
   refine q_mayT rfl (fun hb=>r_move) ?_
   simp only [ev,zD,zE,zF,zG]
   refine q_mayTP rfl rfl (fun hb=>by simp only [List.toList_toArray,List.map_cons,List.map_nil,zA,zB,zC,zD,zE,hb,may_t]; rfl) (fun hb=>lfrac_c (n:=k) (d:=1)) ?_
   simp only [ev,zD,zE,zF,zG]
   refine q_mayTP rfl rfl (fun hb=>by simp only [List.toList_toArray,List.map_cons,List.map_nil,zA,zB,zC,zD,zE,hb,may_t]; rfl) (fun hb=>MulFrac_c (p:=cq (sumT (mom P3.x) bs) (sumT det bs)) (q:=((k : Int) : Rat)) (cq_bq hbx hbd) (bq_k (by omega))) (q_mayT rfl (fun hb=>r_move) (q_mayT rfl (fun hb=>r_indexAddrA Tryz.underlying49 cells_34 rfl (mayE hb rfl) (by decide) (by decide) rfl) ?_))
   simp only [ev,zD,zE,zF,zG]
   refine q_mayTW rfl (fun hb u m=>r_load (mayE hb rfl) ((m.b 0 rfl).lies agg_34 cells_34 rfl rfl)) ?_
   simp only [ev,zD,zE,zF,zG,zH,zI,zJ,zK,Nat.zero_add,Nat.reduceAdd,Nat.reduceMul,Int.reduceToNat]
   refine q_mayT rfl (fun hb=>r_as (eq_neq_34 (mayE hb rfl) (mayE hb rfl)) (bool_as (decide_eq_false (fun h=>h ⟨rfl,rfl,rfl,rfl⟩)))) (q_val (r_pickAnd rfl rfl rfl) (q_nil ?_))
   clear m; intro u m
   simp only [ev,zD,zE,zF,zG]
   simp only [Bool.and_false]
   refine k38 _ _ ?_
   refine c_no rfl (wp_skip (k37 _ _ ?_))
   refine wp_region_lit (n_val (r_move) (n_val (r_add (m:=0) (n:=1) (r:=1) rfl rfl (by decide)) (n_val (r_assign) (n_nil (then_rounds (c_seq fun K39 k39=>c_seq fun K40 k40=>wp_region_lit (n_val (r_move) ?_)))))))
   simp only [ev,zD,zE,zF,zG]
   refine n_val (r_lssT (m:=1) (n:=3) rfl rfl (by decide)) (n_nil (k40 _ _ ?_))
   refine c_yes rfl (wp_skip (k39 _ _ ?_))
   refine c_seq fun K41 k41=>wp_block (c_seq fun K42 k42=>?_)
   simp only [ev,zD,zE,zF,zG]
   refine mq m follows_mixed (by kernel_rfl) (q_val (r_move) (q_val (r_move) (q_mayT rfl (fun hb=>r_move) (q_mayT rfl (fun hb=>r_indexAddrA Tryz.underlying49 cells_34 rfl (mayE hb rfl) (by decide) (by decide) rfl) ?_))))
   simp only [ev,zD,zE,zF,zG]
   refine q_mayTW rfl (fun hb u m=>r_load (mayE hb rfl) ((m.b 1 rfl).lies agg_34 cells_34 rfl rfl)) ?_
   simp only [ev,zD,zE,zF,zG,zH,zI,zJ,zK,Nat.zero_add,Nat.reduceAdd,Nat.reduceMul,Int.reduceToNat]
   refine q_mayT rfl (fun hb=>r_move) ?_
   simp only [ev,zD,zE,zF,zG]
   refine q_mayTP rfl rfl (fun hb=>by simp only [List.toList_toArray,List.map_cons,List.map_nil,zA,zB,zC,zD,zE,hb,may_t]; rfl) (fun hb=>lfrac_c (n:=k) (d:=1)) ?_
   simp only [ev,zD,zE,zF,zG]
   refine q_mayTP rfl rfl (fun hb=>by simp only [List.toList_toArray,List.map_cons,List.map_nil,zA,zB,zC,zD,zE,hb,may_t]; rfl) (fun hb=>MulFrac_c (p:=cq (sumT (mom P3.y) bs) (sumT det bs)) (q:=((k : Int) : Rat)) (cq_bq hby hbd) (bq_k (by omega))) (q_mayT rfl (fun hb=>r_move) (q_mayT rfl (fun hb=>r_indexAddrA Tryz.underlying49 cells_34 rfl (mayE hb rfl) (by decide) (by decide) rfl) ?_))
   simp only [ev,zD,zE,zF,zG]
   refine q_mayTW rfl (fun hb u m=>r_load (mayE hb rfl) ((m.b 0 rfl).lies agg_34 cells_34 rfl rfl)) ?_
   simp only [ev,zD,zE,zF,zG,zH,zI,zJ,zK,Nat.zero_add,Nat.reduceAdd,Nat.reduceMul,Int.reduceToNat]
   refine q_mayT rfl (fun hb=>r_as (eq_neq_34 (mayE hb rfl) (mayE hb rfl)) (bool_as (decide_eq_false (fun h=>h ⟨rfl,rfl,rfl,rfl⟩)))) (q_val (r_pickAnd rfl rfl rfl) (q_nil ?_))
   clear m; intro u m
   simp only [ev,zD,zE,zF,zG]
   simp only [Bool.and_false]
   refine k42 _ _ ?_
   refine c_no rfl (wp_skip (k41 _ _ ?_))
   refine wp_region_lit (n_val (r_move) (n_val (r_add (m:=1) (n:=1) (r:=2) rfl rfl (by decide)) (n_val (r_assign) (n_nil (then_rounds (c_seq fun K43 k43=>c_seq fun K44 k44=>wp_region_lit (n_val (r_move) ?_)))))))
   simp only [ev,zD,zE,zF,zG]
   refine n_val (r_lssT (m:=2) (n:=3) rfl rfl (by decide)) (n_nil (k44 _ _ ?_))
   refine c_yes rfl (wp_skip (k43 _ _ ?_))
   refine c_seq fun K45 k45=>wp_block (c_seq fun K46 k46=>?_)
   simp only [ev,zD,zE,zF,zG]
   refine mq m follows_mixed (by kernel_rfl) (q_val (r_move) (q_val (r_move) (q_mayT rfl (fun hb=>r_move) (q_mayT rfl (fun hb=>r_indexAddrA Tryz.underlying49 cells_34 rfl (mayE hb rfl) (by decide) (by decide) rfl) ?_))))
   simp only [ev,zD,zE,zF,zG]
   refine q_mayTW rfl (fun hb u m=>r_load (mayE hb rfl) ((m.b 1 rfl).lies agg_34 cells_34 rfl rfl)) ?_
   simp only [ev,zD,zE,zF,zG,zH,zI,zJ,zK,Nat.zero_add,Nat.reduceAdd,Nat.reduceMul,Int.reduceToNat]
   refine q_mayT rfl (fun hb=>r_move) ?_
   simp only [ev,zD,zE,zF,zG]
   refine q_mayTP rfl rfl (fun hb=>by simp only [List.toList_toArray,List.map_cons,List.map_nil,zA,zB,zC,zD,zE,hb,may_t]; rfl) (fun hb=>lfrac_c (n:=k) (d:=1)) ?_
   simp only [ev,zD,zE,zF,zG]
   refine q_mayTP rfl rfl (fun hb=>by simp only [List.toList_toArray,List.map_cons,List.map_nil,zA,zB,zC,zD,zE,hb,may_t]; rfl) (fun hb=>MulFrac_c (p:=cq (sumT (mom P3.z) bs) (sumT det bs)) (q:=((k : Int) : Rat)) (cq_bq hbz hbd) (bq_k (by omega))) (q_mayT rfl (fun hb=>r_move) (q_mayT rfl (fun hb=>r_indexAddrA Tryz.underlying49 cells_34 rfl (mayE hb rfl) (by decide) (by decide) rfl) ?_))
   simp only [ev,zD,zE,zF,zG]
   refine q_mayTW rfl (fun hb u m=>r_load (mayE hb rfl) ((m.b 0 rfl).lies agg_34 cells_34 rfl rfl)) ?_
   simp only [ev,zD,zE,zF,zG,zH,zI,zJ,zK,Nat.zero_add,Nat.reduceAdd,Nat.reduceMul,Int.reduceToNat]
   refine q_mayT rfl (fun hb=>r_as (eq_neq_34 (mayE hb rfl) (mayE hb rfl)) (bool_as (decide_eq_false (fun h=>h ⟨rfl,rfl,rfl,rfl⟩)))) (q_val (r_pickAnd rfl rfl rfl) (q_nil ?_))
   clear m; intro u m
   simp only [ev,zD,zE,zF,zG]
   simp only [Bool.and_false]
   refine k46 _ _ ?_
   refine c_no rfl (wp_skip (k45 _ _ ?_))
   refine wp_region_lit (n_val (r_move) (n_val (r_add (m:=2) (n:=1) (r:=3) rfl rfl (by decide)) (n_val (r_assign) (n_nil (then_rounds (c_seq fun K47 k47=>c_seq fun K48 k48=>wp_region_lit (n_val (r_move) ?_)))))))
   simp only [ev,zD,zE,zF,zG]
   refine n_val (r_lssF (m:=3) (n:=3) rfl rfl (by decide)) (n_nil (k48 _ _ ?_))
   refine c_no rfl (wp_exit (k33 _ _ ?_))
   refine c_seq fun K49 k49=>?_
   simp only [ev,zD,zE,zF,zG]
   refine mh m [true,true,true,true,true,true,true,true,true,true,true] [(0,true),(1,true),(2,true),(3,true),(4,true),(5,true),(6,true),(7,true),(8,true),(10,true),(11,true),(12,true),(9,true),(15,true),(13,false),(14,false),(16,true),(17,true),(18,true),(19,true),(21,true),(22,true),(23,true),(24,true),(25,true),(28,true),(20,false),(26,false),(27,false),(29,false),(30,true),(31,true),(32,true),(34,true),(33,true),(36,true),(35,false),(37,true),(38,true),(39,true),(41,true),(40,true),(43,true),(42,false),(44,true),(45,true),(46,true),(47,true),(48,true),(49,true),(50,true),(51,true)] follows_mixed (by kernel_rfl) (panic_put (fun _ _ _ _ _ h=>h)) (ol:=?_) ?hol ?_
   case hol=>simp only [zQ,zR,zS,zT,zU,zV]; try rfl
   clear m; intro u m
   refine h_val (r_move) (h_val (r_move) (h_want rfl (h_val (r_move) (h_want rfl (h_val (r_move) ?_)))))
   simp only [ev,zD,zE,zF,zG]
   refine h_want rfl (h_val (r_lenS rfl Tryz.underlying24 rfl) (h_want rfl (h_val (r_gtr rfl rfl) (h_want rfl (h_val (r_as (r_eqlB Tryz.underlying4 rfl rfl) (bool_as (decide_eq_true rfl))) (h_val (r_pickT rfl) ?_))))))
   simp only [ev,zD,zE,zF,zG]
   refine h_val (r_move) (h_want rfl (h_val (r_move) (h_want rfl (h_val (r_move) (h_want rfl ?_)))))
   simp only [ev,zD,zE,zF,zG]
   refine h_val (r_mul rfl rfl (wrap_i64 (by omega) (by omega))) (h_want rfl ?_)
   simp only [ev,zD,zE,zF,zG]
   refine h_load rfl (fun u m=>((m.b 7 rfl).full agg_34 cells_34)) ?_
   simp only [ev,zD,zE,zF,zG]
   refine h_want rfl (h_load rfl (fun u m=>((m.b 6 rfl).full agg_34 cells_34)) ?_)
   simp only [ev,zD,zE,zF,zG]
   refine h_step (n_want rfl (mcallP m rfl rfl (lfrac_c (n:=k * k) (d:=1)) ?_))
   clear m; intro u m
   refine n_nil ?_
   refine ⟨m,?_⟩
   refine h_step (n_want rfl ?_)
   simp only [ev,zD,zE,zF,zG]
   refine mcallP m rfl rfl (MulFrac_c (p:=farq (modP p) bs) (q:=((k * k : Int) : Rat)) ((farq_bq hI).mono (by decide)) (bq_k (by omega))) ?_
   clear m; intro u m
   refine n_nil ?_
   refine ⟨m,?_⟩
   refine h_want rfl (h_val (r_as (eq_eql_34 rfl rfl) (bool_as (decide_eq_true ⟨rfl,rfl,rfl,rfl⟩))) (h_val (r_pickT rfl) (h_val (r_move) ?_)))
   simp only [ev,zD,zE,zF,zG]
   refine h_want rfl (h_val (r_move) (h_want rfl (h_val (r_move) (h_want rfl (h_val (r_move) (h_want rfl ?_))))))
   simp only [ev,zD,zE,zF,zG]
   refine h_val (r_mul rfl rfl (wrap_i64 (by omega) (by omega))) (h_want rfl (h_val (r_move) (h_want rfl ?_)))
   simp only [ev,zD,zE,zF,zG]
   refine h_val (r_mul rfl rfl (wrap_i64 (by omega) (by omega))) (h_want rfl (h_val (r_move) (h_step (n_want rfl ?_))))
   simp only [ev,zD,zE,zF,zG]
   refine mcall m rfl rfl (Volume_c _ ((m.o 9 rfl).tris hI) (by omega)) ?_
   clear m; rintro v u m rfl
   refine n_nil ?_
   refine ⟨m,?_⟩
   refine h_step (n_want rfl ?_)
   simp only [ev,zD,zE,zF,zG]
   refine mcallP m rfl rfl (lfrac_c (n:=k * k * k) (d:=1)) ?_
   clear m; intro u m
   refine n_nil ?_
   refine ⟨m,?_⟩
   refine h_step (n_want rfl ?_)
   simp only [ev,zD,zE,zF,zG]
   refine mcallP m rfl rfl (MulFrac_c (p:=Rat.divInt (sumT det bs) 6) (q:=((k * k * k : Int) : Rat)) ((Bq.mk' hbd (show (6 : Int).natAbs < 2 ^ 3 by decide) (by decide)).mono (by decide)) (bq_k (by omega))) ?_
   clear m; intro u m
   refine n_nil ?_
   refine ⟨m,?_⟩
   refine h_step (n_want rfl ?_)
   simp only [ev,zD,zE,zF,zG]
   refine mcall m rfl rfl (volS_c (bs:=bs) (k:=k) _ ((m.o 8 rfl).tris hI2) (by omega)) ?_
   clear m; rintro v u m rfl
   refine n_nil ?_
   refine ⟨m,?_⟩
   refine h_want rfl (h_val (r_as (eq_eql_34 rfl rfl) (bool_as (decide_eq_true ⟨rfl,rfl,rfl,rfl⟩))) (h_val (r_pickT rfl) (h_val (r_move) ?_)))
   simp only [ev,zD,zE,zF,zG]
   refine h_want rfl (h_val (r_move) (h_want rfl ?_))
   simp only [ev,zD,zE,zF,zG]
   refine h_load rfl (fun u m=>((m.b 5 rfl).full agg_28 cells_28)) ?_
   simp only [ev,zD,zE,zF,zG]
   refine h_want rfl (h_load rfl (fun u m=>((m.b 3 rfl).full agg_28 cells_28)) ?_)
   simp only [ev,zD,zE,zF,zG]
   refine h_step (n_want rfl (mcallP m rfl rfl (ptimes_c (p:=loP (corsT bs)) (k:=k) hk (nr_lo hbs)) ?_))
   clear m; intro u m
   refine n_nil ?_
   refine ⟨m,?_⟩
   refine h_want rfl (h_val (r_as (eq_eql_28 rfl rfl) (bool_as (decide_eq_true ⟨rfl,rfl,rfl⟩))) (h_val (r_pickT rfl) (h_val (r_move) ?_)))
   simp only [ev,zD,zE,zF,zG]
   refine h_want rfl (h_val (r_move) (h_want rfl ?_))
   simp only [ev,zD,zE,zF,zG]
   refine h_load rfl (fun u m=>((m.b 4 rfl).full agg_28 cells_28)) ?_
   simp only [ev,zD,zE,zF,zG]
   refine h_want rfl (h_load rfl (fun u m=>((m.b 2 rfl).full agg_28 cells_28)) ?_)
   simp only [ev,zD,zE,zF,zG]
   refine h_step (n_want rfl (mcallP m rfl rfl (ptimes_c (p:=hiP (corsT bs)) (k:=k) hk (nr_hi hbs)) ?_))
   clear m; intro u m
   refine n_nil ?_
   refine ⟨m,?_⟩
   refine h_want rfl (h_val (r_as (eq_eql_28 rfl rfl) (bool_as (decide_eq_true ⟨rfl,rfl,rfl⟩))) (h_val (r_pickT rfl) (h_val (r_move) ?_)))
   simp only [ev,zD,zE,zF,zG]
   refine h_want rfl (h_val (r_move) (h_want rfl (h_val (r_move) (h_want rfl (h_val (r_as (r_eqlB Tryz.underlying4 rfl rfl) (bool_as (decide_eq_true rfl))) (h_val (r_pickT rfl) ?_))))))
   simp only [ev,zD,zE,zF,zG]
   refine h_val (r_assign) (h_nil (k49 _ _ ?_))
   refine wp_ret ?_
   simp only [ev,zD,zE,zF,zG]
   try simp only [Exit.inBlock,Exit.then,if_true]
   refine fin1 rfl rfl ?_
   try simp only [zD,zE]
   exact ⟨_,rfl,m.ext,rfl⟩
end Go.Proofs.YtmcgcnpgkkfkoaaGreatDoor
namespace Go.Lith
open Go.RowKit Go.ChangeShapes
variable {H : Type} {enc : TypeId × Value → H} {P : Program}
theorem trodAll_ext (hl : laidOutB P = true) {W W' : World} (hb : Ext W W') {sp : Nat → Bool} :
    ∀ {ts : List TypeId} {vs : List Value} {ds : List (DataW H)} {ps : List MemPlace},(ts.all fun t=>P.readableRec t && decide (t < P.types.size)) = true → DataW.TrodAll enc P W 0 (fun _=>true) true ts vs ds ps → (∀ p ∈ ps,sp p.block = true) → DataW.TrodAll enc P W' 0 sp true ts vs ds ps
  | [],[],[],_,_,h,_=>h
  | [],[],_ :: _,_,_,h,_=>h.elim
  | [],_ :: _,_,_,_,h,_=>h.elim
  | _ :: _,[],_,_,_,h,_=>h.elim
  | _ :: _,_ :: _,[],_,_,h,_=>h.elim
  | t :: ts,v :: vs,d :: ds,ps,hv,h,hs=>by
    obtain ⟨p,q,⟨n,h1⟩,h2,e⟩:=h
    subst e
    simp only [List.all_cons,Bool.and_eq_true,decide_eq_true_eq] at hv
    have hlt:=DataW.trod_lt n _ _ _ h1
    exact ⟨p,q,⟨n,DataW.trod_stays (kids_book hl hv.1.1) (book_sized hv.1.1) (fun h=>by cases h) ⟨hv.1.2,book_self t⟩ h1 (fun x hx=>Below.same hb (hlt x hx)) (fun x hx=>hs x (by simp [hx]))⟩,
      trodAll_ext hl hb (by simpa using hv.2) h2 (fun x hx=>hs x (by simp [hx])),rfl⟩
theorem post_of_ext {f : Func} {s : ChangeSpec} {apart fresh handsOn again : Bool} {W W' : World} {args : Array Value} {t : TypeId} {ds gs : List (DataW H)} {before : List MemPlace}
    (hl : laidOutB P = true) (hps : (f.params.toList.all fun t=>P.readableRec t && decide (t < P.types.size)) = true) (hv : s.vars = []) (hr : f.resultTypes = #[t]) (hu : P.underlying t = some .bool)
    (hW : DataW.Whole enc P f.params.toList s.vars apart W args.toList ds gs before) (hfn : (s.fn H (ds ++ gs)).results = [.lit (.bool true)] ∧ (s.fn H (ds ++ gs)).args = ds ∧ (s.fn H (ds ++ gs)).vars = []) (hb : Ext W W') :
    s.post enc P f apart fresh handsOn again W args (.bool true) W':=by
  have hW0:=hW
  obtain ⟨p,q,hA,hV,rfl,hz,hn⟩:=hW0
  rw [hv] at hV
  obtain ⟨rfl,rfl⟩:=trodVars_none hV
  have hargs : ∀ sp : Nat → Bool,(∀ x ∈ p ++ [],sp x.block = true) → DataW.TrodAll enc P W' 0 sp true f.params.toList args.toList (s.fn H (ds ++ [])).args p:=fun sp hsp=>by
    rw [hfn.2.1]
    exact trodAll_ext hl hb hps hA (fun x hx=>hsp x (by simp [hx]))
  have hvars : ∀ sp : Nat → Bool,DataW.TrodVars enc P W' sp s.vars (s.fn H (ds ++ [])).vars []:=fun sp=>by
    rw [hv,hfn.2.2]
    exact rfl
  have hres : ∀ (b : Nat) (sp : Nat → Bool) (hd : Bool),DataW.TrodAll enc P W' b sp hd f.resultTypes.toList ((Value.bool true).resultList f.resultTypes.size) (s.fn H (ds ++ [])).results []:=fun b sp hd=>by
    rw [hr,hfn.1]
    exact trodAll_cons_mk (shut_bool hu true) trodAll_mk0
  have hok : ∀ (j : Nat) (t : TypeId) (r : Value),f.resultTypes[j]? = some t → ((Value.bool true).resultList f.resultTypes.size)[j]? = some r → Value.okWide P W' .any 0 t r:=ok_one hr rfl (okWide_bool_mk hu _)
  have hlt : ∀ x ∈ p ++ [],x.block < W.heap.size:=hW.lt
  have hold : ∀ x ∈ p ++ [],(fun b=>decide (b < W.heap.size)) x.block = true:=fun x hx=>by simpa using hlt x hx
  refine ⟨ds,[],p ++ [],[],p,[],hW,hres _ _ _,hargs _ hold,hvars _,Below.frame hb _,fun _=>?_⟩
  refine ⟨hok,_,_,([] ++ p) ++ [],⟨[] ++ p,[],trodAll_append (hargs _ (fun _ _=>rfl)) (hres _ _ _),hvars _,rfl,?_,?_⟩,?_⟩
  · intro b off hp
    have h1 : MemPlace.cell b off ∈ p ++ []:=by simpa using hp
    rw [Below.frozen hb (p:=⟨b,off,none⟩) (hlt _ h1)]
    exact hz b off h1
  · intro ha
    simpa using hn ha
  · intro x hp _
    simpa using hp
end Go.Lith
