/-
 Texts of one claim, laid together: Sort, Sets, Guard, Open, Surf, Box, Ray2, Ray3, Ray4, Ray5, Ray6, Ray7, Ray8, Ray9, RayB, Cmp, SortPt.
-/
import Derived.Shelf.SlSortCmp.WholeK
import Derived.Shelf.SlSortCmp.NoneTotal
import Derived.OpenShut
import Derived.Lib.SmallJoins
import Derived.Deep.Slices
import Derived.Shelf.SlLaysF0
import Derived.Test.YtimjandkmfcmiaaGreatDoorProg
import Derived.Test.YtimjandkmfcmiaaGreatDoorTF4
set_option maxHeartbeats 8000000
set_option linter.unusedSimpArgs false
set_option linter.unusedVariables false
set_option linter.unusedSectionVars false
namespace Go.Lith
open Go.RowKit Go.Proofs Go.Sort Go.Shelf
theorem Tc {α : Type} {enc : α → List Value} {k : Nat} (hk : ∀ x,(enc x).length = k) (h0 : 0 < k) : ∀ (L : List α) (t : Nat),(L.flatMap enc)[t]? = (L[t / k]?).bind fun x=>(enc x)[t % k]?
 | [],t=>by simp
 | x :: L,t=>by
  rw [List.flatMap_cons,List.getElem?_append];by_cases h : t < k
  · rw [if_pos (by rw [hk]; exact h),Nat.div_eq_of_lt h,Nat.mod_eq_of_lt h]
    rfl
  · rw [if_neg (by rw [hk]; exact h),hk,Tc hk h0 L (t - k)]
    have e1 : t / k = (t - k) / k + 1:=by rw [Nat.div_eq t k,if_pos ⟨h0,Nat.le_of_not_lt h⟩]
    have e2 : t % k = (t - k) % k:=Nat.mod_eq_sub_mod (Nat.le_of_not_lt h);rw [e1,e2,List.getElem?_cons_succ]
theorem sH {α : Type} [Inhabited α] {enc : α → List Value} {k : Nat} (hk : ∀ x,(enc x).length = k) (h0 : 0 < k) (L : List α) : (flatK enc k L.toArray).toList = L.flatMap enc:=by
 have hlen : (L.flatMap enc).length = L.length * k:=by
  induction L with
  | nil=>simp
  | cons x L ih=>rw [List.flatMap_cons,List.length_append,ih,hk,List.length_cons,Nat.add_mul]; omega
 apply List.ext_getElem?;intro t;by_cases ht : t < L.length * k
 · have hd : t / k < L.length:=by
    rw [Nat.div_lt_iff_lt_mul h0];exact ht
   have hm : t % k < k:=Nat.mod_lt _ h0;have h1:=get_flatK enc k L.toArray t (by simpa using ht);rw [getElem!_pos _ t (by simpa using ht)] at h1;rw [Tc hk h0,List.getElem?_eq_getElem hd,Option.bind_some,Array.getElem?_toList,Array.getElem?_eq_getElem (by simpa using ht),h1,List.getElem?_eq_getElem (show t % k < (enc L[t / k]).length by rw [hk]; exact hm)]
   congr 1
   rw [getElem!_pos L.toArray _ (by simpa using hd),List.getElem_toArray,getElem!_pos _ _ (by rw [hk]; exact hm)]
 · rw [List.getElem?_eq_none (by simpa using Nat.le_of_not_lt ht),List.getElem?_eq_none (by rw [hlen]; exact Nat.le_of_not_lt ht)]
section
variable {α : Type} [Inhabited α] {P : Program} {ρ : Ren} {enc : α → List Value} {c : Nat} {E : TypeId} {w w0 : World} {is : List It} {A : Option Addr} {n cap : Nat}
theorem Pn {g : Nat} {xs : List α} {cur : Array Value} (hk : ∀ x,(enc x).length = c) (h0 : 0 < c) (hg : w.heap[g]? = some (.cells cur E (0,0))) (h : cur.toList.take (xs.length * c) = xs.flatMap enc) : HoldsK enc c w g 0 xs.toArray:=by
 intro j hj;have hl:=sH hk h0 xs;have hj' : j < xs.length * c:=by simpa using hj
 have e : (flatK enc c xs.toArray)[j]? = cur[j]?:=by
  rw [← Array.getElem?_toList,hl,← h,List.getElem?_take,if_pos hj',Array.getElem?_toList]
 rw [Array.getElem?_eq_getElem hj] at e;refine ⟨?_,?_⟩
 · simp only[World.cell?,hg,Nat.zero_add,Option.isSome_none,Bool.false_eq_true,if_false]
   rw [← e,getElem!_pos _ j hj];rfl
 · simp [World.frozen?,hg]
theorem Du {g : Nat} {xs ys : List α} {cur : Array Value} {q : Nat} {os : Array Obj} (hk : ∀ x,(enc x).length = c) (h0 : 0 < c) (hg : w.heap[g]? = some (.cells cur E (0,0))) (hl : xs.length * c ≤ cur.size) (hlen : ys.length = xs.length) :
 ∃ cur' : Array Value,(sortWorldK enc c w g 0 q ys.toArray os).heap[g]? = some (.cells cur' E (0,0)) ∧ cur'.size = cur.size ∧ cur'.toList.take (xs.length * c) = ys.flatMap enc:=by
 have hlt : g < w.heap.size:=(Array.getElem?_eq_some_iff.1 hg).1;refine ⟨putCells id 0 (flatK enc c ys.toArray) cur,?_,by simp [putCells],?_⟩
 · unfold sortWorldK putRowK putRow mapBlock grow
   simp only;rw [Array.getElem?_append_left (by simpa [ahead] using hlt),Array.getElem?_modify];simp [ahead,hg,onCells]
 · have hf:=sH hk h0 ys
   apply List.ext_getElem?;intro t;rw [List.getElem?_take,← hf,Array.getElem?_toList,Array.getElem?_toList];have hs : (flatK enc c ys.toArray).size = xs.length * c:=by simp [hlen]
   split
   · rename_i ht
     have : t < cur.size:=Nat.lt_of_lt_of_le ht hl;simp only[putCells,Array.getElem?_mapIdx,Array.getElem?_eq_getElem this,Option.map_some,Nat.zero_le,Nat.zero_add,true_and,Nat.sub_zero,hs,ht,if_true];rw [Array.getElem?_eq_getElem (by rw [hs]; exact ht),getElem!_pos _ t (by rw [hs]; exact ht)];rfl
   · rename_i ht
     rw [Array.getElem?_eq_none (by rw [hs]; exact Nat.le_of_not_lt ht)]
theorem Td (L : SlLaysF0.n6 P ρ) (aE : ∀ w,(isAgg (ρ.t 24)).run P w = .ok true w) (zE : ∀ w,(Go.sizeOf (ρ.t 24)).run P w = .ok c w) (hk : ∀ x,(enc x).length = c) (h0 : 0 < c) (h1 : ∀ x,∀ v ∈ enc x,v.oneCell' = true)
 (cf : α → α → Int) (hO : SWO (ltOf cf)) {f : FuncId} (hcmp : ∀ x y,wO P f [.agg (enc x).toArray,.agg (enc y).toArray] (.int .i64 (cf x y))) {xs : List α} (m : cR w0 w is) (k : Nat) (hi : is[k]? = some (oI E c A n cap (xs.flatMap enc))) (hsz : n < 4611686018427387904) :
 Calls P (ρ.f 6) #[.slice A n cap,.func (.func f) #[] #[]] w fun e w'=>∃ v i,e = .returned v ∧ cR w0 w' (is.set k i) ∧ (v = .tuple #[] ∧ ∃ ys : List α,i = oI E c A n cap (ys.flatMap enc) ∧ ys.Perm xs ∧ ys.Pairwise fun a b=>ltOf cf b a = false):=by
 have h : w.ownsRow 0 E c (.slice A n cap) n (xs.flatMap enc):=m.get k hi;have hlen : (xs.flatMap enc).length = xs.length * c:=by
  have:=sH hk h0 xs;rw [← this];simp
 have hn : xs.length = n:=by
  have:=h.1;rw [hlen] at this;exact Nat.eq_of_mul_eq_mul_right h0 this
 have hge:=fun b hb=>m.ge _ (List.mem_of_getElem? hi) b hb;rcases lK h with ⟨rfl,rfl,rfl,hx⟩ | ⟨g,cur,rfl,_,hg,hcap,hmax,hcur,htake⟩
 · refine (AnyF.slices_SortFunc_none L none 0 _ w).mono ?_
   rintro e w' ⟨rfl,rfl⟩;obtain rfl : xs = []:=List.eq_nil_of_length_eq_zero hn;refine ⟨_,oI E c none 0 0 [],rfl,?_,rfl,[],rfl,List.Perm.refl _,.nil⟩;have : is.set k (oI E c none 0 0 []) = is:=by
    apply List.ext_getElem?;intro j;rw [List.getElem?_set];split
    · rename_i e; subst e
      have:=(List.getElem?_eq_some_iff.1 hi).1;rw [if_pos this,hi];rfl
    · rfl
   rw [this];exact m
 · have hlt : g < w.heap.size:=(Array.getElem?_eq_some_iff.1 hg).1
   rw [← hn] at htake;have hH:=Pn (xs:=xs) hk h0 hg htake;have hx:=AnyQ.slices_SortFunc L c aE zE enc hk h1 cf hO f #[] g 0 cap xs.toArray w (fun args w'=>vP (hcmp default default w').1) (fun mm os dk _ x y=>by
    have:=((hcmp x y (sortWorldK enc c w g 0 mm dk os)).2.mono fun e w' h=>(show e = .returned (.int .i64 (cf x y)) ∧ ∃ q os',w' = grow ((sortWorldK enc c w g 0 mm dk os).drewN q) os' from by obtain ⟨u,rfl,hX,rfl⟩:=h; exact ⟨rfl,hX.grow⟩))
    simpa using this) hH hlt (by simpa [hn] using hsz)
   have es : xs.toArray.size = n:=by simpa using hn
   rw [es] at hx;refine hx.mono ?_;rintro e w' ⟨rfl,d',q,os,hp,hs,rfl⟩;have hd : d'.size = n:=by rw [hp.1]; exact es
   obtain ⟨ys,rfl⟩ : ∃ ys : List α,d' = ys.toArray:=⟨d'.toList,by simp⟩
   have hyl : ys.length = n:=by simpa using hd
   have hcs : xs.length * c ≤ cur.size:=by rw [hn,hcur]; exact Nat.mul_le_mul_right _ hcap
   obtain ⟨cur',e1,e2,e3⟩:=Du (q:=q) (os:=os) (ys:=ys) hk h0 hg hcs (by rw [hyl,hn]);refine ⟨_,oI E c (some ⟨g,0,none⟩) n cap (ys.flatMap enc),rfl,?_,rfl,ys,rfl,?_,?_⟩
   · refine m.put k hi rfl rfl rfl ?_ (fun b hb hne=>?_) ?_ (.inl fun _ h=>h)
     · simp [sortWorldK,putRowK,putRow,mapBlock,grow,ahead]
     · have hbg : g ≠ b:=fun e=>hne (by rw [e]; rfl)
       unfold sortWorldK putRowK putRow mapBlock grow;simp only;rw [Array.getElem?_append_left (by simpa [ahead] using hb),Array.getElem?_modify,if_neg hbg];rfl
     · refine ⟨?_,.inr ⟨g,cap,cur',rfl,Nat.zero_le _,e1,hcap,hmax,by rw [e2,hcur],?_⟩⟩
       · have:=sH hk h0 ys
         rw [← this];simp [hyl]
       · rw [← hn]; exact e3
   · have:=hp.2.2
     simpa [hyl,hn,List.take_of_length_le (Nat.le_of_eq hyl),List.take_of_length_le (Nat.le_of_eq hn),List.extract_eq_take_drop] using this
   · rw [List.pairwise_iff_getElem]
     intro i j hi' hj' hij;have:=hs i j (Nat.zero_le _) hij (by rw [← hyl]; exact hj');rw [getElem!_pos _ i (by simpa using hi'),getElem!_pos _ j (by simpa using hj')] at this;simpa using this
end
end Go.Lith
namespace Go.Lith
open Go.RowKit Go.Sort
instance : Inhabited P3:=⟨⟨0,0,0⟩⟩
def iO (p : P3) : List Value:=[.int .i64 p.x,.int .i64 p.y,.int .i64 p.z]
theorem Jj (p : P3) : ∀ v ∈ iO p,v.oneCell' = true:=fun v h=>by
 simp only[iO,List.mem_cons,List.not_mem_nil,or_false] at h;rcases h with rfl | rfl | rfl <;> rfl
theorem wQ (p q : P3) : (Ha p q < 0) ↔ p.Lt q:=by
 unfold Ha;split
 · simp [*]
 · split <;> simp [*]
theorem Te : SWO (Go.Proofs.ltOf Ha) where
 irrefl x:=by simp [Go.Proofs.ltOf,wQ,P3.lt_irrefl]
 trans x y z h1 h2:=by
  simp only[Go.Proofs.ltOf,decide_eq_true_eq,wQ] at *
  exact P3.lt_trans h1 h2
 ntrans x y z h1 h2:=by
  simp only[Go.Proofs.ltOf,decide_eq_false_iff_not,wQ] at *
  unfold P3.Lt at *
  omega
theorem wP.len {K V : Type} [DecidableEq K] {ek : K → Value} {en : V → Value} {D dn rs : List (K × V)} {es : Array MapEntry} {seen : Array Nat} (h : wP ek en D es seen dn rs) : dn.length + rs.length = D.length:=by
 have:=h.1.length_eq;simpa using this
theorem ac2 {K V : Type} [DecidableEq K] {ek : K → Value} {en : V → Value} {D dn rs : List (K × V)} {es : Array MapEntry} {b : Bool} {kv vv : Value} {sn : Array Nat} (hb : b = false) (h : Nxt ek en D es dn rs b kv vv sn) : rs = []:=by
 rcases h with ⟨_,h⟩ | ⟨h,_⟩
 · exact h
 · rw [h] at hb; cases hb
theorem ac3 {K V : Type} [DecidableEq K] {ek : K → Value} {en : V → Value} {D dn rs : List (K × V)} {es : Array MapEntry} {b : Bool} {kv vv : Value} {sn : Array Nat} (hb : b = true) (h : Nxt ek en D es dn rs b kv vv sn) :
 ∃ k v rs',rs.Perm ((k,v) :: rs') ∧ wP ek en D es sn (dn ++ [(k,v)]) rs':=by
 rcases h with ⟨h,_⟩ | ⟨_,k,v,rs',h1,_,_,h2⟩
 · rw [h] at hb; cases hb
 · exact ⟨k,v,rs',h1,h2⟩
def tL (D : List (P3 × Bool)) (ps : List P3) : List (P3 × Bool):=ps.foldl (fun D p=>nU D p true) D
theorem Tf {K V : Type} [DecidableEq K] (D : List (K × V)) (k a : K) (v : V) : a ∈ (nU D k v).map (·.1) ↔ a ∈ D.map (·.1) ∨ a = k:=by
 rw [xS];split
 · exact ⟨.inl,fun h=>h.elim id (fun e=>e ▸ ‹_›)⟩
 · simp
theorem Es : ∀ (ps : List P3) (D : List (P3 × Bool)) (a : P3),a ∈ (tL D ps).map (·.1) ↔ a ∈ D.map (·.1) ∨ a ∈ ps
 | [],D,a=>by simp [tL]
 | p :: ps,D,a=>by
  have:=Es ps (nU D p true) a;unfold tL at this ⊢;rw [List.foldl_cons,this,Tf,List.mem_cons,or_assoc]
theorem yN : ∀ (ps : List P3) (D : List (P3 × Bool)),(D.map (·.1)).Nodup → ((tL D ps).map (·.1)).Nodup
 | [],_,h=>h
 | p :: ps,D,h=>yN ps (nU D p true) (Ln h p true)
theorem yO {K V : Type} [DecidableEq K] : ∀ (D : List (K × V)) (k : K) (v : V),(nU D k v).length ≤ D.length + 1
 | [],_,_=>by simp [nU]
 | x :: D,k,v=>by
  unfold nU;split
  · simp
  · simp only[List.length_cons]
    exact Nat.succ_le_succ (yO D k v)
theorem wR : ∀ (ps : List P3) (D : List (P3 × Bool)),(tL D ps).length ≤ D.length + ps.length
 | [],D=>Nat.le_refl _
 | p :: ps,D=>Nat.le_trans (wR ps (nU D p true)) (by
  have:=yO D p true;simp only[List.length_cons];omega)
theorem Po (D : List (P3 × Bool)) (ps qs : List P3) : tL D (ps ++ qs) = tL (tL D ps) qs:=List.foldl_append ..
def eV (ts : List T3) : List P3:=ts.flatMap fun t=>[t.a,t.b,t.c]
def Tg (ps : List P3) : Prop:=ps.Pairwise fun a b=>a.Lt b
theorem Pp {ps : List P3} (hn : ps.Nodup) (h : ps.Pairwise fun a b=>¬ b.Lt a) : Tg ps:=by
 have:=hn.and h;exact this.imp fun {a b} h=>(P3.lt_tri a b).resolve_right (by rintro (e | e); exact h.1 e; exact h.2 e)
end Go.Lith
namespace Go.Lith
open Go.RowKit
@[irreducible] def Qk (c : Bool) (v : Value) : Value:=if c then v else undef
theorem Cg {v : Value} : Qk true v = v:=by simp [Qk]
theorem Th {v : Value} : Qk false v = undef:=by simp [Qk]
theorem oC {c : Bool} {u v : Value} (hb : c = true) (h : u = Qk c v) : u = v:=by rw [h,hb,Cg]
section
variable {P : Program} {ds : List Deferred} {l : List Value} {x y : Operand} {T ty : TypeId} {b c : Bool} {v : Value}
theorem xT {z : Operand} (hz : ev l z = .bool b) (hx : ev l x = Qk b (.bool c)) (hy : ev l y = .bool false) : gQ P l (.pick z x y) ty (.bool (b && c)):=by
 have:=Fl (P:=P) (ty:=ty) (x:=x) (y:=y) hz;cases b with
 | false=>simpa [hy] using this
 | true=>simpa [hx,Cg] using this
theorem pL {z : Operand} (hz : ev l z = .bool b) (hx : ev l x = .bool true) (hy : ev l y = Qk (!b) (.bool c)) : gQ P l (.pick z x y) ty (.bool (b || c)):=by
 have:=Fl (P:=P) (ty:=ty) (x:=x) (y:=y) hz;cases b with
 | false=>simpa [hy,Cg] using this
 | true=>simpa [hx] using this
end
section
variable {P : Program} {ops : Array Oper} {Q : Exit → Act → World → Prop} {rest : List Oper} {d j : Nat} {op : Op} {ty : TypeId} {pos : String} {after : Array Edge} {v : Value} {b : Bool} {ds : List Deferred} {l : List Value} {w w0 : World} {is : List It}
theorem sI (hw : yielded ops l.toArray j = some b) (hr : b = true → Am P l op ty v w) (h : wpList P ops Q rest (Fr (l.set d (Qk b v)) ds) w) : wpList P ops Q (Oper.mk (some d) op ty pos after (some (j,true)) :: rest) (Fr l ds) w:=by
 cases b with
 | false=>rw [Th] at h; exact bM hw h
 | true=>rw [Cg] at h; exact aP hw (sX (hr rfl) h)
theorem uF (hw : yielded ops l.toArray j = some b) (hr : (!b) = true → Am P l op ty v w) (h : wpList P ops Q rest (Fr (l.set d (Qk (!b) v)) ds) w) : wpList P ops Q (Oper.mk (some d) op ty pos after (some (j,false)) :: rest) (Fr l ds) w:=by
 cases b with
 | true=>rw [Bool.not_true,Th] at h; exact bG hw h
 | false=>rw [Bool.not_false,Cg] at h; exact aP hw (sX (hr rfl) h)
theorem pM (hw : yielded ops l.toArray j = some b) (hr : b = true → gQ P l op ty v) (h : wpList P ops Q rest (Fr (l.set d (Qk b v)) ds) w) : wpList P ops Q (Oper.mk (some d) op ty pos after (some (j,true)) :: rest) (Fr l ds) w:=sI hw (fun e=>hr e w) h
theorem mY (hw : yielded ops l.toArray j = some b) (hr : (!b) = true → gQ P l op ty v) (h : wpList P ops Q rest (Fr (l.set d (Qk (!b) v)) ds) w) : wpList P ops Q (Oper.mk (some d) op ty pos after (some (j,false)) :: rest) (Fr l ds) w:=uF hw (fun e=>hr e w) h
theorem Wf {f : FuncId} {fo : Operand} {xs : Array Operand} {args : List Value} {first cap : Array Value} {a0 : Array TypeId} (m : cR w0 w is) (hw : yielded ops l.toArray j = some b) (hf : ev l fo = .func (.func f) first cap) (hxs : b = true → first.toList ++ xs.toList.map (ev l) ++ cap.toList = args) (hc : b = true → dP P f args v)
 (h : ∀ u,cR w0 u is → wpList P ops Q rest (Fr (l.set d (Qk b v)) ds) u) : wpList P ops Q (Oper.mk (some d) (.call { callee:=.value fo,args:=xs,argTypes:=a0 }) ty pos after (some (j,true)) :: rest) (Fr l ds) w:=by
 cases b with
 | false=>simp only[Th] at h; exact bM hw (h w m)
 | true=>simp only[Cg] at h; exact aP hw (aW m hf (hxs rfl) (hc rfl) h)
end
section
variable {P : Program} {ops : Array Oper} {Q : Act → Prop} {C : World → Prop} {rest : List Oper} {d j : Nat} {op : Op} {ty : TypeId} {pos : String} {after : Array Edge} {v : Value} {b : Bool} {ds : List Deferred} {l : List Value} {w0 : World} {is : List It}
end
section
variable {P : Program} {ops : Array Oper} {S : World → Prop} {Q : Exit → Act → World → Prop} {rest : List (Oper × Bool)} {d j : Nat} {op : Op} {ty : TypeId} {pos : String} {after : Array Edge} {v : Value} {b : Bool} {ds : List Deferred} {l : List Value} {w : World}
end
end Go.Lith
namespace Go.Lith
open Go.RowKit Go.ChangeShapes
variable {H : Type} {enc : TypeId × Value → H} {P : Program} {w : World} {base : Nat} {spare : Nat → Bool} {held : Bool}
def pN (P : Program) : Nat → TypeId → Bool
 | 0,_=>false
 | n + 1,t=>match P.underlying t with
  | some (.int .i64)=>decide (P.cellsOf t = 1)
  | some (.struct fs)=>(fs.toList.all fun f=>pN P n f.type) && (List.range (P.cellsOf t)).all fun i=>fs.toList.any fun f=>decide (f.offset ≤ i) && decide (i < f.offset + P.cellsOf f.type)
  | some (.array m e)=>pN P n e && decide (P.cellsOf t = m * P.cellsOf e)
  | _=>false
theorem Ti {n : Int} (h : (Lit.int .i64 n).wf = true) : jG n:=by
 have:=bounds_i64 h;exact ⟨by omega,by omega⟩
theorem sJ : ∀ (n : Nat) (t : TypeId) (m : Nat) (cs : List Value) (x : DataW H × List MemPlace),pN P n t = true → DataW.trod enc P w base spare held m t cs = some x →
 cs.length = P.cellsOf t ∧ ∀ v ∈ cs,∃ z,v = .int .i64 z ∧ jG z
 | 0,t,m,cs,x,h,_=>by cases h
 | n + 1,t,m,cs,x,h,hx=>by
  unfold pN at h;split at h
  · rename_i hu
    obtain ⟨z,rfl,_,hz⟩:=DataW.trod_int hu hx;refine ⟨by rw [of_decide_eq_true h]; rfl,fun v hv=>⟨z,by simpa using hv,Ti hz⟩⟩
  · rename_i fs hu
    simp only[Bool.and_eq_true,List.all_eq_true,List.any_eq_true,decide_eq_true_eq,List.mem_range] at h;obtain ⟨ys,k,_,_,hl,hlen,hf⟩:=DataW.trod_struct hu hx;refine ⟨hl,fun v hv=>?_⟩;obtain ⟨i,hi,rfl⟩:=List.getElem_of_mem hv;obtain ⟨f,hfm,h1,h2⟩:=h.2 i (by rw [← hl]; exact hi);obtain ⟨j,hj,rfl⟩:=List.getElem_of_mem hfm;have hj' : j < fs.size:=by simpa using hj
    have:=hf j fs[j] (Array.getElem?_eq_getElem hj');rw [List.getElem?_eq_getElem (by rw [hlen]; exact hj')] at this;have hr:=(sJ n _ _ _ _ (h.1 _ (List.getElem_mem hj)) this).2;refine hr _ ?_;simp only[Array.getElem_toList] at h1 h2;refine List.mem_of_getElem? (i:=i - fs[j].offset) ?_;rw [List.getElem?_take,if_pos (by omega),List.getElem?_drop,show fs[j].offset + (i - fs[j].offset) = i by omega];exact List.getElem?_eq_getElem hi
  · rename_i q e hu
    simp only[Bool.and_eq_true,decide_eq_true_eq] at h;obtain ⟨ys,k,_,_,hl,hlen,hf⟩:=DataW.trod_array hu hx;refine ⟨hl,fun v hv=>?_⟩;obtain ⟨i,hi,rfl⟩:=List.getElem_of_mem hv;rw [hl,h.2] at hi;have hc : 0 < P.cellsOf e:=by
     rcases Nat.eq_zero_or_pos (P.cellsOf e) with h0 | h0
     · rw [h0] at hi; omega
     · exact h0
    have hq : i / P.cellsOf e < q:=Nat.div_lt_of_lt_mul (by rw [Nat.mul_comm]; exact hi);have:=hf _ hq;rw [List.getElem?_eq_getElem (by rw [hlen]; exact hq)] at this;have hr:=(sJ n _ _ _ _ h.1 this).2;refine hr _ (List.mem_of_getElem? (i:=i % P.cellsOf e) ?_);rw [List.getElem?_take,if_pos (Nat.mod_lt _ hc),List.getElem?_drop,Nat.mul_comm,Nat.div_add_mod];exact List.getElem?_eq_getElem _
  · cases h
theorem Et : ∀ (n : Nat) (cs : List Value),cs.length = n → (∀ v ∈ cs,∃ z,v = .int .i64 z ∧ jG z) → ∃ zs : List Int,zs.length = n ∧ cs = zs.map (.int .i64 ·) ∧ ∀ z ∈ zs,jG z
 | 0,[],_,_=>⟨[],rfl,rfl,fun _ h=>by cases h⟩
 | n + 1,v :: vs,h,hv=>by
  obtain ⟨zs,h1,h2,h3⟩:=Et n vs (by simpa using h) (fun u hu=>hv u (by simp [hu]));obtain ⟨z,rfl,hz⟩:=hv v (by simp);exact ⟨z :: zs,by simp [h1],by simp [h2],fun u hu=>by rcases List.mem_cons.1 hu with rfl | hu; exact hz; exact h3 _ hu⟩
theorem Eu {r : Reach} {b0 n m : Nat} {t : TypeId} {v : Value} {d : DataW H} {p : List MemPlace} (ha : iA P t true) (hi : pN P n t = true) (hc : P.cellsOf t = m) (hv : Value.okWide P w r b0 t v) (h : DataW.Trod enc P w base spare held t v d p) :
 ∃ zs : List Int,zs.length = m ∧ v = .agg (zs.map (.int .i64 ·)).toArray ∧ ∀ z ∈ zs,jG z:=by
 obtain ⟨dd,hu,hd⟩:=ha;obtain ⟨fuel,hf⟩:=h;unfold Value.okWide at hv;rw [hu] at hv;have : ∃ cs,v = .agg cs:=by
  cases dd <;> first | (obtain ⟨cs,rfl,_⟩:=hv; exact ⟨cs,rfl⟩) | (cases hd)
 obtain ⟨cs,rfl⟩:=this;obtain ⟨h1,h2⟩:=sJ n t fuel _ _ hi hf;obtain ⟨zs,h3,h4,h5⟩:=Et m cs.toList (by rw [← hc]; exact h1) h2;exact ⟨zs,h3,by rw [← h4],h5⟩
theorem adr {zs : List Int} (h : zs.length = 9) : ∃ a b c d e f g i j,zs = [a,b,c,d,e,f,g,i,j]:=by
 match zs,h with
 | [a,b,c,d,e,f,g,i,j],_=>exact ⟨a,b,c,d,e,f,g,i,j,rfl⟩
theorem Wg {r : Reach} {b0 n : Nat} {t : TypeId} {v : Value} {d : DataW H} {p : List MemPlace} (ha : iA P t true) (hi : pN P n t = true) (hc : P.cellsOf t = 9) (hv : Value.okWide P w r b0 t v) (h : DataW.Trod enc P w base spare held t v d p) : ∃ q : T3,IT q ∧ v = tr q:=by
 obtain ⟨zs,h1,rfl,h2⟩:=Eu ha hi hc hv h;obtain ⟨x1,x2,x3,y1,y2,y3,z1,z2,z3,rfl⟩:=adr h1;exact ⟨⟨⟨x1,x2,x3⟩,⟨y1,y2,y3⟩,⟨z1,z2,z3⟩⟩,⟨⟨h2 _ (by simp),h2 _ (by simp),h2 _ (by simp)⟩,⟨h2 _ (by simp),h2 _ (by simp),h2 _ (by simp)⟩,⟨h2 _ (by simp),h2 _ (by simp),h2 _ (by simp)⟩⟩,rfl⟩
structure eY (w : World) (A : Option Addr) (n : Nat) (zs : List Int) : Prop where
 len : zs.length = n
 it : ∀ z ∈ zs,jG z
 row : ∀ i z,zs[i]? = some z → ∃ a,A = some a ∧ w.cell? (a.add i) = some (.int .i64 z)
theorem eY.ext {w' : World} {A : Option Addr} {n : Nat} {zs : List Int} (h : eY w A n zs) (hE : dL w w') : eY w' A n zs :=
 ⟨h.len,h.it,fun i z hi=>let ⟨a,e,hr⟩:=h.row i z hi; ⟨a,e,hE.cell hr⟩⟩
theorem eY.get {A : Option Addr} {n : Nat} {zs : List Int} (h : eY w A n zs) {i : Nat} (hi : i < n) : ∃ z,zs[i]? = some z ∧ Iw z ∧ ∃ a,A = some a ∧ w.cell? (a.add i) = some (.int .i64 z):=by
 have hl : i < zs.length:=by rw [h.len]; exact hi
 exact ⟨zs[i],List.getElem?_eq_getElem hl,⟨h.it _ (List.getElem_mem hl)⟩,h.row i _ (List.getElem?_eq_getElem hl)⟩
end Go.Lith
namespace Go.Lith
open Go.RowKit
/-! ### Hills -/
/-! ### Cubes -/
/-! ### What the walks ask for -/
end Go.Lith
namespace Go.Lith
open Go.RowKit
def lL (p q : P3) : P3:=⟨if q.x < p.x then q.x else p.x,if q.y < p.y then q.y else p.y,if q.z < p.z then q.z else p.z⟩
def lM (p q : P3) : P3:=⟨if p.x < q.x then q.x else p.x,if p.y < q.y then q.y else p.y,if p.z < q.z then q.z else p.z⟩
def uL : List P3 → P3
 | []=>⟨0,0,0⟩
 | p :: ps=>ps.foldl lL p
def uM : List P3 → P3
 | []=>⟨0,0,0⟩
 | p :: ps=>ps.foldl lM p
theorem Ev (p : P3) : lL p p = p:=by simp [lL]
theorem Ew (p : P3) : lM p p = p:=by simp [lM]
theorem nG {α : Type} {ps : List α} {k : Nat} {p : α} (h : ps[k]? = some p) : ps.take (k + 1) = ps.take k ++ [p]:=by
 rw [List.take_add_one,h];rfl
theorem Tj {ps : List P3} {k : Nat} {p : P3} (hp : ps[k]? = some p) (hk : 0 < k) : uL (ps.take (k + 1)) = lL (uL (ps.take k)) p:=by
 obtain ⟨j,rfl⟩ : ∃ j,k = j + 1:=⟨k - 1,by omega⟩
 cases ps with
 | nil=>cases hp
 | cons a ps =>
  rw [List.getElem?_cons_succ] at hp;rw [List.take_succ_cons,List.take_succ_cons,nG hp];simp [uL,List.foldl_append]
theorem Tk {ps : List P3} {k : Nat} {p : P3} (hp : ps[k]? = some p) (hk : 0 < k) : uM (ps.take (k + 1)) = lM (uM (ps.take k)) p:=by
 obtain ⟨j,rfl⟩ : ∃ j,k = j + 1:=⟨k - 1,by omega⟩
 cases ps with
 | nil=>cases hp
 | cons a ps =>
  rw [List.getElem?_cons_succ] at hp;rw [List.take_succ_cons,List.take_succ_cons,nG hp];simp [uM,List.foldl_append]
theorem Wh {ps : List P3} {p : P3} (hp : ps[0]? = some p) : uL (ps.take 1) = lL p p:=by
 cases ps with
 | nil=>cases hp
 | cons a ps=>cases hp; rw [Ev]; rfl
theorem Wi {ps : List P3} {p : P3} (hp : ps[0]? = some p) : uM (ps.take 1) = lM p p:=by
 cases ps with
 | nil=>cases hp
 | cons a ps=>cases hp; rw [Ew]; rfl
theorem Tl {ps : List P3} {k : Nat} {p : P3} (hk : k = 0) (hp : ps[k]? = some p) : uL (ps.take (k + 1)) = lL p p:=by subst hk; exact Wh hp
theorem Tm {ps : List P3} {k : Nat} {p : P3} (hk : k = 0) (hp : ps[k]? = some p) : uM (ps.take (k + 1)) = lM p p:=by subst hk; exact Wi hp
theorem Ae : ∀ (ps : List P3) (p : P3),(∀ a ∈ p :: ps,(ps.foldl lL p).x ≤ a.x ∧ (ps.foldl lL p).y ≤ a.y ∧ (ps.foldl lL p).z ≤ a.z) ∧
 (∃ a ∈ p :: ps,(ps.foldl lL p).x = a.x) ∧ (∃ a ∈ p :: ps,(ps.foldl lL p).y = a.y) ∧ ∃ a ∈ p :: ps,(ps.foldl lL p).z = a.z
 | [],p=>⟨fun a h=>by rw [List.mem_singleton.1 h]; exact ⟨Int.le_refl _,Int.le_refl _,Int.le_refl _⟩,⟨p,by simp,rfl⟩,⟨p,by simp,rfl⟩,⟨p,by simp,rfl⟩⟩
 | q :: ps,p=>by
  obtain ⟨h,⟨ax,hx,ex⟩,⟨ay,hy,ey⟩,⟨az,hz,ez⟩⟩:=Ae ps (lL p q);rw [List.foldl_cons];have hm:=h _ (List.mem_cons_self ..);have m1 : (lL p q).x ≤ p.x ∧ (lL p q).x ≤ q.x ∧ ((lL p q).x = p.x ∨ (lL p q).x = q.x):=by simp only[lL]; split <;> omega
  have m2 : (lL p q).y ≤ p.y ∧ (lL p q).y ≤ q.y ∧ ((lL p q).y = p.y ∨ (lL p q).y = q.y):=by simp only[lL]; split <;> omega
  have m3 : (lL p q).z ≤ p.z ∧ (lL p q).z ≤ q.z ∧ ((lL p q).z = p.z ∨ (lL p q).z = q.z):=by simp only[lL]; split <;> omega
  refine ⟨fun a ha=>?_,?_,?_,?_⟩
  · rcases List.mem_cons.1 ha with rfl | ha
    · omega
    · rcases List.mem_cons.1 ha with rfl | ha
      · omega
      · exact h a (List.mem_cons_of_mem _ ha)
  · rcases List.mem_cons.1 hx with rfl | hx
    · rcases m1.2.2 with e | e
      · exact ⟨p,by simp,by omega⟩
      · exact ⟨q,by simp,by omega⟩
    · exact ⟨ax,by simp [hx],ex⟩
  · rcases List.mem_cons.1 hy with rfl | hy
    · rcases m2.2.2 with e | e
      · exact ⟨p,by simp,by omega⟩
      · exact ⟨q,by simp,by omega⟩
    · exact ⟨ay,by simp [hy],ey⟩
  · rcases List.mem_cons.1 hz with rfl | hz
    · rcases m3.2.2 with e | e
      · exact ⟨p,by simp,by omega⟩
      · exact ⟨q,by simp,by omega⟩
    · exact ⟨az,by simp [hz],ez⟩
theorem Af : ∀ (ps : List P3) (p : P3),(∀ a ∈ p :: ps,a.x ≤ (ps.foldl lM p).x ∧ a.y ≤ (ps.foldl lM p).y ∧ a.z ≤ (ps.foldl lM p).z) ∧
 (∃ a ∈ p :: ps,(ps.foldl lM p).x = a.x) ∧ (∃ a ∈ p :: ps,(ps.foldl lM p).y = a.y) ∧ ∃ a ∈ p :: ps,(ps.foldl lM p).z = a.z
 | [],p=>⟨fun a h=>by rw [List.mem_singleton.1 h]; exact ⟨Int.le_refl _,Int.le_refl _,Int.le_refl _⟩,⟨p,by simp,rfl⟩,⟨p,by simp,rfl⟩,⟨p,by simp,rfl⟩⟩
 | q :: ps,p=>by
  obtain ⟨h,⟨ax,hx,ex⟩,⟨ay,hy,ey⟩,⟨az,hz,ez⟩⟩:=Af ps (lM p q);rw [List.foldl_cons];have hm:=h _ (List.mem_cons_self ..);have m1 : p.x ≤ (lM p q).x ∧ q.x ≤ (lM p q).x ∧ ((lM p q).x = p.x ∨ (lM p q).x = q.x):=by simp only[lM]; split <;> omega
  have m2 : p.y ≤ (lM p q).y ∧ q.y ≤ (lM p q).y ∧ ((lM p q).y = p.y ∨ (lM p q).y = q.y):=by simp only[lM]; split <;> omega
  have m3 : p.z ≤ (lM p q).z ∧ q.z ≤ (lM p q).z ∧ ((lM p q).z = p.z ∨ (lM p q).z = q.z):=by simp only[lM]; split <;> omega
  refine ⟨fun a ha=>?_,?_,?_,?_⟩
  · rcases List.mem_cons.1 ha with rfl | ha
    · omega
    · rcases List.mem_cons.1 ha with rfl | ha
      · omega
      · exact h a (List.mem_cons_of_mem _ ha)
  · rcases List.mem_cons.1 hx with rfl | hx
    · rcases m1.2.2 with e | e
      · exact ⟨p,by simp,by omega⟩
      · exact ⟨q,by simp,by omega⟩
    · exact ⟨ax,by simp [hx],ex⟩
  · rcases List.mem_cons.1 hy with rfl | hy
    · rcases m2.2.2 with e | e
      · exact ⟨p,by simp,by omega⟩
      · exact ⟨q,by simp,by omega⟩
    · exact ⟨ay,by simp [hy],ey⟩
  · rcases List.mem_cons.1 hz with rfl | hz
    · rcases m3.2.2 with e | e
      · exact ⟨p,by simp,by omega⟩
      · exact ⟨q,by simp,by omega⟩
    · exact ⟨az,by simp [hz],ez⟩
theorem He {ps qs : List P3} (h : ∀ a,a ∈ ps ↔ a ∈ qs) : uL ps = uL qs:=by
 cases ps with
 | nil=>cases qs with
  | nil=>rfl
  | cons q qs=>have:=(h q).2 (List.mem_cons_self ..); cases this
 | cons p ps=>cases qs with
  | nil=>have:=(h p).1 (List.mem_cons_self ..); cases this
  | cons q qs =>
   obtain ⟨h1,⟨a,ha,ea⟩,⟨b,hb,eb⟩,⟨c,hc,ec⟩⟩:=Ae ps p;obtain ⟨k1,⟨a',ha',ea'⟩,⟨b',hb',eb'⟩,⟨c',hc',ec'⟩⟩:=Ae qs q;have x1:=h1 a' ((h a').2 ha'); have y1:=h1 b' ((h b').2 hb'); have z1:=h1 c' ((h c').2 hc');have x2:=k1 a ((h a).1 ha); have y2:=k1 b ((h b).1 hb); have z2:=k1 c ((h c).1 hc);apply P3.eq <;> simp only[uL] <;> omega
theorem Hf {ps qs : List P3} (h : ∀ a,a ∈ ps ↔ a ∈ qs) : uM ps = uM qs:=by
 cases ps with
 | nil=>cases qs with
  | nil=>rfl
  | cons q qs=>have:=(h q).2 (List.mem_cons_self ..); cases this
 | cons p ps=>cases qs with
  | nil=>have:=(h p).1 (List.mem_cons_self ..); cases this
  | cons q qs =>
   obtain ⟨h1,⟨a,ha,ea⟩,⟨b,hb,eb⟩,⟨c,hc,ec⟩⟩:=Af ps p;obtain ⟨k1,⟨a',ha',ea'⟩,⟨b',hb',eb'⟩,⟨c',hc',ec'⟩⟩:=Af qs q;have x1:=h1 a' ((h a').2 ha'); have y1:=h1 b' ((h b').2 hb'); have z1:=h1 c' ((h c').2 hc');have x2:=k1 a ((h a).1 ha); have y2:=k1 b ((h b).1 hb); have z2:=k1 c ((h c).1 hc);apply P3.eq <;> simp only[uM] <;> omega
theorem vL {ts : List T3} {k : Nat} {t : T3} (h : ts[k]? = some t) : eV (ts.take (k + 1)) = eV (ts.take k) ++ [t.a,t.b,t.c]:=by
 unfold eV;rw [nG h,List.flatMap_append];simp
theorem Lp {ts : List T3} {k : Nat} {t : T3} (h : ts[k]? = some t) : tL [] (eV (ts.take (k + 1))) = nU (nU (nU (tL [] (eV (ts.take k))) t.a true) t.b true) t.c true:=by
 rw [vL h,Po];rfl
theorem Hg (ts : List T3) : (eV ts).length = ts.length * 3:=by
 unfold eV
 induction ts with
 | nil=>rfl
 | cons t ts ih=>rw [List.flatMap_cons,List.length_append,ih]; simp only[List.length_cons,List.length_nil]; omega
theorem Wj {ts : List T3} {t : T3} (h : ts[0]? = some t) : (eV ts).foldl lL t.a = uL (eV ts):=by
 cases ts with
 | nil=>cases h
 | cons u ts=>cases h; simp [eV,uL,Ev]
theorem Wk {ts : List T3} {t : T3} (h : ts[0]? = some t) : (eV ts).foldl lM t.a = uM (eV ts):=by
 cases ts with
 | nil=>cases h
 | cons u ts=>cases h; simp [eV,uM,Ew]
theorem Ch : ∀ (ps : List P3) (i : Nat) (p : P3),ps[i]? = some p → (ps.flatMap iO).drop (i * 3) = iO p ++ (ps.drop (i + 1)).flatMap iO
 | [],_,_,h=>by cases h
 | q :: ps,0,p,h=>by cases h; simp
 | q :: ps,i + 1,p,h=>by
  rw [List.flatMap_cons,List.drop_append,show (iO q).length = 3 from rfl,List.drop_eq_nil_of_le (show (iO q).length ≤ (i + 1) * 3 from by show 3 ≤ _; omega),List.nil_append,show (i + 1) * 3 - 3 = i * 3 by omega,Ch ps i p h];rfl
theorem Ow.pt {w0 w : World} {S : List (Option Nat)} {E : TypeId} {n cap g i : Nat} {ps : List P3} {p : P3} (h : Ow w0 w S E 3 (Option.some ⟨g,0,none⟩) n cap (ps.flatMap iO)) (hp : ps[i]? = Option.some p) : qS w ((⟨g,0,none⟩ : Addr).add (i * 3)) [.int .i64 p.x,.int .i64 p.y,.int .i64 p.z]:=by
 show qS w _ (iO p)
 intro j u hj;have hj' : j < (iO p).length:=(List.getElem?_eq_some_iff.1 hj).1;rw [mK];refine h.rows _ _ ?_;rw [← List.getElem?_drop,Ch ps i p hp,List.getElem?_append_left hj'];exact hj
theorem Ow.max {w0 w : World} {S : List (Option Nat)} {E : TypeId} {c n cap : Nat} {A : Option Addr} {xs : List Value} (h : Ow w0 w S E c A n cap xs) : cap ≤ 9223372036854775807:=by
 rcases h.cases with ⟨_,_,rfl,_⟩ | ⟨_,_,_,_,_,_,h,_⟩
 · exact Nat.zero_le _
 · exact h
theorem aa6 {ps : List P3} : (ps.flatMap iO).length = ps.length * 3:=by
 induction ps with
 | nil=>rfl
 | cons p ps ih=>rw [List.flatMap_cons,List.length_append,ih,show (iO p).length = 3 from rfl,List.length_cons]; omega
end Go.Lith
namespace Go.Lith
open Go.RowKit
def Dv (r : fY) (n f d : Int) : Rat:=if d < 0 then Rat.divInt f (r.w * d) else Rat.divInt n (r.w * d)
def Ci (r : fY) (n f d : Int) : Rat:=if d < 0 then Rat.divInt n (r.w * d) else Rat.divInt f (r.w * d)
def lN (n f d : Int) : Prop:=f < n ∨ d = 0 ∧ (0 < n ∨ f < 0)
instance (n f d : Int) : Decidable (lN n f d):=inferInstanceAs (Decidable (_ ∨ _ ∧ (_ ∨ _)))
def xU (p q : Rat) : Rat:=if p < q then q else p
def qP (o : Option Rat) (q : Rat) : Rat:=match o with | none=>q | some p=>if q < p then q else p
def Yk (r : fY) (n f d : Int) (st : Rat × Option Rat) : Option (Rat × Option Rat) :=
 if lN n f d then none else if d = 0 then some st
 else some (xU st.1 (Dv r n f d),some (qP st.2 (Ci r n f d)))
def P3.at (p : P3) : Nat → Int
 | 0=>p.x
 | 1=>p.y
 | _=>p.z
def xD (r : fY) (lo hi : P3) : Nat → Option (Rat × Option Rat)
 | 0=>some (0,none)
 | k + 1=>(xD r lo hi k).bind (Yk r ((r.to lo).at k) ((r.to hi).at k) (r.d.at k))
def nH (r : fY) (lo hi : P3) : Option (Rat × Rat) :=
 if r.ok then (xD r lo hi 3).bind fun s=>match s.2 with | none=>none | some q=>if q < s.1 then none else some (s.1,q) else none
inductive Kd where
 | no
 | ex
 | unk
 | near (lo hi : P3)
def kI (lo hi : P3) (b : Int) : Prop :=
 -9223372036854775808 + b ≤ min (min lo.x lo.y) lo.z ∧ max (max hi.x hi.y) hi.z ≤ 9223372036854775807 - b
instance (lo hi : P3) (b : Int) : Decidable (kI lo hi b):=inferInstanceAs (Decidable (_ ∧ _))
def P3.all (b : Int) : P3:=⟨b,b,b⟩
def P3.pls (p q : P3) : P3:=⟨p.x + q.x,p.y + q.y,p.z + q.z⟩
def nV (ts : List T3) : List P3:=ts.flatMap fun t=>[t.a,t.b,t.c]
def qQ (ts : List T3) (b : Int) : Kd :=
 if b < 0 then .unk else if b = 0 then .ex else if ts = [] then .no
 else if kI (uL (nV ts)) (uM (nV ts)) b then .near ((uL (nV ts)).sub (P3.all b)) ((uM (nV ts)).pls (P3.all b)) else .unk
def iS (bs : List Int) (i : Nat) : Int:=(bs[i]?).getD (-1)
def iU (r : fY) : Kd → Option Rat
 | .unk=>some 0
 | .near lo hi=>(nH r lo hi).map (·.1)
 | _=>none
def Kd.isEx : Kd → Bool
 | .ex=>true
 | _=>false
def bQ (bs : List Int) (ls : List (List T3)) : List T3:=ls.zipIdx.flatMap fun x=>if (qQ x.1 (iS bs x.2)).isEx then x.1 else []
def Kd.other : Kd → Bool
 | .ex=>false
 | .no=>false
 | _=>true
def cB (bs : List Int) (ls : List (List T3)) : List (Nat × Kd):=ls.zipIdx.flatMap fun x=>if (qQ x.1 (iS bs x.2)).other then [(x.2,qQ x.1 (iS bs x.2))] else []
def nW (r : fY) (h : Option (Rat × Nat)) (x : Nat × Kd) : List (Nat × Rat) :=
 match iU r x.2 with
 | none=>[]
 | some q=>match h with
  | none=>[(x.1,q)]
  | some (t,_)=>if q < t then [(x.1,q)] else []
def cT (r : fY) (h : Option (Rat × Nat)) (xs : List (Nat × Kd)) : List (Nat × Rat):=xs.flatMap (nW r h)
def rR : List (Nat × Rat) → Rat
 | []=>0
 | x :: xs=>xs.foldl (fun a y=>if y.2 < a then y.2 else a) x.2
structure oD where
 kind : Int
 lo : Rat
 hi : Rat
 sure : Bool
 opn : List Int
def oD.miss : oD:=⟨2,0,0,false,[]⟩
def Hh (h : Option (Rat × Nat)) (o : List (Nat × Rat)) : oD :=
 if o ≠ [] then ⟨3,rR o,lZ h,h.isSome,o.map fun x=>(x.1 : Int)⟩
 else match h with
  | none=>.miss
  | some (t,_)=>⟨1,t,t,false,[]⟩
def fS (r : fY) (ls : List (List T3)) (bs : List Int) : oD :=
 if r.ok then Hh (bE r (bQ bs ls)) (cT r (bE r (bQ bs ls)) (cB bs ls)) else .miss
theorem Jk {α β : Type} {ls : List α} {k : Nat} {l : α} (f : α × Nat → List β) (h : ls[k]? = some l) : (ls.take (k + 1)).zipIdx.flatMap f = (ls.take k).zipIdx.flatMap f ++ f (l,k):=by
 have hk : k < ls.length:=(List.getElem?_eq_some_iff.1 h).1;rw [List.take_add_one,h,List.zipIdx_append,List.flatMap_append,List.length_take,Nat.min_eq_left (Nat.le_of_lt hk)];simp
theorem oU {bs : List Int} {ls : List (List T3)} {k : Nat} {l : List T3} (h : ls[k]? = some l) : bQ bs (ls.take (k + 1)) = bQ bs (ls.take k) ++ if (qQ l (iS bs k)).isEx then l else []:=Jk _ h
theorem nI {bs : List Int} {ls : List (List T3)} {k : Nat} {l : List T3} (h : ls[k]? = some l) : cB bs (ls.take (k + 1)) = cB bs (ls.take k) ++ if (qQ l (iS bs k)).other then [(k,qQ l (iS bs k))] else []:=Jk _ h
theorem uG {r : fY} {h : Option (Rat × Nat)} {xs : List (Nat × Kd)} {k : Nat} {x : Nat × Kd} (hx : xs[k]? = some x) : cT r h (xs.take (k + 1)) = cT r h (xs.take k) ++ nW r h x:=by
 unfold cT;rw [List.take_add_one,hx,List.flatMap_append];simp
theorem nX {xs : List (Nat × Rat)} {x : Nat × Rat} (h : xs ≠ []) : rR (xs ++ [x]) = if x.2 < rR xs then x.2 else rR xs:=by
 cases xs with
 | nil=>exact absurd rfl h
 | cons y ys =>
  simp only[rR,List.cons_append,List.foldl_append,List.foldl_cons,List.foldl_nil];rfl
end Go.Lith
namespace Go.Lith
open Go.RowKit
def Nf (r : fY) (ts : List T3) (b : Option (Rat × Nat)) : Prop :=
 (b = none → ∀ t ∈ ts,¬ iR r t) ∧ ∀ q k,b = some (q,k) → (∃ t,ts[k]? = some t ∧ iR r t ∧ fR r t = q) ∧ ∀ t ∈ ts,iR r t → q ≤ fR r t
theorem Cj (r : fY) (ts : List T3) : Nf r ts (bE r ts):=by
 have H : ∀ k,k ≤ ts.length → Nf r (ts.take k) (bE r (ts.take k)):=by
  intro k
  induction k with
  | zero=>exact fun _=>⟨fun _ t h=>by simp at h,fun q k h=>by simp [bE] at h⟩
  | succ k ih =>
   intro hk;have ih:=ih (by omega);obtain ⟨t,ht⟩ : ∃ t,ts[k]? = some t:=⟨_,List.getElem?_eq_getElem (by omega)⟩
   have ht' : ts.take (k + 1) = ts.take k ++ [t]:=nG ht;have hat : (ts.take (k + 1))[k]? = some t:=by rw [List.getElem?_take_of_lt (by omega)]; exact ht
   have up : ∀ {j u},(ts.take k)[j]? = some u → (ts.take (k + 1))[j]? = some u:=fun h=>by
    rw [ht',List.getElem?_append_left (List.getElem?_eq_some_iff.1 h).1]; exact h
   rw [pK ht];unfold Cd;by_cases hh : iR r t
   · rw [if_pos hh]
     cases hb : bE r (ts.take k) with
     | none =>
      refine ⟨fun h=>(by cases h),fun q j h=>?_⟩;cases h;refine ⟨⟨t,hat,hh,rfl⟩,fun u hu hu'=>?_⟩;rw [ht'] at hu;rcases List.mem_append.1 hu with hu | hu
      · exact absurd hu' (ih.1 hb u hu)
      · rw [List.mem_singleton.1 hu]; exact Rat.le_refl
     | some x =>
      obtain ⟨q,j⟩:=x;obtain ⟨⟨v,hv,hv1,hv2⟩,hl⟩:=ih.2 q j hb;dsimp only;by_cases hq : fR r t < q
      · rw [if_pos hq]
        refine ⟨fun h=>(by cases h),fun q' j' h=>?_⟩;cases h;refine ⟨⟨t,hat,hh,rfl⟩,fun u hu hu'=>?_⟩;rw [ht'] at hu;rcases List.mem_append.1 hu with hu | hu
        · exact Rat.le_trans (Rat.le_of_lt hq) (hl u hu hu')
        · rw [List.mem_singleton.1 hu]; exact Rat.le_refl
      · rw [if_neg hq]
        refine ⟨fun h=>(by cases h),fun q' j' h=>?_⟩;cases h;refine ⟨⟨v,up hv,hv1,hv2⟩,fun u hu hu'=>?_⟩;rw [ht'] at hu;rcases List.mem_append.1 hu with hu | hu
        · exact hl u hu hu'
        · rw [List.mem_singleton.1 hu]; exact Rat.not_lt.1 hq
   · rw [if_neg hh]
     refine ⟨fun h u hu hu'=>?_,fun q j h=>?_⟩
     · rw [ht'] at hu
       rcases List.mem_append.1 hu with hu | hu
       · exact ih.1 h u hu hu'
       · rw [List.mem_singleton.1 hu] at hu'; exact hh hu'
     · obtain ⟨⟨v,hv,hv1,hv2⟩,hl⟩:=ih.2 q j h
       refine ⟨⟨v,up hv,hv1,hv2⟩,fun u hu hu'=>?_⟩;rw [ht'] at hu;rcases List.mem_append.1 hu with hu | hu
       · exact hl u hu hu'
       · rw [List.mem_singleton.1 hu] at hu'; exact absurd hu' hh
 have h:=H ts.length (Nat.le_refl _);rwa [List.take_length] at h
theorem Ex {r : fY} {ts : List T3} {t : T3} (ht : t ∈ ts) (h : iR r t) : ∃ q k,bE r ts = some (q,k) ∧ q ≤ fR r t:=by
 cases hb : bE r ts with
 | none=>exact absurd h ((Cj r ts).1 hb t ht)
 | some x=>exact ⟨x.1,x.2,rfl,((Cj r ts).2 x.1 x.2 hb).2 t ht h⟩
theorem Jl {r : fY} {ts : List T3} {q : Rat} {k : Nat} (h : bE r ts = some (q,k)) : ∃ t ∈ ts,iR r t ∧ fR r t = q:=by
 obtain ⟨⟨t,ht,h1,h2⟩,_⟩:=(Cj r ts).2 q k h;exact ⟨t,List.mem_of_getElem? ht,h1,h2⟩
theorem Wl (n : Int) : dG n = 1 ∨ dG n = 0 ∨ dG n = -1:=by
 unfold dG;split
 · omega
 · split <;> omega
end Go.Lith
namespace Go.Lith
open Go.RowKit
theorem Jm {l : List T3} {b : Int} : (qQ l b).isEx = true ↔ b = 0:=by
 unfold qQ
 repeat' split
 all_goals (simp only[Kd.isEx]; constructor <;> intro h <;> first | omega | (cases h; done) | rfl | trivial)
theorem Jn {bs : List Int} {ls : List (List T3)} {t : T3} : t ∈ bQ bs ls ↔ ∃ i l,ls[i]? = some l ∧ iS bs i = 0 ∧ t ∈ l:=by
 unfold bQ;rw [List.mem_flatMap];constructor
 · rintro ⟨⟨l,i⟩,hx,ht⟩
   split at ht
   · rename_i hk
     exact ⟨i,l,List.mk_mem_zipIdx_iff_getElem?.1 hx,Jm.1 hk,ht⟩
   · cases ht
 · rintro ⟨i,l,hl,hb,ht⟩
   refine ⟨(l,i),List.mk_mem_zipIdx_iff_getElem?.2 hl,?_⟩;rw [if_pos (Jm.2 hb)];exact ht
theorem wS {bs : List Int} {ls : List (List T3)} {i : Nat} {kd : Kd} : (i,kd) ∈ cB bs ls ↔ ∃ l,ls[i]? = some l ∧ kd = qQ l (iS bs i) ∧ kd.other = true:=by
 unfold cB;rw [List.mem_flatMap];constructor
 · rintro ⟨⟨l,j⟩,hx,ht⟩
   split at ht
   · rename_i hk
     obtain ⟨e1,e2⟩:=Prod.mk.inj (List.mem_singleton.1 ht);subst e1;exact ⟨l,List.mk_mem_zipIdx_iff_getElem?.1 hx,e2,by rw [e2]; exact hk⟩
   · cases ht
 · rintro ⟨l,hl,hb,ht⟩
   refine ⟨(l,i),List.mk_mem_zipIdx_iff_getElem?.2 hl,?_⟩;rw [if_pos (by rw [← hb]; exact ht),← hb];exact List.mem_singleton.2 rfl
theorem Ck {r : fY} {h : Option (Rat × Nat)} {xs : List (Nat × Kd)} {i : Nat} {q : Rat} : (i,q) ∈ cT r h xs ↔ ∃ kd,(i,kd) ∈ xs ∧ iU r kd = some q ∧ ∀ t k,h = some (t,k) → q < t:=by
 unfold cT;rw [List.mem_flatMap];constructor
 · rintro ⟨⟨j,kd⟩,hx,ht⟩
   unfold nW at ht;cases hb : iU r kd with
   | none=>simp [hb] at ht
   | some p =>
    simp only[hb] at ht;cases h with
    | none =>
     obtain ⟨e1,e2⟩:=Prod.mk.inj (List.mem_singleton.1 ht);subst e1 e2;exact ⟨kd,hx,hb,fun t k e=>by cases e⟩
    | some y =>
     obtain ⟨y1,y2⟩:=y;simp only at ht;split at ht
     · rename_i hlt
       obtain ⟨e1,e2⟩:=Prod.mk.inj (List.mem_singleton.1 ht);subst e1 e2;exact ⟨kd,hx,hb,fun t k e=>by cases e; exact hlt⟩
     · cases ht
 · rintro ⟨kd,hx,hb,hq⟩
   refine ⟨(i,kd),hx,?_⟩;unfold nW;simp only[hb];cases h with
   | none=>exact List.mem_singleton.2 rfl
   | some y=>simp only[if_pos (hq y.1 y.2 rfl)]; exact List.mem_singleton.2 rfl
theorem Jo : ∀ (xs : List (Nat × Rat)) (a : Rat),xs.foldl (fun a y=>if y.2 < a then y.2 else a) a ≤ a ∧ (∀ x ∈ xs,xs.foldl (fun a y=>if y.2 < a then y.2 else a) a ≤ x.2) ∧
 (xs.foldl (fun a y=>if y.2 < a then y.2 else a) a = a ∨ ∃ x ∈ xs,xs.foldl (fun a y=>if y.2 < a then y.2 else a) a = x.2)
 | [],a=>⟨Rat.le_refl,fun x h=>(by cases h),.inl rfl⟩
 | y :: ys,a=>by
  rw [List.foldl_cons];obtain ⟨h1,h2,h3⟩:=Jo ys (if y.2 < a then y.2 else a);have k : (if y.2 < a then y.2 else a) ≤ a ∧ (if y.2 < a then y.2 else a) ≤ y.2 ∧ ((if y.2 < a then y.2 else a) = a ∨ (if y.2 < a then y.2 else a) = y.2):=by
   split
   · rename_i h; exact ⟨Rat.le_of_lt h,Rat.le_refl,.inr rfl⟩
   · rename_i h; exact ⟨Rat.le_refl,Rat.not_lt.1 h,.inl rfl⟩
  refine ⟨Rat.le_trans h1 k.1,fun x hx=>?_,?_⟩
  · rcases List.mem_cons.1 hx with rfl | hx
    · exact Rat.le_trans h1 k.2.1
    · exact h2 x hx
  · rcases h3 with h3 | ⟨x,hx,h3⟩
    · rw [h3]
      rcases k.2.2 with k | k
      · exact .inl k
      · exact .inr ⟨y,List.mem_cons_self ..,k⟩
    · exact .inr ⟨x,List.mem_cons_of_mem _ hx,h3⟩
theorem Wm {xs : List (Nat × Rat)} (h : xs ≠ []) : ∃ x ∈ xs,rR xs = x.2:=by
 cases xs with
 | nil=>exact absurd rfl h
 | cons y ys =>
  rcases (Jo ys y.2).2.2 with h | ⟨x,hx,h⟩
  · exact ⟨y,List.mem_cons_self ..,h⟩
  · exact ⟨x,List.mem_cons_of_mem _ hx,h⟩
end Go.Lith
namespace Go.Lith
open Go.RowKit
theorem Jp {α β γ : Type} {f : α → List β} {g : α → List γ} : ∀ {xs : List α},(∀ x ∈ xs,(f x).length ≤ (g x).length) → (xs.flatMap f).length ≤ (xs.flatMap g).length
 | [],_=>Nat.le_refl _
 | x :: xs,h=>by
  rw [List.flatMap_cons,List.flatMap_cons,List.length_append,List.length_append];have h1:=h x (List.mem_cons_self ..);have h2:=Jp (xs:=xs) fun y hy=>h y (List.mem_cons_of_mem _ hy);omega
theorem Ey {r : fY} {h : Option (Rat × Nat)} {x : Nat × Kd} : (nW r h x).length ≤ 1:=by
 unfold nW;split
 · exact Nat.zero_le _
 · split
   · exact Nat.le_refl _
   · split
     · exact Nat.le_refl _
     · exact Nat.zero_le _
end Go.Lith
namespace Go.Proofs.YtimjandkmfcmiaaGreatDoor
open Tryz
open Go.RowKit Go.Lith
set_option maxRecDepth 100000
attribute [local irreducible] wpList wpQuiet eS dV eG Code.wp
theorem Wn {x y z : Int} [Iw x] [Iw y] [Iw z] : dP prog 65 [.int .i64 x,.int .i64 y,.int .i64 z] (wv ⟨x,y,z⟩):=by
 intro w;refine ⟨acj,?_⟩;have m:=cR.refl w
 go_enter func65,ntmps65
 refine aF fun K1 k1=>wp_region_lit (bC m jF rfl ?_);clear m; intro g1 u m;refine aC (k1 _ _ ?_);refine aF fun K2 k2=>wp_region_lit (aA (aB) ?_);simp only[zz];refine aW m rfl rfl (lG Iw.h) ?_;clear m; intro u m;refine aA (aB) ?_;simp only[zz];refine aW m rfl rfl (lG Iw.h) ?_;clear m; intro u m;refine aA (aB) ?_;simp only[zz];refine aW m rfl rfl (lG Iw.h) ?_;clear m; intro u m;refine aA (vY rfl rfl rfl) ?_;simp only[zz];refine aL m 0 rfl rfl rfl bW (cA rfl) rfl ?_;clear m; intro u m; simp only[zy,zx,aX,zF,zG,Nat.reduceAdd] at m;refine aC (k2 _ _ ?_);refine wp_ret ?_;try simp only[Exit.inBlock,Exit.then,if_true]
 refine bU rfl ⟨_,rfl,((m.b 0 rfl).full eW bW)⟩ ?_;try simp only[zD,zE]
 exact ⟨_,rfl,m.ext,rfl⟩
theorem pO {p : P3} [I3 p] : dP prog 66 [pt p] (wv p):=by
 intro w;refine ⟨ack,?_⟩;have m:=cR.refl w
 go_enter func66,ntmps66
 refine aF fun K1 k1=>wp_region_lit (cM m rfl ?_);clear m; intro g1 u m;simp only[zz];refine bC m jF rfl ?_;clear m; intro g2 u m;refine aC (k1 _ _ ?_);refine aF fun K2 k2=>wp_region_lit (aA (aH (c:=0) bZ rfl aM rfl rfl) ?_);simp only[zz];refine aI rfl ((m.b 1 rfl).lies1 aZ rfl) ?_;simp only[zz];refine aA (aH (c:=0) bZ rfl aM rfl rfl) ?_;simp only[zz];refine aI rfl ((m.b 1 rfl).lies1 aZ rfl) ?_;simp only[zz];refine aA (aH (c:=0) bZ rfl aM rfl rfl) ?_;simp only[zz];refine aI rfl ((m.b 1 rfl).lies1 aZ rfl) ?_;simp only[zz];refine aW m rfl rfl (Wn (x:=p.x) (y:=p.y) (z:=p.z)) ?_;clear m; intro u m;simp only[zz];refine aL m 0 rfl rfl rfl bW (cA rfl) rfl ?_;clear m; intro u m; simp only[zy,zx,aX,zF,zG,Nat.reduceAdd] at m;refine aC (k2 _ _ ?_);refine wp_ret ?_;try simp only[Exit.inBlock,Exit.then,if_true]
 refine bU rfl ⟨_,rfl,((m.b 0 rfl).full eW bW)⟩ ?_;try simp only[zD,zE]
 exact ⟨_,rfl,m.ext,rfl⟩
theorem tM {u : P3} {n : Int} (hu : Bv 300000 u) (hn : Bw 300000 n) : dP prog 67 [wv u,W n] (wv (u.scl n)):=by
 intro w;refine ⟨acl,?_⟩;have m:=cR.refl w
 go_enter func67,ntmps67
 refine aF fun K1 k1=>wp_region_lit (cM m rfl ?_);clear m; intro g1 u m;simp only[zz];refine cM m rfl ?_;clear m; intro g2 u m;simp only[zz];refine bC m jF rfl ?_;clear m; intro g3 u m;refine aC (k1 _ _ ?_);refine aF fun K2 k2=>aF fun K3 k3=>wp_region_lit (aA (aB) (aC (k3 _ _ ?_)));refine wp_block (wp_loop_rounds 4 (dQ (aF fun K4 k4=>wp_region_lit (aA (cK (m:=0) (n:=3) rfl rfl (by decide)) (aC (k4 _ _ ?_))))));refine aF fun K5 k5=>bX rfl (wp_skip (k5 _ _ ?_));refine aF fun K6 k6=>wp_block (aF fun K7 k7=>wp_region_lit (aA (aB) ?_));simp only[zz];refine aA (aD) (aC (k7 _ _ ?_));simp only[zz];refine dN m 7 aN (by kernel_rfl) ?_;simp only[zy];refine aS (aB) (aS (aB) (aS (aJ eN aG rfl rfl (by decide) (by decide) rfl) ?_));simp only[zz];refine ql rfl (fun u m=>((m.b 2 rfl).lies aR aG rfl rfl)) ?_;simp only[zz,zy,Nat.zero_add,Nat.reduceAdd,Nat.reduceMul,Int.reduceToNat];refine ql rfl (fun u m=>((m.b 1 rfl).full aR aG)) ?_;simp only[zz];refine gJ rfl rfl (jY Bw.up Bw.up) (aS (aJ eN aG rfl rfl (by decide) (by decide) rfl) (dW ?_));clear m; intro u m;simp only[zz];refine aL m 2 rfl rfl rfl aG (cA rfl) rfl ?_;clear m; intro u m; simp only[zy,zx,aX,zF,zG,Nat.reduceAdd] at m;refine aC (k6 _ _ ?_);refine wp_region_lit (aA (bD (m:=0) (n:=1) (r:=1) rfl rfl (by decide)) (aA (aB) (aC (bF (aF fun K8 k8=>wp_region_lit (aA (cK (m:=1) (n:=3) rfl rfl (by decide)) (aC (k8 _ _ ?_))))))));refine aF fun K9 k9=>bX rfl (wp_skip (k9 _ _ ?_));refine aF fun K10 k10=>wp_block (aF fun K11 k11=>wp_region_lit (aA (aB) ?_));simp only[zz];refine aA (aD) (aC (k11 _ _ ?_));simp only[zz];refine dN m 7 aN (by kernel_rfl) ?_;simp only[zy];refine aS (aB) (aS (aB) (aS (aJ eN aG rfl rfl (by decide) (by decide) rfl) ?_));simp only[zz];refine ql rfl (fun u m=>((m.b 2 rfl).lies aR aG rfl rfl)) ?_;simp only[zz,zy,Nat.zero_add,Nat.reduceAdd,Nat.reduceMul,Int.reduceToNat];refine ql rfl (fun u m=>((m.b 1 rfl).full aR aG)) ?_;simp only[zz];refine gJ rfl rfl (jY Bw.up Bw.up) (aS (aJ eN aG rfl rfl (by decide) (by decide) rfl) (dW ?_));clear m; intro u m;simp only[zz];refine aL m 2 rfl rfl rfl aG (cA rfl) rfl ?_;clear m; intro u m; simp only[zy,zx,aX,zF,zG,Nat.reduceAdd] at m;refine aC (k10 _ _ ?_);refine wp_region_lit (aA (bD (m:=1) (n:=1) (r:=2) rfl rfl (by decide)) (aA (aB) (aC (bF (aF fun K12 k12=>wp_region_lit (aA (cK (m:=2) (n:=3) rfl rfl (by decide)) (aC (k12 _ _ ?_))))))));refine aF fun K13 k13=>bX rfl (wp_skip (k13 _ _ ?_));refine aF fun K14 k14=>wp_block (aF fun K15 k15=>wp_region_lit (aA (aB) ?_));simp only[zz];refine aA (aD) (aC (k15 _ _ ?_));simp only[zz];refine dN m 7 aN (by kernel_rfl) ?_;simp only[zy];refine aS (aB) (aS (aB) (aS (aJ eN aG rfl rfl (by decide) (by decide) rfl) ?_));simp only[zz];refine ql rfl (fun u m=>((m.b 2 rfl).lies aR aG rfl rfl)) ?_;simp only[zz,zy,Nat.zero_add,Nat.reduceAdd,Nat.reduceMul,Int.reduceToNat];refine ql rfl (fun u m=>((m.b 1 rfl).full aR aG)) ?_;simp only[zz];refine gJ rfl rfl (jY Bw.up Bw.up) (aS (aJ eN aG rfl rfl (by decide) (by decide) rfl) (dW ?_));clear m; intro u m;simp only[zz];refine aL m 2 rfl rfl rfl aG (cA rfl) rfl ?_;clear m; intro u m; simp only[zy,zx,aX,zF,zG,Nat.reduceAdd] at m;refine aC (k14 _ _ ?_);refine wp_region_lit (aA (bD (m:=2) (n:=1) (r:=3) rfl rfl (by decide)) (aA (aB) (aC (bF (aF fun K16 k16=>wp_region_lit (aA (fA (m:=3) (n:=3) rfl rfl (by decide)) (aC (k16 _ _ ?_))))))));refine aF fun K17 k17=>eQ rfl (wp_exit (k2 _ _ ?_));refine aF fun K18 k18=>wp_region_lit ?_;simp only[zz];refine aI rfl ((m.b 2 rfl).full eW bW) ?_;simp only[zz];refine aL m 0 rfl rfl rfl bW (cA rfl) rfl ?_;clear m; intro u m; simp only[zy,zx,aX,zF,zG,Nat.reduceAdd] at m;refine aC (k18 _ _ ?_);refine wp_ret ?_;try simp only[Exit.inBlock,Exit.then,if_true]
 refine bU rfl ⟨_,rfl,((m.b 0 rfl).full eW bW)⟩ ?_;try simp only[zD,zE]
 exact ⟨_,rfl,m.ext,rfl⟩
theorem pP {u v : P3} (hu : Bv 300000 u) (hv : Bv 300000 v) : dP prog 68 [wv u,wv v] (wv (u.sub v)):=by
 intro w;refine ⟨acm,?_⟩;have m:=cR.refl w
 go_enter func68,ntmps68
 refine aF fun K1 k1=>wp_region_lit (cM m rfl ?_);clear m; intro g1 u m;simp only[zz];refine cM m rfl ?_;clear m; intro g2 u m;simp only[zz];refine bC m jF rfl ?_;clear m; intro g3 u m;refine aC (k1 _ _ ?_);refine aF fun K2 k2=>aF fun K3 k3=>wp_region_lit (aA (aB) (aC (k3 _ _ ?_)));refine wp_block (wp_loop_rounds 4 (dQ (aF fun K4 k4=>wp_region_lit (aA (cK (m:=0) (n:=3) rfl rfl (by decide)) (aC (k4 _ _ ?_))))));refine aF fun K5 k5=>bX rfl (wp_skip (k5 _ _ ?_));refine aF fun K6 k6=>wp_block (aF fun K7 k7=>wp_region_lit (aA (aB) ?_));simp only[zz];refine aA (aD) (aC (k7 _ _ ?_));simp only[zz];refine dN m 9 aN (by kernel_rfl) ?_;simp only[zy];refine aS (aB) (aS (aB) (aS (aJ eN aG rfl rfl (by decide) (by decide) rfl) ?_));simp only[zz];refine ql rfl (fun u m=>((m.b 2 rfl).lies aR aG rfl rfl)) ?_;simp only[zz,zy,Nat.zero_add,Nat.reduceAdd,Nat.reduceMul,Int.reduceToNat];refine aS (aB) (aS (aJ eN aG rfl rfl (by decide) (by decide) rfl) ?_);simp only[zz];refine ql rfl (fun u m=>((m.b 1 rfl).lies aR aG rfl rfl)) ?_;simp only[zz,zy,Nat.zero_add,Nat.reduceAdd,Nat.reduceMul,Int.reduceToNat];refine gJ rfl rfl (rK Bw.up Bw.up) (aS (aJ eN aG rfl rfl (by decide) (by decide) rfl) (dW ?_));clear m; intro u m;simp only[zz];refine aL m 2 rfl rfl rfl aG (cA rfl) rfl ?_;clear m; intro u m; simp only[zy,zx,aX,zF,zG,Nat.reduceAdd] at m;refine aC (k6 _ _ ?_);refine wp_region_lit (aA (bD (m:=0) (n:=1) (r:=1) rfl rfl (by decide)) (aA (aB) (aC (bF (aF fun K8 k8=>wp_region_lit (aA (cK (m:=1) (n:=3) rfl rfl (by decide)) (aC (k8 _ _ ?_))))))));refine aF fun K9 k9=>bX rfl (wp_skip (k9 _ _ ?_));refine aF fun K10 k10=>wp_block (aF fun K11 k11=>wp_region_lit (aA (aB) ?_));simp only[zz];refine aA (aD) (aC (k11 _ _ ?_));simp only[zz];refine dN m 9 aN (by kernel_rfl) ?_;simp only[zy];refine aS (aB) (aS (aB) (aS (aJ eN aG rfl rfl (by decide) (by decide) rfl) ?_));simp only[zz];refine ql rfl (fun u m=>((m.b 2 rfl).lies aR aG rfl rfl)) ?_;simp only[zz,zy,Nat.zero_add,Nat.reduceAdd,Nat.reduceMul,Int.reduceToNat];refine aS (aB) (aS (aJ eN aG rfl rfl (by decide) (by decide) rfl) ?_);simp only[zz];refine ql rfl (fun u m=>((m.b 1 rfl).lies aR aG rfl rfl)) ?_;simp only[zz,zy,Nat.zero_add,Nat.reduceAdd,Nat.reduceMul,Int.reduceToNat];refine gJ rfl rfl (rK Bw.up Bw.up) (aS (aJ eN aG rfl rfl (by decide) (by decide) rfl) (dW ?_));clear m; intro u m;simp only[zz];refine aL m 2 rfl rfl rfl aG (cA rfl) rfl ?_;clear m; intro u m; simp only[zy,zx,aX,zF,zG,Nat.reduceAdd] at m;refine aC (k10 _ _ ?_);refine wp_region_lit (aA (bD (m:=1) (n:=1) (r:=2) rfl rfl (by decide)) (aA (aB) (aC (bF (aF fun K12 k12=>wp_region_lit (aA (cK (m:=2) (n:=3) rfl rfl (by decide)) (aC (k12 _ _ ?_))))))));refine aF fun K13 k13=>bX rfl (wp_skip (k13 _ _ ?_));refine aF fun K14 k14=>wp_block (aF fun K15 k15=>wp_region_lit (aA (aB) ?_));simp only[zz];refine aA (aD) (aC (k15 _ _ ?_));simp only[zz];refine dN m 9 aN (by kernel_rfl) ?_;simp only[zy];refine aS (aB) (aS (aB) (aS (aJ eN aG rfl rfl (by decide) (by decide) rfl) ?_));simp only[zz];refine ql rfl (fun u m=>((m.b 2 rfl).lies aR aG rfl rfl)) ?_;simp only[zz,zy,Nat.zero_add,Nat.reduceAdd,Nat.reduceMul,Int.reduceToNat];refine aS (aB) (aS (aJ eN aG rfl rfl (by decide) (by decide) rfl) ?_);simp only[zz];refine ql rfl (fun u m=>((m.b 1 rfl).lies aR aG rfl rfl)) ?_;simp only[zz,zy,Nat.zero_add,Nat.reduceAdd,Nat.reduceMul,Int.reduceToNat];refine gJ rfl rfl (rK Bw.up Bw.up) (aS (aJ eN aG rfl rfl (by decide) (by decide) rfl) (dW ?_));clear m; intro u m;simp only[zz];refine aL m 2 rfl rfl rfl aG (cA rfl) rfl ?_;clear m; intro u m; simp only[zy,zx,aX,zF,zG,Nat.reduceAdd] at m;refine aC (k14 _ _ ?_);refine wp_region_lit (aA (bD (m:=2) (n:=1) (r:=3) rfl rfl (by decide)) (aA (aB) (aC (bF (aF fun K16 k16=>wp_region_lit (aA (fA (m:=3) (n:=3) rfl rfl (by decide)) (aC (k16 _ _ ?_))))))));refine aF fun K17 k17=>eQ rfl (wp_exit (k2 _ _ ?_));refine aF fun K18 k18=>wp_region_lit ?_;simp only[zz];refine aI rfl ((m.b 2 rfl).full eW bW) ?_;simp only[zz];refine aL m 0 rfl rfl rfl bW (cA rfl) rfl ?_;clear m; intro u m; simp only[zy,zx,aX,zF,zG,Nat.reduceAdd] at m;refine aC (k18 _ _ ?_);refine wp_ret ?_;try simp only[Exit.inBlock,Exit.then,if_true]
 refine bU rfl ⟨_,rfl,((m.b 0 rfl).full eW bW)⟩ ?_;try simp only[zD,zE]
 exact ⟨_,rfl,m.ext,rfl⟩
theorem Lr {u v : P3} (hu : Bv 300000 u) (hv : Bv 300000 v) : dP prog 71 [wv u,wv v] (W (u.dot v)):=by
 intro w;refine ⟨acp,?_⟩;have m:=cR.refl w
 go_enter func71,ntmps71
 refine aF fun K1 k1=>wp_region_lit (cM m rfl ?_);clear m; intro g1 u m;simp only[zz];refine cM m rfl ?_;clear m; intro g2 u m;simp only[zz];refine bC m cI rfl ?_;clear m; intro g3 u m;refine aC (k1 _ _ ?_);refine aF fun K2 k2=>wp_region_lit ?_;simp only[zz];refine bC m cI rfl ?_;clear m; intro g4 u m;refine aC (k2 _ _ ?_);refine aF fun K3 k3=>aF fun K4 k4=>wp_region_lit (aA (aB) (aC (k4 _ _ ?_)));refine wp_block (wp_loop_rounds 4 (dQ (aF fun K5 k5=>wp_region_lit (aA (cK (m:=0) (n:=3) rfl rfl (by decide)) (aC (k5 _ _ ?_))))));refine aF fun K6 k6=>bX rfl (wp_skip (k6 _ _ ?_));refine aF fun K7 k7=>wp_block (aF fun K8 k8=>wp_region_lit (aA (aB) ?_));simp only[zz];refine aA (aD) (aC (k8 _ _ ?_));simp only[zz];refine dN m 9 aN (by kernel_rfl) ?_;simp only[zy];refine ql rfl (fun u m=>((m.b 0 rfl).full aR aG)) ?_;simp only[zz];refine aS (aB) (aS (aJ eN aG rfl rfl (by decide) (by decide) rfl) ?_);simp only[zz];refine ql rfl (fun u m=>((m.b 3 rfl).lies aR aG rfl rfl)) ?_;simp only[zz,zy,Nat.zero_add,Nat.reduceAdd,Nat.reduceMul,Int.reduceToNat];refine aS (aB) (aS (aJ eN aG rfl rfl (by decide) (by decide) rfl) ?_);simp only[zz];refine ql rfl (fun u m=>((m.b 2 rfl).lies aR aG rfl rfl)) ?_;simp only[zz,zy,Nat.zero_add,Nat.reduceAdd,Nat.reduceMul,Int.reduceToNat];refine gJ rfl rfl (jY Bw.up Bw.up) ?_;simp only[zz];refine gJ rfl rfl (aa1 Bw.up) (dW ?_);clear m; intro u m;simp only[zz];refine aL m 0 rfl rfl rfl aG (cA rfl) rfl ?_;clear m; intro u m; simp only[zy,zx,aX,zF,zG,Nat.reduceAdd] at m;refine aC (k7 _ _ ?_);refine wp_region_lit (aA (bD (m:=0) (n:=1) (r:=1) rfl rfl (by decide)) (aA (aB) (aC (bF (aF fun K9 k9=>wp_region_lit (aA (cK (m:=1) (n:=3) rfl rfl (by decide)) (aC (k9 _ _ ?_))))))));refine aF fun K10 k10=>bX rfl (wp_skip (k10 _ _ ?_));refine aF fun K11 k11=>wp_block (aF fun K12 k12=>wp_region_lit (aA (aB) ?_));simp only[zz];refine aA (aD) (aC (k12 _ _ ?_));simp only[zz];refine dN m 9 aN (by kernel_rfl) ?_;simp only[zy];refine ql rfl (fun u m=>((m.b 0 rfl).full aR aG)) ?_;simp only[zz];refine aS (aB) (aS (aJ eN aG rfl rfl (by decide) (by decide) rfl) ?_);simp only[zz];refine ql rfl (fun u m=>((m.b 3 rfl).lies aR aG rfl rfl)) ?_;simp only[zz,zy,Nat.zero_add,Nat.reduceAdd,Nat.reduceMul,Int.reduceToNat];refine aS (aB) (aS (aJ eN aG rfl rfl (by decide) (by decide) rfl) ?_);simp only[zz];refine ql rfl (fun u m=>((m.b 2 rfl).lies aR aG rfl rfl)) ?_;simp only[zz,zy,Nat.zero_add,Nat.reduceAdd,Nat.reduceMul,Int.reduceToNat];refine gJ rfl rfl (jY Bw.up Bw.up) ?_;simp only[zz];refine gJ rfl rfl (Na Bw.up Bw.up) (dW ?_);clear m; intro u m;simp only[zz];refine aL m 0 rfl rfl rfl aG (cA rfl) rfl ?_;clear m; intro u m; simp only[zy,zx,aX,zF,zG,Nat.reduceAdd] at m;refine aC (k11 _ _ ?_);refine wp_region_lit (aA (bD (m:=1) (n:=1) (r:=2) rfl rfl (by decide)) (aA (aB) (aC (bF (aF fun K13 k13=>wp_region_lit (aA (cK (m:=2) (n:=3) rfl rfl (by decide)) (aC (k13 _ _ ?_))))))));refine aF fun K14 k14=>bX rfl (wp_skip (k14 _ _ ?_));refine aF fun K15 k15=>wp_block (aF fun K16 k16=>wp_region_lit (aA (aB) ?_));simp only[zz];refine aA (aD) (aC (k16 _ _ ?_));simp only[zz];refine dN m 9 aN (by kernel_rfl) ?_;simp only[zy];refine ql rfl (fun u m=>((m.b 0 rfl).full aR aG)) ?_;simp only[zz];refine aS (aB) (aS (aJ eN aG rfl rfl (by decide) (by decide) rfl) ?_);simp only[zz];refine ql rfl (fun u m=>((m.b 3 rfl).lies aR aG rfl rfl)) ?_;simp only[zz,zy,Nat.zero_add,Nat.reduceAdd,Nat.reduceMul,Int.reduceToNat];refine aS (aB) (aS (aJ eN aG rfl rfl (by decide) (by decide) rfl) ?_);simp only[zz];refine ql rfl (fun u m=>((m.b 2 rfl).lies aR aG rfl rfl)) ?_;simp only[zz,zy,Nat.zero_add,Nat.reduceAdd,Nat.reduceMul,Int.reduceToNat];refine gJ rfl rfl (jY Bw.up Bw.up) ?_;simp only[zz];refine gJ rfl rfl (Na Bw.up Bw.up) (dW ?_);clear m; intro u m;simp only[zz];refine aL m 0 rfl rfl rfl aG (cA rfl) rfl ?_;clear m; intro u m; simp only[zy,zx,aX,zF,zG,Nat.reduceAdd] at m;refine aC (k15 _ _ ?_);refine wp_region_lit (aA (bD (m:=2) (n:=1) (r:=3) rfl rfl (by decide)) (aA (aB) (aC (bF (aF fun K17 k17=>wp_region_lit (aA (fA (m:=3) (n:=3) rfl rfl (by decide)) (aC (k17 _ _ ?_))))))));refine aF fun K18 k18=>eQ rfl (wp_exit (k3 _ _ ?_));refine aF fun K19 k19=>wp_region_lit ?_;simp only[zz];refine aI rfl ((m.b 0 rfl).full aR aG) ?_;simp only[zz];refine aL m 1 rfl rfl rfl aG (cA rfl) rfl ?_;clear m; intro u m; simp only[zy,zx,aX,zF,zG,Nat.reduceAdd] at m;refine aC (k19 _ _ ?_);refine wp_ret ?_;try simp only[Exit.inBlock,Exit.then,if_true]
 refine bU rfl ⟨_,rfl,((m.b 1 rfl).full aR aG)⟩ ?_;try simp only[zD,zE]
 exact ⟨_,rfl,m.ext,by rw [← P3.dot0]; rfl⟩
theorem Jq {u v : P3} (hu : Bv 300000 u) (hv : Bv 300000 v) : dP prog 106 [wv u,wv v] (wv (u.cross v)):=by
 intro w;refine ⟨Zf,?_⟩;have m:=cR.refl w
 go_enter func106,ntmps106
 refine aF fun K1 k1=>wp_region_lit (cM m rfl ?_);clear m; intro g1 u m;simp only[zz];refine cM m rfl ?_;clear m; intro g2 u m;simp only[zz];refine bC m jF rfl ?_;clear m; intro g3 u m;refine aC (k1 _ _ ?_);refine aF fun K2 k2=>wp_region_lit ?_;simp only[zz];refine bC m jF rfl ?_;clear m; intro g4 u m;refine aC (k2 _ _ ?_);refine aF fun K3 k3=>aF fun K4 k4=>wp_region_lit (aA (aB) (aC (k4 _ _ ?_)));refine wp_block (wp_loop_rounds 4 (dQ (aF fun K5 k5=>wp_region_lit (aA (cK (m:=0) (n:=3) rfl rfl (by decide)) (aC (k5 _ _ ?_))))));refine aF fun K6 k6=>bX rfl (wp_skip (k6 _ _ ?_));refine aF fun K7 k7=>wp_block (aF fun K8 k8=>wp_region_lit (aA (aB) ?_));simp only[zz];refine aA (aD) (aC (k8 _ _ ?_));refine aF fun K9 k9=>wp_region_lit (aA (aB) (aA (bD (m:=0) (n:=1) (r:=1) rfl rfl (by decide)) (aA (kD (m:=1) (n:=3) (r:=1) rfl rfl (by decide) (by decide)) ?_)));simp only[zz];refine aA (aB) (aA (bD (m:=0) (n:=2) (r:=2) rfl rfl (by decide)) (aA (kD (m:=2) (n:=3) (r:=2) rfl rfl (by decide) (by decide)) (aA (aD) ?_)));simp only[zz];refine aA (aD) (aC (k9 _ _ ?_));simp only[zz];refine dN m 17 aN (by kernel_rfl) ?_;simp only[zy];refine aS (aB) (aS (aB) (aS (aJ eN aG rfl rfl (by decide) (by decide) rfl) ?_));simp only[zz];refine ql rfl (fun u m=>((m.b 3 rfl).lies aR aG rfl rfl)) ?_;simp only[zz,zy,Nat.zero_add,Nat.reduceAdd,Nat.reduceMul,Int.reduceToNat];refine aS (aB) (aS (aJ eN aG rfl rfl (by decide) (by decide) rfl) ?_);simp only[zz];refine ql rfl (fun u m=>((m.b 2 rfl).lies aR aG rfl rfl)) ?_;simp only[zz,zy,Nat.zero_add,Nat.reduceAdd,Nat.reduceMul,Int.reduceToNat];refine gJ rfl rfl (jY Bw.up Bw.up) (aS (aB) (aS (aJ eN aG rfl rfl (by decide) (by decide) rfl) ?_));simp only[zz];refine ql rfl (fun u m=>((m.b 3 rfl).lies aR aG rfl rfl)) ?_;simp only[zz,zy,Nat.zero_add,Nat.reduceAdd,Nat.reduceMul,Int.reduceToNat];refine aS (aB) (aS (aJ eN aG rfl rfl (by decide) (by decide) rfl) ?_);simp only[zz];refine ql rfl (fun u m=>((m.b 2 rfl).lies aR aG rfl rfl)) ?_;simp only[zz,zy,Nat.zero_add,Nat.reduceAdd,Nat.reduceMul,Int.reduceToNat];refine gJ rfl rfl (jY Bw.up Bw.up) ?_;simp only[zz];refine gJ rfl rfl (rK Bw.up Bw.up) (aS (aJ eN aG rfl rfl (by decide) (by decide) rfl) (dW ?_));clear m; intro u m;simp only[zz];refine aL m 0 rfl rfl rfl aG (cA rfl) rfl ?_;clear m; intro u m; simp only[zy,zx,aX,zF,zG,Nat.reduceAdd] at m;refine aC (k7 _ _ ?_);refine wp_region_lit (aA (bD (m:=0) (n:=1) (r:=1) rfl rfl (by decide)) (aA (aB) (aC (bF (aF fun K10 k10=>wp_region_lit (aA (cK (m:=1) (n:=3) rfl rfl (by decide)) (aC (k10 _ _ ?_))))))));refine aF fun K11 k11=>bX rfl (wp_skip (k11 _ _ ?_));refine aF fun K12 k12=>wp_block (aF fun K13 k13=>wp_region_lit (aA (aB) ?_));simp only[zz];refine aA (aD) (aC (k13 _ _ ?_));refine aF fun K14 k14=>wp_region_lit (aA (aB) (aA (bD (m:=1) (n:=1) (r:=2) rfl rfl (by decide)) (aA (kD (m:=2) (n:=3) (r:=2) rfl rfl (by decide) (by decide)) ?_)));simp only[zz];refine aA (aB) (aA (bD (m:=1) (n:=2) (r:=3) rfl rfl (by decide)) (aA (kD (m:=3) (n:=3) (r:=0) rfl rfl (by decide) (by decide)) (aA (aD) ?_)));simp only[zz];refine aA (aD) (aC (k14 _ _ ?_));simp only[zz];refine dN m 17 aN (by kernel_rfl) ?_;simp only[zy];refine aS (aB) (aS (aB) (aS (aJ eN aG rfl rfl (by decide) (by decide) rfl) ?_));simp only[zz];refine ql rfl (fun u m=>((m.b 3 rfl).lies aR aG rfl rfl)) ?_;simp only[zz,zy,Nat.zero_add,Nat.reduceAdd,Nat.reduceMul,Int.reduceToNat];refine aS (aB) (aS (aJ eN aG rfl rfl (by decide) (by decide) rfl) ?_);simp only[zz];refine ql rfl (fun u m=>((m.b 2 rfl).lies aR aG rfl rfl)) ?_;simp only[zz,zy,Nat.zero_add,Nat.reduceAdd,Nat.reduceMul,Int.reduceToNat];refine gJ rfl rfl (jY Bw.up Bw.up) (aS (aB) (aS (aJ eN aG rfl rfl (by decide) (by decide) rfl) ?_));simp only[zz];refine ql rfl (fun u m=>((m.b 3 rfl).lies aR aG rfl rfl)) ?_;simp only[zz,zy,Nat.zero_add,Nat.reduceAdd,Nat.reduceMul,Int.reduceToNat];refine aS (aB) (aS (aJ eN aG rfl rfl (by decide) (by decide) rfl) ?_);simp only[zz];refine ql rfl (fun u m=>((m.b 2 rfl).lies aR aG rfl rfl)) ?_;simp only[zz,zy,Nat.zero_add,Nat.reduceAdd,Nat.reduceMul,Int.reduceToNat];refine gJ rfl rfl (jY Bw.up Bw.up) ?_;simp only[zz];refine gJ rfl rfl (rK Bw.up Bw.up) (aS (aJ eN aG rfl rfl (by decide) (by decide) rfl) (dW ?_));clear m; intro u m;simp only[zz];refine aL m 0 rfl rfl rfl aG (cA rfl) rfl ?_;clear m; intro u m; simp only[zy,zx,aX,zF,zG,Nat.reduceAdd] at m;refine aC (k12 _ _ ?_);refine wp_region_lit (aA (bD (m:=1) (n:=1) (r:=2) rfl rfl (by decide)) (aA (aB) (aC (bF (aF fun K15 k15=>wp_region_lit (aA (cK (m:=2) (n:=3) rfl rfl (by decide)) (aC (k15 _ _ ?_))))))));refine aF fun K16 k16=>bX rfl (wp_skip (k16 _ _ ?_));refine aF fun K17 k17=>wp_block (aF fun K18 k18=>wp_region_lit (aA (aB) ?_));simp only[zz];refine aA (aD) (aC (k18 _ _ ?_));refine aF fun K19 k19=>wp_region_lit (aA (aB) (aA (bD (m:=2) (n:=1) (r:=3) rfl rfl (by decide)) (aA (kD (m:=3) (n:=3) (r:=0) rfl rfl (by decide) (by decide)) ?_)));simp only[zz];refine aA (aB) (aA (bD (m:=2) (n:=2) (r:=4) rfl rfl (by decide)) (aA (kD (m:=4) (n:=3) (r:=1) rfl rfl (by decide) (by decide)) (aA (aD) ?_)));simp only[zz];refine aA (aD) (aC (k19 _ _ ?_));simp only[zz];refine dN m 17 aN (by kernel_rfl) ?_;simp only[zy];refine aS (aB) (aS (aB) (aS (aJ eN aG rfl rfl (by decide) (by decide) rfl) ?_));simp only[zz];refine ql rfl (fun u m=>((m.b 3 rfl).lies aR aG rfl rfl)) ?_;simp only[zz,zy,Nat.zero_add,Nat.reduceAdd,Nat.reduceMul,Int.reduceToNat];refine aS (aB) (aS (aJ eN aG rfl rfl (by decide) (by decide) rfl) ?_);simp only[zz];refine ql rfl (fun u m=>((m.b 2 rfl).lies aR aG rfl rfl)) ?_;simp only[zz,zy,Nat.zero_add,Nat.reduceAdd,Nat.reduceMul,Int.reduceToNat];refine gJ rfl rfl (jY Bw.up Bw.up) (aS (aB) (aS (aJ eN aG rfl rfl (by decide) (by decide) rfl) ?_));simp only[zz];refine ql rfl (fun u m=>((m.b 3 rfl).lies aR aG rfl rfl)) ?_;simp only[zz,zy,Nat.zero_add,Nat.reduceAdd,Nat.reduceMul,Int.reduceToNat];refine aS (aB) (aS (aJ eN aG rfl rfl (by decide) (by decide) rfl) ?_);simp only[zz];refine ql rfl (fun u m=>((m.b 2 rfl).lies aR aG rfl rfl)) ?_;simp only[zz,zy,Nat.zero_add,Nat.reduceAdd,Nat.reduceMul,Int.reduceToNat];refine gJ rfl rfl (jY Bw.up Bw.up) ?_;simp only[zz];refine gJ rfl rfl (rK Bw.up Bw.up) (aS (aJ eN aG rfl rfl (by decide) (by decide) rfl) (dW ?_));clear m; intro u m;simp only[zz];refine aL m 0 rfl rfl rfl aG (cA rfl) rfl ?_;clear m; intro u m; simp only[zy,zx,aX,zF,zG,Nat.reduceAdd] at m;refine aC (k17 _ _ ?_);refine wp_region_lit (aA (bD (m:=2) (n:=1) (r:=3) rfl rfl (by decide)) (aA (aB) (aC (bF (aF fun K20 k20=>wp_region_lit (aA (fA (m:=3) (n:=3) rfl rfl (by decide)) (aC (k20 _ _ ?_))))))));refine aF fun K21 k21=>eQ rfl (wp_exit (k3 _ _ ?_));refine aF fun K22 k22=>wp_region_lit ?_;simp only[zz];refine aI rfl ((m.b 0 rfl).full eW bW) ?_;simp only[zz];refine aL m 1 rfl rfl rfl bW (cA rfl) rfl ?_;clear m; intro u m; simp only[zy,zx,aX,zF,zG,Nat.reduceAdd] at m;refine aC (k22 _ _ ?_);refine wp_ret ?_;try simp only[Exit.inBlock,Exit.then,if_true]
 refine bU rfl ⟨_,rfl,((m.b 1 rfl).full eW bW)⟩ ?_;try simp only[zD,zE]
 exact ⟨_,rfl,m.ext,rfl⟩
theorem Wo {n : Int} {v : P3} {g0 : Nat} (w : World) (hn : Bd 400000 n) (hv : Bv 400000 v) (hB0 : fW w g0 [.bool (cN n),.string (cX n),.bool (cN v.x),.string (cX v.x),.bool (cN v.y),.string (cX v.y),.bool (cN v.z),.string (cX v.z)] 35) : iL prog 73 [.slice (some ⟨g0,0,none⟩) 4 4] w (fun x _=>x = .int .i64 (tH n v)):=by
 refine ⟨Yc,?_⟩;have m:=cR.refl w
 go_enter func73,ntmps73
 refine aF fun K1 k1=>wp_region_lit (aA (aD) (aC (k1 _ _ ?_)));refine aF fun K2 k2=>aF fun K3 k3=>wp_region_lit (aA (aB) (aA (bR rfl sF rfl) (aA (aB) ?_)));simp only[zz];refine aC (k3 _ _ ?_);refine wp_block (wp_loop_rounds 5 (dQ (aF fun K4 k4=>wp_region_lit (aA (cK (m:=0) (n:=4) rfl rfl (by decide)) (aC (k4 _ _ ?_))))));refine aF fun K5 k5=>bX rfl (wp_skip (k5 _ _ ?_));refine aF fun K6 k6=>wp_block (aF fun K7 k7=>wp_region_lit ?_);simp only[zz];refine aA (aU sF aG rfl rfl (by decide) (by omega) rfl) ?_;simp only[zz];refine aI rfl ((hB0.ext m.ext).lies aR aG rfl rfl) ?_;simp only[zz,zy,Nat.zero_add,Nat.reduceAdd,Nat.reduceMul,Int.reduceToNat];refine bC m cI rfl ?_;clear m; intro g1 u m;simp only[zz];refine aL m 0 rfl rfl rfl aG (cA rfl) rfl ?_;clear m; intro u m; simp only[zy,zx,aX,zF,zG,Nat.reduceAdd] at m;refine aC (k7 _ _ ?_);refine aF fun K8 k8=>wp_region_lit (aI rfl ((m.b 0 rfl).full aR aG) ?_);simp only[zz];refine aW m rfl rfl (lF (a:=n) (hn.mono (by decide))) ?_;clear m; intro u m;refine aA (aD) (aC (k8 _ _ ?_));refine aF fun K9 k9=>wp_region_lit (aA (aB) (aA (nB rfl rfl) ?_));simp only[zz];refine aC (k9 _ _ ?_);refine cQ rfl (fun hc2=>?_) (fun hc2=>?_)
 ·
  refine aF fun K10 k10=>wp_region_lit (aA (aB) (aA (aD) (aC (k10 _ _ ?_))));refine wp_ret ?_;simp only[zz];try simp only[Exit.inBlock,Exit.then,if_true]
  refine bU rfl rfl ?_;try simp only[zD,zE]
  exact ⟨_,rfl,m.ext,by rw [tH,if_pos hc2]⟩
 ·
  have e0 : dG n = 0:=Decidable.not_not.1 hc2;refine wp_skip (k6 _ _ ?_);refine wp_region_lit (aA (bD (m:=0) (n:=1) (r:=1) rfl rfl (by decide)) (aA (aB) (aC (bF (aF fun K11 k11=>wp_region_lit (aA (cK (m:=1) (n:=4) rfl rfl (by decide)) (aC (k11 _ _ ?_))))))));refine aF fun K12 k12=>bX rfl (wp_skip (k12 _ _ ?_));refine aF fun K13 k13=>wp_block (aF fun K14 k14=>wp_region_lit ?_);simp only[zz];refine aA (aU sF aG rfl rfl (by decide) (by omega) rfl) ?_;simp only[zz];refine aI rfl ((hB0.ext m.ext).lies aR aG rfl rfl) ?_;simp only[zz,zy,Nat.zero_add,Nat.reduceAdd,Nat.reduceMul,Int.reduceToNat];refine bC m cI rfl ?_;clear m; intro g2 u m;simp only[zz];refine aL m 0 rfl rfl rfl aG (cA rfl) rfl ?_;clear m; intro u m; simp only[zy,zx,aX,zF,zG,Nat.reduceAdd] at m;refine aC (k14 _ _ ?_);refine aF fun K15 k15=>wp_region_lit (aI rfl ((m.b 0 rfl).full aR aG) ?_);simp only[zz];refine aW m rfl rfl (lF (a:=v.x) (hv.x.mono (by decide))) ?_;clear m; intro u m;refine aA (aD) (aC (k15 _ _ ?_));refine aF fun K16 k16=>wp_region_lit (aA (aB) (aA (nB rfl rfl) ?_));simp only[zz];refine aC (k16 _ _ ?_);refine cQ rfl (fun hc2=>?_) (fun hc2=>?_)
  ·
   refine aF fun K17 k17=>wp_region_lit (aA (aB) (aA (aD) (aC (k17 _ _ ?_))));refine wp_ret ?_;simp only[zz];try simp only[Exit.inBlock,Exit.then,if_true]
   refine bU rfl rfl ?_;try simp only[zD,zE]
   exact ⟨_,rfl,m.ext,by rw [tH,if_neg (fun h=>h e0),if_pos hc2]⟩
  ·
   have e1 : dG v.x = 0:=Decidable.not_not.1 hc2;refine wp_skip (k13 _ _ ?_);refine wp_region_lit (aA (bD (m:=1) (n:=1) (r:=2) rfl rfl (by decide)) (aA (aB) (aC (bF (aF fun K18 k18=>wp_region_lit (aA (cK (m:=2) (n:=4) rfl rfl (by decide)) (aC (k18 _ _ ?_))))))));refine aF fun K19 k19=>bX rfl (wp_skip (k19 _ _ ?_));refine aF fun K20 k20=>wp_block (aF fun K21 k21=>wp_region_lit ?_);simp only[zz];refine aA (aU sF aG rfl rfl (by decide) (by omega) rfl) ?_;simp only[zz];refine aI rfl ((hB0.ext m.ext).lies aR aG rfl rfl) ?_;simp only[zz,zy,Nat.zero_add,Nat.reduceAdd,Nat.reduceMul,Int.reduceToNat];refine bC m cI rfl ?_;clear m; intro g3 u m;simp only[zz];refine aL m 0 rfl rfl rfl aG (cA rfl) rfl ?_;clear m; intro u m; simp only[zy,zx,aX,zF,zG,Nat.reduceAdd] at m;refine aC (k21 _ _ ?_);refine aF fun K22 k22=>wp_region_lit (aI rfl ((m.b 0 rfl).full aR aG) ?_);simp only[zz];refine aW m rfl rfl (lF (a:=v.y) (hv.y.mono (by decide))) ?_;clear m; intro u m;refine aA (aD) (aC (k22 _ _ ?_));refine aF fun K23 k23=>wp_region_lit (aA (aB) (aA (nB rfl rfl) ?_));simp only[zz];refine aC (k23 _ _ ?_);refine cQ rfl (fun hc2=>?_) (fun hc2=>?_)
   ·
    refine aF fun K24 k24=>wp_region_lit (aA (aB) (aA (aD) (aC (k24 _ _ ?_))));refine wp_ret ?_;simp only[zz];try simp only[Exit.inBlock,Exit.then,if_true]
    refine bU rfl rfl ?_;try simp only[zD,zE]
    exact ⟨_,rfl,m.ext,by rw [tH,if_neg (fun h=>h e0),if_neg (fun h=>h e1),if_pos hc2]⟩
   ·
    have e2 : dG v.y = 0:=Decidable.not_not.1 hc2;refine wp_skip (k20 _ _ ?_);refine wp_region_lit (aA (bD (m:=2) (n:=1) (r:=3) rfl rfl (by decide)) (aA (aB) (aC (bF (aF fun K25 k25=>wp_region_lit (aA (cK (m:=3) (n:=4) rfl rfl (by decide)) (aC (k25 _ _ ?_))))))));refine aF fun K26 k26=>bX rfl (wp_skip (k26 _ _ ?_));refine aF fun K27 k27=>wp_block (aF fun K28 k28=>wp_region_lit ?_);simp only[zz];refine aA (aU sF aG rfl rfl (by decide) (by omega) rfl) ?_;simp only[zz];refine aI rfl ((hB0.ext m.ext).lies aR aG rfl rfl) ?_;simp only[zz,zy,Nat.zero_add,Nat.reduceAdd,Nat.reduceMul,Int.reduceToNat];refine bC m cI rfl ?_;clear m; intro g4 u m;simp only[zz];refine aL m 0 rfl rfl rfl aG (cA rfl) rfl ?_;clear m; intro u m; simp only[zy,zx,aX,zF,zG,Nat.reduceAdd] at m;refine aC (k28 _ _ ?_);refine aF fun K29 k29=>wp_region_lit (aI rfl ((m.b 0 rfl).full aR aG) ?_);simp only[zz];refine aW m rfl rfl (lF (a:=v.z) (hv.z.mono (by decide))) ?_;clear m; intro u m;refine aA (aD) (aC (k29 _ _ ?_));refine aF fun K30 k30=>wp_region_lit (aA (aB) (aA (nB rfl rfl) ?_));simp only[zz];refine aC (k30 _ _ ?_);refine cQ rfl (fun hc2=>?_) (fun hc2=>?_)
    ·
     refine aF fun K31 k31=>wp_region_lit (aA (aB) (aA (aD) (aC (k31 _ _ ?_))));refine wp_ret ?_;simp only[zz];try simp only[Exit.inBlock,Exit.then,if_true]
     refine bU rfl rfl ?_;try simp only[zD,zE]
     exact ⟨_,rfl,m.ext,by rw [tH,if_neg (fun h=>h e0),if_neg (fun h=>h e1),if_neg (fun h=>h e2),if_pos hc2]⟩
    ·
     have e3 : dG v.z = 0:=Decidable.not_not.1 hc2;refine wp_skip (k27 _ _ ?_);refine wp_region_lit (aA (bD (m:=3) (n:=1) (r:=4) rfl rfl (by decide)) (aA (aB) (aC (bF (aF fun K32 k32=>wp_region_lit (aA (fA (m:=4) (n:=4) rfl rfl (by decide)) (aC (k32 _ _ ?_))))))));refine aF fun K33 k33=>eQ rfl (wp_exit (k2 _ _ ?_));refine aF fun K34 k34=>wp_region_lit (aA (aD) ?_);simp only[zz];refine aC (k34 _ _ ?_);refine wp_ret ?_;try simp only[Exit.inBlock,Exit.then,if_true]
     refine bU rfl rfl ?_;try simp only[zD,zE]
     exact ⟨_,rfl,m.ext,by rw [tH,if_neg (fun h=>h e0),if_neg (fun h=>h e1),if_neg (fun h=>h e2),if_neg (fun h=>h e3)]⟩
theorem Hi {n : Int} {g0 : Nat} (w : World) (hn : Bd 400000 n) (hB0 : fW w g0 [.bool (cN n),.string (cX n)] 35) : iL prog 73 [.slice (some ⟨g0,0,none⟩) 1 1] w (fun x _=>x = .int .i64 (dG n)):=by
 refine ⟨Yc,?_⟩;have m:=cR.refl w
 go_enter func73,ntmps73
 refine aF fun K1 k1=>wp_region_lit (aA (aD) (aC (k1 _ _ ?_)));refine aF fun K2 k2=>aF fun K3 k3=>wp_region_lit (aA (aB) (aA (bR rfl sF rfl) (aA (aB) ?_)));simp only[zz];refine aC (k3 _ _ ?_);refine wp_block (wp_loop_rounds 2 (dQ (aF fun K4 k4=>wp_region_lit (aA (cK (m:=0) (n:=1) rfl rfl (by decide)) (aC (k4 _ _ ?_))))));refine aF fun K5 k5=>bX rfl (wp_skip (k5 _ _ ?_));refine aF fun K6 k6=>wp_block (aF fun K7 k7=>wp_region_lit ?_);simp only[zz];refine aA (aU sF aG rfl rfl (by decide) (by omega) rfl) ?_;simp only[zz];refine aI rfl ((hB0.ext m.ext).lies aR aG rfl rfl) ?_;simp only[zz,zy,Nat.zero_add,Nat.reduceAdd,Nat.reduceMul,Int.reduceToNat];refine bC m cI rfl ?_;clear m; intro g1 u m;simp only[zz];refine aL m 0 rfl rfl rfl aG (cA rfl) rfl ?_;clear m; intro u m; simp only[zy,zx,aX,zF,zG,Nat.reduceAdd] at m;refine aC (k7 _ _ ?_);refine aF fun K8 k8=>wp_region_lit (aI rfl ((m.b 0 rfl).full aR aG) ?_);simp only[zz];refine aW m rfl rfl (lF (a:=n) (hn.mono (by decide))) ?_;clear m; intro u m;refine aA (aD) (aC (k8 _ _ ?_));refine aF fun K9 k9=>wp_region_lit (aA (aB) (aA (nB rfl rfl) ?_));simp only[zz];refine aC (k9 _ _ ?_);refine cQ rfl (fun hc2=>?_) (fun hc2=>?_)
 ·
  refine aF fun K10 k10=>wp_region_lit (aA (aB) (aA (aD) (aC (k10 _ _ ?_))));refine wp_ret ?_;simp only[zz];try simp only[Exit.inBlock,Exit.then,if_true]
  refine bU rfl rfl ?_;try simp only[zD,zE]
  exact ⟨_,rfl,m.ext,rfl⟩
 ·
  refine wp_skip (k6 _ _ ?_);refine wp_region_lit (aA (bD (m:=0) (n:=1) (r:=1) rfl rfl (by decide)) (aA (aB) (aC (bF (aF fun K11 k11=>wp_region_lit (aA (fA (m:=1) (n:=1) rfl rfl (by decide)) (aC (k11 _ _ ?_))))))));refine aF fun K12 k12=>eQ rfl (wp_exit (k2 _ _ ?_));refine aF fun K13 k13=>wp_region_lit (aA (aD) ?_);simp only[zz];refine aC (k13 _ _ ?_);refine wp_ret ?_;try simp only[Exit.inBlock,Exit.then,if_true]
  refine bU rfl rfl ?_;try simp only[zD,zE]
  exact ⟨_,rfl,m.ext,by rw [Decidable.not_not.1 hc2]⟩
theorem sK {n : Int} {v : P3} (hn : Bd 400000 n) (hv : Bv 400000 v) : dP prog 72 [W n,wv v] (.int .i64 (tH n v)):=by
 intro w;refine ⟨acq,?_⟩;have m:=cR.refl w
 go_enter func72,ntmps72
 refine aF fun K1 k1=>wp_region_lit (cM m rfl ?_);clear m; intro g1 u m;simp only[zz];refine cM m rfl ?_;clear m; intro g2 u m;refine aA (aD) (aC (k1 _ _ ?_));refine aF fun K2 k2=>wp_region_lit ?_;simp only[zz];refine aI rfl ((m.b 1 rfl).full aR aG) ?_;simp only[zz];refine aA (aJ eN aG rfl rfl (by decide) (by decide) rfl) ?_;simp only[zz];refine aI rfl ((m.b 0 rfl).lies aR aG rfl rfl) ?_;simp only[zz,zy,Nat.zero_add,Nat.reduceAdd,Nat.reduceMul,Int.reduceToNat];refine aA (aJ eN aG rfl rfl (by decide) (by decide) rfl) ?_;simp only[zz];refine aI rfl ((m.b 0 rfl).lies aR aG rfl rfl) ?_;simp only[zz,zy,Nat.zero_add,Nat.reduceAdd,Nat.reduceMul,Int.reduceToNat];refine aA (aJ eN aG rfl rfl (by decide) (by decide) rfl) ?_;simp only[zz];refine aI rfl ((m.b 0 rfl).lies aR aG rfl rfl) ?_;simp only[zz,zy,Nat.zero_add,Nat.reduceAdd,Nat.reduceMul,Int.reduceToNat];refine Ll rfl rfl rfl rfl ?_;intro u g3 e hg hB; replace m:=m.newB e hg hB; clear e hg hB;simp only[zz];refine fU m rfl rfl (Wo (n:=n) (v:=v) _ hn hv (m.b 0 rfl)) ?_;clear m; rintro v u m rfl;refine aA (aD) (aC (k2 _ _ ?_));refine wp_ret ?_;simp only[zz];try simp only[Exit.inBlock,Exit.then,if_true]
 refine bU rfl rfl ?_;try simp only[zD,zE]
 exact ⟨_,rfl,m.ext,rfl⟩
theorem mG {n d : Int} (hn : Bd 400000 n) (hd : Bd 400000 d) (h0 : d ≠ 0) : dP prog 62 [W n,W d] (Q (Rat.divInt n d)):=by
 intro w;refine ⟨acg,?_⟩;have m:=cR.refl w
 go_enter func62,ntmps62
 refine aF fun K1 k1=>wp_region_lit (cM m rfl ?_);clear m; intro g1 u m;simp only[zz];refine cM m rfl ?_;clear m; intro g2 u m;simp only[zz];refine bC m cD rfl ?_;clear m; intro g3 u m;refine aC (k1 _ _ ?_);refine aF fun K2 k2=>wp_region_lit ?_;simp only[zz];refine aI rfl ((m.b 2 rfl).full aR aG) ?_;simp only[zz];refine aI rfl ((m.b 1 rfl).full aR aG) ?_;simp only[zz];refine aW m rfl rfl (aaT hn hd h0) ?_;clear m; intro u m;refine aA (aB) (aA (aT rfl rfl) (aA (aT rfl rfl) ?_));simp only[zz];refine bC m cD rfl ?_;clear m; intro g4 u m;simp only[zz];refine aL m 0 rfl rfl rfl aK (cA rfl) rfl ?_;clear m; intro u m; simp only[zy,zx,aX,zF,zG,Nat.reduceAdd] at m;refine aA (aD) (aC (k2 _ _ ?_));refine aF fun K3 k3=>wp_region_lit ?_;simp only[zz];refine aI rfl ((m.b 0 rfl).full bB aK) ?_;simp only[zz];refine aL m 1 rfl rfl rfl aK (cA rfl) rfl ?_;clear m; intro u m; simp only[zy,zx,aX,zF,zG,Nat.reduceAdd] at m;refine aC (k3 _ _ ?_);refine wp_ret ?_;try simp only[Exit.inBlock,Exit.then,if_true]
 refine bU rfl ⟨_,rfl,((m.b 1 rfl).full bB aK)⟩ ?_;try simp only[zD,zE]
 exact ⟨_,rfl,m.ext,rfl⟩
theorem gE  : dP prog 43 [] (Q 0):=by
 intro w;refine ⟨abZ,?_⟩;have m:=cR.refl w
 go_enter func43,ntmps43
 refine aF fun K1 k1=>wp_region_lit (bC m cD rfl ?_);clear m; intro g1 u m;refine aC (k1 _ _ ?_);refine aF fun K2 k2=>?_;simp only[zz];haveI : Iw (1 : Int):=⟨⟨by decide,by decide⟩⟩
 refine wp_region_lit (aA (yH) ?_);simp only[zz];refine aW m rfl rfl (lG (n:=1) Iw.h) ?_;clear m; intro u m;simp only[zz];refine aW m rfl rfl (mG (n:=0) (d:=1) (iY _) Bw.up (by decide)) ?_;clear m; intro u m;simp only[zz];refine aL m 0 rfl rfl rfl aK (cA rfl) rfl ?_;clear m; intro u m; simp only[zy,zx,aX,zF,zG,Nat.reduceAdd] at m;refine aC (k2 _ _ ?_);refine wp_ret ?_;try simp only[Exit.inBlock,Exit.then,if_true]
 refine bU rfl ⟨_,rfl,((m.b 0 rfl).full bB aK)⟩ ?_;try simp only[zD,zE]
 exact ⟨_,rfl,m.ext,by rw [Rat.zero_divInt]; rfl⟩
theorem yP {r : fY} [IR r] : dP prog 63 [lH r] (.bool (decide r.ok)):=by
 intro w;refine ⟨ach,?_⟩;have m:=cR.refl w
 go_enter func63,ntmps63
 refine aF fun K1 k1=>wp_region_lit (cM m rfl ?_);clear m; intro g1 u m;refine aA (aD) (aC (k1 _ _ ?_));refine aF fun K2 k2=>wp_region_lit (aA (aH (c:=0) fC rfl aM rfl rfl) ?_);simp only[zz];refine aI rfl ((m.b 0 rfl).lies1 aZ rfl) ?_;simp only[zz];refine aA (gS rfl rfl) (aA (aB) (pM rfl (fun hb=>aH (c:=2) fC rfl cS rfl rfl) ?_));simp only[zz];refine sI rfl (fun hb=>kS (oC hb rfl) ((m.b 0 rfl).lies lW cS rfl rfl)) ?_;simp only[zz,zy,Nat.zero_add,Nat.reduceAdd,Nat.reduceMul,Int.reduceToNat];refine pM rfl (fun hb=>kV) (pM rfl (fun hb=>xJ (oC hb rfl) (oC hb rfl)) (aA (xT rfl rfl rfl) (aA (aD) ?_)));simp only[zz];refine aC (k2 _ _ ?_);refine wp_ret ?_;try simp only[Exit.inBlock,Exit.then,if_true]
 refine bU rfl rfl ?_;try simp only[zD,zE]
 exact ⟨_,rfl,m.ext,iD (Bool.decide_and _ _).symm⟩
end Go.Proofs.YtimjandkmfcmiaaGreatDoor
namespace Go.Proofs.YtimjandkmfcmiaaGreatDoor
open Tryz
open Go.RowKit Go.Lith
set_option maxRecDepth 100000
attribute [local irreducible] wpList wpQuiet eS dV eG Code.wp
instance adk {k m : Nat} {u v : P3} [hu : Bv k u] [hv : Bv m v] : Bv (max k m + 1) (u.sub v):=⟨hu.x.sub hv.x,hu.y.sub hv.y,hu.z.sub hv.z⟩
theorem Yl {x y : Int} : x = 0 ∨ (x ≠ 0 ∧ ¬ y = x) ∨ (x ≠ 0 ∧ y = x):=by omega
theorem Cl {r : fY} [IR r] (h : r.ok) : dP prog 63 [lH r] (.bool true):=by
 have:=yP (r:=r);rwa [decide_eq_true h] at this
theorem Cm {r : fY} [IR r] (h : ¬ r.ok) : dP prog 63 [lH r] (.bool false):=by
 have:=yP (r:=r);rwa [decide_eq_false h] at this
theorem Wp : wv ⟨0,0,0⟩ = .agg #[.bool false,.string ⟨#[]⟩,.bool false,.string ⟨#[]⟩,.bool false,.string ⟨#[]⟩]:=by
 simp only[wv,Eo];rfl
theorem Ez {v : P3} (hv : Bv 300000 v) : dP prog 68 [.agg #[.bool false,.string ⟨#[]⟩,.bool false,.string ⟨#[]⟩,.bool false,.string ⟨#[]⟩],wv v] (wv (P3.sub ⟨0,0,0⟩ v)):=by
 rw [← Wp];exact pP ⟨iY _,iY _,iY _⟩ hv
theorem Hj {d p q : P3} {g1 : Nat} (w : World) (hd : Bv 200 d) (hp : Bv 200 p) (hq : Bv 200 q) (hB1 : fW w g1 [.bool (cN (d).x),.string (cX (d).x),.bool (cN (d).y),.string (cX (d).y),.bool (cN (d).z),.string (cX (d).z)] 108) : iL prog 105 [wv p,wv q,.pointer (some ⟨g1,0,none⟩)] w (fun v _=>v = .int .i64 (tI d p q)):=by
 refine ⟨Ze,?_⟩;have m:=cR.refl w
 go_enter func105,ntmps105
 refine aF fun K1 k1=>wp_region_lit (cM m rfl ?_);clear m; intro g2 u m;simp only[zz];refine cM m rfl ?_;clear m; intro g3 u m;refine aA (aD) (aC (k1 _ _ ?_));refine aF fun K2 k2=>?_;simp only[zz];refine mq m aN (by kernel_rfl) (ql rfl (fun u m=>((hB1.ext m.ext).lies eW bW rfl rfl)) ?_);simp only[zz,zy,Nat.zero_add,Nat.reduceAdd,Nat.reduceMul,Int.reduceToNat];refine ql rfl (fun u m=>((m.b 1 rfl).full eW bW)) ?_;simp only[zz];refine ql rfl (fun u m=>((m.b 0 rfl).full eW bW)) ?_;simp only[zz];refine gJ rfl rfl (Jq Bv.of Bv.of) ?_;simp only[zz];refine gJ rfl rfl (Lr Bv.of Bv.of) ?_;simp only[zz];refine ql rfl (fun u m=>((hB1.ext m.ext).lies eW bW rfl rfl)) ?_;simp only[zz,zy,Nat.zero_add,Nat.reduceAdd,Nat.reduceMul,Int.reduceToNat];refine ql rfl (fun u m=>((m.b 0 rfl).full eW bW)) ?_;simp only[zz];refine ql rfl (fun u m=>((m.b 1 rfl).full eW bW)) ?_;simp only[zz];refine gJ rfl rfl (pP Bv.of Bv.of) ?_;simp only[zz];refine gJ rfl rfl (Jq Bv.of Bv.of) ?_;simp only[zz];refine gJ rfl rfl (sK Bw.up Bv.of) (aS (aD) (dW ?_));clear m; intro u m;refine k2 _ _ (wp_ret ?_);simp only[zz];try simp only[Exit.inBlock,Exit.then,if_true]
 refine bU rfl rfl ?_;try simp only[zD,zE]
 exact ⟨_,rfl,m.ext,rfl⟩
theorem Tn {d a b c : P3} (hd : Bv 200 d) (ha : Bv 200 a) (hb : Bv 200 b) (hc : Bv 200 c) : dP prog 69 [wv d,.agg #[.bool (cN (a).x),.string (cX (a).x),.bool (cN (a).y),.string (cX (a).y),.bool (cN (a).z),.string (cX (a).z),.bool (cN (b).x),.string (cX (b).x),.bool (cN (b).y),.string (cX (b).y),.bool (cN (b).z),.string (cX (b).z),.bool (cN (c).x),.string (cX (c).x),.bool (cN (c).y),.string (cX (c).y),.bool (cN (c).z),.string (cX (c).z)]] (.bool (decide (wN d a b c))):=by
 intro w;refine ⟨acn,?_⟩;have m:=cR.refl w
 go_enter func69,ntmps69
 refine aF fun K1 k1=>wp_region_lit (cM m rfl ?_);clear m; intro g1 u m;simp only[zz];refine cM m rfl ?_;clear m; intro g2 u m;refine aA (aD) (aC (k1 _ _ ?_));refine aF fun K2 k2=>wp_region_lit ?_;simp only[zz];refine aA (Ao) ?_;simp only[zz,List.map_toArray,List.map_cons,List.map_nil];refine aA (aD) (aC (k2 _ _ ?_));refine aF fun K3 k3=>wp_region_lit (aA (aB) (aA (aJ nE bW rfl rfl (by decide) (by decide) rfl) ?_));simp only[zz];refine aI rfl ((m.b 0 rfl).lies eW bW rfl rfl) ?_;simp only[zz,zy,Nat.zero_add,Nat.reduceAdd,Nat.reduceMul,Int.reduceToNat];refine aA (aJ nE bW rfl rfl (by decide) (by decide) rfl) ?_;simp only[zz];refine aI rfl ((m.b 0 rfl).lies eW bW rfl rfl) ?_;simp only[zz,zy,Nat.zero_add,Nat.reduceAdd,Nat.reduceMul,Int.reduceToNat];refine fU m rfl rfl (Hj (d:=d) (p:=a) (q:=b) _ hd ha hb (m.b 1 rfl)) ?_;clear m; rintro v u m rfl;refine aA (aD) (aC (k3 _ _ ?_));refine aF fun K4 k4=>?_;simp only[zz];rcases Yl (x:=tI d a b) (y:=tI d b c) with h0 | ⟨h0,h1⟩ | ⟨h0,h1⟩
 ·
  refine wp_region_lit (aA (aB) (aA (qG rfl rfl (not_not_intro h0)) (aA (aB) (bM rfl ?_))));simp only[zz];refine bM rfl (bM rfl (bM rfl (bM rfl ?_)));simp only[zz];refine bM rfl (bM rfl (bM rfl (aA (cO rfl) ?_)));simp only[zz];refine aA (aB) (bM rfl (bM rfl (bM rfl ?_)));simp only[zz];refine bM rfl (bM rfl (bM rfl (bM rfl ?_)));simp only[zz];refine bM rfl (aA (cO rfl) (aA (aD) (aC (k4 _ _ ?_))));refine wp_ret ?_;simp only[zz];try simp only[Exit.inBlock,Exit.then,if_true]
  refine bU rfl rfl ?_;try simp only[zD,zE]
  exact ⟨_,rfl,m.ext,iD (decide_eq_false (fun k=>k.1 h0)).symm⟩
 ·
  refine wp_region_lit (aA (aB) (aA (uX rfl rfl (h0)) (aA (aB) (aP rfl (aA (aB) ?_)))));simp only[zz];refine aP rfl (aA (aJ nE bW rfl rfl (by decide) (by decide) rfl) (aP rfl ?_));simp only[zz];refine aI rfl ((m.b 0 rfl).lies eW bW rfl rfl) ?_;simp only[zz,zy,Nat.zero_add,Nat.reduceAdd,Nat.reduceMul,Int.reduceToNat];refine aP rfl (aA (aJ nE bW rfl rfl (by decide) (by decide) rfl) (aP rfl ?_));simp only[zz];refine aI rfl ((m.b 0 rfl).lies eW bW rfl rfl) ?_;simp only[zz,zy,Nat.zero_add,Nat.reduceAdd,Nat.reduceMul,Int.reduceToNat];refine aP rfl (fU m rfl rfl (Hj (d:=d) (p:=b) (q:=c) _ hd hb hc (m.b 1 rfl)) ?_);clear m; rintro v u m rfl;refine aP rfl (aA (aB) (aP rfl (aA (kL rfl rfl (h1)) (aA (cG rfl) ?_))));simp only[zz];refine aA (aB) (bM rfl (bM rfl (bM rfl ?_)));simp only[zz];refine bM rfl (bM rfl (bM rfl (bM rfl ?_)));simp only[zz];refine bM rfl (aA (cO rfl) (aA (aD) (aC (k4 _ _ ?_))));refine wp_ret ?_;simp only[zz];try simp only[Exit.inBlock,Exit.then,if_true]
  refine bU rfl rfl ?_;try simp only[zD,zE]
  exact ⟨_,rfl,m.ext,iD (decide_eq_false (fun k=>h1 k.2.1)).symm⟩
 ·
  refine wp_region_lit (aA (aB) (aA (uX rfl rfl (h0)) (aA (aB) (aP rfl (aA (aB) ?_)))));simp only[zz];refine aP rfl (aA (aJ nE bW rfl rfl (by decide) (by decide) rfl) (aP rfl ?_));simp only[zz];refine aI rfl ((m.b 0 rfl).lies eW bW rfl rfl) ?_;simp only[zz,zy,Nat.zero_add,Nat.reduceAdd,Nat.reduceMul,Int.reduceToNat];refine aP rfl (aA (aJ nE bW rfl rfl (by decide) (by decide) rfl) (aP rfl ?_));simp only[zz];refine aI rfl ((m.b 0 rfl).lies eW bW rfl rfl) ?_;simp only[zz,zy,Nat.zero_add,Nat.reduceAdd,Nat.reduceMul,Int.reduceToNat];refine aP rfl (fU m rfl rfl (Hj (d:=d) (p:=b) (q:=c) _ hd hb hc (m.b 1 rfl)) ?_);clear m; rintro v u m rfl;refine aP rfl (aA (aB) (aP rfl (aA (nD rfl rfl (h1)) (aA (cG rfl) ?_))));simp only[zz];refine aA (aB) (aP rfl (aA (aB) (aP rfl (aA (aJ nE bW rfl rfl (by decide) (by decide) rfl) (aP rfl ?_)))));simp only[zz];refine aI rfl ((m.b 0 rfl).lies eW bW rfl rfl) ?_;simp only[zz,zy,Nat.zero_add,Nat.reduceAdd,Nat.reduceMul,Int.reduceToNat];refine aP rfl (aA (aJ nE bW rfl rfl (by decide) (by decide) rfl) (aP rfl ?_));simp only[zz];refine aI rfl ((m.b 0 rfl).lies eW bW rfl rfl) ?_;simp only[zz,zy,Nat.zero_add,Nat.reduceAdd,Nat.reduceMul,Int.reduceToNat];refine aP rfl (fU m rfl rfl (Hj (d:=d) (p:=c) (q:=a) _ hd hc ha (m.b 1 rfl)) ?_);clear m; rintro v u m rfl;refine aP rfl (aA (aB) (aP rfl (aA (nA rfl rfl) (aA (cG rfl) ?_))));simp only[zz];refine aA (aD) (aC (k4 _ _ ?_));refine wp_ret ?_;simp only[zz];try simp only[Exit.inBlock,Exit.then,if_true]
  refine bU rfl rfl ?_;try simp only[zD,zE]
  exact ⟨_,rfl,m.ext,iD (decide_eq_decide.2 ⟨fun k=>⟨h0,h1,k⟩,fun k=>k.2.2⟩)⟩
end Go.Proofs.YtimjandkmfcmiaaGreatDoor
namespace Go.Proofs.YtimjandkmfcmiaaGreatDoor
open Tryz
open Go.RowKit Go.Lith
set_option maxRecDepth 100000
attribute [local irreducible] wpList wpQuiet eS dV eG Code.wp
instance adE {p : P3} [h : I3 p] : Bv 64 p:=⟨h.x.bd,h.y.bd,h.z.bd⟩
instance ads {k m : Nat} {v : P3} {n : Int} [h : Bv k v] [a : Bw m n] : Bv (k + m) (v.scl n):=⟨h.x.mul a.h,h.y.mul a.h,h.z.mul a.h⟩
instance adJ : Bv 1 (⟨0,0,0⟩ : P3):=⟨iY _,iY _,iY _⟩
instance adt {r : fY} {t : T3} [IR r] [IT t] : Bw 262 (xR r t):=inferInstanceAs (Bw 262 (t.normal.dot (r.to t.a)))
instance adu {r : fY} {t : T3} [IR r] [IT t] : Bw 197 (rL r t):=inferInstanceAs (Bw 197 (t.normal.dot r.d))
theorem Pq {t : T3} [IT t] : dP prog 64 [tr t] (.bool (decide t.flat)):=by
 have:=aa2 (t:=t);rwa [show decide (dG t.normal.x = 0 ∧ dG t.normal.y = 0 ∧ dG t.normal.z = 0) = decide t.flat from decide_eq_decide.2 (by rw [gY,gY,gY]; rfl)] at this
theorem dZ {r : fY} {t : T3} (h : ¬ iR r t) : Value.tuple #[Q 0,.bool false] = .tuple #[Q (fR r t),.bool (decide (iR r t))]:=by
 rw [fR,if_neg h,decide_eq_false h]
theorem kK {r : fY} {t : T3} (h : iR r t) : Value.tuple #[Q (Rat.divInt (xR r t) (r.w * rL r t)),.bool true] = .tuple #[Q (fR r t),.bool (decide (iR r t))]:=by
 rw [fR,if_pos h,decide_eq_true h]
theorem Jr {r : fY} {t : T3} (hok : r.ok) (h : rL r t ≠ 0) : r.w * rL r t ≠ 0:=fun e=>by
 rcases Int.mul_eq_zero.1 e with e | e
 · have:=hok.1; omega
 · exact h e
theorem Ls {r : fY} {t : T3} [IR r] [IT t] : dP prog 44 [lH r,tr t] (.tuple #[Q (fR r t),.bool (decide (iR r t))]):=by
 intro w;refine ⟨ab0,?_⟩;have m:=cR.refl w
 go_enter func44,ntmps44
 refine aF fun K1 k1=>wp_region_lit (cM m rfl ?_);clear m; intro g1 u m;simp only[zz];refine cM m rfl ?_;clear m; intro g2 u m;simp only[zz];refine bC m cD rfl ?_;clear m; intro g3 u m;refine aA (aD) (aC (k1 _ _ ?_));refine aF fun K2 k2=>aF fun K3 k3=>?_;simp only[zz];rcases Decidable.em r.ok with hok | hok
 ·
  refine wp_region_lit (aI rfl ((m.b 2 rfl).full fB dJ) ?_);simp only[zz];refine aW m rfl rfl (Cl hok) ?_;clear m; intro u m;refine aA (eT rfl) (aA (aB) (aP rfl ?_));simp only[zz];refine aI rfl ((m.b 1 rfl).full mM fQ) ?_;simp only[zz];refine aP rfl (aW m rfl rfl (Pq) ?_);clear m; intro u m;refine aA (cO rfl) (aC (k3 _ _ ?_));simp only[zz];refine cQ rfl (fun hc1=>?_) (fun hc1=>?_)
  ·
   refine aF fun K4 k4=>wp_region_lit (aW m rfl rfl (gE) ?_);clear m; intro u m;simp only[zz];refine aL m 0 rfl rfl rfl aK (cA rfl) rfl ?_;clear m; intro u m; simp only[zy,zx,aX,zF,zG,Nat.reduceAdd] at m;refine aA (aD) (aC (k4 _ _ ?_));refine wp_ret ?_;simp only[zz];try simp only[Exit.inBlock,Exit.then,if_true]
   refine jL rfl ⟨_,rfl,((m.b 0 rfl).full bB aK)⟩ rfl ?_;try simp only[zD,zE]
   exact ⟨_,rfl,m.ext,dZ (fun h=>h.2.1 hc1)⟩
  ·
   have hf : ¬ t.flat:=hc1;refine wp_skip (k2 _ _ ?_);refine aF fun K5 k5=>?_;refine eF 23 [0,1,2,3,4,5,6,7,8,9,10,11,12,13,14,15,16,17,18,19] [⟨20,6,108,[.bool false,.string ⟨#[]⟩,.bool false,.string ⟨#[]⟩,.bool false,.string ⟨#[]⟩]⟩,⟨21,7,108,[.bool false,.string ⟨#[]⟩,.bool false,.string ⟨#[]⟩,.bool false,.string ⟨#[]⟩]⟩,⟨22,8,35,[.bool false,.string ⟨#[]⟩]⟩] aN (by kernel_rfl) (al3 ⟨_,_,_,rfl,by kernel_rfl,_,jF,rfl⟩ ⟨_,_,_,rfl,by kernel_rfl,_,jF,rfl⟩ ⟨_,_,_,rfl,by kernel_rfl,_,cI,rfl⟩) (ol:=?_) ?hol ?_
   case hol=>simp only[zw,zQ,zR]; try rfl
   intro u e; replace m:=m.ext' e; clear e;refine jH (aH (c:=0) fC rfl aM rfl rfl) ?_;simp only[zz];refine eM rfl (fun u e=>(((m.ext' e).b 2 rfl).lies1 aZ rfl)) ?_;simp only[zz];refine jH (aH (c:=0) fC rfl aM rfl rfl) ?_;simp only[zz];refine eM rfl (fun u e=>(((m.ext' e).b 2 rfl).lies1 aZ rfl)) ?_;simp only[zz];refine jH (aH (c:=0) fC rfl aM rfl rfl) ?_;simp only[zz];refine eM rfl (fun u e=>(((m.ext' e).b 2 rfl).lies1 aZ rfl)) ?_;simp only[zz];refine eD rfl rfl (Wn) (jH (aH (c:=2) fC rfl cS rfl rfl) (jH (aJ eU aM rfl rfl (by decide) (by decide) rfl) ?_));simp only[zz];refine eM rfl (fun u e=>(((m.ext' e).b 2 rfl).lies1 aZ rfl)) ?_;simp only[zz];refine jH (aH (c:=2) fC rfl cS rfl rfl) (jH (aJ eU aM rfl rfl (by decide) (by decide) rfl) ?_);simp only[zz];refine eM rfl (fun u e=>(((m.ext' e).b 2 rfl).lies1 aZ rfl)) ?_;simp only[zz];refine jH (aH (c:=2) fC rfl cS rfl rfl) (jH (aJ eU aM rfl rfl (by decide) (by decide) rfl) ?_);simp only[zz];refine eM rfl (fun u e=>(((m.ext' e).b 2 rfl).lies1 aZ rfl)) ?_;simp only[zz];refine eD rfl rfl (Wn) (jH (aH (c:=0) fC rfl aM rfl rfl) ?_);simp only[zz];refine eM rfl (fun u e=>(((m.ext' e).b 2 rfl).lies1 aZ rfl)) ?_;simp only[zz];refine eD rfl rfl (lG Iw.h) (qA ?_);simp only[zz];refine mf3 m (by decide) (by decide) (by decide) ?_;clear m; intro g4 g5 g6 u m;simp only[zJ,zK,zF,zG];refine aL m 2 rfl rfl rfl bW (cA rfl) rfl ?_;clear m; intro u m; simp only[zy,zx,aX,zF,zG,Nat.reduceAdd] at m;refine aL m 1 rfl rfl rfl bW (cA rfl) rfl ?_;clear m; intro u m; simp only[zy,zx,aX,zF,zG,Nat.reduceAdd] at m;refine aL m 0 rfl rfl rfl aG (cA rfl) rfl ?_;clear m; intro u m; simp only[zy,zx,aX,zF,zG,Nat.reduceAdd] at m;refine aC (k5 _ _ ?_);refine aF fun K6 k6=>wp_region_lit (bC m Re rfl ?_);clear m; intro g7 u m;refine aC (k6 _ _ ?_);refine aF fun K7 k7=>aF fun K8 k8=>wp_region_lit ?_;simp only[zz];refine aI rfl ((m.b 5 rfl).full mM fQ) ?_;simp only[zz];refine aA (aB) (aC (k8 _ _ ?_));refine wp_block (wp_loop_rounds 4 (dQ (aF fun K9 k9=>wp_region_lit (aA (cK (m:=0) (n:=3) rfl rfl (by decide)) (aC (k9 _ _ ?_))))));refine aF fun K10 k10=>bX rfl (wp_skip (k10 _ _ ?_));refine aF fun K11 k11=>wp_block (aF fun K12 k12=>wp_region_lit (aA (aB) (aA (wH rfl rfl) ?_)));simp only[zz];refine bC m eH rfl ?_;clear m; intro g8 u m;refine aA (aD) ?_;simp only[zz];refine aL m 0 rfl rfl rfl aO (cA rfl) rfl ?_;clear m; intro u m; simp only[zy,zx,aX,zF,zG,Nat.reduceAdd] at m;refine aC (k12 _ _ ?_);refine dN m 8 aN (by kernel_rfl) ?_;simp only[zy];refine aS (aB) ?_;simp only[zz];refine ql rfl (fun u m=>((m.b 0 rfl).full bK aO)) ?_;simp only[zz];refine gJ rfl rfl (pO) ?_;simp only[zz];refine ql rfl (fun u m=>((m.b 2 rfl).full aR aG)) ?_;simp only[zz];refine gJ rfl rfl (tM Bv.of ⟨Bw.up⟩) ?_;simp only[zz];refine ql rfl (fun u m=>((m.b 4 rfl).full eW bW)) ?_;simp only[zz];refine gJ rfl rfl (pP Bv.of Bv.of) (aS (aJ nE bW rfl rfl (by decide) (by decide) rfl) (dW ?_));clear m; intro u m;simp only[zz];refine aL m 1 rfl rfl rfl bW (cA rfl) rfl ?_;clear m; intro u m; simp only[zy,zx,aX,zF,zG,Nat.reduceAdd] at m;refine aC (k11 _ _ ?_);refine wp_region_lit (aA (bD (m:=0) (n:=1) (r:=1) rfl rfl (by decide)) (aA (aB) (aC (bF (aF fun K13 k13=>wp_region_lit (aA (cK (m:=1) (n:=3) rfl rfl (by decide)) (aC (k13 _ _ ?_))))))));refine aF fun K14 k14=>bX rfl (wp_skip (k14 _ _ ?_));refine aF fun K15 k15=>wp_block (aF fun K16 k16=>wp_region_lit (aA (aB) ?_));simp only[zz];refine aA (wI rfl rfl) ?_;simp only[zz];refine bC m eH rfl ?_;clear m; intro g9 u m;refine aA (aD) ?_;simp only[zz];refine aL m 0 rfl rfl rfl aO (cA rfl) rfl ?_;clear m; intro u m; simp only[zy,zx,aX,zF,zG,Nat.reduceAdd] at m;refine aC (k16 _ _ ?_);refine dN m 8 aN (by kernel_rfl) ?_;simp only[zy];refine aS (aB) ?_;simp only[zz];refine ql rfl (fun u m=>((m.b 0 rfl).full bK aO)) ?_;simp only[zz];refine gJ rfl rfl (pO) ?_;simp only[zz];refine ql rfl (fun u m=>((m.b 3 rfl).full aR aG)) ?_;simp only[zz];refine gJ rfl rfl (tM Bv.of ⟨Bw.up⟩) ?_;simp only[zz];refine ql rfl (fun u m=>((m.b 5 rfl).full eW bW)) ?_;simp only[zz];refine gJ rfl rfl (pP Bv.of Bv.of) (aS (aJ nE bW rfl rfl (by decide) (by decide) rfl) (dW ?_));clear m; intro u m;simp only[zz];refine aL m 2 rfl rfl rfl bW (cA rfl) rfl ?_;clear m; intro u m; simp only[zy,zx,aX,zF,zG,Nat.reduceAdd] at m;refine aC (k15 _ _ ?_);refine wp_region_lit (aA (bD (m:=1) (n:=1) (r:=2) rfl rfl (by decide)) (aA (aB) (aC (bF (aF fun K17 k17=>wp_region_lit (aA (cK (m:=2) (n:=3) rfl rfl (by decide)) (aC (k17 _ _ ?_))))))));refine aF fun K18 k18=>bX rfl (wp_skip (k18 _ _ ?_));refine aF fun K19 k19=>wp_block (aF fun K20 k20=>wp_region_lit (aA (aB) ?_));simp only[zz];refine aA (wJ rfl rfl) ?_;simp only[zz];refine bC m eH rfl ?_;clear m; intro g10 u m;refine aA (aD) ?_;simp only[zz];refine aL m 0 rfl rfl rfl aO (cA rfl) rfl ?_;clear m; intro u m; simp only[zy,zx,aX,zF,zG,Nat.reduceAdd] at m;refine aC (k20 _ _ ?_);refine dN m 8 aN (by kernel_rfl) ?_;simp only[zy];refine aS (aB) ?_;simp only[zz];refine ql rfl (fun u m=>((m.b 0 rfl).full bK aO)) ?_;simp only[zz];refine gJ rfl rfl (pO) ?_;simp only[zz];refine ql rfl (fun u m=>((m.b 4 rfl).full aR aG)) ?_;simp only[zz];refine gJ rfl rfl (tM Bv.of ⟨Bw.up⟩) ?_;simp only[zz];refine ql rfl (fun u m=>((m.b 6 rfl).full eW bW)) ?_;simp only[zz];refine gJ rfl rfl (pP Bv.of Bv.of) (aS (aJ nE bW rfl rfl (by decide) (by decide) rfl) (dW ?_));clear m; intro u m;simp only[zz];refine aL m 3 rfl rfl rfl bW (cA rfl) rfl ?_;clear m; intro u m; simp only[zy,zx,aX,zF,zG,Nat.reduceAdd] at m;refine aC (k19 _ _ ?_);refine wp_region_lit (aA (bD (m:=2) (n:=1) (r:=3) rfl rfl (by decide)) (aA (aB) (aC (bF (aF fun K21 k21=>wp_region_lit (aA (fA (m:=3) (n:=3) rfl rfl (by decide)) (aC (k21 _ _ ?_))))))));refine aF fun K22 k22=>eQ rfl (wp_exit (k7 _ _ ?_));refine aF fun K23 k23=>aF fun K24 k24=>wp_region_lit ?_;simp only[zz];refine aI rfl ((m.b 5 rfl).full eW bW) ?_;simp only[zz];refine aI rfl ((m.b 3 rfl).full Vc Nw) ?_;simp only[zz];refine aW m rfl rfl (Tn (d:=r.d) (a:=r.to t.a) (b:=r.to t.b) (c:=r.to t.c) Bv.of Bv.of Bv.of Bv.of) ?_;clear m; intro u m;refine aA (eT rfl) (aC (k24 _ _ ?_));simp only[zz];refine oZ rfl (fun hc3=>?_) (fun hc3=>?_)
   ·
    have hp : ¬ wN r.d (r.to t.a) (r.to t.b) (r.to t.c):=by simpa using hc3
    refine aF fun K25 k25=>wp_region_lit (aW m rfl rfl (gE) ?_);clear m; intro u m;simp only[zz];refine aL m 7 rfl rfl rfl aK (cA rfl) rfl ?_;clear m; intro u m; simp only[zy,zx,aX,zF,zG,Nat.reduceAdd] at m;refine aA (aD) (aC (k25 _ _ ?_));refine wp_ret ?_;simp only[zz];try simp only[Exit.inBlock,Exit.then,if_true]
    refine jL rfl ⟨_,rfl,((m.b 7 rfl).full bB aK)⟩ rfl ?_;try simp only[zD,zE]
    exact ⟨_,rfl,m.ext,dZ (fun h=>hp h.2.2.1)⟩
   ·
    have hp : wN r.d (r.to t.a) (r.to t.b) (r.to t.c):=by simpa using hc3
    refine wp_skip (k23 _ _ ?_);refine aF fun K26 k26=>wp_region_lit (aI rfl ((m.b 8 rfl).full mM fQ) ?_);simp only[zz];refine aW m rfl rfl (Sx) ?_;clear m; intro u m;simp only[zz];refine bC m jF rfl ?_;clear m; intro g11 u m;simp only[zz];refine aL m 0 rfl rfl rfl bW (cA rfl) rfl ?_;clear m; intro u m; simp only[zy,zx,aX,zF,zG,Nat.reduceAdd] at m;refine aC (k26 _ _ ?_);refine aF fun K27 k27=>wp_region_lit (aI rfl ((m.b 0 rfl).full eW bW) ?_);simp only[zz];refine aA (Ao) ?_;simp only[zz,List.map_toArray,List.map_cons,List.map_nil];refine aA (aD) (aC (k27 _ _ ?_));refine aF fun K28 k28=>?_;simp only[zz];refine eF 9 [0,1,2,3,4,5,6] [⟨7,14,35,[.bool false,.string ⟨#[]⟩]⟩,⟨8,15,35,[.bool false,.string ⟨#[]⟩]⟩] aN (by kernel_rfl) (al2 ⟨_,_,_,rfl,by kernel_rfl,_,cI,rfl⟩ ⟨_,_,_,rfl,by kernel_rfl,_,cI,rfl⟩) (ol:=?_) ?hol ?_
    case hol=>simp only[zw,zQ,zR]; try rfl
    intro u e; replace m:=m.ext' e; clear e;refine jH (aB) (jH (aJ nE bW rfl rfl (by decide) (by decide) rfl) ?_);simp only[zz];refine eM rfl (fun u e=>(((m.ext' e).b 4 rfl).lies eW bW rfl rfl)) ?_;simp only[zz,zy,Nat.zero_add,Nat.reduceAdd,Nat.reduceMul,Int.reduceToNat];refine eD rfl rfl (Lr (u:=t.normal) (v:=r.to t.a) Bv.of Bv.of) (jH (aB) ?_);simp only[zz];refine eM rfl (fun u e=>(((m.ext' e).b 6 rfl).full eW bW)) ?_;simp only[zz];refine eD rfl rfl (Lr (u:=t.normal) (v:=r.d) Bv.of Bv.of) (qA ?_);simp only[zz];refine mf2 m (by decide) ?_;clear m; intro g12 g13 u m;simp only[zJ,zK,zF,zG];refine aL m 1 rfl rfl rfl aG (cA rfl) rfl ?_;clear m; intro u m; simp only[zy,zx,aX,zF,zG,Nat.reduceAdd] at m;refine aL m 0 rfl rfl rfl aG (cA rfl) rfl ?_;clear m; intro u m; simp only[zy,zx,aX,zF,zG,Nat.reduceAdd] at m;refine aC (k28 _ _ ?_);refine aF fun K29 k29=>aF fun K30 k30=>?_;refine kG m [true,true,true,true,true,true,true,true,true,true,true,true,true] (.take 0 (.take 1 (.take 2 (.take 5 (.two 3 (.two 4 (.one 6 (.one 7 (.take 8 .nil))) 6 (.one 4 (.one 7 (.take 8 .nil)))) 6 (.one 3 (.one 4 (.one 7 (.take 8 .nil))))))))) aN (by kernel_rfl) (cW (fun _ _ _ _ _ h=>h)) ?_;clear m; intro u m;refine aV (by simp only[zw]; rfl) (cF rfl (fun u m=>((m.b 1 rfl).full aR aG)) ?_);simp only[zz];refine bA (aV (by simp only[zw]; rfl) (aY (Gg) (bA (aV (by simp only[zw]; rfl) ?_))));simp only[zz];refine cF rfl (fun u m=>((m.b 2 rfl).full eW bW)) ?_;simp only[zz];refine bA (aV (by simp only[zw]; rfl) (cF rfl (fun u m=>((m.b 0 rfl).full aR aG)) ?_));simp only[zz];refine bA ?_;refine gX (by simp only[zw]; rfl) (by simp only[zw]; rfl) ?_ ?_
    ·
     refine aW m rfl rfl (Ez (v:=t.normal) Bv.of) ?_;clear m; intro u m;refine aC (⟨m,?_⟩);simp only[zz];refine gX (by simp only[zw]; rfl) (by simp only[zw]; rfl) ?_ ?_
     ·
      refine aW m rfl rfl (sK (n:=xR r t) (v:=P3.sub ⟨0,0,0⟩ t.normal) Bw.up Bv.of) ?_;clear m; intro u m;refine aC (⟨m,?_⟩);refine bL (by simp only[zw]; rfl) ?_;simp only[zz];refine vF rfl ?_;intro u g14 e hg hB; replace m:=m.newB e hg hB; clear e hg hB;refine aC (⟨m.sel [false,true,true,true,true,true,true,true,true,true,true,true,true,true],?_⟩);refine bL (by simp only[zw]; rfl) ?_;simp only[zz];refine fU m rfl rfl (Hi (n:=rL r t) _ Bw.up (m.b 0 rfl)) ?_;clear m; rintro v u m rfl;refine aC (⟨m.sel [false,true,true,true,true,true,true,true,true,true,true,true,true,true],?_⟩);refine aV (by simp only[zw]; rfl) (aY (nB rfl rfl) (bA (eE (k30 _ _ ?_))));simp only[zz];refine cQ rfl (fun hc4=>?_) (fun hc4=>?_)
      ·
       refine aF fun K31 k31=>wp_region_lit (aW m rfl rfl (gE) ?_);clear m; intro u m;simp only[zz];refine aL m 11 rfl rfl rfl aK (cA rfl) rfl ?_;clear m; intro u m; simp only[zy,zx,aX,zF,zG,Nat.reduceAdd] at m;refine aA (aD) (aC (k31 _ _ ?_));refine wp_ret ?_;simp only[zz];try simp only[Exit.inBlock,Exit.then,if_true]
       refine jL rfl ⟨_,rfl,((m.b 11 rfl).full bB aK)⟩ rfl ?_;try simp only[zD,zE]
       exact ⟨_,rfl,m.ext,dZ (fun h=>hc4 h.2.2.2)⟩
      ·
       have hs0:=Decidable.not_not.1 hc4;have hs:=Cc hf hs0;refine wp_skip (k29 _ _ ?_);refine aF fun K32 k32=>?_;refine dN m 5 aN (by kernel_rfl) ?_;simp only[zy];refine ql rfl (fun u m=>((m.b 2 rfl).full aR aG)) ?_;simp only[zz];refine ql rfl (fun u m=>((m.b 8 rfl).full aR aG)) ?_;simp only[zz];refine ql rfl (fun u m=>((m.b 1 rfl).full aR aG)) ?_;simp only[zz];refine gJ rfl rfl (jY (a:=r.w) (b:=rL r t) Bw.up Bw.up) ?_;simp only[zz];refine gJ rfl rfl (mG (n:=xR r t) (d:=r.w * rL r t) Bw.up Bw.up (Jr hok hs)) (dW ?_);clear m; intro u m;simp only[zz];refine aL m 11 rfl rfl rfl aK (cA rfl) rfl ?_;clear m; intro u m; simp only[zy,zx,aX,zF,zG,Nat.reduceAdd] at m;refine aA (aD) (aC (k32 _ _ ?_));refine wp_ret ?_;simp only[zz];try simp only[Exit.inBlock,Exit.then,if_true]
       refine jL rfl ⟨_,rfl,((m.b 11 rfl).full bB aK)⟩ rfl ?_;try simp only[zD,zE]
       exact ⟨_,rfl,m.ext,kK ⟨hok,hf,hp,hs0⟩⟩
     ·
      refine vF rfl ?_;intro u g14 e hg hB; replace m:=m.newB e hg hB; clear e hg hB;refine aC (⟨m.sel [false,true,true,true,true,true,true,true,true,true,true,true,true,true],?_⟩);refine bL (by simp only[zw]; rfl) ?_;simp only[zz];refine aW m rfl rfl (sK (n:=xR r t) (v:=P3.sub ⟨0,0,0⟩ t.normal) Bw.up Bv.of) ?_;clear m; intro u m;refine aC (⟨m.sel [false,true,true,true,true,true,true,true,true,true,true,true,true,true],?_⟩);refine bL (by simp only[zw]; rfl) ?_;simp only[zz];refine fU m rfl rfl (Hi (n:=rL r t) _ Bw.up (m.b 0 rfl)) ?_;clear m; rintro v u m rfl;refine aC (⟨m.sel [false,true,true,true,true,true,true,true,true,true,true,true,true,true],?_⟩);refine aV (by simp only[zw]; rfl) (aY (nB rfl rfl) (bA (eE (k30 _ _ ?_))));simp only[zz];refine cQ rfl (fun hc4=>?_) (fun hc4=>?_)
      ·
       refine aF fun K33 k33=>wp_region_lit (aW m rfl rfl (gE) ?_);clear m; intro u m;simp only[zz];refine aL m 11 rfl rfl rfl aK (cA rfl) rfl ?_;clear m; intro u m; simp only[zy,zx,aX,zF,zG,Nat.reduceAdd] at m;refine aA (aD) (aC (k33 _ _ ?_));refine wp_ret ?_;simp only[zz];try simp only[Exit.inBlock,Exit.then,if_true]
       refine jL rfl ⟨_,rfl,((m.b 11 rfl).full bB aK)⟩ rfl ?_;try simp only[zD,zE]
       exact ⟨_,rfl,m.ext,dZ (fun h=>hc4 h.2.2.2)⟩
      ·
       have hs0:=Decidable.not_not.1 hc4;have hs:=Cc hf hs0;refine wp_skip (k29 _ _ ?_);refine aF fun K34 k34=>?_;refine dN m 5 aN (by kernel_rfl) ?_;simp only[zy];refine ql rfl (fun u m=>((m.b 2 rfl).full aR aG)) ?_;simp only[zz];refine ql rfl (fun u m=>((m.b 8 rfl).full aR aG)) ?_;simp only[zz];refine ql rfl (fun u m=>((m.b 1 rfl).full aR aG)) ?_;simp only[zz];refine gJ rfl rfl (jY (a:=r.w) (b:=rL r t) Bw.up Bw.up) ?_;simp only[zz];refine gJ rfl rfl (mG (n:=xR r t) (d:=r.w * rL r t) Bw.up Bw.up (Jr hok hs)) (dW ?_);clear m; intro u m;simp only[zz];refine aL m 11 rfl rfl rfl aK (cA rfl) rfl ?_;clear m; intro u m; simp only[zy,zx,aX,zF,zG,Nat.reduceAdd] at m;refine aA (aD) (aC (k34 _ _ ?_));refine wp_ret ?_;simp only[zz];try simp only[Exit.inBlock,Exit.then,if_true]
       refine jL rfl ⟨_,rfl,((m.b 11 rfl).full bB aK)⟩ rfl ?_;try simp only[zD,zE]
       exact ⟨_,rfl,m.ext,kK ⟨hok,hf,hp,hs0⟩⟩
    ·
     refine vF rfl ?_;intro u g14 e hg hB; replace m:=m.newB e hg hB; clear e hg hB;refine aC (⟨m.sel [false,true,true,true,true,true,true,true,true,true,true,true,true,true],?_⟩);refine bL (by simp only[zw]; rfl) ?_;simp only[zz];refine aW m rfl rfl (Ez (v:=t.normal) Bv.of) ?_;clear m; intro u m;refine aC (⟨m.sel [false,true,true,true,true,true,true,true,true,true,true,true,true,true],?_⟩);refine bL (by simp only[zw]; rfl) ?_;simp only[zz];refine aW m rfl rfl (sK (n:=xR r t) (v:=P3.sub ⟨0,0,0⟩ t.normal) Bw.up Bv.of) ?_;clear m; intro u m;refine aC (⟨m.sel [false,true,true,true,true,true,true,true,true,true,true,true,true,true],?_⟩);refine bL (by simp only[zw]; rfl) ?_;simp only[zz];refine fU m rfl rfl (Hi (n:=rL r t) _ Bw.up (m.b 0 rfl)) ?_;clear m; rintro v u m rfl;refine aC (⟨m.sel [false,true,true,true,true,true,true,true,true,true,true,true,true,true],?_⟩);refine aV (by simp only[zw]; rfl) (aY (nB rfl rfl) (bA (eE (k30 _ _ ?_))));simp only[zz];refine cQ rfl (fun hc4=>?_) (fun hc4=>?_)
     ·
      refine aF fun K35 k35=>wp_region_lit (aW m rfl rfl (gE) ?_);clear m; intro u m;simp only[zz];refine aL m 11 rfl rfl rfl aK (cA rfl) rfl ?_;clear m; intro u m; simp only[zy,zx,aX,zF,zG,Nat.reduceAdd] at m;refine aA (aD) (aC (k35 _ _ ?_));refine wp_ret ?_;simp only[zz];try simp only[Exit.inBlock,Exit.then,if_true]
      refine jL rfl ⟨_,rfl,((m.b 11 rfl).full bB aK)⟩ rfl ?_;try simp only[zD,zE]
      exact ⟨_,rfl,m.ext,dZ (fun h=>hc4 h.2.2.2)⟩
     ·
      have hs0:=Decidable.not_not.1 hc4;have hs:=Cc hf hs0;refine wp_skip (k29 _ _ ?_);refine aF fun K36 k36=>?_;refine dN m 5 aN (by kernel_rfl) ?_;simp only[zy];refine ql rfl (fun u m=>((m.b 2 rfl).full aR aG)) ?_;simp only[zz];refine ql rfl (fun u m=>((m.b 8 rfl).full aR aG)) ?_;simp only[zz];refine ql rfl (fun u m=>((m.b 1 rfl).full aR aG)) ?_;simp only[zz];refine gJ rfl rfl (jY (a:=r.w) (b:=rL r t) Bw.up Bw.up) ?_;simp only[zz];refine gJ rfl rfl (mG (n:=xR r t) (d:=r.w * rL r t) Bw.up Bw.up (Jr hok hs)) (dW ?_);clear m; intro u m;simp only[zz];refine aL m 11 rfl rfl rfl aK (cA rfl) rfl ?_;clear m; intro u m; simp only[zy,zx,aX,zF,zG,Nat.reduceAdd] at m;refine aA (aD) (aC (k36 _ _ ?_));refine wp_ret ?_;simp only[zz];try simp only[Exit.inBlock,Exit.then,if_true]
      refine jL rfl ⟨_,rfl,((m.b 11 rfl).full bB aK)⟩ rfl ?_;try simp only[zD,zE]
      exact ⟨_,rfl,m.ext,kK ⟨hok,hf,hp,hs0⟩⟩
 ·
  refine wp_region_lit (aI rfl ((m.b 2 rfl).full fB dJ) ?_);simp only[zz];refine aW m rfl rfl (Cm hok) ?_;clear m; intro u m;refine aA (eT rfl) (aA (aB) (bG rfl ?_));simp only[zz];refine bG rfl (aA (cG rfl) (aC (k3 _ _ ?_)));refine bX rfl (aF fun K37 k37=>wp_region_lit ?_);simp only[zz];refine aW m rfl rfl (gE) ?_;clear m; intro u m;simp only[zz];refine aL m 0 rfl rfl rfl aK (cA rfl) rfl ?_;clear m; intro u m; simp only[zy,zx,aX,zF,zG,Nat.reduceAdd] at m;refine aA (aD) (aC (k37 _ _ ?_));refine wp_ret ?_;simp only[zz];try simp only[Exit.inBlock,Exit.then,if_true]
  refine jL rfl ⟨_,rfl,((m.b 0 rfl).full bB aK)⟩ rfl ?_;try simp only[zD,zE]
  exact ⟨_,rfl,m.ext,dZ (tJ hok)⟩
end Go.Proofs.YtimjandkmfcmiaaGreatDoor
namespace Go.Proofs.YtimjandkmfcmiaaGreatDoor
open Tryz
open Go.RowKit Go.Lith
set_option maxRecDepth 100000
attribute [local irreducible] wpList wpQuiet eS dV eG Code.wp
def adv (h : Option (Rat × Nat)) : Go.Value:=.agg #[.bool (cN (lZ (h)).num),.string (cX (lZ (h)).num),.bool (cN ((lZ (h)).den : Int)),.string (cX ((lZ (h)).den : Int)),.int .i64 (aa4 (h) : Int)]
theorem aa7 (r : fY) (t : T3) (b : Option (Rat × Nat)) : ¬ iR r t ∨ (iR r t ∧ b = none) ∨ (iR r t ∧ ∃ q j,b = some (q,j)):=by
 by_cases h : iR r t
 ·
  cases b with
  | none=>exact .inr (.inl ⟨h,rfl⟩)
  | some x=>exact .inr (.inr ⟨h,x.1,x.2,rfl⟩)
 · exact .inl h
theorem Wq {r : fY} {t : T3} {b : Option (Rat × Nat)} {k : Nat} (h : ¬ iR r t) : Cd r b k t = b:=if_neg h
theorem Pr {r : fY} {t : T3} {k : Nat} (h : iR r t) : Cd r none k t = some (fR r t,k):=if_pos h
theorem Ws {r : fY} {t : T3} {k j : Nat} {q : Rat} (h : iR r t) (hq : fR r t < q) : Cd r (some (q,j)) k t = some (fR r t,k):=(if_pos h).trans (if_pos hq)
theorem Wt {r : fY} {t : T3} {k j : Nat} {q : Rat} (h : iR r t) (hq : ¬ fR r t < q) : Cd r (some (q,j)) k t = some (q,j):=(if_pos h).trans (if_neg hq)
theorem wT {r : fY} {t : T3} [IR r] [IT t] : Bq 400000 (fR r t):=by
 unfold fR;split
 ·
  rename_i h;exact (Bq.mk' (a:=262) (b:=262) Bw.up Bw.up (Jr h.1 (Cc h.2.1 h.2.2.2))).mono (by decide)
 · exact ⟨iY _,wK.mono (by decide)⟩
theorem Cn {r : fY} {ts : List T3} [IR r] (h : ∀ t ∈ ts,IT t) : Bq 400000 (lZ (bE r ts)):=by
 cases hb : bE r ts with
 | none=>exact ⟨iY _,wK.mono (by decide)⟩
 | some x =>
  obtain ⟨t,ht,_,e⟩:=Jl (q:=x.1) (k:=x.2) hb;haveI:=h t ht;show Bq 400000 x.1
  rw [← e];exact wT
theorem Lu {r : fY} {ts : List T3} [IR r] {N cap : Nat} {A : Option Addr} (w : World) (hT : dK w A N ts) (hN : N < 4611686018427387904) : iL prog 27 [lH r,.slice A N cap] w (fun v _=>v = .tuple #[adv (bE r ts),.bool (bE r ts).isSome]):=by
 refine ⟨abK,?_⟩;have m:=cR.refl w
 go_enter func27,ntmps27
 refine aF fun K1 k1=>wp_region_lit (cM m rfl ?_);clear m; intro g1 u m;simp only[zz];refine bC m pV rfl ?_;clear m; intro g2 u m;refine aA (aD) (aC (k1 _ _ ?_));refine aF fun K2 k2=>wp_region_lit ?_;simp only[zz];refine aW m rfl rfl (gE) ?_;clear m; intro u m;refine aA (vX rfl) ?_;simp only[zz];refine bC m pV rfl ?_;clear m; intro g3 u m;simp only[zz];refine aL m 0 rfl rfl rfl jE (cA rfl) rfl ?_;clear m; intro u m; simp only[zy,zx,aX,zF,zG,Nat.reduceAdd] at m;refine aA (aD) (aC (k2 _ _ ?_));refine aF fun K3 k3=>aF fun K4 k4=>wp_region_lit (aA (aB) (aA (bR rfl nC rfl) (aA (aB) ?_)));simp only[zz];refine aC (k4 _ _ ?_);refine wp_block ?_;try simp only[Nat.zero_add,Nat.reduceAdd,Nat.reduceMul,Int.reduceToNat]
 refine dI [7,16] [8,9,10,11,17,18,19,20,21,22,23,24,25,26,27,28,29,30,31,32,33,34,35,36,37,38,39,40,41,42] (fun n vs wl=>∃ (k : Nat) (b : Bool),vs = [.bool b,.int .i64 (k:Int)] ∧ cR w wl [bI g3 [.bool (cN (lZ (bE r (ts.take k))).num),.string (cX (lZ (bE r (ts.take k))).num),.bool (cN ((lZ (bE r (ts.take k))).den : Int)),.string (cX ((lZ (bE r (ts.take k))).den : Int)),.int .i64 (aa4 (bE r (ts.take k)) : Int)] 43,bI g2 [.bool false,.string ⟨#[]⟩,.bool false,.string ⟨#[]⟩,.int .i64 0] 43,bI g1 [.int .i64 r.s.x,.int .i64 r.s.y,.int .i64 r.s.z,.int .i64 r.w,.int .i64 r.d.x,.int .i64 r.d.y,.int .i64 r.d.z] 25] ∧ (b = (bE r (ts.take k)).isSome) ∧ (k ≤ N) ∧ (n = N - k)) ?_ ?_
 ·
  apply Exists.intro;simp only[zQ,zR,zD,zE];exact ⟨0,false,rfl,m,rfl,Nat.zero_le _,rfl⟩
 ·
  intro n vs wr hI u;clear m;obtain ⟨k,b,rfl,m,hb,hk,hn⟩:=hI;simp only[zv,zF,zG];refine aF fun K5 k5=>wp_region_lit (aA (eA rfl rfl) (aC (k5 _ _ ?_)));refine aF fun K6 k6=>?_;simp only[zz];refine cQ rfl (fun hc1=>?_) (fun hc1=>?_)
  ·
   obtain ⟨t,ht,hit,a,rfl,hrow⟩:=hT.get (i:=k) (by omega);refine wp_skip (k6 _ _ ?_);refine aF fun K7 k7=>wp_block (aF fun K8 k8=>wp_region_lit (aA (aB) ?_));simp only[zz];refine aA (aU nC fQ rfl rfl (by omega) (by omega) (wC (Int.toNat_natCast _))) ?_;simp only[zz];refine aI rfl (((hrow.ext m.ext)).lies mM fQ) ?_;simp only[zz];refine bC m Fv rfl ?_;clear m; intro g4 u m;refine aA (aD) ?_;simp only[zz];refine aL m 0 rfl rfl rfl fQ (cA rfl) rfl ?_;clear m; intro u m; simp only[zy,zx,aX,zF,zG,Nat.reduceAdd] at m;refine aC (k8 _ _ ?_);refine aF fun K9 k9=>wp_region_lit (aI rfl ((m.b 3 rfl).full fB dJ) ?_);simp only[zz];refine aI rfl ((m.b 0 rfl).full mM fQ) ?_;simp only[zz];refine aW m rfl rfl (Ls (t:=t)) ?_;clear m; intro u m;refine aA (aB) (aA (aT rfl rfl) (aA (aT rfl rfl) ?_));simp only[zz];refine bC m cD rfl ?_;clear m; intro g5 u m;simp only[zz];refine aL m 0 rfl rfl rfl aK (cA rfl) rfl ?_;clear m; intro u m; simp only[zy,zx,aX,zF,zG,Nat.reduceAdd] at m;refine aA (aD) (aC (k9 _ _ ?_));refine aF fun K10 k10=>?_;simp only[zz];rcases aa7 r t (bE r (ts.take k)) with hh | ⟨hh,hb1⟩ | ⟨hh,q,j,hb1⟩
   ·
    rw [decide_eq_false hh];have hq : bE r (ts.take (k + 1)) = bE r (ts.take k):=by rw [pK ht]; exact Wq hh
    refine wp_region_lit (aA (aB) (aA (aB) (bM rfl (bM rfl ?_))));simp only[zz];refine bM rfl (dM rfl (dM rfl (dM rfl ?_)));simp only[zz];refine dM rfl (dM rfl (bM rfl (aA (cO rfl) ?_)));simp only[zz];refine aC (k10 _ _ ?_);refine eQ rfl (wp_skip (k7 _ _ ?_));refine wp_region_lit (aA (bD rfl rfl (aQ (by omega) (by omega))) (aA (aB) (aC ?_)));simp only[zz];simp only[Exit.inBlock,Exit.then];refine ⟨N - (k + 1),_,?_,rfl,?_,?_⟩
    · omega
    · simp only[zz,zv]
    ·
     simp only[zQ,zR,zD,zE];exact ⟨k + 1,_,rfl,((m.re 2 rfl (by rw [hq]; exact (m.b 2 rfl))).sel [false,false,true,true,true]),by rw [hq]; first | rfl | exact hb,by omega,rfl⟩
   ·
    rw [decide_eq_true hh];obtain rfl : b = false:=by rw [hb,hb1]; rfl
    have hq : bE r (ts.take (k + 1)) = some (fR r t,k):=by rw [pK ht,hb1]; exact Pr hh
    refine wp_region_lit (aA (aB) (aA (aB) (aP rfl (aA (aB) (aP rfl (aA (eT rfl) ?_))))));simp only[zz];refine aP rfl (aA (aB) (bG rfl (bG rfl (bG rfl ?_))));simp only[zz];refine bG rfl (bG rfl (aP rfl (aA (cG rfl) (aA (cG rfl) ?_))));simp only[zz];refine aC (k10 _ _ ?_);refine bX rfl (wp_region_lit (aI rfl ((m.b 0 rfl).full bB aK) ?_));simp only[zz];refine aA (aB) (aA (mN rfl rfl) ?_);simp only[zz];refine aL m 2 rfl rfl rfl jE (cA rfl) rfl ?_;clear m; intro u m; simp only[zy,zx,aX,zF,zG,Nat.reduceAdd] at m;refine aA (aD) (aC (k7 _ _ ?_));refine wp_region_lit ?_;simp only[zz];refine aA (bD rfl rfl (aQ (by omega) (by omega))) (aA (aB) (aC ?_));simp only[zz];simp only[Exit.inBlock,Exit.then];refine ⟨N - (k + 1),_,?_,rfl,?_,?_⟩
    · omega
    · simp only[zz,zv]
    ·
     simp only[zQ,zR,zD,zE];exact ⟨k + 1,_,rfl,((m.re 2 rfl (by rw [hq]; exact (m.b 2 rfl))).sel [false,false,true,true,true]),by rw [hq]; first | rfl | exact hb,by omega,rfl⟩
   ·
    rw [decide_eq_true hh];obtain rfl : b = true:=by rw [hb,hb1]; rfl
    refine wp_region_lit (aA (aB) (aA (aB) (aP rfl (aA (aB) (aP rfl (aA (eT rfl) ?_))))));simp only[zz];refine aP rfl (aA (aB) (aP rfl ?_));simp only[zz];refine aI rfl ((m.b 0 rfl).full bB aK) ?_;simp only[zz];refine aP rfl (aA (aH (c:=3) qX rfl aK rfl rfl) (aP rfl ?_));simp only[zz];refine aI rfl ((m.b 2 rfl).lies bB aK rfl rfl) ?_;simp only[zz,zy,Nat.zero_add,Nat.reduceAdd,Nat.reduceMul,Int.reduceToNat];refine aP rfl (aW m rfl rfl (jW (p:=fR r t) (q:=lZ (bE r (ts.take k))) wT (Cn (fun u hu=>hT.it u (List.mem_of_mem_take hu)))) ?_);clear m; intro u m;refine aP rfl (aA (eA rfl rfl) (aP rfl (aA (cO rfl) (aA (cG rfl) ?_))));simp only[zz];refine aC (k10 _ _ ?_);refine cQ rfl (fun hc2=>?_) (fun hc2=>?_)
    ·
     have hq : bE r (ts.take (k + 1)) = some (fR r t,k):=by rw [pK ht,hb1]; exact Ws hh (by have:=gD.1 hc2; rwa [hb1] at this)
     refine wp_region_lit (aI rfl ((m.b 0 rfl).full bB aK) ?_);simp only[zz];refine aA (aB) (aA (mN rfl rfl) ?_);simp only[zz];refine aL m 2 rfl rfl rfl jE (cA rfl) rfl ?_;clear m; intro u m; simp only[zy,zx,aX,zF,zG,Nat.reduceAdd] at m;refine aA (aD) (aC (k7 _ _ ?_));refine wp_region_lit ?_;simp only[zz];refine aA (bD rfl rfl (aQ (by omega) (by omega))) (aA (aB) (aC ?_));simp only[zz];simp only[Exit.inBlock,Exit.then];refine ⟨N - (k + 1),_,?_,rfl,?_,?_⟩
     · omega
     · simp only[zz,zv]
     ·
      simp only[zQ,zR,zD,zE];exact ⟨k + 1,_,rfl,((m.re 2 rfl (by rw [hq]; exact (m.b 2 rfl))).sel [false,false,true,true,true]),by rw [hq]; first | rfl | exact hb,by omega,rfl⟩
    ·
     have hq : bE r (ts.take (k + 1)) = bE r (ts.take k):=by rw [pK ht,hb1]; exact Wt hh (by have:=mt gD.2 hc2; rwa [hb1] at this)
     refine wp_skip (k7 _ _ ?_);refine wp_region_lit (aA (bD rfl rfl (aQ (by omega) (by omega))) (aA (aB) (aC ?_)));simp only[zz];simp only[Exit.inBlock,Exit.then];refine ⟨N - (k + 1),_,?_,rfl,?_,?_⟩
     · omega
     · simp only[zz,zv]
     ·
      simp only[zQ,zR,zD,zE];exact ⟨k + 1,_,rfl,((m.re 2 rfl (by rw [hq]; exact (m.b 2 rfl))).sel [false,false,true,true,true]),by rw [hq]; first | rfl | exact hb,by omega,rfl⟩
  ·
   have e : ts.take k = ts:=List.take_of_length_le (by rw [hT.len]; omega);simp only[e] at m hb;refine wp_exit (k3 _ _ ?_);refine aF fun K11 k11=>wp_region_lit (aI rfl ((m.b 0 rfl).full Fu jE) ?_);simp only[zz];refine aA (aB) ?_;simp only[zz];refine aL m 1 rfl rfl rfl jE (cA rfl) rfl ?_;clear m; intro u m; simp only[zy,zx,aX,zF,zG,Nat.reduceAdd] at m;refine aA (aD) (aC (k11 _ _ ?_));refine wp_ret ?_;simp only[zz];try simp only[Exit.inBlock,Exit.then,if_true]
   refine jL rfl ⟨_,rfl,((m.b 1 rfl).full Fu jE)⟩ rfl ?_;try simp only[zD,zE]
   exact ⟨_,rfl,m.ext,by rw [hb]; rfl⟩
end Go.Proofs.YtimjandkmfcmiaaGreatDoor
namespace Go.Proofs.YtimjandkmfcmiaaGreatDoor
open Tryz
open Go.RowKit Go.Lith
set_option maxRecDepth 100000
attribute [local irreducible] wpList wpQuiet eS dV eG Code.wp
def Wu : Option (Rat × Rat) → Go.Value
 | none=>.tuple #[Q 0,Q 0,.bool false]
 | some (p,q)=>.tuple #[Q p,Q q,.bool true]
def Co : Option Rat → List Go.Value
 | none=>[.bool false,.string ⟨#[]⟩,.bool false,.string ⟨#[]⟩]
 | some q=>[.bool (cN (q).num),.string (cX (q).num),.bool (cN ((q).den : Int)),.string (cX ((q).den : Int))]
theorem To (o : Option Rat) : ∃ c0 c1 c2 c3,Co o = [c0,c1,c2,c3]:=by
 cases o <;> exact ⟨_,_,_,_,rfl⟩
theorem Hk {r : fY} {d : Int} (hok : r.ok) (h : d ≠ 0) : r.w * d ≠ 0:=fun e=>by
 rcases Int.mul_eq_zero.1 e with e | e
 ·
  have:=hok.1;omega
 · exact h e
theorem Hl {r : fY} {lo hi : P3} {k : Nat} {st : Rat × Option Rat} (hk : k < 3) (h : xD r lo hi k = some st) (ho : lN ((r.to lo).at k) ((r.to hi).at k) (r.d.at k)) : nH r lo hi = none:=by
 have h1 : xD r lo hi (k + 1) = none:=by rw [xD,h,Option.bind_some,Yk,if_pos ho]
 have up : ∀ j,xD r lo hi (k + 1 + j) = none:=by
  intro j
  induction j with
  | zero=>exact h1
  | succ j ih=>rw [← Nat.add_assoc,xD,ih]; rfl
 have h3 : xD r lo hi 3 = none:=by have:=up (3 - (k + 1)); rwa [show k + 1 + (3 - (k + 1)) = 3 by omega] at this
 unfold nH;rw [h3];split <;> rfl
theorem Tp {r : fY} {lo hi : P3} {k : Nat} {st : Rat × Option Rat} (h : xD r lo hi k = some st) (ho : ¬ lN ((r.to lo).at k) ((r.to hi).at k) (r.d.at k)) (hd : r.d.at k = 0) : xD r lo hi (k + 1) = some st:=by
 rw [xD,h,Option.bind_some,Yk,if_neg ho,if_pos hd]
theorem Tq {r : fY} {lo hi : P3} {k : Nat} {st : Rat × Option Rat} (h : xD r lo hi k = some st) (ho : ¬ lN ((r.to lo).at k) ((r.to hi).at k) (r.d.at k)) (hd : ¬ r.d.at k = 0) :
 xD r lo hi (k + 1) = some (xU st.1 (Dv r ((r.to lo).at k) ((r.to hi).at k) (r.d.at k)),some (qP st.2 (Ci r ((r.to lo).at k) ((r.to hi).at k) (r.d.at k)))):=by
 rw [xD,h,Option.bind_some,Yk,if_neg ho,if_neg hd]
def BqO (o : Option Rat) : Prop:=∀ q,o = some q → Bq 400000 q
theorem jI {q : Rat} (h : Bq 400000 q) : BqO (some q):=fun p e=>by cases e; exact h
theorem yQ {r : fY} {n d : Int} [IR r] (hn : Bd 129 n) (hd : Bd 64 d) (h : d ≠ 0) (hok : r.ok) : Bq 400000 (Rat.divInt n (r.w * d)) :=
 haveI : Bw 129 n:=⟨hn⟩
 haveI : Bw 64 d:=⟨hd⟩
 (Bq.mk' (a:=129) (b:=200) Bw.up Bw.up (fun e=>by
  rcases Int.mul_eq_zero.1 e with e | e
  · have:=hok.1; omega
  · exact h e)).mono (by decide)
theorem aa8 {p q : Rat} (hp : Bq 400000 p) (hq : Bq 400000 q) : Bq 400000 (xU p q):=by
 unfold xU;split
 · exact hq
 · exact hp
theorem aa9 {o : Option Rat} {q : Rat} (ho : BqO o) (hq : Bq 400000 q) : Bq 400000 (qP o q):=by
 unfold qP;split
 · exact hq
 ·
  split
  · exact hq
  · exact ho _ rfl
theorem Tr {r : fY} {lo hi : P3} {k : Nat} {st : Rat × Option Rat} (h : xD r lo hi k = some st) (hd : ∃ j,j < k ∧ ¬ r.d.at j = 0) : st.2.isSome = true:=by
 induction k generalizing st with
 | zero=>obtain ⟨j,hj,_⟩:=hd; omega
 | succ k ih =>
  rw [xD] at h;obtain ⟨s,hs,e⟩:=Option.bind_eq_some_iff.1 h;unfold Yk at e;split at e
  · cases e
  ·
   split at e
   ·
    rename_i h0;cases e;obtain ⟨j,hj,hn⟩:=hd;refine ih hs ⟨j,?_,hn⟩;rcases Nat.lt_or_ge j k with h | h
    · exact h
    ·
     have : j = k:=by omega
     subst this; exact absurd h0 hn
   · cases e; rfl
theorem Wv {r : fY} {lo hi : P3} {st : Rat × Option Rat} (hok : r.ok) (h : xD r lo hi 3 = some st) : ∃ q,st.2 = some q:=by
 refine Option.isSome_iff_exists.1 (Tr h ?_);by_cases hx : r.d.x = 0
 ·
  by_cases hy : r.d.y = 0
  · exact ⟨2,by decide,fun hz=>hok.2 ⟨hx,hy,hz⟩⟩
  · exact ⟨1,by decide,hy⟩
 · exact ⟨0,by decide,hx⟩
theorem Ww {r : fY} {lo hi : P3} {p q : Rat} (hok : r.ok) (h : xD r lo hi 3 = some (p,some q)) : nH r lo hi = if q < p then none else some (p,q):=by
 rw [nH,if_pos hok,h,Option.bind_some]
theorem adw (n f d : Int) : f < n ∨ (¬ f < n ∧ d = 0 ∧ 0 < n) ∨ (¬ f < n ∧ d = 0 ∧ ¬ 0 < n ∧ f < 0) ∨ (¬ f < n ∧ d = 0 ∧ ¬ 0 < n ∧ ¬ f < 0) ∨ (¬ f < n ∧ d < 0) ∨ (¬ f < n ∧ 0 < d):=by omega
theorem k3 {k : Nat} (h : k < 3) : k = 0 ∨ k = 1 ∨ k = 2:=by omega
instance {b k : Nat} {v : P3} [h : Bv b v] : Bw b (v.at k):=⟨by unfold P3.at; split; exact h.x; exact h.y; exact h.z⟩
instance {k : Nat} {v : P3} [h : I3 v] : Iw (v.at k):=⟨by unfold P3.at; split; exact h.x; exact h.y; exact h.z⟩
theorem at3 (v : P3) {k : Nat} (h : k < 3) : (#[Go.Value.int .i64 v.x,.int .i64 v.y,.int .i64 v.z] : Array Go.Value)[((k : Nat) : Int).toNat * 1]? = some (.int .i64 (v.at k)):=by
 rcases k3 h with rfl | rfl | rfl <;> rfl
theorem Ng {w : World} {g k : Nat} {v : P3} (hB : fW w g [.bool (cN (v).x),.string (cX (v).x),.bool (cN (v).y),.string (cX (v).y),.bool (cN (v).z),.string (cX (v).z)] 108) (h : k < 3) : qT prog w 35 ⟨g,k * 2,none⟩ (W (v.at k)):=by
 rcases k3 h with rfl | rfl | rfl
 · exact hB.lies (i:=0) aR aG rfl rfl
 · exact hB.lies (i:=2) aR aG rfl rfl
 · exact hB.lies (i:=4) aR aG rfl rfl
theorem Ts {r : fY} {lo hi : P3} [IR r] [I3 lo] [I3 hi] : dP prog 45 [lH r,pt lo,pt hi] (Wu (nH r lo hi)):=by
 intro w;refine ⟨ab1,?_⟩;have m:=cR.refl w
 go_enter func45,ntmps45
 refine aF fun K1 k1=>wp_region_lit (cM m rfl ?_);clear m; intro g1 u m;simp only[zz];refine cM m rfl ?_;clear m; intro g2 u m;simp only[zz];refine cM m rfl ?_;clear m; intro g3 u m;simp only[zz];refine bC m cD rfl ?_;clear m; intro g4 u m;simp only[zz];refine bC m cD rfl ?_;clear m; intro g5 u m;refine aA (aD) (aC (k1 _ _ ?_));refine aF fun K2 k2=>aF fun K3 k3=>?_;simp only[zz];rcases Decidable.em r.ok with hok | hok
 ·
  refine wp_region_lit (aI rfl ((m.b 4 rfl).full fB dJ) ?_);simp only[zz];refine aW m rfl rfl (Cl hok) ?_;clear m; intro u m;refine aA (eT rfl) (aC (k3 _ _ ?_));refine eQ rfl (wp_skip (k2 _ _ ?_));refine aF fun K4 k4=>?_;simp only[zz];refine eF 12 [0,1,2,3,4,5,6,7,8,9] [⟨10,9,108,[.bool false,.string ⟨#[]⟩,.bool false,.string ⟨#[]⟩,.bool false,.string ⟨#[]⟩]⟩,⟨11,10,35,[.bool false,.string ⟨#[]⟩]⟩] aN (by kernel_rfl) (al2 ⟨_,_,_,rfl,by kernel_rfl,_,jF,rfl⟩ ⟨_,_,_,rfl,by kernel_rfl,_,cI,rfl⟩) (ol:=?_) ?hol ?_
  case hol=>simp only[zw,zQ,zR]; try rfl
  intro u e; replace m:=m.ext' e; clear e;refine jH (aH (c:=0) fC rfl aM rfl rfl) ?_;simp only[zz];refine eM rfl (fun u e=>(((m.ext' e).b 4 rfl).lies1 aZ rfl)) ?_;simp only[zz];refine jH (aH (c:=0) fC rfl aM rfl rfl) ?_;simp only[zz];refine eM rfl (fun u e=>(((m.ext' e).b 4 rfl).lies1 aZ rfl)) ?_;simp only[zz];refine jH (aH (c:=0) fC rfl aM rfl rfl) ?_;simp only[zz];refine eM rfl (fun u e=>(((m.ext' e).b 4 rfl).lies1 aZ rfl)) ?_;simp only[zz];refine eD rfl rfl (Wn) (jH (aH (c:=0) fC rfl aM rfl rfl) ?_);simp only[zz];refine eM rfl (fun u e=>(((m.ext' e).b 4 rfl).lies1 aZ rfl)) ?_;simp only[zz];refine eD rfl rfl (lG Iw.h) (qA ?_);simp only[zz];refine mf2 m (by decide) ?_;clear m; intro g6 g7 u m;simp only[zJ,zK,zF,zG];refine aL m 1 rfl rfl rfl bW (cA rfl) rfl ?_;clear m; intro u m; simp only[zy,zx,aX,zF,zG,Nat.reduceAdd] at m;refine aL m 0 rfl rfl rfl aG (cA rfl) rfl ?_;clear m; intro u m; simp only[zy,zx,aX,zF,zG,Nat.reduceAdd] at m;refine aC (k4 _ _ ?_);refine aF fun K5 k5=>?_;refine eF 14 [0,1,2,3,4,5,6,7,8,9,10,11] [⟨12,11,108,[.bool false,.string ⟨#[]⟩,.bool false,.string ⟨#[]⟩,.bool false,.string ⟨#[]⟩]⟩,⟨13,12,108,[.bool false,.string ⟨#[]⟩,.bool false,.string ⟨#[]⟩,.bool false,.string ⟨#[]⟩]⟩] aN (by kernel_rfl) (al2 ⟨_,_,_,rfl,by kernel_rfl,_,jF,rfl⟩ ⟨_,_,_,rfl,by kernel_rfl,_,jF,rfl⟩) (ol:=?_) ?hol ?_
  case hol=>simp only[zw,zQ,zR]; try rfl
  intro u e; replace m:=m.ext' e; clear e;refine eM rfl (fun u e=>(((m.ext' e).b 5 rfl).full bK aO)) ?_;simp only[zz];refine eD rfl rfl (pO) ?_;simp only[zz];refine eM rfl (fun u e=>(((m.ext' e).b 0 rfl).full aR aG)) ?_;simp only[zz];refine eD rfl rfl (tM Bv.of ⟨Bw.up⟩) ?_;simp only[zz];refine eM rfl (fun u e=>(((m.ext' e).b 1 rfl).full eW bW)) ?_;simp only[zz];refine eD rfl rfl (pP Bv.of Bv.of) ?_;simp only[zz];refine eM rfl (fun u e=>(((m.ext' e).b 4 rfl).full bK aO)) ?_;simp only[zz];refine eD rfl rfl (pO) ?_;simp only[zz];refine eM rfl (fun u e=>(((m.ext' e).b 0 rfl).full aR aG)) ?_;simp only[zz];refine eD rfl rfl (tM Bv.of ⟨Bw.up⟩) ?_;simp only[zz];refine eM rfl (fun u e=>(((m.ext' e).b 1 rfl).full eW bW)) ?_;simp only[zz];refine eD rfl rfl (pP Bv.of Bv.of) (qA ?_);simp only[zz];refine mf2 m (by decide) ?_;clear m; intro g8 g9 u m;simp only[zJ,zK,zF,zG];refine aL m 1 rfl rfl rfl bW (cA rfl) rfl ?_;clear m; intro u m; simp only[zy,zx,aX,zF,zG,Nat.reduceAdd] at m;refine aL m 0 rfl rfl rfl bW (cA rfl) rfl ?_;clear m; intro u m; simp only[zy,zx,aX,zF,zG,Nat.reduceAdd] at m;refine aC (k5 _ _ ?_);refine aF fun K6 k6=>wp_region_lit (aW m rfl rfl (gE) ?_);clear m; intro u m;simp only[zz];refine aL m 5 rfl rfl rfl aK (cA rfl) rfl ?_;clear m; intro u m; simp only[zy,zx,aX,zF,zG,Nat.reduceAdd] at m;refine aA (aD) (aC (k6 _ _ ?_));refine aF fun K7 k7=>aF fun K8 k8=>wp_region_lit (aA (aH (c:=2) fC rfl cS rfl rfl) ?_);simp only[zz];refine aI rfl ((m.b 8 rfl).lies lW cS rfl rfl) ?_;simp only[zz,zy,Nat.zero_add,Nat.reduceAdd,Nat.reduceMul,Int.reduceToNat];refine aA (aB) (aC (k8 _ _ ?_));refine wp_block ?_;simp only[zz];try simp only[Nat.zero_add,Nat.reduceAdd,Nat.reduceMul,Int.reduceToNat]
  refine dI [13,51] [8,14,15,16,17,18,19,20,52,53,54,55,56,57,58,59,60,61,62,63,64,65,66,67,68,69,70,71,72,73,74,75,76,77,78,79,80,81,82,83,84,85,86,87,88,89,90,91,92,93,94,95,96,97,98,99,100,101,102,103,104,105,106,107,108,109,110,111,112] (fun n vs wl=>∃ (k : Nat) (p : Rat) (o : Option Rat) (bb : Bool),vs = [.bool bb,.int .i64 (k:Int)] ∧ cR w wl [bI g9 [.bool (cN ((r.to hi)).x),.string (cX ((r.to hi)).x),.bool (cN ((r.to hi)).y),.string (cX ((r.to hi)).y),.bool (cN ((r.to hi)).z),.string (cX ((r.to hi)).z)] 108,bI g8 [.bool (cN ((r.to lo)).x),.string (cX ((r.to lo)).x),.bool (cN ((r.to lo)).y),.string (cX ((r.to lo)).y),.bool (cN ((r.to lo)).z),.string (cX ((r.to lo)).z)] 108,bI g7 [.bool (cN r.w),.string (cX r.w)] 35,bI g6 [.bool (cN (r.s).x),.string (cX (r.s).x),.bool (cN (r.s).y),.string (cX (r.s).y),.bool (cN (r.s).z),.string (cX (r.s).z)] 108,bI g5 (Co o) 37,bI g4 [.bool (cN (p).num),.string (cX (p).num),.bool (cN ((p).den : Int)),.string (cX ((p).den : Int))] 37,bI g3 [.int .i64 hi.x,.int .i64 hi.y,.int .i64 hi.z] 56,bI g2 [.int .i64 lo.x,.int .i64 lo.y,.int .i64 lo.z] 56,bI g1 [.int .i64 r.s.x,.int .i64 r.s.y,.int .i64 r.s.z,.int .i64 r.w,.int .i64 r.d.x,.int .i64 r.d.y,.int .i64 r.d.z] 25] ∧ (xD r lo hi k = some (p,o)) ∧ (bb = o.isSome) ∧ (Bq 400000 p) ∧ (BqO o) ∧ (k ≤ 3) ∧ (n = 3 - k)) ?_ ?_
  ·
   apply Exists.intro;simp only[zQ,zR,zD,zE];exact ⟨0,0,none,false,rfl,m,rfl,rfl,⟨iY _,wK.mono (by decide)⟩,(fun q h=>by cases h),Nat.zero_le _,rfl⟩
  ·
   intro n vs wr hI u;clear m;obtain ⟨k,p,o,bb,rfl,m,ha,hbb,hbp,hbo,hk,hn⟩:=hI;simp only[zv,zF,zG];refine aF fun K9 k9=>wp_region_lit (aA (eA rfl rfl) (aC (k9 _ _ ?_)));refine aF fun K10 k10=>?_;simp only[zz];refine cQ rfl (fun hc2=>?_) (fun hc2=>?_)
   ·
    have hk3 : k < 3:=by omega
    let kN : Nat:=k + 1
    let kM : Nat:=2 - k
    have hlt : kM < n:=by show 2 - k < n; omega
    refine wp_skip (k10 _ _ ?_);refine aF fun K11 k11=>wp_block (aF fun K12 k12=>wp_region_lit (aA (aB) (aA (lI eU aZ aM rfl rfl (Int.natCast_nonneg _) (by omega) (at3 r.d hk3)) (aA (aD) (aA (aD) ?_)))));simp only[zz];refine aC (k12 _ _ ?_);refine aF fun K13 k13=>?_;apply acW m (T1:=35) (T2:=35)
    ·
     refine kG m [true,true,true,true,true,true,true,true,true] (.take 0 (.take 1 (.take 2 (.take 3 (.take 4 (.take 5 (.two 6 (.one 7 (.one 8 (.one 9 .nil))) 7 (.one 6 (.one 8 (.one 9 .nil)))))))))) aN (by kernel_rfl) (fun _ _ _ _ _ h=>by cases h.1) ?_;intro u m;refine aV (by simp only[zw]; rfl) (aY (aB) (bA (aV (by simp only[zw]; rfl) ?_)));simp only[zz];refine aY (aJ eN aG rfl rfl (by omega) (by omega) (xL (Int.toNat_natCast _))) (bA (aV (by simp only[zw]; rfl) ?_));simp only[zz];refine cF rfl (fun u m=>(Ng (m.b 1 rfl) hk3)) ?_;simp only[zz];refine bA (aV (by simp only[zw]; rfl) (aY (aB) (bA (aV (by simp only[zw]; rfl) ?_))));simp only[zz];refine aY (aJ eN aG rfl rfl (by omega) (by omega) (xL (Int.toNat_natCast _))) (bA (aV (by simp only[zw]; rfl) ?_));simp only[zz];refine cF rfl (fun u m=>(Ng (m.b 0 rfl) hk3)) ?_;simp only[zz];refine bA ?_;refine gX (by simp only[zw]; rfl) (by simp only[zw]; rfl) ?_ ?_
     ·
      refine bC m cI rfl ?_;clear m; intro g10 u m;refine aC (⟨m.sel [false,true,true,true,true,true,true,true,true,true],?_⟩);refine bL (by simp only[zw]; rfl) ?_;simp only[zz];refine bC m cI rfl ?_;clear m; intro g11 u m;refine aC (⟨m.sel [false,false,true,true,true,true,true,true,true,true,true],?_⟩);refine bL (by simp only[zw]; rfl) ?_;simp only[zz];refine aL m 1 rfl rfl rfl aG (cA rfl) rfl ?_;clear m; intro u m; simp only[zy,zx,aX,zF,zG,Nat.reduceAdd] at m;refine aC (⟨m.sel [false,false,true,true,true,true,true,true,true,true,true],?_⟩);refine bL (by simp only[zw]; rfl) (aL m 0 rfl rfl rfl aG (cA rfl) rfl ?_);clear m; intro u m; simp only[zy,zx,aX,zF,zG,Nat.reduceAdd] at m;refine aC (⟨m.sel [false,false,true,true,true,true,true,true,true,true,true],?_⟩);exact eE (⟨rfl,g10,g11,rfl,m⟩)
     ·
      refine bC m cI rfl ?_;clear m; intro g10 u m;refine aC (⟨m.sel [false,true,true,true,true,true,true,true,true,true],?_⟩);refine bL (by simp only[zw]; rfl) ?_;simp only[zz];refine bC m cI rfl ?_;clear m; intro g11 u m;refine aC (⟨m.sel [false,false,true,true,true,true,true,true,true,true,true],?_⟩);refine bL (by simp only[zw]; rfl) ?_;simp only[zz];refine aL m 0 rfl rfl rfl aG (cA rfl) rfl ?_;clear m; intro u m; simp only[zy,zx,aX,zF,zG,Nat.reduceAdd] at m;refine aC (⟨m.sel [false,false,true,true,true,true,true,true,true,true,true],?_⟩);refine bL (by simp only[zw]; rfl) (aL m 1 rfl rfl rfl aG (cA rfl) rfl ?_);clear m; intro u m; simp only[zy,zx,aX,zF,zG,Nat.reduceAdd] at m;refine aC (⟨m.sel [false,false,true,true,true,true,true,true,true,true,true],?_⟩);exact eE (⟨rfl,g11,g10,rfl,m.s01⟩)
    intro g10 g11 u m;try dsimp only
    refine k13 _ _ ?_;refine aF fun K14 k14=>wp_block (aF fun K15 k15=>aF fun K16 k16=>?_);rcases adw ((r.to lo).at k) ((r.to hi).at k) (r.d.at k) with ho | ho | ho | ho | ho | ho
    ·
     have hbx:=Hl (k:=k) hk3 ha (show lN ((r.to lo).at k) ((r.to hi).at k) (r.d.at k) by unfold lN; omega);obtain ⟨c0,c1,c2,c3,hl4⟩:=To o;rw [hl4] at m;refine wp_region_lit (aI rfl ((m.b 1 rfl).full aR aG) ?_);simp only[zz];refine aI rfl ((m.b 0 rfl).full aR aG) ?_;simp only[zz];refine aW m rfl rfl (Bx (a:=(r.to lo).at k) (b:=(r.to hi).at k) Bw.up Bw.up) ?_;clear m; intro u m;refine aA (kT rfl rfl (by rw [mX]; omega)) (aA (aD) (aC (k16 _ _ ?_)));refine bX rfl (wp_skip (k15 _ _ ?_));refine bX rfl (aF fun K17 k17=>wp_region_lit ?_);simp only[zz];refine aW m rfl rfl (gE) ?_;clear m; intro u m;simp only[zz];refine aW m rfl rfl (gE) ?_;clear m; intro u m;simp only[zz];refine aL m 7 rfl rfl rfl aK (cA rfl) rfl ?_;clear m; intro u m; simp only[zy,zx,aX,zF,zG,Nat.reduceAdd] at m;refine aL m 6 rfl rfl rfl aK (cA rfl) rfl ?_;clear m; intro u m; simp only[zy,zx,aX,zF,zG,Nat.reduceAdd] at m;refine aA (aD) (aC (k17 _ _ ?_));refine wp_ret ?_;simp only[zz];try simp only[Exit.inBlock,Exit.then,if_true]
     refine oJ rfl ⟨_,rfl,((m.b 7 rfl).full bB aK)⟩ ⟨_,rfl,((m.b 6 rfl).full bB aK)⟩ rfl ?_;try simp only[zD,zE]
     exact ⟨_,rfl,m.ext,by rw [hbx]; rfl⟩
    ·
     have hbx:=Hl (k:=k) hk3 ha (show lN ((r.to lo).at k) ((r.to hi).at k) (r.d.at k) by unfold lN; omega);obtain ⟨c0,c1,c2,c3,hl4⟩:=To o;rw [hl4] at m;refine wp_region_lit (aI rfl ((m.b 1 rfl).full aR aG) ?_);simp only[zz];refine aI rfl ((m.b 0 rfl).full aR aG) ?_;simp only[zz];refine aW m rfl rfl (Bx (a:=(r.to lo).at k) (b:=(r.to hi).at k) Bw.up Bw.up) ?_;clear m; intro u m;refine aA (jZ rfl rfl (by rw [mX]; omega)) (aA (aD) (aC (k16 _ _ ?_)));refine eQ rfl (wp_region_lit (aA (aB) ?_));simp only[zz];refine aA (nD rfl rfl (by omega)) (aA (aB) (aP rfl ?_));simp only[zz];refine aI rfl ((m.b 1 rfl).full aR aG) ?_;simp only[zz];refine aP rfl (aW m rfl rfl (lF (a:=(r.to lo).at k) Bw.up) ?_);clear m; intro u m;refine aP rfl (aA (kT rfl rfl (by rw [mX]; omega)) (aP rfl (aA (aB) (bG rfl ?_))));simp only[zz];refine bG rfl (bG rfl (aP rfl (aA (cG rfl) (aA (cG rfl) ?_))));simp only[zz];refine aA (aD) (aC (k15 _ _ ?_));refine bX rfl (aF fun K18 k18=>wp_region_lit ?_);simp only[zz];refine aW m rfl rfl (gE) ?_;clear m; intro u m;simp only[zz];refine aW m rfl rfl (gE) ?_;clear m; intro u m;simp only[zz];refine aL m 7 rfl rfl rfl aK (cA rfl) rfl ?_;clear m; intro u m; simp only[zy,zx,aX,zF,zG,Nat.reduceAdd] at m;refine aL m 6 rfl rfl rfl aK (cA rfl) rfl ?_;clear m; intro u m; simp only[zy,zx,aX,zF,zG,Nat.reduceAdd] at m;refine aA (aD) (aC (k18 _ _ ?_));refine wp_ret ?_;simp only[zz];try simp only[Exit.inBlock,Exit.then,if_true]
     refine oJ rfl ⟨_,rfl,((m.b 7 rfl).full bB aK)⟩ ⟨_,rfl,((m.b 6 rfl).full bB aK)⟩ rfl ?_;try simp only[zD,zE]
     exact ⟨_,rfl,m.ext,by rw [hbx]; rfl⟩
    ·
     have hbx:=Hl (k:=k) hk3 ha (show lN ((r.to lo).at k) ((r.to hi).at k) (r.d.at k) by unfold lN; omega);obtain ⟨c0,c1,c2,c3,hl4⟩:=To o;rw [hl4] at m;refine wp_region_lit (aI rfl ((m.b 1 rfl).full aR aG) ?_);simp only[zz];refine aI rfl ((m.b 0 rfl).full aR aG) ?_;simp only[zz];refine aW m rfl rfl (Bx (a:=(r.to lo).at k) (b:=(r.to hi).at k) Bw.up Bw.up) ?_;clear m; intro u m;refine aA (jZ rfl rfl (by rw [mX]; omega)) (aA (aD) (aC (k16 _ _ ?_)));refine eQ rfl (wp_region_lit (aA (aB) ?_));simp only[zz];refine aA (nD rfl rfl (by omega)) (aA (aB) (aP rfl ?_));simp only[zz];refine aI rfl ((m.b 1 rfl).full aR aG) ?_;simp only[zz];refine aP rfl (aW m rfl rfl (lF (a:=(r.to lo).at k) Bw.up) ?_);clear m; intro u m;refine aP rfl (aA (jZ rfl rfl (by rw [mX]; omega)) (aP rfl (aA (aB) (aP rfl ?_))));simp only[zz];refine aI rfl ((m.b 0 rfl).full aR aG) ?_;simp only[zz];refine aP rfl (aW m rfl rfl (lF (a:=(r.to hi).at k) Bw.up) ?_);clear m; intro u m;refine aP rfl (aA (cK rfl rfl (by rw [mF (by omega)]; decide)) (aP rfl (aA (cO rfl) (aA (cG rfl) ?_))));simp only[zz];refine aA (aD) (aC (k15 _ _ ?_));refine bX rfl (aF fun K19 k19=>wp_region_lit ?_);simp only[zz];refine aW m rfl rfl (gE) ?_;clear m; intro u m;simp only[zz];refine aW m rfl rfl (gE) ?_;clear m; intro u m;simp only[zz];refine aL m 7 rfl rfl rfl aK (cA rfl) rfl ?_;clear m; intro u m; simp only[zy,zx,aX,zF,zG,Nat.reduceAdd] at m;refine aL m 6 rfl rfl rfl aK (cA rfl) rfl ?_;clear m; intro u m; simp only[zy,zx,aX,zF,zG,Nat.reduceAdd] at m;refine aA (aD) (aC (k19 _ _ ?_));refine wp_ret ?_;simp only[zz];try simp only[Exit.inBlock,Exit.then,if_true]
     refine oJ rfl ⟨_,rfl,((m.b 7 rfl).full bB aK)⟩ ⟨_,rfl,((m.b 6 rfl).full bB aK)⟩ rfl ?_;try simp only[zD,zE]
     exact ⟨_,rfl,m.ext,by rw [hbx]; rfl⟩
    ·
     have hgo:=Tp (k:=k) ha (show ¬ lN ((r.to lo).at k) ((r.to hi).at k) (r.d.at k) by unfold lN; omega) (show r.d.at k = 0 by omega)
     let pE : Rat:=p
     let oE : Option Rat:=o
     refine wp_region_lit (aI rfl ((m.b 1 rfl).full aR aG) ?_);simp only[zz];refine aI rfl ((m.b 0 rfl).full aR aG) ?_;simp only[zz];refine aW m rfl rfl (Bx (a:=(r.to lo).at k) (b:=(r.to hi).at k) Bw.up Bw.up) ?_;clear m; intro u m;refine aA (jZ rfl rfl (by rw [mX]; omega)) (aA (aD) (aC (k16 _ _ ?_)));refine eQ rfl (wp_region_lit (aA (aB) ?_));simp only[zz];refine aA (nD rfl rfl (by omega)) (aA (aB) (aP rfl ?_));simp only[zz];refine aI rfl ((m.b 1 rfl).full aR aG) ?_;simp only[zz];refine aP rfl (aW m rfl rfl (lF (a:=(r.to lo).at k) Bw.up) ?_);clear m; intro u m;refine aP rfl (aA (jZ rfl rfl (by rw [mX]; omega)) (aP rfl (aA (aB) (aP rfl ?_))));simp only[zz];refine aI rfl ((m.b 0 rfl).full aR aG) ?_;simp only[zz];refine aP rfl (aW m rfl rfl (lF (a:=(r.to hi).at k) Bw.up) ?_);clear m; intro u m;refine aP rfl (aA (fA rfl rfl (by have:=Sr (n:=(r.to hi).at k); omega)) (aP rfl (aA (cO rfl) (aA (cG rfl) ?_))));simp only[zz];refine aA (aD) (aC (k15 _ _ ?_));refine eQ rfl (aF fun K20 k20=>wp_region_lit (aA (aB) (aA (nD rfl rfl (by omega)) (aA (aD) ?_))));simp only[zz];refine aC (k20 _ _ ?_);refine bX rfl (wp_exit (k11 _ _ ?_));refine wp_region_lit (aA (bD rfl rfl (aQ (by omega) (by omega))) (aA (aB) (aC ?_)));simp only[zz];simp only[Exit.inBlock,Exit.then];refine ⟨kM,_,?_,rfl,?_,?_⟩
     · exact hlt
     · simp only[zz,zv]
     ·
      simp only[zQ,zR,zD,zE];exact ⟨kN,pE,oE,_,rfl,(m.sel [false,false,true,true,true,true,true,true,true,true,true]),by first | exact hgo | (rw [hmx,hmn] at hgo; exact hgo),by first | rfl | exact hbb,by first | exact hbF | exact hbp,by first | exact hbo | exact jI hbT,by show k + 1 ≤ 3; omega,by show 2 - k = 3 - (k + 1); omega⟩
    ·
     have hoff : ¬ lN ((r.to lo).at k) ((r.to hi).at k) (r.d.at k):=by unfold lN; omega
     have hgo:=Tq (k:=k) ha hoff (show ¬ r.d.at k = 0 by omega);rw [show Dv r ((r.to lo).at k) ((r.to hi).at k) (r.d.at k) = Rat.divInt ((r.to hi).at k) (r.w * (r.d.at k)) from if_pos (show  r.d.at k < 0 by omega),show Ci r ((r.to lo).at k) ((r.to hi).at k) (r.d.at k) = Rat.divInt ((r.to lo).at k) (r.w * (r.d.at k)) from if_pos (show  r.d.at k < 0 by omega)] at hgo;dsimp only at hgo;have hbF : Bq 400000 (Rat.divInt ((r.to hi).at k) (r.w * (r.d.at k))):=yQ Bw.h Bw.h (by omega) hok;have hbT : Bq 400000 (Rat.divInt ((r.to lo).at k) (r.w * (r.d.at k))):=yQ Bw.h Bw.h (by omega) hok;refine wp_region_lit (aI rfl ((m.b 1 rfl).full aR aG) ?_);simp only[zz];refine aI rfl ((m.b 0 rfl).full aR aG) ?_;simp only[zz];refine aW m rfl rfl (Bx (a:=(r.to lo).at k) (b:=(r.to hi).at k) Bw.up Bw.up) ?_;clear m; intro u m;refine aA (jZ rfl rfl (by rw [mX]; omega)) (aA (aD) (aC (k16 _ _ ?_)));refine eQ rfl (wp_region_lit (aA (aB) ?_));simp only[zz];refine aA (kL rfl rfl (by omega)) (aA (aB) (bM rfl (bM rfl ?_)));simp only[zz];refine bM rfl (bM rfl (dM rfl (dM rfl ?_)));simp only[zz];refine dM rfl (bM rfl (aA (cO rfl) (aA (aD) ?_)));simp only[zz];refine aC (k15 _ _ ?_);refine eQ rfl (aF fun K21 k21=>wp_region_lit (aA (aB) (aA (kL rfl rfl (by omega)) (aA (aD) (aC (k21 _ _ ?_))))));refine eQ rfl (aF fun K22 k22=>wp_region_lit (aA (aB) ?_));simp only[zz];refine aA (cK rfl rfl (by omega)) (aA (aD) (aC (k22 _ _ ?_)));refine bX rfl (wp_region_lit ?_);simp only[zz];refine aI rfl ((m.b 0 rfl).full aR aG) ?_;simp only[zz];refine aI rfl ((m.b 1 rfl).full aR aG) ?_;simp only[zz];refine aL m 1 rfl rfl rfl aG (cA rfl) rfl ?_;clear m; intro u m; simp only[zy,zx,aX,zF,zG,Nat.reduceAdd] at m;refine aL m 0 rfl rfl rfl aG (cA rfl) rfl ?_;clear m; intro u m; simp only[zy,zx,aX,zF,zG,Nat.reduceAdd] at m;refine aC (k14 _ _ ?_);refine aF fun K23 k23=>?_;refine eF 5 [0,1,2,3] [⟨4,18,35,[.bool false,.string ⟨#[]⟩]⟩] aN (by kernel_rfl) (Vv ⟨_,_,_,rfl,by kernel_rfl,_,cI,rfl⟩) (ol:=?_) ?hol ?_
     case hol=>simp only[zw,zQ,zR]; try rfl
     intro u e; replace m:=m.ext' e; clear e;refine eM rfl (fun u e=>(((m.ext' e).b 4 rfl).full aR aG)) ?_;simp only[zz];refine jH (aB) ?_;simp only[zz];refine eD rfl rfl (lG Iw.h) ?_;simp only[zz];refine eD rfl rfl (jY (a:=r.w) (b:=r.d.at k) Bw.up Bw.up) (qA ?_);simp only[zz];refine Yh m ?_;clear m; intro g12 u m;simp only[zJ,zK,zF,zG];refine aL m 0 rfl rfl rfl aG (cA rfl) rfl ?_;clear m; intro u m; simp only[zy,zx,aX,zF,zG,Nat.reduceAdd] at m;refine aC (k23 _ _ ?_);refine aF fun K24 k24=>?_;refine eF 8 [0,1,2,3,4,5] [⟨6,19,37,[.bool false,.string ⟨#[]⟩,.bool false,.string ⟨#[]⟩]⟩,⟨7,20,37,[.bool false,.string ⟨#[]⟩,.bool false,.string ⟨#[]⟩]⟩] aN (by kernel_rfl) (al2 ⟨_,_,_,rfl,by kernel_rfl,_,cD,rfl⟩ ⟨_,_,_,rfl,by kernel_rfl,_,cD,rfl⟩) (ol:=?_) ?hol ?_
     case hol=>simp only[zw,zQ,zR]; try rfl
     intro u e; replace m:=m.ext' e; clear e;refine eM rfl (fun u e=>(((m.ext' e).b 2 rfl).full aR aG)) ?_;simp only[zz];refine eM rfl (fun u e=>(((m.ext' e).b 0 rfl).full aR aG)) ?_;simp only[zz];refine eD rfl rfl (mG (n:=((r.to hi).at k)) (d:=r.w * (r.d.at k)) Bw.up Bw.up (Hk hok (by omega))) ?_;simp only[zz];refine eM rfl (fun u e=>(((m.ext' e).b 1 rfl).full aR aG)) ?_;simp only[zz];refine eM rfl (fun u e=>(((m.ext' e).b 0 rfl).full aR aG)) ?_;simp only[zz];refine eD rfl rfl (mG (n:=((r.to lo).at k)) (d:=r.w * (r.d.at k)) Bw.up Bw.up (Hk hok (by omega))) (qA ?_);simp only[zz];refine mf2 m (by decide) ?_;clear m; intro g13 g14 u m;simp only[zJ,zK,zF,zG];refine aL m 1 rfl rfl rfl aK (cA rfl) rfl ?_;clear m; intro u m; simp only[zy,zx,aX,zF,zG,Nat.reduceAdd] at m;refine aL m 0 rfl rfl rfl aK (cA rfl) rfl ?_;clear m; intro u m; simp only[zy,zx,aX,zF,zG,Nat.reduceAdd] at m;refine aC (k24 _ _ ?_);refine aF fun K25 k25=>aF fun K26 k26=>wp_region_lit (aI rfl ((m.b 1 rfl).full bB aK) ?_);simp only[zz];refine aI rfl ((m.b 10 rfl).full bB aK) ?_;simp only[zz];refine aW m rfl rfl (jW (p:=Rat.divInt ((r.to hi).at k) (r.w * (r.d.at k))) (q:=p) hbF hbp) ?_;clear m; intro u m;refine aA (gS rfl rfl) (aC (k26 _ _ ?_));simp only[zz];refine cQ rfl (fun hc7=>?_) (fun hc7=>?_)
     ·
      have hmx : xU p (Rat.divInt ((r.to hi).at k) (r.w * (r.d.at k))) = Rat.divInt ((r.to hi).at k) (r.w * (r.d.at k)):=if_pos (mT.1 hc7)
      let pE : Rat:=Rat.divInt ((r.to hi).at k) (r.w * (r.d.at k))
      refine wp_region_lit (aI rfl ((m.b 1 rfl).full bB aK) ?_);simp only[zz];refine aL m 10 rfl rfl rfl aK (cA rfl) rfl ?_;clear m; intro u m; simp only[zy,zx,aX,zF,zG,Nat.reduceAdd] at m;refine aC (k25 _ _ ?_);refine aF fun K27 k27=>?_;rcases o with _ | q
      ·
       obtain rfl : bb = false:=hbb;simp only[Co] at m;have hmn : qP none (Rat.divInt ((r.to lo).at k) (r.w * (r.d.at k))) = Rat.divInt ((r.to lo).at k) (r.w * (r.d.at k)):=rfl
       let oE : Option Rat:=some (Rat.divInt ((r.to lo).at k) (r.w * (r.d.at k)))
       refine wp_region_lit (aA (aB) (aA (eT rfl) (aA (aB) (bG rfl ?_))));simp only[zz];refine bG rfl (bG rfl (bG rfl (aA (cG rfl) ?_)));simp only[zz];refine aC (k27 _ _ ?_);refine bX rfl (wp_region_lit (aI rfl ((m.b 0 rfl).full bB aK) ?_));simp only[zz];refine aL m 9 rfl rfl rfl aK (cA rfl) rfl ?_;clear m; intro u m; simp only[zy,zx,aX,zF,zG,Nat.reduceAdd] at m;refine aA (aD) (aC (k11 _ _ ?_));refine wp_region_lit ?_;simp only[zz];refine aA (bD rfl rfl (aQ (by omega) (by omega))) (aA (aB) (aC ?_));simp only[zz];simp only[Exit.inBlock,Exit.then];refine ⟨kM,_,?_,rfl,?_,?_⟩
       · exact hlt
       · simp only[zz,zv]
       ·
        simp only[zQ,zR,zD,zE];exact ⟨kN,pE,oE,_,rfl,(m.sel [false,false,false,false,false,true,true,true,true,true,true,true,true,true]),by first | exact hgo | (rw [hmx,hmn] at hgo; exact hgo),by first | rfl | exact hbb,by first | exact hbF | exact hbp,by first | exact hbo | exact jI hbT,by show k + 1 ≤ 3; omega,by show 2 - k = 3 - (k + 1); omega⟩
      ·
       obtain rfl : bb = true:=hbb;simp only[Co] at m;refine wp_region_lit (aA (aB) (aA (eT rfl) (aA (aB) (aP rfl ?_))));simp only[zz];refine aI rfl ((m.b 0 rfl).full bB aK) ?_;simp only[zz];refine aP rfl (aI rfl ((m.b 9 rfl).full bB aK) ?_);simp only[zz];refine aP rfl (aW m rfl rfl (jW (p:=Rat.divInt ((r.to lo).at k) (r.w * (r.d.at k))) (q:=q) hbT (hbo q rfl)) ?_);clear m; intro u m;refine aP rfl (aA (eA rfl rfl) (aA (cO rfl) (aC (k27 _ _ ?_))));simp only[zz];refine cQ rfl (fun hc8=>?_) (fun hc8=>?_)
       ·
        have hmn : qP (some q) (Rat.divInt ((r.to lo).at k) (r.w * (r.d.at k))) = Rat.divInt ((r.to lo).at k) (r.w * (r.d.at k)):=if_pos (gD.1 hc8)
        let oE : Option Rat:=some (Rat.divInt ((r.to lo).at k) (r.w * (r.d.at k)))
        refine wp_region_lit (aI rfl ((m.b 0 rfl).full bB aK) ?_);simp only[zz];refine aL m 9 rfl rfl rfl aK (cA rfl) rfl ?_;clear m; intro u m; simp only[zy,zx,aX,zF,zG,Nat.reduceAdd] at m;refine aA (aD) (aC (k11 _ _ ?_));refine wp_region_lit ?_;simp only[zz];refine aA (bD rfl rfl (aQ (by omega) (by omega))) (aA (aB) (aC ?_));simp only[zz];simp only[Exit.inBlock,Exit.then];refine ⟨kM,_,?_,rfl,?_,?_⟩
        · exact hlt
        · simp only[zz,zv]
        ·
         simp only[zQ,zR,zD,zE];exact ⟨kN,pE,oE,_,rfl,(m.sel [false,false,false,false,false,true,true,true,true,true,true,true,true,true]),by first | exact hgo | (rw [hmx,hmn] at hgo; exact hgo),by first | rfl | exact hbb,by first | exact hbF | exact hbp,by first | exact hbo | exact jI hbT,by show k + 1 ≤ 3; omega,by show 2 - k = 3 - (k + 1); omega⟩
       ·
        have hmn : qP (some q) (Rat.divInt ((r.to lo).at k) (r.w * (r.d.at k))) = q:=if_neg (mt gD.2 hc8)
        let oE : Option Rat:=some q
        refine wp_skip (k11 _ _ ?_);refine wp_region_lit (aA (bD rfl rfl (aQ (by omega) (by omega))) (aA (aB) (aC ?_)));simp only[zz];simp only[Exit.inBlock,Exit.then];refine ⟨kM,_,?_,rfl,?_,?_⟩
        · exact hlt
        · simp only[zz,zv]
        ·
         simp only[zQ,zR,zD,zE];exact ⟨kN,pE,oE,_,rfl,(m.sel [false,false,false,false,false,true,true,true,true,true,true,true,true,true]),by first | exact hgo | (rw [hmx,hmn] at hgo; exact hgo),by first | rfl | exact hbb,by first | exact hbF | exact hbp,by first | exact hbo | exact jI hbT,by show k + 1 ≤ 3; omega,by show 2 - k = 3 - (k + 1); omega⟩
     ·
      have hmx : xU p (Rat.divInt ((r.to hi).at k) (r.w * (r.d.at k))) = p:=if_neg (mt mT.2 hc7)
      let pE : Rat:=p
      refine wp_skip (k25 _ _ ?_);refine aF fun K28 k28=>?_;rcases o with _ | q
      ·
       obtain rfl : bb = false:=hbb;simp only[Co] at m;have hmn : qP none (Rat.divInt ((r.to lo).at k) (r.w * (r.d.at k))) = Rat.divInt ((r.to lo).at k) (r.w * (r.d.at k)):=rfl
       let oE : Option Rat:=some (Rat.divInt ((r.to lo).at k) (r.w * (r.d.at k)))
       refine wp_region_lit (aA (aB) (aA (eT rfl) (aA (aB) (bG rfl ?_))));simp only[zz];refine bG rfl (bG rfl (bG rfl (aA (cG rfl) ?_)));simp only[zz];refine aC (k28 _ _ ?_);refine bX rfl (wp_region_lit (aI rfl ((m.b 0 rfl).full bB aK) ?_));simp only[zz];refine aL m 9 rfl rfl rfl aK (cA rfl) rfl ?_;clear m; intro u m; simp only[zy,zx,aX,zF,zG,Nat.reduceAdd] at m;refine aA (aD) (aC (k11 _ _ ?_));refine wp_region_lit ?_;simp only[zz];refine aA (bD rfl rfl (aQ (by omega) (by omega))) (aA (aB) (aC ?_));simp only[zz];simp only[Exit.inBlock,Exit.then];refine ⟨kM,_,?_,rfl,?_,?_⟩
       · exact hlt
       · simp only[zz,zv]
       ·
        simp only[zQ,zR,zD,zE];exact ⟨kN,pE,oE,_,rfl,(m.sel [false,false,false,false,false,true,true,true,true,true,true,true,true,true]),by first | exact hgo | (rw [hmx,hmn] at hgo; exact hgo),by first | rfl | exact hbb,by first | exact hbF | exact hbp,by first | exact hbo | exact jI hbT,by show k + 1 ≤ 3; omega,by show 2 - k = 3 - (k + 1); omega⟩
      ·
       obtain rfl : bb = true:=hbb;simp only[Co] at m;refine wp_region_lit (aA (aB) (aA (eT rfl) (aA (aB) (aP rfl ?_))));simp only[zz];refine aI rfl ((m.b 0 rfl).full bB aK) ?_;simp only[zz];refine aP rfl (aI rfl ((m.b 9 rfl).full bB aK) ?_);simp only[zz];refine aP rfl (aW m rfl rfl (jW (p:=Rat.divInt ((r.to lo).at k) (r.w * (r.d.at k))) (q:=q) hbT (hbo q rfl)) ?_);clear m; intro u m;refine aP rfl (aA (eA rfl rfl) (aA (cO rfl) (aC (k28 _ _ ?_))));simp only[zz];refine cQ rfl (fun hc8=>?_) (fun hc8=>?_)
       ·
        have hmn : qP (some q) (Rat.divInt ((r.to lo).at k) (r.w * (r.d.at k))) = Rat.divInt ((r.to lo).at k) (r.w * (r.d.at k)):=if_pos (gD.1 hc8)
        let oE : Option Rat:=some (Rat.divInt ((r.to lo).at k) (r.w * (r.d.at k)))
        refine wp_region_lit (aI rfl ((m.b 0 rfl).full bB aK) ?_);simp only[zz];refine aL m 9 rfl rfl rfl aK (cA rfl) rfl ?_;clear m; intro u m; simp only[zy,zx,aX,zF,zG,Nat.reduceAdd] at m;refine aA (aD) (aC (k11 _ _ ?_));refine wp_region_lit ?_;simp only[zz];refine aA (bD rfl rfl (aQ (by omega) (by omega))) (aA (aB) (aC ?_));simp only[zz];simp only[Exit.inBlock,Exit.then];refine ⟨kM,_,?_,rfl,?_,?_⟩
        · exact hlt
        · simp only[zz,zv]
        ·
         simp only[zQ,zR,zD,zE];exact ⟨kN,pE,oE,_,rfl,(m.sel [false,false,false,false,false,true,true,true,true,true,true,true,true,true]),by first | exact hgo | (rw [hmx,hmn] at hgo; exact hgo),by first | rfl | exact hbb,by first | exact hbF | exact hbp,by first | exact hbo | exact jI hbT,by show k + 1 ≤ 3; omega,by show 2 - k = 3 - (k + 1); omega⟩
       ·
        have hmn : qP (some q) (Rat.divInt ((r.to lo).at k) (r.w * (r.d.at k))) = q:=if_neg (mt gD.2 hc8)
        let oE : Option Rat:=some q
        refine wp_skip (k11 _ _ ?_);refine wp_region_lit (aA (bD rfl rfl (aQ (by omega) (by omega))) (aA (aB) (aC ?_)));simp only[zz];simp only[Exit.inBlock,Exit.then];refine ⟨kM,_,?_,rfl,?_,?_⟩
        · exact hlt
        · simp only[zz,zv]
        ·
         simp only[zQ,zR,zD,zE];exact ⟨kN,pE,oE,_,rfl,(m.sel [false,false,false,false,false,true,true,true,true,true,true,true,true,true]),by first | exact hgo | (rw [hmx,hmn] at hgo; exact hgo),by first | rfl | exact hbb,by first | exact hbF | exact hbp,by first | exact hbo | exact jI hbT,by show k + 1 ≤ 3; omega,by show 2 - k = 3 - (k + 1); omega⟩
    ·
     have hoff : ¬ lN ((r.to lo).at k) ((r.to hi).at k) (r.d.at k):=by unfold lN; omega
     have hgo:=Tq (k:=k) ha hoff (show ¬ r.d.at k = 0 by omega);rw [show Dv r ((r.to lo).at k) ((r.to hi).at k) (r.d.at k) = Rat.divInt ((r.to lo).at k) (r.w * (r.d.at k)) from if_neg (show ¬ r.d.at k < 0 by omega),show Ci r ((r.to lo).at k) ((r.to hi).at k) (r.d.at k) = Rat.divInt ((r.to hi).at k) (r.w * (r.d.at k)) from if_neg (show ¬ r.d.at k < 0 by omega)] at hgo;dsimp only at hgo;have hbF : Bq 400000 (Rat.divInt ((r.to lo).at k) (r.w * (r.d.at k))):=yQ Bw.h Bw.h (by omega) hok;have hbT : Bq 400000 (Rat.divInt ((r.to hi).at k) (r.w * (r.d.at k))):=yQ Bw.h Bw.h (by omega) hok;refine wp_region_lit (aI rfl ((m.b 1 rfl).full aR aG) ?_);simp only[zz];refine aI rfl ((m.b 0 rfl).full aR aG) ?_;simp only[zz];refine aW m rfl rfl (Bx (a:=(r.to lo).at k) (b:=(r.to hi).at k) Bw.up Bw.up) ?_;clear m; intro u m;refine aA (jZ rfl rfl (by rw [mX]; omega)) (aA (aD) (aC (k16 _ _ ?_)));refine eQ rfl (wp_region_lit (aA (aB) ?_));simp only[zz];refine aA (kL rfl rfl (by omega)) (aA (aB) (bM rfl (bM rfl ?_)));simp only[zz];refine bM rfl (bM rfl (dM rfl (dM rfl ?_)));simp only[zz];refine dM rfl (bM rfl (aA (cO rfl) (aA (aD) ?_)));simp only[zz];refine aC (k15 _ _ ?_);refine eQ rfl (aF fun K29 k29=>wp_region_lit (aA (aB) (aA (kL rfl rfl (by omega)) (aA (aD) (aC (k29 _ _ ?_))))));refine eQ rfl (aF fun K30 k30=>wp_region_lit (aA (aB) ?_));simp only[zz];refine aA (fA rfl rfl (by omega)) (aA (aD) (aC (k30 _ _ ?_)));refine eQ rfl (wp_skip (k14 _ _ ?_));refine aF fun K31 k31=>?_;simp only[zz];refine eF 5 [0,1,2,3] [⟨4,18,35,[.bool false,.string ⟨#[]⟩]⟩] aN (by kernel_rfl) (Vv ⟨_,_,_,rfl,by kernel_rfl,_,cI,rfl⟩) (ol:=?_) ?hol ?_
     case hol=>simp only[zw,zQ,zR]; try rfl
     intro u e; replace m:=m.ext' e; clear e;refine eM rfl (fun u e=>(((m.ext' e).b 4 rfl).full aR aG)) ?_;simp only[zz];refine jH (aB) ?_;simp only[zz];refine eD rfl rfl (lG Iw.h) ?_;simp only[zz];refine eD rfl rfl (jY (a:=r.w) (b:=r.d.at k) Bw.up Bw.up) (qA ?_);simp only[zz];refine Yh m ?_;clear m; intro g12 u m;simp only[zJ,zK,zF,zG];refine aL m 0 rfl rfl rfl aG (cA rfl) rfl ?_;clear m; intro u m; simp only[zy,zx,aX,zF,zG,Nat.reduceAdd] at m;refine aC (k31 _ _ ?_);refine aF fun K32 k32=>?_;refine eF 8 [0,1,2,3,4,5] [⟨6,19,37,[.bool false,.string ⟨#[]⟩,.bool false,.string ⟨#[]⟩]⟩,⟨7,20,37,[.bool false,.string ⟨#[]⟩,.bool false,.string ⟨#[]⟩]⟩] aN (by kernel_rfl) (al2 ⟨_,_,_,rfl,by kernel_rfl,_,cD,rfl⟩ ⟨_,_,_,rfl,by kernel_rfl,_,cD,rfl⟩) (ol:=?_) ?hol ?_
     case hol=>simp only[zw,zQ,zR]; try rfl
     intro u e; replace m:=m.ext' e; clear e;refine eM rfl (fun u e=>(((m.ext' e).b 2 rfl).full aR aG)) ?_;simp only[zz];refine eM rfl (fun u e=>(((m.ext' e).b 0 rfl).full aR aG)) ?_;simp only[zz];refine eD rfl rfl (mG (n:=((r.to lo).at k)) (d:=r.w * (r.d.at k)) Bw.up Bw.up (Hk hok (by omega))) ?_;simp only[zz];refine eM rfl (fun u e=>(((m.ext' e).b 1 rfl).full aR aG)) ?_;simp only[zz];refine eM rfl (fun u e=>(((m.ext' e).b 0 rfl).full aR aG)) ?_;simp only[zz];refine eD rfl rfl (mG (n:=((r.to hi).at k)) (d:=r.w * (r.d.at k)) Bw.up Bw.up (Hk hok (by omega))) (qA ?_);simp only[zz];refine mf2 m (by decide) ?_;clear m; intro g13 g14 u m;simp only[zJ,zK,zF,zG];refine aL m 1 rfl rfl rfl aK (cA rfl) rfl ?_;clear m; intro u m; simp only[zy,zx,aX,zF,zG,Nat.reduceAdd] at m;refine aL m 0 rfl rfl rfl aK (cA rfl) rfl ?_;clear m; intro u m; simp only[zy,zx,aX,zF,zG,Nat.reduceAdd] at m;refine aC (k32 _ _ ?_);refine aF fun K33 k33=>aF fun K34 k34=>wp_region_lit (aI rfl ((m.b 1 rfl).full bB aK) ?_);simp only[zz];refine aI rfl ((m.b 10 rfl).full bB aK) ?_;simp only[zz];refine aW m rfl rfl (jW (p:=Rat.divInt ((r.to lo).at k) (r.w * (r.d.at k))) (q:=p) hbF hbp) ?_;clear m; intro u m;refine aA (gS rfl rfl) (aC (k34 _ _ ?_));simp only[zz];refine cQ rfl (fun hc7=>?_) (fun hc7=>?_)
     ·
      have hmx : xU p (Rat.divInt ((r.to lo).at k) (r.w * (r.d.at k))) = Rat.divInt ((r.to lo).at k) (r.w * (r.d.at k)):=if_pos (mT.1 hc7)
      let pE : Rat:=Rat.divInt ((r.to lo).at k) (r.w * (r.d.at k))
      refine wp_region_lit (aI rfl ((m.b 1 rfl).full bB aK) ?_);simp only[zz];refine aL m 10 rfl rfl rfl aK (cA rfl) rfl ?_;clear m; intro u m; simp only[zy,zx,aX,zF,zG,Nat.reduceAdd] at m;refine aC (k33 _ _ ?_);refine aF fun K35 k35=>?_;rcases o with _ | q
      ·
       obtain rfl : bb = false:=hbb;simp only[Co] at m;have hmn : qP none (Rat.divInt ((r.to hi).at k) (r.w * (r.d.at k))) = Rat.divInt ((r.to hi).at k) (r.w * (r.d.at k)):=rfl
       let oE : Option Rat:=some (Rat.divInt ((r.to hi).at k) (r.w * (r.d.at k)))
       refine wp_region_lit (aA (aB) (aA (eT rfl) (aA (aB) (bG rfl ?_))));simp only[zz];refine bG rfl (bG rfl (bG rfl (aA (cG rfl) ?_)));simp only[zz];refine aC (k35 _ _ ?_);refine bX rfl (wp_region_lit (aI rfl ((m.b 0 rfl).full bB aK) ?_));simp only[zz];refine aL m 9 rfl rfl rfl aK (cA rfl) rfl ?_;clear m; intro u m; simp only[zy,zx,aX,zF,zG,Nat.reduceAdd] at m;refine aA (aD) (aC (k11 _ _ ?_));refine wp_region_lit ?_;simp only[zz];refine aA (bD rfl rfl (aQ (by omega) (by omega))) (aA (aB) (aC ?_));simp only[zz];simp only[Exit.inBlock,Exit.then];refine ⟨kM,_,?_,rfl,?_,?_⟩
       · exact hlt
       · simp only[zz,zv]
       ·
        simp only[zQ,zR,zD,zE];exact ⟨kN,pE,oE,_,rfl,(m.sel [false,false,false,false,false,true,true,true,true,true,true,true,true,true]),by first | exact hgo | (rw [hmx,hmn] at hgo; exact hgo),by first | rfl | exact hbb,by first | exact hbF | exact hbp,by first | exact hbo | exact jI hbT,by show k + 1 ≤ 3; omega,by show 2 - k = 3 - (k + 1); omega⟩
      ·
       obtain rfl : bb = true:=hbb;simp only[Co] at m;refine wp_region_lit (aA (aB) (aA (eT rfl) (aA (aB) (aP rfl ?_))));simp only[zz];refine aI rfl ((m.b 0 rfl).full bB aK) ?_;simp only[zz];refine aP rfl (aI rfl ((m.b 9 rfl).full bB aK) ?_);simp only[zz];refine aP rfl (aW m rfl rfl (jW (p:=Rat.divInt ((r.to hi).at k) (r.w * (r.d.at k))) (q:=q) hbT (hbo q rfl)) ?_);clear m; intro u m;refine aP rfl (aA (eA rfl rfl) (aA (cO rfl) (aC (k35 _ _ ?_))));simp only[zz];refine cQ rfl (fun hc8=>?_) (fun hc8=>?_)
       ·
        have hmn : qP (some q) (Rat.divInt ((r.to hi).at k) (r.w * (r.d.at k))) = Rat.divInt ((r.to hi).at k) (r.w * (r.d.at k)):=if_pos (gD.1 hc8)
        let oE : Option Rat:=some (Rat.divInt ((r.to hi).at k) (r.w * (r.d.at k)))
        refine wp_region_lit (aI rfl ((m.b 0 rfl).full bB aK) ?_);simp only[zz];refine aL m 9 rfl rfl rfl aK (cA rfl) rfl ?_;clear m; intro u m; simp only[zy,zx,aX,zF,zG,Nat.reduceAdd] at m;refine aA (aD) (aC (k11 _ _ ?_));refine wp_region_lit ?_;simp only[zz];refine aA (bD rfl rfl (aQ (by omega) (by omega))) (aA (aB) (aC ?_));simp only[zz];simp only[Exit.inBlock,Exit.then];refine ⟨kM,_,?_,rfl,?_,?_⟩
        · exact hlt
        · simp only[zz,zv]
        ·
         simp only[zQ,zR,zD,zE];exact ⟨kN,pE,oE,_,rfl,(m.sel [false,false,false,false,false,true,true,true,true,true,true,true,true,true]),by first | exact hgo | (rw [hmx,hmn] at hgo; exact hgo),by first | rfl | exact hbb,by first | exact hbF | exact hbp,by first | exact hbo | exact jI hbT,by show k + 1 ≤ 3; omega,by show 2 - k = 3 - (k + 1); omega⟩
       ·
        have hmn : qP (some q) (Rat.divInt ((r.to hi).at k) (r.w * (r.d.at k))) = q:=if_neg (mt gD.2 hc8)
        let oE : Option Rat:=some q
        refine wp_skip (k11 _ _ ?_);refine wp_region_lit (aA (bD rfl rfl (aQ (by omega) (by omega))) (aA (aB) (aC ?_)));simp only[zz];simp only[Exit.inBlock,Exit.then];refine ⟨kM,_,?_,rfl,?_,?_⟩
        · exact hlt
        · simp only[zz,zv]
        ·
         simp only[zQ,zR,zD,zE];exact ⟨kN,pE,oE,_,rfl,(m.sel [false,false,false,false,false,true,true,true,true,true,true,true,true,true]),by first | exact hgo | (rw [hmx,hmn] at hgo; exact hgo),by first | rfl | exact hbb,by first | exact hbF | exact hbp,by first | exact hbo | exact jI hbT,by show k + 1 ≤ 3; omega,by show 2 - k = 3 - (k + 1); omega⟩
     ·
      have hmx : xU p (Rat.divInt ((r.to lo).at k) (r.w * (r.d.at k))) = p:=if_neg (mt mT.2 hc7)
      let pE : Rat:=p
      refine wp_skip (k33 _ _ ?_);refine aF fun K36 k36=>?_;rcases o with _ | q
      ·
       obtain rfl : bb = false:=hbb;simp only[Co] at m;have hmn : qP none (Rat.divInt ((r.to hi).at k) (r.w * (r.d.at k))) = Rat.divInt ((r.to hi).at k) (r.w * (r.d.at k)):=rfl
       let oE : Option Rat:=some (Rat.divInt ((r.to hi).at k) (r.w * (r.d.at k)))
       refine wp_region_lit (aA (aB) (aA (eT rfl) (aA (aB) (bG rfl ?_))));simp only[zz];refine bG rfl (bG rfl (bG rfl (aA (cG rfl) ?_)));simp only[zz];refine aC (k36 _ _ ?_);refine bX rfl (wp_region_lit (aI rfl ((m.b 0 rfl).full bB aK) ?_));simp only[zz];refine aL m 9 rfl rfl rfl aK (cA rfl) rfl ?_;clear m; intro u m; simp only[zy,zx,aX,zF,zG,Nat.reduceAdd] at m;refine aA (aD) (aC (k11 _ _ ?_));refine wp_region_lit ?_;simp only[zz];refine aA (bD rfl rfl (aQ (by omega) (by omega))) (aA (aB) (aC ?_));simp only[zz];simp only[Exit.inBlock,Exit.then];refine ⟨kM,_,?_,rfl,?_,?_⟩
       · exact hlt
       · simp only[zz,zv]
       ·
        simp only[zQ,zR,zD,zE];exact ⟨kN,pE,oE,_,rfl,(m.sel [false,false,false,false,false,true,true,true,true,true,true,true,true,true]),by first | exact hgo | (rw [hmx,hmn] at hgo; exact hgo),by first | rfl | exact hbb,by first | exact hbF | exact hbp,by first | exact hbo | exact jI hbT,by show k + 1 ≤ 3; omega,by show 2 - k = 3 - (k + 1); omega⟩
      ·
       obtain rfl : bb = true:=hbb;simp only[Co] at m;refine wp_region_lit (aA (aB) (aA (eT rfl) (aA (aB) (aP rfl ?_))));simp only[zz];refine aI rfl ((m.b 0 rfl).full bB aK) ?_;simp only[zz];refine aP rfl (aI rfl ((m.b 9 rfl).full bB aK) ?_);simp only[zz];refine aP rfl (aW m rfl rfl (jW (p:=Rat.divInt ((r.to hi).at k) (r.w * (r.d.at k))) (q:=q) hbT (hbo q rfl)) ?_);clear m; intro u m;refine aP rfl (aA (eA rfl rfl) (aA (cO rfl) (aC (k36 _ _ ?_))));simp only[zz];refine cQ rfl (fun hc8=>?_) (fun hc8=>?_)
       ·
        have hmn : qP (some q) (Rat.divInt ((r.to hi).at k) (r.w * (r.d.at k))) = Rat.divInt ((r.to hi).at k) (r.w * (r.d.at k)):=if_pos (gD.1 hc8)
        let oE : Option Rat:=some (Rat.divInt ((r.to hi).at k) (r.w * (r.d.at k)))
        refine wp_region_lit (aI rfl ((m.b 0 rfl).full bB aK) ?_);simp only[zz];refine aL m 9 rfl rfl rfl aK (cA rfl) rfl ?_;clear m; intro u m; simp only[zy,zx,aX,zF,zG,Nat.reduceAdd] at m;refine aA (aD) (aC (k11 _ _ ?_));refine wp_region_lit ?_;simp only[zz];refine aA (bD rfl rfl (aQ (by omega) (by omega))) (aA (aB) (aC ?_));simp only[zz];simp only[Exit.inBlock,Exit.then];refine ⟨kM,_,?_,rfl,?_,?_⟩
        · exact hlt
        · simp only[zz,zv]
        ·
         simp only[zQ,zR,zD,zE];exact ⟨kN,pE,oE,_,rfl,(m.sel [false,false,false,false,false,true,true,true,true,true,true,true,true,true]),by first | exact hgo | (rw [hmx,hmn] at hgo; exact hgo),by first | rfl | exact hbb,by first | exact hbF | exact hbp,by first | exact hbo | exact jI hbT,by show k + 1 ≤ 3; omega,by show 2 - k = 3 - (k + 1); omega⟩
       ·
        have hmn : qP (some q) (Rat.divInt ((r.to hi).at k) (r.w * (r.d.at k))) = q:=if_neg (mt gD.2 hc8)
        let oE : Option Rat:=some q
        refine wp_skip (k11 _ _ ?_);refine wp_region_lit (aA (bD rfl rfl (aQ (by omega) (by omega))) (aA (aB) (aC ?_)));simp only[zz];simp only[Exit.inBlock,Exit.then];refine ⟨kM,_,?_,rfl,?_,?_⟩
        · exact hlt
        · simp only[zz,zv]
        ·
         simp only[zQ,zR,zD,zE];exact ⟨kN,pE,oE,_,rfl,(m.sel [false,false,false,false,false,true,true,true,true,true,true,true,true,true]),by first | exact hgo | (rw [hmx,hmn] at hgo; exact hgo),by first | rfl | exact hbb,by first | exact hbF | exact hbp,by first | exact hbo | exact jI hbT,by show k + 1 ≤ 3; omega,by show 2 - k = 3 - (k + 1); omega⟩
   ·
    obtain rfl : k = 3:=by omega
    obtain ⟨q,hq⟩:=Wv hok ha;have hq : o = some q:=hq;subst hq;simp only[Co] at m;have hbx:=Ww hok ha;refine wp_exit (k7 _ _ ?_);refine aF fun K37 k37=>aF fun K38 k38=>wp_region_lit (aI rfl ((m.b 5 rfl).full bB aK) ?_);simp only[zz];refine aI rfl ((m.b 4 rfl).full bB aK) ?_;simp only[zz];refine aW m rfl rfl (jW (p:=p) (q:=q) hbp (hbo q rfl)) ?_;clear m; intro u m;refine aA (gS rfl rfl) (aC (k38 _ _ ?_));simp only[zz];refine cQ rfl (fun hc9=>?_) (fun hc9=>?_)
    ·
     rw [if_pos (mT.1 hc9)] at hbx;refine aF fun K39 k39=>wp_region_lit (aW m rfl rfl (gE) ?_);clear m; intro u m;simp only[zz];refine aW m rfl rfl (gE) ?_;clear m; intro u m;simp only[zz];refine aL m 5 rfl rfl rfl aK (cA rfl) rfl ?_;clear m; intro u m; simp only[zy,zx,aX,zF,zG,Nat.reduceAdd] at m;refine aL m 4 rfl rfl rfl aK (cA rfl) rfl ?_;clear m; intro u m; simp only[zy,zx,aX,zF,zG,Nat.reduceAdd] at m;refine aA (aD) (aC (k39 _ _ ?_));refine wp_ret ?_;simp only[zz];try simp only[Exit.inBlock,Exit.then,if_true]
     refine oJ rfl ⟨_,rfl,((m.b 5 rfl).full bB aK)⟩ ⟨_,rfl,((m.b 4 rfl).full bB aK)⟩ rfl ?_;try simp only[zD,zE]
     exact ⟨_,rfl,m.ext,by rw [hbx]; rfl⟩
    ·
     rw [if_neg (mt mT.2 hc9)] at hbx;refine wp_skip (k37 _ _ ?_);refine aF fun K40 k40=>?_;refine kG m [true,true,true,true,false,false,true,true,true] (.two 0 (.two 1 (.one 2 (.one 3 (.take 4 .nil))) 2 (.one 1 (.one 3 (.take 4 .nil)))) 1 (.one 0 (.one 2 (.one 3 (.take 4 .nil))))) aN (by kernel_rfl) (cW (fun _ _ _ _ _ h=>h)) ?_;clear m; intro u m;refine gX (by simp only[zw]; rfl) (by simp only[zw]; rfl) ?_ ?_
     ·
      refine aI rfl ((m.b 5 rfl).full bB aK) ?_;simp only[zz];refine aC (⟨m.sel [true,true,true,true,false,false,true,true,true],?_⟩);refine gX (by simp only[zw]; rfl) (by simp only[zw]; rfl) ?_ ?_
      ·
       refine aI rfl ((m.b 4 rfl).full bB aK) ?_;simp only[zz];refine aC (⟨m.sel [true,true,true,true,false,false,true,true,true],?_⟩);refine bL (by simp only[zw]; rfl) (aL m 5 rfl rfl rfl aK (cA rfl) rfl ?_);clear m; intro u m; simp only[zy,zx,aX,zF,zG,Nat.reduceAdd] at m;refine aC (⟨m.sel [true,true,true,true,false,false,true,true,true],?_⟩);refine bL (by simp only[zw]; rfl) (aL m 4 rfl rfl rfl aK (cA rfl) rfl ?_);clear m; intro u m; simp only[zy,zx,aX,zF,zG,Nat.reduceAdd] at m;refine aC (⟨m.sel [true,true,true,true,false,false,true,true,true],?_⟩);refine aV (by simp only[zw]; rfl) (aY (aD) (bA (eE (k40 _ _ ?_))));refine wp_ret ?_;simp only[zz];try simp only[Exit.inBlock,Exit.then,if_true]
       refine oJ rfl ⟨_,rfl,((m.b 5 rfl).full bB aK)⟩ ⟨_,rfl,((m.b 4 rfl).full bB aK)⟩ rfl ?_;try simp only[zD,zE]
       exact ⟨_,rfl,m.ext,by rw [hbx]; rfl⟩
      ·
       refine aL m 5 rfl rfl rfl aK (cA rfl) rfl ?_;clear m; intro u m; simp only[zy,zx,aX,zF,zG,Nat.reduceAdd] at m;refine aC (⟨m.sel [true,true,true,true,false,false,true,true,true],?_⟩);refine bL (by simp only[zw]; rfl) (aI rfl ((m.b 4 rfl).full bB aK) ?_);simp only[zz];refine aC (⟨m.sel [true,true,true,true,false,false,true,true,true],?_⟩);refine bL (by simp only[zw]; rfl) (aL m 4 rfl rfl rfl aK (cA rfl) rfl ?_);clear m; intro u m; simp only[zy,zx,aX,zF,zG,Nat.reduceAdd] at m;refine aC (⟨m.sel [true,true,true,true,false,false,true,true,true],?_⟩);refine aV (by simp only[zw]; rfl) (aY (aD) (bA (eE (k40 _ _ ?_))));refine wp_ret ?_;simp only[zz];try simp only[Exit.inBlock,Exit.then,if_true]
       refine oJ rfl ⟨_,rfl,((m.b 5 rfl).full bB aK)⟩ ⟨_,rfl,((m.b 4 rfl).full bB aK)⟩ rfl ?_;try simp only[zD,zE]
       exact ⟨_,rfl,m.ext,by rw [hbx]; rfl⟩
     ·
      refine aI rfl ((m.b 4 rfl).full bB aK) ?_;simp only[zz];refine aC (⟨m.sel [true,true,true,true,false,false,true,true,true],?_⟩);refine bL (by simp only[zw]; rfl) (aI rfl ((m.b 5 rfl).full bB aK) ?_);simp only[zz];refine aC (⟨m.sel [true,true,true,true,false,false,true,true,true],?_⟩);refine bL (by simp only[zw]; rfl) (aL m 5 rfl rfl rfl aK (cA rfl) rfl ?_);clear m; intro u m; simp only[zy,zx,aX,zF,zG,Nat.reduceAdd] at m;refine aC (⟨m.sel [true,true,true,true,false,false,true,true,true],?_⟩);refine bL (by simp only[zw]; rfl) (aL m 4 rfl rfl rfl aK (cA rfl) rfl ?_);clear m; intro u m; simp only[zy,zx,aX,zF,zG,Nat.reduceAdd] at m;refine aC (⟨m.sel [true,true,true,true,false,false,true,true,true],?_⟩);refine aV (by simp only[zw]; rfl) (aY (aD) (bA (eE (k40 _ _ ?_))));refine wp_ret ?_;simp only[zz];try simp only[Exit.inBlock,Exit.then,if_true]
      refine oJ rfl ⟨_,rfl,((m.b 5 rfl).full bB aK)⟩ ⟨_,rfl,((m.b 4 rfl).full bB aK)⟩ rfl ?_;try simp only[zD,zE]
      exact ⟨_,rfl,m.ext,by rw [hbx]; rfl⟩
 ·
  have hbx : nH r lo hi = none:=if_neg hok;refine wp_region_lit (aI rfl ((m.b 4 rfl).full fB dJ) ?_);simp only[zz];refine aW m rfl rfl (Cm hok) ?_;clear m; intro u m;refine aA (eT rfl) (aC (k3 _ _ ?_));refine bX rfl (aF fun K41 k41=>wp_region_lit ?_);simp only[zz];refine aW m rfl rfl (gE) ?_;clear m; intro u m;simp only[zz];refine aW m rfl rfl (gE) ?_;clear m; intro u m;simp only[zz];refine aL m 1 rfl rfl rfl aK (cA rfl) rfl ?_;clear m; intro u m; simp only[zy,zx,aX,zF,zG,Nat.reduceAdd] at m;refine aL m 0 rfl rfl rfl aK (cA rfl) rfl ?_;clear m; intro u m; simp only[zy,zx,aX,zF,zG,Nat.reduceAdd] at m;refine aA (aD) (aC (k41 _ _ ?_));refine wp_ret ?_;simp only[zz];try simp only[Exit.inBlock,Exit.then,if_true]
  refine oJ rfl ⟨_,rfl,((m.b 1 rfl).full bB aK)⟩ ⟨_,rfl,((m.b 0 rfl).full bB aK)⟩ rfl ?_;try simp only[zD,zE]
  exact ⟨_,rfl,m.ext,by rw [hbx]; rfl⟩
end Go.Proofs.YtimjandkmfcmiaaGreatDoor
namespace Go.Proofs.YtimjandkmfcmiaaGreatDoor
open Tryz
open Go.RowKit Go.Lith
set_option maxRecDepth 100000
attribute [local irreducible] wpList wpQuiet eS dV eG Code.wp
theorem Ym {p : P3} : wO prog 150 [pt p] (.int .i64 p.x):=by
 intro w;refine ⟨Qw,?_⟩;have m:=jX.refl w
 go_enter func150,ntmps150
 refine aF fun K1 k1=>wp_region_lit (vI m rfl ?_);clear m; intro g1 u m;refine aA (aD) (aC (k1 _ _ ?_));refine aF fun K2 k2=>wp_region_lit (aA (aH (c:=0) xQ rfl aM rfl rfl) ?_);simp only[zz];refine aI rfl ((m.b 0 rfl).lies1 aZ rfl) ?_;simp only[zz];refine aA (aD) (aC (k2 _ _ ?_));refine wp_ret ?_;simp only[zz];try simp only[Exit.inBlock,Exit.then,if_true]
 refine bU rfl rfl ?_;try simp only[zD,zE]
 exact ⟨_,rfl,m.ext,rfl⟩
theorem Yn {p : P3} : wO prog 151 [pt p] (.int .i64 p.y):=by
 intro w;refine ⟨Qx,?_⟩;have m:=jX.refl w
 go_enter func151,ntmps151
 refine aF fun K1 k1=>wp_region_lit (vI m rfl ?_);clear m; intro g1 u m;refine aA (aD) (aC (k1 _ _ ?_));refine aF fun K2 k2=>wp_region_lit (aA (aH (c:=0) xQ rfl aM rfl rfl) ?_);simp only[zz];refine aI rfl ((m.b 0 rfl).lies1 aZ rfl) ?_;simp only[zz];refine aA (aD) (aC (k2 _ _ ?_));refine wp_ret ?_;simp only[zz];try simp only[Exit.inBlock,Exit.then,if_true]
 refine bU rfl rfl ?_;try simp only[zD,zE]
 exact ⟨_,rfl,m.ext,rfl⟩
theorem Yo {p : P3} : wO prog 152 [pt p] (.int .i64 p.z):=by
 intro w;refine ⟨Qy,?_⟩;have m:=jX.refl w
 go_enter func152,ntmps152
 refine aF fun K1 k1=>wp_region_lit (vI m rfl ?_);clear m; intro g1 u m;refine aA (aD) (aC (k1 _ _ ?_));refine aF fun K2 k2=>wp_region_lit (aA (aH (c:=0) xQ rfl aM rfl rfl) ?_);simp only[zz];refine aI rfl ((m.b 0 rfl).lies1 aZ rfl) ?_;simp only[zz];refine aA (aD) (aC (k2 _ _ ?_));refine wp_ret ?_;simp only[zz];try simp only[Exit.inBlock,Exit.then,if_true]
 refine bU rfl rfl ?_;try simp only[zD,zE]
 exact ⟨_,rfl,m.ext,rfl⟩
theorem Wx  : wO prog 137 [] (.agg #[.func (.func 150) #[] #[],.func (.func 151) #[] #[],.func (.func 152) #[] #[]]):=by
 intro w;refine ⟨Qv,?_⟩;have m:=jX.refl w
 go_enter func137,ntmps137
 refine aF fun K1 k1=>wp_region_lit (Vz m Az rfl ?_);clear m; intro g1 u m;refine aC (k1 _ _ ?_);refine aF fun K2 k2=>wp_region_lit (aA (pW rfl rfl rfl) ?_);simp only[zz];refine Sy m 0 rfl rfl rfl tV (cA rfl) rfl ?_;clear m; intro u m; simp only[zy,zx,aX,zF,zG,Nat.reduceAdd] at m;refine aC (k2 _ _ ?_);refine wp_ret ?_;try simp only[Exit.inBlock,Exit.then,if_true]
 refine bU rfl ⟨_,rfl,((m.b 0 rfl).full Mp tV)⟩ ?_;try simp only[zD,zE]
 exact ⟨_,rfl,m.ext,rfl⟩
theorem Nh {p q : P3} : wO prog 130 [pt p,pt q] (.bool (decide (p.Lt q))):=by
 intro w;refine ⟨Zz,?_⟩;have m:=jX.refl w
 go_enter func130,ntmps130
 refine aF fun K1 k1=>wp_region_lit (vI m rfl ?_);clear m; intro g1 u m;simp only[zz];refine vI m rfl ?_;clear m; intro g2 u m;refine aA (aD) (aC (k1 _ _ ?_));refine aF fun K2 k2=>aF fun K3 k3=>wp_region_lit ?_;simp only[zz];refine Gz m rfl rfl (Wx) ?_;clear m; intro u m;refine aA (aB) (aC (k3 _ _ ?_));refine wp_block (wp_loop_rounds 4 (dQ (aF fun K4 k4=>wp_region_lit (aA (cK (m:=0) (n:=3) rfl rfl (by decide)) (aC (k4 _ _ ?_))))));refine aF fun K5 k5=>bX rfl (wp_skip (k5 _ _ ?_));refine aF fun K6 k6=>wp_block (aF fun K7 k7=>wp_region_lit (aA (uS rfl rfl) ?_));simp only[zz];refine aA (aD) (aC (k7 _ _ ?_));refine aF fun K8 k8=>?_;simp only[zz];refine Gmq m aN (by kernel_rfl) (aS (aB) ?_);simp only[zz];refine Gql rfl (fun u m=>((m.b 1 rfl).full bK aO)) ?_;simp only[zz];refine Pi rfl rfl (Ym) (aS (aB) ?_);simp only[zz];refine Gql rfl (fun u m=>((m.b 0 rfl).full bK aO)) ?_;simp only[zz];refine Pi rfl rfl (Ym) (aS (aD) (aS (aD) (dW ?_)));clear m; intro u m;refine k8 _ _ ?_;refine aF fun K9 k9=>wp_region_lit (aA (aB) ?_);simp only[zz];refine aA (aB) (aA (nB rfl rfl) (aC (k9 _ _ ?_)));simp only[zz];refine cQ rfl (fun hc2=>?_) (fun hc2=>?_)
 ·
  refine aF fun K10 k10=>wp_region_lit (aA (aB) (aA (aB) (aA (eA rfl rfl) (aA (aD) ?_))));simp only[zz];refine aC (k10 _ _ ?_);refine wp_ret ?_;try simp only[Exit.inBlock,Exit.then,if_true]
  refine bU rfl rfl ?_;try simp only[zD,zE]
  exact ⟨_,rfl,m.ext,by simp only[P3.lt_x hc2]⟩
 ·
  have ex : p.x = q.x:=by omega
  refine wp_skip (k6 _ _ ?_);refine wp_region_lit (aA (bD (m:=0) (n:=1) (r:=1) rfl rfl (by decide)) (aA (aB) (aC (bF (aF fun K11 k11=>wp_region_lit (aA (cK (m:=1) (n:=3) rfl rfl (by decide)) (aC (k11 _ _ ?_))))))));refine aF fun K12 k12=>bX rfl (wp_skip (k12 _ _ ?_));refine aF fun K13 k13=>wp_block (aF fun K14 k14=>wp_region_lit (aA (uT rfl rfl) ?_));simp only[zz];refine aA (aD) (aC (k14 _ _ ?_));refine aF fun K15 k15=>?_;simp only[zz];refine Gmq m aN (by kernel_rfl) (aS (aB) ?_);simp only[zz];refine Gql rfl (fun u m=>((m.b 1 rfl).full bK aO)) ?_;simp only[zz];refine Pi rfl rfl (Yn) (aS (aB) ?_);simp only[zz];refine Gql rfl (fun u m=>((m.b 0 rfl).full bK aO)) ?_;simp only[zz];refine Pi rfl rfl (Yn) (aS (aD) (aS (aD) (dW ?_)));clear m; intro u m;refine k15 _ _ ?_;refine aF fun K16 k16=>wp_region_lit (aA (aB) ?_);simp only[zz];refine aA (aB) (aA (nB rfl rfl) (aC (k16 _ _ ?_)));simp only[zz];refine cQ rfl (fun hc2=>?_) (fun hc2=>?_)
  ·
   refine aF fun K17 k17=>wp_region_lit (aA (aB) (aA (aB) (aA (eA rfl rfl) (aA (aD) ?_))));simp only[zz];refine aC (k17 _ _ ?_);refine wp_ret ?_;try simp only[Exit.inBlock,Exit.then,if_true]
   refine bU rfl rfl ?_;try simp only[zD,zE]
   exact ⟨_,rfl,m.ext,by simp only[P3.lt_y ex hc2]⟩
  ·
   have ey : p.y = q.y:=by omega
   refine wp_skip (k13 _ _ ?_);refine wp_region_lit (aA (bD (m:=1) (n:=1) (r:=2) rfl rfl (by decide)) (aA (aB) (aC (bF (aF fun K18 k18=>wp_region_lit (aA (cK (m:=2) (n:=3) rfl rfl (by decide)) (aC (k18 _ _ ?_))))))));refine aF fun K19 k19=>bX rfl (wp_skip (k19 _ _ ?_));refine aF fun K20 k20=>wp_block (aF fun K21 k21=>wp_region_lit (aA (uU rfl rfl) ?_));simp only[zz];refine aA (aD) (aC (k21 _ _ ?_));refine aF fun K22 k22=>?_;simp only[zz];refine Gmq m aN (by kernel_rfl) (aS (aB) ?_);simp only[zz];refine Gql rfl (fun u m=>((m.b 1 rfl).full bK aO)) ?_;simp only[zz];refine Pi rfl rfl (Yo) (aS (aB) ?_);simp only[zz];refine Gql rfl (fun u m=>((m.b 0 rfl).full bK aO)) ?_;simp only[zz];refine Pi rfl rfl (Yo) (aS (aD) (aS (aD) (dW ?_)));clear m; intro u m;refine k22 _ _ ?_;refine aF fun K23 k23=>wp_region_lit (aA (aB) ?_);simp only[zz];refine aA (aB) (aA (nB rfl rfl) (aC (k23 _ _ ?_)));simp only[zz];refine cQ rfl (fun hc2=>?_) (fun hc2=>?_)
   ·
    refine aF fun K24 k24=>wp_region_lit (aA (aB) (aA (aB) (aA (eA rfl rfl) (aA (aD) ?_))));simp only[zz];refine aC (k24 _ _ ?_);refine wp_ret ?_;try simp only[Exit.inBlock,Exit.then,if_true]
    refine bU rfl rfl ?_;try simp only[zD,zE]
    exact ⟨_,rfl,m.ext,by simp only[P3.lt_z ex ey]⟩
   ·
    have ez : p.z = q.z:=by omega
    refine wp_skip (k20 _ _ ?_);refine wp_region_lit (aA (bD (m:=2) (n:=1) (r:=3) rfl rfl (by decide)) (aA (aB) (aC (bF (aF fun K25 k25=>wp_region_lit (aA (fA (m:=3) (n:=3) rfl rfl (by decide)) (aC (k25 _ _ ?_))))))));refine aF fun K26 k26=>eQ rfl (wp_exit (k2 _ _ ?_));refine aF fun K27 k27=>wp_region_lit (aA (aD) ?_);simp only[zz];refine aC (k27 _ _ ?_);refine wp_ret ?_;try simp only[Exit.inBlock,Exit.then,if_true]
    refine bU rfl rfl ?_;try simp only[zD,zE]
    exact ⟨_,rfl,m.ext,by rw [decide_eq_false (fun h=>by unfold P3.Lt at h; omega)]⟩
theorem Wy {p q : P3} : wO prog 102 [pt p,pt q] (.int .i64 (Ha p q)):=by
 intro w;refine ⟨Zb,?_⟩;have m:=jX.refl w
 go_enter func102,ntmps102
 refine aF fun K1 k1=>wp_region_lit (vI m rfl ?_);clear m; intro g1 u m;simp only[zz];refine vI m rfl ?_;clear m; intro g2 u m;refine aA (aD) (aC (k1 _ _ ?_));refine aF fun K2 k2=>wp_block (aF fun K3 k3=>wp_region_lit ?_);simp only[zz];refine aI rfl ((m.b 1 rfl).full bK aO) ?_;simp only[zz];refine aI rfl ((m.b 0 rfl).full bK aO) ?_;simp only[zz];refine Gz m rfl rfl (Nh) ?_;clear m; intro u m;refine aA (aD) (aC (k3 _ _ ?_));simp only[zz];refine cQ rfl (fun hc1=>?_) (fun hc1=>?_)
 ·
  refine aF fun K4 k4=>wp_region_lit (aA (aD) (aC (k4 _ _ ?_)));refine wp_ret ?_;simp only[zz];try simp only[Exit.inBlock,Exit.then,if_true]
  refine bU rfl rfl ?_;try simp only[zD,zE]
  exact ⟨_,rfl,m.ext,by simp [Ha,hc1]⟩
 ·
  refine aF fun K5 k5=>wp_region_lit (aI rfl ((m.b 0 rfl).full bK aO) ?_);simp only[zz];refine aI rfl ((m.b 1 rfl).full bK aO) ?_;simp only[zz];refine Gz m rfl rfl (Nh) ?_;clear m; intro u m;refine aA (aD) (aC (k5 _ _ ?_));simp only[zz];refine cQ rfl (fun hc2=>?_) (fun hc2=>?_)
  ·
   refine aF fun K6 k6=>wp_region_lit (aA (aD) (aC (k6 _ _ ?_)));refine wp_ret ?_;simp only[zz];try simp only[Exit.inBlock,Exit.then,if_true]
   refine bU rfl rfl ?_;try simp only[zD,zE]
   exact ⟨_,rfl,m.ext,by simp [Ha,hc1,hc2]⟩
  ·
   refine wp_skip (k2 _ _ ?_);refine aF fun K7 k7=>wp_region_lit (aA (aD) (aC (k7 _ _ ?_)));refine wp_ret ?_;simp only[zz];try simp only[Exit.inBlock,Exit.then,if_true]
   refine bU rfl rfl ?_;try simp only[zD,zE]
   exact ⟨_,rfl,m.ext,by simp [Ha,hc1,hc2]⟩
end Go.Proofs.YtimjandkmfcmiaaGreatDoor
namespace Go.Proofs
open Go.Shelf
def Tryz.sort129_ren : Go.Shelf.Ren:=⟨fun | 6=>129 | 15=>147 | 14=>146 | 28=>168 | 29=>149 | 20=>160 | 21=>161 | 22=>162 | 23=>163 | 24=>164 | 25=>165 | 26=>166 | 27=>167 | 46=>178 | 47=>179 | 48=>180 | 49=>181 | 50=>182 | 57=>185 | n=>n,fun | 22=>26 | 24=>56 | 25=>149 | 3=>3 | 39=>103 | 0=>0 | 53=>212 | 55=>101 | 4=>4 | 46=>206 | 45=>205 | 50=>126 | 5=>5 | 9=>9 | 66=>225 | 70=>229 | 76=>231 | 77=>184 | n=>n,fun | n=>n⟩
theorem Tryz.sort129 : Go.Proofs.SlLaysF0.n6 Tryz.prog Tryz.sort129_ren:={
 mixed:=by kernel_rfl
 f6:=⟨Tryz.f129.name,by decide,Tryz.func129.trans (congrArg some (by kernel_rfl))⟩
 f14:=⟨Tryz.f146.name,by decide,Tryz.func146.trans (congrArg some (by kernel_rfl))⟩
 f15:=Tryz.func147.trans (congrArg some (by kernel_rfl))
 f20:=⟨Tryz.f160.name,by decide,Tryz.func160.trans (congrArg some (by kernel_rfl))⟩
 f21:=⟨Tryz.f161.name,by decide,Tryz.func161.trans (congrArg some (by kernel_rfl))⟩
 f22:=⟨Tryz.f162.name,by decide,Tryz.func162.trans (congrArg some (by kernel_rfl))⟩
 f23:=⟨Tryz.f163.name,by decide,Tryz.func163.trans (congrArg some (by kernel_rfl))⟩
 f24:=⟨Tryz.f164.name,by decide,Tryz.func164.trans (congrArg some (by kernel_rfl))⟩
 f25:=⟨Tryz.f165.name,by decide,Tryz.func165.trans (congrArg some (by kernel_rfl))⟩
 f26:=⟨Tryz.f166.name,by decide,Tryz.func166.trans (congrArg some (by kernel_rfl))⟩
 f27:=⟨Tryz.f167.name,by decide,Tryz.func167.trans (congrArg some (by kernel_rfl))⟩
 f28:=Tryz.func168.trans (congrArg some (by kernel_rfl))
 f29:=Tryz.func149.trans (congrArg some (by kernel_rfl))
 f46:=⟨Tryz.f178.name,by decide,Tryz.func178.trans (congrArg some (by kernel_rfl))⟩
 f47:=Tryz.func179.trans (congrArg some (by kernel_rfl))
 f48:=Tryz.func180.trans (congrArg some (by kernel_rfl))
 f49:=⟨Tryz.f181.name,by decide,Tryz.func181.trans (congrArg some (by kernel_rfl))⟩
 f50:=⟨Tryz.f182.name,by decide,Tryz.func182.trans (congrArg some (by kernel_rfl))⟩
 f57:=⟨Tryz.f185.name,by decide,Tryz.func185.trans (congrArg some (by kernel_rfl))⟩
 t0:=Tryz.underlying0
 a0:=Tryz.isAgg0
 z0:=Tryz.sizeOf0
 v0:=Tryz.zeroValue0
 t3:=Tryz.underlying3
 a3:=Tryz.isAgg3
 z3:=Tryz.sizeOf3
 v3:=Tryz.zeroValue3
 t4:=Tryz.underlying4
 a4:=Tryz.isAgg4
 z4:=Tryz.sizeOf4
 v4:=Tryz.zeroValue4
 t5:=Tryz.underlying5
 a5:=Tryz.isAgg5
 z5:=Tryz.sizeOf5
 v5:=Tryz.zeroValue5
 t9:=Tryz.underlying9
 a9:=Tryz.isAgg9
 z9:=Tryz.sizeOf9
 v9:=Tryz.zeroValue9
 t22:=Tryz.underlying26
 a22:=Tryz.isAgg26
 z22:=Tryz.sizeOf26
 v22:=Tryz.zeroValue26
 t25:=Tryz.underlying149
 a25:=Tryz.isAgg149
 z25:=Tryz.sizeOf149
 v25:=Tryz.zeroValue149
 t39:=Tryz.underlying103
 a39:=Tryz.isAgg103
 z39:=Tryz.sizeOf103
 v39:=Tryz.zeroValue103
 t45:=Tryz.underlying205
 a45:=Tryz.isAgg205
 z45:=Tryz.sizeOf205
 v45:=Tryz.zeroValue205
 t46:=Tryz.underlying206
 a46:=Tryz.isAgg206
 z46:=Tryz.sizeOf206
 v46:=Tryz.zeroValue206
 t50:=Tryz.underlying126
 a50:=Tryz.isAgg126
 z50:=Tryz.sizeOf126
 v50:=Tryz.zeroValue126
 t53:=Tryz.underlying212
 a53:=Tryz.isAgg212
 z53:=Tryz.sizeOf212
 v53:=Tryz.zeroValue212
 t55:=Tryz.underlying101
 a55:=Tryz.isAgg101
 z55:=Tryz.sizeOf101
 v55:=Tryz.zeroValue101
 t66:=Tryz.underlying225
 a66:=Tryz.isAgg225
 z66:=Tryz.sizeOf225
 v66:=Tryz.zeroValue225
 t70:=Tryz.underlying229
 a70:=Tryz.isAgg229
 z70:=Tryz.sizeOf229
 v70:=Tryz.zeroValue229
 t76:=Tryz.underlying231
 a76:=Tryz.isAgg231
 z76:=Tryz.sizeOf231
 v76:=Tryz.zeroValue231
 t77:=Tryz.underlying184
 a77:=Tryz.isAgg184
 z77:=Tryz.sizeOf184
 v77:=Tryz.zeroValue184 }
end Go.Proofs
