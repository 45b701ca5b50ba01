/-
 Texts of one claim, laid together: Guard, Geo6, Open, Surf, Surf2, Lat, Chk, Facts, Facts2, Map0, Map, Map2, Rchk, Sort, Sets, Box.
-/
import Derived.OpenShut
import Derived.Lib.SmallJoins
import Derived.Deep.Slices
import Derived.Test.YtfekpcimgncioaaGreatDoorProg
import Derived.Maps.RangeRun
import Derived.Shelf.SlSortCmp.WholeK
import Derived.Shelf.SlSortCmp.NoneTotal
import Derived.Test.YtfekpcimgncioaaGreatDoorCW1
set_option maxHeartbeats 8000000
set_option linter.unusedSimpArgs false
set_option linter.unusedVariables false
set_option linter.unusedSectionVars false
namespace Go.Lith
open Go.RowKit
@[irreducible] def Il (c : Bool) (v : Value) : Value:=if c then v else undef
theorem iZ {v : Value} : Il true v = v:=by simp [Il]
theorem wY {v : Value} : Il false v = undef:=by simp [Il]
theorem bW {c : Bool} {u v : Value} (hb : c = true) (h : u = Il c v) : u = v:=by rw [h,hb,iZ]
section
variable {P : Program} {ds : List Deferred} {l : List Value} {x y : Operand} {T ty : TypeId} {b c : Bool} {v : Value}
theorem eS {z : Operand} (hz : ev l z = .bool b) (hx : ev l x = Il b (.bool c)) (hy : ev l y = .bool false) : fC P l (.pick z x y) ty (.bool (b && c)):=by
 have:=Ln (P:=P) (ty:=ty) (x:=x) (y:=y) hz;cases b with
 | false=>simpa [hy] using this
 | true=>simpa [hx,iZ] using this
theorem fH {z : Operand} (hz : ev l z = .bool b) (hx : ev l x = .bool true) (hy : ev l y = Il (!b) (.bool c)) : fC P l (.pick z x y) ty (.bool (b || c)):=by
 have:=Ln (P:=P) (ty:=ty) (x:=x) (y:=y) hz;cases b with
 | false=>simpa [hy,iZ] using this
 | true=>simpa [hx] using this
end
section
variable {P : Program} {ops : Array Oper} {Q : Exit → Act → World → Prop} {rest : List Oper} {d j : Nat} {op : Op} {ty : TypeId} {pos : String} {after : Array Edge} {v : Value} {b : Bool} {ds : List Deferred} {l : List Value} {w w0 : World} {is : List It}
theorem gK (hw : yielded ops l.toArray j = some b) (hr : b = true → tX P l op ty v w) (h : wpList P ops Q rest (Fr (l.set d (Il b v)) ds) w) : wpList P ops Q (Oper.mk (some d) op ty pos after (some (j,true)) :: rest) (Fr l ds) w:=by
 cases b with
 | false=>rw [wY] at h;exact dY hw h
 | true=>rw [iZ] at h;exact bM hw (eY (hr rfl) h)
theorem eW (hw : yielded ops l.toArray j = some b) (hr : (!b) = true → tX P l op ty v w) (h : wpList P ops Q rest (Fr (l.set d (Il (!b) v)) ds) w) : wpList P ops Q (Oper.mk (some d) op ty pos after (some (j,false)) :: rest) (Fr l ds) w:=by
 cases b with
 | true=>rw [Bool.not_true,wY] at h;exact jV hw h
 | false=>rw [Bool.not_false,iZ] at h;exact bM hw (eY (hr rfl) h)
theorem jF (hw : yielded ops l.toArray j = some b) (hr : b = true → fC P l op ty v) (h : wpList P ops Q rest (Fr (l.set d (Il b v)) ds) w) : wpList P ops Q (Oper.mk (some d) op ty pos after (some (j,true)) :: rest) (Fr l ds) w:=gK hw (fun e=>hr e w) h
theorem fU (hw : yielded ops l.toArray j = some b) (hr : (!b) = true → fC P l op ty v) (h : wpList P ops Q rest (Fr (l.set d (Il (!b) v)) ds) w) : wpList P ops Q (Oper.mk (some d) op ty pos after (some (j,false)) :: rest) (Fr l ds) w:=eW hw (fun e=>hr e w) h
theorem Wb {f : FuncId} {fo : Operand} {xs : Array Operand} {args : List Value} {first cap : Array Value} {a0 : Array TypeId} (m : Mem w0 w is) (hw : yielded ops l.toArray j = some b) (hf : ev l fo = .func (.func f) first cap) (hxs : b = true → first.toList ++ xs.toList.map (ev l) ++ cap.toList = args) (hc : b = true → eQ P f args v)
 (h : ∀ u,Mem w0 u is → wpList P ops Q rest (Fr (l.set d (Il b v)) ds) u) : wpList P ops Q (Oper.mk (some d) (.call { callee:=.value fo,args:=xs,argTypes:=a0 }) ty pos after (some (j,true)) :: rest) (Fr l ds) w:=by
 cases b with
 | false=>simp only[wY] at h;exact dY hw (h w m)
 | true=>simp only[iZ] at h;exact bM hw (dH m hf (hxs rfl) (hc rfl) h)
theorem Mb {f : FuncId} {fo : Operand} {xs : Array Operand} {args : List Value} {first cap : Array Value} {a0 : Array TypeId} (m : Mem w0 w is) (hw : yielded ops l.toArray j = some b) (hf : ev l fo = .func (.func f) first cap) (hxs : (!b) = true → first.toList ++ xs.toList.map (ev l) ++ cap.toList = args) (hc : (!b) = true → eQ P f args v)
 (h : ∀ u,Mem w0 u is → wpList P ops Q rest (Fr (l.set d (Il (!b) v)) ds) u) : wpList P ops Q (Oper.mk (some d) (.call { callee:=.value fo,args:=xs,argTypes:=a0 }) ty pos after (some (j,false)) :: rest) (Fr l ds) w:=by
 cases b with
 | true=>simp only[Bool.not_true,wY] at h;exact jV hw (h w m)
 | false=>simp only[Bool.not_false,iZ] at h;exact bM hw (dH m hf (hxs rfl) (hc rfl) h)
end
section
variable {P : Program} {ops : Array Oper} {Q : Act → Prop} {C : World → Prop} {rest : List Oper} {d j : Nat} {op : Op} {ty : TypeId} {pos : String} {after : Array Edge} {v : Value} {b : Bool} {ds : List Deferred} {l : List Value} {w0 : World} {is : List It}
theorem eL (hw : yielded ops l.toArray j = some b) (hr : b = true → ∀ u,C u → tX P l op ty v u) (h : wpQuiet P ops C Q rest (Fr (l.set d (Il b v)) ds)) : wpQuiet P ops C Q (Oper.mk (some d) op ty pos after (some (j,true)) :: rest) (Fr l ds):=by
 cases b with
 | false=>rw [wY] at h;exact pZ hw h
 | true=>rw [iZ] at h;exact eF hw (gZ (hr rfl) h)
theorem lS (hw : yielded ops l.toArray j = some b) (hr : (!b) = true → ∀ u,C u → tX P l op ty v u) (h : wpQuiet P ops C Q rest (Fr (l.set d (Il (!b) v)) ds)) : wpQuiet P ops C Q (Oper.mk (some d) op ty pos after (some (j,false)) :: rest) (Fr l ds):=by
 cases b with
 | true=>rw [Bool.not_true,wY] at h;exact eH hw h
 | false=>rw [Bool.not_false,iZ] at h;exact eF hw (gZ (hr rfl) h)
theorem dJ (hw : yielded ops l.toArray j = some b) (hr : b = true → fC P l op ty v) (h : wpQuiet P ops C Q rest (Fr (l.set d (Il b v)) ds)) : wpQuiet P ops C Q (Oper.mk (some d) op ty pos after (some (j,true)) :: rest) (Fr l ds):=eL hw (fun e u _=>hr e u) h
theorem fL (hw : yielded ops l.toArray j = some b) (hr : (!b) = true → fC P l op ty v) (h : wpQuiet P ops C Q rest (Fr (l.set d (Il (!b) v)) ds)) : wpQuiet P ops C Q (Oper.mk (some d) op ty pos after (some (j,false)) :: rest) (Fr l ds):=lS hw (fun e u _=>hr e u) h
theorem Mc {f : FuncId} {fo : Operand} {xs : Array Operand} {args : List Value} {first cap : Array Value} {a0 : Array TypeId} (hw : yielded ops l.toArray j = some b) (hf : ev l fo = .func (.func f) first cap) (hxs : b = true → first.toList ++ xs.toList.map (ev l) ++ cap.toList = args) (hc : b = true → eQ P f args v)
 (h : wpQuiet P ops (fun u=>Mem w0 u is) Q rest (Fr (l.set d (Il b v)) ds)) : wpQuiet P ops (fun u=>Mem w0 u is) Q (Oper.mk (some d) (.call { callee:=.value fo,args:=xs,argTypes:=a0 }) ty pos after (some (j,true)) :: rest) (Fr l ds):=by
 cases b with
 | false=>rw [wY] at h;exact pZ hw h
 | true=>rw [iZ] at h;exact eF hw (gV hf (hxs rfl) (hc rfl) h)
theorem Wc {f : FuncId} {fo : Operand} {xs : Array Operand} {args : List Value} {first cap : Array Value} {a0 : Array TypeId} (hw : yielded ops l.toArray j = some b) (hf : ev l fo = .func (.func f) first cap) (hxs : (!b) = true → first.toList ++ xs.toList.map (ev l) ++ cap.toList = args) (hc : (!b) = true → eQ P f args v)
 (h : wpQuiet P ops (fun u=>Mem w0 u is) Q rest (Fr (l.set d (Il (!b) v)) ds)) : wpQuiet P ops (fun u=>Mem w0 u is) Q (Oper.mk (some d) (.call { callee:=.value fo,args:=xs,argTypes:=a0 }) ty pos after (some (j,false)) :: rest) (Fr l ds):=by
 cases b with
 | true=>rw [Bool.not_true,wY] at h;exact eH hw h
 | false=>rw [Bool.not_false,iZ] at h;exact eF hw (gV hf (hxs rfl) (hc rfl) h)
end
section
variable {P : Program} {ops : Array Oper} {S : World → Prop} {Q : Exit → Act → World → Prop} {rest : List (Oper × Bool)} {d j : Nat} {op : Op} {ty : TypeId} {pos : String} {after : Array Edge} {v : Value} {b : Bool} {ds : List Deferred} {l : List Value} {w : World}
theorem yX (hw : yielded ops l.toArray j = some b) (hr : b = true → ∀ u,S u → tX P l op ty v u) (h : bL P ops S Q rest (Fr (l.set d (Il b v)) ds) w) : bL P ops S Q ((Oper.mk (some d) op ty pos after (some (j,true)),true) :: rest) (Fr l ds) w:=by
 cases b with
 | false=>rw [wY] at h;exact oB hw h
 | true=>rw [iZ] at h;exact iH hw (Sl (hr rfl) h)
theorem Ce (hw : yielded ops l.toArray j = some b) (hr : b = true → fC P l op ty v) (h : bL P ops S Q rest (Fr (l.set d (Il b v)) ds) w) : bL P ops S Q ((Oper.mk (some d) op ty pos after (some (j,true)),true) :: rest) (Fr l ds) w:=yX hw (fun e u _=>hr e u) h
end
end Go.Lith
namespace Go.Lith
open Go.RowKit
end Go.Lith
namespace Go.Lith
open Go.RowKit Go.ChangeShapes
variable {H : Type} {enc : TypeId × Value → H} {P : Program} {w : World} {base : Nat} {spare : Nat → Bool} {held : Bool}
def pH (P : Program) : Nat → TypeId → Bool
 | 0,_=>false
 | n + 1,t=>match P.underlying t with
  | some (.int .i64)=>decide (P.cellsOf t = 1)
  | some (.struct fs)=>(fs.toList.all fun f=>pH P n f.type) && (List.range (P.cellsOf t)).all fun i=>fs.toList.any fun f=>decide (f.offset ≤ i) && decide (i < f.offset + P.cellsOf f.type)
  | some (.array m e)=>pH P n e && decide (P.cellsOf t = m * P.cellsOf e)
  | _=>false
theorem afM {n : Int} (h : (Lit.int .i64 n).wf = true) : tU n:=by
 have:=bounds_i64 h;exact ⟨by omega,by omega⟩
theorem sM : ∀ (n : Nat) (t : TypeId) (m : Nat) (cs : List Value) (x : DataW H × List MemPlace),pH P n t = true → DataW.trod enc P w base spare held m t cs = some x →
 cs.length = P.cellsOf t ∧ ∀ v ∈ cs,∃ z,v = .int .i64 z ∧ tU z
 | 0,t,m,cs,x,h,_=>by cases h
 | n + 1,t,m,cs,x,h,hx=>by
  unfold pH at h;split at h
  · rename_i hu
    obtain ⟨z,rfl,_,hz⟩:=DataW.trod_int hu hx;refine ⟨by rw [of_decide_eq_true h];rfl,fun v hv=>⟨z,by simpa using hv,afM hz⟩⟩
  · rename_i fs hu
    simp only[Bool.and_eq_true,List.all_eq_true,List.any_eq_true,decide_eq_true_eq,List.mem_range] at h;obtain ⟨ys,k,_,_,hl,hlen,hf⟩:=DataW.trod_struct hu hx;refine ⟨hl,fun v hv=>?_⟩;obtain ⟨i,hi,rfl⟩:=List.getElem_of_mem hv;obtain ⟨f,hfm,h1,h2⟩:=h.2 i (by rw [← hl];exact hi);obtain ⟨j,hj,rfl⟩:=List.getElem_of_mem hfm;have hj' : j < fs.size:=by simpa using hj
    have:=hf j fs[j] (Array.getElem?_eq_getElem hj');rw [List.getElem?_eq_getElem (by rw [hlen];exact hj')] at this;have hr:=(sM n _ _ _ _ (h.1 _ (List.getElem_mem hj)) this).2;refine hr _ ?_;simp only[Array.getElem_toList] at h1 h2;refine List.mem_of_getElem? (i:=i - fs[j].offset) ?_;rw [List.getElem?_take,if_pos (by omega),List.getElem?_drop,show fs[j].offset + (i - fs[j].offset) = i by omega];exact List.getElem?_eq_getElem hi
  · rename_i q e hu
    simp only[Bool.and_eq_true,decide_eq_true_eq] at h;obtain ⟨ys,k,_,_,hl,hlen,hf⟩:=DataW.trod_array hu hx;refine ⟨hl,fun v hv=>?_⟩;obtain ⟨i,hi,rfl⟩:=List.getElem_of_mem hv;rw [hl,h.2] at hi;have hc : 0 < P.cellsOf e:=by
     rcases Nat.eq_zero_or_pos (P.cellsOf e) with h0 | h0
     · rw [h0] at hi;omega
     · exact h0
    have hq : i / P.cellsOf e < q:=Nat.div_lt_of_lt_mul (by rw [Nat.mul_comm];exact hi);have:=hf _ hq;rw [List.getElem?_eq_getElem (by rw [hlen];exact hq)] at this;have hr:=(sM n _ _ _ _ h.1 this).2;refine hr _ (List.mem_of_getElem? (i:=i % P.cellsOf e) ?_);rw [List.getElem?_take,if_pos (Nat.mod_lt _ hc),List.getElem?_drop,Nat.mul_comm,Nat.div_add_mod];exact List.getElem?_eq_getElem _
  · cases h
theorem Ke : ∀ (n : Nat) (cs : List Value),cs.length = n → (∀ v ∈ cs,∃ z,v = .int .i64 z ∧ tU z) → ∃ zs : List Int,zs.length = n ∧ cs = zs.map (.int .i64 ·) ∧ ∀ z ∈ zs,tU z
 | 0,[],_,_=>⟨[],rfl,rfl,fun _ h=>by cases h⟩
 | n + 1,v :: vs,h,hv=>by
  obtain ⟨zs,h1,h2,h3⟩:=Ke n vs (by simpa using h) (fun u hu=>hv u (by simp [hu]));obtain ⟨z,rfl,hz⟩:=hv v (by simp);exact ⟨z :: zs,by simp [h1],by simp [h2],fun u hu=>by rcases List.mem_cons.1 hu with rfl | hu;exact hz;exact h3 _ hu⟩
theorem akt {zs : List Int} (h : zs.length = 9) : ∃ a b c d e f g i j,zs = [a,b,c,d,e,f,g,i,j]:=by
 match zs,h with
 | [a,b,c,d,e,f,g,i,j],_=>exact ⟨a,b,c,d,e,f,g,i,j,rfl⟩
theorem Sx {a : Addr} {n : Nat} {cs : List Value} (h : w.cells? base a n = some cs) : mP w a cs ∧ base ≤ a.block:=by
 unfold World.cells? at h;split at h
 · rename_i hb
   refine ⟨fun j u hj=>?_,hb⟩;have hl:=mapM_some_length h;have hj' : j < cs.length:=(List.getElem?_eq_some_iff.1 hj).1;rw [hl] at hj';have:=mapM_some_get h j j (List.getElem?_eq_getElem hj' ▸ by simp);rw [this,hj]
 · cases h
theorem Yf {n m : Nat} {t e : TypeId} {fuel : Nat} {cs : List Value} {x : DataW H × List MemPlace} (hu : P.underlying t = some (.slice e)) (hi : pH P n e = true) (hc : P.cellsOf e = m) (h : DataW.trod enc P w base spare held fuel t cs = some x) :
 ∃ (A : Option Addr) (len cap : Nat),cs = [.slice A len cap] ∧ len ≤ cap ∧ cap ≤ maxLen ∧ (A = none → len = 0) ∧ ∀ i,i < len → ∃ (a : Addr) (zs : List Int),A = some a ∧ base ≤ a.block ∧ mP w (a.add (i * m)) (zs.map (Value.int .i64 ·)) ∧ zs.length = m ∧ ∀ z ∈ zs,tU z:=by
 rcases Deep.open_slice hu h with ⟨rfl,_⟩ | ⟨a,len,cap,k,q,D,Pl,rfl,hb,hl,hm,hk,_,hx⟩
 · exact ⟨none,0,0,rfl,Nat.le_refl _,Nat.zero_le _,fun _=>rfl,fun i hi=>absurd hi (Nat.not_lt_zero _)⟩
 · refine ⟨some a,len,cap,rfl,hl,hm,fun h=>(by cases h),fun i hi'=>?_⟩
   obtain ⟨cs',h1,h2⟩:=hx i (by rw [hk];split <;> omega);obtain ⟨h3,h4⟩:=sM n e q _ _ hi h2;obtain ⟨zs,h5,rfl,h6⟩:=Ke m cs' (by rw [← hc];exact h3) h4;rw [hc] at h1;exact ⟨a,zs,rfl,hb,(Sx h1).1,h5,h6⟩
theorem Dk {α : Type} {p : Nat → α → Prop} : ∀ (n : Nat),(∀ i,i < n → ∃ x,p i x) → ∃ l : List α,l.length = n ∧ ∀ i x,l[i]? = some x → p i x
 | 0,_=>⟨[],rfl,fun i x h=>by simp at h⟩
 | n + 1,h=>by
  obtain ⟨l,h1,h2⟩:=Dk n (fun i hi=>h i (by omega));obtain ⟨x,hx⟩:=h n (by omega);refine ⟨l ++ [x],by simp [h1],fun i y hy=>?_⟩;rcases Nat.lt_trichotomy i n with hi | hi | hi
  · exact h2 i y (by rwa [List.getElem?_append_left (by omega)] at hy)
  · subst hi
    rw [List.getElem?_append_right (by omega),h1,Nat.sub_self] at hy;cases hy;exact hx
  · rw [List.getElem?_append_right (by omega),h1] at hy
    have : i - n ≠ 0:=by omega
    cases hd : i - n with
    | zero=>omega
    | succ j=>rw [hd] at hy;simp at hy
theorem Yg {n : Nat} {t e : TypeId} {fuel : Nat} {cs : List Value} {x : DataW H × List MemPlace} (hu : P.underlying t = some (.slice e)) (hi : pH P n e = true) (hc : P.cellsOf e = 9) (h : DataW.trod enc P w base spare held fuel t cs = some x) :
 ∃ (A : Option Addr) (len cap : Nat) (ts : List T3),cs = [.slice A len cap] ∧ len ≤ cap ∧ cap ≤ maxLen ∧ (A = none → len = 0) ∧ bY w A len ts:=by
 obtain ⟨A,len,cap,rfl,h1,h2,h3,h4⟩:=Yf hu hi hc h;obtain ⟨ts,h5,h6⟩:=Dk (p:=fun i (t : T3)=>IT t ∧ ∃ a,A = some a ∧ mP w (a.add (i * 9)) (aW t)) len (fun i hi=>by
  obtain ⟨a,zs,rfl,_,hr,hl,hz⟩:=h4 i hi;obtain ⟨x1,x2,x3,y1,y2,y3,z1,z2,z3,rfl⟩:=akt hl;exact ⟨⟨⟨x1,x2,x3⟩,⟨y1,y2,y3⟩,⟨z1,z2,z3⟩⟩,⟨⟨hz _ (by simp),hz _ (by simp),hz _ (by simp)⟩,⟨hz _ (by simp),hz _ (by simp),hz _ (by simp)⟩,⟨hz _ (by simp),hz _ (by simp),hz _ (by simp)⟩⟩,a,rfl,hr⟩)
 refine ⟨A,len,cap,ts,rfl,h1,h2,h3,h5,fun t ht=>?_,fun i t ht=>(h6 i t ht).2⟩;obtain ⟨i,hi,rfl⟩:=List.getElem_of_mem ht;exact (h6 i _ (List.getElem?_eq_getElem hi)).1
end Go.Lith
namespace Go.Lith
open Go.RowKit
theorem ae1 {n m : Int} (hm : 0 < m) : -m < n.tmod m ∧ n.tmod m < m:=by
 have h1:=Int.tmod_lt_of_pos n hm;have h2:=Int.tmod_lt_of_pos (-n) hm;rw [Int.neg_tmod] at h2;omega
theorem adL {n m : Int} (hm : 0 < m) : (n.tmod m + m).tmod m = n % m:=by
 have hb:=ae1 (n:=n) hm;rw [Int.tmod_eq_emod_of_nonneg (by omega)];rcases Int.le_total 0 n with h | h
 · rw [Int.tmod_eq_emod_of_nonneg h]
   simp
 · have e : n.tmod m = -((-n) % m):=by
    rw [← Int.tmod_eq_emod_of_nonneg (show 0 ≤ -n by omega),Int.neg_tmod,Int.neg_neg]
   rw [e,Int.add_emod_right];have h2:=Int.emod_add_mul_ediv (-n) m;have h3 : -((-n) % m) = n + m * (-n / m):=by omega
   rw [h3,Int.add_mul_emod_self_left]
/-! ### Hills -/
theorem Dl {α β : Type} {f : α → List β} {k : Nat} : ∀ (l : List α),(∀ x ∈ l,(f x).length = k) → (l.flatMap f).length = l.length * k
 | [],_=>by simp
 | x :: l,h=>by
  rw [List.flatMap_cons,List.length_append,h x (by simp),Dl l (fun y hy=>h y (by simp [hy])),List.length_cons,Nat.add_mul,Nat.one_mul,Nat.add_comm]
/-! ### Cubes -/
/-! ### What the walks ask for -/
theorem aiN {k c : Nat} : (k : Int).tmod (c : Int) = ((k % c : Nat) : Int):=rfl
end Go.Lith
namespace Go.Lith
open Go.RowKit
def T3.cor (t : T3) (c : Nat) : P3:=if c = 0 then t.a else if c = 1 then t.b else t.c
def T3.setC (t : T3) (c : Nat) (p : P3) : T3:=if c = 0 then ⟨p,t.b,t.c⟩ else if c = 1 then ⟨t.a,p,t.c⟩ else ⟨t.a,t.b,p⟩
theorem akl {t : T3} {c : Nat} {p : P3} (hc : c < 3) : bB (aW t) (c * 3) [.int .i64 p.x,.int .i64 p.y,.int .i64 p.z] = aW (t.setC c p):=by
 have : c = 0 ∨ c = 1 ∨ c = 2:=by omega
 rcases this with rfl | rfl | rfl <;> rfl
section
variable {w0 w : World} {S : List (Option Nat)} {E : TypeId} {n cap : Nat} {A : Option Addr} {ts : List T3}
theorem mP.cor {a : Addr} {t : T3} {c : Nat} (h : mP w a (aW t)) (hc : c < 3) : mP w (a.add (c * 3)) [.int .i64 (t.cor c).x,.int .i64 (t.cor c).y,.int .i64 (t.cor c).z]:=by
 have:=(h.sub (c * 3)).take 3;have e : c = 0 ∨ c = 1 ∨ c = 2:=by omega
 rcases e with rfl | rfl | rfl <;> exact this
theorem bY.take {N k : Nat} (h : bY w A N ts) (hk : k ≤ N) : bY w A k (ts.take k) :=
 ⟨by rw [List.length_take,h.len];omega,fun t ht=>h.it t (List.mem_of_mem_take ht),fun i t ht=>h.row i t (by rw [List.getElem?_take] at ht;split at ht;exact ht;cases ht)⟩
end
end Go.Lith
namespace Go.Lith
open Go.RowKit
section
variable {α : Type} {enc : α → List Value} {c : Nat} {w w' : World} {A : Option Addr} {n : Nat} {xs : List α}
structure Ek (enc : α → List Value) (c : Nat) (w : World) (A : Option Addr) (n : Nat) (xs : List α) : Prop where
 len : xs.length = n
 row : ∀ i x,xs[i]? = some x → ∃ a,A = some a ∧ mP w (a.add (i * c)) (enc x)
theorem Ek.ext (h : Ek enc c w A n xs) (hE : eB w w') : Ek enc c w' A n xs:=⟨h.len,fun i x hi=>let ⟨a,e,hr⟩:=h.row i x hi;⟨a,e,hr.ext hE⟩⟩
theorem Ek.get (h : Ek enc c w A n xs) {i : Nat} (hi : i < n) : ∃ x,xs[i]? = some x ∧ ∃ a,A = some a ∧ mP w (a.add (i * c)) (enc x):=by
 have hl : i < xs.length:=by rw [h.len];exact hi
 exact ⟨xs[i],List.getElem?_eq_getElem hl,h.row i _ (List.getElem?_eq_getElem hl)⟩
theorem Ek.at {a : Addr} (h : Ek enc c w (some a) n xs) {i : Nat} {x : α} (hx : xs[i]? = some x) : mP w (a.add (i * c)) (enc x):=by
 obtain ⟨b,e,hr⟩:=h.row i x hx;cases e;exact hr
theorem Ek.take (h : Ek enc c w A n xs) {k : Nat} (hk : k ≤ n) : Ek enc c w A k (xs.take k) :=
 ⟨by rw [List.length_take,h.len];omega,fun i x hx=>h.row i x (by rw [List.getElem?_take] at hx;split at hx;exact hx;cases hx)⟩
theorem kA (hc : ∀ x,(enc x).length = c) : ∀ xs : List α,(xs.flatMap enc).length = xs.length * c
 | []=>by simp
 | x :: xs=>by rw [List.flatMap_cons,List.length_append,hc,kA hc xs,List.length_cons,Nat.add_mul,Nat.one_mul,Nat.add_comm]
theorem sN (hc : ∀ x,(enc x).length = c) : ∀ (xs : List α) (k : Nat),(xs.drop k).flatMap enc = (xs.flatMap enc).drop (k * c)
 | xs,0=>by simp
 | [],k + 1=>by simp
 | x :: xs,k + 1=>by
  rw [List.drop_succ_cons,List.flatMap_cons,sN hc xs k,List.drop_append,hc,List.drop_of_length_le (l:=enc x) (by rw [hc,Nat.add_mul];omega),Nat.add_mul,Nat.one_mul,Nat.add_sub_cancel,List.nil_append]
theorem Gg (hc : ∀ x,(enc x).length = c) : ∀ (xs : List α) (k : Nat),(xs.take k).flatMap enc = (xs.flatMap enc).take (k * c)
 | xs,0=>by simp
 | [],k + 1=>by simp
 | x :: xs,k + 1=>by
  rw [List.take_succ_cons,List.flatMap_cons,List.flatMap_cons,Gg hc xs k,List.take_append,hc,List.take_of_length_le (l:=enc x) (by rw [hc,Nat.add_mul];omega),Nat.add_mul,Nat.one_mul,Nat.add_sub_cancel]
theorem Gh (hc : ∀ x,(enc x).length = c) {xs : List α} {i : Nat} {x : α} (h : xs[i]? = some x) : (xs.flatMap enc).drop (i * c) = enc x ++ (xs.drop (i + 1)).flatMap enc:=by
 rw [← sN hc,List.drop_eq_getElem_cons (List.getElem?_eq_some_iff.1 h).1,List.flatMap_cons,(List.getElem?_eq_some_iff.1 h).2]
theorem Ow.at {w0 : World} {S : List (Option Nat)} {E : TypeId} {cap g i : Nat} {x : α} (hc : ∀ x,(enc x).length = c) (h : Ow w0 w S E c (Option.some ⟨g,0,none⟩) n cap (xs.flatMap enc)) (hx : xs[i]? = Option.some x) : mP w ((⟨g,0,none⟩ : Addr).add (i * c)) (enc x):=by
 intro j u hj;have hj' : j < (enc x).length:=(List.getElem?_eq_some_iff.1 hj).1;rw [iW];refine h.rows _ _ ?_;rw [← List.getElem?_drop,Gh hc hx,List.getElem?_append_left hj'];exact hj
theorem Ow.num {w0 : World} {S : List (Option Nat)} {E : TypeId} {cap : Nat} (hc : ∀ x,(enc x).length = c) (h0 : 0 < c) (h : Ow w0 w S E c A n cap (xs.flatMap enc)) : xs.length = n:=by
 have:=h.own.1;rw [kA hc] at this;exact Nat.eq_of_mul_eq_mul_right h0 this
theorem Ow.lat {w0 : World} {S : List (Option Nat)} {E : TypeId} {cap : Nat} (hc : ∀ x,(enc x).length = c) (h0 : 0 < c) (h : Ow w0 w S E c A n cap (xs.flatMap enc)) : Ek enc c w A n xs :=
 ⟨h.num hc h0,fun i x hx=>by
  have hi:=(List.getElem?_eq_some_iff.1 hx).1;have hn:=h.num hc h0;obtain ⟨g,rfl⟩:=h.some (by omega);exact ⟨_,rfl,h.at hc hx⟩⟩
theorem Ek.cells (hc : ∀ x,(enc x).length = c) (h0 : 0 < c) (h : Ek enc c w A n xs) : ∀ j u,(xs.flatMap enc)[j]? = some u → ∃ a,A = some a ∧ w.cell? (a.add j) = some u:=fun j u hj=>by
 have hj':=(List.getElem?_eq_some_iff.1 hj).1;rw [kA hc] at hj';have hi : j / c < xs.length:=(Nat.div_lt_iff_lt_mul h0).2 hj';obtain ⟨a,rfl,hr⟩:=h.row (j / c) _ (List.getElem?_eq_getElem hi);refine ⟨a,rfl,?_⟩;have hm:=Nat.mod_lt j h0;have e : j = j / c * c + j % c:=by rw [Nat.mul_comm];exact (Nat.div_add_mod j c).symm
 have:=hr (j % c) u (by
  rw [e,← List.getElem?_drop,Gh hc (List.getElem?_eq_getElem hi),List.getElem?_append_left (by rw [hc];exact hm)] at hj;exact hj)
 rw [iW,← e] at this;exact this
theorem Ek.cellsD (hc : ∀ x,(enc x).length = c) (h0 : 0 < c) (h : Ek enc c w A n xs) {cap q : Nat} (hcap : n ≤ cap) : ∀ j u,((xs.drop q).flatMap enc)[j]? = some u → ∃ a,(if cap = q then A else A.map (·.add (q * c))) = some a ∧ w.cell? (a.add j) = some u:=fun j u hj=>by
 rw [sN hc,List.getElem?_drop] at hj;have hl:=(List.getElem?_eq_some_iff.1 hj).1;rw [kA hc,h.len] at hl;obtain ⟨a,rfl,hcl⟩:=h.cells hc h0 _ _ hj;have : q < n:=by
  refine Nat.lt_of_mul_lt_mul_right (a:=c) ?_;omega
 rw [if_neg (by omega)];exact ⟨_,rfl,by rw [iW];exact hcl⟩
end
theorem cQ {α : Type} {ps : List α} {k : Nat} {p : α} (h : ps[k]? = some p) : ps.take (k + 1) = ps.take k ++ [p]:=by
 rw [List.take_add_one,h];rfl
abbrev E3:=P3 × P3
def dT (e : E3) : List Value:=[.int .i64 e.1.x,.int .i64 e.1.y,.int .i64 e.1.z,.int .i64 e.2.x,.int .i64 e.2.y,.int .i64 e.2.z]
def ed (e : E3) : Value:=.agg #[.int .i64 e.1.x,.int .i64 e.1.y,.int .i64 e.1.z,.int .i64 e.2.x,.int .i64 e.2.y,.int .i64 e.2.z]
def mW (p : P3) : List Value:=[.int .i64 p.x,.int .i64 p.y,.int .i64 p.z]
theorem bY.lat {w : World} {A : Option Addr} {n : Nat} {ts : List T3} (h : bY w A n ts) : Ek aW 9 w A n ts:=⟨h.len,h.row⟩
theorem aku (es : List E3) : ∀ u ∈ es.flatMap dT,u.oneCell' = true:=fun u hu=>by
 obtain ⟨e,_,h⟩:=List.mem_flatMap.1 hu;simp only[dT,List.mem_cons,List.not_mem_nil,or_false] at h;rcases h with rfl | rfl | rfl | rfl | rfl | rfl <;> rfl
theorem Gi (ps : List P3) : ∀ u ∈ ps.flatMap mW,u.oneCell' = true:=fun u hu=>by
 obtain ⟨e,_,h⟩:=List.mem_flatMap.1 hu;simp only[mW,List.mem_cons,List.not_mem_nil,or_false] at h;rcases h with rfl | rfl | rfl <;> rfl
theorem afN (t : T3) : (aW t).length = 9:=rfl
theorem ed6 (e : E3) : (dT e).length = 6:=rfl
theorem El (p : P3) : (mW p).length = 3:=rfl
def bG (ts : List T3) : List E3:=ts.flatMap fun t=>[(t.a,t.b),(t.b,t.c),(t.c,t.a)]
theorem pI {ts : List T3} {k : Nat} {t : T3} (h : ts[k]? = some t) : bG (ts.take (k + 1)) = bG (ts.take k) ++ [(t.a,t.b),(t.b,t.c),(t.c,t.a)]:=by
 unfold bG;rw [cQ h,List.flatMap_append];simp
theorem rO (ts : List T3) : (bG ts).length = ts.length * 3:=Dl ts fun _ _=>rfl
def kH (es : List E3) (e : E3) : Nat:=(es.filter fun x=>decide (x = e)).length
theorem Pb {es : List E3} {k : Nat} {x e : E3} (h : es[k]? = some x) : kH (es.take (k + 1)) e = kH (es.take k) e + if x = e then 1 else 0:=by
 unfold kH;rw [cQ h,List.filter_append,List.length_append];by_cases hx : x = e <;> simp [hx]
theorem afO {es : List E3} {e : E3} : kH es e ≤ es.length:=List.length_filter_le _ _
end Go.Lith
namespace Go.Lith
open Go.RowKit
theorem afP {α : Type} {is : List α} {k : Nat} {i : α} (h : is[k]? = some i) : is.set k i = is:=by
 apply List.ext_getElem?;intro j;rw [List.getElem?_set];split
 · rename_i e
   subst e;rw [if_pos (List.getElem?_eq_some_iff.1 h).1,h]
 · rfl
theorem Cf {α : Type} : ∀ (l : List α) (j : Nat) (x : α),l[j]? = some x → (x :: l.eraseIdx j).Perm l
 | [],j,x,h=>by cases h
 | y :: l,0,x,h=>by cases h;exact .refl _
 | y :: l,j + 1,x,h=>((List.Perm.swap y x _)).trans ((Cf l j x h).cons y)
theorem Mem.pull {w0 w : World} {is : List It} (m : Mem w0 w is) (j : Nat) {x : It} (hj : is[j]? = some x) : Mem w0 w (x :: is.eraseIdx j):=by
 have hp:=Cf is j x hj;exact ⟨m.ext,fun i hi=>m.all i (hp.mem_iff.1 hi),fun i hi=>m.ge i (hp.mem_iff.1 hi),(hp.pairwise_iff (fun {a b} (h : Ap a b)=>h.symm)).2 m.nd⟩
theorem Mem.mv {w0 w : World} {is : List It} {y : It} (m : Mem w0 w (y :: is)) (k : Nat) {x : It} (hk : is[k]? = some x) : Mem w0 w (is.set k y):=by
 obtain ⟨h1,h2⟩:=List.pairwise_cons.1 m.nd;have hm : ∀ i ∈ is.set k y,i ∈ y :: is:=fun i hi=>(List.mem_or_eq_of_mem_set hi).elim (List.mem_cons_of_mem _) (fun e=>e ▸ List.mem_cons_self);exact ⟨m.ext,fun i hi=>m.all i (hm i hi),fun i hi=>m.ge i (hm i hi),Sw is k h2 hk fun x hx _=>h1 x hx⟩
theorem dW {α : Type} {a : α} {l : List α} : (a :: l).eraseIdx 0 = l:=rfl
theorem dX {α : Type} {a : α} {l : List α} {n : Nat} : (a :: l).eraseIdx (n + 1) = a :: l.eraseIdx n:=rfl
def SL (E : TypeId) (c : Nat) (cs : List Value) (n : Nat) (w : World) (v : Value) (w' : World) : Prop:=∃ A cap n',n' = n ∧ v = .slice A n' cap ∧ Ow w w' [] E c A n' cap cs
/-! ### Points put into a sorted list -/
def Pc (ps : List P3) (p : P3) : Nat:=(ps.takeWhile fun x=>decide (x.Lt p)).length
def fJ (ps : List P3) (p : P3) : List P3:=if ps[Pc ps p]? = some p then ps else ps.take (Pc ps p) ++ [p] ++ ps.drop (Pc ps p)
def dK (ts : List T3) : List P3:=ts.foldl (fun ps t=>fJ (fJ (fJ ps t.a) t.b) t.c) []
theorem yY {ts : List T3} {k : Nat} {t : T3} (h : ts[k]? = some t) : dK (ts.take (k + 1)) = fJ (fJ (fJ (dK (ts.take k)) t.a) t.b) t.c:=by
 unfold dK;rw [cQ h,List.foldl_append];rfl
theorem rP (ps : List P3) (p : P3) : (fJ ps p).length ≤ ps.length + 1:=by
 unfold fJ;split
 · omega
 · simp;omega
theorem Dn (ts : List T3) : (dK ts).length ≤ ts.length * 3:=by
 have : ∀ (ts : List T3) (ps : List P3),(ts.foldl (fun ps t=>fJ (fJ (fJ ps t.a) t.b) t.c) ps).length ≤ ps.length + ts.length * 3:=by
  intro ts
  induction ts with
  | nil=>intro ps;simp
  | cons t ts ih =>
   intro ps;have h1:=ih (fJ (fJ (fJ ps t.a) t.b) t.c);have h2:=rP ps t.a;have h3:=rP (fJ ps t.a) t.b;have h4:=rP (fJ (fJ ps t.a) t.b) t.c;rw [List.foldl_cons,List.length_cons];omega
 have:=this ts [];simpa [dK] using this
section
variable {α : Type} {p : α → Bool} {l : List α} {k : Nat}
theorem ae2 (h : ∀ j x,j < k → l[j]? = some x → p x = true) (hk : k ≤ l.length) : k ≤ (l.takeWhile p).length:=by
 induction l generalizing k with
 | nil=>simp at hk;omega
 | cons x l ih =>
  cases k with
  | zero=>omega
  | succ k =>
   have hx:=h 0 x (by omega) rfl;rw [List.takeWhile_cons,if_pos hx,List.length_cons];have:=ih (k:=k) (fun j y hj hy=>h (j + 1) y (by omega) (by simpa using hy)) (by simp at hk;omega);omega
theorem aiO {x : α} (hx : l[k]? = some x) (h : p x = false) : (l.takeWhile p).length ≤ k:=by
 induction l generalizing k with
 | nil=>cases hx
 | cons y l ih =>
  rw [List.takeWhile_cons];split
  · cases k with
    | zero =>
     rename_i hy;cases hx;rw [h] at hy;cases hy
    | succ k =>
     rw [List.length_cons];have:=ih (k:=k) (by simpa using hx);omega
  · simp
theorem afQ : (l.takeWhile p).length ≤ l.length:=(List.takeWhile_sublist p).length_le
theorem aiP {x : α} (h : ∀ j x,j < k → l[j]? = some x → p x = true) (hx : l[k]? = some x) (h2 : p x = false) : (l.takeWhile p).length = k:=Nat.le_antisymm (aiO hx h2) (ae2 h (Nat.le_of_lt (List.getElem?_eq_some_iff.1 hx).1))
theorem afR (h : ∀ j x,j < l.length → l[j]? = some x → p x = true) : (l.takeWhile p).length = l.length:=Nat.le_antisymm afQ (ae2 h (Nat.le_refl _))
def Pre (p : α → Bool) (l : List α) (k : Nat) : Prop:=∀ j x,j < k → l[j]? = some x → p x = true
theorem Pre.zero : Pre p l 0:=fun j _ hj=>by omega
theorem Pre.step {x : α} (h : Pre p l k) (hx : l[k]? = some x) (hp : p x = true) : Pre p l (k + 1):=fun j y hj hy=>by
 rcases Nat.lt_or_ge j k with h1 | h1
 · exact h j y h1 hy
 · obtain rfl : j = k:=by omega
   rw [hx] at hy;cases hy;exact hp
end
/-! ### The border -/
def ltE (a b : E3) : Bool:=if a.1 ≠ b.1 then decide (a.1.Lt b.1) else decide (a.2.Lt b.2)
def afT (es : List E3) (e : E3) : Nat:=(es.takeWhile fun x=>ltE x e).length
def Yh (es : List E3) (e : E3) : List E3:=es.take (afT es e) ++ [e] ++ es.drop (afT es e)
def uM (all : List E3) (out : List E3) (e : E3) : List E3:=if 0 < kH all (e.2,e.1) ∨ 0 < kH out e then out else Yh out e
def cS (ts : List T3) : List E3:=(bG ts).foldl (uM (bG ts)) []
theorem Gj {all : List E3} : ∀ (es out : List E3),(es.foldl (uM all) out).length ≤ out.length + es.length
 | [],out=>by simp
 | e :: es,out=>by
  have h1:=Gj (all:=all) es (uM all out e);have h2 : (uM all out e).length ≤ out.length + 1:=by
   unfold uM Yh;split
   · omega
   · simp;omega
  rw [List.foldl_cons,List.length_cons];omega
/-! ### Pinched corners -/
def T3.fnd (t : T3) (p q : P3) : Option P3:=if t.a = p ∧ t.b = q then some t.c else if t.b = p ∧ t.c = q then some t.a else if t.c = p ∧ t.a = q then some t.b else none
def bX : List T3 → P3 → P3 → Option P3
 | [],_,_=>none
 | t :: ts,p,q=>match t.fnd p q with
  | some x=>some x
  | none=>bX ts p q
theorem qD {ts : List T3} {k : Nat} {t : T3} {p q : P3} (h : ts[k]? = some t) (h0 : bX (ts.take k) p q = none) : bX (ts.take (k + 1)) p q = t.fnd p q:=by
 rw [cQ h];clear h;generalize ts.take k = us at h0 ⊢
 induction us with
 | nil=>simp only[List.nil_append,bX];cases t.fnd p q <;> rfl
 | cons u us ih =>
  rw [List.cons_append];simp only[bX] at h0 ⊢;cases hu : u.fnd p q with
  | some x=>rw [hu] at h0;cases h0
  | none=>rw [hu] at h0;exact ih h0
theorem uN {ts : List T3} {k : Nat} {p q x : P3} (h : bX (ts.take k) p q = some x) : bX ts p q = some x:=by
 induction ts generalizing k with
 | nil=>simp [bX] at h
 | cons u us ih =>
  cases k with
  | zero=>simp [bX] at h
  | succ k =>
   rw [List.take_succ_cons] at h;unfold bX at h ⊢;cases hu : u.fnd p q with
   | some y=>rw [hu] at h;exact h
   | none=>rw [hu] at h;exact ih h
def Gk (p : P3) (t : T3) (c : Nat) : List T3:=if t.cor c = p then [t] else []
def rQ (p : P3) (t : T3) (c : Nat) : List T3:=(List.range c).flatMap (Gk p t)
def kR (ts : List T3) (p : P3) : List T3:=ts.flatMap fun t=>rQ p t 3
def Gl (p : P3) (t : T3) (c : Nat) : List P3:=if t.cor c = p then [t.cor ((c + 1) % 3)] else []
def uO (p : P3) (t : T3) (c : Nat) : List P3:=(List.range c).flatMap (Gl p t)
def pJ (ts : List T3) (p : P3) : List P3:=ts.flatMap fun t=>uO p t 3
theorem Gm (p : P3) (t : T3) (c : Nat) : rQ p t (c + 1) = rQ p t c ++ Gk p t c:=by simp [rQ,List.range_succ]
theorem Do (p : P3) (t : T3) (c : Nat) : uO p t (c + 1) = uO p t c ++ Gl p t c:=by simp [uO,List.range_succ]
theorem Yi {ts : List T3} {k : Nat} {t : T3} {p : P3} (h : ts[k]? = some t) : kR (ts.take (k + 1)) p = kR (ts.take k) p ++ rQ p t 3:=by
 unfold kR;rw [cQ h,List.flatMap_append];simp
theorem Sy {ts : List T3} {k : Nat} {t : T3} {p : P3} (h : ts[k]? = some t) : pJ (ts.take (k + 1)) p = pJ (ts.take k) p ++ uO p t 3:=by
 unfold pJ;rw [cQ h,List.flatMap_append];simp
def wZ (ts : List T3) (p : P3) (k : Nat) (t : T3) (c : Nat) : List T3:=kR (ts.take k) p ++ rQ p t c
def qX (ts : List T3) (p : P3) (k : Nat) (t : T3) (c : Nat) : List P3:=pJ (ts.take k) p ++ uO p t c
theorem Yj {ts : List T3} {p : P3} {k c : Nat} {t : T3} (h : t.cor c = p) : wZ ts p k t (c + 1) = wZ ts p k t c ++ [t]:=by
 unfold wZ;rw [Gm,Gk,if_pos h,List.append_assoc]
theorem aaX {ts : List T3} {p : P3} {k c : Nat} {t : T3} (h : ¬ t.cor c = p) : wZ ts p k t (c + 1) = wZ ts p k t c:=by
 unfold wZ;rw [Gm,Gk,if_neg h,List.append_nil]
theorem Sz {ts : List T3} {p : P3} {k c : Nat} {t : T3} (h : t.cor c = p) : qX ts p k t (c + 1) = qX ts p k t c ++ [t.cor ((c + 1) % 3)]:=by
 unfold qX;rw [Do,Gl,if_pos h,List.append_assoc]
theorem Yk {ts : List T3} {p : P3} {k c : Nat} {t : T3} (h : ¬ t.cor c = p) : qX ts p k t (c + 1) = qX ts p k t c:=by
 unfold qX;rw [Do,Gl,if_neg h,List.append_nil]
theorem adM {ts : List T3} {p : P3} {k : Nat} {t : T3} : wZ ts p k t 0 = kR (ts.take k) p:=by simp [wZ,rQ]
theorem aaY {ts : List T3} {p : P3} {k : Nat} {t : T3} : qX ts p k t 0 = pJ (ts.take k) p:=by simp [qX,uO]
theorem adN {ts : List T3} {p : P3} {k : Nat} {t : T3} (h : ts[k]? = some t) : wZ ts p k t 3 = kR (ts.take (k + 1)) p:=by rw [Yi h];rfl
theorem aaZ {ts : List T3} {p : P3} {k : Nat} {t : T3} (h : ts[k]? = some t) : qX ts p k t 3 = pJ (ts.take (k + 1)) p:=by rw [Sy h];rfl
theorem sO {x y : P3} : (x.x = y.x ∧ x.y = y.y ∧ x.z = y.z) ↔ x = y:=⟨fun h=>P3.eq h.1 h.2.1 h.2.2,fun h=>by rw [h];exact ⟨rfl,rfl,rfl⟩⟩
theorem Ev {x y u v : P3} : (decide (x.x = y.x ∧ x.y = y.y ∧ x.z = y.z) && decide (u.x = v.x ∧ u.y = v.y ∧ u.z = v.z)) = true ↔ x = y ∧ u = v:=by
 rw [Bool.and_eq_true,decide_eq_true_eq,decide_eq_true_eq,sO,sO]
theorem Ta {x y u v : P3} (h : (decide (x.x = y.x ∧ x.y = y.y ∧ x.z = y.z) && decide (u.x = v.x ∧ u.y = v.y ∧ u.z = v.z)) = false) : ¬ (x = y ∧ u = v):=fun k=>by
 rw [Ev.2 k] at h;cases h
theorem akv {t : T3} {p q : P3} (h : t.cor 0 = p ∧ t.cor 1 = q) : t.fnd p q = some (t.cor 2):=if_pos h
theorem akw {t : T3} {p q : P3} (h0 : ¬ (t.cor 0 = p ∧ t.cor 1 = q)) (h : t.cor 1 = p ∧ t.cor 2 = q) : t.fnd p q = some (t.cor 0):=(if_neg h0).trans (if_pos h)
theorem akx {t : T3} {p q : P3} (h0 : ¬ (t.cor 0 = p ∧ t.cor 1 = q)) (h1 : ¬ (t.cor 1 = p ∧ t.cor 2 = q)) (h : t.cor 2 = p ∧ t.cor 0 = q) : t.fnd p q = some (t.cor 1):=(if_neg h0).trans ((if_neg h1).trans (if_pos h))
theorem aky {t : T3} {p q : P3} (h0 : ¬ (t.cor 0 = p ∧ t.cor 1 = q)) (h1 : ¬ (t.cor 1 = p ∧ t.cor 2 = q)) (h2 : ¬ (t.cor 2 = p ∧ t.cor 0 = q)) : t.fnd p q = none:=(if_neg h0).trans ((if_neg h1).trans (if_neg h2))
def kS (ms : List T3) (p s : P3) : Nat → P3 → Bool
 | 0,_=>false
 | n + 1,at_=>match bX ms p at_ with
  | none=>false
  | some x=>if x = s then true else kS ms p s n x
theorem Kf {ms : List T3} {p s x : P3} {n : Nat} (h : bX ms p x = none) : kS ms p s n x = false:=by
 cases n with
 | zero=>rfl
 | succ n=>simp only[kS,h]
theorem Pd {ms : List T3} {p s x : P3} {n : Nat} (h : bX ms p x = some s) : kS ms p s (n + 1) x = true:=by simp [kS,h]
theorem Kg {ms : List T3} {p s x y : P3} {n : Nat} (h : bX ms p x = some y) (hy : ¬ y = s) : kS ms p s (n + 1) x = kS ms p s n y:=by simp [kS,h,hy]
def yZ (ts : List T3) (p : P3) : Bool:=(pJ ts p).any fun s=>kS (kR ts p) p s ((kR ts p).length - 1) s
def nG (t : T3) : Bool:=decide (t.a = t.b) || decide (t.b = t.c) || decide (t.c = t.a)
theorem Md {t : T3} : (decide (t.a.x = t.b.x ∧ t.a.y = t.b.y ∧ t.a.z = t.b.z) || decide (t.b.x = t.c.x ∧ t.b.y = t.c.y ∧ t.b.z = t.c.z) || decide (t.c.x = t.a.x ∧ t.c.y = t.a.y ∧ t.c.z = t.a.z)) = nG t:=by
 simp only[sO,nG]
def eV (op : Bool) (ts : List T3) : Int :=
 if ts.any nG then 20 else if (bG ts).any (fun e=>decide (1 < kH (bG ts) e)) then 21
 else if !op && decide (0 < (cS ts).length) then 22 else if (dK ts).any (yZ ts) then 23 else 0
theorem rR {α : Type} {p : α → Bool} {l : List α} {k : Nat} {x : α} (hx : l[k]? = some x) : (l.take (k + 1)).any p = ((l.take k).any p || p x):=by
 rw [cQ hx,List.any_append];simp
theorem zW {α : Type} {p : α → Bool} {l : List α} {k : Nat} {x : α} (hx : l[k]? = some x) (h : p x = true) : l.any p = true:=List.any_eq_true.2 ⟨x,List.mem_of_getElem? hx,h⟩
end Go.Lith
namespace Go.Proofs.YtfekpcimgncioaaGreatDoor
open Go.Proofs.Tryz
open Go.RowKit Go.Lith
abbrev Gn:=@underlying105
abbrev kI:=@underlying107
abbrev pK:=@underlying109
abbrev iJ:=@underlying112
abbrev uP:=@underlying157
abbrev iO:=@underlying215
abbrev fA:=@underlying218
abbrev dR:=@underlying222
abbrev nH:=@underlying229
abbrev gL:=@underlying231
abbrev xQ:=@underlying257
abbrev bQ:=@underlying27
abbrev fM:=@underlying273
abbrev gB:=@underlying3
abbrev dL:=@underlying30
abbrev fY:=@underlying333
abbrev cP:=@underlying36
abbrev bD:=@underlying39
abbrev aa0:=@underlying4
abbrev xA:=@underlying41
abbrev xB:=@underlying46
abbrev xC:=@underlying52
abbrev tO:=@underlying56
abbrev dS:=@underlying65
abbrev mX:=@underlying9
abbrev Gp:=@underlying93
abbrev nQ:=@underlying95
abbrev Dp:=@underlying97
abbrev Gq:=@underlying99
set_option maxRecDepth 100000
theorem aM : prog.follows .mixedOrders = true:=by kernel_rfl
theorem aiQ : Go.Lith.Enters prog 11:=⟨_,func11,by kernel_rfl,by kernel_rfl⟩
theorem aiR : Go.Lith.Enters prog 14:=⟨_,func14,by kernel_rfl,by kernel_rfl⟩
theorem aiS : Go.Lith.Enters prog 17:=⟨_,func17,by kernel_rfl,by kernel_rfl⟩
theorem aiT : Go.Lith.Enters prog 19:=⟨_,func19,by kernel_rfl,by kernel_rfl⟩
theorem aiU : Go.Lith.Enters prog 20:=⟨_,func20,by kernel_rfl,by kernel_rfl⟩
theorem aiV : Go.Lith.Enters prog 21:=⟨_,func21,by kernel_rfl,by kernel_rfl⟩
theorem aiW : Go.Lith.Enters prog 22:=⟨_,func22,by kernel_rfl,by kernel_rfl⟩
theorem aiX : Go.Lith.Enters prog 24:=⟨_,func24,by kernel_rfl,by kernel_rfl⟩
theorem aiY : Go.Lith.Enters prog 26:=⟨_,func26,by kernel_rfl,by kernel_rfl⟩
theorem aiZ : Go.Lith.Enters prog 30:=⟨_,func30,by kernel_rfl,by kernel_rfl⟩
theorem ai0 : Go.Lith.Enters prog 35:=⟨_,func35,by kernel_rfl,by kernel_rfl⟩
theorem ai1 : Go.Lith.Enters prog 36:=⟨_,func36,by kernel_rfl,by kernel_rfl⟩
theorem ai2 : Go.Lith.Enters prog 38:=⟨_,func38,by kernel_rfl,by kernel_rfl⟩
theorem ai3 : Go.Lith.Enters prog 40:=⟨_,func40,by kernel_rfl,by kernel_rfl⟩
theorem ai4 : Go.Lith.Enters prog 47:=⟨_,func47,by kernel_rfl,by kernel_rfl⟩
theorem ai5 : Go.Lith.Enters prog 49:=⟨_,func49,by kernel_rfl,by kernel_rfl⟩
theorem ai6 : Go.Lith.Enters prog 50:=⟨_,func50,by kernel_rfl,by kernel_rfl⟩
theorem ai7 : Go.Lith.Enters prog 51:=⟨_,func51,by kernel_rfl,by kernel_rfl⟩
theorem ai8 : Go.Lith.Enters prog 53:=⟨_,func53,by kernel_rfl,by kernel_rfl⟩
theorem ai9 : Go.Lith.Enters prog 54:=⟨_,func54,by kernel_rfl,by kernel_rfl⟩
theorem aja : Go.Lith.Enters prog 55:=⟨_,func55,by kernel_rfl,by kernel_rfl⟩
theorem ajb : Go.Lith.Enters prog 57:=⟨_,func57,by kernel_rfl,by kernel_rfl⟩
theorem ajc : Go.Lith.Enters prog 58:=⟨_,func58,by kernel_rfl,by kernel_rfl⟩
theorem ajd : Go.Lith.Enters prog 59:=⟨_,func59,by kernel_rfl,by kernel_rfl⟩
theorem aje : Go.Lith.Enters prog 60:=⟨_,func60,by kernel_rfl,by kernel_rfl⟩
theorem ajf : Go.Lith.Enters prog 61:=⟨_,func61,by kernel_rfl,by kernel_rfl⟩
theorem ajg : Go.Lith.Enters prog 62:=⟨_,func62,by kernel_rfl,by kernel_rfl⟩
theorem ajh : Go.Lith.Enters prog 63:=⟨_,func63,by kernel_rfl,by kernel_rfl⟩
theorem aji : Go.Lith.Enters prog 64:=⟨_,func64,by kernel_rfl,by kernel_rfl⟩
theorem ajj : Go.Lith.Enters prog 65:=⟨_,func65,by kernel_rfl,by kernel_rfl⟩
theorem ajk : Go.Lith.Enters prog 66:=⟨_,func66,by kernel_rfl,by kernel_rfl⟩
theorem ajl : Go.Lith.Enters prog 67:=⟨_,func67,by kernel_rfl,by kernel_rfl⟩
theorem ajm : Go.Lith.Enters prog 68:=⟨_,func68,by kernel_rfl,by kernel_rfl⟩
theorem ajn : Go.Lith.Enters prog 69:=⟨_,func69,by kernel_rfl,by kernel_rfl⟩
theorem ajo : Go.Lith.Enters prog 70:=⟨_,func70,by kernel_rfl,by kernel_rfl⟩
theorem ajp : Go.Lith.Enters prog 76:=⟨_,func76,by kernel_rfl,by kernel_rfl⟩
theorem ajq : Go.Lith.Enters prog 77:=⟨_,func77,by kernel_rfl,by kernel_rfl⟩
theorem ajr : Go.Lith.Enters prog 79:=⟨_,func79,by kernel_rfl,by kernel_rfl⟩
theorem Wd : Go.Lith.Enters prog 82:=⟨_,func82,by kernel_rfl,by kernel_rfl⟩
theorem ajs : Go.Lith.Enters prog 85:=⟨_,func85,by kernel_rfl,by kernel_rfl⟩
theorem ajt : Go.Lith.Enters prog 97:=⟨_,func97,by kernel_rfl,by kernel_rfl⟩
theorem aju : Go.Lith.Enters prog 98:=⟨_,func98,by kernel_rfl,by kernel_rfl⟩
theorem ajv : Go.Lith.Enters prog 99:=⟨_,func99,by kernel_rfl,by kernel_rfl⟩
theorem afU : Go.Lith.Enters prog 100:=⟨_,func100,by kernel_rfl,by kernel_rfl⟩
theorem afV : Go.Lith.Enters prog 101:=⟨_,func101,by kernel_rfl,by kernel_rfl⟩
theorem afW : Go.Lith.Enters prog 102:=⟨_,func102,by kernel_rfl,by kernel_rfl⟩
theorem afX : Go.Lith.Enters prog 103:=⟨_,func103,by kernel_rfl,by kernel_rfl⟩
theorem afY : Go.Lith.Enters prog 104:=⟨_,func104,by kernel_rfl,by kernel_rfl⟩
theorem afZ : Go.Lith.Enters prog 105:=⟨_,func105,by kernel_rfl,by kernel_rfl⟩
theorem af0 : Go.Lith.Enters prog 111:=⟨_,func111,by kernel_rfl,by kernel_rfl⟩
theorem af1 : Go.Lith.Enters prog 112:=⟨_,func112,by kernel_rfl,by kernel_rfl⟩
theorem af2 : Go.Lith.Enters prog 113:=⟨_,func113,by kernel_rfl,by kernel_rfl⟩
theorem Tb : Go.Lith.Enters prog 114:=⟨_,func114,by kernel_rfl,by kernel_rfl⟩
theorem af3 : Go.Lith.Enters prog 115:=⟨_,func115,by kernel_rfl,by kernel_rfl⟩
theorem af4 : Go.Lith.Enters prog 116:=⟨_,func116,by kernel_rfl,by kernel_rfl⟩
theorem af5 : Go.Lith.Enters prog 117:=⟨_,func117,by kernel_rfl,by kernel_rfl⟩
theorem af6 : Go.Lith.Enters prog 118:=⟨_,func118,by kernel_rfl,by kernel_rfl⟩
theorem aa1 : Go.Lith.Enters prog 119:=⟨_,func119,by kernel_rfl,by kernel_rfl⟩
theorem af7 : Go.Lith.Enters prog 120:=⟨_,func120,by kernel_rfl,by kernel_rfl⟩
theorem af8 : Go.Lith.Enters prog 121:=⟨_,func121,by kernel_rfl,by kernel_rfl⟩
theorem af9 : Go.Lith.Enters prog 122:=⟨_,func122,by kernel_rfl,by kernel_rfl⟩
theorem aga : Go.Lith.Enters prog 123:=⟨_,func123,by kernel_rfl,by kernel_rfl⟩
theorem agb : Go.Lith.Enters prog 124:=⟨_,func124,by kernel_rfl,by kernel_rfl⟩
theorem aa2 : Go.Lith.Enters prog 125:=⟨_,func125,by kernel_rfl,by kernel_rfl⟩
theorem agc : Go.Lith.Enters prog 126:=⟨_,func126,by kernel_rfl,by kernel_rfl⟩
theorem agd : Go.Lith.Enters prog 127:=⟨_,func127,by kernel_rfl,by kernel_rfl⟩
theorem Tc : Go.Lith.Enters prog 128:=⟨_,func128,by kernel_rfl,by kernel_rfl⟩
theorem aa3 : Go.Lith.Enters prog 129:=⟨_,func129,by kernel_rfl,by kernel_rfl⟩
theorem age : Go.Lith.Enters prog 130:=⟨_,func130,by kernel_rfl,by kernel_rfl⟩
theorem agf : Go.Lith.Enters prog 135:=⟨_,func135,by kernel_rfl,by kernel_rfl⟩
theorem agh : Go.Lith.Enters prog 145:=⟨_,func145,by kernel_rfl,by kernel_rfl⟩
theorem agi : Go.Lith.Enters prog 164:=⟨_,func164,by kernel_rfl,by kernel_rfl⟩
theorem agj : Go.Lith.Enters prog 165:=⟨_,func165,by kernel_rfl,by kernel_rfl⟩
theorem agk : Go.Lith.Enters prog 166:=⟨_,func166,by kernel_rfl,by kernel_rfl⟩
theorem agl : Go.Lith.Enters prog 167:=⟨_,func167,by kernel_rfl,by kernel_rfl⟩
theorem agm : Go.Lith.Enters prog 168:=⟨_,func168,by kernel_rfl,by kernel_rfl⟩
theorem agn : Go.Lith.Enters prog 169:=⟨_,func169,by kernel_rfl,by kernel_rfl⟩
theorem ago : Go.Lith.Enters prog 170:=⟨_,func170,by kernel_rfl,by kernel_rfl⟩
theorem agp : Go.Lith.Enters prog 171:=⟨_,func171,by kernel_rfl,by kernel_rfl⟩
theorem agq : Go.Lith.Enters prog 172:=⟨_,func172,by kernel_rfl,by kernel_rfl⟩
theorem agr : Go.Lith.Enters prog 173:=⟨_,func173,by kernel_rfl,by kernel_rfl⟩
theorem ags : Go.Lith.Enters prog 174:=⟨_,func174,by kernel_rfl,by kernel_rfl⟩
theorem agt : Go.Lith.Enters prog 175:=⟨_,func175,by kernel_rfl,by kernel_rfl⟩
theorem agu : Go.Lith.Enters prog 176:=⟨_,func176,by kernel_rfl,by kernel_rfl⟩
theorem agv : Go.Lith.Enters prog 177:=⟨_,func177,by kernel_rfl,by kernel_rfl⟩
theorem agw : Go.Lith.Enters prog 182:=⟨_,func182,by kernel_rfl,by kernel_rfl⟩
theorem agx : Go.Lith.Enters prog 183:=⟨_,func183,by kernel_rfl,by kernel_rfl⟩
theorem agy : Go.Lith.Enters prog 184:=⟨_,func184,by kernel_rfl,by kernel_rfl⟩
theorem agz : Go.Lith.Enters prog 185:=⟨_,func185,by kernel_rfl,by kernel_rfl⟩
theorem agA : Go.Lith.Enters prog 186:=⟨_,func186,by kernel_rfl,by kernel_rfl⟩
theorem agB : Go.Lith.Enters prog 187:=⟨_,func187,by kernel_rfl,by kernel_rfl⟩
theorem agC : Go.Lith.Enters prog 188:=⟨_,func188,by kernel_rfl,by kernel_rfl⟩
theorem agD : Go.Lith.Enters prog 189:=⟨_,func189,by kernel_rfl,by kernel_rfl⟩
theorem agE : Go.Lith.Enters prog 191:=⟨_,func191,by kernel_rfl,by kernel_rfl⟩
theorem agF : Go.Lith.Enters prog 192:=⟨_,func192,by kernel_rfl,by kernel_rfl⟩
theorem agG : Go.Lith.Enters prog 193:=⟨_,func193,by kernel_rfl,by kernel_rfl⟩
theorem aa4 : Go.Lith.Enters prog 195:=⟨_,func195,by kernel_rfl,by kernel_rfl⟩
theorem agH : Go.Lith.Enters prog 201:=⟨_,func201,by kernel_rfl,by kernel_rfl⟩
theorem agI : Go.Lith.Enters prog 218:=⟨_,func218,by kernel_rfl,by kernel_rfl⟩
theorem agJ : Go.Lith.Enters prog 223:=⟨_,func223,by kernel_rfl,by kernel_rfl⟩
theorem agK : Go.Lith.Enters prog 224:=⟨_,func224,by kernel_rfl,by kernel_rfl⟩
theorem agL : Go.Lith.Enters prog 234:=⟨_,func234,by kernel_rfl,by kernel_rfl⟩
theorem Me : Go.Lith.Enters prog 235:=⟨_,func235,by kernel_rfl,by kernel_rfl⟩
theorem agM : Go.Lith.Enters prog 236:=⟨_,func236,by kernel_rfl,by kernel_rfl⟩
theorem agN : Go.Lith.Enters prog 237:=⟨_,func237,by kernel_rfl,by kernel_rfl⟩
theorem agO : Go.Lith.Enters prog 238:=⟨_,func238,by kernel_rfl,by kernel_rfl⟩
theorem agP : Go.Lith.Enters prog 239:=⟨_,func239,by kernel_rfl,by kernel_rfl⟩
theorem agQ : Go.Lith.Enters prog 240:=⟨_,func240,by kernel_rfl,by kernel_rfl⟩
theorem agR : Go.Lith.Enters prog 241:=⟨_,func241,by kernel_rfl,by kernel_rfl⟩
theorem agS : Go.Lith.Enters prog 242:=⟨_,func242,by kernel_rfl,by kernel_rfl⟩
theorem agT : Go.Lith.Enters prog 243:=⟨_,func243,by kernel_rfl,by kernel_rfl⟩
theorem agU : Go.Lith.Enters prog 244:=⟨_,func244,by kernel_rfl,by kernel_rfl⟩
theorem agV : Go.Lith.Enters prog 255:=⟨_,func255,by kernel_rfl,by kernel_rfl⟩
theorem agW : Go.Lith.Enters prog 256:=⟨_,func256,by kernel_rfl,by kernel_rfl⟩
theorem agX : Go.Lith.Enters prog 257:=⟨_,func257,by kernel_rfl,by kernel_rfl⟩
theorem agY : Go.Lith.Enters prog 258:=⟨_,func258,by kernel_rfl,by kernel_rfl⟩
theorem agZ : Go.Lith.Enters prog 267:=⟨_,func267,by kernel_rfl,by kernel_rfl⟩
theorem aa5 : Go.Lith.Enters prog 276:=⟨_,func276,by kernel_rfl,by kernel_rfl⟩
theorem aa6 : Go.Lith.Enters prog 277:=⟨_,func277,by kernel_rfl,by kernel_rfl⟩
theorem aa7 : Go.Lith.Enters prog 278:=⟨_,func278,by kernel_rfl,by kernel_rfl⟩
theorem ag0 : Go.Lith.Enters prog 298:=⟨_,func298,by kernel_rfl,by kernel_rfl⟩
theorem ag1 : Go.Lith.Enters prog 299:=⟨_,func299,by kernel_rfl,by kernel_rfl⟩
theorem ag2 : Go.Lith.Enters prog 300:=⟨_,func300,by kernel_rfl,by kernel_rfl⟩
theorem ag3 : Go.Lith.Enters prog 301:=⟨_,func301,by kernel_rfl,by kernel_rfl⟩
theorem ag4 : Go.Lith.Enters prog 302:=⟨_,func302,by kernel_rfl,by kernel_rfl⟩
theorem ag5 : Go.Lith.Enters prog 303:=⟨_,func303,by kernel_rfl,by kernel_rfl⟩
theorem ag6 : Go.Lith.Enters prog 304:=⟨_,func304,by kernel_rfl,by kernel_rfl⟩
theorem ag7 : Go.Lith.Enters prog 305:=⟨_,func305,by kernel_rfl,by kernel_rfl⟩
theorem ag8 : Go.Lith.Enters prog 306:=⟨_,func306,by kernel_rfl,by kernel_rfl⟩
theorem ag9 : Go.Lith.Enters prog 307:=⟨_,func307,by kernel_rfl,by kernel_rfl⟩
theorem aha : Go.Lith.Enters prog 308:=⟨_,func308,by kernel_rfl,by kernel_rfl⟩
theorem ahb : Go.Lith.Enters prog 315:=⟨_,func315,by kernel_rfl,by kernel_rfl⟩
theorem Td : Go.Lith.Enters prog 336:=⟨_,func336,by kernel_rfl,by kernel_rfl⟩
theorem aa8 : Go.Lith.Enters prog 337:=⟨_,func337,by kernel_rfl,by kernel_rfl⟩
theorem ahc : Go.Lith.Enters prog 338:=⟨_,func338,by kernel_rfl,by kernel_rfl⟩
theorem aO : dG prog 3 1:=cY (by kernel_rfl)
theorem aX : eP prog 3 false:=cZ _ gB rfl
theorem iP : iL prog 3 (.int .i64 0):=eN (by kernel_rfl)
theorem gY : dG prog 4 1:=cY (by kernel_rfl)
theorem mY : eP prog 4 false:=cZ _ aa0 rfl
theorem kY : iL prog 4 (.bool false):=eN (by kernel_rfl)
theorem ajw : (prog.info? 5).map (fun i=>(i.size,i.bytes,i.zero)) = some (1,1,some (.int .u8 0)):=by kernel_rfl
theorem zX : dG prog 9 1:=cY (by kernel_rfl)
theorem Kh : eP prog 9 false:=cZ _ mX rfl
theorem rS : dG prog 26 1:=cY (by kernel_rfl)
theorem Cg : eP prog 26 false:=cZ _ underlying26 rfl
theorem dU : dG prog 27 1:=cY (by kernel_rfl)
theorem nI : eP prog 27 false:=cZ _ bQ rfl
theorem We : iL prog 27 (.slice none 0 0):=eN (by kernel_rfl)
theorem aC : dG prog 30 3:=cY (by kernel_rfl)
theorem aI : eP prog 30 true:=cZ _ dL rfl
theorem bO : iL prog 30 (.agg #[.int .i64 0,.int .i64 0,.int .i64 0]):=eN (by kernel_rfl)
theorem nJ : (prog.info? 30).map (fun i=>(i.size,i.bytes,i.zero)) = some (3,24,some (.agg #[.int .i64 0,.int .i64 0,.int .i64 0])):=by kernel_rfl
theorem bV : dG prog 36 3:=cY (by kernel_rfl)
theorem Ch : eP prog 36 true:=cZ _ cP rfl
theorem zY : iL prog 36 (.agg #[.int .i64 0,.int .i64 0,.int .i64 0]):=eN (by kernel_rfl)
theorem zZ : dG prog 38 9:=cY (by kernel_rfl)
theorem Te : eP prog 38 true:=cZ _ underlying38 rfl
theorem adO : iL prog 38 (.agg #[.int .i64 0,.int .i64 0,.int .i64 0,.int .i64 0,.int .i64 0,.int .i64 0,.int .i64 0,.int .i64 0,.int .i64 0]):=eN (by kernel_rfl)
theorem aR : dG prog 39 9:=cY (by kernel_rfl)
theorem bR : eP prog 39 true:=cZ _ bD rfl
theorem fP : iL prog 39 (.agg #[.int .i64 0,.int .i64 0,.int .i64 0,.int .i64 0,.int .i64 0,.int .i64 0,.int .i64 0,.int .i64 0,.int .i64 0]):=eN (by kernel_rfl)
theorem iK : (prog.info? 39).map (fun i=>(i.size,i.bytes,i.zero)) = some (9,72,some (.agg #[.int .i64 0,.int .i64 0,.int .i64 0,.int .i64 0,.int .i64 0,.int .i64 0,.int .i64 0,.int .i64 0,.int .i64 0])):=by kernel_rfl
theorem Pe : dG prog 41 9:=cY (by kernel_rfl)
theorem ahd : eP prog 41 true:=cZ _ xA rfl
theorem Aa : dG prog 55 6:=cY (by kernel_rfl)
theorem aa9 : eP prog 55 true:=cZ _ underlying55 rfl
theorem adP : iL prog 55 (.agg #[.int .i64 0,.int .i64 0,.int .i64 0,.int .i64 0,.int .i64 0,.int .i64 0]):=eN (by kernel_rfl)
theorem aba : (prog.info? 55).map (fun i=>(i.size,i.bytes,i.zero)) = some (6,48,some (.agg #[.int .i64 0,.int .i64 0,.int .i64 0,.int .i64 0,.int .i64 0,.int .i64 0])):=by kernel_rfl
theorem iD : dG prog 56 6:=cY (by kernel_rfl)
theorem Ci : eP prog 56 true:=cZ _ tO rfl
theorem vV : iL prog 56 (.agg #[.int .i64 0,.int .i64 0,.int .i64 0,.int .i64 0,.int .i64 0,.int .i64 0]):=eN (by kernel_rfl)
theorem abb : (prog.info? 56).map (fun i=>(i.size,i.bytes,i.zero)) = some (6,48,some (.agg #[.int .i64 0,.int .i64 0,.int .i64 0,.int .i64 0,.int .i64 0,.int .i64 0])):=by kernel_rfl
theorem abc : dG prog 65 1:=cY (by kernel_rfl)
theorem abd : eP prog 65 false:=cZ _ dS rfl
theorem uQ : dG prog 88 1:=cY (by kernel_rfl)
theorem xR : eP prog 88 false:=cZ _ underlying88 rfl
theorem adQ : iL prog 88 (.pointer none):=eN (by kernel_rfl)
theorem abe : dG prog 93 1:=cY (by kernel_rfl)
theorem Cj : eP prog 93 false:=cZ _ Gp rfl
theorem adR : iL prog 93 (.map none):=eN (by kernel_rfl)
theorem aP : dG prog 95 2:=cY (by kernel_rfl)
theorem bN : eP prog 95 true:=cZ _ nQ rfl
theorem gM : iL prog 95 (.agg #[.bool false,.string ⟨#[]⟩]):=eN (by kernel_rfl)
theorem iE : dG prog 97 20:=cY (by kernel_rfl)
theorem sP : eP prog 97 true:=cZ _ Dp rfl
theorem vW : iL prog 97 (.agg #[.bool false,.string ⟨#[]⟩,.bool false,.string ⟨#[]⟩,.bool false,.string ⟨#[]⟩,.bool false,.string ⟨#[]⟩,.bool false,.string ⟨#[]⟩,.bool false,.string ⟨#[]⟩,.bool false,.string ⟨#[]⟩,.bool false,.string ⟨#[]⟩,.bool false,.string ⟨#[]⟩,.bool false,.string ⟨#[]⟩]):=eN (by kernel_rfl)
theorem ahe : eP prog 99 false:=cZ _ Gq rfl
theorem Yl : dG prog 100 1:=cY (by kernel_rfl)
theorem Mf : eP prog 100 false:=cZ _ underlying100 rfl
theorem abf : iL prog 100 (.map none):=eN (by kernel_rfl)
theorem vX : dG prog 106 1:=cY (by kernel_rfl)
theorem Mg : eP prog 106 false:=cZ _ underlying106 rfl
theorem gW : dG prog 107 1:=cY (by kernel_rfl)
theorem lT : eP prog 107 false:=cZ _ kI rfl
theorem abg : iL prog 109 (.agg #[.slice none 0 0,.map none,.map none]):=eN (by kernel_rfl)
theorem iQ : dG prog 112 8:=cY (by kernel_rfl)
theorem vY : eP prog 112 true:=cZ _ iJ rfl
theorem Ab : iL prog 112 (.agg #[.int .i64 0,.int .i64 0,.int .i64 0,.int .i64 0,.int .i64 0,.int .i64 0,.bool false,.string ⟨#[]⟩]):=eN (by kernel_rfl)
theorem adS : (prog.info? 112).map (fun i=>(i.size,i.bytes,i.zero)) = some (8,72,some (.agg #[.int .i64 0,.int .i64 0,.int .i64 0,.int .i64 0,.int .i64 0,.int .i64 0,.bool false,.string ⟨#[]⟩])):=by kernel_rfl
theorem Ym : dG prog 168 8:=cY (by kernel_rfl)
theorem Pf : iL prog 168 (.agg #[.bool false,.string ⟨#[]⟩,.bool false,.string ⟨#[]⟩,.bool false,.string ⟨#[]⟩,.bool false,.string ⟨#[]⟩]):=eN (by kernel_rfl)
theorem dO : dG prog 215 6:=cY (by kernel_rfl)
theorem iX : eP prog 215 true:=cZ _ iO rfl
theorem lU : iL prog 215 (.agg #[.int .i64 0,.int .i64 0,.int .i64 0,.int .i64 0,.int .i64 0,.int .i64 0]):=eN (by kernel_rfl)
theorem adT : (prog.info? 215).map (fun i=>(i.size,i.bytes,i.zero)) = some (6,48,some (.agg #[.int .i64 0,.int .i64 0,.int .i64 0,.int .i64 0,.int .i64 0,.int .i64 0])):=by kernel_rfl
theorem abh : iL prog 218 (.agg #[.pointer none,.int .i64 0,.int .i64 0,.int .i64 0,.int .i64 0,.int .i64 0,.int .i64 0,.map none,.map none,.slice none 0 0,.slice none 0 0,.slice none 0 0]):=eN (by kernel_rfl)
theorem oO : dG prog 222 6:=cY (by kernel_rfl)
theorem Mh : eP prog 222 true:=cZ _ dR rfl
theorem Ac : iL prog 222 (.agg #[.int .i64 0,.int .i64 0,.int .i64 0,.int .i64 0,.int .i64 0,.int .i64 0]):=eN (by kernel_rfl)
theorem oP : dG prog 229 8:=cY (by kernel_rfl)
theorem Mi : eP prog 229 true:=cZ _ nH rfl
theorem uR : iL prog 229 (.agg #[.bool false,.string ⟨#[]⟩,.bool false,.string ⟨#[]⟩,.bool false,.string ⟨#[]⟩,.bool false,.string ⟨#[]⟩]):=eN (by kernel_rfl)
theorem cF : dG prog 231 1:=cY (by kernel_rfl)
theorem iY : eP prog 231 false:=cZ _ gL rfl
theorem Ad : (prog.info? 231).map (fun i=>(i.size,i.bytes,i.zero)) = some (1,8,some (.int .u64 0)):=by kernel_rfl
theorem vZ : dG prog 242 1:=cY (by kernel_rfl)
theorem Mj : eP prog 242 false:=cZ _ underlying242 rfl
theorem wA : dG prog 243 3:=cY (by kernel_rfl)
theorem Wf : eP prog 243 true:=cZ _ underlying243 rfl
theorem Gr : iL prog 243 (.agg #[.nilFunc,.nilFunc,.nilFunc]):=eN (by kernel_rfl)
theorem Ck : dG prog 257 6:=cY (by kernel_rfl)
theorem adU : eP prog 257 true:=cZ _ xQ rfl
theorem Pg : iL prog 257 (.agg #[.bool false,.string ⟨#[]⟩,.bool false,.string ⟨#[]⟩,.bool false,.string ⟨#[]⟩]):=eN (by kernel_rfl)
theorem oQ : dG prog 273 6:=cY (by kernel_rfl)
theorem Ew : eP prog 273 true:=cZ _ fM rfl
theorem Ae : iL prog 273 (.agg #[.bool false,.string ⟨#[]⟩,.bool false,.string ⟨#[]⟩,.bool false,.string ⟨#[]⟩]):=eN (by kernel_rfl)
theorem Ki : dG prog 280 18:=cY (by kernel_rfl)
theorem adV : eP prog 280 true:=cZ _ underlying280 rfl
theorem Ph : iL prog 280 (.agg #[.int .i64 0,.int .i64 0,.int .i64 0,.int .i64 0,.int .i64 0,.int .i64 0,.int .i64 0,.int .i64 0,.int .i64 0,.int .i64 0,.int .i64 0,.int .i64 0,.int .i64 0,.int .i64 0,.int .i64 0,.int .i64 0,.int .i64 0,.int .i64 0]):=eN (by kernel_rfl)
theorem Yn : dG prog 300 1:=cY (by kernel_rfl)
theorem adW : eP prog 300 false:=cZ _ underlying300 rfl
theorem abi : iL prog 300 (.slice none 0 0):=eN (by kernel_rfl)
theorem rT : dG prog 333 3:=cY (by kernel_rfl)
theorem Mk : eP prog 333 true:=cZ _ fY rfl
theorem Af : iL prog 333 (.agg #[.int .i64 0,.int .i64 0,.int .i64 0]):=eN (by kernel_rfl)
theorem rU (w : World) : ((#[{ name := "X", type:=3,offset:=0,embedded:=false,tag := "", pkgPath := "", byteOffset:=0 },{ name := "Y", type:=3,offset:=1,embedded:=false,tag := "", pkgPath := "", byteOffset:=8 },{ name := "Z", type:=3,offset:=2,embedded:=false,tag := "", pkgPath := "", byteOffset:=16 }] : Array Field).mapM fun f=>do pure (f.offset,← sizeOf f.type) : Sem (Array (Nat × Nat))).run prog w = .ok #[(0,1),(1,1),(2,1)] w:=by
 simp [Array.mapM_eq_mapM_toList,dQ aO]
theorem ajx  (w : World) : (Instr.build 30 #[]).run prog w = .ok (.agg #[(.int .i64 0),(.int .i64 0),(.int .i64 0)]) w:=dN dL bO rU (by simp [Instr.fill,eC]) w
theorem Pi {l : List Value} {ty : TypeId}  : fC prog l (.build 30 #[]) ty (.agg #[(.int .i64 0),(.int .i64 0),(.int .i64 0)]):=fO (vs:=#[]) (by simp) fun w=>ajx  w
theorem ahf {v0 : Value} {c0_0 : Value} (h0 : v0.cells = #[c0_0])  (w : World) : (Instr.build 30 #[(0,v0)]).run prog w = .ok (.agg #[c0_0,(.int .i64 0),(.int .i64 0)]) w:=dN dL bO rU (by simp [Instr.fill,eC,h0]) w
theorem kB {l : List Value} {ty : TypeId} {x0 : Operand} {c0_0 : Value} (h0 : (ev l x0).cells = #[c0_0]) : fC prog l (.build 30 #[(0,x0)]) ty (.agg #[c0_0,(.int .i64 0),(.int .i64 0)]):=fO (vs:=#[(0,ev l x0)]) (by simp) fun w=>ahf h0 w
theorem Tf {v0 v1 v2 : Value} {c0_0 : Value} (h0 : v0.cells = #[c0_0]) {c1_0 : Value} (h1 : v1.cells = #[c1_0]) {c2_0 : Value} (h2 : v2.cells = #[c2_0])  (w : World) : (Instr.build 30 #[(0,v0),(1,v1),(2,v2)]).run prog w = .ok (.agg #[c0_0,c1_0,c2_0]) w:=dN dL bO rU (by simp [Instr.fill,eC,h0,h1,h2]) w
theorem Cl {l : List Value} {ty : TypeId} {x0 x1 x2 : Operand} {c0_0 : Value} (h0 : (ev l x0).cells = #[c0_0]) {c1_0 : Value} (h1 : (ev l x1).cells = #[c1_0]) {c2_0 : Value} (h2 : (ev l x2).cells = #[c2_0]) : fC prog l (.build 30 #[(0,x0),(1,x1),(2,x2)]) ty (.agg #[c0_0,c1_0,c2_0]):=fO (vs:=#[(0,ev l x0),(1,ev l x1),(2,ev l x2)]) (by simp) fun w=>Tf h0 h1 h2 w
theorem ahg {v1 : Value} {c1_0 : Value} (h1 : v1.cells = #[c1_0])  (w : World) : (Instr.build 30 #[(1,v1)]).run prog w = .ok (.agg #[(.int .i64 0),c1_0,(.int .i64 0)]) w:=dN dL bO rU (by simp [Instr.fill,eC,h1]) w
theorem kC {l : List Value} {ty : TypeId} {x1 : Operand} {c1_0 : Value} (h1 : (ev l x1).cells = #[c1_0]) : fC prog l (.build 30 #[(1,x1)]) ty (.agg #[(.int .i64 0),c1_0,(.int .i64 0)]):=fO (vs:=#[(1,ev l x1)]) (by simp) fun w=>ahg h1 w
theorem ahh {v2 : Value} {c2_0 : Value} (h2 : v2.cells = #[c2_0])  (w : World) : (Instr.build 30 #[(2,v2)]).run prog w = .ok (.agg #[(.int .i64 0),(.int .i64 0),c2_0]) w:=dN dL bO rU (by simp [Instr.fill,eC,h2]) w
theorem sQ {l : List Value} {ty : TypeId} {x2 : Operand} {c2_0 : Value} (h2 : (ev l x2).cells = #[c2_0]) : fC prog l (.build 30 #[(2,x2)]) ty (.agg #[(.int .i64 0),(.int .i64 0),c2_0]):=fO (vs:=#[(2,ev l x2)]) (by simp) fun w=>ahh h2 w
theorem ajy  (w : World) : (Instr.build 36 #[]).run prog w = .ok (.agg #[(.int .i64 0),(.int .i64 0),(.int .i64 0)]) w:=eM cP zY aO (by simp [Instr.fill,eC]) w
theorem Pk {l : List Value} {ty : TypeId}  : fC prog l (.build 36 #[]) ty (.agg #[(.int .i64 0),(.int .i64 0),(.int .i64 0)]):=fO (vs:=#[]) (by simp) fun w=>ajy  w
theorem Tg {v0 v1 v2 : Value} {c0_0 : Value} (h0 : v0.cells = #[c0_0]) {c1_0 : Value} (h1 : v1.cells = #[c1_0]) {c2_0 : Value} (h2 : v2.cells = #[c2_0])  (w : World) : (Instr.build 36 #[(0,v0),(1,v1),(2,v2)]).run prog w = .ok (.agg #[c0_0,c1_0,c2_0]) w:=eM cP zY aO (by simp [Instr.fill,eC,h0,h1,h2]) w
theorem dP {l : List Value} {ty : TypeId} {x0 x1 x2 : Operand} {c0_0 : Value} (h0 : (ev l x0).cells = #[c0_0]) {c1_0 : Value} (h1 : (ev l x1).cells = #[c1_0]) {c2_0 : Value} (h2 : (ev l x2).cells = #[c2_0]) : fC prog l (.build 36 #[(0,x0),(1,x1),(2,x2)]) ty (.agg #[c0_0,c1_0,c2_0]):=fO (vs:=#[(0,ev l x0),(1,ev l x1),(2,ev l x2)]) (by simp) fun w=>Tg h0 h1 h2 w
theorem Th {v0 v1 v2 : Value} {c0_0 c0_1 c0_2 : Value} (h0 : v0.cells = #[c0_0,c0_1,c0_2]) {c1_0 c1_1 c1_2 : Value} (h1 : v1.cells = #[c1_0,c1_1,c1_2]) {c2_0 c2_1 c2_2 : Value} (h2 : v2.cells = #[c2_0,c2_1,c2_2])  (w : World) : (Instr.build 39 #[(0,v0),(1,v1),(2,v2)]).run prog w = .ok (.agg #[c0_0,c0_1,c0_2,c1_0,c1_1,c1_2,c2_0,c2_1,c2_2]) w:=eM bD fP aC (by simp [Instr.fill,eC,h0,h1,h2]) w
theorem cO {l : List Value} {ty : TypeId} {x0 x1 x2 : Operand} {c0_0 c0_1 c0_2 : Value} (h0 : (ev l x0).cells = #[c0_0,c0_1,c0_2]) {c1_0 c1_1 c1_2 : Value} (h1 : (ev l x1).cells = #[c1_0,c1_1,c1_2]) {c2_0 c2_1 c2_2 : Value} (h2 : (ev l x2).cells = #[c2_0,c2_1,c2_2]) : fC prog l (.build 39 #[(0,x0),(1,x1),(2,x2)]) ty (.agg #[c0_0,c0_1,c0_2,c1_0,c1_1,c1_2,c2_0,c2_1,c2_2]):=fO (vs:=#[(0,ev l x0),(1,ev l x1),(2,ev l x2)]) (by simp) fun w=>Th h0 h1 h2 w
theorem Yo (w : World) : ((#[{ name := "From", type:=30,offset:=0,embedded:=false,tag := "", pkgPath := "", byteOffset:=0 },{ name := "To", type:=30,offset:=3,embedded:=false,tag := "", pkgPath := "", byteOffset:=24 }] : Array Field).mapM fun f=>do pure (f.offset,← sizeOf f.type) : Sem (Array (Nat × Nat))).run prog w = .ok #[(0,3),(3,3)] w:=by
 simp [Array.mapM_eq_mapM_toList,dQ aC]
theorem abj {v0 v1 : Value} {c0_0 c0_1 c0_2 : Value} (h0 : v0.cells = #[c0_0,c0_1,c0_2]) {c1_0 c1_1 c1_2 : Value} (h1 : v1.cells = #[c1_0,c1_1,c1_2])  (w : World) : (Instr.build 55 #[(0,v0),(1,v1)]).run prog w = .ok (.agg #[c0_0,c0_1,c0_2,c1_0,c1_1,c1_2]) w:=dN underlying55 adP Yo (by simp [Instr.fill,eC,h0,h1]) w
theorem pL {l : List Value} {ty : TypeId} {x0 x1 : Operand} {c0_0 c0_1 c0_2 : Value} (h0 : (ev l x0).cells = #[c0_0,c0_1,c0_2]) {c1_0 c1_1 c1_2 : Value} (h1 : (ev l x1).cells = #[c1_0,c1_1,c1_2]) : fC prog l (.build 55 #[(0,x0),(1,x1)]) ty (.agg #[c0_0,c0_1,c0_2,c1_0,c1_1,c1_2]):=fO (vs:=#[(0,ev l x0),(1,ev l x1)]) (by simp) fun w=>abj h0 h1 w
theorem abk {v0 v1 : Value} {c0_0 c0_1 c0_2 : Value} (h0 : v0.cells = #[c0_0,c0_1,c0_2]) {c1_0 c1_1 c1_2 : Value} (h1 : v1.cells = #[c1_0,c1_1,c1_2])  (w : World) : (Instr.build 56 #[(0,v0),(1,v1)]).run prog w = .ok (.agg #[c0_0,c0_1,c0_2,c1_0,c1_1,c1_2]) w:=eM tO vV aC (by simp [Instr.fill,eC,h0,h1]) w
theorem fI {l : List Value} {ty : TypeId} {x0 x1 : Operand} {c0_0 c0_1 c0_2 : Value} (h0 : (ev l x0).cells = #[c0_0,c0_1,c0_2]) {c1_0 c1_1 c1_2 : Value} (h1 : (ev l x1).cells = #[c1_0,c1_1,c1_2]) : fC prog l (.build 56 #[(0,x0),(1,x1)]) ty (.agg #[c0_0,c0_1,c0_2,c1_0,c1_1,c1_2]):=fO (vs:=#[(0,ev l x0),(1,ev l x1)]) (by simp) fun w=>abk h0 h1 w
theorem Yp (w : World) : ((#[{ name := "Neg", type:=4,offset:=0,embedded:=false,tag := "", pkgPath := "", byteOffset:=0 },{ name := "Mag", type:=9,offset:=1,embedded:=false,tag := "", pkgPath := "", byteOffset:=8 }] : Array Field).mapM fun f=>do pure (f.offset,← sizeOf f.type) : Sem (Array (Nat × Nat))).run prog w = .ok #[(0,1),(1,1)] w:=by
 simp [Array.mapM_eq_mapM_toList,dQ gY,dQ zX]
theorem abl {v0 v1 : Value} {c0_0 : Value} (h0 : v0.cells = #[c0_0]) {c1_0 : Value} (h1 : v1.cells = #[c1_0])  (w : World) : (Instr.build 95 #[(0,v0),(1,v1)]).run prog w = .ok (.agg #[c0_0,c1_0]) w:=dN nQ gM Yp (by simp [Instr.fill,eC,h0,h1]) w
theorem uS {l : List Value} {ty : TypeId} {x0 x1 : Operand} {c0_0 : Value} (h0 : (ev l x0).cells = #[c0_0]) {c1_0 : Value} (h1 : (ev l x1).cells = #[c1_0]) : fC prog l (.build 95 #[(0,x0),(1,x1)]) ty (.agg #[c0_0,c1_0]):=fO (vs:=#[(0,ev l x0),(1,ev l x1)]) (by simp) fun w=>abl h0 h1 w
theorem Ti (w : World) : ((#[{ name := "tris", type:=27,offset:=0,embedded:=false,tag := "", pkgPath := "lithophane/collapse", byteOffset:=0 },{ name := "around", type:=106,offset:=1,embedded:=false,tag := "", pkgPath := "lithophane/collapse", byteOffset:=24 },{ name := "fixed", type:=107,offset:=2,embedded:=false,tag := "", pkgPath := "lithophane/collapse", byteOffset:=32 }] : Array Field).mapM fun f=>do pure (f.offset,← sizeOf f.type) : Sem (Array (Nat × Nat))).run prog w = .ok #[(0,1),(1,1),(2,1)] w:=by
 simp [Array.mapM_eq_mapM_toList,dQ vX,dQ gW,dQ dU]
theorem Pm {v0 v1 v2 : Value} {c0_0 : Value} (h0 : v0.cells = #[c0_0]) {c1_0 : Value} (h1 : v1.cells = #[c1_0]) {c2_0 : Value} (h2 : v2.cells = #[c2_0])  (w : World) : (Instr.build 109 #[(0,v0),(1,v1),(2,v2)]).run prog w = .ok (.agg #[c0_0,c1_0,c2_0]) w:=dN pK abg Ti (by simp [Instr.fill,eC,h0,h1,h2]) w
theorem Ag {l : List Value} {ty : TypeId} {x0 x1 x2 : Operand} {c0_0 : Value} (h0 : (ev l x0).cells = #[c0_0]) {c1_0 : Value} (h1 : (ev l x1).cells = #[c1_0]) {c2_0 : Value} (h2 : (ev l x2).cells = #[c2_0]) : fC prog l (.build 109 #[(0,x0),(1,x1),(2,x2)]) ty (.agg #[c0_0,c1_0,c2_0]):=fO (vs:=#[(0,ev l x0),(1,ev l x1),(2,ev l x2)]) (by simp) fun w=>Pm h0 h1 h2 w
theorem Tj (w : World) : ((#[{ name := "u", type:=30,offset:=0,embedded:=false,tag := "", pkgPath := "lithophane/collapse", byteOffset:=0 },{ name := "v", type:=30,offset:=3,embedded:=false,tag := "", pkgPath := "lithophane/collapse", byteOffset:=24 },{ name := "cost", type:=95,offset:=6,embedded:=false,tag := "", pkgPath := "lithophane/collapse", byteOffset:=48 }] : Array Field).mapM fun f=>do pure (f.offset,← sizeOf f.type) : Sem (Array (Nat × Nat))).run prog w = .ok #[(0,3),(3,3),(6,2)] w:=by
 simp [Array.mapM_eq_mapM_toList,dQ aC,dQ aP]
theorem Pn {v0 v1 v2 : Value} {c0_0 c0_1 c0_2 : Value} (h0 : v0.cells = #[c0_0,c0_1,c0_2]) {c1_0 c1_1 c1_2 : Value} (h1 : v1.cells = #[c1_0,c1_1,c1_2]) {c2_0 c2_1 : Value} (h2 : v2.cells = #[c2_0,c2_1])  (w : World) : (Instr.build 112 #[(0,v0),(1,v1),(2,v2)]).run prog w = .ok (.agg #[c0_0,c0_1,c0_2,c1_0,c1_1,c1_2,c2_0,c2_1]) w:=dN iJ Ab Tj (by simp [Instr.fill,eC,h0,h1,h2]) w
theorem Ah {l : List Value} {ty : TypeId} {x0 x1 x2 : Operand} {c0_0 c0_1 c0_2 : Value} (h0 : (ev l x0).cells = #[c0_0,c0_1,c0_2]) {c1_0 c1_1 c1_2 : Value} (h1 : (ev l x1).cells = #[c1_0,c1_1,c1_2]) {c2_0 c2_1 : Value} (h2 : (ev l x2).cells = #[c2_0,c2_1]) : fC prog l (.build 112 #[(0,x0),(1,x1),(2,x2)]) ty (.agg #[c0_0,c0_1,c0_2,c1_0,c1_1,c1_2,c2_0,c2_1]):=fO (vs:=#[(0,ev l x0),(1,ev l x1),(2,ev l x2)]) (by simp) fun w=>Pn h0 h1 h2 w
theorem Iv {v0 v1 v2 v3 : Value} {c0_0 c0_1 : Value} (h0 : v0.cells = #[c0_0,c0_1]) {c1_0 c1_1 : Value} (h1 : v1.cells = #[c1_0,c1_1]) {c2_0 c2_1 : Value} (h2 : v2.cells = #[c2_0,c2_1]) {c3_0 c3_1 : Value} (h3 : v3.cells = #[c3_0,c3_1])  (w : World) : (Instr.build 168 #[(0,v0),(1,v1),(2,v2),(3,v3)]).run prog w = .ok (.agg #[c0_0,c0_1,c1_0,c1_1,c2_0,c2_1,c3_0,c3_1]) w:=eM underlying168 Pf aP (by simp [Instr.fill,eC,h0,h1,h2,h3]) w
theorem wK {l : List Value} {ty : TypeId} {x0 x1 x2 x3 : Operand} {c0_0 c0_1 : Value} (h0 : (ev l x0).cells = #[c0_0,c0_1]) {c1_0 c1_1 : Value} (h1 : (ev l x1).cells = #[c1_0,c1_1]) {c2_0 c2_1 : Value} (h2 : (ev l x2).cells = #[c2_0,c2_1]) {c3_0 c3_1 : Value} (h3 : (ev l x3).cells = #[c3_0,c3_1]) : fC prog l (.build 168 #[(0,x0),(1,x1),(2,x2),(3,x3)]) ty (.agg #[c0_0,c0_1,c1_0,c1_1,c2_0,c2_1,c3_0,c3_1]):=fO (vs:=#[(0,ev l x0),(1,ev l x1),(2,ev l x2),(3,ev l x3)]) (by simp) fun w=>Iv h0 h1 h2 h3 w
theorem Tk (w : World) : ((#[{ name := "from", type:=30,offset:=0,embedded:=false,tag := "", pkgPath := "lithophane/mesh", byteOffset:=0 },{ name := "to", type:=30,offset:=3,embedded:=false,tag := "", pkgPath := "lithophane/mesh", byteOffset:=24 }] : Array Field).mapM fun f=>do pure (f.offset,← sizeOf f.type) : Sem (Array (Nat × Nat))).run prog w = .ok #[(0,3),(3,3)] w:=by
 simp [Array.mapM_eq_mapM_toList,dQ aC]
theorem Yq {v0 v1 : Value} {c0_0 c0_1 c0_2 : Value} (h0 : v0.cells = #[c0_0,c0_1,c0_2]) {c1_0 c1_1 c1_2 : Value} (h1 : v1.cells = #[c1_0,c1_1,c1_2])  (w : World) : (Instr.build 215 #[(0,v0),(1,v1)]).run prog w = .ok (.agg #[c0_0,c0_1,c0_2,c1_0,c1_1,c1_2]) w:=dN iO lU Tk (by simp [Instr.fill,eC,h0,h1]) w
theorem fK {l : List Value} {ty : TypeId} {x0 x1 : Operand} {c0_0 c0_1 c0_2 : Value} (h0 : (ev l x0).cells = #[c0_0,c0_1,c0_2]) {c1_0 c1_1 c1_2 : Value} (h1 : (ev l x1).cells = #[c1_0,c1_1,c1_2]) : fC prog l (.build 215 #[(0,x0),(1,x1)]) ty (.agg #[c0_0,c0_1,c0_2,c1_0,c1_1,c1_2]):=fO (vs:=#[(0,ev l x0),(1,ev l x1)]) (by simp) fun w=>Yq h0 h1 w
theorem Tl (w : World) : ((#[{ name := "surface", type:=88,offset:=0,embedded:=true,tag := "", pkgPath := "lithophane/collapse", byteOffset:=0 },{ name := "u", type:=30,offset:=1,embedded:=false,tag := "", pkgPath := "lithophane/collapse", byteOffset:=8 },{ name := "v", type:=30,offset:=4,embedded:=false,tag := "", pkgPath := "lithophane/collapse", byteOffset:=32 },{ name := "x", type:=107,offset:=7,embedded:=false,tag := "", pkgPath := "lithophane/collapse", byteOffset:=56 },{ name := "y", type:=107,offset:=8,embedded:=false,tag := "", pkgPath := "lithophane/collapse", byteOffset:=64 },{ name := "moved", type:=27,offset:=9,embedded:=false,tag := "", pkgPath := "lithophane/collapse", byteOffset:=72 },{ name := "old", type:=27,offset:=10,embedded:=false,tag := "", pkgPath := "lithophane/collapse", byteOffset:=96 },{ name := "rest", type:=27,offset:=11,embedded:=false,tag := "", pkgPath := "lithophane/collapse", byteOffset:=120 }] : Array Field).mapM fun f=>do pure (f.offset,← sizeOf f.type) : Sem (Array (Nat × Nat))).run prog w = .ok #[(0,1),(1,3),(4,3),(7,1),(8,1),(9,1),(10,1),(11,1)] w:=by
 simp [Array.mapM_eq_mapM_toList,dQ gW,dQ dU,dQ aC,dQ uQ]
theorem Em {v0 v1 v2 v3 v4 : Value} {c0_0 : Value} (h0 : v0.cells = #[c0_0]) {c1_0 c1_1 c1_2 : Value} (h1 : v1.cells = #[c1_0,c1_1,c1_2]) {c2_0 c2_1 c2_2 : Value} (h2 : v2.cells = #[c2_0,c2_1,c2_2]) {c3_0 : Value} (h3 : v3.cells = #[c3_0]) {c4_0 : Value} (h4 : v4.cells = #[c4_0])  (w : World) : (Instr.build 218 #[(0,v0),(1,v1),(2,v2),(3,v3),(4,v4)]).run prog w = .ok (.agg #[c0_0,c1_0,c1_1,c1_2,c2_0,c2_1,c2_2,c3_0,c4_0,(.slice none 0 0),(.slice none 0 0),(.slice none 0 0)]) w:=dN fA abh Tl (by simp [Instr.fill,eC,h0,h1,h2,h3,h4]) w
theorem tS {l : List Value} {ty : TypeId} {x0 x1 x2 x3 x4 : Operand} {c0_0 : Value} (h0 : (ev l x0).cells = #[c0_0]) {c1_0 c1_1 c1_2 : Value} (h1 : (ev l x1).cells = #[c1_0,c1_1,c1_2]) {c2_0 c2_1 c2_2 : Value} (h2 : (ev l x2).cells = #[c2_0,c2_1,c2_2]) {c3_0 : Value} (h3 : (ev l x3).cells = #[c3_0]) {c4_0 : Value} (h4 : (ev l x4).cells = #[c4_0]) : fC prog l (.build 218 #[(0,x0),(1,x1),(2,x2),(3,x3),(4,x4)]) ty (.agg #[c0_0,c1_0,c1_1,c1_2,c2_0,c2_1,c2_2,c3_0,c4_0,(.slice none 0 0),(.slice none 0 0),(.slice none 0 0)]):=fO (vs:=#[(0,ev l x0),(1,ev l x1),(2,ev l x2),(3,ev l x3),(4,ev l x4)]) (by simp) fun w=>Em h0 h1 h2 h3 h4 w
theorem Tm (w : World) : ((#[{ name := "lo", type:=36,offset:=0,embedded:=false,tag := "", pkgPath := "lithophane/collapse", byteOffset:=0 },{ name := "hi", type:=36,offset:=3,embedded:=false,tag := "", pkgPath := "lithophane/collapse", byteOffset:=24 }] : Array Field).mapM fun f=>do pure (f.offset,← sizeOf f.type) : Sem (Array (Nat × Nat))).run prog w = .ok #[(0,3),(3,3)] w:=by
 simp [Array.mapM_eq_mapM_toList,dQ bV]
theorem Yr {v0 v1 : Value} {c0_0 c0_1 c0_2 : Value} (h0 : v0.cells = #[c0_0,c0_1,c0_2]) {c1_0 c1_1 c1_2 : Value} (h1 : v1.cells = #[c1_0,c1_1,c1_2])  (w : World) : (Instr.build 222 #[(0,v0),(1,v1)]).run prog w = .ok (.agg #[c0_0,c0_1,c0_2,c1_0,c1_1,c1_2]) w:=dN dR Ac Tm (by simp [Instr.fill,eC,h0,h1]) w
theorem En {l : List Value} {ty : TypeId} {x0 x1 : Operand} {c0_0 c0_1 c0_2 : Value} (h0 : (ev l x0).cells = #[c0_0,c0_1,c0_2]) {c1_0 c1_1 c1_2 : Value} (h1 : (ev l x1).cells = #[c1_0,c1_1,c1_2]) : fC prog l (.build 222 #[(0,x0),(1,x1)]) ty (.agg #[c0_0,c0_1,c0_2,c1_0,c1_1,c1_2]):=fO (vs:=#[(0,ev l x0),(1,ev l x1)]) (by simp) fun w=>Yr h0 h1 w
theorem ahi  (w : World) : (Instr.build 229 #[]).run prog w = .ok (.agg #[(.bool false),(.string ⟨#[]⟩),(.bool false),(.string ⟨#[]⟩),(.bool false),(.string ⟨#[]⟩),(.bool false),(.string ⟨#[]⟩)]) w:=eM nH uR aP (by simp [Instr.fill,eC]) w
theorem Ml {l : List Value} {ty : TypeId}  : fC prog l (.build 229 #[]) ty (.agg #[(.bool false),(.string ⟨#[]⟩),(.bool false),(.string ⟨#[]⟩),(.bool false),(.string ⟨#[]⟩),(.bool false),(.string ⟨#[]⟩)]):=fO (vs:=#[]) (by simp) fun w=>ahi  w
theorem Po {v0 v1 v2 : Value} {c0_0 c0_1 : Value} (h0 : v0.cells = #[c0_0,c0_1]) {c1_0 c1_1 : Value} (h1 : v1.cells = #[c1_0,c1_1]) {c2_0 c2_1 : Value} (h2 : v2.cells = #[c2_0,c2_1])  (w : World) : (Instr.build 229 #[(0,v0),(1,v1),(2,v2)]).run prog w = .ok (.agg #[c0_0,c0_1,c1_0,c1_1,c2_0,c2_1,(.bool false),(.string ⟨#[]⟩)]) w:=eM nH uR aP (by simp [Instr.fill,eC,h0,h1,h2]) w
theorem Ai {l : List Value} {ty : TypeId} {x0 x1 x2 : Operand} {c0_0 c0_1 : Value} (h0 : (ev l x0).cells = #[c0_0,c0_1]) {c1_0 c1_1 : Value} (h1 : (ev l x1).cells = #[c1_0,c1_1]) {c2_0 c2_1 : Value} (h2 : (ev l x2).cells = #[c2_0,c2_1]) : fC prog l (.build 229 #[(0,x0),(1,x1),(2,x2)]) ty (.agg #[c0_0,c0_1,c1_0,c1_1,c2_0,c2_1,(.bool false),(.string ⟨#[]⟩)]):=fO (vs:=#[(0,ev l x0),(1,ev l x1),(2,ev l x2)]) (by simp) fun w=>Po h0 h1 h2 w
theorem Pp {v0 v1 v2 : Value} {c0_0 : Value} (h0 : v0.cells = #[c0_0]) {c1_0 : Value} (h1 : v1.cells = #[c1_0]) {c2_0 : Value} (h2 : v2.cells = #[c2_0])  (w : World) : (Instr.build 243 #[(0,v0),(1,v1),(2,v2)]).run prog w = .ok (.agg #[c0_0,c1_0,c2_0]) w:=eM underlying243 Gr vZ (by simp [Instr.fill,eC,h0,h1,h2]) w
theorem qG {l : List Value} {ty : TypeId} {x0 x1 x2 : Operand} {c0_0 : Value} (h0 : (ev l x0).cells = #[c0_0]) {c1_0 : Value} (h1 : (ev l x1).cells = #[c1_0]) {c2_0 : Value} (h2 : (ev l x2).cells = #[c2_0]) : fC prog l (.build 243 #[(0,x0),(1,x1),(2,x2)]) ty (.agg #[c0_0,c1_0,c2_0]):=fO (vs:=#[(0,ev l x0),(1,ev l x1),(2,ev l x2)]) (by simp) fun w=>Pp h0 h1 h2 w
theorem Pq {v0 v1 v2 : Value} {c0_0 c0_1 c0_2 c0_3 c0_4 c0_5 : Value} (h0 : v0.cells = #[c0_0,c0_1,c0_2,c0_3,c0_4,c0_5]) {c1_0 c1_1 c1_2 c1_3 c1_4 c1_5 : Value} (h1 : v1.cells = #[c1_0,c1_1,c1_2,c1_3,c1_4,c1_5]) {c2_0 c2_1 c2_2 c2_3 c2_4 c2_5 : Value} (h2 : v2.cells = #[c2_0,c2_1,c2_2,c2_3,c2_4,c2_5])  (w : World) : (Instr.build 280 #[(0,v0),(1,v1),(2,v2)]).run prog w = .ok (.agg #[c0_0,c0_1,c0_2,c0_3,c0_4,c0_5,c1_0,c1_1,c1_2,c1_3,c1_4,c1_5,c2_0,c2_1,c2_2,c2_3,c2_4,c2_5]) w:=eM underlying280 Ph dO (by simp [Instr.fill,eC,h0,h1,h2]) w
theorem Aj {l : List Value} {ty : TypeId} {x0 x1 x2 : Operand} {c0_0 c0_1 c0_2 c0_3 c0_4 c0_5 : Value} (h0 : (ev l x0).cells = #[c0_0,c0_1,c0_2,c0_3,c0_4,c0_5]) {c1_0 c1_1 c1_2 c1_3 c1_4 c1_5 : Value} (h1 : (ev l x1).cells = #[c1_0,c1_1,c1_2,c1_3,c1_4,c1_5]) {c2_0 c2_1 c2_2 c2_3 c2_4 c2_5 : Value} (h2 : (ev l x2).cells = #[c2_0,c2_1,c2_2,c2_3,c2_4,c2_5]) : fC prog l (.build 280 #[(0,x0),(1,x1),(2,x2)]) ty (.agg #[c0_0,c0_1,c0_2,c0_3,c0_4,c0_5,c1_0,c1_1,c1_2,c1_3,c1_4,c1_5,c2_0,c2_1,c2_2,c2_3,c2_4,c2_5]):=fO (vs:=#[(0,ev l x0),(1,ev l x1),(2,ev l x2)]) (by simp) fun w=>Pq h0 h1 h2 w
theorem Pr {v0 v1 v2 : Value} {c0_0 : Value} (h0 : v0.cells = #[c0_0]) {c1_0 : Value} (h1 : v1.cells = #[c1_0]) {c2_0 : Value} (h2 : v2.cells = #[c2_0])  (w : World) : (Instr.build 333 #[(0,v0),(1,v1),(2,v2)]).run prog w = .ok (.agg #[c0_0,c1_0,c2_0]) w:=eM fY Af aO (by simp [Instr.fill,eC,h0,h1,h2]) w
theorem Ak {l : List Value} {ty : TypeId} {x0 x1 x2 : Operand} {c0_0 : Value} (h0 : (ev l x0).cells = #[c0_0]) {c1_0 : Value} (h1 : (ev l x1).cells = #[c1_0]) {c2_0 : Value} (h2 : (ev l x2).cells = #[c2_0]) : fC prog l (.build 333 #[(0,x0),(1,x1),(2,x2)]) ty (.agg #[c0_0,c1_0,c2_0]):=fO (vs:=#[(0,ev l x0),(1,ev l x1),(2,ev l x2)]) (by simp) fun w=>Pr h0 h1 h2 w
theorem kZ (d : Nat) {x0 y0 : Int} {x1 y1 : Int} {x2 y2 : Int} : oC prog (d + 2) 30 (.agg #[.int .i64 x0,.int .i64 x1,.int .i64 x2]) (.agg #[.int .i64 y0,.int .i64 y1,.int .i64 y2]) (x0 = y0 ∧ x1 = y1 ∧ x2 = y2):=(oC.struct dL (by kernel_rfl) (sH.cons (by decide) (cT aX rfl) (cT aX rfl) (oC.int (d:=d + 0) gB) (sH.cons (by decide) (cT aX rfl) (cT aX rfl) (oC.int (d:=d + 0) gB) (sH.cons (by decide) (cT aX rfl) (cT aX rfl) (oC.int (d:=d + 0) gB) sH.nil)))).iff (by simp only[and_assoc,and_true])
theorem cV {l : List Value} {ty T' : TypeId} {x y : Operand} {x0 y0 : Int} {x1 y1 : Int} {x2 y2 : Int} (hx : ev l x = (.agg #[.int .i64 x0,.int .i64 x1,.int .i64 x2])) (hy : ev l y = (.agg #[.int .i64 y0,.int .i64 y1,.int .i64 y2])) : fC prog l (.binOp .eql 30 x y T') ty (.bool (decide (x0 = y0 ∧ x1 = y1 ∧ x2 = y2))):=Fu (by kernel_rfl) hx hy (kZ 9998)
theorem gE {l : List Value} {ty T' : TypeId} {x y : Operand} {x0 y0 : Int} {x1 y1 : Int} {x2 y2 : Int} (hx : ev l x = (.agg #[.int .i64 x0,.int .i64 x1,.int .i64 x2])) (hy : ev l y = (.agg #[.int .i64 y0,.int .i64 y1,.int .i64 y2])) : fC prog l (.binOp .neq 30 x y T') ty (.bool (decide (¬ (x0 = y0 ∧ x1 = y1 ∧ x2 = y2)))):=Sm (by kernel_rfl) hx hy (kZ 9998)
theorem ahj (d : Nat) {x0 y0 : Int} {x1 y1 : Int} {x2 y2 : Int} : oC prog (d + 2) 36 (.agg #[.int .i64 x0,.int .i64 x1,.int .i64 x2]) (.agg #[.int .i64 y0,.int .i64 y1,.int .i64 y2]) (x0 = y0 ∧ x1 = y1 ∧ x2 = y2):=(oC.array cP aO (mV.cons (cT aX rfl) (cT aX rfl) (oC.int (d:=d + 0) gB) (mV.cons (cT aX rfl) (cT aX rfl) (oC.int (d:=d + 0) gB) (mV.cons (cT aX rfl) (cT aX rfl) (oC.int (d:=d + 0) gB) mV.nil)))).iff (by simp only[and_assoc,and_true])
theorem Kj {l : List Value} {ty T' : TypeId} {x y : Operand} {x0 y0 : Int} {x1 y1 : Int} {x2 y2 : Int} (hx : ev l x = (.agg #[.int .i64 x0,.int .i64 x1,.int .i64 x2])) (hy : ev l y = (.agg #[.int .i64 y0,.int .i64 y1,.int .i64 y2])) : fC prog l (.binOp .eql 36 x y T') ty (.bool (decide (x0 = y0 ∧ x1 = y1 ∧ x2 = y2))):=Fu (by kernel_rfl) hx hy (ahj 9998)
theorem ahk (d : Nat) {x0 y0 : Int} {x1 y1 : Int} {x2 y2 : Int} {x3 y3 : Int} {x4 y4 : Int} {x5 y5 : Int} {x6 y6 : Int} {x7 y7 : Int} {x8 y8 : Int} : oC prog (d + 3) 38 (.agg #[.int .i64 x0,.int .i64 x1,.int .i64 x2,.int .i64 x3,.int .i64 x4,.int .i64 x5,.int .i64 x6,.int .i64 x7,.int .i64 x8]) (.agg #[.int .i64 y0,.int .i64 y1,.int .i64 y2,.int .i64 y3,.int .i64 y4,.int .i64 y5,.int .i64 y6,.int .i64 y7,.int .i64 y8]) (x0 = y0 ∧ x1 = y1 ∧ x2 = y2 ∧ x3 = y3 ∧ x4 = y4 ∧ x5 = y5 ∧ x6 = y6 ∧ x7 = y7 ∧ x8 = y8):=(oC.array underlying38 aC (mV.cons (cR aI aC rfl) (cR aI aC rfl) (kZ (d + 0)) (mV.cons (cR aI aC rfl) (cR aI aC rfl) (kZ (d + 0)) (mV.cons (cR aI aC rfl) (cR aI aC rfl) (kZ (d + 0)) mV.nil)))).iff (by simp only[and_assoc,and_true])
theorem abm (d : Nat) {x0 y0 : Int} {x1 y1 : Int} {x2 y2 : Int} {x3 y3 : Int} {x4 y4 : Int} {x5 y5 : Int} {x6 y6 : Int} {x7 y7 : Int} {x8 y8 : Int} : oC prog (d + 3) 39 (.agg #[.int .i64 x0,.int .i64 x1,.int .i64 x2,.int .i64 x3,.int .i64 x4,.int .i64 x5,.int .i64 x6,.int .i64 x7,.int .i64 x8]) (.agg #[.int .i64 y0,.int .i64 y1,.int .i64 y2,.int .i64 y3,.int .i64 y4,.int .i64 y5,.int .i64 y6,.int .i64 y7,.int .i64 y8]) (x0 = y0 ∧ x1 = y1 ∧ x2 = y2 ∧ x3 = y3 ∧ x4 = y4 ∧ x5 = y5 ∧ x6 = y6 ∧ x7 = y7 ∧ x8 = y8):=(oC.array bD aC (mV.cons (cR aI aC rfl) (cR aI aC rfl) (kZ (d + 0)) (mV.cons (cR aI aC rfl) (cR aI aC rfl) (kZ (d + 0)) (mV.cons (cR aI aC rfl) (cR aI aC rfl) (kZ (d + 0)) mV.nil)))).iff (by simp only[and_assoc,and_true])
theorem Ys {l : List Value} {ty T' : TypeId} {x y : Operand} {x0 y0 : Int} {x1 y1 : Int} {x2 y2 : Int} {x3 y3 : Int} {x4 y4 : Int} {x5 y5 : Int} {x6 y6 : Int} {x7 y7 : Int} {x8 y8 : Int} (hx : ev l x = (.agg #[.int .i64 x0,.int .i64 x1,.int .i64 x2,.int .i64 x3,.int .i64 x4,.int .i64 x5,.int .i64 x6,.int .i64 x7,.int .i64 x8])) (hy : ev l y = (.agg #[.int .i64 y0,.int .i64 y1,.int .i64 y2,.int .i64 y3,.int .i64 y4,.int .i64 y5,.int .i64 y6,.int .i64 y7,.int .i64 y8])) : fC prog l (.binOp .eql 39 x y T') ty (.bool (decide (x0 = y0 ∧ x1 = y1 ∧ x2 = y2 ∧ x3 = y3 ∧ x4 = y4 ∧ x5 = y5 ∧ x6 = y6 ∧ x7 = y7 ∧ x8 = y8))):=Fu (by kernel_rfl) hx hy (abm 9997)
theorem Yt {l : List Value} {ty T' : TypeId} {x y : Operand} {x0 y0 : Int} {x1 y1 : Int} {x2 y2 : Int} {x3 y3 : Int} {x4 y4 : Int} {x5 y5 : Int} {x6 y6 : Int} {x7 y7 : Int} {x8 y8 : Int} (hx : ev l x = (.agg #[.int .i64 x0,.int .i64 x1,.int .i64 x2,.int .i64 x3,.int .i64 x4,.int .i64 x5,.int .i64 x6,.int .i64 x7,.int .i64 x8])) (hy : ev l y = (.agg #[.int .i64 y0,.int .i64 y1,.int .i64 y2,.int .i64 y3,.int .i64 y4,.int .i64 y5,.int .i64 y6,.int .i64 y7,.int .i64 y8])) : fC prog l (.binOp .neq 39 x y T') ty (.bool (decide (¬ (x0 = y0 ∧ x1 = y1 ∧ x2 = y2 ∧ x3 = y3 ∧ x4 = y4 ∧ x5 = y5 ∧ x6 = y6 ∧ x7 = y7 ∧ x8 = y8)))):=Sm (by kernel_rfl) hx hy (abm 9997)
theorem ahl (d : Nat) {x0 y0 : Int} {x1 y1 : Int} {x2 y2 : Int} {x3 y3 : Int} {x4 y4 : Int} {x5 y5 : Int} : oC prog (d + 3) 55 (.agg #[.int .i64 x0,.int .i64 x1,.int .i64 x2,.int .i64 x3,.int .i64 x4,.int .i64 x5]) (.agg #[.int .i64 y0,.int .i64 y1,.int .i64 y2,.int .i64 y3,.int .i64 y4,.int .i64 y5]) (x0 = y0 ∧ x1 = y1 ∧ x2 = y2 ∧ x3 = y3 ∧ x4 = y4 ∧ x5 = y5):=(oC.struct underlying55 (by kernel_rfl) (sH.cons (by decide) (cR aI aC rfl) (cR aI aC rfl) (kZ (d + 0)) (sH.cons (by decide) (cR aI aC rfl) (cR aI aC rfl) (kZ (d + 0)) sH.nil))).iff (by simp only[and_assoc,and_true])
theorem Yu {l : List Value} {ty T' : TypeId} {x y : Operand} {x0 y0 : Int} {x1 y1 : Int} {x2 y2 : Int} {x3 y3 : Int} {x4 y4 : Int} {x5 y5 : Int} (hx : ev l x = (.agg #[.int .i64 x0,.int .i64 x1,.int .i64 x2,.int .i64 x3,.int .i64 x4,.int .i64 x5])) (hy : ev l y = (.agg #[.int .i64 y0,.int .i64 y1,.int .i64 y2,.int .i64 y3,.int .i64 y4,.int .i64 y5])) : fC prog l (.binOp .neq 55 x y T') ty (.bool (decide (¬ (x0 = y0 ∧ x1 = y1 ∧ x2 = y2 ∧ x3 = y3 ∧ x4 = y4 ∧ x5 = y5)))):=Sm (by kernel_rfl) hx hy (ahl 9997)
theorem abn (d : Nat) {x0 y0 : Int} {x1 y1 : Int} {x2 y2 : Int} {x3 y3 : Int} {x4 y4 : Int} {x5 y5 : Int} : oC prog (d + 3) 56 (.agg #[.int .i64 x0,.int .i64 x1,.int .i64 x2,.int .i64 x3,.int .i64 x4,.int .i64 x5]) (.agg #[.int .i64 y0,.int .i64 y1,.int .i64 y2,.int .i64 y3,.int .i64 y4,.int .i64 y5]) (x0 = y0 ∧ x1 = y1 ∧ x2 = y2 ∧ x3 = y3 ∧ x4 = y4 ∧ x5 = y5):=(oC.array tO aC (mV.cons (cR aI aC rfl) (cR aI aC rfl) (kZ (d + 0)) (mV.cons (cR aI aC rfl) (cR aI aC rfl) (kZ (d + 0)) mV.nil))).iff (by simp only[and_assoc,and_true])
theorem Yv {l : List Value} {ty T' : TypeId} {x y : Operand} {x0 y0 : Int} {x1 y1 : Int} {x2 y2 : Int} {x3 y3 : Int} {x4 y4 : Int} {x5 y5 : Int} (hx : ev l x = (.agg #[.int .i64 x0,.int .i64 x1,.int .i64 x2,.int .i64 x3,.int .i64 x4,.int .i64 x5])) (hy : ev l y = (.agg #[.int .i64 y0,.int .i64 y1,.int .i64 y2,.int .i64 y3,.int .i64 y4,.int .i64 y5])) : fC prog l (.binOp .eql 56 x y T') ty (.bool (decide (x0 = y0 ∧ x1 = y1 ∧ x2 = y2 ∧ x3 = y3 ∧ x4 = y4 ∧ x5 = y5))):=Fu (by kernel_rfl) hx hy (abn 9997)
theorem Mm (d : Nat) {x0 y0 : Bool} {x1 y1 : ByteArray} : oC prog (d + 2) 95 (.agg #[.bool x0,.string x1]) (.agg #[.bool y0,.string y1]) (x0 = y0 ∧ x1 = y1):=(oC.struct nQ (by kernel_rfl) (sH.cons (by decide) (cT mY rfl) (cT mY rfl) (oC.bool (d:=d + 0) aa0) (sH.cons (by decide) (cT Kh rfl) (cT Kh rfl) (oC.str (d:=d + 0) mX) sH.nil))).iff (by simp only[and_assoc,and_true])
theorem adX (d : Nat) {x0 y0 : Int} {x1 y1 : Int} {x2 y2 : Int} {x3 y3 : Int} {x4 y4 : Int} {x5 y5 : Int} : oC prog (d + 3) 215 (.agg #[.int .i64 x0,.int .i64 x1,.int .i64 x2,.int .i64 x3,.int .i64 x4,.int .i64 x5]) (.agg #[.int .i64 y0,.int .i64 y1,.int .i64 y2,.int .i64 y3,.int .i64 y4,.int .i64 y5]) (x0 = y0 ∧ x1 = y1 ∧ x2 = y2 ∧ x3 = y3 ∧ x4 = y4 ∧ x5 = y5):=(oC.struct iO (by kernel_rfl) (sH.cons (by decide) (cR aI aC rfl) (cR aI aC rfl) (kZ (d + 0)) (sH.cons (by decide) (cR aI aC rfl) (cR aI aC rfl) (kZ (d + 0)) sH.nil))).iff (by simp only[and_assoc,and_true])
theorem adY (d : Nat) {x0 y0 : Bool} {x1 y1 : ByteArray} {x2 y2 : Bool} {x3 y3 : ByteArray} {x4 y4 : Bool} {x5 y5 : ByteArray} {x6 y6 : Bool} {x7 y7 : ByteArray} : oC prog (d + 3) 229 (.agg #[.bool x0,.string x1,.bool x2,.string x3,.bool x4,.string x5,.bool x6,.string x7]) (.agg #[.bool y0,.string y1,.bool y2,.string y3,.bool y4,.string y5,.bool y6,.string y7]) (x0 = y0 ∧ x1 = y1 ∧ x2 = y2 ∧ x3 = y3 ∧ x4 = y4 ∧ x5 = y5 ∧ x6 = y6 ∧ x7 = y7):=(oC.array nH aP (mV.cons (cR bN aP rfl) (cR bN aP rfl) (Mm (d + 0)) (mV.cons (cR bN aP rfl) (cR bN aP rfl) (Mm (d + 0)) (mV.cons (cR bN aP rfl) (cR bN aP rfl) (Mm (d + 0)) (mV.cons (cR bN aP rfl) (cR bN aP rfl) (Mm (d + 0)) mV.nil))))).iff (by simp only[and_assoc,and_true])
theorem Tn {l : List Value} {ty T' : TypeId} {x y : Operand} {x0 y0 : Bool} {x1 y1 : ByteArray} {x2 y2 : Bool} {x3 y3 : ByteArray} {x4 y4 : Bool} {x5 y5 : ByteArray} {x6 y6 : Bool} {x7 y7 : ByteArray} (hx : ev l x = (.agg #[.bool x0,.string x1,.bool x2,.string x3,.bool x4,.string x5,.bool x6,.string x7])) (hy : ev l y = (.agg #[.bool y0,.string y1,.bool y2,.string y3,.bool y4,.string y5,.bool y6,.string y7])) : fC prog l (.binOp .eql 229 x y T') ty (.bool (decide (x0 = y0 ∧ x1 = y1 ∧ x2 = y2 ∧ x3 = y3 ∧ x4 = y4 ∧ x5 = y5 ∧ x6 = y6 ∧ x7 = y7))):=Fu (by kernel_rfl) hx hy (adY 9997)
end Go.Proofs.YtfekpcimgncioaaGreatDoor
namespace Go.Proofs.YtfekpcimgncioaaGreatDoor
open Go.Proofs.Tryz
open Go.RowKit Go.Lith
theorem gN {l : List Value} {ty : TypeId} {x y : Operand} {k : IntKind} {c0 c1 c2 : Value} (hx : ev l x = .agg #[c0,c1,c2]) (hy : ev l y = .int k 0) : fC prog l (.index 36 x y) ty c0:=lN cP aX aO hx hy (by decide) (by decide) rfl
theorem gP {l : List Value} {ty : TypeId} {x y : Operand} {k : IntKind} {c0 c1 c2 : Value} (hx : ev l x = .agg #[c0,c1,c2]) (hy : ev l y = .int k 1) : fC prog l (.index 36 x y) ty c1:=lN cP aX aO hx hy (by decide) (by decide) rfl
theorem gQ {l : List Value} {ty : TypeId} {x y : Operand} {k : IntKind} {c0 c1 c2 : Value} (hx : ev l x = .agg #[c0,c1,c2]) (hy : ev l y = .int k 2) : fC prog l (.index 36 x y) ty c2:=lN cP aX aO hx hy (by decide) (by decide) rfl
theorem oE {l : List Value} {ty : TypeId} {x y : Operand} {k : IntKind} {c0 c1 c2 c3 c4 c5 c6 c7 c8 : Value} (hx : ev l x = .agg #[c0,c1,c2,c3,c4,c5,c6,c7,c8]) (hy : ev l y = .int k 0) : fC prog l (.index 39 x y) ty (.agg #[c0,c1,c2]):=lO bD aI aC hx hy (by decide) (by decide) rfl
theorem oF {l : List Value} {ty : TypeId} {x y : Operand} {k : IntKind} {c0 c1 c2 c3 c4 c5 c6 c7 c8 : Value} (hx : ev l x = .agg #[c0,c1,c2,c3,c4,c5,c6,c7,c8]) (hy : ev l y = .int k 1) : fC prog l (.index 39 x y) ty (.agg #[c3,c4,c5]):=lO bD aI aC hx hy (by decide) (by decide) rfl
theorem oG {l : List Value} {ty : TypeId} {x y : Operand} {k : IntKind} {c0 c1 c2 c3 c4 c5 c6 c7 c8 : Value} (hx : ev l x = .agg #[c0,c1,c2,c3,c4,c5,c6,c7,c8]) (hy : ev l y = .int k 2) : fC prog l (.index 39 x y) ty (.agg #[c6,c7,c8]):=lO bD aI aC hx hy (by decide) (by decide) rfl
theorem xD {l : List Value} {ty : TypeId} {x y : Operand} {k : IntKind} {c0 c1 c2 : Value} (hx : ev l x = .agg #[c0,c1,c2]) (hy : ev l y = .int k 0) : fC prog l (.index 243 x y) ty c0:=lN underlying243 Mj vZ hx hy (by decide) (by decide) rfl
theorem xE {l : List Value} {ty : TypeId} {x y : Operand} {k : IntKind} {c0 c1 c2 : Value} (hx : ev l x = .agg #[c0,c1,c2]) (hy : ev l y = .int k 1) : fC prog l (.index 243 x y) ty c1:=lN underlying243 Mj vZ hx hy (by decide) (by decide) rfl
theorem xF {l : List Value} {ty : TypeId} {x y : Operand} {k : IntKind} {c0 c1 c2 : Value} (hx : ev l x = .agg #[c0,c1,c2]) (hy : ev l y = .int k 2) : fC prog l (.index 243 x y) ty c2:=lN underlying243 Mj vZ hx hy (by decide) (by decide) rfl
theorem Iy {l : List Value} {ty : TypeId} {x y : Operand} {k : IntKind} {c0 c1 c2 c3 c4 c5 : Value} (hx : ev l x = .agg #[c0,c1,c2,c3,c4,c5]) (hy : ev l y = .int k 0) : fC prog l (.index 273 x y) ty (.agg #[c0,c1]):=lO fM bN aP hx hy (by decide) (by decide) rfl
theorem Iz {l : List Value} {ty : TypeId} {x y : Operand} {k : IntKind} {c0 c1 c2 c3 c4 c5 : Value} (hx : ev l x = .agg #[c0,c1,c2,c3,c4,c5]) (hy : ev l y = .int k 1) : fC prog l (.index 273 x y) ty (.agg #[c2,c3]):=lO fM bN aP hx hy (by decide) (by decide) rfl
theorem Ja {l : List Value} {ty : TypeId} {x y : Operand} {k : IntKind} {c0 c1 c2 c3 c4 c5 : Value} (hx : ev l x = .agg #[c0,c1,c2,c3,c4,c5]) (hy : ev l y = .int k 2) : fC prog l (.index 273 x y) ty (.agg #[c4,c5]):=lO fM bN aP hx hy (by decide) (by decide) rfl
theorem Jb {l : List Value} {ty : TypeId} {x y : Operand} {k : IntKind} {c0 c1 c2 c3 c4 c5 c6 c7 c8 c9 c10 c11 c12 c13 c14 c15 c16 c17 : Value} (hx : ev l x = .agg #[c0,c1,c2,c3,c4,c5,c6,c7,c8,c9,c10,c11,c12,c13,c14,c15,c16,c17]) (hy : ev l y = .int k 0) : fC prog l (.index 280 x y) ty (.agg #[c0,c1,c2,c3,c4,c5]):=lO underlying280 iX dO hx hy (by decide) (by decide) rfl
theorem Jc {l : List Value} {ty : TypeId} {x y : Operand} {k : IntKind} {c0 c1 c2 c3 c4 c5 c6 c7 c8 c9 c10 c11 c12 c13 c14 c15 c16 c17 : Value} (hx : ev l x = .agg #[c0,c1,c2,c3,c4,c5,c6,c7,c8,c9,c10,c11,c12,c13,c14,c15,c16,c17]) (hy : ev l y = .int k 1) : fC prog l (.index 280 x y) ty (.agg #[c6,c7,c8,c9,c10,c11]):=lO underlying280 iX dO hx hy (by decide) (by decide) rfl
theorem Jd {l : List Value} {ty : TypeId} {x y : Operand} {k : IntKind} {c0 c1 c2 c3 c4 c5 c6 c7 c8 c9 c10 c11 c12 c13 c14 c15 c16 c17 : Value} (hx : ev l x = .agg #[c0,c1,c2,c3,c4,c5,c6,c7,c8,c9,c10,c11,c12,c13,c14,c15,c16,c17]) (hy : ev l y = .int k 2) : fC prog l (.index 280 x y) ty (.agg #[c12,c13,c14,c15,c16,c17]):=lO underlying280 iX dO hx hy (by decide) (by decide) rfl
theorem Je {l : List Value} {ty : TypeId} {x y : Operand} {k : IntKind} {c0 c1 c2 : Value} (hx : ev l x = .agg #[c0,c1,c2]) (hy : ev l y = .int k 0) : fC prog l (.index 333 x y) ty c0:=lN fY aX aO hx hy (by decide) (by decide) rfl
theorem Jf {l : List Value} {ty : TypeId} {x y : Operand} {k : IntKind} {c0 c1 c2 : Value} (hx : ev l x = .agg #[c0,c1,c2]) (hy : ev l y = .int k 1) : fC prog l (.index 333 x y) ty c1:=lN fY aX aO hx hy (by decide) (by decide) rfl
theorem Jg {l : List Value} {ty : TypeId} {x y : Operand} {k : IntKind} {c0 c1 c2 : Value} (hx : ev l x = .agg #[c0,c1,c2]) (hy : ev l y = .int k 2) : fC prog l (.index 333 x y) ty c2:=lN fY aX aO hx hy (by decide) (by decide) rfl
theorem eT {ds : List Deferred} {l : List Value} {ty : TypeId} {ops : Array Oper} {Q : Exit → Act → World → Prop} {rest : List Oper} {d : Nat} {pos : String} {after : Array Edge} {w : World} {x0 : Operand} {c0_0 c0_1 c0_2 c0_3 c0_4 c0_5 c0_6 c0_7 c0_8 : Value} (h0 : (ev l x0).cells = #[c0_0,c0_1,c0_2,c0_3,c0_4,c0_5,c0_6,c0_7,c0_8]) (h : ∀ w' g,eB w w' → w.heap.size ≤ g → fF w' g [c0_0,c0_1,c0_2,c0_3,c0_4,c0_5,c0_6,c0_7,c0_8] 39 → wpList prog ops Q rest (Fr (l.set d (.slice (some ⟨g,0,none⟩) 1 1)) ds) w') : wpList prog ops Q (Oper.mk (some d) (.buildSlice 27 1 #[(0,x0)]) ty pos after none :: rest) (Fr l ds) w :=
 kP (vs:=#[(0,ev l x0)]) (base:=#[.int .i64 0,.int .i64 0,.int .i64 0,.int .i64 0,.int .i64 0,.int .i64 0,.int .i64 0,.int .i64 0,.int .i64 0]) (c:=9) (z:=(.agg #[.int .i64 0,.int .i64 0,.int .i64 0,.int .i64 0,.int .i64 0,.int .i64 0,.int .i64 0,.int .i64 0,.int .i64 0])) bQ (by kernel_rfl) (by decide) (by decide) (by kernel_rfl) (by simp) (by simp [Instr.fill,h0]) h
theorem Yw {ds : List Deferred} {l : List Value} {ty : TypeId} {ops : Array Oper} {Q : Exit → Act → World → Prop} {rest : List Oper} {d : Nat} {pos : String} {after : Array Edge} {w : World} {x0 x1 x2 x3 : Operand} {c0_0 c0_1 c0_2 c0_3 c0_4 c0_5 c0_6 c0_7 c0_8 c1_0 c1_1 c1_2 c1_3 c1_4 c1_5 c1_6 c1_7 c1_8 c2_0 c2_1 c2_2 c2_3 c2_4 c2_5 c2_6 c2_7 c2_8 c3_0 c3_1 c3_2 c3_3 c3_4 c3_5 c3_6 c3_7 c3_8 : Value} (h0 : (ev l x0).cells = #[c0_0,c0_1,c0_2,c0_3,c0_4,c0_5,c0_6,c0_7,c0_8]) (h1 : (ev l x1).cells = #[c1_0,c1_1,c1_2,c1_3,c1_4,c1_5,c1_6,c1_7,c1_8]) (h2 : (ev l x2).cells = #[c2_0,c2_1,c2_2,c2_3,c2_4,c2_5,c2_6,c2_7,c2_8]) (h3 : (ev l x3).cells = #[c3_0,c3_1,c3_2,c3_3,c3_4,c3_5,c3_6,c3_7,c3_8]) (h : ∀ w' g,eB w w' → w.heap.size ≤ g → fF w' g [c0_0,c0_1,c0_2,c0_3,c0_4,c0_5,c0_6,c0_7,c0_8,c1_0,c1_1,c1_2,c1_3,c1_4,c1_5,c1_6,c1_7,c1_8,c2_0,c2_1,c2_2,c2_3,c2_4,c2_5,c2_6,c2_7,c2_8,c3_0,c3_1,c3_2,c3_3,c3_4,c3_5,c3_6,c3_7,c3_8] 39 → wpList prog ops Q rest (Fr (l.set d (.slice (some ⟨g,0,none⟩) 4 4)) ds) w') : wpList prog ops Q (Oper.mk (some d) (.buildSlice 27 4 #[(0,x0),(1,x1),(2,x2),(3,x3)]) ty pos after none :: rest) (Fr l ds) w :=
 kP (vs:=#[(0,ev l x0),(1,ev l x1),(2,ev l x2),(3,ev l x3)]) (base:=#[.int .i64 0,.int .i64 0,.int .i64 0,.int .i64 0,.int .i64 0,.int .i64 0,.int .i64 0,.int .i64 0,.int .i64 0,.int .i64 0,.int .i64 0,.int .i64 0,.int .i64 0,.int .i64 0,.int .i64 0,.int .i64 0,.int .i64 0,.int .i64 0,.int .i64 0,.int .i64 0,.int .i64 0,.int .i64 0,.int .i64 0,.int .i64 0,.int .i64 0,.int .i64 0,.int .i64 0,.int .i64 0,.int .i64 0,.int .i64 0,.int .i64 0,.int .i64 0,.int .i64 0,.int .i64 0,.int .i64 0,.int .i64 0]) (c:=9) (z:=(.agg #[.int .i64 0,.int .i64 0,.int .i64 0,.int .i64 0,.int .i64 0,.int .i64 0,.int .i64 0,.int .i64 0,.int .i64 0])) bQ (by kernel_rfl) (by decide) (by decide) (by kernel_rfl) (by simp) (by simp [Instr.fill,h0,h1,h2,h3]) h
theorem Cm {ds : List Deferred} {l : List Value} {ty : TypeId} {ops : Array Oper} {Q : Exit → Act → World → Prop} {rest : List Oper} {d : Nat} {pos : String} {after : Array Edge} {w : World} {x0 : Operand} {c0_0 c0_1 c0_2 c0_3 c0_4 c0_5 : Value} (h0 : (ev l x0).cells = #[c0_0,c0_1,c0_2,c0_3,c0_4,c0_5]) (h : ∀ w' g,eB w w' → w.heap.size ≤ g → fF w' g [c0_0,c0_1,c0_2,c0_3,c0_4,c0_5] 55 → wpList prog ops Q rest (Fr (l.set d (.slice (some ⟨g,0,none⟩) 1 1)) ds) w') : wpList prog ops Q (Oper.mk (some d) (.buildSlice 46 1 #[(0,x0)]) ty pos after none :: rest) (Fr l ds) w :=
 kP (vs:=#[(0,ev l x0)]) (base:=#[.int .i64 0,.int .i64 0,.int .i64 0,.int .i64 0,.int .i64 0,.int .i64 0]) (c:=6) (z:=(.agg #[.int .i64 0,.int .i64 0,.int .i64 0,.int .i64 0,.int .i64 0,.int .i64 0])) xB (by kernel_rfl) (by decide) (by decide) (by kernel_rfl) (by simp) (by simp [Instr.fill,h0]) h
theorem Yx {ds : List Deferred} {l : List Value} {ty : TypeId} {ops : Array Oper} {Q : Exit → Act → World → Prop} {rest : List Oper} {d : Nat} {pos : String} {after : Array Edge} {w : World} {x0 : Operand} {c0_0 c0_1 c0_2 c0_3 c0_4 c0_5 : Value} (h0 : (ev l x0).cells = #[c0_0,c0_1,c0_2,c0_3,c0_4,c0_5]) (h : ∀ w' g,eB w w' → w.heap.size ≤ g → fF w' g [c0_0,c0_1,c0_2,c0_3,c0_4,c0_5] 56 → wpList prog ops Q rest (Fr (l.set d (.slice (some ⟨g,0,none⟩) 1 1)) ds) w') : wpList prog ops Q (Oper.mk (some d) (.buildSlice 52 1 #[(0,x0)]) ty pos after none :: rest) (Fr l ds) w :=
 kP (vs:=#[(0,ev l x0)]) (base:=#[.int .i64 0,.int .i64 0,.int .i64 0,.int .i64 0,.int .i64 0,.int .i64 0]) (c:=6) (z:=(.agg #[.int .i64 0,.int .i64 0,.int .i64 0,.int .i64 0,.int .i64 0,.int .i64 0])) xC (by kernel_rfl) (by decide) (by decide) (by kernel_rfl) (by simp) (by simp [Instr.fill,h0]) h
theorem Yy {ds : List Deferred} {l : List Value} {ty : TypeId} {ops : Array Oper} {Q : Exit → Act → World → Prop} {rest : List Oper} {d : Nat} {pos : String} {after : Array Edge} {w : World} {x0 x1 x2 : Operand} {c0_0 c0_1 c0_2 c0_3 c0_4 c0_5 c1_0 c1_1 c1_2 c1_3 c1_4 c1_5 c2_0 c2_1 c2_2 c2_3 c2_4 c2_5 : Value} (h0 : (ev l x0).cells = #[c0_0,c0_1,c0_2,c0_3,c0_4,c0_5]) (h1 : (ev l x1).cells = #[c1_0,c1_1,c1_2,c1_3,c1_4,c1_5]) (h2 : (ev l x2).cells = #[c2_0,c2_1,c2_2,c2_3,c2_4,c2_5]) (h : ∀ w' g,eB w w' → w.heap.size ≤ g → fF w' g [c0_0,c0_1,c0_2,c0_3,c0_4,c0_5,c1_0,c1_1,c1_2,c1_3,c1_4,c1_5,c2_0,c2_1,c2_2,c2_3,c2_4,c2_5] 56 → wpList prog ops Q rest (Fr (l.set d (.slice (some ⟨g,0,none⟩) 3 3)) ds) w') : wpList prog ops Q (Oper.mk (some d) (.buildSlice 52 3 #[(0,x0),(1,x1),(2,x2)]) ty pos after none :: rest) (Fr l ds) w :=
 kP (vs:=#[(0,ev l x0),(1,ev l x1),(2,ev l x2)]) (base:=#[.int .i64 0,.int .i64 0,.int .i64 0,.int .i64 0,.int .i64 0,.int .i64 0,.int .i64 0,.int .i64 0,.int .i64 0,.int .i64 0,.int .i64 0,.int .i64 0,.int .i64 0,.int .i64 0,.int .i64 0,.int .i64 0,.int .i64 0,.int .i64 0]) (c:=6) (z:=(.agg #[.int .i64 0,.int .i64 0,.int .i64 0,.int .i64 0,.int .i64 0,.int .i64 0])) xC (by kernel_rfl) (by decide) (by decide) (by kernel_rfl) (by simp) (by simp [Instr.fill,h0,h1,h2]) h
theorem mJ {ds : List Deferred} {l : List Value} {ty : TypeId} {ops : Array Oper} {Q : Exit → Act → World → Prop} {rest : List Oper} {d : Nat} {pos : String} {after : Array Edge} {w : World} {x0 : Operand} {c0_0 c0_1 c0_2 : Value} (h0 : (ev l x0).cells = #[c0_0,c0_1,c0_2]) (h : ∀ w' g,eB w w' → w.heap.size ≤ g → fF w' g [c0_0,c0_1,c0_2] 30 → wpList prog ops Q rest (Fr (l.set d (.slice (some ⟨g,0,none⟩) 1 1)) ds) w') : wpList prog ops Q (Oper.mk (some d) (.buildSlice 65 1 #[(0,x0)]) ty pos after none :: rest) (Fr l ds) w :=
 kP (vs:=#[(0,ev l x0)]) (base:=#[.int .i64 0,.int .i64 0,.int .i64 0]) (c:=3) (z:=(.agg #[.int .i64 0,.int .i64 0,.int .i64 0])) dS (by kernel_rfl) (by decide) (by decide) (by kernel_rfl) (by simp) (by simp [Instr.fill,h0]) h
theorem Kk {ds : List Deferred} {l : List Value} {ty : TypeId} {ops : Array Oper} {Q : Exit → Act → World → Prop} {rest : List Oper} {d : Nat} {pos : String} {after : Array Edge} {w : World} {x0 x1 x2 x3 : Operand} {c0_0 c0_1 c0_2 c1_0 c1_1 c1_2 c2_0 c2_1 c2_2 c3_0 c3_1 c3_2 : Value} (h0 : (ev l x0).cells = #[c0_0,c0_1,c0_2]) (h1 : (ev l x1).cells = #[c1_0,c1_1,c1_2]) (h2 : (ev l x2).cells = #[c2_0,c2_1,c2_2]) (h3 : (ev l x3).cells = #[c3_0,c3_1,c3_2]) (h : ∀ w' g,eB w w' → w.heap.size ≤ g → fF w' g [c0_0,c0_1,c0_2,c1_0,c1_1,c1_2,c2_0,c2_1,c2_2,c3_0,c3_1,c3_2] 30 → wpList prog ops Q rest (Fr (l.set d (.slice (some ⟨g,0,none⟩) 4 4)) ds) w') : wpList prog ops Q (Oper.mk (some d) (.buildSlice 65 4 #[(0,x0),(1,x1),(2,x2),(3,x3)]) ty pos after none :: rest) (Fr l ds) w :=
 kP (vs:=#[(0,ev l x0),(1,ev l x1),(2,ev l x2),(3,ev l x3)]) (base:=#[.int .i64 0,.int .i64 0,.int .i64 0,.int .i64 0,.int .i64 0,.int .i64 0,.int .i64 0,.int .i64 0,.int .i64 0,.int .i64 0,.int .i64 0,.int .i64 0]) (c:=3) (z:=(.agg #[.int .i64 0,.int .i64 0,.int .i64 0])) dS (by kernel_rfl) (by decide) (by decide) (by kernel_rfl) (by simp) (by simp [Instr.fill,h0,h1,h2,h3]) h
theorem To {ds : List Deferred} {l : List Value} {ty : TypeId} {ops : Array Oper} {Q : Exit → Act → World → Prop} {rest : List Oper} {d : Nat} {pos : String} {after : Array Edge} {w : World} {x0 : Operand} {c0_0 c0_1 c0_2 c0_3 c0_4 c0_5 c0_6 c0_7 : Value} (h0 : (ev l x0).cells = #[c0_0,c0_1,c0_2,c0_3,c0_4,c0_5,c0_6,c0_7]) (h : ∀ w' g,eB w w' → w.heap.size ≤ g → fF w' g [c0_0,c0_1,c0_2,c0_3,c0_4,c0_5,c0_6,c0_7] 112 → wpList prog ops Q rest (Fr (l.set d (.slice (some ⟨g,0,none⟩) 1 1)) ds) w') : wpList prog ops Q (Oper.mk (some d) (.buildSlice 105 1 #[(0,x0)]) ty pos after none :: rest) (Fr l ds) w :=
 kP (vs:=#[(0,ev l x0)]) (base:=#[.int .i64 0,.int .i64 0,.int .i64 0,.int .i64 0,.int .i64 0,.int .i64 0,.bool false,.string ⟨#[]⟩]) (c:=8) (z:=(.agg #[.int .i64 0,.int .i64 0,.int .i64 0,.int .i64 0,.int .i64 0,.int .i64 0,.bool false,.string ⟨#[]⟩])) Gn (by kernel_rfl) (by decide) (by decide) (by kernel_rfl) (by simp) (by simp [Instr.fill,h0]) h
theorem Tp {ds : List Deferred} {l : List Value} {ty : TypeId} {ops : Array Oper} {Q : Exit → Act → World → Prop} {rest : List Oper} {d : Nat} {pos : String} {after : Array Edge} {w : World} {x0 x1 x2 x3 x4 x5 : Operand} {c0_0 c1_0 c2_0 c3_0 c4_0 c5_0 : Value} (h0 : (ev l x0).cells = #[c0_0]) (h1 : (ev l x1).cells = #[c1_0]) (h2 : (ev l x2).cells = #[c2_0]) (h3 : (ev l x3).cells = #[c3_0]) (h4 : (ev l x4).cells = #[c4_0]) (h5 : (ev l x5).cells = #[c5_0]) (h : ∀ w' g,eB w w' → w.heap.size ≤ g → fF w' g [c0_0,c1_0,c2_0,c3_0,c4_0,c5_0] 26 → wpList prog ops Q rest (Fr (l.set d (.slice (some ⟨g,0,none⟩) 6 6)) ds) w') : wpList prog ops Q (Oper.mk (some d) (.buildSlice 157 6 #[(0,x0),(1,x1),(2,x2),(3,x3),(4,x4),(5,x5)]) ty pos after none :: rest) (Fr l ds) w :=
 kP (vs:=#[(0,ev l x0),(1,ev l x1),(2,ev l x2),(3,ev l x3),(4,ev l x4),(5,ev l x5)]) (base:=#[.nilFunc,.nilFunc,.nilFunc,.nilFunc,.nilFunc,.nilFunc]) (c:=1) (z:=(.nilFunc)) uP (by kernel_rfl) (by decide) (by decide) (by kernel_rfl) (by simp) (by simp [Instr.fill,h0,h1,h2,h3,h4,h5]) h
theorem Tq {ds : List Deferred} {l : List Value} {ty : TypeId} {ops : Array Oper} {Q : Exit → Act → World → Prop} {rest : List Oper} {d : Nat} {pos : String} {after : Array Edge} {w : World} {x0 : Operand} {c0_0 c0_1 c0_2 c0_3 c0_4 c0_5 : Value} (h0 : (ev l x0).cells = #[c0_0,c0_1,c0_2,c0_3,c0_4,c0_5]) (h : ∀ w' g,eB w w' → w.heap.size ≤ g → fF w' g [c0_0,c0_1,c0_2,c0_3,c0_4,c0_5] 215 → wpList prog ops Q rest (Fr (l.set d (.slice (some ⟨g,0,none⟩) 1 1)) ds) w') : wpList prog ops Q (Oper.mk (some d) (.buildSlice 212 1 #[(0,x0)]) ty pos after none :: rest) (Fr l ds) w :=
 kP (vs:=#[(0,ev l x0)]) (base:=#[.int .i64 0,.int .i64 0,.int .i64 0,.int .i64 0,.int .i64 0,.int .i64 0]) (c:=6) (z:=(.agg #[.int .i64 0,.int .i64 0,.int .i64 0,.int .i64 0,.int .i64 0,.int .i64 0])) underlying212 (by kernel_rfl) (by decide) (by decide) (by kernel_rfl) (by simp) (by simp [Instr.fill,h0]) h
end Go.Proofs.YtfekpcimgncioaaGreatDoor
namespace Go.Lith
open Go.RowKit
def gC (w : World) (g : Nat) (es : Array MapEntry) (c : Nat) : Prop:=w.heap[g]? = some (.map es c)
def mZ (w : World) (r g s : Nat) (seen : Array Nat) (c : Nat) : Prop:=w.heap[r]? = some (.mapIter (some g) s seen c)
theorem gC.ext {w w' : World} {g c : Nat} {es : Array MapEntry} (h : gC w g es c) (hE : eB w w') : gC w' g es c:=hE.block h
theorem mZ.ext {w w' : World} {r g s c : Nat} {seen : Array Nat} (h : mZ w r g s seen c) (hE : eB w w') : mZ w' r g s seen c:=hE.block h
theorem gC.lt {w : World} {g c : Nat} {es : Array MapEntry} (h : gC w g es c) : g < w.heap.size:=(Array.getElem?_eq_some_iff.1 h).1
theorem mZ.lt {w : World} {r g s c : Nat} {seen : Array Nat} (h : mZ w r g s seen c) : r < w.heap.size:=(Array.getElem?_eq_some_iff.1 h).1
section
variable {P : Program} {ds : List Deferred} {l : List Value} {x : Operand} {T ty : TypeId} {ops : Array Oper} {Q : Exit → Act → World → Prop} {rest : List Oper} {d : Nat} {pos : String} {after : Array Edge} {w : World}
theorem Yz (h : ∀ w' g,eB w w' → w.heap.size ≤ g → gC w' g #[] 0 → wpList P ops Q rest (Fr (l.set d (.map (some g))) ds) w') : wpList P ops Q (Oper.mk (some d) (.makeMap T none) ty pos after none :: rest) (Fr l ds) w :=
 jN (w':=w.alloc (.map #[] 0)) (v:=.map (some w.heap.size)) (fun o ho _=>by simp [execOp,ho,Instr.makeMap,newObj,Sem.run]) (h _ _ ((eB.refl w).alloc _) (Nat.le_refl _) (heap_alloc_new w _))
theorem Wg {k e : TypeId} {g c : Nat} {es : Array MapEntry} (hu : P.underlying T = some (.map k e)) (hx : ev l x = .map (some g)) (hM : gC w g es c) (h : ∀ w' r,eB w w' → w.heap.size ≤ r → mZ w' r g c #[] c → wpList P ops Q rest (Fr (l.set d (.pointer (some ⟨r,0,none⟩))) ds) w') :
 wpList P ops Q (Oper.mk (some d) (.range T x) ty pos after none :: rest) (Fr l ds) w :=
 jN (w':=w.alloc (.mapIter (some g) c #[] c)) (v:=.pointer (some ⟨w.heap.size,0,none⟩)) (fun o ho _=>by
  unfold gC at hM;simp [execOp,ho,cM,hx,Instr.range,run_underlying hu,getObj,hM,newObj,Sem.run]) (h _ _ ((eB.refl w).alloc _) (Nat.le_refl _) (heap_alloc_new w _))
end
end Go.Lith
namespace Go.Lith
open Go.RowKit Go.ChangeMaps Go.MapKept
/-! ### Lists of pairs -/
section
variable {K V : Type} [DecidableEq K]
def eO : List (K × V) → K → V → List (K × V)
 | [],k,v=>[(k,v)]
 | x :: D,k,v=>if x.1 = k then (k,v) :: D else x :: eO D k v
def cK : List (K × V) → K → Option V
 | [],_=>none
 | x :: D,k=>if x.1 = k then some x.2 else cK D k
def uT : List (K × V) → K → List (K × V)
 | [],_=>[]
 | x :: D,k=>if x.1 = k then D else x :: uT D k
def mE : List (K × V) → K → Nat → Option (Nat × V)
 | [],_,_=>none
 | x :: D,k,i=>if x.1 = k then some (i,x.2) else mE D k (i + 1)
theorem mK : ∀ (D : List (K × V)) (k : K) (i : Nat),mE D k i = none → cK D k = none ∧ (∀ u,eO D k u = D ++ [(k,u)]) ∧ uT D k = D
 | [],_,_,_=>⟨rfl,fun _=>rfl,rfl⟩
 | x :: D,k,i,h=>by
  unfold mE at h;by_cases e : x.1 = k
  · rw [if_pos e] at h;cases h
  · rw [if_neg e] at h
    obtain ⟨h1,h2,h3⟩:=mK D k (i + 1) h;exact ⟨by simp [cK,e,h1],fun u=>by simp [eO,e,h2],by simp [uT,e,h3]⟩
theorem jR : ∀ (D : List (K × V)) (k : K) (i j : Nat) (v : V),mE D k i = some (j,v) → ∃ p,j = i + p ∧ D[p]? = some (k,v) ∧ cK D k = some v ∧ (∀ u,eO D k u = D.set p (k,u)) ∧ uT D k = D.eraseIdx p
 | [],_,_,_,_,h=>by cases h
 | x :: D,k,i,j,v,h=>by
  unfold mE at h;by_cases e : x.1 = k
  · rw [if_pos e] at h
    cases h;obtain ⟨a,b⟩:=x;obtain rfl : a = k:=e;exact ⟨0,rfl,rfl,by simp [cK],fun u=>by simp [eO],by simp [uT]⟩
  · rw [if_neg e] at h
    obtain ⟨p,h1,h2,h3,h4,h5⟩:=jR D k (i + 1) j v h;exact ⟨p + 1,by omega,by simpa using h2,by simp [cK,e,h3],fun u=>by simp [eO,e,h4],by simp [uT,e,h5]⟩
theorem jD : ∀ (D : List (K × V)) (k k' : K) (v : V),cK (eO D k v) k' = if k = k' then some v else cK D k'
 | [],k,k',v=>by simp [eO,cK]
 | x :: D,k,k',v=>by
  unfold eO;by_cases e : x.1 = k
  · rw [if_pos e]
    subst e;by_cases e' : x.1 = k' <;> simp [cK,e']
  · rw [if_neg e]
    unfold cK;rw [jD D k k' v];by_cases e' : x.1 = k'
    · rw [if_pos e',if_pos e',if_neg (fun h=>e (e'.trans h.symm))]
    · rw [if_neg e',if_neg e']
theorem uU : ∀ {D : List (K × V)} {k : K} {v : V},cK D k = some v → (k,v) ∈ D
 | [],_,_,h=>by cases h
 | x :: D,k,v,h=>by
  unfold cK at h;split at h
  · rename_i e;cases h;subst e;exact List.mem_cons_self ..
  · exact List.mem_cons_of_mem _ (uU h)
theorem lI : ∀ {D : List (K × V)} {k : K},cK D k = none ↔ k ∉ D.map (·.1)
 | [],_=>by simp [cK]
 | x :: D,k=>by
  unfold cK;split
  · rename_i e;simp [e]
  · rename_i e
    rw [lI (D:=D)];simp only[List.map_cons,List.mem_cons,not_or];exact ⟨fun h=>⟨fun h'=>e h'.symm,h⟩,fun h=>h.2⟩
theorem qH : ∀ {D : List (K × V)} {k : K} {v : V},(D.map (·.1)).Nodup → (k,v) ∈ D → cK D k = some v
 | [],_,_,_,h=>by cases h
 | x :: D,k,v,hn,h=>by
  have hn':=List.nodup_cons.1 hn;unfold cK;rcases List.mem_cons.1 h with rfl | h
  · simp
  · rw [if_neg fun e=>hn'.1 (by show x.1 ∈ _;rw [e];exact List.mem_map.2 ⟨_,h,rfl⟩)]
    exact qH hn'.2 h
theorem rV : ∀ (D : List (K × V)) (k : K) (v : V),(eO D k v).map (·.1) = if k ∈ D.map (·.1) then D.map (·.1) else D.map (·.1) ++ [k]
 | [],k,v=>by simp [eO]
 | x :: D,k,v=>by
  unfold eO;by_cases e : x.1 = k
  · simp [e]
  · have e' : ¬ k = x.1:=fun h=>e h.symm
    simp only[if_neg e,List.map_cons,rV D k v,List.mem_cons,e',false_or];split <;> simp
theorem pM {D : List (K × V)} (h : (D.map (·.1)).Nodup) (k : K) (v : V) : ((eO D k v).map (·.1)).Nodup:=by
 rw [rV];split
 · exact h
 · rename_i hk
   exact List.nodup_append.2 ⟨h,by simp,fun a ha b hb e=>by rw [List.mem_singleton.1 hb] at e;exact hk (e ▸ ha)⟩
theorem Kl : ∀ {D : List (K × V)} (k k' : K),(D.map (·.1)).Nodup → cK (uT D k) k' = if k = k' then none else cK D k'
 | [],k,k',_=>by simp [uT,cK]
 | x :: D,k,k',hn=>by
  have hn':=List.nodup_cons.1 hn;unfold uT;by_cases e : x.1 = k
  · rw [if_pos e]
    by_cases e' : k = k'
    · rw [if_pos e']
      exact lI.2 (by rw [← e',← e];exact hn'.1)
    · rw [if_neg e']
      simp [cK,e,e']
  · rw [if_neg e]
    unfold cK;rw [Kl k k' hn'.2];by_cases e' : x.1 = k'
    · rw [if_pos e',if_pos e',if_neg (fun h=>e (e'.trans h.symm))]
    · rw [if_neg e',if_neg e']
theorem Ps : ∀ (D : List (K × V)) (k : K),(uT D k).Sublist D
 | [],_=>List.Sublist.refl _
 | x :: D,k=>by
  unfold uT;split
  · exact List.sublist_cons_self _ _
  · exact (Ps D k).cons_cons x
theorem Tr {D : List (K × V)} (h : (D.map (·.1)).Nodup) (k : K) : ((uT D k).map (·.1)).Nodup:=h.sublist ((Ps D k).map _)
end
/-! ### A map's entries -/
def Jh (e : MapEntry) : Value × Value:=(e.key,e.val)
structure bP {K V : Type} (ek : K → Value) (ev : V → Value) (D : List (K × V)) (es : Array MapEntry) (c : Nat) : Prop where
 cells : es.toList.map Jh = D.map fun x=>(ek x.1,ev x.2)
 born : ∀ e ∈ es.toList,e.born < c
 nd : (es.toList.map (·.born)).Nodup
theorem bP.nil {K V : Type} (ek : K → Value) (ev : V → Value) : bP ek ev ([] : List (K × V)) #[] 0:=⟨rfl,fun _ h=>by simp at h,by simp⟩
structure nK {K : Type} [DecidableEq K] (P : Program) (T : TypeId) (ek : K → Value) : Prop where
 chk : ∀ e k w,(Instr.checkKey e 10000 T (ek k)).run P w = .ok () w
 now : ∃ t,P.underlying T = some t ∧ ∀ a b,Instr.sameNow t (ek a) (ek b) = none ∨ Instr.sameNow t (ek a) (ek b) = some (decide (a = b))
 eq : ∀ a b w,(Op.equal T (ek a) (ek b)).run P w = .ok (decide (a = b)) w
 bits : ∀ a,Instr.sameBits 10000 (ek a) (ek a) = true
section
variable {K V : Type} [DecidableEq K] {P : Program} {T : TypeId} {ek : K → Value} {ev : V → Value}
theorem Dr (kt : nK P T ek) (k : K) (w : World) : ∀ (L : List MapEntry) (D : List (K × V)) (i : Nat),L.map Jh = D.map (fun x=>(ek x.1,ev x.2)) →
 (Instr.findAsking T (ek k) L i).run P w = .ok ((mE D k i).map fun p=>(p.1,ev p.2)) w
 | [],D,i,h=>by
  obtain rfl : D = []:=by simpa using h.symm
  simp [Instr.findAsking,mE]
 | e :: L,[],i,h=>by simp at h
 | e :: L,x :: D,i,h=>by
  simp only[List.map_cons,List.cons.injEq,Jh,Prod.mk.injEq] at h;obtain ⟨⟨h1,h2⟩,h3⟩:=h;have ih:=Dr kt k w L D (i + 1) h3;unfold Instr.findAsking mE;rw [h1,h2];simp only[Sem.run_bind,kt.eq,Result.andThen];by_cases e' : x.1 = k
  · rw [if_pos (decide_eq_true e'.symm),if_pos e']
    rfl
  · rw [if_neg (by rw [decide_eq_false (Ne.symm e')];exact Bool.false_ne_true),if_neg e']
    exact ih
theorem Pt (t : TypeDesc) (k : K) (hn : ∀ a b : K,Instr.sameNow t (ek a) (ek b) = none ∨ Instr.sameNow t (ek a) (ek b) = some (decide (a = b))) : ∀ (L : List MapEntry) (D : List (K × V)) (i : Nat),L.map Jh = D.map (fun x=>(ek x.1,ev x.2)) →
 Instr.findNow t (ek k) L i = none ∨ Instr.findNow t (ek k) L i = some ((mE D k i).map fun p=>(p.1,ev p.2))
 | [],D,i,h=>by
  obtain rfl : D = []:=by simpa using h.symm
  simp [Instr.findNow,mE]
 | e :: L,[],i,h=>by simp at h
 | e :: L,x :: D,i,h=>by
  simp only[List.map_cons,List.cons.injEq,Jh,Prod.mk.injEq] at h;obtain ⟨⟨h1,h2⟩,h3⟩:=h;have ih:=Pt t k hn L D (i + 1) h3;unfold Instr.findNow mE;rw [h1,h2];rcases hn k x.1 with e0 | e0
  · left;rw [e0]
  · rw [e0]
    by_cases e' : x.1 = k
    · right;simp [e']
    · rw [show decide (k = x.1) = false from decide_eq_false (Ne.symm e')]
      simpa [e'] using ih
theorem pN (kt : nK P T ek) (k : K) (w : World) {es : Array MapEntry} {D : List (K × V)} {c : Nat} (h : bP ek ev D es c) : (Instr.findKey T (ek k) es.toList).run P w = .ok ((mE D k 0).map fun p=>(p.1,ev p.2)) w:=by
 obtain ⟨t,ht,hn⟩:=kt.now;unfold Instr.findKey;simp only[Sem.run_bind,run_underlying ht,Result.andThen];rcases Pt t k hn es.toList D 0 h.cells with e | e
 · rw [e]
   exact Dr kt k w es.toList D 0 h.cells
 · rw [e]
   rfl
end
section
variable {K V : Type} [DecidableEq K] {P : Program} {T M E ty : TypeId} {ek : K → Value} {ev : V → Value} {w w0 : World} {g c : Nat} {es : Array MapEntry} {D : List (K × V)}
theorem Ds {v0 : V} (hu : P.underlying M = some (.map T E)) (kt : nK P T ek) (hM : gC w g es c) (hD : bP ek ev D es c) (hz : iL P E (ev v0)) (k : K) (b : Bool) :
 (Instr.lookup M (.map (some g)) (ek k) b).run P w = .ok (if b then .tuple #[ev ((cK D k).getD v0),.bool (cK D k).isSome] else ev ((cK D k).getD v0)) w:=by
 unfold gC at hM;obtain ⟨inf,hi,hz⟩:=hz;have hzv : (zeroValue E).run P w = .ok (ev v0) w:=by simp [zeroValue,typeInfo,program,Sem.run,hi,hz]
 simp only[Instr.lookup,Sem.run_bind,run_underlying hu,Result.andThen,getObj,Sem.run,hM,Sem.run_pure,kt.chk,pN kt k w hD];cases hf : mE D k 0 with
 | none =>
  obtain ⟨h1,_⟩:=mK D k 0 hf;rw [h1];simp only[Option.map_none,Sem.run_bind,hzv,Result.andThen,Sem.run_pure];cases b <;> rfl
 | some p =>
  obtain ⟨j,v⟩:=p;obtain ⟨_,_,_,h1,_⟩:=jR D k 0 j v hf;rw [h1];simp only[Option.map_some,Sem.run_pure,Result.andThen];cases b <;> rfl
theorem gT {g : Nat} {o o' : Obj} (hM : w.heap[g]? = some o) : (setBlock w g o').heap[g]? = some o':=by
 have:=(Array.getElem?_eq_some_iff.1 hM).1;simp [setBlock,this]
theorem lV {g : Nat} (o : Obj) : Chg w (setBlock w g o) g:=⟨rfl,rfl,rfl,by simp [setBlock],fun k hk=>by simp [setBlock,Array.getElem?_setIfInBounds_ne (Ne.symm hk)]⟩
theorem Gs {α β : Type} (f : α → β) (L : List α) (i : Nat) (x : α) (g : α → α) (hi : L[i]? = some x) : (L.modify i g).map f = (L.map f).set i (f (g x)):=by
 apply List.ext_getElem?;intro j;simp only[List.getElem?_map,List.getElem?_modify,List.getElem?_set,List.length_map];by_cases e : i = j
 · subst e
   rw [hi];have:=(List.getElem?_eq_some_iff.1 hi).1;simp [this]
 · simp [e]
theorem bP.set (hD : bP ek ev D es c) {p : Nat} {k : K} {v : V} (hp : D[p]? = some (k,v)) (u : V) : bP ek ev (D.set p (k,u)) (es.modify p fun e=>{ e with key:=ek k,val:=ev u }) c:=by
 have hl : es.toList.length = D.length:=by have:=congrArg List.length hD.cells;simpa using this
 have hlt : p < es.toList.length:=by rw [hl];exact (List.getElem?_eq_some_iff.1 hp).1
 have hx : es.toList[p]? = some es.toList[p]:=List.getElem?_eq_getElem hlt;have hb : (es.modify p fun e=>{ e with key:=ek k,val:=ev u }).toList.map (·.born) = es.toList.map (·.born):=by
  rw [Array.toList_modify,Gs _ _ _ _ _ hx];apply List.ext_getElem?;intro j;rw [List.getElem?_set];split
  · rename_i e;subst e;rw [if_pos (by simpa using hlt),List.getElem?_map,hx];rfl
  · rfl
 refine ⟨?_,fun e he=>?_,by rw [hb];exact hD.nd⟩
 · rw [Array.toList_modify,Gs _ _ _ _ _ hx,hD.cells,List.map_set]
   rfl
 · have : e.born ∈ (es.modify p fun e=>{ e with key:=ek k,val:=ev u }).toList.map (·.born):=List.mem_map.2 ⟨e,he,rfl⟩
   rw [hb] at this;obtain ⟨e',he',hh⟩:=List.mem_map.1 this;rw [← hh];exact hD.born e' he'
theorem bP.push (hD : bP ek ev D es c) (k : K) (u : V) : bP ek ev (D ++ [(k,u)]) (es.push { key:=ek k,val:=ev u,born:=c }) (c + 1):=by
 refine ⟨by simp [hD.cells,Jh],fun e he=>?_,?_⟩
 · rw [Array.toList_push] at he
   rcases List.mem_append.1 he with he | he
   · exact Nat.lt_succ_of_lt (hD.born e he)
   · rw [List.mem_singleton.1 he];exact Nat.lt_succ_self _
 · rw [Array.toList_push,List.map_append]
   refine List.nodup_append.2 ⟨hD.nd,by simp,fun a ha b hb e=>?_⟩;obtain ⟨e',he',rfl⟩:=List.mem_map.1 ha;have : b = c:=by simpa using hb
   have:=hD.born e' he';omega
theorem bP.erase (hD : bP ek ev D es c) (p : Nat) : bP ek ev (D.eraseIdx p) (es.eraseIdxIfInBounds p) c:=by
 have e : (es.eraseIdxIfInBounds p).toList = es.toList.eraseIdx p:=by
  by_cases h : p < es.size
  · simp [Array.eraseIdxIfInBounds,h]
  · simp only[Array.eraseIdxIfInBounds,h,dite_false]
    exact (List.eraseIdx_of_length_le (by simpa using Nat.le_of_not_lt h)).symm
 refine ⟨?_,fun x hx=>hD.born x ?_,?_⟩
 · rw [e,map_eraseIdx,hD.cells,map_eraseIdx]
 · rw [e] at hx;exact List.mem_of_mem_eraseIdx hx
 · rw [e];exact hD.nd.sublist ((List.eraseIdx_sublist _ _).map _)
theorem Pu (hu : P.underlying M = some (.map T E)) (kt : nK P T ek) (hM : gC w g es c) (hD : bP ek ev D es c) (k : K) (u : V) :
 ∃ es' c',(Instr.mapUpdate M (.map (some g)) (ek k) (ev u)).run P w = .ok () (setBlock w g (.map es' c')) ∧ bP ek ev (eO D k u) es' c':=by
 unfold gC at hM;cases hf : mE D k 0 with
 | none =>
  obtain ⟨_,h1,_⟩:=mK D k 0 hf;refine ⟨_,_,?_,h1 u ▸ hD.push k u⟩;simp only[Instr.mapUpdate,Sem.run_bind,run_underlying hu,Result.andThen,getObj,Sem.run,hM,Sem.run_pure,kt.chk,pN kt k w hD,hf,Option.map_none];exact run_setObj_map _ hM
 | some p =>
  obtain ⟨j,v⟩:=p;obtain ⟨p,rfl,hp,_,h1,_⟩:=jR D k 0 j v hf;rw [Nat.zero_add] at hf;have hl : es.toList.length = D.length:=by have:=congrArg List.length hD.cells;simpa using this
  have hlt : p < es.toList.length:=by rw [hl];exact (List.getElem?_eq_some_iff.1 hp).1
  have hk : ((es[p]?).map (·.key)).getD (ek k) = ek k:=by
   have h2:=congrArg (fun L=>L[p]?) hD.cells;simp only[List.getElem?_map,hp,Option.map_some] at h2;rw [Array.getElem?_toList] at h2;cases h3 : es[p]? with
   | none=>rfl
   | some x =>
    rw [h3] at h2;simp only[Option.map_some,Option.some.injEq,Jh,Prod.mk.injEq] at h2;simpa using h2.1
  refine ⟨_,_,?_,h1 u ▸ hD.set hp u⟩;simp only[Instr.mapUpdate,Sem.run_bind,run_underlying hu,Result.andThen,getObj,Sem.run,hM,Sem.run_pure,kt.chk,pN kt k w hD,hf,Option.map_some,hk,Instr.keyThatStays,kt.bits,if_true];exact run_setObj_map _ hM
/-! ### Ranges -/
def kU (ek : K → Value) (ev : V → Value) (D : List (K × V)) (es : Array MapEntry) (seen : Array Nat) (dn rs : List (K × V)) : Prop :=
 (dn ++ rs).Perm D ∧ ∃ dE rE : List MapEntry,seen.toList = dE.map (·.born) ∧ (dE ++ rE).Perm es.toList ∧ dE.map Jh = dn.map (fun x=>(ek x.1,ev x.2)) ∧ rE.map Jh = rs.map (fun x=>(ek x.1,ev x.2))
theorem kU.start (hD : bP ek ev D es c) : kU ek ev D es #[] [] D:=⟨List.Perm.refl _,[],es.toList,rfl,List.Perm.refl _,rfl,hD.cells⟩
theorem kU.done {seen : Array Nat} {dn : List (K × V)} (h : kU ek ev D es seen dn []) : dn.Perm D:=by simpa using h.1
def Nxt (ek : K → Value) (ev : V → Value) (D : List (K × V)) (es : Array MapEntry) (dn rs : List (K × V)) (b : Bool) (kv vv : Value) (seen' : Array Nat) : Prop :=
 (b = false ∧ rs = []) ∨ (b = true ∧ ∃ k v rs',rs.Perm ((k,v) :: rs') ∧ kv = ek k ∧ vv = ev v ∧ kU ek ev D es seen' (dn ++ [(k,v)]) rs')
def xG (b : Bool) (k v : Value) : Value:=.tuple (if b then #[.bool true,k,v] else #[.bool false])
theorem Km {r s : Nat} {seen : Array Nat} {dn rs : List (K × V)} (hI : mZ w r g c seen c) (hM : gC w g es c) (hD : bP ek ev D es c) (hT : kU ek ev D es seen dn rs) :
 ∃ b kv vv seen' w1,(w1 = w ∨ w1 = w.drew) ∧ (Instr.next (.pointer (some ⟨r,0,none⟩)) false ty).run P w = .ok (xG b kv vv) (setBlock w1 r (.mapIter (some g) c seen' c)) ∧ Nxt ek ev D es dn rs b kv vv seen':=by
 obtain ⟨hp,dE,rE,h1,h2,h3,h4⟩:=hT;have hnd : ((dE ++ rE).map (·.born)).Nodup:=(h2.map (·.born)).nodup_iff.2 hD.nd;rw [List.map_append,List.nodup_append] at hnd;have hleft : ∀ e,e ∈ (leftOf es seen).toList ↔ e ∈ rE:=fun e=>by
  unfold leftOf;simp only[Array.toList_filter,List.mem_filter,Bool.not_eq_true',Array.contains_eq_mem,decide_eq_false_iff_not];rw [← Array.mem_toList_iff (xs:=seen),h1,← h2.mem_iff,List.mem_append];constructor
  · rintro ⟨h | h,hn⟩
    · exact absurd (List.mem_map.2 ⟨e,h,rfl⟩) hn
    · exact h
  · intro h
    exact ⟨.inr h,fun hm=>hnd.2.2 _ hm _ (List.mem_map.2 ⟨e,h,rfl⟩) rfl⟩
 rcases run_next_at (P:=P) w ty r g c c seen es c hI hM hD.born (Nat.le_refl _) with ⟨h0,hr⟩ | ⟨e,he,w1,hw1,hr⟩
 · refine ⟨false,default,default,seen,w,.inl rfl,?_,.inl ⟨rfl,?_⟩⟩
   · rw [hr]
     have : setBlock w r (.mapIter (some g) c seen c) = w:=by
      unfold setBlock;have hlt:=(Array.getElem?_eq_some_iff.1 hI).1;have : w.heap.setIfInBounds r (.mapIter (some g) c seen c) = w.heap:=by
       apply Array.ext_getElem?;intro i;rw [Array.getElem?_setIfInBounds];split
       · rename_i e;subst e;exact hI.symm
       · rfl
      rw [this]
     rw [this];rfl
   · cases rs with
     | nil=>rfl
     | cons x rs =>
      cases rE with
      | nil=>simp at h4
      | cons e rE =>
       have:=(hleft e).2 (List.mem_cons_self ..);rw [Array.eq_empty_of_size_eq_zero h0] at this;simp at this
 · obtain ⟨s,t,rfl⟩:=List.append_of_mem ((hleft e).1 he)
   rw [List.map_append,List.map_cons] at h4;obtain ⟨rs1,rs2,rfl,e1,e2⟩:=List.map_eq_append_iff.1 h4.symm;obtain ⟨x,rs3,rfl,e3,e4⟩:=List.map_eq_cons_iff.1 e2;obtain ⟨k,v⟩:=x;simp only[Jh,Prod.mk.injEq] at e3;refine ⟨true,e.key,e.val,seen.push e.born,w1,hw1,hr,.inr ⟨rfl,k,v,rs1 ++ rs3,List.perm_middle,e3.1.symm,e3.2.symm,?_,dE ++ [e],s ++ t,?_,?_,?_,?_⟩⟩
   · refine List.Perm.trans ?_ hp
     simp only[List.append_assoc,List.cons_append,List.nil_append];exact List.Perm.append_left _ List.perm_middle.symm
   · simp [h1]
   · refine List.Perm.trans ?_ h2
     simp only[List.append_assoc,List.cons_append,List.nil_append];exact List.Perm.append_left _ List.perm_middle.symm
   · simp [h3,Jh,e3]
   · simp [e1,e4]
theorem Ts {r : Nat} {seen : Array Nat} {dn rs : List (K × V)} {k : K} {v : V} (hI : mZ w r g c seen c) (hM : gC w g es c) (hD : bP ek ev D es c) (hT : kU ek ev D es seen (dn ++ [(k,v)]) rs) :
 (Instr.entry (.pointer (some ⟨r,0,none⟩))).run P w = .ok (.tuple #[ek k,ev v]) w:=by
 obtain ⟨hp,dE,rE,h1,h2,h3,h4⟩:=hT;rw [List.map_append,List.map_cons,List.map_nil] at h3;obtain ⟨d1,d2,rfl,e1,e2⟩:=List.map_eq_append_iff.1 h3;obtain ⟨e,d3,rfl,e3,e4⟩:=List.map_eq_cons_iff.1 e2;obtain rfl : d3 = []:=by simpa using e4
 simp only[Jh,Prod.mk.injEq] at e3;have hs : seen = (d1.map (·.born)).toArray.push e.born:=by
  apply Array.toList_inj.1;rw [h1];simp
 have hm : e ∈ es.toList:=h2.mem_iff.1 (by simp);rw [hs] at hI;have:=run_entry_at (P:=P) w r g c _ es c e hI hM hm hD.nd;rw [this,e3.1,e3.2]
end
/-! ### Things in memory -/
def mI (g : Nat) (es : Array MapEntry) (c : Nat) : It where
 own b:=some g = some b
 P w:=gC w g es c
 lt w b h e:=by cases e;exact h.lt
 st w w' h _ k:=(k g rfl).trans h
def iI (r g c : Nat) (seen : Array Nat) : It where
 own b:=some r = some b
 P w:=mZ w r g c seen c
 lt w b h e:=by cases e;exact h.lt
 st w w' h _ k:=(k r rfl).trans h
theorem Mem.p {w0 w : World} {is : List It} (m : Mem w0 w is) (k : Nat) {g c : Nat} {es : Array MapEntry} (hk : is[k]? = some (mI g es c)) : gC w g es c:=m.get k hk
theorem Mem.r {w0 w : World} {is : List It} (m : Mem w0 w is) (k : Nat) {r g c : Nat} {seen : Array Nat} (hk : is[k]? = some (iI r g c seen)) : mZ w r g c seen c:=m.get k hk
section
variable {K V : Type} [DecidableEq K] {P : Program} {T M E ty : TypeId} {ek : K → Value} {ev : V → Value} {w w0 : World} {g c : Nat} {es : Array MapEntry} {D : List (K × V)} {is : List It}
variable {ds : List Deferred} {l : List Value} {x y z : Operand} {ops : Array Oper} {Q : Exit → Act → World → Prop} {rest : List Oper} {d : Nat} {pos : String} {after : Array Edge}
theorem jA (m : Mem w0 w is) (h : ∀ g u,Mem w0 u (mI g #[] 0 :: is) → wpList P ops Q rest (Fr (l.set d (.map (some g))) ds) u) : wpList P ops Q (Oper.mk (some d) (.makeMap M none) ty pos after none :: rest) (Fr l ds) w :=
 Yz fun u g e hg hM=>h g u (m.new (i:=mI g #[] 0) e hM fun b h=>by cases h;exact hg)
theorem qY (m : Mem w0 w is) (hu : P.underlying M = some (.map T E)) (hx : Go.Lith.ev l x = .map (some g)) (hM : gC w g es c) (h : ∀ r u,Mem w0 u (iI r g c #[] :: is) → wpList P ops Q rest (Fr (l.set d (.pointer (some ⟨r,0,none⟩))) ds) u) :
 wpList P ops Q (Oper.mk (some d) (.range M x) ty pos after none :: rest) (Fr l ds) w :=
 Wg hu hx hM fun u r e hr hI=>h r u (m.new (i:=iI r g c #[]) e hI fun b h=>by cases h;exact hr)
end
end Go.Lith
namespace Go.Lith
open Go.RowKit Go.ChangeMaps Go.MapKept
section
variable {K V : Type} [DecidableEq K] {P : Program} {T M E ty : TypeId} {ek : K → Value} {en : V → Value} {w w0 : World} {g c : Nat} {es : Array MapEntry} {D : List (K × V)} {is : List It}
variable {ds : List Deferred} {l : List Value} {x y z : Operand} {ops : Array Oper} {Q : Exit → Act → World → Prop} {rest : List Oper} {d : Nat} {pos : String} {after : Array Edge}
theorem dV {v0 : V} {k : K} (hu : P.underlying M = some (.map T E)) (hz : iL P E (en v0)) (kt : nK P T ek) (hx : ev l x = .map (some g)) (hy : ev l y = ek k) (hM : gC w g es c) (hD : bP ek en D es c) : tX P l (.lookup M x y false) ty (en ((cK D k).getD v0)) w:=fun o ho _=>by
 have:=Ds hu kt hM hD hz k false;simp only[Bool.false_eq_true,if_false] at this;simp [execOp,ho,cM,hx,hy,this]
theorem Kn {v0 : V} {k : K} (hu : P.underlying M = some (.map T E)) (hz : iL P E (en v0)) (kt : nK P T ek) (hx : ev l x = .map (some g)) (hy : ev l y = ek k) (hM : gC w g es c) (hD : bP ek en D es c) : tX P l (.lookup M x y true) ty (.tuple #[en ((cK D k).getD v0),.bool (cK D k).isSome]) w:=fun o ho _=>by
 have:=Ds hu kt hM hD hz k true;simp only[if_true] at this;simp [execOp,ho,cM,hx,hy,this]
theorem kD {v : V} {a : K} (m : Mem w0 w is) (k : Nat) (hk : is[k]? = some (mI g es c)) (hu : P.underlying M = some (.map T E)) (kt : nK P T ek) (hx : ev l x = .map (some g)) (hy : ev l y = ek a) (hz : ev l z = en v) (hD : bP ek en D es c)
 (h : ∀ es' c' u,Mem w0 u (is.set k (mI g es' c')) → bP ek en (eO D a v) es' c' → wpList P ops Q rest (Fr l ds) u) : wpList P ops Q (Oper.mk none (.mapUpdate M x y z) ty pos after none :: rest) (Fr l ds) w:=by
 have hM:=m.p k hk;obtain ⟨es',c',hr,hD'⟩:=Pu hu kt hM hD a v;have hC:=lV (w:=w) (g:=g) (.map es' c');refine yP (w':=setBlock w g (.map es' c')) (fun o ho=>by simp [execOp,ho,cM,hx,hy,hz,hr]) (h es' c' _ ?_ hD');exact m.put k hk hC.os hC.tape hC.output (by rw [hC.size];exact Nat.le_refl _) (fun b _ hne=>hC.block b fun e=>hne (by rw [e];rfl)) (gT hM) (.inl fun _ h=>h)
theorem Dt {r : Nat} {seen : Array Nat} {dn rs : List (K × V)} (m : Mem w0 w is) (k : Nat) (hk : is[k]? = some (iI r g c seen)) (hx : ev l x = .pointer (some ⟨r,0,none⟩)) (hM : gC w g es c) (hD : bP ek en D es c) (hT : kU ek en D es seen dn rs)
 (h : ∀ b kv vv seen' u,Mem w0 u (is.set k (iI r g c seen')) → Nxt ek en D es dn rs b kv vv seen' → wpList P ops Q rest (Fr (l.set d (xG b kv vv)) ds) u) :
 wpList P ops Q (Oper.mk (some d) (.next x false) ty pos after none :: rest) (Fr l ds) w:=by
 have hI:=m.r k hk;obtain ⟨b,kv,vv,seen',w1,hw1,hr,hN⟩:=Km (P:=P) (ty:=ty) (s:=0) hI hM hD hT;refine jN (w':=setBlock w1 r (.mapIter (some g) c seen' c)) (v:=xG b kv vv) (fun o ho hty=>by simp [execOp,ho,cM,hx,hty,hr]) (h b kv vv seen' _ ?_ hN);have e1 : w1.heap = w.heap ∧ w1.os = w.os ∧ w1.tape = w.tape ∧ w1.output = w.output:=by rcases hw1 with rfl | rfl <;> exact ⟨rfl,rfl,rfl,rfl⟩
 refine m.put k hk e1.2.1 e1.2.2.1 e1.2.2.2 (by simp [setBlock,e1.1]) (fun b' _ hne=>?_) ?_ (.inl fun _ h=>h)
 · have : b' ≠ r:=fun e=>hne (by rw [e];rfl)
   simp only[setBlock,e1.1];exact Array.getElem?_setIfInBounds_ne (Ne.symm this)
 · exact gT (w:=w1) (o:=.mapIter (some g) c seen c) (by rw [e1.1];exact hI)
theorem lW {b : Bool} {kv vv : Value} (hx : ev l x = xG b kv vv) : fC P l (.extract x 0) ty (.bool b):=fun w o ho _=>by
 cases b <;> simp [execOp,ho,cM,hx,xG,Instr.extract]
theorem oH {r : Nat} {seen : Array Nat} {dn rs : List (K × V)} {k : K} {v : V} (hx : ev l x = .pointer (some ⟨r,0,none⟩)) (hI : mZ w r g c seen c) (hM : gC w g es c) (hD : bP ek en D es c) (hT : kU ek en D es seen (dn ++ [(k,v)]) rs) :
 tX P l (.entry x) ty (.tuple #[ek k,en v]) w:=fun o ho _=>by
 have:=Ts (P:=P) hI hM hD hT;simp [execOp,ho,cM,hx,this]
theorem jG {f : FuncId} {fo : Operand} {xs : Array Operand} {args : List Value} {first cap : Array Value} {a0 : Array TypeId} {R : Value → It → Prop} (m : Mem w0 w is) (k : Nat) (hE : Enters P f) (hf : ev l fo = .func (.func f) first cap) (hxs : first.toList ++ xs.toList.map (ev l) ++ cap.toList = args)
 (hc : Mem w0 w is → Calls P f args.toArray w fun e w'=>∃ v i,e = .returned v ∧ Mem w0 w' (is.set k i) ∧ R v i) (h : ∀ v i u,Mem w0 u (is.set k i) → R v i → wpList P ops Q rest (Fr (l.set d v) ds) u) :
 wpList P ops Q (Oper.mk (some d) (.call { callee:=.value fo,args:=xs,argTypes:=a0 }) ty pos after none :: rest) (Fr l ds) w:=by
 refine wpList_plain rfl fun K hK=>?_;unfold Oper.wp;rw [gH,kM hE hf hxs _ rfl];refine (hc m).mono ?_;rintro e w' ⟨v,i,rfl,hM,hR⟩;show K ((Fr l ds).put (some d) v) w'
 rw [gI];exact hK _ _ (h v i w' hM hR)
end
theorem eD {P : Program} {Q : Exit → Act → World → Prop} {l : List Value} {ds : List Deferred} {c1 c2 : Code} {w : World} {x : Operand} {b : Bool} (hx : ev l x = .bool b) (ht : b = true → c1.wp P Q (Fr l ds) w) (hf : b = false → c2.wp P Q (Fr l ds) w) : (Code.cond x c1 c2).wp P Q (Fr l ds) w:=jO hx ht hf
theorem Gt {α : Type} {is : List α} {k : Nat} {i : α} (h : is[k]? = some i) : is.set k i = is:=by
 apply List.ext_getElem?;intro j;rw [List.getElem?_set];split
 · rename_i e;subst e
   have:=(List.getElem?_eq_some_iff.1 h).1;rw [if_pos this,h]
 · rfl
theorem Cn {K V : Type} [DecidableEq K] : ∀ {D : List (K × V)} {k : K} {v : V},cK D k = some v → eO D k v = D
 | [],_,_,h=>by cases h
 | x :: D,k,v,h=>by
  unfold cK at h;unfold eO;split at h
  · rename_i e;cases h;subst e;rw [if_pos rfl]
  · rename_i e;rw [if_neg e,Cn h]
/-! ### Keys -/
def rG (P : Program) (e : Bool) (d : Nat) (T : TypeId) (x : Value) : Prop:=∀ w,(Instr.checkKey e d T x).run P w = .ok () w
section
variable {P : Program} {e : Bool} {d : Nat} {T E : TypeId}
theorem nL {β : Type} {w : World} (g : β → PUnit → Sem (ForInStep PUnit)) : ∀ (L : List β),(∀ x ∈ L,(g x ⟨⟩).run P w = .ok (.yield ⟨⟩) w) → (forIn L PUnit.unit g : Sem PUnit).run P w = .ok ⟨⟩ w
 | [],_=>by simp
 | x :: L,h=>by
  simp only[List.forIn_cons,Sem.run_bind,h x (List.mem_cons_self ..),Result.andThen_ok];exact nL g L fun y hy=>h y (List.mem_cons_of_mem _ hy)
theorem rG.int {k k' : IntKind} {n : Int} (hu : P.underlying T = some (.int k')) : rG P e (d + 1) T (.int k n):=fun w=>by
 unfold Instr.checkKey;simp [run_underlying hu]
theorem rG.struct {fs : Array Field} {cs : Array Value} (hu : P.underlying T = some (.struct fs)) (h : ∀ f ∈ fs.toList,∃ v,(∀ w,(part f.type cs f.offset).run P w = .ok v w) ∧ rG P e d f.type v) : rG P e (d + 1) T (.agg cs):=fun w=>by
 unfold Instr.checkKey;simp only[Sem.run_bind,run_underlying hu,Result.andThen_ok];rw [← Array.forIn_toList];refine (congrArg (fun r=>Result.andThen r _) (nL _ fs.toList fun f hf=>?_)).trans (by rfl);obtain ⟨v,h1,h2⟩:=h f hf;by_cases hn : f.name = "_"
 · simp [hn]
 · simp [hn,h1 w,h2 w]
theorem rG.array {n c : Nat} {cs : Array Value} (hu : P.underlying T = some (.array n E)) (hc : dG P E c) (h : ∀ i,i < n → ∃ v,(∀ w,(part E cs (i * c)).run P w = .ok v w) ∧ rG P e d E v) : rG P e (d + 1) T (.agg cs):=fun w=>by
 unfold Instr.checkKey;simp only[Sem.run_bind,run_underlying hu,Result.andThen_ok];simp only[Std.Legacy.Range.forIn_eq_forIn_range',Std.Legacy.Range.size,Nat.sub_zero,Nat.add_one_sub_one,Nat.div_one];refine (congrArg (fun r=>Result.andThen r _) (nL _ (List.range' 0 n) fun i hi=>?_)).trans (by rfl);obtain ⟨v,h1,h2⟩:=h i (by simpa using hi);simp [dQ hc,h1 w,h2 w]
theorem nK.agg {K : Type} [DecidableEq K] {ek : K → Value} {cs : K → Array Value} (ha : ∀ k,ek k = .agg (cs k)) {t : TypeDesc} (ht : P.underlying T = some t) (hc : ∀ e k,rG P e 10000 T (ek k)) (he : ∀ a b,oC P 10000 T (ek a) (ek b) (a = b)) (hb : ∀ a,Instr.sameBits 10000 (ek a) (ek a) = true) : nK P T ek where
 chk e k w:=hc e k w
 now:=⟨t,ht,fun a b=>.inl (by rw [ha,ha];cases t <;> rfl)⟩
 eq a b w:=sJ (he a b) w
 bits:=hb
end
end Go.Lith
namespace Go.Proofs.YtfekpcimgncioaaGreatDoor
open Go.Proofs.Tryz
open Go.RowKit Go.Lith
set_option maxRecDepth 100000
attribute [local irreducible] wpList wpQuiet dB bL cE Code.wp
theorem sR {p q : P3} : eQ prog 38 [pt p,pt q] (.bool (decide (p.Lt q))):=by
 intro w;refine ⟨ai2,?_⟩;have m:=Mem.refl w
 go_enter func38,ntmps38
 refine aD fun K1 k1=>wp_region_lit (cB m rfl ?_);clear m;intro g1 u m;simp only[zz];refine cB m rfl ?_;clear m;intro g2 u m;refine aA (aG) (aF (k1 _ _ ?_));refine aD fun K2 k2=>aD fun K3 k3=>wp_region_lit (aA (aL (c:=0) dL rfl aO rfl rfl) ?_);simp only[zz];refine aJ rfl ((m.b 1 rfl).lies1 aX rfl) ?_;simp only[zz];refine aA (aL (c:=0) dL rfl aO rfl rfl) ?_;simp only[zz];refine aJ rfl ((m.b 0 rfl).lies1 aX rfl) ?_;simp only[zz];refine aA (jJ rfl rfl) (aF (k3 _ _ ?_));simp only[zz];refine cG rfl (fun hc1=>?_) (fun hc1=>?_)
 ·
  refine aD fun K4 k4=>wp_region_lit (aA (aL (c:=0) dL rfl aO rfl rfl) ?_);simp only[zz];refine aJ rfl ((m.b 1 rfl).lies1 aX rfl) ?_;simp only[zz];refine aA (aL (c:=0) dL rfl aO rfl rfl) ?_;simp only[zz];refine aJ rfl ((m.b 0 rfl).lies1 aX rfl) ?_;simp only[zz];refine aA (cW rfl rfl) (aA (aG) (aF (k4 _ _ ?_)));refine wp_ret ?_;simp only[zz];try simp only[Exit.inBlock,Exit.then,if_true]
  refine bE rfl rfl ?_;try simp only[zD,zE]
  exact ⟨_,rfl,m.ext,by simp only[P3.lt_x hc1]⟩
 ·
  have ex : p.x = q.x:=by omega
  refine wp_skip (k2 _ _ ?_);refine aD fun K5 k5=>aD fun K6 k6=>wp_region_lit (aA (aL (c:=0) dL rfl aO rfl rfl) ?_);simp only[zz];refine aJ rfl ((m.b 1 rfl).lies1 aX rfl) ?_;simp only[zz];refine aA (aL (c:=0) dL rfl aO rfl rfl) ?_;simp only[zz];refine aJ rfl ((m.b 0 rfl).lies1 aX rfl) ?_;simp only[zz];refine aA (jJ rfl rfl) (aF (k6 _ _ ?_));simp only[zz];refine cG rfl (fun hc2=>?_) (fun hc2=>?_)
  ·
   refine aD fun K7 k7=>wp_region_lit (aA (aL (c:=0) dL rfl aO rfl rfl) ?_);simp only[zz];refine aJ rfl ((m.b 1 rfl).lies1 aX rfl) ?_;simp only[zz];refine aA (aL (c:=0) dL rfl aO rfl rfl) ?_;simp only[zz];refine aJ rfl ((m.b 0 rfl).lies1 aX rfl) ?_;simp only[zz];refine aA (cW rfl rfl) (aA (aG) (aF (k7 _ _ ?_)));refine wp_ret ?_;simp only[zz];try simp only[Exit.inBlock,Exit.then,if_true]
   refine bE rfl rfl ?_;try simp only[zD,zE]
   exact ⟨_,rfl,m.ext,by simp only[P3.lt_y ex hc2]⟩
  ·
   have ey : p.y = q.y:=by omega
   refine wp_skip (k5 _ _ ?_);refine aD fun K8 k8=>wp_region_lit (aA (aL (c:=0) dL rfl aO rfl rfl) ?_);simp only[zz];refine aJ rfl ((m.b 1 rfl).lies1 aX rfl) ?_;simp only[zz];refine aA (aL (c:=0) dL rfl aO rfl rfl) ?_;simp only[zz];refine aJ rfl ((m.b 0 rfl).lies1 aX rfl) ?_;simp only[zz];refine aA (cW rfl rfl) (aA (aG) (aF (k8 _ _ ?_)));refine wp_ret ?_;simp only[zz];try simp only[Exit.inBlock,Exit.then,if_true]
   refine bE rfl rfl ?_;try simp only[zD,zE]
   exact ⟨_,rfl,m.ext,by simp only[P3.lt_z ex ey]⟩
theorem adZ {ts : List T3} {N cap : Nat} {A : Option Addr} (w : World) (hT : bY w A N ts) (hN : N ≤ 1000000000) : eG prog 76 [.slice A N cap] w (SL 56 6 ((bG ts).flatMap dT) (bG ts).length w):=by
 refine ⟨ajp,?_⟩;have m:=Mem.refl w
 go_enter func76,ntmps76
 refine aD fun K1 k1=>wp_region_lit (aA (aG) (aF (k1 _ _ ?_)));refine aD fun K2 k2=>wp_region_lit (aA (aG) ?_);replace m:=m.nilO 56 6;refine aF (k2 _ _ ?_);refine aD fun K3 k3=>aD fun K4 k4=>wp_region_lit (aA (aG) (aF (k4 _ _ ?_)));refine wp_block ?_;simp only[zz];try simp only[Nat.zero_add,Nat.reduceAdd,Nat.reduceMul,Int.reduceToNat]
 refine bT [3,4] [5,6,7,8,9,10,11,12,13,14,15,16,17,18,19,20,21,22,23,24,25,26,27,28,29,30,31,32,33] (fun n vs wl=>∃ (k : Nat) (A3 : Option Addr) (cap3 : Nat),vs = [.slice A3 (bG (ts.take k)).length cap3,.int .i64 (k:Int)] ∧ Mem w wl [oI 56 6 A3 (bG (ts.take k)).length cap3 ((bG (ts.take k)).flatMap dT)] ∧ (k ≤ N) ∧ (n = N - k)) ?_ ?_
 ·
  apply Exists.intro;simp only[zQ,zR,zD,zE];exact ⟨0,_,_,rfl,m,Nat.zero_le _,rfl⟩
 ·
  intro n vs wr hI u;clear m;obtain ⟨k,A3,cap3,rfl,m,hk,hn⟩:=hI;simp only[zu,zF,zG];refine aD fun K5 k5=>aD fun K6 k6=>wp_region_lit (aA (aB) (aA (aB) (aA (bH rfl bQ rfl) (aA (cW rfl rfl) ?_))));simp only[zz];refine aF (k6 _ _ ?_);refine cG rfl (fun hc1=>?_) (fun hc1=>?_)
  ·
   obtain ⟨t,ht,_,a,rfl,hrow⟩:=hT.get (i:=k) (by omega);refine wp_skip (k5 _ _ ?_);refine aD fun K7 k7=>wp_block (aD fun K8 k8=>wp_region_lit (aA (aB) (aA (aB) ?_)));simp only[zz];refine aA (aN bQ aR rfl rfl (by omega) (by omega) (dC (Int.toNat_natCast _))) ?_;simp only[zz];refine aJ rfl ((hrow.ext m.ext).lies bR aR) ?_;simp only[zz];refine bA m fP rfl ?_;clear m;intro g1 u m;simp only[zz];refine aT m 0 rfl rfl rfl aR (cU rfl) rfl ?_;clear m;intro u m;simp only[zy,zx,bB,zF,zG,Nat.reduceAdd] at m;refine aF (k8 _ _ ?_);refine wp_region_lit (aA (aB) (aA (aH bD aC rfl rfl (by decide) (by decide) rfl) ?_));simp only[zz];refine aJ rfl ((m.b 0 rfl).lies aI aC rfl rfl) ?_;simp only[zz,zy,Nat.zero_add,Nat.reduceAdd,Nat.reduceMul,Int.reduceToNat];refine aA (aH bD aC rfl rfl (by decide) (by decide) rfl) ?_;simp only[zz];refine aJ rfl ((m.b 0 rfl).lies aI aC rfl rfl) ?_;simp only[zz,zy,Nat.zero_add,Nat.reduceAdd,Nat.reduceMul,Int.reduceToNat];refine aA (fI rfl rfl) (aA (aH bD aC rfl rfl (by decide) (by decide) rfl) ?_);simp only[zz];refine aJ rfl ((m.b 0 rfl).lies aI aC rfl rfl) ?_;simp only[zz,zy,Nat.zero_add,Nat.reduceAdd,Nat.reduceMul,Int.reduceToNat];refine aA (aH bD aC rfl rfl (by decide) (by decide) rfl) ?_;simp only[zz];refine aJ rfl ((m.b 0 rfl).lies aI aC rfl rfl) ?_;simp only[zz,zy,Nat.zero_add,Nat.reduceAdd,Nat.reduceMul,Int.reduceToNat];refine aA (fI rfl rfl) (aA (aH bD aC rfl rfl (by decide) (by decide) rfl) ?_);simp only[zz];refine aJ rfl ((m.b 0 rfl).lies aI aC rfl rfl) ?_;simp only[zz,zy,Nat.zero_add,Nat.reduceAdd,Nat.reduceMul,Int.reduceToNat];refine aA (aH bD aC rfl rfl (by decide) (by decide) rfl) ?_;simp only[zz];refine aJ rfl ((m.b 0 rfl).lies aI aC rfl rfl) ?_;simp only[zz,zy,Nat.zero_add,Nat.reduceAdd,Nat.reduceMul,Int.reduceToNat];refine aA (fI rfl rfl) ?_;simp only[zz];refine Yy rfl rfl rfl ?_;intro u g2 e hg hB;replace m:=m.newB e hg hB;clear e hg hB;simp only[zz];refine dD m 2 rfl rfl xC abb rfl (by decide) rfl rfl rfl (m.b 0 rfl).rowsO (jZ rfl) (by have:=rO (ts.take k);rw [List.length_take] at this;omega) (by have:=rO (ts.take k);rw [List.length_take] at this;omega) ?_;clear m;intro A3 cap3 u m;simp only[zF,zG] at m;rw [show (bG (ts.take k)).flatMap dT ++ _ = (bG (ts.take (k + 1))).flatMap dT by rw [pI ht,List.flatMap_append];rfl,show (bG (ts.take k)).length + 3 = (bG (ts.take (k + 1))).length by rw [pI ht,List.length_append];rfl] at m;rw [show (bG (ts.take k)).length + 3 = (bG (ts.take (k + 1))).length by rw [pI ht,List.length_append];rfl];refine aA (aG) (aF (k7 _ _ ?_));refine wp_region_lit (aA (aB) ?_);simp only[zz];refine aA (aU rfl rfl (aV (by omega) (by omega))) (aA (aG) (aF ?_));simp only[zz];simp only[Exit.inBlock,Exit.then];refine ⟨N - (k + 1),_,?_,rfl,?_,?_⟩
   · omega
   · simp only[zz,zv]
   ·
    simp only[zQ,zR,zD,zE];exact ⟨k + 1,_,_,rfl,(m.sel [false,false,true]),by omega,rfl⟩
  ·
   have hkN : k = N:=by omega
   rw [hkN,show ts.take N = ts from List.take_of_length_le (by rw [hT.len];exact Nat.le_refl _)] at m ⊢;refine wp_exit (k3 _ _ ?_);refine aD fun K9 k9=>wp_region_lit (aA (aB) (aA (aG) (aF (k9 _ _ ?_))));refine wp_ret ?_;simp only[zz];try simp only[Exit.inBlock,Exit.then,if_true]
   refine bE rfl rfl ?_;try simp only[zD,zE]
   exact ⟨_,rfl,m.ext,⟨_,_,_,rfl,rfl,(m.o 0 rfl)⟩⟩
theorem ad0 {es : List E3} {N cap : Nat} {A : Option Addr} {e : E3} (w : World) (hL : Ek dT 6 w A N es) (hN : N ≤ 1000000000) : eG prog 77 [.slice A N cap,ed e] w (fun v _=>v = .int .i64 ((kH es e : Nat) : Int)):=by
 refine ⟨ajq,?_⟩;have m:=Mem.refl w
 go_enter func77,ntmps77
 refine aD fun K1 k1=>wp_region_lit (cB m rfl ?_);clear m;intro g1 u m;refine aA (aG) (aF (k1 _ _ ?_));refine aD fun K2 k2=>wp_region_lit (aA (aG) (aF (k2 _ _ ?_)));refine aD fun K3 k3=>aD fun K4 k4=>wp_region_lit (aA (aG) ?_);simp only[zz];refine aF (k4 _ _ ?_);refine wp_block ?_;try simp only[Nat.zero_add,Nat.reduceAdd,Nat.reduceMul,Int.reduceToNat]
 refine bT [5,6] [7,8,9,10,11,12,13,14,15,16,17,18,19,20] (fun n vs wl=>∃ (k q : Nat),vs = [.int .i64 (q : Int),.int .i64 (k:Int)] ∧ Mem w wl [bI g1 (dT e) 56] ∧ (q = kH (es.take k) e) ∧ (k ≤ N) ∧ (n = N - k)) ?_ ?_
 ·
  apply Exists.intro;simp only[zQ,zR,zD,zE];exact ⟨0,0,rfl,m,rfl,Nat.zero_le _,rfl⟩
 ·
  intro n vs wr hI u;clear m;obtain ⟨k,q,rfl,m,hq,hk,hn⟩:=hI;subst hq;simp only[zu,zF,zG];refine aD fun K5 k5=>aD fun K6 k6=>wp_region_lit (aA (aB) (aA (aB) (aA (bH rfl xC rfl) (aA (cW rfl rfl) ?_))));simp only[zz];refine aF (k6 _ _ ?_);refine cG rfl (fun hc1=>?_) (fun hc1=>?_)
  ·
   obtain ⟨x,hx,a,rfl,hrow⟩:=hL.get (i:=k) (by omega);refine wp_skip (k5 _ _ ?_);refine aD fun K7 k7=>wp_block (aD fun K8 k8=>mq m aM (by kernel_rfl) (aK (aB) (aK (aB) ?_)));simp only[zz];refine aK (aN xC iD rfl rfl (by omega) (by omega) (dC (Int.toNat_natCast _))) ?_;simp only[zz];refine ql rfl (fun u m=>((hrow.ext m.ext).lies Ci iD)) ?_;simp only[zz];refine ql rfl (fun u m=>((m.b 0 rfl).full Ci iD)) ?_;simp only[zz];refine aK (Yv rfl rfl) (bZ ?_);clear m;intro u m;refine k8 _ _ ?_;simp only[zz];refine cG rfl (fun hc2=>?_) (fun hc2=>?_)
   ·
    have hxe : x = e:=Prod.ext (P3.eq hc2.1 hc2.2.1 hc2.2.2.1) (P3.eq hc2.2.2.2.1 hc2.2.2.2.2.1 hc2.2.2.2.2.2);have hcl : kH (es.take k) e ≤ N:=Nat.le_trans afO (by rw [List.length_take];omega);have hs:=Pb (e:=e) hx;rw [if_pos hxe] at hs;refine wp_region_lit (aA (aB) ?_);simp only[zz];refine aA (aU rfl rfl (aV (by omega) (by omega))) (aA (aG) (aF (k7 _ _ ?_)));refine wp_region_lit (aA (aB) ?_);simp only[zz];refine aA (aU rfl rfl (aV (by omega) (by omega))) (aA (aG) (aF ?_));simp only[zz];rw [show ((kH (es.take k) e : Nat) : Int) + 1 = ((kH (es.take (k + 1)) e : Nat) : Int) by rw [hs];rfl];simp only[Exit.inBlock,Exit.then];refine ⟨N - (k + 1),_,?_,rfl,?_,?_⟩
    · omega
    · simp only[zz,zv]
    ·
     simp only[zQ,zR,zD,zE];exact ⟨k + 1,kH (es.take (k + 1)) e,rfl,m,rfl,by omega,rfl⟩
   ·
    have hs : kH (es.take (k + 1)) e = kH (es.take k) e:=(Pb (e:=e) hx).trans (by rw [if_neg (fun h=>hc2 (by rw [h];exact ⟨rfl,rfl,rfl,rfl,rfl,rfl⟩))];rfl);refine wp_skip (k7 _ _ ?_);refine wp_region_lit (aA (aB) ?_);simp only[zz];refine aA (aU rfl rfl (aV (by omega) (by omega))) (aA (aG) (aF ?_));simp only[zz];rw [← hs];simp only[Exit.inBlock,Exit.then];refine ⟨N - (k + 1),_,?_,rfl,?_,?_⟩
    · omega
    · simp only[zz,zv]
    ·
     simp only[zQ,zR,zD,zE];exact ⟨k + 1,kH (es.take (k + 1)) e,rfl,m,rfl,by omega,rfl⟩
  ·
   have hkN : k = N:=by omega
   rw [hkN,show es.take N = es from List.take_of_length_le (by rw [hL.len];exact Nat.le_refl _)];refine wp_exit (k3 _ _ ?_);refine aD fun K9 k9=>wp_region_lit (aA (aB) (aA (aG) (aF (k9 _ _ ?_))));refine wp_ret ?_;simp only[zz];try simp only[Exit.inBlock,Exit.then,if_true]
   refine bE rfl rfl ?_;try simp only[zD,zE]
   exact ⟨_,rfl,m.ext,rfl⟩
theorem ad1 {ps : List P3} {N cap : Nat} {A : Option Addr} {p : P3} (w : World) (hL : Ek mW 3 w A N ps) (hN : N ≤ 1000000000) (hcap : N ≤ cap) : eG prog 82 [.slice A N cap,pt p] w (fun v w'=>(v = .slice A N cap ∧ fJ ps p = ps) ∨ SL 30 3 ((fJ ps p).flatMap mW) (fJ ps p).length w v w'):=by
 refine ⟨Wd,?_⟩;have m:=Mem.refl w;obtain rfl : ps.length = N:=hL.len
 go_enter func82,ntmps82
 refine aD fun K1 k1=>wp_region_lit (cB m rfl ?_);clear m;intro g1 u m;refine aA (aG) (aF (k1 _ _ ?_));refine aD fun K2 k2=>wp_region_lit (aA (aG) (aF (k2 _ _ ?_)));refine aD fun K3 k3=>wp_block ?_;simp only[zz];try simp only[Nat.zero_add,Nat.reduceAdd,Nat.reduceMul,Int.reduceToNat]
 refine bT [5] [6,8,9,10,11,12,13,14,15,16,17,18,19,20,21] (fun n vs wl=>∃ (k : Nat),vs = [.int .i64 (k:Int)] ∧ Mem w wl [bI g1 (mW p) 30] ∧ (Pre (fun x=>decide (x.Lt p)) ps k) ∧ (k ≤ ps.length) ∧ (n = ps.length - k)) ?_ ?_
 ·
  apply Exists.intro;simp only[zQ,zR,zD,zE];exact ⟨0,rfl,m,Pre.zero,Nat.zero_le _,rfl⟩
 ·
  intro n vs wr hI u;clear m;obtain ⟨k,rfl,m,hpre,hk,hn⟩:=hI;simp only[zu,zF,zG];refine aD fun K4 k4=>aD fun K5 k5=>wp_region_lit (aA (aB) (aA (aB) (aA (bH rfl dS rfl) (aA (cW rfl rfl) ?_))));simp only[zz];refine aF (k5 _ _ ?_);refine cG rfl (fun hc1=>?_) (fun hc1=>?_)
  ·
   obtain ⟨x,hx,a,rfl,hrow⟩:=hL.get (i:=k) (by omega);refine wp_skip (k4 _ _ ?_);refine wp_block (aD fun K6 k6=>mq m aM (by kernel_rfl) (aK (aB) (aK (aB) ?_)));simp only[zz];refine aK (aN dS aC rfl rfl (by omega) (by omega) (dC (Int.toNat_natCast _))) ?_;simp only[zz];refine ql rfl (fun u m=>((hrow.ext m.ext).lies aI aC)) ?_;simp only[zz];refine ql rfl (fun u m=>((m.b 0 rfl).full aI aC)) ?_;simp only[zz];refine gV rfl rfl (sR) (aK (aG) (bZ ?_));clear m;intro u m;refine k6 _ _ ?_;refine aD fun K7 k7=>aD fun K8 k8=>wp_region_lit (aA (aB) (aA (fR rfl) ?_));simp only[zz];refine aF (k8 _ _ ?_);refine jO rfl (fun hc2=>?_) (fun hc2=>?_)
   ·
    have hpos : Pc ps p = k:=aiP hpre hx (by simpa using hc2);refine wp_exit (k3 _ _ ?_);refine aD fun K9 k9=>aD fun K10 k10=>mq m aM (by kernel_rfl) (aK (aB) (aK (aB) (aK (bH rfl dS rfl) ?_)));simp only[zz];refine aK (bF rfl rfl (by omega)) (aK (aB) (eF rfl (aK (aB) (eF rfl (aK (aB) ?_)))));simp only[zz];refine eF rfl (aK (aN dS aC rfl rfl (by omega) (by omega) (dC (Int.toNat_natCast _))) (eF rfl ?_));simp only[zz];refine ql rfl (fun u m=>((hrow.ext m.ext).lies aI aC)) ?_;simp only[zz];refine eF rfl (ql rfl (fun u m=>((m.b 0 rfl).full aI aC)) ?_);simp only[zz];refine eF rfl (aK (cV rfl rfl) (aK (eK rfl) (bZ ?_)));clear m;intro u m;refine k10 _ _ ?_;simp only[zz];refine cG rfl (fun hc3=>?_) (fun hc3=>?_)
    ·
     have hxp : x = p:=P3.eq hc3.1 hc3.2.1 hc3.2.2;refine aD fun K11 k11=>wp_region_lit (aA (aB) (aA (aG) (aF (k11 _ _ ?_))));refine wp_ret ?_;simp only[zz];try simp only[Exit.inBlock,Exit.then,if_true]
     refine bE rfl rfl ?_;try simp only[zD,zE]
     exact ⟨_,rfl,m.ext,.inl ⟨rfl,by rw [fJ,hpos,hx,if_pos (by rw [hxp])]⟩⟩
    ·
     have hw : fJ ps p = ps.take k ++ [p] ++ ps.drop k:=by unfold fJ;rw [hpos,if_neg (by rw [hx];exact fun h=>hc3 (by cases h;exact ⟨rfl,rfl,rfl⟩))]
     refine wp_skip (k9 _ _ ?_);refine aD fun K12 k12=>wp_region_lit (aA (aG) ?_);replace m:=m.nilO 30 3;refine aF (k12 _ _ ?_);refine aD fun K13 k13=>wp_region_lit (aA (aB) (aA (aB) (aA (aB) ?_)));simp only[zz];refine aA (rJ dS aC rfl rfl (Int.toNat_natCast _) (by omega) (by omega)) ?_;simp only[zz];refine dD m 0 rfl rfl dS nJ rfl (by decide) rfl rfl (by rw [kA El,List.length_take,Nat.min_eq_left (by omega)]) (((hL.take (by omega)).ext m.ext).cells El (by decide)) (Gi _) (by omega) (by omega) ?_;clear m;intro A7 cap7 u m;simp only[zF,zG] at m;rw [List.nil_append,Nat.zero_add] at m;rw [Nat.zero_add];refine aA (aG) (aF (k13 _ _ ?_));refine aD fun K14 k14=>wp_region_lit (aA (aB) ?_);simp only[zz];refine aJ rfl ((m.b 1 rfl).full aI aC) ?_;simp only[zz];refine mJ rfl ?_;intro u g2 e hg hB;replace m:=m.newB e hg hB;clear e hg hB;simp only[zz];refine dD m 1 rfl rfl dS nJ rfl (by decide) rfl rfl rfl (m.b 0 rfl).rowsO (jZ rfl) (by omega) (by omega) ?_;clear m;intro A7 cap7 u m;simp only[zF,zG] at m;refine aA (aG) (aF (k14 _ _ ?_));refine aD fun K15 k15=>wp_region_lit (aA (aB) (aA (aB) ?_));simp only[zz];refine aA (aB) ?_;simp only[zz];refine aA (vQ dS aC rfl rfl (Int.toNat_natCast _) (by omega) (by omega) rfl) ?_;simp only[zz];refine dD m 1 rfl rfl dS nJ rfl (by decide) rfl rfl (by rw [kA El,List.length_drop]) ((hL.ext m.ext).cellsD El (by decide) hcap) (Gi _) (by omega) (by omega) ?_;clear m;intro A7 cap7 u m;simp only[zF,zG] at m;refine aA (aG) (aF (k15 _ _ ?_));refine wp_ret ?_;simp only[zz];try simp only[Exit.inBlock,Exit.then,if_true]
     refine bE rfl rfl ?_;try simp only[zD,zE]
     exact ⟨_,rfl,m.ext,.inr ⟨_,_,_,by rw [hw];simp;omega,rfl,(m.o 1 rfl).as (by rw [hw,List.flatMap_append,List.flatMap_append];rfl)⟩⟩
   ·
    have hpre2:=hpre.step hx (by simpa using hc2);refine wp_skip (k7 _ _ ?_);refine wp_region_lit (aA (aB) ?_);simp only[zz];refine aA (aU rfl rfl (aV (by omega) (by omega))) (aA (aG) (aF ?_));simp only[zz];simp only[Exit.inBlock,Exit.then];refine ⟨ps.length - (k + 1),_,?_,rfl,?_,?_⟩
    · omega
    · simp only[zz,zv]
    ·
     simp only[zQ,zR,zD,zE];exact ⟨k + 1,rfl,m,hpre2,by omega,rfl⟩
  ·
   obtain rfl : k = ps.length:=by omega
   have hpos : Pc ps p = ps.length:=afR hpre;have hw : fJ ps p = ps.take ps.length ++ [p] ++ ps.drop ps.length:=by unfold fJ;rw [hpos,if_neg (by rw [List.getElem?_eq_none (Nat.le_refl _)];simp)]
   refine wp_exit (k3 _ _ ?_);refine aD fun K16 k16=>aD fun K17 k17=>mq m aM (by kernel_rfl) (aK (aB) (aK (aB) (aK (bH rfl dS rfl) ?_)));simp only[zz];refine aK (dM rfl rfl (by omega)) (aK (aB) (pZ rfl (pZ rfl ?_)));simp only[zz];refine pZ rfl (pZ rfl (pZ rfl (pZ rfl ?_)));simp only[zz];refine aK (iB rfl) (bZ ?_);clear m;intro u m;refine k17 _ _ (gA rfl (wp_skip (k16 _ _ ?_)));refine aD fun K18 k18=>wp_region_lit (aA (aG) ?_);replace m:=m.nilO 30 3;refine aF (k18 _ _ ?_);refine aD fun K19 k19=>wp_region_lit (aA (aB) (aA (aB) ?_));simp only[zz];refine aA (aB) ?_;simp only[zz];refine aA (rJ dS aC rfl rfl (Int.toNat_natCast _) (by omega) (by omega)) ?_;simp only[zz];refine dD m 0 rfl rfl dS nJ rfl (by decide) rfl rfl (by rw [kA El,List.length_take,Nat.min_eq_left (by omega)]) (((hL.take (by omega)).ext m.ext).cells El (by decide)) (Gi _) (by omega) (by omega) ?_;clear m;intro A7 cap7 u m;simp only[zF,zG] at m;rw [List.nil_append,Nat.zero_add] at m;rw [Nat.zero_add];refine aA (aG) (aF (k19 _ _ ?_));refine aD fun K20 k20=>wp_region_lit (aA (aB) ?_);simp only[zz];refine aJ rfl ((m.b 1 rfl).full aI aC) ?_;simp only[zz];refine mJ rfl ?_;intro u g2 e hg hB;replace m:=m.newB e hg hB;clear e hg hB;simp only[zz];refine dD m 1 rfl rfl dS nJ rfl (by decide) rfl rfl rfl (m.b 0 rfl).rowsO (jZ rfl) (by omega) (by omega) ?_;clear m;intro A7 cap7 u m;simp only[zF,zG] at m;refine aA (aG) (aF (k20 _ _ ?_));refine aD fun K21 k21=>wp_region_lit (aA (aB) (aA (aB) ?_));simp only[zz];refine aA (aB) ?_;simp only[zz];refine aA (vQ dS aC rfl rfl (Int.toNat_natCast _) (by omega) (by omega) rfl) ?_;simp only[zz];refine dD m 1 rfl rfl dS nJ rfl (by decide) rfl rfl (by rw [kA El,List.length_drop]) ((hL.ext m.ext).cellsD El (by decide) hcap) (Gi _) (by omega) (by omega) ?_;clear m;intro A7 cap7 u m;simp only[zF,zG] at m;refine aA (aG) (aF (k21 _ _ ?_));refine wp_ret ?_;simp only[zz];try simp only[Exit.inBlock,Exit.then,if_true]
   refine bE rfl rfl ?_;try simp only[zD,zE]
   exact ⟨_,rfl,m.ext,.inr ⟨_,_,_,by rw [hw];simp,rfl,(m.o 1 rfl).as (by rw [hw,List.flatMap_append,List.flatMap_append];rfl)⟩⟩
theorem Tt {w0 w : World} {is : List It} {A : Option Addr} {n cap : Nat} {ps : List P3} {p : P3} (m : Mem w0 w is) (k : Nat) (hi : is[k]? = some (oI 30 3 A n cap (ps.flatMap mW))) (hN : n ≤ 1000000000) :
 Calls prog 82 [.slice A n cap,pt p].toArray w fun e w'=>∃ v i,e = .returned v ∧ Mem w0 w' (is.set k i) ∧ ∃ A' cap' n',n' = (fJ ps p).length ∧ v = .slice A' n' cap' ∧ i = oI 30 3 A' n' cap' ((fJ ps p).flatMap mW):=by
 have hO:=m.o k hi;refine (ad1 (p:=p) w (hO.lat El (by decide)) hN hO.le).2.mono ?_;rintro e w' ⟨v,rfl,hE,h⟩;rcases h with ⟨rfl,h⟩ | ⟨A',cap',n',rfl,rfl,hN'⟩
 · exact ⟨_,oI 30 3 A n cap (ps.flatMap mW),rfl,by rw [afP hi];exact m.ext' hE,A,cap,n,by rw [h];exact (hO.num El (by decide)).symm,rfl,by rw [h]⟩
 · exact ⟨_,_,rfl,(m.newO hE hN').mv k hi,_,_,_,rfl,rfl,rfl⟩
theorem Za {ts : List T3} {N cap : Nat} {A : Option Addr} (w : World) (hT : bY w A N ts) (hN : N ≤ 100000000) : eG prog 36 [.slice A N cap] w (SL 30 3 ((dK ts).flatMap mW) (dK ts).length w):=by
 refine ⟨ai1,?_⟩;have m:=Mem.refl w
 go_enter func36,ntmps36
 refine aD fun K1 k1=>wp_region_lit (aA (aG) (aF (k1 _ _ ?_)));refine aD fun K2 k2=>wp_region_lit (aA (aG) ?_);replace m:=m.nilO 30 3;refine aF (k2 _ _ ?_);refine aD fun K3 k3=>aD fun K4 k4=>wp_region_lit (aA (aG) (aF (k4 _ _ ?_)));refine wp_block ?_;simp only[zz];try simp only[Nat.zero_add,Nat.reduceAdd,Nat.reduceMul,Int.reduceToNat]
 refine bT [3,4] [5,6,7,8,9,10,11,12,13,14,15,16,17,18,19,20,21,22,23] (fun n vs wl=>∃ (k n3 : Nat) (A3 : Option Addr) (cap3 : Nat),vs = [.slice A3 n3 cap3,.int .i64 (k:Int)] ∧ Mem w wl [oI 30 3 A3 n3 cap3 ((dK (ts.take k)).flatMap mW)] ∧ (n3 = (dK (ts.take k)).length) ∧ (k ≤ N) ∧ (n = N - k)) ?_ ?_
 ·
  apply Exists.intro;simp only[zQ,zR,zD,zE];exact ⟨0,0,_,_,rfl,m,rfl,Nat.zero_le _,rfl⟩
 ·
  intro n vs wr hI u;clear m;obtain ⟨k,n3,A3,cap3,rfl,m,hn3,hk,hn⟩:=hI;simp only[zu,zF,zG];refine aD fun K5 k5=>aD fun K6 k6=>wp_region_lit (aA (aB) (aA (aB) (aA (bH rfl bQ rfl) (aA (cW rfl rfl) ?_))));simp only[zz];refine aF (k6 _ _ ?_);refine cG rfl (fun hc1=>?_) (fun hc1=>?_)
  ·
   obtain ⟨t,ht,_,a,rfl,hrow⟩:=hT.get (i:=k) (by omega);have hb0:=Dn (ts.take k);have hb1:=rP (dK (ts.take k)) t.a;have hb2:=rP (fJ (dK (ts.take k)) t.a) t.b;rw [List.length_take] at hb0;refine wp_skip (k5 _ _ ?_);refine aD fun K7 k7=>wp_block (aD fun K8 k8=>wp_region_lit (aA (aG) (aF (k8 _ _ ?_))));refine wp_block (wp_loop_rounds 4 (bU (aD fun K9 k9=>aD fun K10 k10=>wp_region_lit (aA (aB) (aA (bF (m:=0) (n:=3) rfl rfl (by decide)) (aF (k10 _ _ ?_)))))));refine bK rfl (wp_skip (k9 _ _ ?_));refine aD fun K11 k11=>wp_block (wp_region_lit (aA (aB) ?_));simp only[zz];refine aA (aB) (aA (aB) (aA (aB) ?_));simp only[zz];refine aA (aN bQ aR rfl rfl (by omega) (by omega) (dC (Int.toNat_natCast _))) (aA (aH bD aC rfl rfl (by decide) (by decide) rfl) ?_);simp only[zz];refine aJ rfl ((mP.cor (hrow.ext m.ext) (c:=0) (by decide)).lies aI aC) ?_;simp only[zz];refine jG m 0 Wd rfl rfl (fun m=>Tt (p:=t.a) m 0 rfl (by omega)) ?_;clear m;rintro v i u m ⟨A3,cap3,n3,hn3,rfl,rfl⟩;simp only[zF,zG] at m;refine aA (aG) (aF (k11 _ _ ?_));refine wp_region_lit (aA (aB) (aA (aU (m:=0) (n:=1) (r:=1) rfl rfl (by decide)) ?_));simp only[zz];refine aA (aG) (aF (aQ (aD fun K12 k12=>aD fun K13 k13=>wp_region_lit (aA (aB) (aA (bF (m:=1) (n:=3) rfl rfl (by decide)) (aF (k13 _ _ ?_)))))));refine bK rfl (wp_skip (k12 _ _ ?_));refine aD fun K14 k14=>wp_block (wp_region_lit (aA (aB) ?_));simp only[zz];refine aA (aB) (aA (aB) (aA (aB) ?_));simp only[zz];refine aA (aN bQ aR rfl rfl (by omega) (by omega) (dC (Int.toNat_natCast _))) (aA (aH bD aC rfl rfl (by decide) (by decide) rfl) ?_);simp only[zz];refine aJ rfl ((mP.cor (hrow.ext m.ext) (c:=1) (by decide)).lies aI aC) ?_;simp only[zz];refine jG m 0 Wd rfl rfl (fun m=>Tt (p:=t.b) m 0 rfl (by omega)) ?_;clear m;rintro v i u m ⟨A3,cap3,n3,hn3,rfl,rfl⟩;simp only[zF,zG] at m;refine aA (aG) (aF (k14 _ _ ?_));refine wp_region_lit (aA (aB) (aA (aU (m:=1) (n:=1) (r:=2) rfl rfl (by decide)) ?_));simp only[zz];refine aA (aG) (aF (aQ (aD fun K15 k15=>aD fun K16 k16=>wp_region_lit (aA (aB) (aA (bF (m:=2) (n:=3) rfl rfl (by decide)) (aF (k16 _ _ ?_)))))));refine bK rfl (wp_skip (k15 _ _ ?_));refine aD fun K17 k17=>wp_block (wp_region_lit (aA (aB) ?_));simp only[zz];refine aA (aB) (aA (aB) (aA (aB) ?_));simp only[zz];refine aA (aN bQ aR rfl rfl (by omega) (by omega) (dC (Int.toNat_natCast _))) (aA (aH bD aC rfl rfl (by decide) (by decide) rfl) ?_);simp only[zz];refine aJ rfl ((mP.cor (hrow.ext m.ext) (c:=2) (by decide)).lies aI aC) ?_;simp only[zz];refine jG m 0 Wd rfl rfl (fun m=>Tt (p:=t.c) m 0 rfl (by omega)) ?_;clear m;rintro v i u m ⟨A3,cap3,n3,hn3,rfl,rfl⟩;simp only[zF,zG] at m;refine aA (aG) (aF (k17 _ _ ?_));refine wp_region_lit (aA (aB) (aA (aU (m:=2) (n:=1) (r:=3) rfl rfl (by decide)) ?_));simp only[zz];refine aA (aG) (aF (aQ (aD fun K18 k18=>aD fun K19 k19=>wp_region_lit (aA (aB) (aA (dM (m:=3) (n:=3) rfl rfl (by decide)) (aF (k19 _ _ ?_)))))));refine gA rfl (wp_exit (k7 _ _ ?_));refine wp_region_lit (aA (aB) ?_);simp only[zz];refine aA (aU rfl rfl (aV (by omega) (by omega))) (aA (aG) (aF ?_));simp only[zz];simp only[Exit.inBlock,Exit.then];refine ⟨N - (k + 1),_,?_,rfl,?_,?_⟩
   · omega
   · simp only[zz,zv]
   ·
    simp only[zQ,zR,zD,zE];exact ⟨k + 1,_,_,_,rfl,(m.reO 0 rfl ((m.o 0 rfl).as (by rw [yY ht]))),by rw [yY ht];exact hn3,by omega,rfl⟩
  ·
   have hkN : k = N:=by omega
   rw [hkN,show ts.take N = ts from List.take_of_length_le (by rw [hT.len];exact Nat.le_refl _)] at m hn3;refine wp_exit (k3 _ _ ?_);refine aD fun K20 k20=>wp_region_lit (aA (aB) (aA (aG) (aF (k20 _ _ ?_))));refine wp_ret ?_;simp only[zz];try simp only[Exit.inBlock,Exit.then,if_true]
   refine bE rfl rfl ?_;try simp only[zD,zE]
   exact ⟨_,rfl,m.ext,⟨_,_,_,hn3,rfl,(m.o 0 rfl)⟩⟩
theorem abo {ts : List T3} {N cap : Nat} {A : Option Addr} {p q : P3} (w : World) (hT : Ek aW 9 w A N ts) (hN : N ≤ 1000000000) : eG prog 201 [.slice A N cap,pt p,pt q] w (fun v _=>v = .tuple #[pt ((bX ts p q).getD p),.bool (bX ts p q).isSome]):=by
 refine ⟨agH,?_⟩;have m:=Mem.refl w
 go_enter func201,ntmps201
 refine aD fun K1 k1=>wp_region_lit (cB m rfl ?_);clear m;intro g1 u m;simp only[zz];refine cB m rfl ?_;clear m;intro g2 u m;simp only[zz];refine bA m bO rfl ?_;clear m;intro g3 u m;refine aA (aG) (aF (k1 _ _ ?_));refine aD fun K2 k2=>aD fun K3 k3=>wp_region_lit (aA (aG) (aF (k3 _ _ ?_)));refine wp_block ?_;simp only[zz];try simp only[Nat.zero_add,Nat.reduceAdd,Nat.reduceMul,Int.reduceToNat]
 refine bT [8] [7,9,10,11,12,13,14,15,16,17,18,19,20,21,22,23,24,25,26,27,28,29,30,31,32,33,34,35,36,37,38,39,40,41,42,43,44,45,46,47] (fun n vs wl=>∃ (k : Nat),vs = [.int .i64 (k:Int)] ∧ Mem w wl [bI g3 [.int .i64 0,.int .i64 0,.int .i64 0] 30,bI g2 (mW q) 30,bI g1 (mW p) 30] ∧ (bX (ts.take k) p q = none) ∧ (k ≤ N) ∧ (n = N - k)) ?_ ?_
 ·
  apply Exists.intro;simp only[zQ,zR,zD,zE];exact ⟨0,rfl,m,rfl,Nat.zero_le _,rfl⟩
 ·
  intro n vs wr hI u;clear m;obtain ⟨k,rfl,m,hb0,hk,hn⟩:=hI;simp only[zu,zF,zG];refine aD fun K4 k4=>aD fun K5 k5=>wp_region_lit (aA (aB) (aA (aB) (aA (bH rfl bQ rfl) (aA (cW rfl rfl) ?_))));simp only[zz];refine aF (k5 _ _ ?_);refine cG rfl (fun hc1=>?_) (fun hc1=>?_)
  ·
   obtain ⟨t,ht,a,rfl,hrow⟩:=hT.get (i:=k) (by omega);refine wp_skip (k4 _ _ ?_);refine aD fun K6 k6=>wp_block (aD fun K7 k7=>wp_region_lit (aA (aG) (aF (k7 _ _ ?_))));refine wp_block (wp_loop_rounds 4 (bU (aD fun K8 k8=>aD fun K9 k9=>wp_region_lit (aA (aB) (aA (bF (m:=0) (n:=3) rfl rfl (by decide)) (aF (k9 _ _ ?_)))))));refine bK rfl (wp_skip (k8 _ _ ?_));refine aD fun K10 k10=>wp_block (aD fun K11 k11=>?_);simp only[zz];refine mq m aM (by kernel_rfl) (aK (aB) (aK (aB) (aK (aB) ?_)));simp only[zz];refine aK (aN bQ aR rfl rfl (by omega) (by omega) (dC (Int.toNat_natCast _))) (aK (aH bD aC rfl rfl (by decide) (by decide) rfl) ?_);simp only[zz];refine ql rfl (fun u m=>((mP.cor (hrow.ext m.ext) (c:=0) (by omega)).lies aI aC)) ?_;simp only[zz];refine ql rfl (fun u m=>((m.b 2 rfl).full aI aC)) ?_;simp only[zz];refine aK (cV rfl rfl) (aK (aB) (dJ rfl (fun hb=>aB) (dJ rfl (fun hb=>aB) ?_)));simp only[zz];refine dJ rfl (fun hb=>aB) (dJ rfl (fun hb=>aU (m:=0) (n:=1) (r:=1) (bW hb rfl) rfl (by decide)) (dJ rfl (fun hb=>gD (m:=1) (n:=3) (r:=1) (bW hb rfl) rfl (by decide) (by decide)) ?_));simp only[zz];refine dJ rfl (fun hb=>aN bQ aR (bW hb rfl) (bW hb rfl) (by omega) (by omega) (dC (Int.toNat_natCast _))) (dJ rfl (fun hb=>aH bD aC (bW hb rfl) (bW hb rfl) (by decide) (by decide) rfl) ?_);simp only[zz];refine eL rfl (fun hb u m=>bJ (bW hb rfl) ((mP.cor (hrow.ext m.ext) (c:=1) (by omega)).lies aI aC)) (eL rfl (fun hb u m=>bJ rfl ((m.b 1 rfl).full aI aC)) (dJ rfl (fun hb=>cV (bW hb rfl) (bW hb rfl)) (aK (eS rfl rfl rfl) (bZ ?_))));clear m;intro u m;refine k11 _ _ ?_;simp only[zz];refine jO rfl (fun hc3=>?_) (fun hc3=>?_)
   ·
    have hf:=uN ((qD ht hb0).trans (akv  (Ev.1 hc3)));refine aD fun K12 k12=>wp_region_lit (aA (aB) (aA (aB) (aA (aB) (aA (aU (m:=0) (n:=2) (r:=2) rfl rfl (by decide)) ?_))));simp only[zz];refine aA (gD (m:=2) (n:=3) (r:=2) rfl rfl (by decide) (by decide)) ?_;simp only[zz];refine aA (aN bQ aR rfl rfl (by omega) (by omega) (dC (Int.toNat_natCast _))) (aA (aH bD aC rfl rfl (by decide) (by decide) rfl) ?_);simp only[zz];refine aJ rfl ((mP.cor (hrow.ext m.ext) (c:=2) (by omega)).lies aI aC) ?_;simp only[zz];refine aT m 0 rfl rfl rfl aC (cU rfl) rfl ?_;clear m;intro u m;simp only[zy,zx,bB,zF,zG,Nat.reduceAdd] at m;refine aA (aG) (aF (k12 _ _ ?_));refine wp_ret ?_;simp only[zz];try simp only[Exit.inBlock,Exit.then,if_true]
    refine uA rfl ⟨_,rfl,((m.b 0 rfl).full aI aC)⟩ rfl ?_;try simp only[zD,zE]
    exact ⟨_,rfl,m.ext,by rw [hf];rfl⟩
   ·
    have hq0:=Ta hc3;refine wp_skip (k10 _ _ ?_);refine wp_region_lit (aA (aB) (aA (aU (m:=0) (n:=1) (r:=1) rfl rfl (by decide)) (aA (aG) (aF (aQ (aD fun K13 k13=>aD fun K14 k14=>wp_region_lit (aA (aB) ?_)))))));simp only[zz];refine aA (bF (m:=1) (n:=3) rfl rfl (by decide)) (aF (k14 _ _ ?_));refine bK rfl (wp_skip (k13 _ _ ?_));refine aD fun K15 k15=>wp_block (aD fun K16 k16=>?_);simp only[zz];refine mq m aM (by kernel_rfl) (aK (aB) (aK (aB) (aK (aB) ?_)));simp only[zz];refine aK (aN bQ aR rfl rfl (by omega) (by omega) (dC (Int.toNat_natCast _))) (aK (aH bD aC rfl rfl (by decide) (by decide) rfl) ?_);simp only[zz];refine ql rfl (fun u m=>((mP.cor (hrow.ext m.ext) (c:=1) (by omega)).lies aI aC)) ?_;simp only[zz];refine ql rfl (fun u m=>((m.b 2 rfl).full aI aC)) ?_;simp only[zz];refine aK (cV rfl rfl) (aK (aB) (dJ rfl (fun hb=>aB) (dJ rfl (fun hb=>aB) ?_)));simp only[zz];refine dJ rfl (fun hb=>aB) (dJ rfl (fun hb=>aU (m:=1) (n:=1) (r:=2) (bW hb rfl) rfl (by decide)) (dJ rfl (fun hb=>gD (m:=2) (n:=3) (r:=2) (bW hb rfl) rfl (by decide) (by decide)) ?_));simp only[zz];refine dJ rfl (fun hb=>aN bQ aR (bW hb rfl) (bW hb rfl) (by omega) (by omega) (dC (Int.toNat_natCast _))) (dJ rfl (fun hb=>aH bD aC (bW hb rfl) (bW hb rfl) (by decide) (by decide) rfl) ?_);simp only[zz];refine eL rfl (fun hb u m=>bJ (bW hb rfl) ((mP.cor (hrow.ext m.ext) (c:=2) (by omega)).lies aI aC)) (eL rfl (fun hb u m=>bJ rfl ((m.b 1 rfl).full aI aC)) (dJ rfl (fun hb=>cV (bW hb rfl) (bW hb rfl)) (aK (eS rfl rfl rfl) (bZ ?_))));clear m;intro u m;refine k16 _ _ ?_;simp only[zz];refine jO rfl (fun hc3=>?_) (fun hc3=>?_)
    ·
     have hf:=uN ((qD ht hb0).trans (akw hq0 (Ev.1 hc3)));refine aD fun K17 k17=>wp_region_lit (aA (aB) (aA (aB) (aA (aB) (aA (aU (m:=1) (n:=2) (r:=3) rfl rfl (by decide)) ?_))));simp only[zz];refine aA (gD (m:=3) (n:=3) (r:=0) rfl rfl (by decide) (by decide)) ?_;simp only[zz];refine aA (aN bQ aR rfl rfl (by omega) (by omega) (dC (Int.toNat_natCast _))) (aA (aH bD aC rfl rfl (by decide) (by decide) rfl) ?_);simp only[zz];refine aJ rfl ((mP.cor (hrow.ext m.ext) (c:=0) (by omega)).lies aI aC) ?_;simp only[zz];refine aT m 0 rfl rfl rfl aC (cU rfl) rfl ?_;clear m;intro u m;simp only[zy,zx,bB,zF,zG,Nat.reduceAdd] at m;refine aA (aG) (aF (k17 _ _ ?_));refine wp_ret ?_;simp only[zz];try simp only[Exit.inBlock,Exit.then,if_true]
     refine uA rfl ⟨_,rfl,((m.b 0 rfl).full aI aC)⟩ rfl ?_;try simp only[zD,zE]
     exact ⟨_,rfl,m.ext,by rw [hf];rfl⟩
    ·
     have hq1:=Ta hc3;refine wp_skip (k15 _ _ ?_);refine wp_region_lit (aA (aB) (aA (aU (m:=1) (n:=1) (r:=2) rfl rfl (by decide)) (aA (aG) (aF (aQ (aD fun K18 k18=>aD fun K19 k19=>wp_region_lit (aA (aB) ?_)))))));simp only[zz];refine aA (bF (m:=2) (n:=3) rfl rfl (by decide)) (aF (k19 _ _ ?_));refine bK rfl (wp_skip (k18 _ _ ?_));refine aD fun K20 k20=>wp_block (aD fun K21 k21=>?_);simp only[zz];refine mq m aM (by kernel_rfl) (aK (aB) (aK (aB) (aK (aB) ?_)));simp only[zz];refine aK (aN bQ aR rfl rfl (by omega) (by omega) (dC (Int.toNat_natCast _))) (aK (aH bD aC rfl rfl (by decide) (by decide) rfl) ?_);simp only[zz];refine ql rfl (fun u m=>((mP.cor (hrow.ext m.ext) (c:=2) (by omega)).lies aI aC)) ?_;simp only[zz];refine ql rfl (fun u m=>((m.b 2 rfl).full aI aC)) ?_;simp only[zz];refine aK (cV rfl rfl) (aK (aB) (dJ rfl (fun hb=>aB) (dJ rfl (fun hb=>aB) ?_)));simp only[zz];refine dJ rfl (fun hb=>aB) (dJ rfl (fun hb=>aU (m:=2) (n:=1) (r:=3) (bW hb rfl) rfl (by decide)) (dJ rfl (fun hb=>gD (m:=3) (n:=3) (r:=0) (bW hb rfl) rfl (by decide) (by decide)) ?_));simp only[zz];refine dJ rfl (fun hb=>aN bQ aR (bW hb rfl) (bW hb rfl) (by omega) (by omega) (dC (Int.toNat_natCast _))) (dJ rfl (fun hb=>aH bD aC (bW hb rfl) (bW hb rfl) (by decide) (by decide) rfl) ?_);simp only[zz];refine eL rfl (fun hb u m=>bJ (bW hb rfl) ((mP.cor (hrow.ext m.ext) (c:=0) (by omega)).lies aI aC)) (eL rfl (fun hb u m=>bJ rfl ((m.b 1 rfl).full aI aC)) (dJ rfl (fun hb=>cV (bW hb rfl) (bW hb rfl)) (aK (eS rfl rfl rfl) (bZ ?_))));clear m;intro u m;refine k21 _ _ ?_;simp only[zz];refine jO rfl (fun hc3=>?_) (fun hc3=>?_)
     ·
      have hf:=uN ((qD ht hb0).trans (akx hq0 hq1 (Ev.1 hc3)));refine aD fun K22 k22=>wp_region_lit (aA (aB) (aA (aB) (aA (aB) (aA (aU (m:=2) (n:=2) (r:=4) rfl rfl (by decide)) ?_))));simp only[zz];refine aA (gD (m:=4) (n:=3) (r:=1) rfl rfl (by decide) (by decide)) ?_;simp only[zz];refine aA (aN bQ aR rfl rfl (by omega) (by omega) (dC (Int.toNat_natCast _))) (aA (aH bD aC rfl rfl (by decide) (by decide) rfl) ?_);simp only[zz];refine aJ rfl ((mP.cor (hrow.ext m.ext) (c:=1) (by omega)).lies aI aC) ?_;simp only[zz];refine aT m 0 rfl rfl rfl aC (cU rfl) rfl ?_;clear m;intro u m;simp only[zy,zx,bB,zF,zG,Nat.reduceAdd] at m;refine aA (aG) (aF (k22 _ _ ?_));refine wp_ret ?_;simp only[zz];try simp only[Exit.inBlock,Exit.then,if_true]
      refine uA rfl ⟨_,rfl,((m.b 0 rfl).full aI aC)⟩ rfl ?_;try simp only[zD,zE]
      exact ⟨_,rfl,m.ext,by rw [hf];rfl⟩
     ·
      have hq2:=Ta hc3;refine wp_skip (k20 _ _ ?_);refine wp_region_lit (aA (aB) (aA (aU (m:=2) (n:=1) (r:=3) rfl rfl (by decide)) (aA (aG) (aF (aQ (aD fun K23 k23=>aD fun K24 k24=>wp_region_lit (aA (aB) ?_)))))));simp only[zz];refine aA (dM (m:=3) (n:=3) rfl rfl (by decide)) (aF (k24 _ _ ?_));refine gA rfl (wp_exit (k6 _ _ ?_));refine wp_region_lit (aA (aB) ?_);simp only[zz];refine aA (aU rfl rfl (aV (by omega) (by omega))) (aA (aG) (aF ?_));simp only[zz];simp only[Exit.inBlock,Exit.then];refine ⟨N - (k + 1),_,?_,rfl,?_,?_⟩
      · omega
      · simp only[zz,zv]
      ·
       simp only[zQ,zR,zD,zE];exact ⟨k + 1,rfl,m,(qD ht hb0).trans (aky hq0 hq1 hq2),by omega,rfl⟩
  ·
   have hkN : k = N:=by omega
   rw [hkN,show ts.take N = ts from List.take_of_length_le (by rw [hT.len];exact Nat.le_refl _)] at hb0;refine wp_exit (k2 _ _ ?_);refine aD fun K25 k25=>wp_region_lit (aJ rfl ((m.b 2 rfl).full aI aC) ?_);simp only[zz];refine aT m 0 rfl rfl rfl aC (cU rfl) rfl ?_;clear m;intro u m;simp only[zy,zx,bB,zF,zG,Nat.reduceAdd] at m;refine aA (aG) (aF (k25 _ _ ?_));refine wp_ret ?_;simp only[zz];try simp only[Exit.inBlock,Exit.then,if_true]
   refine uA rfl ⟨_,rfl,((m.b 0 rfl).full aI aC)⟩ rfl ?_;try simp only[zD,zE]
   exact ⟨_,rfl,m.ext,by rw [hb0];rfl⟩
theorem Zb {ts : List T3} {N cap : Nat} {A : Option Addr} {p : P3} (w : World) (hT : bY w A N ts) (hN : N ≤ 100000000) : eG prog 135 [.slice A N cap,pt p] w (fun v _=>v = .bool (yZ ts p)):=by
 refine ⟨agf,?_⟩;have m:=Mem.refl w
 go_enter func135,ntmps135
 refine aD fun K1 k1=>wp_region_lit (cB m rfl ?_);clear m;intro g1 u m;refine aA (aG) (aF (k1 _ _ ?_));refine aD fun K2 k2=>wp_region_lit (aA (aG) ?_);replace m:=m.nilO 39 9;refine aF (k2 _ _ ?_);refine aD fun K3 k3=>wp_region_lit (aA (aG) ?_);simp only[zz];replace m:=m.nilO 30 3;refine aF (k3 _ _ ?_);refine aD fun K4 k4=>aD fun K5 k5=>wp_region_lit (aA (aG) (aF (k5 _ _ ?_)));refine wp_block ?_;simp only[zz];try simp only[Nat.zero_add,Nat.reduceAdd,Nat.reduceMul,Int.reduceToNat]
 refine bT [5,6,7] [8,14,15,16,17,18,19,20,21,22,23,24,25,26,27,28,29,30,31,32,33,34,35,36,37,38,39,40,41,42,43,44,45,46,47,48,49] (fun n vs wl=>∃ (k n5 n6 cap5 cap6 : Nat) (A5 A6 : Option Addr),vs = [.slice A5 n5 cap5,.slice A6 n6 cap6,.int .i64 (k:Int)] ∧ Mem w wl [oI 30 3 A6 n6 cap6 ((pJ (ts.take k) p).flatMap mW),oI 39 9 A5 n5 cap5 ((kR (ts.take k) p).flatMap aW),bI g1 (mW p) 30] ∧ (n5 ≤ k * 3) ∧ (n6 ≤ k * 3) ∧ (k ≤ N) ∧ (n = N - k)) ?_ ?_
 ·
  apply Exists.intro;simp only[zQ,zR,zD,zE];exact ⟨0,_,_,_,_,_,_,rfl,m,Nat.le_refl _,Nat.le_refl _,Nat.zero_le _,rfl⟩
 ·
  intro n vs wr hI u;clear m;obtain ⟨k,n5,n6,cap5,cap6,A5,A6,rfl,m,hl5,hl6,hk,hn⟩:=hI;simp only[zu,zF,zG];refine aD fun K6 k6=>aD fun K7 k7=>wp_region_lit (aA (aB) (aA (aB) (aA (bH rfl bQ rfl) (aA (cW rfl rfl) ?_))));simp only[zz];refine aF (k7 _ _ ?_);refine cG rfl (fun hc1=>?_) (fun hc1=>?_)
  ·
   obtain ⟨t,ht,_,a,rfl,hrow⟩:=hT.get (i:=k) (by omega);refine wp_skip (k6 _ _ ?_);refine aD fun K8 k8=>wp_block (aD fun K9 k9=>wp_region_lit (aA (aG) (aF (k9 _ _ ?_))));refine wp_block ?_;simp only[zz];try simp only[Nat.zero_add,Nat.reduceAdd,Nat.reduceMul,Int.reduceToNat]
   refine bT [5,6,8] [20,21,22,23,24,25,26,27,28,29,30,31,32,33,34,35,36,37,38,39,40,41,42,43,44,45,46,47,48,49] (fun n vs wl=>∃ (c n5 n6 cap5 cap6 : Nat) (A5 A6 : Option Addr),vs = [.slice A5 n5 cap5,.slice A6 n6 cap6,.int .i64 (c:Int)] ∧ Mem w wl [oI 30 3 A6 n6 cap6 ((qX ts p (k) t (c)).flatMap mW),oI 39 9 A5 n5 cap5 ((wZ ts p (k) t (c)).flatMap aW),bI g1 (mW p) 30] ∧ (n5 ≤ k * 3 + c) ∧ (n6 ≤ k * 3 + c) ∧ (c ≤ 3) ∧ (n = 3 - c)) ?_ ?_
   ·
    rw [← adM (t:=t),← aaY (t:=t)] at m;apply Exists.intro;simp only[zQ,zR,zD,zE];exact ⟨0,_,_,_,_,_,_,rfl,m,hl5,hl6,Nat.zero_le _,rfl⟩
   ·
    intro n vs wr hI u;clear m;obtain ⟨c,n5,n6,cap5,cap6,A5,A6,rfl,m,hl5,hl6,hc,hn2⟩:=hI;simp only[zu,zF,zG];refine aD fun K10 k10=>aD fun K11 k11=>wp_region_lit (aA (aB) (aA (cW rfl rfl) (aF (k11 _ _ ?_))));simp only[zz];refine cG rfl (fun hc2=>?_) (fun hc2=>?_)
    ·
     have hc3 : c < 3:=by omega
     refine wp_skip (k10 _ _ ?_);refine aD fun K12 k12=>wp_block (aD fun K13 k13=>mq m aM (by kernel_rfl) (aK (aB) (aK (aB) (aK (aB) ?_))));simp only[zz];refine aK (aN bQ aR rfl rfl (by omega) (by omega) (dC (Int.toNat_natCast _))) ?_;simp only[zz];refine aK (aH bD aC rfl rfl (by omega) (by omega) (dC (Int.toNat_natCast _))) ?_;simp only[zz];refine ql rfl (fun u m=>((mP.cor (hrow.ext m.ext) (c:=c) (by omega)).lies aI aC)) ?_;simp only[zz];refine ql rfl (fun u m=>((m.b 2 rfl).full aI aC)) ?_;simp only[zz];refine aK (cV rfl rfl) (bZ ?_);clear m;intro u m;refine k13 _ _ ?_;simp only[zz];refine cG rfl (fun hc3=>?_) (fun hc3=>?_)
     ·
      have hcp : t.cor c = p:=P3.eq hc3.1 hc3.2.1 hc3.2.2;refine aD fun K14 k14=>wp_region_lit (aA (aB) (aA (aB) (aA (aB) ?_)));simp only[zz];refine aA (aN bQ aR rfl rfl (by omega) (by omega) (dC (Int.toNat_natCast _))) ?_;simp only[zz];refine aJ rfl ((hrow.ext m.ext).lies bR aR) ?_;simp only[zz];refine eT rfl ?_;intro u g2 e hg hB;replace m:=m.newB e hg hB;clear e hg hB;simp only[zz];refine dD m 2 rfl rfl bQ iK rfl (by decide) rfl rfl rfl (m.b 0 rfl).rowsO (jZ rfl) (by omega) (by omega) ?_;clear m;intro A5 cap5 u m;simp only[zF,zG] at m;refine aA (aG) (aF (k14 _ _ ?_));refine wp_region_lit (aA (aB) (aA (aB) ?_));simp only[zz];refine aA (aB) (aA (aB) ?_);simp only[zz];refine aA (aU rfl rfl (aV (by omega) (by omega))) ?_;simp only[zz];refine aA (gD rfl rfl (by omega) (aiN (k:=c + 1))) ?_;simp only[zz];refine aA (aN bQ aR rfl rfl (by omega) (by omega) (dC (Int.toNat_natCast _))) ?_;simp only[zz];refine aA (aH bD aC rfl rfl (by omega) (by omega) (dC (Int.toNat_natCast _))) ?_;simp only[zz];refine aJ rfl ((mP.cor (hrow.ext m.ext) (c:=(c + 1) % 3) (by omega)).lies aI aC) ?_;simp only[zz];refine mJ rfl ?_;intro u g3 e hg hB;replace m:=m.newB e hg hB;clear e hg hB;simp only[zz];refine dD m 2 rfl rfl dS nJ rfl (by decide) rfl rfl rfl (m.b 0 rfl).rowsO (jZ rfl) (by omega) (by omega) ?_;clear m;intro A6 cap6 u m;simp only[zF,zG] at m;refine aA (aG) (aF (k12 _ _ ?_));refine wp_region_lit (aA (aB) ?_);simp only[zz];refine aA (aU rfl rfl (aV (by omega) (by omega))) (aA (aG) (aF ?_));simp only[zz];simp only[Exit.inBlock,Exit.then];refine ⟨3 - (c + 1),_,?_,rfl,?_,?_⟩
      · omega
      · simp only[zz,zv]
      ·
       simp only[zQ,zR,zD,zE];exact ⟨c + 1,_,_,_,_,_,_,rfl,(((m.reO 3 rfl ((m.o 3 rfl).as (by rw [Yj hcp,List.flatMap_append];rfl))).reO 2 rfl ((m.o 2 rfl).as (by rw [Sz hcp,List.flatMap_append];rfl))).sel [false,false,true,true,true]),by omega,by omega,by omega,rfl⟩
     ·
      have hcp : ¬ t.cor c = p:=fun h=>hc3 (by rw [h];exact ⟨rfl,rfl,rfl⟩);refine wp_skip (k12 _ _ ?_);refine wp_region_lit (aA (aB) ?_);simp only[zz];refine aA (aU rfl rfl (aV (by omega) (by omega))) (aA (aG) (aF ?_));simp only[zz];simp only[Exit.inBlock,Exit.then];refine ⟨3 - (c + 1),_,?_,rfl,?_,?_⟩
      · omega
      · simp only[zz,zv]
      ·
       simp only[zQ,zR,zD,zE];exact ⟨c + 1,_,_,_,_,_,_,rfl,((m.reO 1 rfl ((m.o 1 rfl).as (by rw [aaX hcp]))).reO 0 rfl ((m.o 0 rfl).as (by rw [Yk hcp]))),by omega,by omega,by omega,rfl⟩
    ·
     obtain rfl : c = 3:=by omega
     rw [adN ht,aaZ ht] at m;refine wp_exit (k8 _ _ ?_);refine wp_region_lit (aA (aB) ?_);simp only[zz];refine aA (aU rfl rfl (aV (by omega) (by omega))) (aA (aG) (aF ?_));simp only[zz];simp only[Exit.inBlock,Exit.then];refine ⟨N - (k + 1),_,?_,rfl,?_,?_⟩
     · omega
     · simp only[zz,zv]
     ·
      simp only[zQ,zR,zD,zE];exact ⟨k + 1,_,_,_,_,_,_,rfl,m,by omega,by omega,by omega,rfl⟩
  ·
   have hkN : k = N:=by omega
   rw [hkN,show ts.take N = ts from List.take_of_length_le (by rw [hT.len];exact Nat.le_refl _)] at m;obtain ⟨M,hM⟩ : ∃ M,M = kR ts p:=⟨_,rfl⟩
   obtain ⟨S,hS⟩ : ∃ S,S = pJ ts p:=⟨_,rfl⟩
   rw [← hM,← hS] at m;have h5 : M.length = n5:=(m.o 1 rfl).num afN (by decide);have h6 : S.length = n6:=(m.o 0 rfl).num El (by decide);have hle6:=(m.o 0 rfl).le;have hP : yZ ts p = S.any (fun s=>kS M p s (M.length - 1) s):=by rw [hM,hS];rfl
   clear hM hS;refine wp_exit (k4 _ _ ?_);refine aD fun K15 k15=>aD fun K16 k16=>wp_region_lit (aA (aG) (aF (k16 _ _ ?_)));refine wp_block ?_;simp only[zz];try simp only[Nat.zero_add,Nat.reduceAdd,Nat.reduceMul,Int.reduceToNat]
   refine bT [9] [4,10,11,12,13,50,51,52,53,54,55,56,57,58,59,60,61,62,63,64,65,66,67,68,69,70,71,72,73,74,75,76,77,78,79,80,81] (fun n vs wl=>∃ (k2 : Nat),vs = [.int .i64 (k2:Int)] ∧ Mem w wl [oI 30 3 A6 n6 cap6 ((S).flatMap mW),oI 39 9 A5 n5 cap5 ((M).flatMap aW),bI g1 (mW p) 30] ∧ ((S.take k2).any (fun s=>kS M p s (M.length - 1) s) = false) ∧ (k2 ≤ n6) ∧ (n = n6 - k2)) ?_ ?_
   ·
    apply Exists.intro;simp only[zQ,zR,zD,zE];exact ⟨0,rfl,m,rfl,Nat.zero_le _,rfl⟩
   ·
    intro n vs wr hI u;clear m;obtain ⟨k2,rfl,m,hno,hk2,hn3⟩:=hI;simp only[zu,zF,zG];refine aD fun K17 k17=>aD fun K18 k18=>wp_region_lit (aA (aB) (aA (aB) (aA (bH rfl dS rfl) (aA (cW rfl rfl) ?_))));simp only[zz];refine aF (k18 _ _ ?_);refine cG rfl (fun hc4=>?_) (fun hc4=>?_)
    ·
     obtain ⟨sx,hsx⟩ : ∃ sx,S[k2]? = some sx:=⟨_,List.getElem?_eq_getElem (by omega)⟩
     obtain ⟨gO,rfl⟩:=(m.o 0 rfl).some (by omega);refine wp_skip (k17 _ _ ?_);refine aD fun K19 k19=>wp_block (aD fun K20 k20=>wp_region_lit (aA (aB) (aA (aB) ?_)));simp only[zz];refine aA (aN dS aC rfl rfl (by omega) (by omega) (dC (Int.toNat_natCast _))) ?_;simp only[zz];refine aJ rfl (((m.o 0 rfl).at El hsx).lies aI aC) ?_;simp only[zz];refine bA m bO rfl ?_;clear m;intro g2 u m;simp only[zz];refine aT m 0 rfl rfl rfl aC (cU rfl) rfl ?_;clear m;intro u m;simp only[zy,zx,bB,zF,zG,Nat.reduceAdd] at m;refine aF (k20 _ _ ?_);refine aD fun K21 k21=>wp_region_lit (aA (aG) (aF (k21 _ _ ?_)));refine wp_block ?_;simp only[zz];try simp only[Nat.zero_add,Nat.reduceAdd,Nat.reduceMul,Int.reduceToNat]
     refine bT [11] [4,12,13,60,61,62,63,64,65,66,67,68,69,70,71,72,73,74,75,76,77,78,79,80,81] (fun n vs wl=>∃ (j : Nat) (x : P3),vs = [.int .i64 (j:Int)] ∧ Mem w wl [bI g2 (mW x) 30,oI 30 3 (some ⟨gO,0,none⟩) n6 cap6 (S.flatMap mW),oI 39 9 A5 n5 cap5 ((M).flatMap aW),bI g1 (mW p) 30] ∧ (kS M p sx (M.length - 1) sx = kS M p sx (M.length - j) x) ∧ (1 ≤ j) ∧ (j ≤ n5 + 1) ∧ (n = n5 + 1 - j)) ?_ ?_
     ·
      apply Exists.intro;simp only[zQ,zR,zD,zE];exact ⟨1,sx,rfl,m,rfl,Nat.le_refl _,by omega,rfl⟩
     ·
      intro n vs wr hI u;clear m;obtain ⟨j,x,rfl,m,hrg,hj,hj2,hn4⟩:=hI;simp only[zu,zF,zG];refine aD fun K22 k22=>aD fun K23 k23=>wp_region_lit (aA (aB) (aA (aB) (aA (bH rfl bQ rfl) (aA (cW rfl rfl) ?_))));simp only[zz];refine aF (k23 _ _ ?_);refine cG rfl (fun hc5=>?_) (fun hc5=>?_)
      ·
       obtain ⟨f,hf⟩ : ∃ f,M.length - j = f + 1:=⟨M.length - j - 1,by omega⟩
       rw [hf] at hrg;refine wp_skip (k22 _ _ ?_);refine aD fun K24 k24=>wp_block (aD fun K25 k25=>wp_region_lit (aA (aB) ?_));simp only[zz];refine aJ rfl ((m.b 3 rfl).full aI aC) ?_;simp only[zz];refine aJ rfl ((m.b 0 rfl).full aI aC) ?_;simp only[zz];refine eE m rfl rfl (abo (p:=p) (q:=x) _ ((m.o 2 rfl).lat afN (by decide)) (by omega)) ?_;clear m;rintro v u m rfl;refine aA (aB) (aA (bC rfl rfl) (aA (bC rfl rfl) ?_));simp only[zz];refine bA m bO rfl ?_;clear m;intro g3 u m;simp only[zz];refine aT m 0 rfl rfl rfl aC (cU rfl) rfl ?_;clear m;intro u m;simp only[zy,zx,bB,zF,zG,Nat.reduceAdd] at m;refine aA (aG) (aF (k25 _ _ ?_));refine aD fun K26 k26=>aD fun K27 k27=>wp_region_lit (aA (aB) (aA (fR rfl) (aF (k27 _ _ ?_))));simp only[zz];refine jO rfl (fun hc6=>?_) (fun hc6=>?_)
       ·
        have hbn : bX M p x = none:=by cases hb : bX M p x with | none=>rfl | some y=>rw [hb] at hc6;cases hc6
        have hz : kS M p sx (M.length - 1) sx = false:=by rw [hrg,Kf hbn]
        have hno2 : (S.take (k2 + 1)).any (fun s=>kS M p s (M.length - 1) s) = false:=by rw [rR hsx,hno,hz];rfl
        refine wp_exit (k19 _ _ ?_);refine wp_region_lit (aA (aB) ?_);simp only[zz];refine aA (aU rfl rfl (aV (by omega) (by omega))) (aA (aG) (aF ?_));simp only[zz];simp only[Exit.inBlock,Exit.then];refine ⟨n6 - (k2 + 1),_,?_,rfl,?_,?_⟩
        · omega
        · simp only[zz,zv]
        ·
         simp only[zQ,zR,zD,zE];exact ⟨k2 + 1,rfl,(m.sel [false,false,true,true,true]),hno2,by omega,rfl⟩
       ·
        obtain ⟨y,hy⟩ : ∃ y,bX M p x = some y:=by cases hb : bX M p x with | none=>rw [hb] at hc6;cases hc6 | some y=>exact ⟨y,rfl⟩
        rw [hy] at m;simp only[Option.getD_some] at m;refine wp_skip (k26 _ _ ?_);refine aD fun K28 k28=>wp_region_lit (aJ rfl ((m.b 0 rfl).full aI aC) ?_);simp only[zz];refine aT m 1 rfl rfl rfl aC (cU rfl) rfl ?_;clear m;intro u m;simp only[zy,zx,bB,zF,zG,Nat.reduceAdd] at m;refine aF (k28 _ _ ?_);refine aD fun K29 k29=>mq m aM (by kernel_rfl) (ql rfl (fun u m=>((m.b 1 rfl).full aI aC)) ?_);simp only[zz];refine aK (aB) (aK (aB) ?_);simp only[zz];refine aK (aN dS aC rfl rfl (by omega) (by omega) (dC (Int.toNat_natCast _))) ?_;simp only[zz];refine ql rfl (fun u m=>(((m.o 2 rfl).at El hsx).lies aI aC)) ?_;simp only[zz];refine aK (cV rfl rfl) (bZ ?_);clear m;intro u m;refine k29 _ _ ?_;simp only[zz];refine cG rfl (fun hc7=>?_) (fun hc7=>?_)
        ·
         have hys : y = sx:=P3.eq hc7.1 hc7.2.1 hc7.2.2;have hz : S.any (fun s=>kS M p s (M.length - 1) s) = true:=zW hsx (by show kS M p sx (M.length - 1) sx = true;rw [hrg];exact Pd (by rw [hy,hys]));refine aD fun K30 k30=>wp_region_lit (aA (aG) (aF (k30 _ _ ?_)));refine wp_ret ?_;simp only[zz];try simp only[Exit.inBlock,Exit.then,if_true]
         refine bE rfl rfl ?_;try simp only[zD,zE]
         exact ⟨_,rfl,m.ext,by rw [hP,hz]⟩
        ·
         have hys : ¬ y = sx:=fun h=>hc7 (by rw [h];exact ⟨rfl,rfl,rfl⟩);refine wp_skip (k24 _ _ ?_);refine wp_region_lit (aA (aB) ?_);simp only[zz];refine aA (aU rfl rfl (aV (by omega) (by omega))) (aA (aG) (aF ?_));simp only[zz];simp only[Exit.inBlock,Exit.then];refine ⟨n5 + 1 - (j + 1),_,?_,rfl,?_,?_⟩
         · omega
         · simp only[zz,zv]
         ·
          simp only[zQ,zR,zD,zE];exact ⟨j + 1,y,rfl,(m.sel [false,true,true,true,true]),by rw [hrg,Kg hy hys,show M.length - (j + 1) = f by omega],by omega,by omega,rfl⟩
      ·
       have hz : kS M p sx (M.length - 1) sx = false:=by rw [hrg,show M.length - j = 0 by omega];rfl
       have hno2 : (S.take (k2 + 1)).any (fun s=>kS M p s (M.length - 1) s) = false:=by rw [rR hsx,hno,hz];rfl
       refine wp_exit (k19 _ _ ?_);refine wp_region_lit (aA (aB) ?_);simp only[zz];refine aA (aU rfl rfl (aV (by omega) (by omega))) (aA (aG) (aF ?_));simp only[zz];simp only[Exit.inBlock,Exit.then];refine ⟨n6 - (k2 + 1),_,?_,rfl,?_,?_⟩
       · omega
       · simp only[zz,zv]
       ·
        simp only[zQ,zR,zD,zE];exact ⟨k2 + 1,rfl,(m.sel [false,true,true,true]),hno2,by omega,rfl⟩
    ·
     have hk2 : k2 = S.length:=by omega
     rw [hk2,List.take_length] at hno;refine wp_exit (k15 _ _ ?_);refine aD fun K31 k31=>wp_region_lit (aA (aG) (aF (k31 _ _ ?_)));refine wp_ret ?_;simp only[zz];try simp only[Exit.inBlock,Exit.then,if_true]
     refine bE rfl rfl ?_;try simp only[zD,zE]
     exact ⟨_,rfl,m.ext,by rw [hP,hno]⟩
end Go.Proofs.YtfekpcimgncioaaGreatDoor
namespace Go.Lith
open Go.RowKit Go.Proofs Go.Sort Go.Shelf
theorem abp {α : Type} {enc : α → List Value} {k : Nat} (hk : ∀ x,(enc x).length = k) (h0 : 0 < k) : ∀ (L : List α) (t : Nat),(L.flatMap enc)[t]? = (L[t / k]?).bind fun x=>(enc x)[t % k]?
 | [],t=>by simp
 | x :: L,t=>by
  rw [List.flatMap_cons,List.getElem?_append];by_cases h : t < k
  · rw [if_pos (by rw [hk];exact h),Nat.div_eq_of_lt h,Nat.mod_eq_of_lt h]
    rfl
  · rw [if_neg (by rw [hk];exact h),hk,abp hk h0 L (t - k)]
    have e1 : t / k = (t - k) / k + 1:=by rw [Nat.div_eq t k,if_pos ⟨h0,Nat.le_of_not_lt h⟩]
    have e2 : t % k = (t - k) % k:=Nat.mod_eq_sub_mod (Nat.le_of_not_lt h);rw [e1,e2,List.getElem?_cons_succ]
theorem sS {α : Type} [Inhabited α] {enc : α → List Value} {k : Nat} (hk : ∀ x,(enc x).length = k) (h0 : 0 < k) (L : List α) : (flatK enc k L.toArray).toList = L.flatMap enc:=by
 have hlen : (L.flatMap enc).length = L.length * k:=by
  induction L with
  | nil=>simp
  | cons x L ih=>rw [List.flatMap_cons,List.length_append,ih,hk,List.length_cons,Nat.add_mul];omega
 apply List.ext_getElem?;intro t;by_cases ht : t < L.length * k
 · have hd : t / k < L.length:=by
    rw [Nat.div_lt_iff_lt_mul h0];exact ht
   have hm : t % k < k:=Nat.mod_lt _ h0;have h1:=get_flatK enc k L.toArray t (by simpa using ht);rw [getElem!_pos _ t (by simpa using ht)] at h1;rw [abp hk h0,List.getElem?_eq_getElem hd,Option.bind_some,Array.getElem?_toList,Array.getElem?_eq_getElem (by simpa using ht),h1,List.getElem?_eq_getElem (show t % k < (enc L[t / k]).length by rw [hk];exact hm)]
   congr 1
   rw [getElem!_pos L.toArray _ (by simpa using hd),List.getElem_toArray,getElem!_pos _ _ (by rw [hk];exact hm)]
 · rw [List.getElem?_eq_none (by simpa using Nat.le_of_not_lt ht),List.getElem?_eq_none (by rw [hlen];exact Nat.le_of_not_lt ht)]
section
variable {α : Type} [Inhabited α] {P : Program} {ρ : Ren} {enc : α → List Value} {c : Nat} {E : TypeId} {w w0 : World} {is : List It} {A : Option Addr} {n cap : Nat}
theorem Zc {g : Nat} {xs : List α} {cur : Array Value} (hk : ∀ x,(enc x).length = c) (h0 : 0 < c) (hg : w.heap[g]? = some (.cells cur E (0,0))) (h : cur.toList.take (xs.length * c) = xs.flatMap enc) : HoldsK enc c w g 0 xs.toArray:=by
 intro j hj;have hl:=sS hk h0 xs;have hj' : j < xs.length * c:=by simpa using hj
 have e : (flatK enc c xs.toArray)[j]? = cur[j]?:=by
  rw [← Array.getElem?_toList,hl,← h,List.getElem?_take,if_pos hj',Array.getElem?_toList]
 rw [Array.getElem?_eq_getElem hj] at e;refine ⟨?_,?_⟩
 · simp only[World.cell?,hg,Nat.zero_add,Option.isSome_none,Bool.false_eq_true,if_false]
   rw [← e,getElem!_pos _ j hj];rfl
 · simp [World.frozen?,hg]
theorem Ji {g : Nat} {xs ys : List α} {cur : Array Value} {q : Nat} {os : Array Obj} (hk : ∀ x,(enc x).length = c) (h0 : 0 < c) (hg : w.heap[g]? = some (.cells cur E (0,0))) (hl : xs.length * c ≤ cur.size) (hlen : ys.length = xs.length) :
 ∃ cur' : Array Value,(sortWorldK enc c w g 0 q ys.toArray os).heap[g]? = some (.cells cur' E (0,0)) ∧ cur'.size = cur.size ∧ cur'.toList.take (xs.length * c) = ys.flatMap enc:=by
 have hlt : g < w.heap.size:=(Array.getElem?_eq_some_iff.1 hg).1;refine ⟨putCells id 0 (flatK enc c ys.toArray) cur,?_,by simp [putCells],?_⟩
 · unfold sortWorldK putRowK putRow mapBlock grow
   simp only;rw [Array.getElem?_append_left (by simpa [ahead] using hlt),Array.getElem?_modify];simp [ahead,hg,onCells]
 · have hf:=sS hk h0 ys
   apply List.ext_getElem?;intro t;rw [List.getElem?_take,← hf,Array.getElem?_toList,Array.getElem?_toList];have hs : (flatK enc c ys.toArray).size = xs.length * c:=by simp [hlen]
   split
   · rename_i ht
     have : t < cur.size:=Nat.lt_of_lt_of_le ht hl;simp only[putCells,Array.getElem?_mapIdx,Array.getElem?_eq_getElem this,Option.map_some,Nat.zero_le,Nat.zero_add,true_and,Nat.sub_zero,hs,ht,if_true];rw [Array.getElem?_eq_getElem (by rw [hs];exact ht),getElem!_pos _ t (by rw [hs];exact ht)];rfl
   · rename_i ht
     rw [Array.getElem?_eq_none (by rw [hs];exact Nat.le_of_not_lt ht)]
theorem uV (L : SlLaysF0.n6 P ρ) (aE : ∀ w,(isAgg (ρ.t 24)).run P w = .ok true w) (zE : ∀ w,(Go.sizeOf (ρ.t 24)).run P w = .ok c w) (hk : ∀ x,(enc x).length = c) (h0 : 0 < c) (h1 : ∀ x,∀ v ∈ enc x,v.oneCell' = true)
 (cf : α → α → Int) (hO : SWO (ltOf cf)) {f : FuncId} (hcmp : ∀ x y,nP P f [.agg (enc x).toArray,.agg (enc y).toArray] (.int .i64 (cf x y))) {xs : List α} (m : Mem w0 w is) (k : Nat) (hi : is[k]? = some (oI E c A n cap (xs.flatMap enc))) (hsz : n < 4611686018427387904) :
 Calls P (ρ.f 6) #[.slice A n cap,.func (.func f) #[] #[]] w fun e w'=>∃ v i,e = .returned v ∧ Mem w0 w' (is.set k i) ∧ (v = .tuple #[] ∧ ∃ ys : List α,i = oI E c A n cap (ys.flatMap enc) ∧ ys.Perm xs ∧ ys.Pairwise fun a b=>ltOf cf b a = false):=by
 have h : w.ownsRow 0 E c (.slice A n cap) n (xs.flatMap enc):=m.get k hi;have hlen : (xs.flatMap enc).length = xs.length * c:=by
  have:=sS hk h0 xs;rw [← this];simp
 have hn : xs.length = n:=by
  have:=h.1;rw [hlen] at this;exact Nat.eq_of_mul_eq_mul_right h0 this
 have hge:=fun b hb=>m.ge _ (List.mem_of_getElem? hi) b hb;rcases kQ h with ⟨rfl,rfl,rfl,hx⟩ | ⟨g,cur,rfl,_,hg,hcap,hmax,hcur,htake⟩
 · refine (AnyF.slices_SortFunc_none L none 0 _ w).mono ?_
   rintro e w' ⟨rfl,rfl⟩;obtain rfl : xs = []:=List.eq_nil_of_length_eq_zero hn;refine ⟨_,oI E c none 0 0 [],rfl,?_,rfl,[],rfl,List.Perm.refl _,.nil⟩;have : is.set k (oI E c none 0 0 []) = is:=by
    apply List.ext_getElem?;intro j;rw [List.getElem?_set];split
    · rename_i e;subst e
      have:=(List.getElem?_eq_some_iff.1 hi).1;rw [if_pos this,hi];rfl
    · rfl
   rw [this];exact m
 · have hlt : g < w.heap.size:=(Array.getElem?_eq_some_iff.1 hg).1
   rw [← hn] at htake;have hH:=Zc (xs:=xs) hk h0 hg htake;have hx:=AnyQ.slices_SortFunc L c aE zE enc hk h1 cf hO f #[] g 0 cap xs.toArray w (fun args w'=>nY (hcmp default default w').1) (fun mm os dk _ x y=>by
    have:=((hcmp x y (sortWorldK enc c w g 0 mm dk os)).2.mono fun e w' h=>(show e = .returned (.int .i64 (cf x y)) ∧ ∃ q os',w' = grow ((sortWorldK enc c w g 0 mm dk os).drewN q) os' from by obtain ⟨u,rfl,hX,rfl⟩:=h;exact ⟨rfl,hX.grow⟩))
    simpa using this) hH hlt (by simpa [hn] using hsz)
   have es : xs.toArray.size = n:=by simpa using hn
   rw [es] at hx;refine hx.mono ?_;rintro e w' ⟨rfl,d',q,os,hp,hs,rfl⟩;have hd : d'.size = n:=by rw [hp.1];exact es
   obtain ⟨ys,rfl⟩ : ∃ ys : List α,d' = ys.toArray:=⟨d'.toList,by simp⟩
   have hyl : ys.length = n:=by simpa using hd
   have hcs : xs.length * c ≤ cur.size:=by rw [hn,hcur];exact Nat.mul_le_mul_right _ hcap
   obtain ⟨cur',e1,e2,e3⟩:=Ji (q:=q) (os:=os) (ys:=ys) hk h0 hg hcs (by rw [hyl,hn]);refine ⟨_,oI E c (some ⟨g,0,none⟩) n cap (ys.flatMap enc),rfl,?_,rfl,ys,rfl,?_,?_⟩
   · refine m.put k hi rfl rfl rfl ?_ (fun b hb hne=>?_) ?_ (.inl fun _ h=>h)
     · simp [sortWorldK,putRowK,putRow,mapBlock,grow,ahead]
     · have hbg : g ≠ b:=fun e=>hne (by rw [e];rfl)
       unfold sortWorldK putRowK putRow mapBlock grow;simp only;rw [Array.getElem?_append_left (by simpa [ahead] using hb),Array.getElem?_modify,if_neg hbg];rfl
     · refine ⟨?_,.inr ⟨g,cap,cur',rfl,Nat.zero_le _,e1,hcap,hmax,by rw [e2,hcur],?_⟩⟩
       · have:=sS hk h0 ys
         rw [← this];simp [hyl]
       · rw [← hn];exact e3
   · have:=hp.2.2
     simpa [hyl,hn,List.take_of_length_le (Nat.le_of_eq hyl),List.take_of_length_le (Nat.le_of_eq hn),List.extract_eq_take_drop] using this
   · rw [List.pairwise_iff_getElem]
     intro i j hi' hj' hij;have:=hs i j (Nat.zero_le _) hij (by rw [← hyl];exact hj');rw [getElem!_pos _ i (by simpa using hi'),getElem!_pos _ j (by simpa using hj')] at this;simpa using this
end
end Go.Lith
namespace Go.Lith
open Go.RowKit Go.Sort
instance : Inhabited P3:=⟨⟨0,0,0⟩⟩
def eX (p : P3) : List Value:=[.int .i64 p.x,.int .i64 p.y,.int .i64 p.z]
theorem Du (p : P3) : ∀ v ∈ eX p,v.oneCell' = true:=fun v h=>by
 simp only[eX,List.mem_cons,List.not_mem_nil,or_false] at h;rcases h with rfl | rfl | rfl <;> rfl
theorem jB (p q : P3) : (mC p q < 0) ↔ p.Lt q:=by
 unfold mC;split
 · simp [*]
 · split <;> simp [*]
theorem Pv : SWO (Go.Proofs.ltOf mC) where
 irrefl x:=by simp [Go.Proofs.ltOf,jB,P3.lt_irrefl]
 trans x y z h1 h2:=by
  simp only[Go.Proofs.ltOf,decide_eq_true_eq,jB] at *
  exact P3.lt_trans h1 h2
 ntrans x y z h1 h2:=by
  simp only[Go.Proofs.ltOf,decide_eq_false_iff_not,jB] at *
  unfold P3.Lt at *
  omega
theorem kU.len {K V : Type} [DecidableEq K] {ek : K → Value} {en : V → Value} {D dn rs : List (K × V)} {es : Array MapEntry} {seen : Array Nat} (h : kU ek en D es seen dn rs) : dn.length + rs.length = D.length:=by
 have:=h.1.length_eq;simpa using this
theorem An {K V : Type} [DecidableEq K] {ek : K → Value} {en : V → Value} {D dn rs : List (K × V)} {es : Array MapEntry} {b : Bool} {kv vv : Value} {sn : Array Nat} (hb : b = false) (h : Nxt ek en D es dn rs b kv vv sn) : rs = []:=by
 rcases h with ⟨_,h⟩ | ⟨h,_⟩
 · exact h
 · rw [h] at hb;cases hb
theorem Aq {K V : Type} [DecidableEq K] {ek : K → Value} {en : V → Value} {D dn rs : List (K × V)} {es : Array MapEntry} {b : Bool} {kv vv : Value} {sn : Array Nat} (hb : b = true) (h : Nxt ek en D es dn rs b kv vv sn) :
 ∃ k v rs',rs.Perm ((k,v) :: rs') ∧ kU ek en D es sn (dn ++ [(k,v)]) rs':=by
 rcases h with ⟨h,_⟩ | ⟨_,k,v,rs',h1,_,_,h2⟩
 · rw [h] at hb;cases hb
 · exact ⟨k,v,rs',h1,h2⟩
def uW (D : List (P3 × Bool)) (ps : List P3) : List (P3 × Bool):=ps.foldl (fun D p=>eO D p true) D
theorem Pw {K V : Type} [DecidableEq K] (D : List (K × V)) (k a : K) (v : V) : a ∈ (eO D k v).map (·.1) ↔ a ∈ D.map (·.1) ∨ a = k:=by
 rw [rV];split
 · exact ⟨.inl,fun h=>h.elim id (fun e=>e ▸ ‹_›)⟩
 · simp
theorem Ko : ∀ (ps : List P3) (D : List (P3 × Bool)) (a : P3),a ∈ (uW D ps).map (·.1) ↔ a ∈ D.map (·.1) ∨ a ∈ ps
 | [],D,a=>by simp [uW]
 | p :: ps,D,a=>by
  have:=Ko ps (eO D p true) a;unfold uW at this ⊢;rw [List.foldl_cons,this,Pw,List.mem_cons,or_assoc]
theorem Dv : ∀ (ps : List P3) (D : List (P3 × Bool)),(D.map (·.1)).Nodup → ((uW D ps).map (·.1)).Nodup
 | [],_,h=>h
 | p :: ps,D,h=>Dv ps (eO D p true) (pM h p true)
theorem qI {K V : Type} [DecidableEq K] : ∀ (D : List (K × V)) (k : K) (v : V),(eO D k v).length ≤ D.length + 1
 | [],_,_=>by simp [eO]
 | x :: D,k,v=>by
  unfold eO;split
  · simp
  · simp only[List.length_cons]
    exact Nat.succ_le_succ (qI D k v)
theorem As : ∀ (ps : List P3) (D : List (P3 × Bool)),(uW D ps).length ≤ D.length + ps.length
 | [],D=>Nat.le_refl _
 | p :: ps,D=>Nat.le_trans (As ps (eO D p true)) (by
  have:=qI D p true;simp only[List.length_cons];omega)
theorem Zd (D : List (P3 × Bool)) (ps qs : List P3) : uW D (ps ++ qs) = uW (uW D ps) qs:=List.foldl_append ..
def dF (ts : List T3) : List P3:=ts.flatMap fun t=>[t.a,t.b,t.c]
def pO (ps : List P3) : Prop:=ps.Pairwise fun a b=>a.Lt b
theorem Ze {ps : List P3} (hn : ps.Nodup) (h : ps.Pairwise fun a b=>¬ b.Lt a) : pO ps:=by
 have:=hn.and h;exact this.imp fun {a b} h=>(P3.lt_tri a b).resolve_right (by rintro (e | e);exact h.1 e;exact h.2 e)
end Go.Lith
namespace Go.Lith
open Go.RowKit
theorem Zf {α : Type} {ps : List α} {k : Nat} {p : α} (h : ps[k]? = some p) : ps.take (k + 1) = ps.take k ++ [p]:=by
 rw [List.take_add_one,h];rfl
theorem Gu {ts : List T3} {k : Nat} {t : T3} (h : ts[k]? = some t) : dF (ts.take (k + 1)) = dF (ts.take k) ++ [t.a,t.b,t.c]:=by
 unfold dF;rw [Zf h,List.flatMap_append];simp
theorem Tu {ts : List T3} {k : Nat} {t : T3} (h : ts[k]? = some t) : uW [] (dF (ts.take (k + 1))) = eO (eO (eO (uW [] (dF (ts.take k))) t.a true) t.b true) t.c true:=by
 rw [Gu h,Zd];rfl
theorem oJ (ts : List T3) : (dF ts).length = ts.length * 3:=by
 unfold dF
 induction ts with
 | nil=>rfl
 | cons t ts ih=>rw [List.flatMap_cons,List.length_append,ih];simp only[List.length_cons,List.length_nil];omega
theorem abq {ps : List P3} : (ps.flatMap eX).length = ps.length * 3:=by
 induction ps with
 | nil=>rfl
 | cons p ps ih=>rw [List.flatMap_cons,List.length_append,ih,show (eX p).length = 3 from rfl,List.length_cons];omega
end Go.Lith
