/-
 Texts of one claim, laid together: Ext, Ops, Nat, Nat2, Ops2, Nat3, Upd, Nat4, Nat5, Nat6, Held, Eq, Nat7, Nat8, Ops3, Nat9, Nat10, Nat11, Nat12, Geo, Tree, Fresh, Fresh2, Ops4, Geo2, Geo3, Geo4, Geo5, Own, Al, Mem, Grow, Pts.
-/
import Derived.WalkKit
import Derived.StillTail
import Derived.Deep.Quiet
import Derived.BigQuiet
import Derived.Laws.Rows
import Derived.Laws.IdiomCopy
import Derived.Laws.CopyRow
import Derived.OrdersHeld
import Derived.Laws.StructEq
import Derived.ChangeKeysEq
import Derived.Laws.IdiomStrings
import Derived.Laws.BytesArg
import Derived.RangeFuncBox
import Derived.RangeFuncLeaves
import Derived.LoopN
import Derived.Sort.Grow
import Derived.Deep.Draws
set_option linter.unusedSimpArgs false
set_option linter.unusedVariables false
set_option linter.unusedSectionVars false
namespace Go.Lith
open Go.RowKit
def eB (w w' : World) : Prop:=Below w.heap.size w w'
theorem eB.refl (w : World) : eB w w:=Below.refl _ _
theorem eB.size {w w' : World} (h : eB w w') : w.heap.size ≤ w'.heap.size:=Below.size h
theorem eB.trans {a b c : World} (h : eB a b) (k : eB b c) : eB a c:=Below.trans h (Below.mono k h.size)
theorem eB.drawn {w w' : World} (h : eB w w') : eB w { w' with drawn:=w'.drawn + 1 }:=Below.drew h
theorem eB.alloc {w w' : World} (h : eB w w') (o : Obj) : eB w (w'.alloc o):=Below.alloc h h.size o
theorem eB.block {w w' : World} (h : eB w w') {k : Nat} {o : Obj} (hk : w.heap[k]? = some o) : w'.heap[k]? = some o :=
 (Below.block h k (Array.getElem?_eq_some_iff.1 hk).1).trans hk
theorem eB.cell {w w' : World} (h : eB w w') {p : Addr} {v : Value} (hp : w.cell? p = some v) : w'.cell? p = some v :=
 (Below.cell h (World.block_lt_of_cell? _ _ hp)).trans hp
section
variable {P : Program} {ops : Array Oper} {md : Region.Mode} {C : World → Prop}
def Bu (P : Program) (md : Region.Mode) (ops : Array Oper) (C : World → Prop) (n : Nat) (L : Array Bool → Act → Prop) : Nat → Array Bool → Act → Prop
 | 0,listed,a=>L listed a
 | f + 1,listed,a =>
  Region.ready md ops listed ≠ [] ∧ ∀ i ∈ Region.ready md ops listed,i < n ∧ qOp P ops C i (Bu P md ops C n L f (listed.setIfInBounds i true)) a
theorem oX {n g : Nat} {L : Array Bool → Act → Prop} {Q' : Exit → Act → World → Prop} (hL : ∀ listed a,L listed a → ∀ w,C w → wpAny P md ops Q' g listed a w) :
 ∀ (f : Nat) (listed : Array Bool) (a : Act) (w : World),C w → Bu P md ops C n L f listed a → wpAny P md ops Q' (f + g) listed a w
 | 0,listed,a,w,hw,h=>by rw [Nat.zero_add];exact hL _ _ h w hw
 | f + 1,listed,a,w,hw,h=>by
  rw [show f + 1 + g = (f + g) + 1 by omega];exact ⟨fun h0=>absurd h0 h.1,fun i hi=>wpOp_of_qOp hw (fun a' w' hw' h'=>oX hL f _ a' w' hw' h') (h.2 i hi).2⟩
theorem Lm {n i : Nat} {oi : Oper} {v : Value} {L : Array Bool → Act → Prop} (hi : ops[i]? = some oi) (hsel : ∀ (j : Nat) (o : Oper) cs b,ops[j]? = some o → o.op ≠ .select cs b)
 (hs : Region.sinkB md ops n = true) (hc : Region.chainB md ops n = true) (hn : n < ops.size) (hin : i < n)
 (hdone : ∀ listed a,L listed a → ∀ j ∈ Region.ready md ops listed,n ≤ j) :
 ∀ (f : Nat) (listed : Array Bool) (a : Act),HeadInv md ops n listed →
  (∀ j oj,ops[j]? = some oj → j ≠ i → listed.getD j true = false → (∀ e ∈ oj.after,Region.binds md e = true → e.on ≠ i) → oi.apart ops oj = true) →
  i ∈ Region.ready md ops listed → YieldsIn P ops C oi v a →
  Bu P md ops C n L f (listed.setIfInBounds i true) (a.put oi.dst v) → Bu P md ops C n L (f + 1) listed a:=by
 intro f
 induction f with
 | zero =>
  intro listed a inv _ hr hy H;have hun:=(mem_ready.1 hr).1;refine ⟨fun h=>(by rw [h] at hr;cases hr),fun j hj=>?_⟩;have hjn : j < n:=by
   rcases Nat.lt_or_ge j n with h | h
   · exact h
   · exact absurd hj (tail_waits hs hc hn inv _ i rfl hin hun j h)
  refine ⟨hjn,?_⟩;by_cases hji : j = i
  · subst hji;exact hy.qOp hi H
  · have:=hdone _ _ H j (ready_mono hj hji)
    omega
 | succ f ih =>
  intro listed a inv hfree hr hy H;have hun:=(mem_ready.1 hr).1;refine ⟨fun h=>(by rw [h] at hr;cases hr),fun j hj=>?_⟩;have hjn : j < n:=by
   rcases Nat.lt_or_ge j n with h | h
   · exact h
   · exact absurd hj (tail_waits hs hc hn inv _ i rfl hin hun j h)
  refine ⟨hjn,?_⟩;by_cases hji : j = i
  · subst hji;exact hy.qOp hi H
  · have h1:=(H.2 j (ready_mono hj hji)).2
    obtain ⟨hjun,oj,hoj,hall⟩:=mem_ready.1 hj;have hnot : ∀ e ∈ oj.after,Region.binds md e = true → e.on ≠ i:=fun e he hb heq=>by
     have h1:=hall e he hb;rw [heq,getD_both hun] at h1;cases h1
    have h2:=qOp_put hoj (hfree j oj hoj hji hjun hnot) (fun cs b=>hsel i oi cs b hi) (fun cs b=>hsel j oj cs b hoj) hy h1;have hfree' : ∀ k ok,ops[k]? = some ok → k ≠ i → (listed.setIfInBounds j true).getD k true = false →
     (∀ e ∈ ok.after,Region.binds md e = true → e.on ≠ i) → oi.apart ops ok = true:=fun k ok hk hki hun hno=>by
     refine hfree k ok hk hki ?_ hno;by_cases hjk : j = k
     · subst hjk;exact hjun
     · rw [getD_set_ne true hjk] at hun;exact hun
    refine qOp_mono (fun a' h3=>ih (listed.setIfInBounds j true) a' (inv.set hj hjn) hfree' (ready_mono hr (Ne.symm hji)) h3.1 ?_) h2;rw [Array.setIfInBounds_comm _ _ hji];exact h3.2
theorem sE {n g : Nat} {Lq : Act → Prop} (hsel : Region.noSelect ops = true) (hs : Region.sinkB md ops n = true) (hc : Region.chainB md ops n = true) (hn : n < ops.size) :
 ∀ (l : List Oper) (k : Nat) (listed : Array Bool) (a : Act),(∀ j,j < l.length → l[j]? = ops[k + j]?) → k + l.length = n → HeadInv md ops n listed →
 Region.lexHead md ops g l.length k listed = true → wpQuiet P ops C Lq l a →
 Bu P md ops C n (fun listed' a'=>Region.seqB md ops g n listed' = true ∧ Lq a') l.length listed a
 | [],k,listed,a,_,hk,_,hB,h=>by
  have : k = n:=by simpa using hk
  subst this;exact ⟨by simpa [Region.lexHead] using hB,h⟩
 | o :: l,k,listed,a,hl,hk,inv,hB,h=>by
  have h0 : ops[k]? = some o:=by simpa using (hl 0 (by simp)).symm
  simp only[List.length_cons,Region.lexHead,Bool.and_eq_true] at hB;obtain ⟨⟨hr,hf⟩,hB'⟩:=hB;have hkn : k < n:=by simp only[List.length_cons] at hk;omega
  have hr' : k ∈ Region.ready md ops listed:=by simpa using hr
  have hst : qOp P ops C k (wpQuiet P ops C Lq l) a:=by unfold qOp;simp only[h0];exact h
  obtain ⟨v,hy,hK⟩:=yieldsIn_of_qOp h0 hst;exact Lm h0 (Region.noSelect_spec hsel) hs hc hn hkn (fun listed' a' hL=>seqB_ready hL.1) l.length listed a inv (Region.free_spec h0 hf) hr' hy
   (sE hsel hs hc hn l (k + 1) _ _ (fun j hj=>by have:=hl (j + 1) (by simp;omega);simpa [Nat.add_assoc,Nat.add_comm 1 j] using this) (by simp only[List.length_cons] at hk;omega) (inv.set hr' hkn) hB' hK)
theorem jM {id : Nat} {Q : Exit → Act → World → Prop} {a : Act} {w : World} {l : List Oper} (n : Nat) (hm : P.follows .mixedOrders = true) (hB : Region.lexTailB .any l.toArray n = true)
 (hC : C { w with drawn:=w.drawn + 1 })
 (h : wpQuiet P l.toArray C (fun a'=>∀ w',C w' → wpList P l.toArray Q (l.drop n) a' w') (l.take n) a) : (Code.region id l.toArray true).wp P Q a w:=by
 simp only[Region.lexTailB,Bool.and_eq_true,decide_eq_true_eq] at hB;obtain ⟨⟨⟨⟨hsel,hn⟩,hs⟩,hc⟩,hlex⟩:=hB;have hn' : n < l.length:=by simpa using hn
 have htl : (l.take n).length = n:=by simp;omega
 have hdl : (l.drop n).length = l.toArray.size - n:=by simp
 have inv0 : HeadInv .any l.toArray n (Array.replicate l.toArray.size false) :=
  ⟨by simp,fun j oj _ hl=>(by rw [getD_replicate_false] at hl;cases hl),fun t _ ht=>getD_in (by simpa using ht) (getD_replicate_false _ _)⟩
 have H:=sE (md:=.any) (g:=l.toArray.size - n) hsel hs hc hn (l.take n) 0 _ a (fun j hj=>by
  have hj' : j < n:=by rw [htl] at hj;exact hj
  simp [hj']) (by simpa using htl) inv0 (by rw [htl];exact hlex) h
 refine wp_region_any hm ?_;have:=oX (Q':=Q) (g:=l.toArray.size - n) (fun listed a' hL w' hw'=>by
  have:=wpAny_of_seq (md:=.any) (Q':=Q) (l.drop n) n listed a' w' (fun j=>by simp [List.getElem?_drop]) (by rw [hdl];exact hL.1) (hL.2 w' hw');rwa [hdl] at this) _ _ _ _ hC H
 rw [htl,show n + (l.toArray.size - n) = l.toArray.size by omega] at this;exact this
theorem oY {id : Nat} {Q : Exit → Act → World → Prop} {a : Act} {w : World} {l : List Oper} (n : Nat) (hm : P.follows .mixedOrders = true) (hB : Region.lexTailB .any l.toArray n = true)
 (h : wpQuiet P l.toArray (eB w) (fun a'=>∀ w',eB w w' → wpList P l.toArray Q (l.drop n) a' w') (l.take n) a) : (Code.region id l.toArray true).wp P Q a w :=
 jM (C:=eB w) n hm hB (eB.refl w).drawn h
theorem wS {id : Nat} {Q : Exit → Act → World → Prop} {a : Act} {w : World} {l : List Oper} (hm : P.follows .mixedOrders = true) (hB : Region.lexB .any l.toArray = true)
 (h : wpQuiet P l.toArray (eB w) (fun a'=>∀ w',eB w w' → Q .normal a' w') l a) : (Code.region id l.toArray true).wp P Q a w :=
 wp_region_quiet (C:=eB w) hm hB (eB.refl w).drawn (by simpa using h)
def Oe (md : Region.Mode) (ops : Array Oper) : List (Nat × Bool) → Array Bool → Bool
 | [],listed=>(Region.ready md ops listed).isEmpty
 | (i,true) :: r,listed=>(ops[i]?).isSome && Region.free md ops listed i && (Region.ready md ops listed).contains i && Oe md ops r (listed.setIfInBounds i true)
 | (i,false) :: r,listed=>(ops[i]?).isSome && decide (Region.ready md ops listed = [i]) && Oe md ops r (listed.setIfInBounds i true)
def dB (P : Program) (ops : Array Oper) (Q : Exit → Act → World → Prop) : List (Oper × Bool) → Act → World → Prop
 | [],a,w=>Q .normal a w
 | (o,true) :: r,a,w=>∃ v,Yields P ops o v a ∧ dB P ops Q r (a.put o.dst v) w
 | (o,false) :: r,a,w=>wpList P ops (Exit.then (dB P ops Q r) Q) [o] a w
end
end Go.Lith
namespace Go.Lith
open Go.RowKit
abbrev Fr (l : List Value) (ds : List Deferred:=[]) : Act:={ tmps:=l.toArray,defers:=ds }
def fF (w : World) (g : Nat) (cs : List Value) (t : TypeId) : Prop:=w.heap[g]? = some (.cells cs.toArray t (0,0))
structure Chg (w w' : World) (g : Nat) : Prop where
 os : w'.os = w.os
 tape : w'.tape = w.tape
 output : w'.output = w.output
 size : w'.heap.size = w.heap.size
 block : ∀ k,k ≠ g → w'.heap[k]? = w.heap[k]?
def mP (w : World) (a : Addr) (cs : List Value) : Prop:=∀ j u,cs[j]? = some u → w.cell? (a.add j) = some u
theorem fF.lt {w : World} {g : Nat} {cs : List Value} {t : TypeId} (h : fF w g cs t) : g < w.heap.size:=(Array.getElem?_eq_some_iff.1 h).1
theorem fF.ext {w w' : World} {g : Nat} {cs : List Value} {t : TypeId} (h : fF w g cs t) (hE : eB w w') : fF w' g cs t:=hE.block h
theorem fF.chg {w w' : World} {g g' : Nat} {cs : List Value} {t : TypeId} (h : fF w g cs t) (hC : Chg w w' g') (hne : g ≠ g') : fF w' g cs t:=(hC.block g hne).trans h
theorem eB.chg {w0 w w' : World} {g : Nat} (h : eB w0 w) (hC : Chg w w' g) (hg : w0.heap.size ≤ g) : eB w0 w' :=
 ⟨hC.os.trans h.os,hC.tape.trans h.tape,hC.output.trans h.output,by rw [hC.size];exact h.size,fun k hk=>(hC.block k (by omega)).trans (Below.block h k hk)⟩
theorem mP.ext {w w' : World} {a : Addr} {cs : List Value} (h : mP w a cs) (hE : eB w w') : mP w' a cs:=fun j u hj=>hE.cell (h j u hj)
theorem lC (g off j : Nat) : (⟨g,off,none⟩ : Addr).add j = ⟨g,off + j,none⟩:=by unfold Addr.add;split <;> simp_all
theorem iW (a : Addr) (i j : Nat) : (a.add i).add j = a.add (i + j):=by
 unfold Addr.add;by_cases hi : i = 0 <;> by_cases hj : j = 0 <;> simp [hi,hj,Nat.add_assoc]
theorem fF.row {w : World} {g : Nat} {cs : List Value} {t : TypeId} (h : fF w g cs t) (off : Nat) : mP w ⟨g,off,none⟩ (cs.drop off):=by
 intro j u hj;rw [lC,cell_of_row w g (off + j) cs.toArray t (0,0) h];simpa [List.getElem?_drop] using hj
theorem mP.sub {w : World} {a : Addr} {cs : List Value} (h : mP w a cs) (i : Nat) : mP w (a.add i) (cs.drop i):=by
 intro j u hj;rw [iW];exact h (i + j) u (by simpa [List.getElem?_drop] using hj)
theorem mP.take {w : World} {a : Addr} {cs : List Value} (h : mP w a cs) (n : Nat) : mP w a (cs.take n):=by
 intro j u hj;refine h j u ?_;rw [List.getElem?_take] at hj;split at hj
 · exact hj
 · cases hj
section
variable {P : Program} {ds : List Deferred} {l : List Value}
theorem aft (t : Nat) : (Fr l).eval (.tmp t) = l.getD t undef:=by
 show l.toArray.getD t undef = _
 simp [Array.getD,List.getD];split <;> simp_all
theorem gH {ds : List Deferred} : (Fr l ds).eval = (Fr l).eval:=rfl
theorem gI {ds : List Deferred} (d : Nat) (v : Value) : (Fr l ds).put (some d) v = Fr (l.set d v) ds:=by simp [Act.put,Fr]
def dG (P : Program) (T : TypeId) (n : Nat) : Prop:=∃ inf,P.info? T = some inf ∧ inf.size = n
def iL (P : Program) (T : TypeId) (z : Value) : Prop:=∃ inf,P.info? T = some inf ∧ inf.zero = some z
def yO : TypeDesc → Bool
 | .struct _ | .array _ _=>true
 | _=>false
def eP (P : Program) (T : TypeId) (b : Bool) : Prop:=∃ dd,P.underlying T = some dd ∧ yO dd = b
theorem cY {T : TypeId} {n : Nat} (h : (P.info? T).map (·.size) = some n) : dG P T n:=by
 cases hi : P.info? T with
 | none=>rw [hi] at h;cases h
 | some i=>rw [hi] at h;exact ⟨i,hi,by simpa using h⟩
theorem eN {T : TypeId} {z : Value} (h : (P.info? T).bind (·.zero) = some z) : iL P T z:=by
 cases hi : P.info? T with
 | none=>rw [hi] at h;cases h
 | some i=>rw [hi] at h;exact ⟨i,hi,by simpa using h⟩
theorem cZ {T : TypeId} {b : Bool} (dd : TypeDesc) (h : P.underlying T = some dd) (hb : yO dd = b) : eP P T b:=⟨dd,h,hb⟩
def ev (l : List Value) : Operand → Value
 | .tmp t=>l.getD t undef
 | .const v=>v
 | .global g=>.pointer (some ⟨g,0,none⟩)
 | .func f=>.func (.func f) #[] #[]
theorem tW (t : Nat) : ev l (.tmp t) = l.getD t undef:=rfl
theorem mT (v : Value) : ev l (.const v) = v:=rfl
theorem pY (f : Nat) : ev l (.func f) = .func (.func f) #[] #[]:=rfl
theorem cM (x : Operand) : (Fr l).eval x = ev l x:=by
 cases x with
 | tmp t=>exact aft t
 | const=>rfl
 | global=>rfl
 | func=>rfl
def tX (P : Program) (l : List Value) (op : Op) (ty : TypeId) (v : Value) (w : World) : Prop :=
 ∀ o : Oper,o.op = op → o.type = ty → (execOp (Fr l).eval o).run P w = .ok (.value v) w
def fC (P : Program) (l : List Value) (op : Op) (ty : TypeId) (v : Value) : Prop:=∀ w,tX P l op ty v w
section
variable {ops : Array Oper} {Q : Exit → Act → World → Prop} {w : World} {rest : List Oper} {d : Nat} {op : Op} {ty : TypeId} {pos : String} {after : Array Edge} {v : Value}
theorem eY (hr : tX P l op ty v w) (h : wpList P ops Q rest (Fr (l.set d v) ds) w) : wpList P ops Q (Oper.mk (some d) op ty pos after none :: rest) (Fr l ds) w:=by
 refine wpList_plain rfl fun K hK=>?_;unfold Oper.wp;rw [gH,hr _ rfl rfl];show K ((Fr l ds).put (some d) v) w
 rw [gI];exact hK _ _ h
theorem aA (hr : fC P l op ty v) (h : wpList P ops Q rest (Fr (l.set d v) ds) w) : wpList P ops Q (Oper.mk (some d) op ty pos after none :: rest) (Fr l ds) w:=eY (hr w) h
theorem aF (h : Q .normal (Fr l ds) w) : wpList P ops Q [] (Fr l ds) w:=h
theorem bM {j : Nat} {b : Bool} (hw : yielded ops l.toArray j = some b) (h : wpList P ops Q (Oper.mk (some d) op ty pos after none :: rest) (Fr l ds) w) : wpList P ops Q (Oper.mk (some d) op ty pos after (some (j,b)) :: rest) (Fr l ds) w:=by
 unfold wpList at h ⊢;rw [if_pos (by simp [Region.wanted])] at h;rw [if_pos (by simp [Region.wanted,hw])];exact h
theorem aaB {j : Nat} {b c : Bool} (hw : yielded ops l.toArray j = some c) (hbc : (c == b) = false) (h : wpList P ops Q rest (Fr (l.set d undef) ds) w) : wpList P ops Q (Oper.mk (some d) op ty pos after (some (j,b)) :: rest) (Fr l ds) w:=by
 unfold wpList;rw [if_neg (by simp [Region.wanted,hw];simpa using hbc)];show wpList P ops Q rest ((Fr l ds).put (some d) undef) w
 rw [gI];exact h
theorem dY {j : Nat} (hw : yielded ops l.toArray j = some false) (h : wpList P ops Q rest (Fr (l.set d undef) ds) w) : wpList P ops Q (Oper.mk (some d) op ty pos after (some (j,true)) :: rest) (Fr l ds) w:=aaB hw rfl h
theorem jV {j : Nat} (hw : yielded ops l.toArray j = some true) (h : wpList P ops Q rest (Fr (l.set d undef) ds) w) : wpList P ops Q (Oper.mk (some d) op ty pos after (some (j,false)) :: rest) (Fr l ds) w:=aaB hw rfl h
theorem Vt {j : Nat} {b : Bool} (hw : yielded ops l.toArray j = none) (h : wpList P ops Q rest (Fr (l.set d undef) ds) w) : wpList P ops Q (Oper.mk (some d) op ty pos after (some (j,b)) :: rest) (Fr l ds) w:=by
 unfold wpList;rw [if_neg (by simp [Region.wanted,hw])];show wpList P ops Q rest ((Fr l ds).put (some d) undef) w
 rw [gI];exact h
end
section
variable {ops : Array Oper} {Q : Act → Prop} {C : World → Prop} {rest : List Oper} {d : Nat} {op : Op} {ty : TypeId} {pos : String} {after : Array Edge} {v : Value}
theorem gZ (hr : ∀ w,C w → tX P l op ty v w) (h : wpQuiet P ops C Q rest (Fr (l.set d v) ds)) : wpQuiet P ops C Q (Oper.mk (some d) op ty pos after none :: rest) (Fr l ds):=by
 refine wpQuiet_step fun K hK=>?_;rw [if_pos (by simp [Region.wanted])];refine ⟨v,fun w hw=>?_,?_⟩
 · unfold Oper.quietAt
   rw [gH,hr w hw _ rfl rfl];exact ⟨rfl,rfl⟩
 · show K ((Fr l ds).put (some d) v)
   rw [gI];exact hK _ h
theorem aK (hr : fC P l op ty v) (h : wpQuiet P ops C Q rest (Fr (l.set d v) ds)) : wpQuiet P ops C Q (Oper.mk (some d) op ty pos after none :: rest) (Fr l ds):=gZ (fun w _=>hr w) h
theorem bZ (h : Q (Fr l ds)) : wpQuiet P ops C Q [] (Fr l ds):=h
theorem eF {j : Nat} {b : Bool} (hw : yielded ops l.toArray j = some b) (h : wpQuiet P ops C Q (Oper.mk (some d) op ty pos after none :: rest) (Fr l ds)) : wpQuiet P ops C Q (Oper.mk (some d) op ty pos after (some (j,b)) :: rest) (Fr l ds):=by
 unfold wpQuiet at h ⊢;rw [if_pos (by simp [Region.wanted])] at h;rw [if_pos (by simp [Region.wanted,hw])];exact h
theorem aaC {j : Nat} {b c : Bool} (hw : yielded ops l.toArray j = some c) (hbc : (c == b) = false) (h : wpQuiet P ops C Q rest (Fr (l.set d undef) ds)) : wpQuiet P ops C Q (Oper.mk (some d) op ty pos after (some (j,b)) :: rest) (Fr l ds):=by
 unfold wpQuiet;rw [if_neg (by simp [Region.wanted,hw];simpa using hbc)];show wpQuiet P ops C Q rest ((Fr l ds).put (some d) undef)
 rw [gI];exact h
theorem pZ {j : Nat} (hw : yielded ops l.toArray j = some false) (h : wpQuiet P ops C Q rest (Fr (l.set d undef) ds)) : wpQuiet P ops C Q (Oper.mk (some d) op ty pos after (some (j,true)) :: rest) (Fr l ds):=aaC hw rfl h
theorem eH {j : Nat} (hw : yielded ops l.toArray j = some true) (h : wpQuiet P ops C Q rest (Fr (l.set d undef) ds)) : wpQuiet P ops C Q (Oper.mk (some d) op ty pos after (some (j,false)) :: rest) (Fr l ds):=aaC hw rfl h
end
/-! ### Values -/
section
variable {x y : Operand} {T T' ty : TypeId} {k : IntKind} {m n r : Int}
theorem aB : fC P l (.move x) ty (ev l x):=fun w o ho _=>by simp [execOp,ho,cM]
theorem aG : fC P l (.assign x) ty (ev l x):=fun w o ho _=>by simp [execOp,ho,cM]
theorem Ln {c : Operand} {b : Bool} (hc : ev l c = .bool b) : fC P l (.pick c x y) ty (if b then ev l x else ev l y):=fun w o ho _=>by
 simp [execOp,ho,cM,hc,asBool]
theorem aU (hx : ev l x = .int k m) (hy : ev l y = .int k n) (hr : k.wrap (m + n) = r) : fC P l (.binOp .add T x y T') ty (.int k r):=fun w o ho _=>by
 simp [execOp,ho,cM,hx,hy,eqGuard,binOp,Op.intArith,hr]
theorem oZ (hx : ev l x = .int k m) (hy : ev l y = .int k n) (hr : k.wrap (m - n) = r) : fC P l (.binOp .sub T x y T') ty (.int k r):=fun w o ho _=>by
 simp [execOp,ho,cM,hx,hy,eqGuard,binOp,Op.intArith,hr]
theorem qA (hx : ev l x = .int k m) (hy : ev l y = .int k n) (hr : k.wrap (m * n) = r) : fC P l (.binOp .mul T x y T') ty (.int k r):=fun w o ho _=>by
 simp [execOp,ho,cM,hx,hy,eqGuard,binOp,Op.intArith,hr]
theorem cW (hx : ev l x = .int k m) (hy : ev l y = .int k n) : fC P l (.binOp .lss T x y T') ty (.bool (decide (m < n))):=fun w o ho _=>by
 simp [execOp,ho,cM,hx,hy,eqGuard,binOp,Op.intCmp]
theorem aaD (hx : ev l x = .int k m) (hy : ev l y = .int k n) : fC P l (.binOp .leq T x y T') ty (.bool (decide (m ≤ n))):=fun w o ho _=>by
 simp [execOp,ho,cM,hx,hy,eqGuard,binOp,Op.intCmp]
theorem lD (hx : ev l x = .int k m) (hy : ev l y = .int k n) : fC P l (.binOp .gtr T x y T') ty (.bool (decide (n < m))):=fun w o ho _=>by
 simp [execOp,ho,cM,hx,hy,eqGuard,binOp,Op.intCmp]
theorem tJ (hx : ev l x = .int k m) (hy : ev l y = .int k n) : fC P l (.binOp .geq T x y T') ty (.bool (decide (n ≤ m))):=fun w o ho _=>by
 simp [execOp,ho,cM,hx,hy,eqGuard,binOp,Op.intCmp]
theorem tY (hx : ev l x = .int k m) (hy : ev l y = .int k n) : fC P l (.binOp .eql T x y T') ty (.bool (decide (m = n))):=fun w o ho _=>by
 simp [execOp,ho,cM,hx,hy,eqGuard,binOp,Op.intCmp];cases h : (m == n) <;> simp_all
theorem jJ (hx : ev l x = .int k m) (hy : ev l y = .int k n) : fC P l (.binOp .neq T x y T') ty (.bool (decide (m ≠ n))):=fun w o ho _=>by
 simp [execOp,ho,cM,hx,hy,eqGuard,binOp,Op.intCmp];cases h : (m != n) <;> simp_all
theorem aaE (hx : ev l x = .int k m) (hy : ev l y = .int k n) (h0 : n ≠ 0) (hr : k.wrap (m.tdiv n) = r) : fC P l (.binOp .quo T x y T') ty (.int k r):=fun w o ho _=>by
 simp [execOp,ho,cM,hx,hy,eqGuard,binOp,Op.intDiv,h0,hr]
theorem gD (hx : ev l x = .int k m) (hy : ev l y = .int k n) (h0 : n ≠ 0) (hr : m.tmod n = r) : fC P l (.binOp .rem T x y T') ty (.int k r):=fun w o ho _=>by
 simp [execOp,ho,cM,hx,hy,eqGuard,binOp,Op.intDiv,h0,hr]
theorem rH (hx : ev l x = .int k m) (hy : ev l y = .int k n) (hr : k.wrap ((BitVec.ofInt k.bits m &&& BitVec.ofInt k.bits n).toNat : Int) = r) : fC P l (.binOp .and T x y T') ty (.int k r):=fun w o ho _=>by
 subst hr;simp [execOp,ho,cM,hx,hy,eqGuard,binOp,Op.intBits]
theorem akr (hx : ev l x = .int k m) (hy : ev l y = .int k n) (hr : k.wrap ((BitVec.ofInt k.bits m ||| BitVec.ofInt k.bits n).toNat : Int) = r) : fC P l (.binOp .or T x y T') ty (.int k r):=fun w o ho _=>by
 subst hr;simp [execOp,ho,cM,hx,hy,eqGuard,binOp,Op.intBits]
theorem aiF {k' : IntKind} (hx : ev l x = .int k m) (hy : ev l y = .int k' n) (h0 : 0 ≤ n) (hr : k.wrap (m * 2 ^ (min n.toNat k.bits)) = r) : fC P l (.binOp .shl T x y T') ty (.int k r):=fun w o ho _=>by
 subst hr;simp [execOp,ho,cM,hx,hy,eqGuard,binOp,Op.shift,Int.not_lt.2 h0]
theorem lE {k' : IntKind} (hx : ev l x = .int k m) (hy : ev l y = .int k' n) (h0 : 0 ≤ n) (hr : m.fdiv (2 ^ (min n.toNat k.bits)) = r) : fC P l (.binOp .shr T x y T') ty (.int k r):=fun w o ho _=>by
 subst hr;simp [execOp,ho,cM,hx,hy,eqGuard,binOp,Op.shift,Int.not_lt.2 h0]
theorem fR {b : Bool} (hx : ev l x = .bool b) : fC P l (.unOp .not T x) ty (.bool (!b)):=fun w o ho _=>by
 simp [execOp,ho,cM,hx,Op.unary]
theorem nO (hx : ev l x = .int k m) (hr : k.wrap (0 - m) = r) : fC P l (.unOp .neg T x) ty (.int k r):=fun w o ho _=>by
 subst hr;simp [execOp,ho,cM,hx,Op.unary,Op.intArith]
theorem eU (hd : P.underlying T' = some (.int k)) {k' : IntKind} {dd : TypeDesc} (hs : P.underlying T = some dd) (hx : ev l x = .int k' m) (hr : k.wrap m = r) : fC P l (.convert T T' x) ty (.int k r):=fun w o ho _=>by
 subst hr;simp [execOp,ho,cM,hx,convert,run_underlying hs,run_underlying hd,Conv.intToInt]
theorem bC {vs : Array Value} {i : Nat} {v : Value} (hx : ev l x = .tuple vs) (hi : vs[i]? = some v) : fC P l (.extract x i) ty v:=fun w o ho _=>by
 simp [execOp,ho,cM,hx,Instr.extract,hi]
theorem eZ {fn : Fn} {first captured : Array Operand} : fC P l (.makeFunc fn first captured) ty (.func fn (first.map (ev l)) (captured.map (ev l))):=fun w o ho _=>by
 have e : (Fr l).eval = ev l:=funext cM;simp [execOp,ho,e,Instr.makeFunc]
theorem bH {E : TypeId} {A : Option Addr} {n c : Nat} {a0 : Array TypeId} (ha : a0 = #[T]) (hu : P.underlying T = some (.slice E)) (hx : ev l x = .slice A n c) : fC P l (.call { callee:=.builtin .len,args:=#[x],argTypes:=a0 }) ty (.int .i64 n):=fun w o ho _=>by
 subst ha;simp [execOp,ho,resolve,invoke,builtin,Builtin.len_,cM,hx,run_underlying hu,goInt]
theorem rI {s : ByteArray} {a0 : Array TypeId} (ha : a0 = #[T]) (hu : P.underlying T = some .string) (hx : ev l x = .string s) : fC P l (.call { callee:=.builtin .len,args:=#[x],argTypes:=a0 }) ty (.int .i64 s.size):=fun w o ho _=>by
 subst ha;simp [execOp,ho,resolve,invoke,builtin,Builtin.len_,cM,hx,run_underlying hu,goInt]
theorem tK {a0 : Array TypeId} (hx : ev l x = .int k m) (hy : ev l y = .int k n) (hr : (if n < m then n else m) = r) : fC P l (.call { callee:=.builtin .min,args:=#[x,y],argTypes:=a0 }) ty (.int k r):=fun w o ho _=>by
 subst hr;simp [execOp,ho,resolve,invoke,builtin,Builtin.min_,Builtin.min2,cM,hx,hy]
theorem jK {a0 : Array TypeId} (hx : ev l x = .int k m) (hy : ev l y = .int k n) (hr : (if m < n then n else m) = r) : fC P l (.call { callee:=.builtin .max,args:=#[x,y],argTypes:=a0 }) ty (.int k r):=fun w o ho _=>by
 subst hr;simp [execOp,ho,resolve,invoke,builtin,Builtin.max_,Builtin.max2,cM,hx,hy]
end
/-! ### Addresses -/
section
variable {x y : Operand} {T T' ty : TypeId} {k : IntKind} {m n r : Int}
theorem aL {fs : Array Field} {i c : Nat} {f : Field} {a b : Addr} (hu : P.underlying T = some (.struct fs)) (hf : fs[i]? = some f) (hc : dG P f.type (c + 1)) (hx : ev l x = .pointer (some a)) (hb : a.add f.offset = b) :
 fC P l (.fieldAddr T x i) ty (.pointer (some b)):=fun w o ho _=>by
 subst hb;obtain ⟨inf,hi,hz⟩:=hc;have hz' : ¬ inf.size = 0:=by omega
 simp [execOp,ho,cM,hx,Instr.fieldAt,run_underlying hu,hf,Instr.sureAddr,fieldPlace,sizeOf,typeInfo,hi,hz']
theorem aH {E : TypeId} {len : Nat} {c : Nat} {a b : Addr} (hu : P.underlying T = some (.array len E)) (hc : dG P E c) (hx : ev l x = .pointer (some a)) (hy : ev l y = .int k m) (h0 : 0 ≤ m) (h1 : m < len) (hb : a.add (m.toNat * c) = b) :
 fC P l (.indexAddr T x y) ty (.pointer (some b)):=fun w o ho _=>by
 subst hb;obtain ⟨inf,hi,rfl⟩:=hc;simp [execOp,ho,cM,hx,hy,Instr.indexAt,asIntOf,run_underlying hu,Instr.sureAddr,sizeOf,typeInfo,hi,h0,h1]
theorem aN {E : TypeId} {len cap : Nat} {c : Nat} {a b : Addr} (hu : P.underlying T = some (.slice E)) (hc : dG P E c) (hx : ev l x = .slice (some a) len cap) (hy : ev l y = .int k m) (h0 : 0 ≤ m) (h1 : m < len) (hb : a.add (m.toNat * c) = b) :
 fC P l (.indexAddr T x y) ty (.pointer (some b)):=fun w o ho _=>by
 subst hb;obtain ⟨inf,hi,rfl⟩:=hc;simp [execOp,ho,cM,hx,hy,Instr.indexAt,asIntOf,run_underlying hu,sizeOf,typeInfo,hi,h0,h1]
end
/-! ### Memory -/
section
variable {x y : Operand} {T T' ty : TypeId} {w : World}
def hG (P : Program) (w : World) (T : TypeId) (a : Addr) (v : Value) : Prop:=(loadVar T a).run P w = .ok v w
theorem mP.lies {a : Addr} {cs : List Value} (h : mP w a cs) (hA : eP P T true) (hc : dG P T cs.length) : hG P w T a (.agg cs.toArray):=by
 obtain ⟨dd,hu,hd⟩:=hA;obtain ⟨inf,hi,hn⟩:=hc;have hl:=run_loadCells_list (P:=P) w a cs (fun j v hv=>h j v hv);have hagg : (isAgg T).run P w = .ok true w:=by
  unfold isAgg;rw [Sem.run_bind,run_underlying hu w];cases dd <;> simp_all [yO]
 unfold hG;simp [loadVar,Sem.run_bind,hagg,sizeOf,typeInfo,hi,hn,hl]
theorem lies1 {a : Addr} {v : Value} (h : w.cell? a = some v) (hA : eP P T false) : hG P w T a v:=by
 obtain ⟨dd,hu,hd⟩:=hA;have hagg : (isAgg T).run P w = .ok false w:=by
  unfold isAgg;rw [Sem.run_bind,run_underlying hu w];cases dd <;> simp_all [yO]
 unfold hG;simp [loadVar,Sem.run_bind,hagg,load,Sem.run,h]
theorem fF.cell {g : Nat} {cs : List Value} {t : TypeId} (h : fF w g cs t) {i : Nat} {v : Value} (hi : cs[i]? = some v) : w.cell? ⟨g,i,none⟩ = some v:=by
 rw [cell_of_row w g i cs.toArray t (0,0) h];simpa using hi
theorem fF.lies1 {g i : Nat} {cs : List Value} {t : TypeId} {v : Value} (h : fF w g cs t) (hA : eP P T false) (hi : cs[i]? = some v) : hG P w T ⟨g,i,none⟩ v:=Lith.lies1 (h.cell hi) hA
theorem fF.lies {g i n : Nat} {cs us : List Value} {t : TypeId} (h : fF w g cs t) (hA : eP P T true) (hc : dG P T n) (hu : (cs.drop i).take n = us) (hn : us.length = n) : hG P w T ⟨g,i,none⟩ (.agg us.toArray):=by
 subst hu;exact ((h.row i).take n).lies hA (by rw [hn];exact hc)
theorem bJ {a : Addr} {v : Value} (hx : ev l x = .pointer (some a)) (hv : hG P w T a v) : tX P l (.load T x) ty v w:=fun o ho _=>by
 unfold hG at hv;simp [execOp,ho,cM,hx,Instr.loadAt,Instr.sureAddr,hv]
variable {ops : Array Oper} {Q : Exit → Act → World → Prop} {rest : List Oper} {d : Nat} {op : Op} {pos : String} {after : Array Edge} {v : Value}
theorem aJ {a : Addr} (hx : ev l x = .pointer (some a)) (hv : hG P w T a v) (h : wpList P ops Q rest (Fr (l.set d v) ds) w) : wpList P ops Q (Oper.mk (some d) (.load T x) ty pos after none :: rest) (Fr l ds) w :=
 eY (bJ hx hv) h
theorem yP {w' : World} (hr : ∀ o : Oper,o.op = op → (execOp (Fr l).eval o).run P w = .ok .skip w') (h : wpList P ops Q rest (Fr l ds) w') : wpList P ops Q (Oper.mk none op ty pos after none :: rest) (Fr l ds) w:=by
 refine wpList_plain rfl fun K hK=>?_;unfold Oper.wp;rw [gH,hr _ rfl];exact hK _ _ h
theorem jN {w' : World} (hr : ∀ o : Oper,o.op = op → o.type = ty → (execOp (Fr l).eval o).run P w = .ok (.value v) w') (h : wpList P ops Q rest (Fr (l.set d v) ds) w') : wpList P ops Q (Oper.mk (some d) op ty pos after none :: rest) (Fr l ds) w:=by
 refine wpList_plain rfl fun K hK=>?_;unfold Oper.wp;rw [gH,hr _ rfl rfl];show K ((Fr l ds).put (some d) v) w'
 rw [gI];exact hK _ _ h
theorem gU (w : World) (cs : List Value) (t : TypeId) : fF (w.alloc (.cells cs.toArray t)) w.heap.size cs t:=heap_alloc_new w _
theorem tL {cs : List Value} (hv : (ev l x).cells = cs.toArray) (h : ∀ w' g,eB w w' → w.heap.size ≤ g → fF w' g cs T → wpList P ops Q rest (Fr (l.set d (.pointer (some ⟨g,0,none⟩))) ds) w') :
 wpList P ops Q (Oper.mk (some d) (.box T x) ty pos after none :: rest) (Fr l ds) w :=
 jN (w':=w.alloc (.cells cs.toArray T)) (v:=.pointer (some ⟨w.heap.size,0,none⟩)) (fun o ho _=>by simp [execOp,ho,cM,Instr.box,newVar,newRow,hv,newObj,Sem.run]) (h _ _ ((eB.refl w).alloc _) (Nat.le_refl _) (gU w cs T))
theorem nX {cs : List Value} {z : Value} (hZ : iL P T z) (hv : z.cells = cs.toArray) (h : ∀ w' g,eB w w' → w.heap.size ≤ g → fF w' g cs T → wpList P ops Q rest (Fr (l.set d (.pointer (some ⟨g,0,none⟩))) ds) w') :
 wpList P ops Q (Oper.mk (some d) (.alloc T) ty pos after none :: rest) (Fr l ds) w:=by
 obtain ⟨inf,hi,hz⟩:=hZ;exact jN (w':=w.alloc (.cells cs.toArray T)) (v:=.pointer (some ⟨w.heap.size,0,none⟩)) (fun o ho _=>by simp [execOp,ho,Instr.alloc,zeroValue,typeInfo,hi,hz,newVar,newRow,hv,newObj,Sem.run]) (h _ _ ((eB.refl w).alloc _) (Nat.le_refl _) (gU w cs T))
def bB (cs : List Value) (off : Nat) (us : List Value) : List Value:=cs.take off ++ us ++ cs.drop (off + us.length)
theorem Fk (w : World) (g : Nat) (cs : Array Value) : Chg w (w.setRow g cs) g:=⟨rfl,rfl,rfl,by simp,fun k hk=>setRow_other w g k cs hk⟩
theorem yQ {g off : Nat} {cs us : List Value} {t : TypeId} (hc : dG P T us.length) (hv : v.cells = us.toArray) (hB : fF w g cs t) (hfit : off + us.length ≤ cs.length) (h1 : ∀ u ∈ us,u.oneCell' = true) :
 (storeVar T ⟨g,off,none⟩ v).run P w = .ok () (w.setRow g (bB cs off us).toArray):=by
 obtain ⟨inf,hi,hn⟩:=hc;have hst:=run_storeCells_at P g off t us 0 cs.toArray w hB (by simpa using hfit) h1;simp only[Nat.add_zero,List.toList_toArray] at hst;simp [storeVar,hv,sizeOf,typeInfo,hi,hn,hst,bB]
theorem fE {g off : Nat} {cs us : List Value} {t : TypeId} (hx : ev l x = .pointer (some ⟨g,off,none⟩)) (hv : (ev l y).cells = us.toArray) (hc : dG P T us.length) (hB : fF w g cs t) (hfit : off + us.length ≤ cs.length) (h1 : ∀ u ∈ us,u.oneCell' = true)
 (h : ∀ w',Chg w w' g → fF w' g (bB cs off us) t → wpList P ops Q rest (Fr l ds) w') : wpList P ops Q (Oper.mk none (.store T x y) ty pos after none :: rest) (Fr l ds) w :=
 yP (w':=w.setRow g (bB cs off us).toArray) (fun o ho=>by simp [execOp,ho,cM,hx,Instr.storeAt,Instr.sureAddr,yQ hc hv hB hfit h1]) (h _ (Fk w g _) (setRow_heap w g cs.toArray _ t _ hB))
/-! ### Calls -/
def Enters (P : Program) (f : FuncId) : Prop:=∃ fn,P.funcs[f]? = some fn ∧ (fn.name == "runtime.NumGoroutine") = false ∧ fn.body.isNone = false
def eG (P : Program) (f : FuncId) (args : List Value) (w : World) (R : Value → World → Prop) : Prop :=
 Enters P f ∧ Calls P f args.toArray w fun e w'=>∃ v,e = .returned v ∧ eB w w' ∧ R v w'
def eQ (P : Program) (f : FuncId) (args : List Value) (v : Value) : Prop:=∀ w,eG P f args w fun u _=>u = v
theorem nY {f : FuncId} {args : Array Value} (h : Enters P f) : (callFunc f args).run P w = .ok (.enter f args) w:=by
 obtain ⟨fn,hf,hn,hb⟩:=h;have hn' : ¬ fn.name = "runtime.NumGoroutine" := by simpa using hn
 have hb' : ¬ fn.body = none:=by intro h;rw [h] at hb;cases hb
 simp [callFunc,hf,hn',hb']
theorem kM {f : FuncId} {fo : Operand} {xs : Array Operand} {args : List Value} {first cap : Array Value} {a0 : Array TypeId} (h : Enters P f) (hf : ev l fo = .func (.func f) first cap) (hxs : first.toList ++ xs.toList.map (ev l) ++ cap.toList = args) (o : Oper) (ho : o.op = .call { callee:=.value fo,args:=xs,argTypes:=a0 }) :
 (execOp (Fr l).eval o).run P w = .ok (.enter f args.toArray) w:=by
 have e : (Fr l).eval = ev l:=funext cM;have ea : args.toArray = first ++ xs.map (ev l) ++ cap:=by
  rw [← hxs];apply Array.ext';simp
 simp [execOp,ho,resolve,e,hf,Deferred.ofValue,invoke,nY h,ea]
theorem cD {f : FuncId} {fo : Operand} {xs : Array Operand} {args : List Value} {first cap : Array Value} {a0 : Array TypeId} {R : Value → World → Prop} (hf : ev l fo = .func (.func f) first cap) (hxs : first.toList ++ xs.toList.map (ev l) ++ cap.toList = args) (hc : eG P f args w R)
 (h : ∀ v w',eB w w' → R v w' → wpList P ops Q rest (Fr (l.set d v) ds) w') : wpList P ops Q (Oper.mk (some d) (.call { callee:=.value fo,args:=xs,argTypes:=a0 }) ty pos after none :: rest) (Fr l ds) w:=by
 refine wpList_plain rfl fun K hK=>?_;unfold Oper.wp;rw [gH,kM hc.1 hf hxs _ rfl];refine hc.2.mono ?_;rintro e w' ⟨v,rfl,hE,hR⟩;show K ((Fr l ds).put (some d) v) w'
 rw [gI];exact hK _ _ (h v w' hE hR)
theorem vP {f : FuncId} {fo : Operand} {xs : Array Operand} {args : List Value} {first cap : Array Value} {a0 : Array TypeId} (hf : ev l fo = .func (.func f) first cap) (hxs : first.toList ++ xs.toList.map (ev l) ++ cap.toList = args) (hc : eQ P f args v)
 (h : ∀ w',eB w w' → wpList P ops Q rest (Fr (l.set d v) ds) w') : wpList P ops Q (Oper.mk (some d) (.call { callee:=.value fo,args:=xs,argTypes:=a0 }) ty pos after none :: rest) (Fr l ds) w :=
 cD hf hxs (hc w) fun _ w' hE hR=>hR ▸ h w' hE
end
section
variable {x y : Operand} {T T' ty : TypeId} {w : World}
variable {ops : Array Oper} {Q : Act → Prop} {rest : List Oper} {d : Nat} {op : Op} {pos : String} {after : Array Edge} {v : Value}
theorem tZ {a : Addr} (hx : ev l x = .pointer (some a)) (hv : ∀ w',eB w w' → hG P w' T a v) (h : wpQuiet P ops (eB w) Q rest (Fr (l.set d v) ds)) : wpQuiet P ops (eB w) Q (Oper.mk (some d) (.load T x) ty pos after none :: rest) (Fr l ds) :=
 gZ (fun _ hE=>bJ hx (hv _ hE)) h
theorem ads {f : FuncId} {fo : Operand} {xs : Array Operand} {args : List Value} {first cap : Array Value} {a0 : Array TypeId} (hf : ev l fo = .func (.func f) first cap) (hxs : first.toList ++ xs.toList.map (ev l) ++ cap.toList = args) (hc : ∀ w',eB w w' → eG P f args w' fun u _=>u = v)
 (h : wpQuiet P ops (eB w) Q rest (Fr (l.set d v) ds)) : wpQuiet P ops (eB w) Q (Oper.mk (some d) (.call { callee:=.value fo,args:=xs,argTypes:=a0 }) ty pos after none :: rest) (Fr l ds):=by
 refine wpQuiet_step fun K hK=>?_;rw [if_pos (by simp [Region.wanted])];refine ⟨v,fun w' hw=>?_,?_⟩
 · unfold Oper.quietAt
   rw [gH,kM (hc w' hw).1 hf hxs _ rfl];refine ⟨rfl,(hc w' hw).2.mono ?_⟩;rintro e w'' ⟨u,rfl,hE,rfl⟩;exact ⟨rfl,hw.trans hE⟩
 · show K ((Fr l ds).put (some d) v)
   rw [gI];exact hK _ h
theorem Vu {f : FuncId} {fo : Operand} {xs : Array Operand} {args : List Value} {first cap : Array Value} {a0 : Array TypeId} (hf : ev l fo = .func (.func f) first cap) (hxs : first.toList ++ xs.toList.map (ev l) ++ cap.toList = args) (hc : eQ P f args v)
 (h : wpQuiet P ops (eB w) Q rest (Fr (l.set d v) ds)) : wpQuiet P ops (eB w) Q (Oper.mk (some d) (.call { callee:=.value fo,args:=xs,argTypes:=a0 }) ty pos after none :: rest) (Fr l ds) :=
 ads hf hxs (fun w' _=>hc w') h
end
/-! ### Code -/
section
variable {Q : Exit → Act → World → Prop} {w : World} {c c1 c2 : Code}
theorem aD {a : Act} (h : ∀ K : Act → World → Prop,(∀ a w,c2.wp P Q a w → K a w) → c1.wp P (Exit.then K Q) a w) : (Code.seq c1 c2).wp P Q a w:=wp_seq_k h
theorem jO {x : Operand} {b : Bool} (hx : ev l x = .bool b) (ht : b = true → c1.wp P Q (Fr l ds) w) (hf : b = false → c2.wp P Q (Fr l ds) w) : (Code.cond x c1 c2).wp P Q (Fr l ds) w :=
 wp_cond_split (by rw [gH,cM];exact hx) ht hf
theorem cG {x : Operand} {p : Prop} [Decidable p] (hx : ev l x = .bool (decide p)) (ht : p → c1.wp P Q (Fr l ds) w) (hf : ¬ p → c2.wp P Q (Fr l ds) w) : (Code.cond x c1 c2).wp P Q (Fr l ds) w :=
 jO hx (fun h=>ht (of_decide_eq_true h)) (fun h=>hf (of_decide_eq_false h))
theorem bK {x : Operand} (hx : ev l x = .bool true) (ht : c1.wp P Q (Fr l ds) w) : (Code.cond x c1 c2).wp P Q (Fr l ds) w:=jO hx (fun _=>ht) (fun h=>by cases h)
theorem gA {x : Operand} (hx : ev l x = .bool false) (hf : c2.wp P Q (Fr l ds) w) : (Code.cond x c1 c2).wp P Q (Fr l ds) w:=jO hx (fun h=>by cases h) (fun _=>hf)
def Res (P : Program) (l : List Value) (w : World) : ResultVar → Value → Prop
 | .tmp t,v=>l.getD t undef = v
 | .cell t T,v=>∃ a,l.getD t undef = .pointer (some a) ∧ hG P w T a v
theorem Bx {r : ResultVar} {v : Value} (h : Res P l w r v) : (∃ t,r = .tmp t ∧ l[t]?.getD undef = v) ∨ (∃ t T a,r = .cell t T ∧ l[t]?.getD undef = .pointer (some a) ∧ (loadVar T a).run P w = .ok v w):=by
 cases r with
 | tmp t=>exact .inl ⟨t,rfl,by simpa [Res] using h⟩
 | cell t T =>
  obtain ⟨a,ha,hl⟩:=h;exact .inr ⟨t,T,a,rfl,by simpa using ha,hl⟩
theorem bE {fn : Func} {R : Ending → World → Prop} {r : ResultVar} {v : Value} (hr : fn.results = #[r]) (h : Res P l w r v) (hR : R (.returned v) w) : bodyPost P fn R .ret (Fr l) w:=by
 refine ⟨rfl,v,?_,hR⟩;unfold results;rw [hr];rcases Bx h with ⟨t,rfl,h1⟩ | ⟨t,T,a,rfl,h1,h2⟩ <;> simp [*,asAddr]
theorem uA {fn : Func} {R : Ending → World → Prop} {r r' : ResultVar} {v v' : Value} (hr : fn.results = #[r,r']) (h : Res P l w r v) (h' : Res P l w r' v') (hR : R (.returned (.tuple #[v,v'])) w) : bodyPost P fn R .ret (Fr l) w:=by
 refine ⟨rfl,_,?_,hR⟩;unfold results;rw [hr];rcases Bx h with ⟨t,rfl,h1⟩ | ⟨t,T,a,rfl,h1,h2⟩ <;> rcases Bx h' with ⟨t',rfl,h1'⟩ | ⟨t',T',a',rfl,h1',h2'⟩ <;> simp [*,asAddr]
end
end
/-! ### Numbers,loops,further values -/
theorem aV {x : Int} (h0 : -9223372036854775808 ≤ x) (h1 : x < 9223372036854775808) : IntKind.i64.wrap x = x:=by
 simp [IntKind.wrap,IntKind.bits,IntKind.signed];split <;> omega
theorem jP {x : Int} (h0 : 0 ≤ x) (h1 : x < 18446744073709551616) : IntKind.u64.wrap x = x:=by
 simp [IntKind.wrap,IntKind.bits,IntKind.signed];omega
theorem qB {x : Int} (h0 : 0 ≤ x) (h1 : x < 256) : IntKind.u8.wrap x = x:=by
 simp [IntKind.wrap,IntKind.bits,IntKind.signed];omega
def fN : List Value → List Nat → List Value → List Value
 | l,t :: ts,v :: vs=>fN (l.set t v) ts vs
 | l,_,_=>l
theorem Lo {l : List Value} {t : Nat} {ts : List Nat} {v : Value} {vs : List Value} : fN l (t :: ts) (v :: vs) = fN (l.set t v) ts vs:=rfl
theorem uB {l : List Value} {vs : List Value} : fN l [] vs = l:=by cases vs <;> rfl
theorem Of {l : List Value} {t : Nat} : l.set t (l.getD t undef) = l:=by
 apply List.ext_getElem?;intro i;rw [List.getElem?_set];split
 · rename_i h;subst h
   split
   · rename_i h;simp [h]
   · rename_i h;simp at h;simp [h]
 · rfl
theorem yR : ∀ (ts : List Nat) (l : List Value),fN l ts (ts.map (l.getD · undef)) = l
 | [],l=>uB
 | t :: ts,l=>by
  simp only[List.map_cons,Lo,Of];exact yR ts l
theorem sF {p : Nat → Prop} (h : ∃ n,p n) : ∃ n,p n ∧ ∀ m,p m → n ≤ m:=by
 obtain ⟨n,hn⟩:=h
 induction n using Nat.strongRecOn with
 | _ n ih =>
  by_cases hx : ∃ m,m < n ∧ p m
  · obtain ⟨m,hm,hp⟩:=hx;exact ih m hm hp
  · exact ⟨n,hn,fun m hm=>Nat.le_of_not_lt fun hlt=>hx ⟨m,hlt,hm⟩⟩
noncomputable def Fl (p : Nat → Prop) (h : ∃ n,p n) : Nat:=(sF h).choose
theorem Og {p : Nat → Prop} (h : ∃ n,p n) : p (Fl p h):=(sF h).choose_spec.1
theorem Xr {p : Nat → Prop} (h : ∃ n,p n) {m : Nat} (hm : p m) : Fl p h ≤ m:=(sF h).choose_spec.2 m hm
section
variable {P : Program} {ds : List Deferred} {l : List Value}
end
/-! ### Parts of values,slices,new slices -/
section
variable {P : Program} {ds : List Deferred} {l : List Value} {x y : Operand} {T T' ty : TypeId} {k : IntKind} {m n r : Int}
theorem nZ {b : Bool} (h : eP P T b) (w : World) : (isAgg T).run P w = .ok b w:=by
 obtain ⟨dd,hu,hd⟩:=h;unfold isAgg;rw [Sem.run_bind,run_underlying hu w];cases dd <;> simp_all [yO]
theorem dQ {c : Nat} (h : dG P T c) (w : World) : (sizeOf T).run P w = .ok c w:=by
 obtain ⟨inf,hi,rfl⟩:=h;simp [sizeOf,typeInfo,hi]
theorem eC (cs : Array Value) : (Value.agg cs).cells = cs:=rfl
theorem fO {parts : Array (Nat × Operand)} {vs : Array (Nat × Value)} {v : Value} (hp : (parts.map fun (i,x)=>(i,ev l x)) = vs) (h : ∀ w,(Instr.build T vs).run P w = .ok v w) : fC P l (.build T parts) ty v:=fun w o ho _=>by
 have e : (Fr l).eval = ev l:=funext cM;subst hp;simp only[execOp,ho,e];rw [Sem.run_bind,h w];rfl
theorem dN {fs : Array Field} {places : Array (Nat × Nat)} {z : Value} {cells : Array Value} {vs : Array (Nat × Value)} (hu : P.underlying T = some (.struct fs)) (hz : iL P T z)
 (hpl : ∀ w,(fs.mapM fun f=>do pure (f.offset,← sizeOf f.type) : Sem (Array (Nat × Nat))).run P w = .ok places w) (hf : Instr.fill (places[·]?) z.cells vs.toList = some cells) (w : World) : (Instr.build T vs).run P w = .ok (.agg cells) w:=by
 obtain ⟨inf,hi,h0⟩:=hz;simp only[Instr.build,zeroValue,typeInfo];simp [hi,h0,run_underlying hu];have:=hpl w;simp at this;simp [this,hf]
theorem eM {E : TypeId} {n c : Nat} {z : Value} {cells : Array Value} {vs : Array (Nat × Value)} (hu : P.underlying T = some (.array n E)) (hz : iL P T z) (hc : dG P E c)
 (hf : Instr.fill (fun i=>some (i * c,c)) z.cells vs.toList = some cells) (w : World) : (Instr.build T vs).run P w = .ok (.agg cells) w:=by
 obtain ⟨inf,hi,h0⟩:=hz;simp only[Instr.build,zeroValue,typeInfo];simp [hi,h0,run_underlying hu,dQ hc,hf]
theorem lN {E : TypeId} {len c : Nat} {cs : Array Value} {v : Value} (hu : P.underlying T = some (.array len E)) (hA : eP P E false) (hc : dG P E c) (hx : ev l x = .agg cs) (hy : ev l y = .int k m) (h0 : 0 ≤ m) (h1 : m < len) (hv : cs[m.toNat * c]? = some v) :
 fC P l (.index T x y) ty v:=fun w o ho _=>by
 simp [execOp,ho,cM,hx,hy,Instr.index,asIntOf,run_underlying hu,h0,h1,part,nZ hA,dQ hc,hv]
theorem lO {E : TypeId} {len c : Nat} {cs us : Array Value} (hu : P.underlying T = some (.array len E)) (hA : eP P E true) (hc : dG P E c) (hx : ev l x = .agg cs) (hy : ev l y = .int k m) (h0 : 0 ≤ m) (h1 : m < len) (hv : cs.extract (m.toNat * c) (m.toNat * c + c) = us) :
 fC P l (.index T x y) ty (.agg us):=fun w o ho _=>by
 subst hv;simp [execOp,ho,cM,hx,hy,Instr.index,asIntOf,run_underlying hu,h0,h1,part,nZ hA,dQ hc]
theorem pA {s : ByteArray} {b : UInt8} (hu : P.underlying T = some .string) (hx : ev l x = .string s) (hy : ev l y = .int k m) (h0 : 0 ≤ m) (hb : s[m.toNat]? = some b) :
 fC P l (.index T x y) ty (.int .u8 b.toNat):=fun w o ho _=>by
 simp [execOp,ho,cM,hx,hy,Instr.index,asIntOf,run_underlying hu,h0,hb]
theorem rJ {E : TypeId} {A : Option Addr} {len cap c : Nat} (hu : P.underlying T = some (.slice E)) (hc : dG P E c) {q : Nat} (hx : ev l x = .slice A len cap) (hy : ev l y = .int k m) (hq : m.toNat = q) (h0 : 0 ≤ m) (h1 : m ≤ cap) :
 fC P l (.slice T x none (some y) none) ty (.slice A q cap):=fun w o ho _=>by
 subst hq;have e : (if cap = 0 then A else Option.map (fun a=>a.add 0) A) = A:=by
  split
  · rfl
  · cases A <;> simp [Addr.add]
 have h1' : ¬ (m.toNat : Int) > cap:=by omega
 simp [execOp,ho,cM,hx,hy,Instr.sliceAt,Instr.slice,Instr.sliceBounds,Instr.sliceBound,asIntOf,run_underlying hu,h0,h1,dQ hc];intro _;cases A <;> simp [Addr.add]
theorem vQ {E : TypeId} {A A' : Option Addr} {len cap c : Nat} (hu : P.underlying T = some (.slice E)) (hc : dG P E c) {q : Nat} (hx : ev l x = .slice A len cap) (hy : ev l y = .int k m) (hq : m.toNat = q) (h0 : 0 ≤ m) (h1 : m ≤ len) (hA : (if cap = q then A else A.map (·.add (q * c))) = A') :
 fC P l (.slice T x (some y) none none) ty (.slice A' (len - q) (cap - q)):=fun w o ho _=>by
 subst hq;subst hA;simp [execOp,ho,cM,hx,hy,Instr.sliceAt,Instr.slice,Instr.sliceBounds,Instr.sliceBound,asIntOf,run_underlying hu,h0,h1,dQ hc]
theorem aaF {s : ByteArray} (hu : P.underlying T = some .string) (hx : ev l x = .string s) (hy : ev l y = .int k m) (h0 : 0 ≤ m) (h1 : m ≤ s.size) :
 fC P l (.slice T x (some y) none none) ty (.string (s.extract m.toNat s.size)):=fun w o ho _=>by
 simp [execOp,ho,cM,hx,hy,Instr.sliceAt,Instr.slice,Instr.sliceBounds,Instr.sliceBound,asIntOf,run_underlying hu,h0,h1]
variable {ops : Array Oper} {Q : Exit → Act → World → Prop} {rest : List Oper} {d : Nat} {pos : String} {after : Array Edge} {w : World}
theorem vR {E : TypeId} {b : Nat} {kc : IntKind} {z : Value} (hu : P.underlying T = some (.slice E)) (hi : (P.info? E).map (fun i=>(i.size,i.bytes,i.zero)) = some (1,b,some z)) (hzc : z.cells = #[z]) {q q' : Nat} (hx : ev l x = .int k m) (hy : ev l y = .int kc n) (hq : m.toNat = q) (hq' : n.toNat = q') (h0 : 0 ≤ m) (h1 : m ≤ n) (hn : n ≤ 9223372036854775807) (hb : (b : Int) * n ≤ 281474976710656)
 (h : ∀ w' g,eB w w' → w.heap.size ≤ g → fF w' g (List.replicate q' z) E → wpList P ops Q rest (Fr (l.set d (.slice (some ⟨g,0,none⟩) q q')) ds) w') :
 wpList P ops Q (Oper.mk (some d) (.makeSlice T x y) ty pos after none :: rest) (Fr l ds) w:=by
 subst hq;subst hq';cases hq : P.info? E with
 | none=>rw [hq] at hi;cases hi
 | some i =>
  rw [hq] at hi;simp only[Option.map_some,Option.some.injEq,Prod.mk.injEq] at hi;obtain ⟨e1,e2,e3⟩:=hi;subst e2;have hr:=run_make (P:=P) w T E i z hu hq e3 k kc m n h0 h1 hb hn;have hc : madeCells z.cells (n.toNat * i.size) = (List.replicate n.toNat z).toArray:=by
   rw [e1,hzc,Nat.mul_one];apply Array.ext';rw [toList_madeCells_one]
  rw [hc] at hr;exact jN (fun o ho _=>by simp [execOp,ho,cM,hx,hy,hr]) (h _ _ ((eB.refl w).alloc _) (Nat.le_refl _) (gU w _ E))
def afu (w : World) (base : Nat) (e : TypeId) (size : Nat) (v : Value) (n : Nat) (xs : List Value) : Prop:=w.ownsRow base e size v n xs
theorem afu.row {w : World} {base : Nat} {e : TypeId} {size : Nat} {v : Value} {n : Nat} {xs : List Value} (h : afu w base e size v n xs) : (v = .slice none 0 0 ∧ n = 0 ∧ xs = []) ∨ ∃ g cap,v = .slice (some ⟨g,0,none⟩) n cap ∧ base ≤ g ∧ n ≤ cap ∧ cap ≤ maxLen ∧ g < w.heap.size ∧ mP w ⟨g,0,none⟩ xs:=by
 rcases h.2 with ⟨rfl,rfl⟩ | ⟨g,cap,cur,rfl,hbg,hg,h1,h2,h3,h4⟩
 · exact .inl ⟨rfl,rfl,List.eq_nil_of_length_eq_zero (by simpa using h.1)⟩
 · refine .inr ⟨g,cap,rfl,hbg,h1,h2,(Array.getElem?_eq_some_iff.1 hg).1,fun j u hj=>?_⟩
   rw [lC,Nat.zero_add,cell_of_row w g j cur e (0,0) hg];rw [← h4,List.getElem?_take] at hj;split at hj
   · simpa using hj
   · cases hj
end
section
variable {P : Program} {ds : List Deferred} {l : List Value} {x y : Operand} {T T' ty : TypeId} {k : IntKind} {m n r : Int}
theorem bF (hx : ev l x = .int k m) (hy : ev l y = .int k n) (h : m < n) : fC P l (.binOp .lss T x y T') ty (.bool true):=by
 have:=cW (P:=P) (T:=T) (T':=T') (ty:=ty) hx hy;rwa [decide_eq_true h] at this
theorem dM (hx : ev l x = .int k m) (hy : ev l y = .int k n) (h : ¬ m < n) : fC P l (.binOp .lss T x y T') ty (.bool false):=by
 have:=cW (P:=P) (T:=T) (T':=T') (ty:=ty) hx hy;rwa [decide_eq_false h] at this
theorem aaG (hx : ev l x = .int k m) (hy : ev l y = .int k n) (h : n < m) : fC P l (.binOp .gtr T x y T') ty (.bool true):=by
 have:=lD (P:=P) (T:=T) (T':=T') (ty:=ty) hx hy;rwa [decide_eq_true h] at this
theorem aaH (hx : ev l x = .int k m) (hy : ev l y = .int k n) (h : ¬ n < m) : fC P l (.binOp .gtr T x y T') ty (.bool false):=by
 have:=lD (P:=P) (T:=T) (T':=T') (ty:=ty) hx hy;rwa [decide_eq_false h] at this
theorem afv (hx : ev l x = .int k m) (hy : ev l y = .int k n) (h : n ≤ m) : fC P l (.binOp .geq T x y T') ty (.bool true):=by
 have:=tJ (P:=P) (T:=T) (T':=T') (ty:=ty) hx hy;rwa [decide_eq_true h] at this
theorem afw (hx : ev l x = .int k m) (hy : ev l y = .int k n) (h : ¬ n ≤ m) : fC P l (.binOp .geq T x y T') ty (.bool false):=by
 have:=tJ (P:=P) (T:=T) (T':=T') (ty:=ty) hx hy;rwa [decide_eq_false h] at this
theorem qQ (hx : ev l x = .int k m) (hy : ev l y = .int k n) (h : m = n) : fC P l (.binOp .eql T x y T') ty (.bool true):=by
 have:=tY (P:=P) (T:=T) (T':=T') (ty:=ty) hx hy;rwa [decide_eq_true h] at this
theorem By (hx : ev l x = .int k m) (hy : ev l y = .int k n) (h : ¬ m = n) : fC P l (.binOp .eql T x y T') ty (.bool false):=by
 have:=tY (P:=P) (T:=T) (T':=T') (ty:=ty) hx hy;rwa [decide_eq_false h] at this
theorem eK {c : Operand} (hc : ev l c = .bool true) : fC P l (.pick c x y) ty (ev l x):=Ln hc
theorem iB {c : Operand} (hc : ev l c = .bool false) : fC P l (.pick c x y) ty (ev l y):=Ln hc
theorem afx {op : Op} {v u : Value} (h : fC P l op ty v) (e : v = u) : fC P l op ty u:=e ▸ h
end
def pB : List Value → List Nat → (Nat → Value) → List Value
 | l,t :: ts,g=>pB (l.set t (g t)) ts g
 | l,[],_=>l
theorem Xs {l : List Value} {t : Nat} {ts : List Nat} {g : Nat → Value} : pB l (t :: ts) g = pB (l.set t (g t)) ts g:=rfl
theorem aiH {l : List Value} {g : Nat → Value} : pB l [] g = l:=rfl
theorem Xt : ∀ (ts : List Nat) (l : List Value),pB l ts (l.getD · undef) = l:=by
 intro ts;have key : ∀ (ts : List Nat) (l : List Value) (g : Nat → Value),(∀ t,l.set t (g t) = l) → pB l ts g = l:=by
  intro ts
  induction ts with
  | nil=>intro l g _;rfl
  | cons t ts ih=>intro l g h;rw [Xs,h t];exact ih l g h
 exact fun l=>key ts l _ fun t=>Of
section
variable {P : Program} {ds : List Deferred} {l : List Value}
theorem bT {c : Code} {Q : Exit → Act → World → Prop} {w : World} (ts ss : List Nat) (I : Nat → List Value → World → Prop) (h0 : ∃ n,I n (ts.map (l.getD · undef)) w)
 (hr : ∀ n vs w,I n vs w → ∀ g : Nat → Value,c.wp P (Exit.then (fun a' w'=>∃ n' l',n' < n ∧ a' = Fr l' ∧ pB (fN l ts (ts.map (l'.getD · undef))) ss (l'.getD · undef) = l' ∧ I n' (ts.map (l'.getD · undef)) w') Q) (Fr (pB (fN l ts vs) ss g)) w) : (Code.loop c).wp P Q (Fr l) w:=by
 obtain ⟨n0,h0⟩:=h0
 let J : Nat → Act → World → Prop:=fun n a w=>∃ vs g,a = Fr (pB (fN l ts vs) ss g) ∧ I n vs w
 have hJ0 : ∃ n,J n (Fr l) w:=⟨n0,_,(l.getD · undef),by rw [yR,Xt],h0⟩
 let μ : Act → World → Nat:=fun a w=>@dite _ (∃ n,J n a w) (Classical.propDecidable _) (fun h=>Fl (fun n=>J n a w) h) (fun _=>0)
 refine wp_loop (fun a w=>∃ n,J n a w) μ hJ0 ?_;intro a w hI;obtain ⟨vs,g,rfl,hIv⟩:=Og hI;refine Code.wp_mono ?_ (hr _ vs w hIv g);intro e a' w' hq;cases e with
 | normal =>
  obtain ⟨n',l',hlt,rfl,he,hI'⟩:=hq;have hJ : J n' (Fr l') w':=⟨_,(l'.getD · undef),by rw [he],hI'⟩
  refine ⟨⟨n',hJ⟩,?_⟩;have e1 : μ (Fr l') w' = Fl (fun n=>J n (Fr l') w') ⟨n',hJ⟩:=by simp only[μ];rw [dif_pos ⟨n',hJ⟩]
  have e2 : μ (Fr (pB (fN l ts vs) ss g)) w = Fl (fun n=>J n (Fr (pB (fN l ts vs) ss g)) w) hI:=by simp only[μ];rw [dif_pos hI]
  rw [e1,e2];exact Nat.lt_of_le_of_lt (Xr _ hJ) hlt
 | exit id=>exact hq
 | goto id=>exact hq
 | ret=>exact hq
 | panic ch=>exact hq
 | outgrown=>exact hq
end
section
variable {P : Program} {ds : List Deferred} {l : List Value} {ops : Array Oper} {Q : Exit → Act → World → Prop} {w : World} {rest : List (Oper × Bool)} {d : Nat} {op : Op} {ty : TypeId} {pos : String} {after : Array Edge} {v : Value}
theorem cN {Q : Exit → Act → World → Prop} (h : ∀ c (t : Array Value) ds (t' : Array Value) w,Q (.panic c) { tmps:=t,defers:=ds } w → Q (.panic c) { tmps:=t',defers:=ds } w) : ∀ c d v a w,Q (.panic c) (Act.put a d v) w → Q (.panic c) a w:=by
 intro c d v a w hq;cases d with
 | none=>exact hq
 | some d=>exact h c _ _ _ w hq
end
end Go.Lith
namespace Go.Lith
/-! ### Digits -/
def val (B : Nat) : List Nat → Nat
 | []=>0
 | x :: xs=>x + B * val B xs
def trim : List Nat → List Nat
 | []=>[]
 | x :: xs=>if trim xs = [] ∧ x = 0 then [] else x :: trim xs
def fW (B : Nat) (xs : List Nat) : Prop:=∀ x ∈ xs,x < B
theorem pC (B : Nat) : ∀ xs ys : List Nat,val B (xs ++ ys) = val B xs + B ^ xs.length * val B ys
 | [],ys=>by simp [val]
 | x :: xs,ys=>by simp only[List.cons_append,val,pC B xs ys,List.length_cons,Nat.pow_succ];grind
theorem Fm {B : Nat} : ∀ {xs : List Nat},fW B xs → val B xs < B ^ xs.length
 | [],_=>by simp [val]
 | x :: xs,h=>by
  have h1 : x < B:=h x (by simp);have h2:=Fm (xs:=xs) fun y hy=>h y (by simp [hy]);simp only[val,List.length_cons,Nat.pow_succ];have h3 : val B xs + 1 ≤ B ^ xs.length:=h2;have:=Nat.mul_le_mul_left B h3
  grind
theorem Fo (B : Nat) : ∀ xs : List Nat,val B (trim xs) = val B xs
 | []=>rfl
 | x :: xs=>by
  have ih:=Fo B xs;simp only[trim];split
  · rename_i h;rw [h.1] at ih;simp only[val] at ih ⊢;rw [← ih,h.2];simp
  · simp only[val,ih]
theorem jW : ∀ xs : List Nat,trim xs = xs.take (trim xs).length
 | []=>rfl
 | x :: xs=>by
  simp only[trim];split
  · rfl
  · simp only[List.length_cons,List.take_succ_cons];rw [← jW xs]
theorem fW.take {B : Nat} {xs : List Nat} (h : fW B xs) (n : Nat) : fW B (xs.take n):=fun x hx=>h x (List.mem_of_mem_take hx)
theorem fW.trim {B : Nat} {xs : List Nat} (h : fW B xs) : fW B (trim xs):=by rw [jW];exact h.take _
theorem fW.append {B : Nat} {xs ys : List Nat} (h : fW B xs) (k : fW B ys) : fW B (xs ++ ys):=fun x hx=>by
 rcases List.mem_append.1 hx with h' | h'
 · exact h x h'
 · exact k x h'
theorem Oh (B : Nat) : fW B []:=fun _ h=>by cases h
theorem Xu {B x : Nat} {xs : List Nat} (hx : x < B) (h : fW B xs) : fW B (x :: xs):=fun y hy=>by
 rcases List.mem_cons.1 hy with rfl | h'
 · exact hx
 · exact h y h'
theorem fW.set {B : Nat} {xs : List Nat} (h : fW B xs) {i x : Nat} (hx : x < B) : fW B (xs.set i x):=fun y hy=>by
 rcases List.mem_or_eq_of_mem_set hy with h' | rfl
 · exact h y h'
 · exact hx
theorem fW.get {B : Nat} {xs : List Nat} (h : fW B xs) {i x : Nat} (hi : xs[i]? = some x) : x < B:=h x (List.mem_of_getElem? hi)
def iC (xs : List Nat) : Prop:=trim xs = xs
theorem Jp : ∀ xs : List Nat,trim (trim xs) = trim xs
 | []=>rfl
 | x :: xs=>by
  have ih:=Jp xs;simp only[trim];split
  · rfl
  · rename_i h;simp only[trim,ih];rw [if_neg h]
theorem Lp (xs : List Nat) : iC (trim xs):=Jp xs
theorem iC.tail {x : Nat} {xs : List Nat} (h : iC (x :: xs)) : iC xs:=by
 unfold iC at *
 simp only[trim] at h;split at h
 · cases h
 · simpa using h
theorem Er {B : Nat} (hB : 0 < B) : ∀ {xs : List Nat},iC xs → xs ≠ [] → 0 < val B xs
 | [],_,h=>absurd rfl h
 | x :: xs,ht,_=>by
  simp only[val];by_cases hx : xs = []
  · subst hx
    have : x ≠ 0:=by
     rintro rfl;simp [iC,trim] at ht
    omega
  · have:=Nat.mul_pos hB (Er hB ht.tail hx)
    omega
theorem uC {B : Nat} (hB : 1 < B) : ∀ {xs ys : List Nat},fW B xs → fW B ys → iC xs → iC ys → val B xs = val B ys → xs = ys
 | [],[],_,_,_,_,_=>rfl
 | [],y :: ys,_,_,_,hy,h=>by have:=Er (B:=B) (by omega) hy (by simp);rw [← h] at this;simp [val] at this
 | x :: xs,[],_,_,hx,_,h=>by have:=Er (B:=B) (by omega) hx (by simp);rw [h] at this;simp [val] at this
 | x :: xs,y :: ys,hx,hy,tx,ty,h=>by
  simp only[val] at h;have h1 : x < B:=hx x (by simp);have h2 : y < B:=hy y (by simp);have e1 : x = y:=by
   have:=congrArg (· % B) h;simpa [Nat.add_mul_mod_self_left,Nat.mod_eq_of_lt h1,Nat.mod_eq_of_lt h2] using this
  subst e1;have e2 : val B xs = val B ys:=by
   have : B * val B xs = B * val B ys:=by omega
   exact Nat.eq_of_mul_eq_mul_left (by omega) this
  rw [uC hB (fun z hz=>hx z (by simp [hz])) (fun z hz=>hy z (by simp [hz])) tx.tail ty.tail e2]
def Jq (B : Nat) : Nat → Nat → List Nat
 | 0,_=>[]
 | f + 1,n=>if n = 0 then [] else (n % B) :: Jq B f (n / B)
def digs (B n : Nat) : List Nat:=Jq B n n
theorem sG {B : Nat} (hB : 1 < B) : ∀ (f n : Nat),n ≤ f → val B (Jq B f n) = n ∧ fW B (Jq B f n) ∧ iC (Jq B f n)
 | 0, n, h => by
  obtain rfl : n = 0 := by omega
  exact ⟨rfl,Oh B,rfl⟩
 | f + 1,n,h=>by
  simp only[Jq];split
  · rename_i h0;exact ⟨by simp [val,h0],Oh B,rfl⟩
  · rename_i h0
    have hlt : n / B ≤ f:=by
     have:=Nat.div_lt_self (Nat.pos_of_ne_zero h0) hB;omega
    obtain ⟨h1,h2,h3⟩:=sG hB f (n / B) hlt;refine ⟨by simp only[val,h1];exact Nat.mod_add_div n B,Xu (Nat.mod_lt _ (by omega)) h2,?_⟩;unfold iC at *
    simp only[trim,h3];rw [if_neg];rintro ⟨h4,h5⟩;rw [h4] at h1;simp only[val] at h1;have:=Nat.mod_add_div n B;rw [h5,← h1] at this;omega
theorem pD {B : Nat} (hB : 1 < B) (n : Nat) : val B (digs B n) = n:=(sG hB n n (Nat.le_refl _)).1
theorem rK {B : Nat} (hB : 1 < B) (n : Nat) : fW B (digs B n):=(sG hB n n (Nat.le_refl _)).2.1
theorem oA {B : Nat} (hB : 1 < B) (n : Nat) : iC (digs B n):=(sG hB n n (Nat.le_refl _)).2.2
theorem yS {B : Nat} (hB : 1 < B) {xs : List Nat} (h : fW B xs) {n : Nat} (hv : val B xs = n) : trim xs = digs B n :=
 uC hB h.trim (rK hB n) (Lp xs) (oA hB n) (by rw [Fo,pD hB,hv])
theorem uD {B n : Nat} (hB : 1 < B) : digs B n = [] ↔ n = 0:=by
 constructor
 · intro h;rw [← pD hB n,h];rfl
 · rintro rfl;rfl
theorem lP {B n k : Nat} (hB : 1 < B) (h : n < B ^ k) : (digs B n).length ≤ k:=by
 rcases Nat.lt_or_ge k (digs B n).length with hlt | hge
 · exfalso
   have hne : (digs B n) ≠ []:=by intro h';rw [h'] at hlt;simp at hlt
   -- the greatest digit is not 0
   have key : ∀ xs : List Nat,iC xs → xs ≠ [] → B ^ (xs.length - 1) ≤ val B xs:=by
    intro xs
    induction xs with
    | nil=>intro _ h;exact absurd rfl h
    | cons x xs ih =>
     intro ht _;by_cases hx : xs = []
     · subst hx
       have:=Er (B:=B) (by omega) ht (by simp);simp [val] at this ⊢;omega
     · have:=ih ht.tail hx
       have h2 : xs.length ≠ 0:=by simpa using hx
       simp only[List.length_cons,val,Nat.add_sub_cancel];have e : xs.length = (xs.length - 1) + 1:=by omega
       rw [e,Nat.pow_succ];have:=Nat.mul_le_mul_left B this
       grind
   have:=key _ (oA hB n) hne;rw [pD hB] at this;have h3 : B ^ k ≤ B ^ ((digs B n).length - 1):=Nat.pow_le_pow_right (by omega) (by omega);omega
 · exact hge
/-! ### Numbers as values -/
def iG (n : Int) : Bool:=decide (n < 0)
def jX (n : Nat) : List UInt8:=(digs 256 n).reverse.map UInt8.ofNat
def nE (n : Int) : ByteArray:=⟨(jX n.natAbs).toArray⟩
def W (n : Int) : Value:=.agg #[.bool (iG n),.string (nE n)]
def Bd (k : Nat) (n : Int) : Prop:=n.natAbs < 2 ^ k
theorem Bd.mono {a b : Nat} {n : Int} (h : Bd a n) (hab : a ≤ b) : Bd b n:=Nat.lt_of_lt_of_le h (Nat.pow_le_pow_right (by omega) hab)
theorem Bd.neg {a : Nat} {n : Int} (h : Bd a n) : Bd a (-n):=by unfold Bd at *;rwa [Int.natAbs_neg]
theorem Bd.add {a b : Nat} {m n : Int} (h : Bd a m) (k : Bd b n) : Bd (max a b + 1) (m + n):=by
 unfold Bd at *
 have h1 : (m + n).natAbs ≤ m.natAbs + n.natAbs:=Int.natAbs_add_le m n;have h2 : 2 ^ a ≤ 2 ^ max a b:=Nat.pow_le_pow_right (by omega) (Nat.le_max_left a b);have h3 : 2 ^ b ≤ 2 ^ max a b:=Nat.pow_le_pow_right (by omega) (Nat.le_max_right a b);rw [Nat.pow_succ];omega
theorem Bd.sub {a b : Nat} {m n : Int} (h : Bd a m) (k : Bd b n) : Bd (max a b + 1) (m - n):=by rw [Int.sub_eq_add_neg];exact h.add k.neg
theorem Bd.mul {a b : Nat} {m n : Int} (h : Bd a m) (k : Bd b n) : Bd (a + b) (m * n):=by
 unfold Bd at *
 rw [Int.natAbs_mul,Nat.pow_add];exact Nat.mul_lt_mul_of_lt_of_lt h k
theorem Bd.of_i64 {n : Int} (h0 : -9223372036854775808 ≤ n) (h1 : n ≤ 9223372036854775807) : Bd 64 n:=by
 unfold Bd;omega
theorem Es (k : Nat) : Bd k 0:=by unfold Bd;exact Nat.two_pow_pos k
theorem Js (n : Int) : (nE n).size = (digs 256 n.natAbs).length:=by simp [nE,ByteArray.size,jX]
theorem Lr {k : Nat} {n : Int} (h : Bd k n) : (nE n).size ≤ k:=by
 rw [Js];refine lP (by omega) (Nat.lt_of_lt_of_le h ?_);rw [show 256 = 2 ^ 8 from rfl,← Nat.pow_mul];exact Nat.pow_le_pow_right (by omega) (by omega)
theorem Oi {m n : Nat} (h : jX m = jX n) : m = n:=by
 have key : ∀ k,val 256 (((jX k).map UInt8.toNat).reverse) = k:=by
  intro k;have e : ((jX k).map UInt8.toNat).reverse = digs 256 k:=by
   unfold jX;rw [List.map_map,← List.map_reverse,List.reverse_reverse];have : ∀ x ∈ digs 256 k,(UInt8.toNat ∘ UInt8.ofNat) x = x:=by
    intro x hx;have:=rK (B:=256) (by omega) k x hx;simp;omega
   exact (List.map_congr_left this).trans (List.map_id' _)
  rw [e,pD (by omega)]
 rw [← key m,← key n,h]
theorem aiI {m n : Int} (h : W m = W n) : m = n:=by
 simp only[W,Value.agg.injEq,Array.mk.injEq,List.cons.injEq,Value.bool.injEq,Value.string.injEq,and_true] at h;obtain ⟨h1,h2⟩:=h;have h3 : m.natAbs = n.natAbs:=by
  have : jX m.natAbs = jX n.natAbs:=by simpa [nE] using h2
  exact Oi this
 unfold iG at h1;have : (m < 0) ↔ (n < 0):=by simpa using h1
 omega
end Go.Lith
namespace Go.Lith
structure iN (w : World) (A : Option Addr) (n cap : Nat) (xs : List Nat) : Prop where
 eq : n = xs.length
 row : ∀ (i x : Nat),xs[i]? = some x → ∃ a,A = some a ∧ w.cell? (a.add i) = some (.int .u64 (x : Int))
 le : xs.length ≤ cap
 cap : cap ≤ 9223372036854775807
 len : xs.length ≤ 17592186044416
 digs : fW 4294967296 xs
section
variable {w : World} {A : Option Addr} {n cap : Nat} {xs : List Nat}
theorem iN.ext {w' : World} (h : iN w A n cap xs) (hE : eB w w') : iN w' A n cap xs :=
 ⟨h.eq,fun i x hi=>let ⟨a,e,hc⟩:=h.row i x hi;⟨a,e,hE.cell hc⟩,h.le,h.cap,h.len,h.digs⟩
theorem iN.take (h : iN w A n cap xs) (k : Nat) : iN w A (xs.take k).length cap (xs.take k) :=
 ⟨rfl,fun i x hi=>h.row i x (by rw [List.getElem?_take] at hi;split at hi;exact hi;cases hi),Nat.le_trans (by simp;omega) h.le,h.cap,Nat.le_trans (by simp;omega) h.len,h.digs.take k⟩
theorem iN.get (h : iN w A n cap xs) {i : Nat} (hi : i < xs.length) : ∃ a,A = some a ∧ w.cell? (a.add i) = some (.int .u64 ((xs[i] : Nat) : Int)) ∧ xs[i] < 4294967296 :=
 let ⟨a,e,hc⟩:=h.row i xs[i] (List.getElem?_eq_getElem hi);⟨a,e,hc,h.digs _ (List.getElem_mem hi)⟩
theorem iN.as (h : iN w A n cap xs) {ys : List Nat} (e : xs = ys) : iN w A n cap ys:=e ▸ h
end
theorem pE : ∀ ys : List Nat,trim (ys ++ [0]) = trim ys
 | []=>by simp [trim]
 | y :: ys=>by simp only[List.cons_append,trim,pE ys]
theorem qR {x : Nat} (hx : x ≠ 0) : ∀ ys : List Nat,trim (ys ++ [x]) = ys ++ [x]
 | []=>by simp [trim,hx]
 | y :: ys=>by simp only[List.cons_append,trim,qR hx ys];rw [if_neg (by simp)]
theorem Jt {xs : List Nat} {k : Nat} (hk : 0 < k) (h : k - 1 < xs.length) : xs.take k = xs.take (k - 1) ++ [xs[k - 1]]:=by
 have e : k = (k - 1) + 1:=by omega
 conv=>lhs;rw [e]
 rw [List.take_succ_eq_append_getElem h]
theorem Xv {xs : List Nat} {k : Nat} (hk : 0 < k) (h : k - 1 < xs.length) (h0 : ((xs[k-1] : Nat) : Int) = 0) (ht : trim (xs.take k) = trim xs) : trim (xs.take (k - 1)) = trim xs:=by
 rw [← ht,Jt hk h,show xs[k-1] = 0 by omega,pE]
theorem aaI {xs : List Nat} {k : Nat} (hk : 0 < k) (h : k - 1 < xs.length) (h0 : ¬ ((xs[k-1] : Nat) : Int) = 0) (ht : trim (xs.take k) = trim xs) : k = (trim xs).length:=by
 rw [← ht,Jt hk h,qR (by omega)];simp;omega
theorem aaJ {xs : List Nat} (ht : trim (xs.take 0) = trim xs) : 0 = (trim xs).length:=by rw [← ht];rfl
/-! ### Words in a block -/
abbrev Bz (x : Nat) : Value:=.int .u64 (x : Int)
theorem jQ {os : List Nat} {i d : Nat} (hi : i < os.length) : bB (os.map Bz) i [Bz d] = (os.set i d).map Bz:=by
 unfold bB;rw [List.set_eq_take_append_cons_drop,if_pos hi];simp [List.map_take,List.map_drop]
theorem kN (n : Nat) : List.replicate n (Value.int .u64 0) = (List.replicate n 0).map Bz:=by simp [Bz]
theorem fF.word {w : World} {g : Nat} {os : List Nat} {t : TypeId} (h : fF w g (os.map Bz) t) {i : Nat} (hi : i < os.length) : w.cell? ⟨g,i,none⟩ = some (.int .u64 ((os[i] : Nat) : Int)) :=
 h.cell (by simp [hi])
theorem fF.nat {w : World} {g : Nat} {os : List Nat} {t : TypeId} (h : fF w g (os.map Bz) t) (hd : fW 4294967296 os) {n : Nat} (hn : n = os.length) (hl : n ≤ 17592186044416) : iN w (some ⟨g,0,none⟩) n n os :=
 ⟨hn,fun i x hi=>⟨_,rfl,by rw [lC,Nat.zero_add];exact h.cell (by simp [hi])⟩,by omega,by omega,by omega,hd⟩
def mG (n : Nat) (v : Value) (w : World) : Prop:=∃ A cap,v = .slice A (digs 4294967296 n).length cap ∧ iN w A (digs 4294967296 n).length cap (digs 4294967296 n)
theorem mG.of_trim {w : World} {A : Option Addr} {xs : List Nat} {k cap n : Nat} (h : iN w A k cap xs) (hv : val 4294967296 xs = n) : mG n (.slice A (trim xs).length cap) w:=by
 have e : trim xs = digs 4294967296 n:=yS (by omega) h.digs hv;refine ⟨A,cap,by rw [e],?_⟩;have h':=h.take (trim xs).length;rw [← jW,e] at h';exact h'
def yT (w : World) (v : Value) : Prop:=∀ a n c,v = .slice (some a) n c → w.heap.size ≤ a.block
theorem yT.of_blk {w : World} {g off n c : Nat} (h : w.heap.size ≤ g) : yT w (.slice (some ⟨g,off,none⟩) n c):=fun a n' c' e=>by cases e;exact h
theorem Ca (a : Addr) (i : Nat) : (a.add i).block = a.block:=by unfold Addr.add;split <;> rfl
/-! ### Sums of digits -/
theorem vS {B : Nat} : ∀ {os : List Nat} {j d : Nat} (hj : j < os.length),val B (os.set j d) + B ^ j * os[j] = val B os + B ^ j * d
 | x :: xs,0,d,_=>by simp [val];omega
 | x :: xs,j + 1,d,h=>by
  have ih:=vS (B:=B) (os:=xs) (j:=j) (d:=d) (by simpa using h);simp only[List.set_cons_succ,val,List.getElem_cons_succ,Nat.pow_succ];have:=congrArg (B * ·) ih;simp only[Nat.mul_add] at this
  grind
theorem kO (B n : Nat) : val B (List.replicate n 0) = 0:=by
 induction n with
 | zero=>rfl
 | succ n ih=>simp [List.replicate_succ,val,ih]
theorem gS {B : Nat} {xs : List Nat} {i : Nat} (hi : i < xs.length) : val B (xs.take (i + 1)) = val B (xs.take i) + B ^ i * xs[i]:=by
 rw [List.take_succ_eq_append_getElem hi,pC,List.length_take,Nat.min_eq_left (by omega)];simp [val]
theorem lF {B : Nat} {xs : List Nat} {i : Nat} (hi : xs.length ≤ i) : val B (xs.take i) = val B xs:=by rw [List.take_of_length_le hi]
theorem qS {os : List Nat} {i d : Nat} : (os.set i d).drop (i + 1) = os.drop (i + 1):=by
 apply List.ext_getElem?;intro j;simp only[List.getElem?_drop];rw [List.getElem?_set_ne (by omega)]
theorem mQ {os : List Nat} {i n : Nat} (h : os.drop i = List.replicate n 0) (hi : i < os.length) : os[i] = 0 ∧ os.drop (i + 1) = List.replicate (n - 1) 0:=by
 rw [List.drop_eq_getElem_cons hi] at h;cases n with
 | zero=>cases h
 | succ n=>simp only[List.replicate_succ,List.cons.injEq] at h;exact ⟨h.1,by simpa using h.2⟩
theorem Oj {B : Nat} {os : List Nat} {i d c c' s t T : Nat} (hi : i < os.length) (hs : os[i] + s + c = d + B * c') (hT : val B os + B ^ i * c = T) (ht : T + B ^ i * s = t) :
 val B (os.set i d) + B ^ (i + 1) * c' = t:=by
 have h1:=vS (B:=B) (d:=d) hi;have h2:=congrArg (B ^ i * ·) hs;simp only[Nat.mul_add] at h2;rw [Nat.pow_succ]
 grind
/-! ### Order -/
def ord (a b : Nat) : Int:=if a < b then -1 else if b < a then 1 else 0
theorem Io {B : Nat} (hB : 1 < B) {xs ys : List Nat} {k : Nat} (hx : fW B xs) (hlx : k < xs.length) (hly : k < ys.length) (hd : xs.drop (k + 1) = ys.drop (k + 1)) (h : xs[k] < ys[k]) : val B xs < val B ys:=by
 have e1 : val B xs = val B (xs.take (k + 1)) + B ^ (k + 1) * val B (xs.drop (k + 1)):=by
  conv=>lhs;rw [← List.take_append_drop (k + 1) xs]
  rw [pC,List.length_take,Nat.min_eq_left (by omega)]
 have e2 : val B ys = val B (ys.take (k + 1)) + B ^ (k + 1) * val B (ys.drop (k + 1)):=by
  conv=>lhs;rw [← List.take_append_drop (k + 1) ys]
  rw [pC,List.length_take,Nat.min_eq_left (by omega)]
 rw [e1,e2,hd,gS hlx,gS hly];have h1:=Fm (hx.take k);rw [List.length_take,Nat.min_eq_left (by omega)] at h1;have h2 : B ^ k * (xs[k] + 1) ≤ B ^ k * ys[k]:=Nat.mul_le_mul_left _ h;rw [Nat.mul_add] at h2;omega
theorem rL {B : Nat} (hB : 1 < B) {xs ys : List Nat} (hx : fW B xs) (hy : fW B ys) (ty : iC ys) (h : xs.length < ys.length) : val B xs < val B ys:=by
 rcases Nat.lt_or_ge (val B xs) (val B ys) with hlt | hge
 · exact hlt
 · exfalso
   have e : ys = digs B (val B ys):=uC hB hy (rK hB _) ty (oA hB _) (by rw [pD hB]);have h1 : val B ys < B ^ xs.length:=Nat.lt_of_le_of_lt hge (Fm hx);have h2:=lP hB h1;rw [← e] at h2;omega
/-! ### The machine's numbers -/
theorem jC (x : Int) : IntKind.u64.wrap x = x % 18446744073709551616:=by simp [IntKind.wrap,IntKind.bits,IntKind.signed]
theorem mU {s : Int} (h0 : 0 ≤ s) (h1 : s < 18446744073709551616) : IntKind.u64.wrap ((BitVec.ofInt IntKind.u64.bits s &&& BitVec.ofInt IntKind.u64.bits 4294967295).toNat : Int) = s % 4294967296:=by
 obtain ⟨n,rfl⟩:=Int.eq_ofNat_of_zero_le h0;have hn : n < 18446744073709551616:=by omega
 have e : (BitVec.ofInt 64 (n : Int) &&& BitVec.ofInt 64 4294967295).toNat = n % 4294967296:=by
  rw [BitVec.toNat_and];have e1 : (BitVec.ofInt 64 (n : Int)).toNat = n:=by simp [BitVec.toNat_ofInt];omega
  have e2 : (BitVec.ofInt 64 4294967295).toNat = 2 ^ 32 - 1:=by decide
  rw [e1,e2,Nat.and_two_pow_sub_one_eq_mod]
 show IntKind.u64.wrap ((BitVec.ofInt 64 (n : Int) &&& BitVec.ofInt 64 4294967295).toNat : Int) = _
 rw [e,jP (by omega) (by omega)];omega
theorem Ju {s : Int} (h0 : 0 ≤ s) : s.fdiv (2 ^ (min (32 : Int).toNat IntKind.u64.bits)) = s / 4294967296:=by
 show s.fdiv (2 ^ 32) = _
 rw [Int.fdiv_eq_ediv_of_nonneg _ (by decide)];rfl
theorem aeY {s : Int} (h0 : 0 ≤ s) : s.fdiv (2 ^ (min (63 : Int).toNat IntKind.u64.bits)) = s / 9223372036854775808:=by
 show s.fdiv (2 ^ 63) = _
 rw [Int.fdiv_eq_ediv_of_nonneg _ (by decide)];rfl
/-! ### Addresses of words -/
theorem rM {a : Addr} {m : Int} {q : Nat} (h : m.toNat = q) : a.add (m.toNat * 1) = a.add q:=by rw [h,Nat.mul_one]
theorem dC {a : Addr} {m : Int} {c q : Nat} (h : m.toNat = q) : a.add (m.toNat * c) = a.add (q * c):=by rw [h]
theorem mH {g : Nat} {m : Int} {q : Nat} (h : m.toNat = q) : (⟨g,0,none⟩ : Addr).add (m.toNat * 1) = ⟨g,q,none⟩:=by rw [h,Nat.mul_one,lC,Nat.zero_add]
theorem lQ {g : Nat} {m : Int} {c q : Nat} (h : m.toNat = q) : (⟨g,0,none⟩ : Addr).add (m.toNat * c) = ⟨g,q * c,none⟩:=by rw [h,lC,Nat.zero_add]
theorem iN.at {w : World} {a : Addr} {xs : List Nat} {n cap : Nat} (h : iN w (some a) n cap xs) {i : Nat} (hi : i < xs.length) : w.cell? (a.add i) = some (.int .u64 ((xs[i] : Nat) : Int)):=by
 obtain ⟨a',e,hc⟩:=h.row i xs[i] (List.getElem?_eq_getElem hi);cases e;exact hc
/-! ### Rounds -/
theorem aaK {xs ys : List Nat} {k : Nat} (hx : fW 4294967296 xs) (hk : 0 < k) (hlx : k - 1 < xs.length) (hly : k - 1 < ys.length) (hd : xs.drop k = ys.drop k) (h : ((xs[k-1] : Nat) : Int) < ((ys[k-1] : Nat) : Int)) : val 4294967296 xs < val 4294967296 ys :=
 Io (by omega) hx hlx hly (by rw [show k - 1 + 1 = k by omega];exact hd) (by omega)
theorem Xw {xs ys : List Nat} {k : Nat} (hk : 0 < k) (hlx : k - 1 < xs.length) (hly : k - 1 < ys.length) (hd : xs.drop k = ys.drop k) (h1 : ¬ ((xs[k-1] : Nat) : Int) < ((ys[k-1] : Nat) : Int)) (h2 : ¬ ((ys[k-1] : Nat) : Int) < ((xs[k-1] : Nat) : Int)) : xs.drop (k - 1) = ys.drop (k - 1):=by
 rw [List.drop_eq_getElem_cons hlx,List.drop_eq_getElem_cons hly,show k - 1 + 1 = k by omega,hd,show xs[k-1] = ys[k-1] by omega]
theorem vT {os xs ys : List Nat} {i c s : Nat} (hi : i < xs.length) (hlo : os.length = xs.length + 1) (hv : val 4294967296 os + 4294967296 ^ i * c = val 4294967296 (xs.take i) + val 4294967296 (ys.take i)) (hz : os.drop i = List.replicate (xs.length + 1 - i) 0) (hd : fW 4294967296 os) (hc : c ≤ 1)
 (hs : s = xs[i] + c + ys[i]?.getD 0) (hx : xs[i] < 4294967296) (hy : ys[i]?.getD 0 < 4294967296) :
 val 4294967296 (os.set i (s % 4294967296)) + 4294967296 ^ (i + 1) * (s / 4294967296) = val 4294967296 (xs.take (i + 1)) + val 4294967296 (ys.take (i + 1)) ∧ (os.set i (s % 4294967296)).drop (i + 1) = List.replicate (xs.length + 1 - (i + 1)) 0 ∧ fW 4294967296 (os.set i (s % 4294967296)) ∧ s / 4294967296 ≤ 1:=by
 obtain ⟨z1,z2⟩:=mQ hz (by omega);refine ⟨?_,?_,hd.set (Nat.mod_lt _ (by omega)),by omega⟩
 · refine Oj (s:=xs[i] + ys[i]?.getD 0) (by omega) (by rw [z1];omega) hv ?_
   rw [gS hi];by_cases hy' : i < ys.length
   · rw [gS hy',List.getElem?_eq_getElem hy']
     simp only[Option.getD_some,Nat.mul_add];omega
   · rw [List.getElem?_eq_none (by omega),lF (xs:=ys) (i:=i + 1) (by omega),lF (xs:=ys) (i:=i) (by omega)]
     simp;omega
 · rw [qS,z2]
   congr 1
theorem Et {os xs ys : List Nat} {c : Nat} (hle : ys.length ≤ xs.length) (hlo : os.length = xs.length + 1) (hv : val 4294967296 os + 4294967296 ^ xs.length * c = val 4294967296 (xs.take xs.length) + val 4294967296 (ys.take xs.length)) (hz : os.drop xs.length = List.replicate (xs.length + 1 - xs.length) 0) :
 val 4294967296 (os.set xs.length c) = val 4294967296 xs + val 4294967296 ys:=by
 obtain ⟨z1,_⟩:=mQ hz (by omega);have h:=vS (B:=4294967296) (d:=c) (show xs.length < os.length by omega);rw [z1] at h;rw [List.take_length,lF hle] at hv;omega
theorem Jv {os xs ys : List Nat} {i c s : Nat} (hi : i < xs.length) (hlo : os.length = xs.length) (hv : val 4294967296 os + val 4294967296 (ys.take i) = val 4294967296 (xs.take i) + 4294967296 ^ i * c) (hz : os.drop i = List.replicate (xs.length - i) 0) (hd : fW 4294967296 os) (hc : c ≤ 1)
 (hs : (s : Int) = ((xs[i] : Nat) - (c : Nat) - (ys[i]?.getD 0 : Nat) : Int) % 18446744073709551616) (hx : xs[i] < 4294967296) (hy : ys[i]?.getD 0 < 4294967296) :
 val 4294967296 (os.set i (s % 4294967296)) + val 4294967296 (ys.take (i + 1)) = val 4294967296 (xs.take (i + 1)) + 4294967296 ^ (i + 1) * (s / 9223372036854775808) ∧ (os.set i (s % 4294967296)).drop (i + 1) = List.replicate (xs.length - (i + 1)) 0 ∧ fW 4294967296 (os.set i (s % 4294967296)) ∧ s / 9223372036854775808 ≤ 1:=by
 obtain ⟨z1,z2⟩:=mQ hz (by omega);have key : xs[i] + 4294967296 * (s / 9223372036854775808) = s % 4294967296 + c + ys[i]?.getD 0:=by omega
 refine ⟨?_,?_,hd.set (Nat.mod_lt _ (by omega)),by omega⟩
 · have h1:=vS (B:=4294967296) (d:=s % 4294967296) (show i < os.length by omega)
   rw [z1] at h1;have h2:=congrArg (4294967296 ^ i * ·) key;simp only[Nat.mul_add] at h2;rw [gS hi,Nat.pow_succ];have h3 : val 4294967296 (ys.take (i + 1)) = val 4294967296 (ys.take i) + 4294967296 ^ i * ys[i]?.getD 0:=by
    by_cases hy' : i < ys.length
    · rw [gS hy',List.getElem?_eq_getElem hy'];rfl
    · rw [List.getElem?_eq_none (by omega),lF (xs:=ys) (i:=i + 1) (by omega),lF (xs:=ys) (i:=i) (by omega)];rfl
   rw [h3]
   grind
 · rw [qS,z2]
   congr 1
theorem adu {os xs ys : List Nat} {c : Nat} (hle : ys.length ≤ xs.length) (hlo : os.length = xs.length) (hd : fW 4294967296 os) (hv : val 4294967296 os + val 4294967296 (ys.take xs.length) = val 4294967296 (xs.take xs.length) + 4294967296 ^ xs.length * c) (hge : val 4294967296 ys ≤ val 4294967296 xs) :
 val 4294967296 os = val 4294967296 xs - val 4294967296 ys:=by
 rw [List.take_length,lF hle] at hv;have h:=Fm hd;rw [hlo] at h;have hc : c = 0:=by
  rcases Nat.eq_zero_or_pos c with h0 | h0
  · exact h0
  · have:=Nat.mul_le_mul_left (4294967296 ^ xs.length) h0
    omega
 subst hc;omega
theorem Xx {os xs ys : List Nat} {i k c s : Nat} (hi : i < xs.length) (hk : k < ys.length) (hlo : os.length = xs.length + ys.length) (hv : val 4294967296 os + 4294967296 ^ (i + k) * c = val 4294967296 (xs.take i) * val 4294967296 ys + 4294967296 ^ i * (xs[i] * val 4294967296 (ys.take k)))
 (hs : s = os[i + k] + xs[i] * ys[k] + c) : val 4294967296 (os.set (i + k) (s % 4294967296)) + 4294967296 ^ (i + (k + 1)) * (s / 4294967296) = val 4294967296 (xs.take i) * val 4294967296 ys + 4294967296 ^ i * (xs[i] * val 4294967296 (ys.take (k + 1))):=by
 refine Oj (s:=xs[i] * ys[k]) (i:=i + k) (by omega) (by omega) hv ?_;rw [gS hk,Nat.pow_add]
 grind
theorem Ol {os : List Nat} {i j d : Nat} (h : i < j) : (os.set i d).drop j = os.drop j:=by
 apply List.ext_getElem?;intro m;simp only[List.getElem?_drop];rw [List.getElem?_set_ne (by omega)]
theorem adv {os xs ys : List Nat} {i c : Nat} (hi : i < xs.length) (hlo : os.length = xs.length + ys.length) (hv : val 4294967296 os + 4294967296 ^ (i + ys.length) * c = val 4294967296 (xs.take i) * val 4294967296 ys + 4294967296 ^ i * (xs[i] * val 4294967296 (ys.take ys.length))) (hz : os.drop (i + ys.length) = List.replicate (xs.length - i) 0) :
 val 4294967296 (os.set (i + ys.length) c) = val 4294967296 (xs.take (i + 1)) * val 4294967296 ys ∧ (os.set (i + ys.length) c).drop (i + 1 + ys.length) = List.replicate (xs.length - (i + 1)) 0:=by
 obtain ⟨z1,z2⟩:=mQ hz (by omega);have h:=vS (B:=4294967296) (d:=c) (show i + ys.length < os.length by omega);rw [z1] at h;rw [List.take_length] at hv;refine ⟨?_,?_⟩
 · rw [gS hi]
   grind
 · rw [show i + 1 + ys.length = i + ys.length + 1 by omega,qS,z2]
   congr 1
theorem afy {x y : Nat} (hx : x < 4294967296) (hy : y < 4294967296) : x * y ≤ 18446744065119617025:=by
 have:=Nat.mul_le_mul (Nat.le_sub_one_of_lt hx) (Nat.le_sub_one_of_lt hy);omega
theorem adw {x y : Nat} (hx : x < 4294967296) (hy : y < 4294967296) : (0 : Int) ≤ (x : Int) * (y : Int) ∧ (x : Int) * (y : Int) ≤ 18446744065119617025:=by
 have h:=afy hx hy;have e : ((x * y : Nat) : Int) = (x : Int) * (y : Int):=Int.natCast_mul x y;rw [← e];omega
/-! ### Shifts,divisions by a word -/
theorem adx {m n : Nat} (hn : n < 64) (h : m * 2 ^ n < 18446744073709551616) : IntKind.u64.wrap ((m : Int) * 2 ^ (min (n : Int).toNat IntKind.u64.bits)) = ((m * 2 ^ n : Nat) : Int):=by
 have e : min (n : Int).toNat IntKind.u64.bits = n:=by
  show min (n : Int).toNat 64 = n
  rw [Int.toNat_natCast];omega
 rw [e];have e2 : ((m : Int) * 2 ^ n) = ((m * 2 ^ n : Nat) : Int):=by simp
 rw [e2];exact jP (by omega) (by omega)
theorem afz {a b s c : Nat} (ha : a < 2 ^ s) (hb : b = 2 ^ s * c) (h : a + b < 18446744073709551616) : IntKind.u64.wrap ((BitVec.ofInt IntKind.u64.bits (a : Int) ||| BitVec.ofInt IntKind.u64.bits (b : Int)).toNat : Int) = ((a + b : Nat) : Int):=by
 have e : (BitVec.ofInt 64 (a : Int) ||| BitVec.ofInt 64 (b : Int)).toNat = a + b:=by
  rw [BitVec.toNat_or];have e1 : (BitVec.ofInt 64 (a : Int)).toNat = a:=by simp [BitVec.toNat_ofInt];omega
  have e2 : (BitVec.ofInt 64 (b : Int)).toNat = b:=by simp [BitVec.toNat_ofInt];omega
  rw [e1,e2,Nat.or_comm,hb,← Nat.two_pow_add_eq_or_of_lt ha];omega
 show IntKind.u64.wrap ((BitVec.ofInt 64 (a : Int) ||| BitVec.ofInt 64 (b : Int)).toNat : Int) = _
 rw [e];exact jP (by omega) (by omega)
theorem ady {a b s c : Nat} (ha : a < 2 ^ s) (hb : b = 2 ^ s * c) (h : a + b < 18446744073709551616) : IntKind.u64.wrap ((BitVec.ofInt IntKind.u64.bits (b : Int) ||| BitVec.ofInt IntKind.u64.bits (a : Int)).toNat : Int) = ((a + b : Nat) : Int):=by
 have:=afz ha hb h;rwa [BitVec.or_comm] at this
theorem Vv {s : Nat} (h : s < 18446744073709551616) : IntKind.u64.wrap ((BitVec.ofInt IntKind.u64.bits (s : Int) &&& BitVec.ofInt IntKind.u64.bits 4294967295).toNat : Int) = ((s % 4294967296 : Nat) : Int):=by
 rw [mU (by omega) (by omega)];omega
theorem adz {m n : Nat} : (m : Int).tmod (n : Int) = ((m % n : Nat) : Int):=(Int.ofNat_tmod m n).symm
theorem Ip {B : Nat} {xs : List Nat} {k : Nat} (hk : 0 < k) (h : k - 1 < xs.length) : val B (xs.drop (k - 1)) = xs[k - 1] + B * val B (xs.drop k):=by
 rw [List.drop_eq_getElem_cons h,show k - 1 + 1 = k by omega];rfl
end Go.Lith
namespace Go.Lith
open Go.RowKit
section
variable {P : Program} {ds : List Deferred} {l : List Value} {x y z0 : Operand} {T T' ty : TypeId}
theorem Om {A : Option Addr} {n c : Nat} {E : TypeId} (hu : P.underlying T = some (.slice E)) (hx : ev l x = .slice A n c) (hy : ev l y = .slice none 0 0) : fC P l (.binOp .eql T x y T') ty (.bool A.isNone):=fun w o ho _=>by
 obtain ⟨D,hD⟩ : ∃ D,Op.maxDepth = D + 1:=⟨9999,rfl⟩
 cases A <;> simp [execOp,ho,cM,hx,hy,eqGuard,binOp,Op.equal,hD,Op.equalIn,run_underlying hu]
variable {ops : Array Oper} {Q : Exit → Act → World → Prop} {rest : List Oper} {d : Nat} {pos : String} {after : Array Edge} {w : World}
theorem Ls : Array.map (fun (_ : Nat)=>(default : Value)) (Array.range 0) = #[]:=Array.eq_empty_of_size_eq_zero (by simp)
theorem yU (z v v2 : Value) : ((Array.map (fun x=>[z][x % 1]?.getD default) (Array.range 2)).setIfInBounds 0 v).setIfInBounds 1 v2 = #[v,v2]:=by
 apply Array.ext (by simp);intro i h1 h2;have h3 : i < 2:=by simpa using h2
 rcases Nat.lt_or_ge i 1 with h | h
 · obtain rfl : i = 0:=by omega
   simp
 · obtain rfl : i = 1:=by omega
   simp
theorem On {E : TypeId} {c : Nat} (hu : P.underlying T = some (.slice E)) (hi : (P.info? E).map (fun i=>i.size) = some c)
 (h : ∀ w' g,eB w w' → w.heap.size ≤ g → fF w' g [] E → wpList P ops Q rest (Fr (l.set d (.slice (some ⟨g,0,none⟩) 0 0)) ds) w') :
 wpList P ops Q (Oper.mk (some d) (.buildSlice T 0 #[]) ty pos after none :: rest) (Fr l ds) w:=by
 cases hq : P.info? E with
 | none=>rw [hq] at hi;cases hi
 | some i =>
  exact jN (w':=w.alloc (.cells #[] E)) (v:=.slice (some ⟨w.heap.size,0,none⟩) 0 0) (fun o ho _=>by simp [execOp,ho,Instr.buildSlice,run_underlying hu,sizeOf,typeInfo,hq,Instr.fill,newRow,newObj,Sem.run,Ls]) (h _ _ ((eB.refl w).alloc _) (Nat.le_refl _) (gU w [] E))
theorem Oo {E : TypeId} {z : Value} (hu : P.underlying T = some (.slice E)) (hi : (P.info? E).map (fun i=>(i.size,i.zero)) = some (1,some z)) (hz : z.cells = #[z]) {v v2 : Value} (hx : ev l x = v) (hv : v.cells = #[v]) (hy : ev l y = v2) (hv2 : v2.cells = #[v2])
 (h : ∀ w' g,eB w w' → w.heap.size ≤ g → fF w' g [v,v2] E → wpList P ops Q rest (Fr (l.set d (.slice (some ⟨g,0,none⟩) 2 2)) ds) w') :
 wpList P ops Q (Oper.mk (some d) (.buildSlice T 2 #[(0,x),(1,y)]) ty pos after none :: rest) (Fr l ds) w:=by
 cases hq : P.info? E with
 | none=>rw [hq] at hi;cases hi
 | some i =>
  rw [hq] at hi;simp only[Option.map_some,Option.some.injEq,Prod.mk.injEq] at hi;obtain ⟨e1,e2⟩:=hi;exact jN (w':=w.alloc (.cells #[v,v2] E)) (v:=.slice (some ⟨w.heap.size,0,none⟩) 2 2) (fun o ho _=>by simp [execOp,ho,Instr.buildSlice,run_underlying hu,sizeOf,typeInfo,zeroValue,hq,e1,e2,hz,cM,hx,hv,hy,hv2,Instr.fill,newRow,newObj,Sem.run,yU]) (h _ _ ((eB.refl w).alloc _) (Nat.le_refl _) (gU w [v,v2] E))
end
end Go.Lith
namespace Go.Lith
theorem Sk {m : Nat} : (m : Int).fdiv (2 ^ (min (32 : Int).toNat IntKind.u64.bits)) = ((m / 4294967296 : Nat) : Int):=by
 rw [Ju (by omega)];omega
/-! ### Slices of words -/
end Go.Lith
namespace Go.Lith
open Go.RowKit
theorem aiJ {P : Program} {l : List Value} {w : World} {fn : Func} {R : Ending → World → Prop} (hr : fn.results = #[]) (hR : R (.returned (.tuple #[])) w) : bodyPost P fn R .ret (Fr l) w:=by
 refine ⟨rfl,_,?_,hR⟩;unfold results;rw [hr];simp
theorem Jw {P : Program} {l : List Value} {w : World} {fn : Func} {R : Ending → World → Prop} (hr : fn.results = #[]) (hR : R (.returned (.tuple #[])) w) : bodyPost P fn R .normal (Fr l) w:=aiJ hr hR
section
variable {P : Program} {ds : List Deferred} {l : List Value} {x y : Operand} {ty : TypeId} {w : World}
variable {ops : Array Oper} {Q : Exit → Act → World → Prop} {rest : List Oper} {d : Nat} {pos : String} {after : Array Edge}
end
end Go.Lith
namespace Go.Lith
theorem afA {a b : Nat} : decide (ord a b < 0) = decide (a < b):=by
 unfold ord;split
 · simp [*]
 · split <;> simp [*]
theorem fT (n : Nat) : val 4294967296 (digs 4294967296 n) = n:=pD (by omega) n
theorem uE (n : Nat) : iC (digs 4294967296 n):=oA (by omega) n
theorem Oq (n : Nat) : fW 4294967296 (digs 4294967296 n):=rK (by omega) n
theorem Fp (xs : List Nat) : (trim xs).length ≤ xs.length:=by rw [jW];simp;omega
end Go.Lith
namespace Go.Lith
theorem Fq {a b : Nat} : ord a b < 0 ↔ a < b:=by
 have:=@afA a b;simpa using this
end Go.Lith
namespace Go.Lith
theorem Lu {r : Nat} (h : r ≤ 4) : (4294967296 : Nat) = 256 ^ r * 256 ^ (4 - r):=by rw [← Nat.pow_add,show r + (4 - r) = 4 by omega]
theorem Fs (r : Nat) : (256 : Nat) ^ r = 2 ^ (8 * r):=by rw [show 256 = 2 ^ 8 from rfl,← Nat.pow_mul]
theorem aaL {x b r : Nat} (hr : r < 4) (hx : x < 4294967296) (hd : 256 ^ (r + 1) ∣ x) (hb : b < 256) : x + b * 256 ^ r < 4294967296:=by
 obtain ⟨c,rfl⟩:=hd;have e:=Lu (r:=r + 1) (by omega);rw [e] at hx ⊢;have h1:=Nat.lt_of_mul_lt_mul_left hx;have h2 : 256 ^ (r + 1) * (c + 1) ≤ 256 ^ (r + 1) * 256 ^ (4 - (r + 1)):=Nat.mul_le_mul_left _ h1;rw [Nat.mul_add,Nat.mul_one] at h2;have h3 : (b + 1) * 256 ^ r ≤ 256 * 256 ^ r:=Nat.mul_le_mul_right _ hb;have h4 : (256 : Nat) ^ (r + 1) = 256 * 256 ^ r:=Nat.pow_succ';have h5 : 0 < (256 : Nat) ^ r:=Nat.pow_pos (by omega);rw [Nat.add_mul,Nat.one_mul] at h3;generalize 256 ^ (r + 1) * 256 ^ (4 - (r + 1)) = Z at *
 generalize 256 ^ (r + 1) * c = Y at *
 omega
theorem Xy {os bs : List Nat} {p j r : Nat} (hp : p < bs.length) (hpj : p = 4 * j + r) (hr : r < 4) (hj : j < os.length) (hd : fW 4294967296 os) (hb : fW 256 bs) (hdv : ∀ (i : Nat) (h : i < os.length),256 ^ (p + 1 - 4 * i) ∣ os[i]) (hv : val 4294967296 os = 256 ^ (p + 1) * val 256 (bs.drop (p + 1))) :
 os[j] + bs[p] * 256 ^ r < 4294967296 ∧ 256 ^ (r + 1) ∣ os[j] ∧ (∀ (i : Nat) (h : i < (os.set j (os[j] + bs[p] * 256 ^ r)).length),256 ^ (p - 4 * i) ∣ (os.set j (os[j] + bs[p] * 256 ^ r))[i]) ∧ val 4294967296 (os.set j (os[j] + bs[p] * 256 ^ r)) = 256 ^ p * val 256 (bs.drop p):=by
 have h1:=hdv j hj;rw [show p + 1 - 4 * j = r + 1 by omega] at h1;have hx:=hd _ (List.getElem_mem hj);have hby:=hb _ (List.getElem_mem hp);refine ⟨aaL hr hx h1 hby,h1,?_,?_⟩
 · intro i h
   by_cases e : i = j
   · subst e
     rw [List.getElem_set_self,show p - 4 * i = r by omega];exact Nat.dvd_add (Nat.dvd_trans (Nat.pow_dvd_pow 256 (by omega)) h1) (Nat.dvd_mul_left _ _)
   · rw [List.getElem_set_ne (by omega)]
     exact Nat.dvd_trans (Nat.pow_dvd_pow 256 (by omega)) (hdv i (by simpa using h))
 · have e1:=vS (B:=4294967296) (os:=os) (j:=j) (d:=os[j] + bs[p] * 256 ^ r) hj
   have e2:=Ip (B:=256) (xs:=bs) (k:=p + 1) (by omega) (by simpa using hp);simp only[Nat.add_sub_cancel] at e2;have e3 : (4294967296 : Nat) ^ j * 256 ^ r = 256 ^ p:=by
    rw [show (4294967296 : Nat) = 256 ^ 4 from rfl,← Nat.pow_mul,← Nat.pow_add,hpj]
   rw [e2,← e3];rw [Nat.pow_succ,← e3] at hv;generalize (4294967296 : Nat) ^ j = Q at *
   generalize (256 : Nat) ^ r = R at *
   generalize val 256 (bs.drop (p + 1)) = D at *
   generalize val 4294967296 (os.set j (os[j] + bs[p] * R)) = L at *
   generalize val 4294967296 os = M at *
   subst hv
   grind
end Go.Lith
namespace Go.Lith
open Go.RowKit
def qT (w : World) (S : World → Prop) : Prop:=S w
theorem qT.nil {w : World} : qT w (fun _=>True):=trivial
theorem qT.blk {w : World} {g : Nat} {cs : List Value} {t : TypeId} {S : World → Prop} (h : fF w g cs t) (k : qT w S) : qT w (fun w=>fF w g cs t ∧ S w):=⟨h,k⟩
section
variable {P : Program} {ops : Array Oper} {md : Region.Mode} {S : World → Prop}
def bL (P : Program) (ops : Array Oper) (S : World → Prop) (Q : Exit → Act → World → Prop) : List (Oper × Bool) → Act → World → Prop
 | [],a,w=>Q .normal a w
 | (o,true) :: r,a,w=>∃ v,YieldsIf P ops S o v a ∧ bL P ops S Q r (a.put o.dst v) w
 | (o,false) :: r,a,w=>wpList P ops (Exit.then (fun a w=>S w ∧ bL P ops S Q r a w) Q) [o] a w
theorem qU {Q : Exit → Act → World → Prop} (hs : Region.noSelect ops = true) (hQ : ∀ c d v a w,Q (.panic c) (Act.put a d v) w → Q (.panic c) a w) : ∀ (l : List (Nat × Bool)) (listed : Array Bool) (a : Act) (w : World),
 Oe md ops l listed = true → S w → bL P ops S Q (l.map fun x=>((ops[x.1]?).getD default,x.2)) a w → wpAnyH P md ops Q S l.length listed a w
 | [],listed,a,w,hB,_,h=>⟨by simpa [Oe] using hB,h⟩
 | (i,true) :: r,listed,a,w,hB,hS,h=>by
  simp only[Oe,Bool.and_eq_true] at hB;obtain ⟨⟨⟨h1,h2⟩,h3⟩,h4⟩:=hB;obtain ⟨o,ho⟩:=Option.isSome_iff_exists.1 h1;simp only[List.map_cons,bL,ho,Option.getD_some] at h;obtain ⟨v,hy,hr⟩:=h;exact wpAnyH_take ho hs h2 h3 (fun c a w=>hQ c _ v a w) hy hS (qU hs hQ r _ _ _ h4 hS hr)
 | (i,false) :: r,listed,a,w,hB,hS,h=>by
  simp only[Oe,Bool.and_eq_true,decide_eq_true_eq] at hB;obtain ⟨⟨h1,h2⟩,h4⟩:=hB;obtain ⟨o,ho⟩:=Option.isSome_iff_exists.1 h1;refine wpAnyH_all h2 (by simp) fun j hj=>?_;obtain rfl : j = i:=by simpa using hj
  simp only[List.map_cons,bL,ho,Option.getD_some] at h;have key : ∀ a' w',Exit.then (fun a w=>S w ∧ bL P ops S Q (r.map fun x=>((ops[x.1]?).getD default,x.2)) a w) Q .normal a' w' → S w' ∧ wpAnyH P md ops Q S r.length (listed.setIfInBounds j true) a' w':=fun a' w' hh=>⟨hh.1,qU hs hQ r _ a' w' h4 hh.1 hh.2⟩
  unfold wpOp;simp only[ho];simp only[wpList] at h;split
  · rename_i hw
    rw [if_pos hw] at h;rcases h with h | ⟨ha,x,y,hl⟩
    · refine .inl ?_
      unfold Oper.wp at h ⊢;generalize (execOp a.eval o).run P w = res at *
      cases res with
      | ok n w' =>
       cases n <;> simp only[Oper.upon] at h ⊢ <;>
        first
         | exact key _ _ h
         | exact Calls.mono h (fun e w'' he=>by cases e <;> first | exact key _ _ he | exact he)
         | exact Rows.mono h (fun _ _ he=>key _ _ he)
      | halt x w'=>cases x <;> simp only[Oper.upon] at h ⊢ <;> exact h
    · exact .inr ⟨ha,x,y,hl⟩
  · rename_i hw
    rw [if_neg hw] at h;exact key _ _ h
theorem gF {id : Nat} {Q : Exit → Act → World → Prop} {a : Act} {w : World} {l : List Oper} (o : List (Nat × Bool)) (hm : P.follows .mixedOrders = true) (hB : (Region.noSelect l.toArray && decide (o.length = l.length) && Oe .any l.toArray o (Array.replicate l.toArray.size false)) = true)
 (hQ : ∀ c d v a w,Q (.panic c) (Act.put a d v) w → Q (.panic c) a w) {ol : List (Oper × Bool)} (hol : (o.map fun x=>((l.toArray[x.1]?).getD default,x.2)) = ol)
 (h : ∀ w',eB w w' → ∃ S,qT w' S ∧ bL P l.toArray S Q ol a w') : (Code.region id l.toArray true).wp P Q a w:=by
 simp only[Bool.and_eq_true,decide_eq_true_eq] at hB;subst hol;obtain ⟨S,hS,h⟩:=h _ (eB.refl w).drawn;refine wp_region_held (S:=S) hm ?_;have:=qU (md:=.any) hB.1.1 hQ o _ a { w with drawn:=w.drawn + 1 } hB.2 hS h;rwa [hB.1.2] at this
variable {ds : List Deferred} {l : List Value} {Q : Exit → Act → World → Prop} {w : World} {rest : List (Oper × Bool)} {d : Nat} {op : Op} {ty : TypeId} {pos : String} {after : Array Edge} {v : Value}
theorem Sl (hr : ∀ w,S w → tX P l op ty v w) (h : bL P ops S Q rest (Fr (l.set d v) ds) w) : bL P ops S Q ((Oper.mk (some d) op ty pos after none,true) :: rest) (Fr l ds) w:=by
 refine ⟨v,.inl ⟨by simp [Region.wanted],fun w hw=>hr w hw _ rfl rfl⟩,?_⟩;show bL P ops S Q rest ((Fr l ds).put (some d) v) w
 rw [gI];exact h
theorem aS (hr : fC P l op ty v) (h : bL P ops S Q rest (Fr (l.set d v) ds) w) : bL P ops S Q ((Oper.mk (some d) op ty pos after none,true) :: rest) (Fr l ds) w:=Sl (fun w _=>hr w) h
theorem cI {T : TypeId} {x : Operand} {a : Addr} (hx : ev l x = .pointer (some a)) (hv : ∀ w',S w' → hG P w' T a v) (h : bL P ops S Q rest (Fr (l.set d v) ds) w) : bL P ops S Q ((Oper.mk (some d) (.load T x) ty pos after none,true) :: rest) (Fr l ds) w :=
 Sl (fun _ hS=>bJ hx (hv _ hS)) h
theorem iH {j : Nat} {b : Bool} (hw : yielded ops l.toArray j = some b) (h : bL P ops S Q ((Oper.mk (some d) op ty pos after none,true) :: rest) (Fr l ds) w) : bL P ops S Q ((Oper.mk (some d) op ty pos after (some (j,b)),true) :: rest) (Fr l ds) w:=by
 obtain ⟨v,hy,h⟩:=h;refine ⟨v,?_,h⟩;rcases hy with ⟨_,hy⟩ | ⟨hn,_⟩
 · exact .inl ⟨by simp [Region.wanted,hw],hy⟩
 · simp [Region.wanted] at hn
theorem aaM {j : Nat} {b c : Bool} (hw : yielded ops l.toArray j = some c) (hbc : (c == b) = false) (h : bL P ops S Q rest (Fr (l.set d undef) ds) w) : bL P ops S Q ((Oper.mk (some d) op ty pos after (some (j,b)),true) :: rest) (Fr l ds) w:=by
 refine ⟨undef,.inr ⟨by simp [Region.wanted,hw];simpa using hbc,rfl⟩,?_⟩;show bL P ops S Q rest ((Fr l ds).put (some d) undef) w
 rw [gI];exact h
theorem oB {j : Nat} (hw : yielded ops l.toArray j = some false) (h : bL P ops S Q rest (Fr (l.set d undef) ds) w) : bL P ops S Q ((Oper.mk (some d) op ty pos after (some (j,true)),true) :: rest) (Fr l ds) w:=aaM hw rfl h
theorem jY {j : Nat} (hw : yielded ops l.toArray j = some true) (h : bL P ops S Q rest (Fr (l.set d undef) ds) w) : bL P ops S Q ((Oper.mk (some d) op ty pos after (some (j,false)),true) :: rest) (Fr l ds) w:=aaM hw rfl h
theorem aY (h : Q .normal (Fr l ds) w) : bL P ops S Q [] (Fr l ds) w:=h
theorem cJ {o : Oper} (h : wpList P ops (Exit.then (fun a w=>S w ∧ bL P ops S Q rest a w) Q) [o] (Fr l ds) w) : bL P ops S Q ((o,false) :: rest) (Fr l ds) w:=h
end
end Go.Lith
namespace Go.Lith
open Go.RowKit
def oC (P : Program) (d : Nat) (T : TypeId) (x y : Value) (p : Prop) : Prop:=∀ w,∃ b : Bool,(Op.equalIn d T x y).run P w = .ok b w ∧ (b = true ↔ p)
section
variable {P : Program} {d : Nat} {T : TypeId}
theorem oC.int {k k' : IntKind} {m n : Int} (hu : P.underlying T = some (.int k')) : oC P (d + 1) T (.int k m) (.int k n) (m = n):=fun w=>⟨m == n,by unfold Op.equalIn;simp [run_underlying hu],by simp⟩
theorem oC.bool {a b : Bool} (hu : P.underlying T = some .bool) : oC P (d + 1) T (.bool a) (.bool b) (a = b):=fun w=>⟨a == b,by unfold Op.equalIn;simp [run_underlying hu],by simp⟩
theorem Ft {a b : ByteArray} (h : a.toList = b.toList) : a = b:=by
 rw [ByteArray.toList_eq,ByteArray.toList_eq] at h;cases a;cases b;simp at h;rw [h]
theorem Lv (a b : ByteArray) : (a.toList == b.toList) = decide (a = b):=by
 by_cases h : a = b
 · subst h;simp
 · rw [decide_eq_false h];exact beq_eq_false_iff_ne.2 fun e=>h (Ft e)
theorem oC.str {a b : ByteArray} (hu : P.underlying T = some .string) : oC P (d + 1) T (.string a) (.string b) (a = b):=fun w=>⟨a == b,by unfold Op.equalIn;simp [run_underlying hu],by rw [beq_toListBytes,Lv];simp⟩
def sH (P : Program) (d : Nat) (xs ys : Array Value) (fs : List Field) (p : Prop) : Prop:=∀ w,∃ b : Bool,(Op.eqFields d xs ys fs).run P w = .ok b w ∧ (b = true ↔ p)
theorem sH.nil {xs ys : Array Value} : sH P d xs ys [] True:=fun w=>⟨true,by simp [Op.eqFields],by simp⟩
theorem sH.cons {xs ys : Array Value} {f : Field} {fs : List Field} {x y : Value} {p q : Prop} (hn : f.name ≠ "_") (hx : ∀ w,(part f.type xs f.offset).run P w = .ok x w) (hy : ∀ w,(part f.type ys f.offset).run P w = .ok y w)
 (h : oC P d f.type x y p) (k : sH P d xs ys fs q) : sH P d xs ys (f :: fs) (p ∧ q):=fun w=>by
 obtain ⟨b,hb,hp⟩:=h w;obtain ⟨c,hc,hq⟩:=k w;cases b
 · exact ⟨false,by simp [Op.eqFields,hn,hx,hy,hb],by simp at hp ⊢;intro h;exact absurd h hp⟩
 · exact ⟨c,by simp [Op.eqFields,hn,hx,hy,hb,hc],by simp at hp;simp [hp,hq]⟩
def mV (P : Program) (d : Nat) (E : TypeId) (n : Nat) (xs ys : Array Value) (is : List Nat) (p : Prop) : Prop:=∀ w,∃ b : Bool,(Op.eqItems d E n xs ys is).run P w = .ok b w ∧ (b = true ↔ p)
theorem mV.nil {E : TypeId} {n : Nat} {xs ys : Array Value} : mV P d E n xs ys [] True:=fun w=>⟨true,by simp [Op.eqItems],by simp⟩
theorem mV.cons {E : TypeId} {n i : Nat} {is : List Nat} {xs ys : Array Value} {x y : Value} {p q : Prop} (hx : ∀ w,(part E xs (i * n)).run P w = .ok x w) (hy : ∀ w,(part E ys (i * n)).run P w = .ok y w)
 (h : oC P d E x y p) (k : mV P d E n xs ys is q) : mV P d E n xs ys (i :: is) (p ∧ q):=fun w=>by
 obtain ⟨b,hb,hp⟩:=h w;obtain ⟨c,hc,hq⟩:=k w;cases b
 · exact ⟨false,by simp [Op.eqItems,hx,hy,hb],by simp at hp ⊢;intro h;exact absurd h hp⟩
 · exact ⟨c,by simp [Op.eqItems,hx,hy,hb,hc],by simp at hp;simp [hp,hq]⟩
theorem oC.struct {fs : Array Field} {xs ys : Array Value} {p : Prop} (hu : P.underlying T = some (.struct fs)) (hs : P.stoodInHeld T = false) (h : sH P d xs ys fs.toList p) : oC P (d + 1) T (.agg xs) (.agg ys) p:=fun w=>by
 have hf : P.fieldsOf T = fs:=by simp [Program.fieldsOf,hu]
 rw [run_equalIn_struct w d T xs ys (by rw [hf];exact hu) hs,hf];exact h w
theorem oC.array {n c : Nat} {E : TypeId} {xs ys : Array Value} {p : Prop} (hu : P.underlying T = some (.array n E)) (hc : dG P E c) (h : mV P d E c xs ys (List.range n) p) : oC P (d + 1) T (.agg xs) (.agg ys) p:=fun w=>by
 obtain ⟨i,hi,rfl⟩:=hc;have hE : P.cellsOf E = i.size:=by simp [Program.cellsOf,hi]
 rw [run_equalIn_array w d xs ys hu hi,hE];exact h w
theorem oC.iff {x y : Value} {p q : Prop} (h : oC P d T x y p) (hpq : p ↔ q) : oC P d T x y q:=fun w=>let ⟨b,hb,hp⟩:=h w;⟨b,hb,hp.trans hpq⟩
theorem cT {xs : Array Value} {off : Nat} {v : Value} (hA : eP P T false) (hv : xs[off]? = some v) (w : World) : (part T xs off).run P w = .ok v w:=by simp [part,nZ hA,hv]
theorem cR {xs us : Array Value} {off c : Nat} (hA : eP P T true) (hc : dG P T c) (hv : xs.extract off (off + c) = us) (w : World) : (part T xs off).run P w = .ok (.agg us) w:=by
 subst hv;simp [part,nZ hA,dQ hc]
variable {l : List Value} {x y : Operand} {T' ty : TypeId}
theorem sJ {u v : Value} {p : Prop} [Decidable p] (h : oC P 10000 T u v p) (w : World) : (Op.equal T u v).run P w = .ok (decide p) w:=by
 obtain ⟨b,hb,hp⟩:=h w;rw [Op.equal,show Op.maxDepth = 10000 from rfl,hb]
 congr 1
 cases b
 · exact (decide_eq_false (by simpa using hp)).symm
 · exact (decide_eq_true (by simpa using hp)).symm
theorem Fu {xs ys : Array Value} {p : Prop} [Decidable p] (hg : P.eqGuardType P.depth T = false) (hx : ev l x = .agg xs) (hy : ev l y = .agg ys) (h : oC P 10000 T (.agg xs) (.agg ys) p) : fC P l (.binOp .eql T x y T') ty (.bool (decide p)):=fun w o ho _=>by
 simp [execOp,ho,cM,hx,hy,eqGuard,binOp,hg,sJ h]
theorem Sm {xs ys : Array Value} {p : Prop} [Decidable p] (hg : P.eqGuardType P.depth T = false) (hx : ev l x = .agg xs) (hy : ev l y = .agg ys) (h : oC P 10000 T (.agg xs) (.agg ys) p) : fC P l (.binOp .neq T x y T') ty (.bool (decide (¬ p))):=fun w o ho _=>by
 simp [execOp,ho,cM,hx,hy,eqGuard,binOp,hg,sJ h]
theorem afB {a b : Bool} (hu : P.underlying T = some .bool) (hx : ev l x = .bool a) (hy : ev l y = .bool b) : fC P l (.binOp .eql T x y T') ty (.bool (decide (a = b))):=fun w o ho _=>by
 have h:=sJ (oC.bool (d:=9999) (a:=a) (b:=b) hu) w;simp [execOp,ho,cM,hx,hy,eqGuard,binOp,h]
theorem afC {a b : Bool} (hu : P.underlying T = some .bool) (hx : ev l x = .bool a) (hy : ev l y = .bool b) : fC P l (.binOp .neq T x y T') ty (.bool (decide (¬ a = b))):=fun w o ho _=>by
 have h:=sJ (oC.bool (d:=9999) (a:=a) (b:=b) hu) w;simp [execOp,ho,cM,hx,hy,eqGuard,binOp,h]
theorem Sn {a b : ByteArray} (hu : P.underlying T = some .string) (hx : ev l x = .string a) (hy : ev l y = .string b) : fC P l (.binOp .eql T x y T') ty (.bool (decide (a = b))):=fun w o ho _=>by
 have h:=sJ (oC.str (d:=9999) (a:=a) (b:=b) hu) w;simp [execOp,ho,cM,hx,hy,eqGuard,binOp,h,Op.stringOp,Lv]
theorem afD {a b : ByteArray} (hu : P.underlying T = some .string) (hx : ev l x = .string a) (hy : ev l y = .string b) : fC P l (.binOp .neq T x y T') ty (.bool (decide (¬ a = b))):=fun w o ho _=>by
 have h:=sJ (oC.str (d:=9999) (a:=a) (b:=b) hu) w;simp [execOp,ho,cM,hx,hy,eqGuard,binOp,h,Op.stringOp,Lv]
end
end Go.Lith
namespace Go.Lith
def qW (s : ByteArray) : List Nat:=s.data.toList.reverse.map UInt8.toNat
def afE (s : ByteArray) : Nat:=val 256 (qW s)
theorem uF (s : ByteArray) : s.data.toList.length = s.size:=Array.length_toList
theorem wT (s : ByteArray) : (qW s).length = s.size:=by simp only[qW,List.length_map,List.length_reverse,uF]
theorem Ot (s : ByteArray) : fW 256 (qW s):=fun x hx=>by
 obtain ⟨b,_,rfl⟩:=List.mem_map.1 hx;exact b.toNat_lt
theorem wU (s : ByteArray) (i : Nat) : s[i]? = s.data.toList[i]?:=by
 by_cases h : i < s.size
 · rw [getElem?_pos s i h,List.getElem?_eq_getElem (by rw [uF];omega)]
   rfl
 · rw [getElem?_neg s i h,List.getElem?_eq_none (by rw [uF];omega)]
theorem So {s : ByteArray} {i p : Nat} (h : p + 1 + i = s.size) : ∃ b,s[i]? = some b ∧ ∃ hp : p < (qW s).length,(qW s)[p] = b.toNat:=by
 have hs:=uF s;have hi : i < s.data.toList.length:=by omega
 refine ⟨s.data.toList[i],by rw [wU];exact List.getElem?_eq_getElem hi,by rw [wT];omega,?_⟩;simp only[qW,List.getElem_map,List.getElem_reverse]
 congr 2
 omega
theorem oM (n : Int) : afE (nE n) = n.natAbs:=by
 have e : qW (nE n) = digs 256 n.natAbs:=by
  simp only[qW,nE,jX,List.reverse_reverse,← List.map_reverse,List.map_map];have hd : fW 256 (digs 256 n.natAbs):=rK (by omega) _;have : ∀ l : List Nat,fW 256 l → l.map (UInt8.toNat ∘ UInt8.ofNat) = l:=by
   intro l hl;refine (List.map_congr_left fun x hx=>?_).trans (List.map_id l);simp only[Function.comp_apply,id_eq,UInt8.toNat_ofNat'];exact Nat.mod_eq_of_lt (hl x hx)
  exact this _ hd
 rw [afE,e,pD (by omega)]
theorem Vw {m n : Nat} (h : m < 9223372036854775808) : IntKind.i64.wrap ((m : Int).tdiv (n : Int)) = ((m / n : Nat) : Int):=by
 rw [← Int.ofNat_tdiv];have : m / n ≤ m:=Nat.div_le_self m n;exact aV (by have:=Int.natCast_nonneg (m / n);omega) (by omega)
theorem aaN {xs : List Nat} {n : Nat} (h : xs.length ≤ n) : val 256 (xs.drop n) = 0:=by rw [List.drop_of_length_le h];rfl
end Go.Lith
namespace Go.Lith
def lG (l : List UInt8) : ByteArray:=⟨l.toArray⟩
theorem lR (l : List UInt8) : (lG l).data.toList = l:=by simp [lG]
theorem Xz {l k : List UInt8} (h : lG l = lG k) : l = k:=by rw [← lR l,h,lR]
theorem xN (l : List UInt8) : (lG l).size = l.length:=by rw [← uF,lR]
theorem Ya (l : List UInt8) (i : Nat) : (lG l)[i]? = l[i]?:=by rw [wU,lR]
theorem Sq (l : List UInt8) (n : Nat) : (lG l).extract n (lG l).size = lG (l.drop n):=by
 apply ByteArray.ext;rw [ByteArray.data_extract];apply Array.ext';rw [Array.toList_extract,lR,xN];simp only[lG,List.extract_eq_take_drop,List.toList_toArray];exact List.take_of_length_le (by simp)
theorem Ou (l : List UInt8) : (lG l = ⟨#[]⟩) = (l = []):=by
 apply propext;constructor
 · intro h
   exact Xz (k:=[]) h
 · rintro rfl;rfl
def pF (l : List UInt8) : List UInt8:=l.dropWhile (· == 0)
theorem Sr {l : List UInt8} {b : UInt8} (h : l[0]? = some b) (hb : b.toNat = 0) : pF (l.drop 1) = pF l:=by
 cases l with
 | nil=>cases h
 | cons c l =>
  simp at h;subst h;have : c = 0:=UInt8.toNat_inj.1 hb;subst this;simp [pF]
theorem Ss {l : List UInt8} {b : UInt8} (h : l[0]? = some b) (hb : ¬ b.toNat = 0) : pF l = l:=by
 cases l with
 | nil=>rfl
 | cons c l =>
  simp at h;subst h;have : ¬ c = 0:=fun e=>hb (by rw [e];rfl);simp [pF,this]
theorem Yb : pF [] = []:=rfl
end Go.Lith
namespace Go.Lith
open Go.RowKit
section
variable {P : Program} {ds : List Deferred} {l : List Value} {x y z0 : Operand} {T T' ty : TypeId}
abbrev u8v (b : UInt8) : Value:=.int .u8 (b.toNat : Int)
theorem St {w : World} {base n : Nat} {E : TypeId} {v : Value} {bs : List UInt8} (hs : P.underlying T = some (.slice E)) (he : P.underlying E = some (.int .u8)) (hd : P.underlying T' = some .string) (hx : ev l x = v) (hown : afu w base E 1 v n (bs.map u8v)) :
 tX P l (.convert T T' x) ty (.string (lG bs)) w:=fun o ho _=>by
 have hn : bs.length = n:=by have:=hown.1;simpa using this
 rcases hown.row with ⟨rfl,rfl,h⟩ | ⟨g,cap,rfl,_,_,_,_,hr⟩
 · obtain rfl : bs = []:=by simpa using h
   simp only[execOp,ho,cM,hx];rw [Sem.run_bind,run_convert_bytes_nil w T E hs he 0 0 T' hd];rfl
 · subst hn
   have:=run_convert_bytes_back (P:=P) w T T' E ⟨g,0,none⟩ cap bs hs he hd (fun j hj=>hr j _ (by simp [hj]));simp only[execOp,ho,cM,hx];rw [Sem.run_bind,this];rfl
end
structure Sh (w : World) (D : Nat) : Prop where
 h : w.heap[D]? = some (.deferred (some []))
theorem Sh.ext {w w' : World} {D : Nat} (h : Sh w D) (hE : eB w w') : Sh w' D:=⟨hE.block h.h⟩
theorem Sh.ne {w : World} {D g : Nat} {cs : List Value} {t : TypeId} (h : Sh w D) (hB : fF w g cs t) : D ≠ g:=fun e=>by
 subst e;have:=h.h;rw [hB] at this;cases this
theorem Sh.chg {w w' : World} {D g : Nat} (h : Sh w D) (hC : Chg w w' g) (hne : D ≠ g) : Sh w' D:=⟨(hC.block D hne).trans h.h⟩
theorem fF.putD {w : World} {D g : Nat} {cs : List Value} {t : TypeId} (hB : fF w g cs t) (h : Sh w D) {o : Obj} : fF (w.putObj D o) g cs t:=(World.putObj_heap_other (Ne.symm (h.ne hB))).trans hB
theorem eB.putD {w0 w : World} {D : Nat} (hX : eB w0 w) (hD : w0.heap.size ≤ D) {o : Obj} : eB w0 (w.putObj D o) :=
 ⟨hX.os,hX.tape,hX.output,by rw [World.putObj_size];exact hX.size,fun k hk=>(World.putObj_heap_other (by omega)).trans (Below.block hX k hk)⟩
theorem Su {P : Program} {l : List Value} {n : Nat} {fn : Func} {R : Ending → World → Prop} {D : Nat} {w : World} (hK : Sh w D) (h : bodyPost P fn R .ret (Fr l) (w.putObj D (.deferred none))) :
 bodyPostM Fence.wide n P fn R .ret (Fr l [{ target:=.collected D,args:=#[] }]) w:=by
 refine ⟨by simp,.inl ⟨D,_,rfl,run_takeDeferred hK.h,?_⟩⟩;obtain ⟨_,v,hv,hR⟩:=h;exact ⟨v,hv,hR⟩
end Go.Lith
namespace Go.Lith
def wb (x : Nat) : List UInt8:=[UInt8.ofNat (x / 16777216),UInt8.ofNat (x / 65536),UInt8.ofNat (x / 256),UInt8.ofNat x]
def Ov (l : List (Nat × Nat)) : List UInt8:=l.flatMap fun x=>wb x.2
theorem aaO (l : List (Nat × Nat)) (x : Nat × Nat) : Ov (l ++ [x]) = Ov l ++ wb x.2:=by simp [Ov]
theorem Fv (l : List (Nat × Nat)) : (Ov l).length = 4 * l.length:=by
 induction l with
 | nil=>rfl
 | cons x l ih=>rw [Ov,List.flatMap_cons,List.length_append];rw [Ov] at ih;rw [ih];simp [wb];omega
def Od (neg : Bool) (n : Nat) : Int:=if neg then -(n : Int) else n
theorem Fw (neg : Bool) (n : Nat) : (Od neg n).natAbs = n:=by cases neg <;> simp [Od]
theorem Vx (neg : Bool) (n : Nat) : iG (Od neg n) = (neg && decide (n ≠ 0)):=by
 cases neg
 · simp [Od,iG]
 · rcases Nat.eq_zero_or_pos n with h | h
   · subst h;rfl
   · have h2 : n ≠ 0:=by omega
     simp [Od,iG,h,h2]
theorem Iq (ys : List Nat) (h : fW 4294967296 ys) : val 256 (((ys.reverse.flatMap wb).reverse).map UInt8.toNat) = val 4294967296 ys ∧ fW 256 (((ys.reverse.flatMap wb).reverse).map UInt8.toNat):=by
 induction ys with
 | nil=>exact ⟨rfl,fun _ h=>by cases h⟩
 | cons y ys ih =>
  have hy:=h y (by simp);obtain ⟨i1,i2⟩:=ih (fun x hx=>h x (by simp [hx]));have e : (((y :: ys).reverse.flatMap wb).reverse).map UInt8.toNat = [y % 256,y / 256 % 256,y / 65536 % 256,y / 16777216 % 256] ++ (((ys.reverse.flatMap wb).reverse).map UInt8.toNat):=by
   simp [List.flatMap_append,wb,UInt8.toNat_ofNat']
  rw [e];refine ⟨?_,?_⟩
  · rw [pC,i1]
    simp only[val,List.length_cons,List.length_nil];omega
  · refine fW.append ?_ i2
    intro x hx;simp at hx;omega
theorem Ox {l : List UInt8} : pF l = ((trim ((l.reverse).map UInt8.toNat)).reverse).map UInt8.ofNat:=by
 induction l with
 | nil=>rfl
 | cons b l ih =>
  have hk : ∀ k : List Nat,∀ x : Nat,trim (k ++ [x]) = if x = 0 then trim k else k ++ [x]:=fun k x=>by
   split
   · rename_i h;subst h;exact pE k
   · rename_i h;exact qR h k
  rw [List.reverse_cons,List.map_append,List.map_cons,List.map_nil,hk];by_cases hb : b = 0
  · subst hb
    rw [if_pos (show UInt8.toNat 0 = 0 from rfl),← ih];simp [pF]
  · have hb' : ¬ b.toNat = 0:=fun e=>hb (UInt8.toNat_inj.1 e)
    rw [if_neg hb'];simp [pF,hb,Function.comp_def]
theorem Sv {ys : List Nat} (h : fW 4294967296 ys) (neg : Bool) : lG (pF (ys.reverse.flatMap wb)) = nE (Od neg (val 4294967296 ys)):=by
 obtain ⟨h1,h2⟩:=Iq ys h;rw [Ox,yS (by omega) h2 h1,nE,Fw,jX];rfl
theorem Fx {neg : Bool} {n : Nat} : (nE (Od neg n) = ⟨#[]⟩) ↔ n = 0:=by
 constructor
 · intro h
   have:=Js (Od neg n);rw [h,Fw] at this;have h0 : digs 256 n = []:=List.eq_nil_of_length_eq_zero this.symm;exact (uD (by omega)).1 h0
 · rintro rfl
   cases neg <;> rfl
end Go.Lith
namespace Go.Lith
class Bw (k : outParam Nat) (n : Int) : Prop where
 h : Bd k n
instance {a b : Nat} {m n : Int} [x : Bw a m] [y : Bw b n] : Bw (max a b + 1) (m + n):=⟨x.h.add y.h⟩
instance {a b : Nat} {m n : Int} [x : Bw a m] [y : Bw b n] : Bw (max a b + 1) (m - n):=⟨x.h.sub y.h⟩
instance {a b : Nat} {m n : Int} [x : Bw a m] [y : Bw b n] : Bw (a + b) (m * n):=⟨x.h.mul y.h⟩
instance : Bw 1 0:=⟨Es 1⟩
theorem Jy {n : Int} (h : iG n = true) : n < 0:=of_decide_eq_true h
theorem Fy {n : Int} (h : iG n = false) : 0 ≤ n:=Int.not_lt.1 (of_decide_eq_false h)
theorem natAbs_neg {n : Int} (h : iG n = true) : (n.natAbs : Int) = -n:=by have:=Jy h;omega
theorem iA {n : Int} (h : iG n = false) : (n.natAbs : Int) = n:=by have:=Fy h;omega
theorem uG (n : Nat) : Od true n = -(n : Int):=rfl
theorem rN (n : Nat) : Od false n = (n : Int):=rfl
theorem Oy (a : Int) : Od (iG a) a.natAbs = a:=by
 cases h : iG a
 · rw [rN,iA h]
 · rw [uG,natAbs_neg h];omega
theorem adA (a : Int) : Od (!iG a) a.natAbs = -a:=by
 cases h : iG a
 · rw [Bool.not_false,uG,iA h]
 · rw [Bool.not_true,rN,natAbs_neg h]
theorem adB {a b : Int} (h : iG a = iG b) : Od (iG a) (a.natAbs + b.natAbs) = a + b:=by
 cases ha : iG a <;> rw [ha] at h
 · have h1:=iA ha;have h2:=iA h.symm;rw [rN];omega
 · have h1:=natAbs_neg ha;have h2:=natAbs_neg h.symm;rw [uG];omega
theorem afF {a b : Int} (h : ¬ iG a = iG b) (hl : a.natAbs < b.natAbs) : Od (iG b) (b.natAbs - a.natAbs) = a + b:=by
 cases ha : iG a <;> cases hb : iG b <;> rw [ha,hb] at h
 · exact absurd rfl h
 · have h1:=iA ha;have h2:=natAbs_neg hb;rw [uG];omega
 · have h1:=natAbs_neg ha;have h2:=iA hb;rw [rN];omega
 · exact absurd rfl h
theorem afG {a b : Int} (h : ¬ iG a = iG b) (hl : b.natAbs ≤ a.natAbs) : Od (iG a) (a.natAbs - b.natAbs) = a + b:=by
 cases ha : iG a <;> cases hb : iG b <;> rw [ha,hb] at h
 · exact absurd rfl h
 · have h1:=iA ha;have h2:=natAbs_neg hb;rw [rN];omega
 · have h1:=natAbs_neg ha;have h2:=iA hb;rw [uG];omega
 · exact absurd rfl h
theorem adC {a b : Int} : Od (decide (¬ iG a = iG b)) (a.natAbs * b.natAbs) = a * b:=by
 cases ha : iG a <;> cases hb : iG b
 · have h1:=iA ha;have h2:=iA hb
   show ((a.natAbs * b.natAbs : Nat) : Int) = _
   rw [Int.natCast_mul,h1,h2]
 · have h1:=iA ha;have h2:=natAbs_neg hb
   show -((a.natAbs * b.natAbs : Nat) : Int) = _
   rw [Int.natCast_mul,h1,h2,Int.mul_neg,Int.neg_neg]
 · have h1:=natAbs_neg ha;have h2:=iA hb
   show -((a.natAbs * b.natAbs : Nat) : Int) = _
   rw [Int.natCast_mul,h1,h2,Int.neg_mul,Int.neg_neg]
 · have h1:=natAbs_neg ha;have h2:=natAbs_neg hb
   show ((a.natAbs * b.natAbs : Nat) : Int) = _
   rw [Int.natCast_mul,h1,h2,Int.neg_mul_neg]
def cA (n : Int) : Int:=if n < 0 then -1 else if 0 < n then 1 else 0
theorem Jz {n : Int} (h : n < 0) : cA n = -1:=by rw [cA,if_pos h]
theorem Ka {n : Int} (h : 0 < n) : cA n = 1:=by rw [cA,if_neg (by omega),if_pos h]
theorem uH {k V : Nat} (h : V < 2 ^ k) : (digs 4294967296 V).length ≤ k:=by
 refine lP (by omega) (Nat.lt_of_lt_of_le h ?_);rw [show (4294967296 : Nat) = 2 ^ 32 from rfl,← Nat.pow_mul];exact Nat.pow_le_pow_right (by omega) (by omega)
theorem oN {n : Int} (h : Bd 1000000 n) : (nE n).size ≤ 1000000000000:=Nat.le_trans (Lr h) (by decide)
theorem Yc {k : Nat} {a b : Int} (ha : Bd k a) (hb : Bd k b) : (digs 4294967296 (a.natAbs + b.natAbs)).length ≤ k + 1:=uH (by unfold Bd at ha hb;rw [Nat.pow_succ];omega)
theorem xO {k : Nat} {n : Int} (h : Bd k n) : (digs 4294967296 n.natAbs).length ≤ k:=uH h
theorem Lw {m n : Nat} (h : m ≤ n) : (digs 4294967296 m).length ≤ (digs 4294967296 n).length:=by
 refine lP (by omega) (Nat.lt_of_le_of_lt h ?_);have:=Fm (Oq n);rwa [fT] at this
theorem Vy {a : Int} : (((digs 4294967296 a.natAbs).length : Int) = 0) ↔ a = 0:=by
 constructor
 · intro h
   have h0 : digs 4294967296 a.natAbs = []:=List.eq_nil_of_length_eq_zero (by omega);have:=(uD (by omega)).1 h0;omega
 · rintro rfl;rfl
end Go.Lith
namespace Go.Lith
def tU (n : Int) : Prop:=-9223372036854775808 ≤ n ∧ n < 9223372036854775808
theorem tU.bd {n : Int} (h : tU n) : Bd 64 n:=Bd.of_i64 h.1 (by have:=h.2;omega)
theorem afH {n : Int} (h : tU n) (h0 : 0 ≤ n) : IntKind.u64.wrap n = (n.natAbs : Int):=by
 rw [jC];have:=h.2;omega
theorem adD {n : Int} (h : tU n) (h0 : n < 0) : IntKind.u64.wrap n = ((18446744073709551616 - n.natAbs : Nat) : Int):=by
 rw [jC];have:=h.1;omega
theorem Yd {m : Nat} (h : m ≤ 9223372036854775808) (h0 : 0 < m) : IntKind.u64.wrap (0 - ((18446744073709551616 - m : Nat) : Int)) = (m : Int):=by
 rw [jC];omega
theorem Kb {m : Nat} : val 4294967296 [m % 4294967296,m / 4294967296] = m:=by simp [val];omega
theorem Fz {m : Nat} (h : m < 18446744073709551616) : fW 4294967296 [m % 4294967296,m / 4294967296]:=fun x hx=>by simp at hx;omega
theorem tU.natAbs {n : Int} (h : tU n) : n.natAbs ≤ 9223372036854775808:=by have:=h.1;have:=h.2;omega
end Go.Lith
namespace Go.Lith
open Go.RowKit
end Go.Lith
namespace Go.Lith
open Go.RowKit
structure P3 where
 x : Int
 y : Int
 z : Int
structure T3 where
 a : P3
 b : P3
 c : P3
namespace P3
def sub (p q : P3) : P3:=⟨p.x - q.x,p.y - q.y,p.z - q.z⟩
def dot (p q : P3) : Int:=p.x * q.x + p.y * q.y + p.z * q.z
def cross (u v : P3) : P3:=⟨u.y * v.z - u.z * v.y,u.z * v.x - u.x * v.z,u.x * v.y - u.y * v.x⟩
end P3
def T3.normal (t : T3) : P3:=(t.b.sub t.a).cross (t.c.sub t.a)
def pt (p : P3) : Go.Value:=.agg #[.int .i64 p.x,.int .i64 p.y,.int .i64 p.z]
def tr (t : T3) : Go.Value:=.agg #[.int .i64 t.a.x,.int .i64 t.a.y,.int .i64 t.a.z,.int .i64 t.b.x,.int .i64 t.b.y,.int .i64 t.b.z,.int .i64 t.c.x,.int .i64 t.c.y,.int .i64 t.c.z]
def wv (v : P3) : Go.Value:=.agg #[.bool (iG v.x),.string (nE v.x),.bool (iG v.y),.string (nE v.y),.bool (iG v.z),.string (nE v.z)]
theorem Bw.up {k m : Nat} {n : Int} [x : Bw k n] (h : k ≤ m:=by decide) : Bd m n:=x.h.mono h
theorem Cb : nE 0 = ⟨#[]⟩:=by
 have : jX 0 = []:=by
  unfold jX;rw [(uD (B:=256) (by omega)).2 rfl];rfl
 simp only[nE,Int.natAbs_zero,this]
theorem Lx : W 0 = .agg #[.bool false,.string ⟨#[]⟩]:=by simp only[W,Cb];rfl
class Iw (n : Int) : Prop where
 h : tU n
class I3 (p : P3) : Prop where
 x : tU p.x
 y : tU p.y
 z : tU p.z
class IT (t : T3) : Prop where
 a : I3 t.a
 b : I3 t.b
 c : I3 t.c
instance {p : P3} [h : I3 p] : Iw p.x:=⟨h.x⟩
instance {p : P3} [h : I3 p] : Iw p.y:=⟨h.y⟩
instance {p : P3} [h : I3 p] : Iw p.z:=⟨h.z⟩
instance {t : T3} [h : IT t] : I3 t.a:=h.a
instance {t : T3} [h : IT t] : I3 t.b:=h.b
instance {t : T3} [h : IT t] : I3 t.c:=h.c
instance {n : Int} [h : Iw n] : Bw 64 n:=⟨h.h.bd⟩
class Bv (k : outParam Nat) (v : P3) : Prop where
 x : Bd k v.x
 y : Bd k v.y
 z : Bd k v.z
instance {k : Nat} {v : P3} [h : Bv k v] : Bw k v.x:=⟨h.x⟩
instance {k : Nat} {v : P3} [h : Bv k v] : Bw k v.y:=⟨h.y⟩
instance {k : Nat} {v : P3} [h : Bv k v] : Bw k v.z:=⟨h.z⟩
theorem Bv.mono {k m : Nat} {v : P3} (h : Bv k v) (hk : k ≤ m) : Bv m v:=⟨h.x.mono hk,h.y.mono hk,h.z.mono hk⟩
theorem Bv.of {k m : Nat} {v : P3} [h : Bv k v] (hk : k ≤ m:=by decide) : Bv m v:=h.mono hk
instance {p q : P3} [a : I3 p] [b : I3 q] : Bv 65 (p.sub q):=⟨a.x.bd.sub b.x.bd,a.y.bd.sub b.y.bd,a.z.bd.sub b.z.bd⟩
theorem Ly {k l : Nat} {a b c d : Int} (ha : Bd k a) (hb : Bd l b) (hc : Bd k c) (hd : Bd l d) : Bd (k + l + 1) (a * b - c * d):=by
 have:=(ha.mul hb).sub (hc.mul hd);exact this.mono (by omega)
theorem aaP {k l : Nat} {a b c d : Int} (ha : Bd k a) (hb : Bd l b) (hc : Bd k c) (hd : Bd l d) : Bd (k + l + 1) (a * b + c * d):=by
 have:=(ha.mul hb).add (hc.mul hd);exact this.mono (by omega)
instance {k l : Nat} {u v : P3} [a : Bv k u] [b : Bv l v] : Bv (k + l + 1) (u.cross v):=⟨Ly a.y b.z a.z b.y,Ly a.z b.x a.x b.z,Ly a.x b.y a.y b.x⟩
instance {k l : Nat} {u v : P3} [a : Bv k u] [b : Bv l v] : Bw (k + l + 2) (u.dot v):=⟨((aaP a.x b.x a.y b.y).add (a.z.mul b.z)).mono (by omega)⟩
instance {t : T3} [h : IT t] : Bv 131 t.normal:=inferInstanceAs (Bv 131 ((t.b.sub t.a).cross (t.c.sub t.a)))
theorem P3.dot0 {u v : P3} : 0 + u.x * v.x + u.y * v.y + u.z * v.z = u.dot v:=by simp only[P3.dot,Int.zero_add]
section
variable {P : Program} {Q : Exit → Act → World → Prop} {a : Act} {w : World} {c : Code} {n : Nat}
theorem bU (h : c.wp P (Exit.then (Code.rounds P c Q n) Q) a w) : Code.rounds P c Q (n + 1) a w:=h
theorem aQ (h : c.wp P (Exit.then (Code.rounds P c Q n) Q) a w) : Exit.then (Code.rounds P c Q (n + 1)) Q .normal a w:=h
end
end Go.Lith
namespace Go.Lith
open Go.RowKit
inductive oD where
 | nil : oD
 | take : Nat → oD → oD
 | one : Nat → oD → oD
 | two : Nat → oD → Nat → oD → oD
 | three : Nat → oD → Nat → oD → Nat → oD → oD
section
variable {P : Program} {ops : Array Oper} {md : Region.Mode} {S : World → Prop}
def oD.ok (md : Region.Mode) (ops : Array Oper) : oD → Nat → Array Bool → Bool
 | .nil,f,listed=>f == 0 && (Region.ready md ops listed).isEmpty
 | .take i t,f,listed=>decide (0 < f) && (ops[i]?).isSome && Region.free md ops listed i && (Region.ready md ops listed).contains i && t.ok md ops (f - 1) (listed.setIfInBounds i true)
 | .one i t,f,listed=>decide (0 < f) && (ops[i]?).isSome && decide (Region.ready md ops listed = [i]) && t.ok md ops (f - 1) (listed.setIfInBounds i true)
 | .two i t j u,f,listed=>decide (0 < f) && (ops[i]?).isSome && (ops[j]?).isSome && decide (Region.ready md ops listed = [i,j]) && t.ok md ops (f - 1) (listed.setIfInBounds i true) && u.ok md ops (f - 1) (listed.setIfInBounds j true)
 | .three i t j u k v,f,listed=>decide (0 < f) && (ops[i]?).isSome && (ops[j]?).isSome && (ops[k]?).isSome && decide (Region.ready md ops listed = [i,j,k]) && t.ok md ops (f - 1) (listed.setIfInBounds i true) && u.ok md ops (f - 1) (listed.setIfInBounds j true) && v.ok md ops (f - 1) (listed.setIfInBounds k true)
def cE (P : Program) (ops : Array Oper) (S : World → Prop) (Q : Exit → Act → World → Prop) : oD → Act → World → Prop
 | .nil,a,w=>Q .normal a w
 | .take i t,a,w=>bL P ops S (fun _ a w=>cE P ops S Q t a w) [((ops[i]?).getD default,true)] a w
 | .one i t,a,w=>wpList P ops (Exit.then (fun a w=>S w ∧ cE P ops S Q t a w) Q) [(ops[i]?).getD default] a w
 | .two i t j u,a,w=>wpList P ops (Exit.then (fun a w=>S w ∧ cE P ops S Q t a w) Q) [(ops[i]?).getD default] a w ∧ wpList P ops (Exit.then (fun a w=>S w ∧ cE P ops S Q u a w) Q) [(ops[j]?).getD default] a w
 | .three i t j u k v,a,w=>wpList P ops (Exit.then (fun a w=>S w ∧ cE P ops S Q t a w) Q) [(ops[i]?).getD default] a w ∧ wpList P ops (Exit.then (fun a w=>S w ∧ cE P ops S Q u a w) Q) [(ops[j]?).getD default] a w ∧ wpList P ops (Exit.then (fun a w=>S w ∧ cE P ops S Q v a w) Q) [(ops[k]?).getD default] a w
theorem gJ {Q : Exit → Act → World → Prop} {K : Act → World → Prop} {i : Nat} {o : Oper} (ho : ops[i]? = some o) {a : Act} {w : World} (h : wpList P ops (Exit.then K Q) [o] a w) : wpOp P ops Q i K a w:=by
 unfold wpOp;simp only[ho];simp only[wpList] at h;split
 · rename_i hw
   rw [if_pos hw] at h;rcases h with h | ⟨ha,x,y,hl⟩
   · refine .inl ?_
     unfold Oper.wp at h ⊢;generalize (execOp a.eval o).run P w = res at *
     cases res with
     | ok n w' =>
      cases n <;> simp only[Oper.upon] at h ⊢ <;>
       first
        | exact h
        | exact Calls.mono h (fun e w'' he=>by cases e <;> exact he)
        | exact Rows.mono h (fun _ _ he=>he)
     | halt x w'=>cases x <;> simp only[Oper.upon] at h ⊢ <;> exact h
   · exact .inr ⟨ha,x,y,hl⟩
 · rename_i hw
   rw [if_neg hw] at h;exact h
theorem fX {Q : Exit → Act → World → Prop} (hs : Region.noSelect ops = true) (hQ : ∀ c d v a w,Q (.panic c) (Act.put a d v) w → Q (.panic c) a w) : ∀ (t : oD) (f : Nat) (listed : Array Bool) (a : Act) (w : World),
 t.ok md ops f listed = true → S w → cE P ops S Q t a w → wpAnyH P md ops Q S f listed a w
 | .nil,f,listed,a,w,hB,_,h=>by
  simp only[oD.ok,Bool.and_eq_true,beq_iff_eq] at hB;obtain ⟨rfl,h2⟩:=hB;exact ⟨by simpa using h2,h⟩
 | .take i t,f,listed,a,w,hB,hS,h=>by
  simp only[oD.ok,Bool.and_eq_true,decide_eq_true_eq] at hB;obtain ⟨⟨⟨⟨h0,h1⟩,h2⟩,h3⟩,h4⟩:=hB;obtain ⟨o,ho⟩:=Option.isSome_iff_exists.1 h1;simp only[cE,bL,ho,Option.getD_some] at h;obtain ⟨v,hy,hr⟩:=h;obtain ⟨f,rfl⟩ : ∃ g,f = g + 1:=⟨f - 1,by omega⟩
  exact wpAnyH_take ho hs h2 h3 (fun c a w=>hQ c _ v a w) hy hS (fX hs hQ t f _ _ _ h4 hS hr)
 | .one i t,f,listed,a,w,hB,hS,h=>by
  simp only[oD.ok,Bool.and_eq_true,decide_eq_true_eq] at hB;obtain ⟨⟨⟨h0,h1⟩,h2⟩,h4⟩:=hB;obtain ⟨o,ho⟩:=Option.isSome_iff_exists.1 h1;obtain ⟨f,rfl⟩ : ∃ g,f = g + 1:=⟨f - 1,by omega⟩
  refine wpAnyH_all h2 (by simp) fun j hj=>?_;obtain rfl : j = i:=by simpa using hj
  simp only[cE,ho,Option.getD_some] at h;exact wpOp_mono (fun a' w' hh=>⟨hh.1,fX hs hQ t f _ a' w' h4 hh.1 hh.2⟩) (gJ ho h)
 | .two i t j u,f,listed,a,w,hB,hS,h=>by
  simp only[oD.ok,Bool.and_eq_true,decide_eq_true_eq] at hB;obtain ⟨⟨⟨⟨⟨h0,h1⟩,h1'⟩,h2⟩,h4⟩,h5⟩:=hB;obtain ⟨o,ho⟩:=Option.isSome_iff_exists.1 h1;obtain ⟨o',ho'⟩:=Option.isSome_iff_exists.1 h1';obtain ⟨f,rfl⟩ : ∃ g,f = g + 1:=⟨f - 1,by omega⟩
  simp only[cE,ho,ho',Option.getD_some] at h;refine wpAnyH_all h2 (by simp) fun k hk=>?_;have hk' : k = i ∨ k = j:=by simpa using hk
  rcases hk' with rfl | rfl
  · exact wpOp_mono (fun a' w' hh=>⟨hh.1,fX hs hQ t f _ a' w' h4 hh.1 hh.2⟩) (gJ ho h.1)
  · exact wpOp_mono (fun a' w' hh=>⟨hh.1,fX hs hQ u f _ a' w' h5 hh.1 hh.2⟩) (gJ ho' h.2)
 | .three i t j u k v,f,listed,a,w,hB,hS,h=>by
  simp only[oD.ok,Bool.and_eq_true,decide_eq_true_eq] at hB;obtain ⟨⟨⟨⟨⟨⟨⟨h0,h1⟩,h1'⟩,h1''⟩,h2⟩,h4⟩,h5⟩,h6⟩:=hB;obtain ⟨o,ho⟩:=Option.isSome_iff_exists.1 h1;obtain ⟨o',ho'⟩:=Option.isSome_iff_exists.1 h1';obtain ⟨o'',ho''⟩:=Option.isSome_iff_exists.1 h1'';obtain ⟨f,rfl⟩ : ∃ g,f = g + 1:=⟨f - 1,by omega⟩
  simp only[cE,ho,ho',ho'',Option.getD_some] at h;refine wpAnyH_all h2 (by simp) fun m hm=>?_;have hm' : m = i ∨ m = j ∨ m = k:=by simpa using hm
  rcases hm' with rfl | rfl | rfl
  · exact wpOp_mono (fun a' w' hh=>⟨hh.1,fX hs hQ t f _ a' w' h4 hh.1 hh.2⟩) (gJ ho h.1)
  · exact wpOp_mono (fun a' w' hh=>⟨hh.1,fX hs hQ u f _ a' w' h5 hh.1 hh.2⟩) (gJ ho' h.2.1)
  · exact wpOp_mono (fun a' w' hh=>⟨hh.1,fX hs hQ v f _ a' w' h6 hh.1 hh.2⟩) (gJ ho'' h.2.2)
theorem Ga {id : Nat} {Q : Exit → Act → World → Prop} {a : Act} {w : World} {l : List Oper} (t : oD) (hm : P.follows .mixedOrders = true) (hB : (Region.noSelect l.toArray && t.ok .any l.toArray l.toArray.size (Array.replicate l.toArray.size false)) = true)
 (hQ : ∀ c d v a w,Q (.panic c) (Act.put a d v) w → Q (.panic c) a w)
 (h : ∀ w',eB w w' → ∃ S,qT w' S ∧ cE P l.toArray S Q t a w') : (Code.region id l.toArray true).wp P Q a w:=by
 simp only[Bool.and_eq_true] at hB;obtain ⟨S,hS,h⟩:=h _ (eB.refl w).drawn;exact wp_region_held (S:=S) hm (fX (md:=.any) hB.1 hQ t _ _ a _ hB.2 hS h)
variable {Q : Exit → Act → World → Prop} {a : Act} {w : World} {o o' : Oper} {i j : Nat} {t u : oD}
theorem lH (h : Q .normal a w) : cE P ops S Q .nil a w:=h
theorem aZ (ho : (ops[i]?).getD default = o) (h : bL P ops S (fun _ a w=>cE P ops S Q t a w) [(o,true)] a w) : cE P ops S Q (.take i t) a w:=by subst ho;exact h
theorem dZ (ho : (ops[i]?).getD default = o) (h : wpList P ops (Exit.then (fun a w=>S w ∧ cE P ops S Q t a w) Q) [o] a w) : cE P ops S Q (.one i t) a w:=by subst ho;exact h
theorem wV (ho : (ops[i]?).getD default = o) (ho' : (ops[j]?).getD default = o') (h : wpList P ops (Exit.then (fun a w=>S w ∧ cE P ops S Q t a w) Q) [o] a w) (h' : wpList P ops (Exit.then (fun a w=>S w ∧ cE P ops S Q u a w) Q) [o'] a w) : cE P ops S Q (.two i t j u) a w:=by
 subst ho;subst ho';exact ⟨h,h'⟩
end
end Go.Lith
namespace Go.Lith
open Go.RowKit
section
variable {P : Program} {ops : Array Oper} {md : Region.Mode} {w0 : World}
def YE (P : Program) (ops : Array Oper) (w0 : World) (o : Oper) (v : Value) (a : Act) : Prop :=
 (Region.wanted o (yielded ops a.tmps) = true ∧ ∀ w,eB w0 w → o.quietAt P a (eB w) w v) ∨ (Region.wanted o (yielded ops a.tmps) = false ∧ v = undef)
theorem YE.of_same {o : Oper} {v : Value} {a a' : Act} (hy : YE P ops w0 o v a) (he : execOp a'.eval o = execOp a.eval o)
 (hw : Region.wanted o (yielded ops a'.tmps) = Region.wanted o (yielded ops a.tmps)) : YE P ops w0 o v a':=by
 unfold YE Oper.quietAt at *
 rw [he,hw];exact hy
def qE (P : Program) (ops : Array Oper) (w0 : World) (i : Nat) (K : Act → Prop) (a : Act) : Prop:=∃ o v,ops[i]? = some o ∧ YE P ops w0 o v a ∧ K (a.put o.dst v)
theorem adE {i : Nat} {a : Act} {K K' : Act → Prop} (h : ∀ a,K a → K' a) (hh : qE P ops w0 i K a) : qE P ops w0 i K' a :=
 let ⟨o,v,h1,h2,h3⟩:=hh;⟨o,v,h1,h2,h _ h3⟩
theorem afI {j : Nat} {oi oj : Oper} {v : Value} (hj : ops[j]? = some oj) (hap : oi.apart ops oj = true) (hsi : ∀ cs b,oi.op ≠ .select cs b) (hsj : ∀ cs b,oj.op ≠ .select cs b) {K : Act → Prop} {a : Act}
 (hy : YE P ops w0 oi v a) (h : qE P ops w0 j K (a.put oi.dst v)) : qE P ops w0 j (fun a'=>YE P ops w0 oi v a' ∧ K (a'.put oi.dst v)) a:=by
 obtain ⟨h1,h2,h3⟩:=Oper.apart_spec hap;obtain ⟨o,u,ho,hu,hk⟩:=h;rw [hj] at ho;cases ho;refine ⟨oj,u,hj,hu.of_same (execOp_put oj hsj a oi.dst v h1).symm (wanted_put oj a oi.dst v h1).symm,hy.of_same (execOp_put oi hsi a oj.dst u h3) (wanted_put oi a oj.dst u h3),?_⟩;rw [← Act.put_comm a v u h2];exact hk
def Gb (P : Program) (md : Region.Mode) (ops : Array Oper) (w0 : World) (n : Nat) (L : Array Bool → Act → Prop) : Nat → Array Bool → Act → Prop
 | 0,listed,a=>L listed a
 | f + 1,listed,a=>Region.ready md ops listed ≠ [] ∧ ∀ i ∈ Region.ready md ops listed,i < n ∧ qE P ops w0 i (Gb P md ops w0 n L f (listed.setIfInBounds i true)) a
theorem Lz {n i : Nat} {oi : Oper} {v : Value} {L : Array Bool → Act → Prop} (hi : ops[i]? = some oi) (hsel : ∀ (j : Nat) (o : Oper) cs b,ops[j]? = some o → o.op ≠ .select cs b)
 (hs : Region.sinkB md ops n = true) (hc : Region.chainB md ops n = true) (hn : n < ops.size) (hin : i < n)
 (hdone : ∀ listed a,L listed a → ∀ j ∈ Region.ready md ops listed,n ≤ j) :
 ∀ (f : Nat) (listed : Array Bool) (a : Act),HeadInv md ops n listed →
  (∀ j oj,ops[j]? = some oj → j ≠ i → listed.getD j true = false → (∀ e ∈ oj.after,Region.binds md e = true → e.on ≠ i) → oi.apart ops oj = true) →
  i ∈ Region.ready md ops listed → YE P ops w0 oi v a →
  Gb P md ops w0 n L f (listed.setIfInBounds i true) (a.put oi.dst v) → Gb P md ops w0 n L (f + 1) listed a:=by
 intro f
 induction f with
 | zero =>
  intro listed a inv _ hr hy H;have hun:=(mem_ready.1 hr).1;refine ⟨fun h=>(by rw [h] at hr;cases hr),fun j hj=>?_⟩;have hjn : j < n:=by
   rcases Nat.lt_or_ge j n with h | h
   · exact h
   · exact absurd hj (tail_waits hs hc hn inv _ i rfl hin hun j h)
  refine ⟨hjn,?_⟩;by_cases hji : j = i
  · subst hji;exact ⟨oi,v,hi,hy,H⟩
  · have:=hdone _ _ H j (ready_mono hj hji)
    omega
 | succ f ih =>
  intro listed a inv hfree hr hy H;have hun:=(mem_ready.1 hr).1;refine ⟨fun h=>(by rw [h] at hr;cases hr),fun j hj=>?_⟩;have hjn : j < n:=by
   rcases Nat.lt_or_ge j n with h | h
   · exact h
   · exact absurd hj (tail_waits hs hc hn inv _ i rfl hin hun j h)
  refine ⟨hjn,?_⟩;by_cases hji : j = i
  · subst hji;exact ⟨oi,v,hi,hy,H⟩
  · have h1:=(H.2 j (ready_mono hj hji)).2
    obtain ⟨hjun,oj,hoj,hall⟩:=mem_ready.1 hj;have hnot : ∀ e ∈ oj.after,Region.binds md e = true → e.on ≠ i:=fun e he hb heq=>by
     have h1:=hall e he hb;rw [heq,getD_both hun] at h1;cases h1
    have h2:=afI hoj (hfree j oj hoj hji hjun hnot) (fun cs b=>hsel i oi cs b hi) (fun cs b=>hsel j oj cs b hoj) hy h1;have hfree' : ∀ k ok,ops[k]? = some ok → k ≠ i → (listed.setIfInBounds j true).getD k true = false →
     (∀ e ∈ ok.after,Region.binds md e = true → e.on ≠ i) → oi.apart ops ok = true:=fun k ok hk hki hun hno=>by
     refine hfree k ok hk hki ?_ hno;by_cases hjk : j = k
     · subst hjk;exact hjun
     · rw [getD_set_ne true hjk] at hun;exact hun
    refine adE (fun a' h3=>ih (listed.setIfInBounds j true) a' (inv.set hj hjn) hfree' (ready_mono hr (Ne.symm hji)) h3.1 ?_) h2;rw [Array.setIfInBounds_comm _ _ hji];exact h3.2
def uI (P : Program) (ops : Array Oper) (w0 : World) (L : Act → Prop) : List Oper → Act → Prop
 | [],a=>L a
 | o :: r,a=>∃ v,YE P ops w0 o v a ∧ uI P ops w0 L r (a.put o.dst v)
def aaQ (md : Region.Mode) (ops : Array Oper) (g n : Nat) : List Nat → Array Bool → Bool
 | [],listed=>Region.seqB md ops g n listed
 | i :: r,listed=>(ops[i]?).isSome && decide (i < n) && (Region.ready md ops listed).contains i && Region.free md ops listed i && aaQ md ops g n r (listed.setIfInBounds i true)
theorem Gc {n g : Nat} {L : Act → Prop} (hsel : Region.noSelect ops = true) (hs : Region.sinkB md ops n = true) (hc : Region.chainB md ops n = true) (hn : n < ops.size) :
 ∀ (l : List Nat) (listed : Array Bool) (a : Act),HeadInv md ops n listed → aaQ md ops g n l listed = true → uI P ops w0 L (l.map fun i=>(ops[i]?).getD default) a →
 Gb P md ops w0 n (fun listed' a'=>Region.seqB md ops g n listed' = true ∧ L a') l.length listed a
 | [],listed,a,_,hB,h=>⟨by simpa [aaQ] using hB,h⟩
 | i :: l,listed,a,inv,hB,h=>by
  simp only[aaQ,Bool.and_eq_true,decide_eq_true_eq] at hB;obtain ⟨⟨⟨⟨h1,h2⟩,h3⟩,h4⟩,h5⟩:=hB;obtain ⟨o,ho⟩:=Option.isSome_iff_exists.1 h1;simp only[List.map_cons,uI,ho,Option.getD_some] at h;obtain ⟨v,hy,hr⟩:=h;have hi' : i ∈ Region.ready md ops listed:=by simpa using h3
  exact Lz ho (Region.noSelect_spec hsel) hs hc hn h2 (fun listed' a' hL=>seqB_ready hL.1) l.length listed a inv (Region.free_spec ho h4) hi' hy (Gc hsel hs hc hn l _ _ (inv.set hi' h2) h5 hr)
structure Al where
 i : Nat
 d : Nat
 T : TypeId
 cs : List Value
def sK (P : Program) (md : Region.Mode) (ops : Array Oper) (x : Al) : Prop :=
 ∃ ty pos after,ops[x.i]? = some (Oper.mk (some x.d) (.alloc x.T) ty pos after none) ∧ (after.all fun e=>!Region.binds md e) = true ∧ ∃ z,iL P x.T z ∧ z.cells = x.cs.toArray
def eR (E : Nat → Option Value) : List Al → Act → Act
 | [],a=>a
 | x :: r,a=>match E x.i with
  | some v=>eR E r (a.put (some x.d) v)
  | none=>eR E r a
def sL (ops : Array Oper) (o : Oper) (al : List Al) : Bool:=al.all fun x=>!(o.looksAt ops).contains x.d && o.dst != some x.d
theorem uJ {E : Nat → Option Value} {o : Oper} (hs : ∀ cs b,o.op ≠ .select cs b) : ∀ {al : List Al},sL ops o al = true → ∀ a,execOp (eR E al a).eval o = execOp a.eval o ∧ Region.wanted o (yielded ops (eR E al a).tmps) = Region.wanted o (yielded ops a.tmps)
 | [],_,a=>⟨rfl,rfl⟩
 | x :: r,hc,a=>by
  simp only[sL,List.all_cons,Bool.and_eq_true,Bool.not_eq_true'] at hc;have hr : sL ops o r = true:=by simp only[sL,Bool.and_eq_true,Bool.not_eq_true'] ;simpa using hc.2
  have hd : x.d ∉ o.looksAt ops:=by simpa using hc.1.1
  unfold eR;split
  · obtain ⟨h1,h2⟩:=uJ (E:=E) hs hr (a.put (some x.d) _)
    rename_i v _;exact ⟨h1.trans (execOp_put o hs a (some x.d) v (fun d e=>by cases e;exact hd)),h2.trans (wanted_put o a (some x.d) v (fun d e=>by cases e;exact hd))⟩
  · exact uJ hs hr a
theorem xP {E : Nat → Option Value} {o : Oper} {v : Value} : ∀ {al : List Al},sL ops o al = true → ∀ a,(eR E al a).put o.dst v = eR E al (a.put o.dst v)
 | [],_,a=>rfl
 | x :: r,hc,a=>by
  simp only[sL,List.all_cons,Bool.and_eq_true,Bool.not_eq_true',bne_iff_ne,ne_eq] at hc;have hr : sL ops o r = true:=by simp only[sL,Bool.and_eq_true,Bool.not_eq_true'] ;simpa using hc.2
  unfold eR;split
  · rename_i u _
    rw [xP hr,Act.put_comm a u v (fun d e=>by cases e;exact hc.1.2)]
  · exact xP hr a
theorem Gd {E : Nat → Option Value} {x : Al} {v : Value} : ∀ {al : List Al},(al.map (·.i)).Nodup → (al.map (·.d)).Nodup → x ∈ al → E x.i = none → ∀ a,(eR E al a).put (some x.d) v = eR (fun j=>if j = x.i then some v else E j) al a
 | [],_,_,hx,_,_=>by cases hx
 | y :: r,hi,hd,hx,he,a=>by
  simp only[List.map_cons,List.nodup_cons] at hi hd;have same : ∀ (l : List Al),x.i ∉ l.map (·.i) → ∀ a,eR (fun j=>if j = x.i then some v else E j) l a = eR E l a:=by
   intro l
   induction l with
   | nil=>intro _ a;rfl
   | cons z l ih =>
    intro hn a;simp only[List.map_cons,List.mem_cons,not_or] at hn;unfold eR;simp only[Ne.symm hn.1,if_false];split <;> exact ih hn.2 _
  have push : ∀ (l : List Al),x.d ∉ l.map (·.d) → ∀ a,(eR E l a).put (some x.d) v = eR E l (a.put (some x.d) v):=by
   intro l
   induction l with
   | nil=>intro _ a;rfl
   | cons z l ih =>
    intro hn a;simp only[List.map_cons,List.mem_cons,not_or] at hn;unfold eR;split
    · rename_i u _
      rw [ih hn.2,Act.put_comm a u v (fun d e=>by cases e;simp;exact hn.1)]
    · exact ih hn.2 _
  rcases List.mem_cons.1 hx with rfl | hx
  · unfold eR
    simp only[he,if_true];rw [push r hd.1,same r hi.1]
  · have hne : y.i ≠ x.i:=fun e=>hi.1 (by rw [e];exact List.mem_map_of_mem hx)
    unfold eR;simp only[hne,if_false];split <;> exact Gd hi.2 hd.2 hx he _
def Si (E : Nat → Option Value) (al : List Al) : Nat:=(al.filter fun x=>(E x.i).isNone).length
theorem Vz {E : Nat → Option Value} {x : Al} {v : Value} : ∀ {al : List Al},(al.map (·.i)).Nodup → x ∈ al → E x.i = none → Si E al = Si (fun j=>if j = x.i then some v else E j) al + 1
 | [],_,hx,_=>by cases hx
 | y :: r,hi,hx,he=>by
  simp only[List.map_cons,List.nodup_cons] at hi;have same : ∀ (l : List Al),x.i ∉ l.map (·.i) → Si (fun j=>if j = x.i then some v else E j) l = Si E l:=by
   intro l
   induction l with
   | nil=>intro _;rfl
   | cons z l ih =>
    intro hn;simp only[List.map_cons,List.mem_cons,not_or] at hn;have:=ih hn.2;unfold Si at *
    rw [List.filter_cons,List.filter_cons];simp only[Ne.symm hn.1,if_false];split <;> simp [this]
  rcases List.mem_cons.1 hx with rfl | hx
  · have:=same r hi.1
    unfold Si at *
    rw [List.filter_cons,List.filter_cons];simp [he,this]
  · have hne : y.i ≠ x.i:=fun e=>hi.1 (by rw [e];exact List.mem_map_of_mem hx)
    have:=Vz (v:=v) hi.2 hx he;unfold Si at *
    rw [List.filter_cons,List.filter_cons];simp only[hne,if_false];split <;> simp [this]
theorem Oz {E : Nat → Option Value} {al : List Al} (h : Si E al = 0) : ∀ x ∈ al,∃ v,E x.i = some v:=fun x hx=>by
 unfold Si at h;have:=List.filter_eq_nil_iff.1 (List.eq_nil_of_length_eq_zero h) x hx;cases he : E x.i with
 | none=>simp [he] at this
 | some v=>exact ⟨v,rfl⟩
theorem adF {E : Nat → Option Value} {al : List Al} (h : 0 < Si E al) : ∃ x ∈ al,E x.i = none:=by
 unfold Si at h;obtain ⟨x,hx⟩:=List.length_pos_iff_exists_mem.1 h;obtain ⟨h1,h2⟩:=List.mem_filter.1 hx;exact ⟨x,h1,by simpa using h2⟩
def Cc (base : Nat) (E : Nat → Option Value) (al : List Al) (w : World) : Prop :=
 (∀ x ∈ al,∀ v,E x.i = some v → ∃ g,v = .pointer (some ⟨g,0,none⟩) ∧ base ≤ g ∧ fF w g x.cs x.T) ∧
 (∀ x ∈ al,∀ y ∈ al,x.i ≠ y.i → ∀ g g',E x.i = some (.pointer (some ⟨g,0,none⟩)) → E y.i = some (.pointer (some ⟨g',0,none⟩)) → g ≠ g')
theorem Cc.ext {base : Nat} {E : Nat → Option Value} {al : List Al} {w w' : World} (h : Cc base E al w) (hE : eB w w') : Cc base E al w' :=
 ⟨fun x hx v hv=>let ⟨g,e,hb,hB⟩:=h.1 x hx v hv;⟨g,e,hb,hB.ext hE⟩,h.2⟩
theorem Cc.new {base : Nat} {E : Nat → Option Value} {al : List Al} {w : World} (h : Cc base E al w) {x : Al} (hx : x ∈ al) (hi : (al.map (·.i)).Nodup) (he : E x.i = none) (hb : base ≤ w.heap.size) :
 Cc base (fun j=>if j = x.i then some (.pointer (some ⟨w.heap.size,0,none⟩)) else E j) al (w.alloc (.cells x.cs.toArray x.T)):=by
 have huniq : ∀ y ∈ al,y.i = x.i → y = x:=by
  intro y hy e;clear h
  induction al with
  | nil=>cases hx
  | cons z r ih =>
   simp only[List.map_cons,List.nodup_cons] at hi;rcases List.mem_cons.1 hx with rfl | hx'
   · rcases List.mem_cons.1 hy with rfl | hy'
     · rfl
     · exact absurd (by rw [← e];exact List.mem_map_of_mem hy') hi.1
   · rcases List.mem_cons.1 hy with rfl | hy'
     · exact absurd (by rw [e];exact List.mem_map_of_mem hx') hi.1
     · exact ih hx' hi.2 hy'
 refine ⟨fun y hy v hv=>?_,fun y hy z hz hne g g' h1 h2=>?_⟩
 · by_cases e : y.i = x.i
   · obtain rfl:=huniq y hy e
     simp only[if_true] at hv;cases hv;exact ⟨_,rfl,hb,gU w _ _⟩
   · simp only[e,if_false] at hv
     obtain ⟨g,e1,e2,e3⟩:=h.1 y hy v hv;exact ⟨g,e1,e2,e3.ext ((eB.refl w).alloc _)⟩
 · by_cases e : y.i = x.i
   · have e' : z.i ≠ x.i:=fun e2=>hne (e.trans e2.symm)
     simp only[e,if_true] at h1;simp only[e',if_false] at h2;cases h1;obtain ⟨g2,e1,_,e3⟩:=h.1 z hz _ h2;cases e1;exact Nat.ne_of_gt e3.lt
   · by_cases e' : z.i = x.i
     · simp only[e,if_false] at h1
       simp only[e',if_true] at h2;cases h2;obtain ⟨g2,e1,_,e3⟩:=h.1 y hy _ h1;cases e1;exact Nat.ne_of_lt e3.lt
     · simp only[e,if_false] at h1
       simp only[e',if_false] at h2;exact h.2 y hy z hz hne g g' h1 h2
def Ma (md : Region.Mode) (ops : Array Oper) (n : Nat) (al : List Al) : Bool :=
 decide ((al.map (·.i)).Nodup) && decide ((al.map (·.d)).Nodup) && (al.all fun x=>decide (x.i < n)) &&
 ((List.range n).all fun j=>(al.any fun x=>x.i == j) || match ops[j]? with
  | some o=>sL ops o al && o.after.all fun e=>!Region.binds md e || !(al.any fun x=>x.i == e.on)
  | none=>true)
theorem sim {n g : Nat} {al : List Al} {L : Act → Prop} {Q' : Exit → Act → World → Prop} {tl : List Oper} (hsel : Region.noSelect ops = true) (hs : Region.sinkB md ops n = true) (hc : Region.chainB md ops n = true) (hn : n < ops.size)
 (hal : ∀ x ∈ al,sK P md ops x) (hB : Ma md ops n al = true) (htl : ∀ j,tl[j]? = ops[n + j]?) (hgl : tl.length = g)
 (hL : ∀ a E w,eB w0 w → Cc w0.heap.size E al w → (∀ x ∈ al,∃ v,E x.i = some v) → L a → wpList P ops Q' tl (eR E al a) w) :
 ∀ (k f : Nat) (E : Nat → Option Value) (lr lm : Array Bool) (a : Act) (w : World),k = f + Si E al → HeadInv md ops n lr → lm.size = lr.size → (∀ j,lm.getD j false = (lr.getD j false || al.any fun x=>x.i == j)) →
  (∀ x ∈ al,(E x.i = none ↔ lr.getD x.i false = false)) → eB w0 w → Cc w0.heap.size E al w →
  Gb P md ops w0 n (fun listed' a'=>Region.seqB md ops g n listed' = true ∧ L a') f lm a → wpAny P md ops Q' (k + g) lr (eR E al a) w:=by
 simp only[Ma,Bool.and_eq_true,decide_eq_true_eq,List.all_eq_true,List.mem_range] at hB;obtain ⟨⟨⟨hni,hnd⟩,hlt⟩,hcl⟩:=hB;intro k
 induction k with
 | zero =>
  intro f E lr lm a w hk inv hsz hlm hE hx hla H;obtain rfl : f = 0:=by omega
  have h0 : Si E al = 0:=by omega
  have hall:=Oz h0;have heq : lm = lr:=by
   apply Array.ext hsz;intro j h1 h2;have h3:=hlm j;simp only[Array.getD_eq_getD_getElem?,Array.getElem?_eq_getElem h1,Array.getElem?_eq_getElem h2,Option.getD_some] at h3;rw [h3];cases hlr : lr[j] with
   | true=>rfl
   | false =>
    rw [Bool.false_or];cases hany : al.any fun x=>x.i == j with
    | false=>rfl
    | true =>
     obtain ⟨x,hx1,hx2⟩:=List.any_eq_true.1 hany;have hx3 : x.i = j:=by simpa using hx2
     obtain ⟨v,hv⟩:=hall x hx1;have : lr.getD x.i false = false:=by
      rw [hx3,Array.getD_eq_getD_getElem?,Array.getElem?_eq_getElem h2];simpa using hlr
     rw [(hE x hx1).2 this] at hv;cases hv
  subst heq;obtain ⟨H1,H2⟩:=H;rw [Nat.zero_add,← hgl];exact wpAny_of_seq (md:=md) tl n lm _ w htl (by rw [hgl];exact H1) (hL a E w hx hla hall H2)
 | succ k ih =>
  intro f E lr lm a w hk inv hsz hlm hE hx hla H;have getT : ∀ j,j < ops.size → lr.getD j false = false → lr.getD j true = false:=fun j hj h=>getD_in (by rw [inv.size];exact hj) h
  -- some head operation is not listed
  have hsome : ∃ j,j ∈ Region.ready md ops lr ∧ j < n:=by
   rcases Nat.eq_zero_or_pos (Si E al) with h0 | h0
   · obtain ⟨f,rfl⟩ : ∃ q,f = q + 1:=⟨f - 1,by omega⟩
     obtain ⟨hne,hr⟩:=H;obtain ⟨j,hj⟩:=List.exists_mem_of_ne_nil _ hne;have hjn:=(hr j hj).1;refine ⟨j,?_,hjn⟩;have hall:=Oz h0;obtain ⟨hju,oj,hoj,hpre⟩:=mem_ready.1 hj;refine mem_ready.2 ⟨?_,oj,hoj,fun e he hb=>?_⟩
     · have h1:=hlm j
       rw [getD_both hju] at h1;have h2 : lr.getD j false = false:=by
        cases h : lr.getD j false with
        | false=>rfl
        | true=>rw [h] at h1;simp at h1
       exact getT j (by omega) h2
     · have h1:=hlm e.on
       rw [hpre e he hb] at h1;cases h : lr.getD e.on false with
       | true=>rfl
       | false =>
        rw [h,Bool.false_or] at h1;obtain ⟨x,hx1,hx2⟩:=List.any_eq_true.1 h1.symm;have hx3 : x.i = e.on:=by simpa using hx2
        obtain ⟨v,hv⟩:=hall x hx1;rw [(hE x hx1).2 (by rw [hx3];exact h)] at hv;cases hv
   · obtain ⟨x,hx1,hx2⟩:=adF h0
     obtain ⟨ty,pos,after,hop,haf,_⟩:=hal x hx1;have hxn : x.i < n:=by simpa using hlt x hx1
     refine ⟨x.i,mem_ready.2 ⟨getT _ (by omega) ((hE x hx1).1 hx2),_,hop,fun e he hb=>?_⟩,hxn⟩;have:=Array.all_eq_true_iff_forall_mem.1 haf e he;simp [hb] at this
  obtain ⟨j0,hj0,hj0n⟩:=hsome;have hj0u:=(mem_ready.1 hj0).1;rw [show k + 1 + g = (k + g) + 1 by omega];refine ⟨fun h=>(by rw [h] at hj0;cases hj0),fun i hi=>?_⟩;have hin : i < n:=by
   rcases Nat.lt_or_ge i n with h | h
   · exact h
   · exact absurd hi (tail_waits hs hc hn inv _ j0 rfl hj0n hj0u i h)
  obtain ⟨hiu,oi,hoi,hpre⟩:=mem_ready.1 hi;by_cases hia : al.any (fun x=>x.i == i) = true
  · -- an allocation
    obtain ⟨x,hx1,hx2⟩:=List.any_eq_true.1 hia;obtain rfl : x.i = i:=by simpa using hx2
    obtain ⟨ty,pos,after,hop,haf,z,hz,hzc⟩:=hal x hx1;have hex : E x.i = none:=(hE x hx1).2 (getD_both hiu);obtain ⟨inf,hinf,hinz⟩:=hz;unfold wpOp;simp only[hop];rw [if_pos (by simp [Region.wanted])];refine .inl ?_;have hrun : ∀ ρ : Operand → Value,(execOp ρ (Oper.mk (some x.d) (.alloc x.T) ty pos after none)).run P w = .ok (.value (.pointer (some ⟨w.heap.size,0,none⟩))) (w.alloc (.cells x.cs.toArray x.T)):=fun ρ=>by
     simp [execOp,Instr.alloc,zeroValue,typeInfo,hinf,hinz,newVar,newRow,hzc,newObj,Sem.run]
    unfold Oper.wp;rw [hrun];show wpAny P md ops Q' (k + g) (lr.setIfInBounds x.i true) ((eR E al a).put (some x.d) (.pointer (some ⟨w.heap.size,0,none⟩))) _
    rw [Gd hni hnd hx1 hex];have hc1:=Vz (v:=.pointer (some ⟨w.heap.size,0,none⟩)) hni hx1 hex;have hxs : x.i < lr.size:=by rw [inv.size];omega
    refine ih f _ _ lm a _ (by omega) (inv.set hi hin) (by simp [hsz]) (fun j=>?_) (fun y hy=>?_) (hx.alloc _) (hla.new hx1 hni hex hx.size) H
    · rw [hlm j]
      by_cases e : x.i = j
      · subst e
        rw [hia];simp
      · rw [getD_set_ne false e]
    · by_cases e : x.i = y.i
      · rw [← e]
        simp [hxs]
      · rw [getD_set_ne false e]
        simp only[Ne.symm e,if_false];exact hE y hy
  · -- an operation that computes
    have hia' : al.any (fun x=>x.i == i) = false:=by simpa using hia
    have hci:=hcl i hin;rw [hia',Bool.false_or,hoi] at hci;simp only[Bool.and_eq_true] at hci;have hready : i ∈ Region.ready md ops lm:=by
     refine mem_ready.2 ⟨?_,oi,hoi,fun e he hb=>by rw [hlm,hpre e he hb];rfl⟩;have h1:=hlm i;rw [getD_both hiu,hia'] at h1;exact getD_in (by rw [hsz,inv.size];omega) (by simpa using h1)
    cases f with
    | zero =>
     obtain ⟨H1,H2⟩:=H;have:=seqB_ready H1 i hready;omega
    | succ f =>
     obtain ⟨_,o,v,ho,hy,hK⟩:=H.2 i hready;rw [hoi] at ho;cases ho;have hse : ∀ cs b,oi.op ≠ .select cs b:=fun cs b=>Region.noSelect_spec hsel i oi cs b hoi;obtain ⟨e1,e2⟩:=uJ (E:=E) hse hci.1 a;have hy':=hy.of_same e1 e2;have key : ∀ w',eB w w' → wpAny P md ops Q' (k + g) (lr.setIfInBounds i true) ((eR E al a).put oi.dst v) w':=fun w' hw'=>by
      rw [xP hci.1];refine ih f E _ _ _ w' (by omega) (inv.set hi hin) (by simp [hsz]) (fun j=>?_) (fun y hy=>?_) (hx.trans hw') (hla.ext hw') hK
      · by_cases e : i = j
        · subst e
          have h1 : i < lr.size:=by rw [inv.size];omega
          simp [h1,hsz]
        · rw [getD_set_ne false e,getD_set_ne false e,hlm j]
      · have e : i ≠ y.i:=fun e=>by
         have : al.any (fun x=>x.i == i) = true:=List.any_eq_true.2 ⟨y,hy,by simp [e]⟩;rw [hia'] at this;cases this
        rw [getD_set_ne false e];exact hE y hy
     unfold wpOp;simp only[hoi];rcases hy' with ⟨hw,hv⟩ | ⟨hw,rfl⟩
     · rw [if_pos hw]
       refine .inl ?_;have h3:=hv w hx;unfold Oper.quietAt at h3;unfold Oper.wp;generalize (execOp (eR E al a).eval oi).run P w = r at *
       cases r with
       | ok nx w' =>
        cases nx <;> simp only[Oper.quietUpon] at h3 <;> simp only[Oper.upon]
        case value u =>
         obtain ⟨e1,e2⟩:=h3;rw [e1,e2];exact key w (eB.refl w)
        case skip =>
         obtain ⟨e1,e2⟩:=h3;rw [e1,← e2];exact key w (eB.refl w)
        case enter f' args =>
         obtain ⟨e1,hcl⟩:=h3;rw [e1];exact hcl.mono fun e w'' ⟨he,hw''⟩=>by subst he;exact key w'' hw''
       | halt x w'=>simp only[Oper.quietUpon] at h3
     · rw [if_neg (by rw [hw];simp)]
       exact key w (eB.refl w)
theorem tM {id : Nat} {Q : Exit → Act → World → Prop} {a : Act} {w : World} {l : List Oper} (n : Nat) (idx : List Nat) (al : List Al) (hm : P.follows .mixedOrders = true)
 (hB : (Region.noSelect l.toArray && decide (n < l.length) && Region.sinkB .any l.toArray n && Region.chainB .any l.toArray n && Ma .any l.toArray n al && decide (n = idx.length + al.length) &&
  aaQ .any l.toArray (l.length - n) n idx (al.foldl (fun s x=>s.setIfInBounds x.i true) (Array.replicate l.toArray.size false))) = true)
 (hal : ∀ x ∈ al,sK P .any l.toArray x) {ol : List Oper} (hol : (idx.map fun i=>(l.toArray[i]?).getD default) = ol)
 (h : ∀ w1,eB w w1 → uI P l.toArray w1 (fun a'=>∀ E w',eB w1 w' → Cc w1.heap.size E al w' → (∀ x ∈ al,∃ v,E x.i = some v) → wpList P l.toArray Q (l.drop n) (eR E al a') w') ol a) : (Code.region id l.toArray true).wp P Q a w:=by
 simp only[Bool.and_eq_true,decide_eq_true_eq] at hB;obtain ⟨⟨⟨⟨⟨⟨hsel,hn⟩,hs⟩,hc⟩,hf⟩,hlen⟩,hlex⟩:=hB;subst hol;have hn' : n < l.toArray.size:=by simpa using hn
 have hf':=hf;simp only[Ma,Bool.and_eq_true,decide_eq_true_eq,List.all_eq_true,List.mem_range] at hf';obtain ⟨⟨⟨hni,hnd⟩,hlt⟩,hcl⟩:=hf';generalize hlm : al.foldl (fun s x=>s.setIfInBounds x.i true) (Array.replicate l.toArray.size false) = lm at hlex;have hfold : ∀ (r : List Al) (s : Array Bool),(r.foldl (fun s x=>s.setIfInBounds x.i true) s).size = s.size ∧ ∀ j,j < s.size → (r.foldl (fun s x=>s.setIfInBounds x.i true) s).getD j false = (s.getD j false || r.any fun x=>x.i == j):=by
  intro r
  induction r with
  | nil=>intro s;exact ⟨rfl,fun j _=>by simp⟩
  | cons x r ih =>
   intro s;obtain ⟨h1,h2⟩:=ih (s.setIfInBounds x.i true);refine ⟨by rw [List.foldl_cons,h1];simp,fun j hj=>?_⟩;rw [List.foldl_cons,h2 j (by simpa using hj),List.any_cons];by_cases e : x.i = j
   · subst e
     simp [hj]
   · have e2 : (x.i == j) = false:=by simpa using e
     rw [getD_set_ne false e,e2,Bool.false_or]
 obtain ⟨hsz,hget⟩:=hfold al (Array.replicate l.toArray.size false);rw [hlm] at hsz hget;have hsz' : lm.size = l.toArray.size:=by rw [hsz];simp
 have hlmj : ∀ j,lm.getD j false = al.any fun x=>x.i == j:=fun j=>by
  rcases Nat.lt_or_ge j l.toArray.size with hj | hj
  · rw [hget j (by simpa using hj),getD_replicate_false,Bool.false_or]
  · have h1 : lm.getD j false = false:=by rw [Array.getD_eq_getD_getElem?,Array.getElem?_eq_none (by omega)];rfl
    rw [h1]
    symm
    rw [Bool.eq_false_iff];intro h2;obtain ⟨x,hx1,hx2⟩:=List.any_eq_true.1 h2;have hx3 : x.i = j:=by simpa using hx2
    have : x.i < n:=by simpa using hlt x hx1
    omega
 have inv0 : HeadInv .any l.toArray n (Array.replicate l.toArray.size false) :=
  ⟨by simp,fun j oj _ hl=>(by rw [getD_replicate_false] at hl;cases hl),fun t _ ht=>getD_in (by simpa using ht) (getD_replicate_false _ _)⟩
 have invm : HeadInv .any l.toArray n lm:=by
  refine ⟨hsz',fun j oj hoj hl e he hb=>?_,fun t ht ht'=>getD_in (by rw [hsz'];exact ht') ?_⟩
  · rw [hlmj] at hl
    obtain ⟨x,hx1,hx2⟩:=List.any_eq_true.1 hl;have hx3 : x.i = j:=by simpa using hx2
    obtain ⟨ty,pos,after,hop,haf,_⟩:=hal x hx1;rw [hx3,hoj] at hop;cases hop;have:=Array.all_eq_true_iff_forall_mem.1 haf e he;simp [hb] at this
  · rw [hlmj,Bool.eq_false_iff]
    intro h2;obtain ⟨x,hx1,hx2⟩:=List.any_eq_true.1 h2;have hx3 : x.i = t:=by simpa using hx2
    have : x.i < n:=by simpa using hlt x hx1
    omega
 refine wp_region_any hm ?_;obtain ⟨w1,hw1⟩ : ∃ w1,w1 = ({ w with drawn:=w.drawn + 1 } : World):=⟨_,rfl⟩
 rw [← hw1];have hx1 : eB w w1:=by rw [hw1];exact (eB.refl w).drawn
 have H:=Gc (md:=.any) (g:=l.length - n) hsel hs hc hn' idx lm a invm hlex (h w1 hx1);have hcnt : Si (fun _=>none) al = al.length:=by
  unfold Si;simp
 have key:=sim (md:=.any) (P:=P) (ops:=l.toArray) (w0:=w1) (Q':=Q) (tl:=l.drop n) (g:=l.length - n) (al:=al) hsel hs hc hn' hal hf (fun j=>by simp [List.getElem?_drop]) (by simp) (fun a E w' hw' hla hall hL=>hL E w' hw' hla hall)
  (idx.length + al.length) idx.length (fun _=>none) (Array.replicate l.toArray.size false) lm a w1 (by rw [hcnt]) inv0 (by rw [hsz'];simp) (fun j=>by rw [getD_replicate_false,Bool.false_or];exact hlmj j)
  (fun x _=>⟨fun _=>getD_replicate_false _ _,fun _=>rfl⟩) (eB.refl w1) ⟨fun x _ v hv=>(by cases hv),fun x _ y _ _ g g' h1 _=>(by cases h1)⟩ H
 have hap : ∀ r : List Al,eR (fun _=>none) r a = a:=by
  intro r
  induction r with
  | nil=>rfl
  | cons x r ih=>exact ih
 rw [hap,← hlen] at key;have e : n + (l.length - n) = l.toArray.size:=by rw [List.size_toArray];omega
 rwa [e] at key
end
section
variable {P : Program} {ops : Array Oper} {w0 : World} {L : Act → Prop} {ds : List Deferred} {l : List Value} {rest : List Oper} {d : Nat} {op : Op} {ty : TypeId} {pos : String} {after : Array Edge} {v : Value} {x y : Operand} {T : TypeId}
theorem aaR (hr : ∀ w,eB w0 w → tX P l op ty v w) (h : uI P ops w0 L rest (Fr (l.set d v) ds)) : uI P ops w0 L (Oper.mk (some d) op ty pos after none :: rest) (Fr l ds):=by
 refine ⟨v,.inl ⟨by simp [Region.wanted],fun w hw=>?_⟩,?_⟩
 · unfold Oper.quietAt
   rw [gH,hr w hw _ rfl rfl];exact ⟨rfl,rfl⟩
 · show uI P ops w0 L rest ((Fr l ds).put (some d) v)
   rw [gI];exact h
theorem wW (hr : fC P l op ty v) (h : uI P ops w0 L rest (Fr (l.set d v) ds)) : uI P ops w0 L (Oper.mk (some d) op ty pos after none :: rest) (Fr l ds):=aaR (fun w _=>hr w) h
theorem pG {a : Addr} (hx : ev l x = .pointer (some a)) (hv : ∀ w',eB w0 w' → hG P w' T a v) (h : uI P ops w0 L rest (Fr (l.set d v) ds)) : uI P ops w0 L (Oper.mk (some d) (.load T x) ty pos after none :: rest) (Fr l ds) :=
 aaR (fun _ hE=>bJ hx (hv _ hE)) h
theorem adG {f : FuncId} {fo : Operand} {xs : Array Operand} {args : List Value} {first cap : Array Value} {a0 : Array TypeId} (hf : ev l fo = .func (.func f) first cap) (hxs : first.toList ++ xs.toList.map (ev l) ++ cap.toList = args) (hc : ∀ w',eB w0 w' → eG P f args w' fun u _=>u = v)
 (h : uI P ops w0 L rest (Fr (l.set d v) ds)) : uI P ops w0 L (Oper.mk (some d) (.call { callee:=.value fo,args:=xs,argTypes:=a0 }) ty pos after none :: rest) (Fr l ds):=by
 refine ⟨v,.inl ⟨by simp [Region.wanted],fun w hw=>?_⟩,?_⟩
 · unfold Oper.quietAt
   rw [gH,kM (hc w hw).1 hf hxs _ rfl];refine ⟨rfl,(hc w hw).2.mono ?_⟩;rintro e w'' ⟨u,rfl,hE,rfl⟩;exact ⟨rfl,hE⟩
 · show uI P ops w0 L rest ((Fr l ds).put (some d) v)
   rw [gI];exact h
theorem vU {f : FuncId} {fo : Operand} {xs : Array Operand} {args : List Value} {first cap : Array Value} {a0 : Array TypeId} (hf : ev l fo = .func (.func f) first cap) (hxs : first.toList ++ xs.toList.map (ev l) ++ cap.toList = args) (hc : eQ P f args v)
 (h : uI P ops w0 L rest (Fr (l.set d v) ds)) : uI P ops w0 L (Oper.mk (some d) (.call { callee:=.value fo,args:=xs,argTypes:=a0 }) ty pos after none :: rest) (Fr l ds) :=
 adG hf hxs (fun w' _=>hc w') h
theorem aeZ (h : L (Fr l ds)) : uI P ops w0 L [] (Fr l ds):=h
theorem al1 {md : Region.Mode} {x : Al} (h : sK P md ops x) : ∀ y ∈ [x],sK P md ops y:=fun y hy=>by
 rcases List.mem_cons.1 hy with rfl | hy
 · exact h
 · cases hy
theorem al2 {md : Region.Mode} {x y : Al} (h : sK P md ops x) (k : sK P md ops y) : ∀ z ∈ [x,y],sK P md ops z:=fun z hz=>by
 rcases List.mem_cons.1 hz with rfl | hz
 · exact h
 · exact al1 k z hz
variable {Q : Exit → Act → World → Prop} {tl : List Oper}
theorem afJ {i d : Nat} {T : TypeId} {cs : List Value} (h : ∀ w' g,eB w0 w' → w0.heap.size ≤ g → fF w' g cs T → wpList P ops Q tl (Fr (l.set d (.pointer (some ⟨g,0,none⟩))) ds) w') :
 ∀ E w',eB w0 w' → Cc w0.heap.size E [⟨i,d,T,cs⟩] w' → (∀ x ∈ [(⟨i,d,T,cs⟩ : Al)],∃ v,E x.i = some v) → wpList P ops Q tl (eR E [⟨i,d,T,cs⟩] (Fr l ds)) w':=fun E w' hE hL hv=>by
 obtain ⟨v,hv⟩:=hv ⟨i,d,T,cs⟩ (by simp);obtain ⟨g,rfl,hg,hB⟩:=hL.1 ⟨i,d,T,cs⟩ (by simp) v hv;have e : eR E [⟨i,d,T,cs⟩] (Fr l ds) = Fr (l.set d (.pointer (some ⟨g,0,none⟩))) ds:=by
  simp only[eR,hv];exact gI _ _
 rw [e];exact h w' g hE hg hB
theorem afK {i d j e : Nat} {T U : TypeId} {cs us : List Value} (hij : i ≠ j) (h : ∀ w' g k,eB w0 w' → w0.heap.size ≤ g → w0.heap.size ≤ k → fF w' g cs T → fF w' k us U → k ≠ g → wpList P ops Q tl (Fr ((l.set d (.pointer (some ⟨g,0,none⟩))).set e (.pointer (some ⟨k,0,none⟩))) ds) w') :
 ∀ E w',eB w0 w' → Cc w0.heap.size E [⟨i,d,T,cs⟩,⟨j,e,U,us⟩] w' → (∀ x ∈ [(⟨i,d,T,cs⟩ : Al),⟨j,e,U,us⟩],∃ v,E x.i = some v) → wpList P ops Q tl (eR E [⟨i,d,T,cs⟩,⟨j,e,U,us⟩] (Fr l ds)) w':=fun E w' hE hL hv=>by
 obtain ⟨v,h1⟩:=hv ⟨i,d,T,cs⟩ (by simp);obtain ⟨u,h2⟩:=hv ⟨j,e,U,us⟩ (by simp);obtain ⟨g,rfl,hg,hB⟩:=hL.1 ⟨i,d,T,cs⟩ (by simp) v h1;obtain ⟨k,rfl,hk,hK⟩:=hL.1 ⟨j,e,U,us⟩ (by simp) u h2;have e' : eR E [⟨i,d,T,cs⟩,⟨j,e,U,us⟩] (Fr l ds) = Fr ((l.set d (.pointer (some ⟨g,0,none⟩))).set e (.pointer (some ⟨k,0,none⟩))) ds:=by
  simp only[eR,h1,h2];rw [gI,gI]
 rw [e'];exact h w' g k hE hg hk hB hK (Ne.symm (hL.2 ⟨i,d,T,cs⟩ (by simp) ⟨j,e,U,us⟩ (by simp) hij g k h1 h2))
end
end Go.Lith
namespace Go.Lith
section
variable {P : Program} {ops : Array Oper} {w0 : World} {ds : List Deferred} {l : List Value} {Q : Exit → Act → World → Prop} {tl : List Oper}
end
end Go.Lith
namespace Go.Lith
open Go.RowKit
section
variable {P : Program} {ds : List Deferred} {l : List Value} {T ty : TypeId} {ops : Array Oper} {Q : Exit → Act → World → Prop} {rest : List Oper} {d : Nat} {pos : String} {after : Array Edge} {w : World}
theorem kP {E : TypeId} {c n : Nat} {z : Value} {parts : Array (Nat × Operand)} {vs : Array (Nat × Value)} {base : Array Value} {cs : List Value} (hu : P.underlying T = some (.slice E)) (hi : (P.info? E).map (fun i=>(i.size,i.zero)) = some (c,some z)) (h0 : n * c ≠ 0) (h24 : n * c ≤ 16777216)
 (hb : ((Array.range (n * c)).map fun i=>z.cells[i % z.cells.size]!) = base) (hp : (parts.map fun (i,x)=>(i,ev l x)) = vs) (hf : Instr.fill (fun i=>some (i * c,c)) base vs.toList = some cs.toArray)
 (h : ∀ w' g,eB w w' → w.heap.size ≤ g → fF w' g cs E → wpList P ops Q rest (Fr (l.set d (.slice (some ⟨g,0,none⟩) n n)) ds) w') :
 wpList P ops Q (Oper.mk (some d) (.buildSlice T n parts) ty pos after none :: rest) (Fr l ds) w:=by
 subst hb;subst hp;cases hq : P.info? E with
 | none=>rw [hq] at hi;cases hi
 | some i =>
  rw [hq] at hi;simp only[Option.map_some,Option.some.injEq,Prod.mk.injEq] at hi;obtain ⟨e1,e2⟩:=hi;have e : (Fr l).eval = ev l:=funext cM;have h24' : ¬ 16777216 < n * c:=by omega
  refine jN (w':=w.alloc (.cells cs.toArray E)) (v:=.slice (some ⟨w.heap.size,0,none⟩) n n) (fun o ho _=>?_) (h _ _ ((eB.refl w).alloc _) (Nat.le_refl _) (gU w cs E));simp only[execOp,ho,e];simp [Instr.buildSlice,run_underlying hu,sizeOf,typeInfo,zeroValue,hq,e1,e2,h24',newRow,newObj,Sem.run] at hf ⊢;rw [if_neg h0];simp [hf];rfl
end
end Go.Lith
namespace Go.Lith
open Go.RowKit
def nv (v : P3) : Go.Value:=.agg #[.int .i64 v.x,.int .i64 v.y,.int .i64 v.z]
def sg (v : P3) : Go.Value:=.agg #[.int .i64 (cA v.x),.int .i64 (cA v.y),.int .i64 (cA v.z)]
class S3 (p : P3) : Prop where
 x : p.x.natAbs < 262144
 y : p.y.natAbs < 262144
 z : p.z.natAbs < 262144
class N3 (p : P3) : Prop where
 x : p.x.natAbs < 524288
 y : p.y.natAbs < 524288
 z : p.z.natAbs < 524288
instance {p q : P3} [a : S3 p] [b : S3 q] : N3 (p.sub q):=⟨by have:=a.x;have:=b.x;simp only[P3.sub];omega,by have:=a.y;have:=b.y;simp only[P3.sub];omega,by have:=a.z;have:=b.z;simp only[P3.sub];omega⟩
theorem tR {a b : Int} (ha : a.natAbs < 524288) (hb : b.natAbs < 524288) : -274877906944 < a * b ∧ a * b < 274877906944:=by
 have h : (a * b).natAbs ≤ 524287 * 524287:=by rw [Int.natAbs_mul];exact Nat.mul_le_mul (by omega) (by omega)
 omega
theorem afL {x y : Int} (h : -274877906944 < x ∧ x < 274877906944) (k : -274877906944 < y ∧ y < 274877906944) : IntKind.i64.wrap (x - y) = x - y:=aV (by omega) (by omega)
theorem Kc {x : Int} (h : -274877906944 < x ∧ x < 274877906944) : IntKind.i64.wrap x = x:=aV (by omega) (by omega)
theorem tN {v : Int} (h : tU v) : IntKind.u64.wrap (if v < IntKind.i64.wrap (0 - v) then IntKind.i64.wrap (0 - v) else v) = (v.natAbs : Int):=by
 obtain ⟨h1,h2⟩:=h;rcases Int.lt_or_le (-9223372036854775808) v with h3 | h3
 · rw [aV (x:=0 - v) (by omega) (by omega),jC]
   split <;> omega
 · obtain rfl : v = -9223372036854775808:=by omega
   decide
def adH : ByteArray:=⟨#[0,1,2,2,3,3,3,3,4,4,4,4,4,4,4,4,5,5,5,5,5,5,5,5,5,5,5,5,5,5,5,5,6,6,6,6,6,6,6,6,6,6,6,6,6,6,6,6,6,6,6,6,6,6,6,6,6,6,6,6,6,6,6,6,7,7,7,7,7,7,7,7,7,7,7,7,7,7,7,7,7,7,7,7,7,7,7,7,7,7,7,7,7,7,7,7,7,7,7,7,7,7,7,7,7,7,7,7,7,7,7,7,7,7,7,7,7,7,7,7,7,7,7,7,7,7,7,7,8,8,8,8,8,8,8,8,8,8,8,8,8,8,8,8,8,8,8,8,8,8,8,8,8,8,8,8,8,8,8,8,8,8,8,8,8,8,8,8,8,8,8,8,8,8,8,8,8,8,8,8,8,8,8,8,8,8,8,8,8,8,8,8,8,8,8,8,8,8,8,8,8,8,8,8,8,8,8,8,8,8,8,8,8,8,8,8,8,8,8,8,8,8,8,8,8,8,8,8,8,8,8,8,8,8,8,8,8,8,8,8,8,8,8,8,8,8,8,8,8,8,8,8,8,8,8,8]⟩
theorem Ye : ∀ i,i < 256 → ∃ b : UInt8,adH[i]? = some b ∧ b.toNat ≤ 8 ∧ (b.toNat ≤ 2 → i < 4):=by
 have h : (List.range 256).all (fun i=>match adH[i]? with
  | some b=>decide (b.toNat ≤ 8) && (decide (2 < b.toNat) || decide (i < 4))
  | none=>false) = true:=by decide +kernel
 intro i hi;have:=List.all_eq_true.1 h i (List.mem_range.2 hi);cases hb : adH[i]? with
 | none=>rw [hb] at this;cases this
 | some b =>
  rw [hb] at this;simp only[Bool.and_eq_true,Bool.or_eq_true,decide_eq_true_eq] at this;exact ⟨b,rfl,this.1,fun h=>by omega⟩
section
variable {P : Program} {ds : List Deferred} {l : List Value} {x y : Operand} {T ty : TypeId} {ops : Array Oper} {Q : Exit → Act → World → Prop} {rest : List Oper} {d : Nat} {pos : String} {after : Array Edge} {w : World} {k : IntKind}
theorem uK {Y : Nat} (hu : P.underlying T = some .string) (hx : ev l x = .string adH) (hy : ev l y = .int k (Y : Int)) (hY : Y < 256) (h : ∀ b : Nat,b ≤ 8 → (b ≤ 2 → Y < 4) → wpList P ops Q rest (Fr (l.set d (.int .u8 (b : Int))) ds) w) :
 wpList P ops Q (Oper.mk (some d) (.index T x y) ty pos after none :: rest) (Fr l ds) w:=by
 obtain ⟨b,hb,h1,h2⟩:=Ye Y hY;exact aA (pA hu hx hy (by omega) (by rw [Int.toNat_natCast];exact hb)) (h b.toNat h1 h2)
end
theorem aaS {m : Nat} : (m : Int).fdiv (2 ^ (min (16 : Int).toNat IntKind.u64.bits)) = ((m / 65536 : Nat) : Int):=by
 show (m : Int).fdiv (2 ^ 16) = _
 rw [Int.fdiv_eq_ediv_of_nonneg _ (by decide)];omega
theorem Wa {m : Nat} : (m : Int).fdiv (2 ^ (min (8 : Int).toNat IntKind.u64.bits)) = ((m / 256 : Nat) : Int):=by
 show (m : Int).fdiv (2 ^ 8) = _
 rw [Int.fdiv_eq_ediv_of_nonneg _ (by decide)];omega
end Go.Lith
namespace Go.Lith
open Go.RowKit
def T3.flat (t : T3) : Prop:=t.normal.x = 0 ∧ t.normal.y = 0 ∧ t.normal.z = 0
instance (t : T3) : Decidable t.flat:=inferInstanceAs (Decidable (_ ∧ _ ∧ _))
theorem fG {n : Int} : cA n = 0 ↔ n = 0:=by
 unfold cA;constructor
 · intro h
   split at h
   · cases h
   · split at h
     · cases h
     · omega
 · rintro rfl;rfl
theorem Pa {n : Int} : 0 ≤ cA n ↔ 0 ≤ n:=by
 unfold cA;split
 · constructor <;> intro h <;> omega
 · split <;> constructor <;> intro h <;> omega
theorem aaT {n : Int} : 0 < cA n ↔ 0 < n:=by
 unfold cA;split
 · constructor <;> intro h <;> omega
 · split <;> constructor <;> intro h <;> omega
theorem aaU {n : Int} : cA n ≤ 0 ↔ n ≤ 0:=by
 have:=@aaT n;omega
structure bY (w : World) (A : Option Addr) (n : Nat) (ts : List T3) : Prop where
 len : ts.length = n
 it : ∀ t ∈ ts,IT t
 row : ∀ i t,ts[i]? = some t → ∃ a,A = some a ∧ mP w (a.add (i * 9)) [.int .i64 t.a.x,.int .i64 t.a.y,.int .i64 t.a.z,.int .i64 t.b.x,.int .i64 t.b.y,.int .i64 t.b.z,.int .i64 t.c.x,.int .i64 t.c.y,.int .i64 t.c.z]
theorem bY.ext {w w' : World} {A : Option Addr} {n : Nat} {ts : List T3} (h : bY w A n ts) (hE : eB w w') : bY w' A n ts :=
 ⟨h.len,h.it,fun i t hi=>let ⟨a,e,hr⟩:=h.row i t hi;⟨a,e,hr.ext hE⟩⟩
theorem bY.nil (w : World) (A : Option Addr) : bY w A 0 []:=⟨rfl,fun t h=>(by cases h),fun i t h=>(by cases h)⟩
theorem bY.get {w : World} {A : Option Addr} {n : Nat} {ts : List T3} (h : bY w A n ts) {i : Nat} (hi : i < n) : ∃ t,ts[i]? = some t ∧ IT t ∧ ∃ a,A = some a ∧ mP w (a.add (i * 9)) [.int .i64 t.a.x,.int .i64 t.a.y,.int .i64 t.a.z,.int .i64 t.b.x,.int .i64 t.b.y,.int .i64 t.b.z,.int .i64 t.c.x,.int .i64 t.c.y,.int .i64 t.c.z]:=by
 have hl : i < ts.length:=by rw [h.len];exact hi
 refine ⟨ts[i],List.getElem?_eq_getElem hl,h.it _ (List.getElem_mem hl),h.row i _ (List.getElem?_eq_getElem hl)⟩
end Go.Lith
namespace Go.Lith
open Go.RowKit
end Go.Lith
namespace Go.Lith
open Go.RowKit
def aW (t : T3) : List Go.Value:=[.int .i64 t.a.x,.int .i64 t.a.y,.int .i64 t.a.z,.int .i64 t.b.x,.int .i64 t.b.y,.int .i64 t.b.z,.int .i64 t.c.x,.int .i64 t.c.y,.int .i64 t.c.z]
theorem nF (t : T3) : (aW t).length = 9:=rfl
theorem Cd : ∀ (ts : List T3) (i : Nat) (t : T3),ts[i]? = some t → (ts.flatMap aW).drop (i * 9) = aW t ++ (ts.drop (i + 1)).flatMap aW
 | [],i,t,h=>by cases h
 | u :: ts,0,t,h=>by
  cases h;rfl
 | u :: ts,i + 1,t,h=>by
  rw [List.flatMap_cons,show (i + 1) * 9 = (aW u).length + i * 9 by rw [nF];omega,List.drop_append,List.drop_of_length_le (by omega),List.nil_append];rw [show (aW u).length + i * 9 - (aW u).length = i * 9 by omega];exact Cd ts i t h
end Go.Lith
namespace Go.Lith
open Go.RowKit
abbrev Dj (A : Option Addr) : Option Nat:=A.map (·.block)
structure Ow (w0 w : World) (S : List (Option Nat)) (E : TypeId) (c : Nat) (A : Option Addr) (n cap : Nat) (xs : List Value) : Prop where
 own : w.ownsRow w0.heap.size E c (.slice A n cap) n xs
 sep : ∀ b,Dj A = some b → some b ∉ S
 bd : ∀ b,some b ∈ S → b < w.heap.size
structure Wr (w w' : World) (A : Option Addr) : Prop where
 os : w'.os = w.os
 tape : w'.tape = w.tape
 output : w'.output = w.output
 size : w.heap.size ≤ w'.heap.size
 block : ∀ k,k < w.heap.size → Dj A ≠ some k → w'.heap[k]? = w.heap[k]?
theorem kQ {w : World} {base c n cap : Nat} {E : TypeId} {A : Option Addr} {xs : List Value} (h : w.ownsRow base E c (.slice A n cap) n xs) :
 (A = none ∧ n = 0 ∧ cap = 0 ∧ xs = []) ∨ ∃ g cur,A = some ⟨g,0,none⟩ ∧ base ≤ g ∧ w.heap[g]? = some (.cells cur E (0,0)) ∧ n ≤ cap ∧ cap ≤ maxLen ∧ cur.size = cap * c ∧ cur.toList.take (n * c) = xs:=by
 rcases h.2 with ⟨h1,h2⟩ | ⟨g,cap',cur,h1,h2,h3,h4,h5,h6,h7⟩
 · cases h1
   exact .inl ⟨rfl,h2,rfl,List.eq_nil_of_length_eq_zero (by rw [h.1,h2,Nat.zero_mul])⟩
 · cases h1
   exact .inr ⟨g,cur,rfl,h2,h3,h4,h5,h6,h7⟩
section
variable {w0 w w' : World} {S : List (Option Nat)} {E : TypeId} {c n cap : Nat} {A : Option Addr} {xs : List Value}
theorem Ow.cases (h : Ow w0 w S E c A n cap xs) : (A = none ∧ n = 0 ∧ cap = 0 ∧ xs = []) ∨ ∃ g cur,A = some ⟨g,0,none⟩ ∧ w0.heap.size ≤ g ∧ w.heap[g]? = some (.cells cur E (0,0)) ∧ n ≤ cap ∧ cap ≤ maxLen ∧ cur.size = cap * c ∧ cur.toList.take (n * c) = xs:=kQ h.own
theorem Ow.ge (h : Ow w0 w S E c A n cap xs) : ∀ b,Dj A = some b → w0.heap.size ≤ b:=fun b hb=>by
 rcases h.cases with ⟨rfl,_⟩ | ⟨g,cur,rfl,hg,_⟩
 · cases hb
 · cases hb
   exact hg
theorem Ow.le (h : Ow w0 w S E c A n cap xs) : n ≤ cap:=by
 rcases h.cases with ⟨_,rfl,rfl,_⟩ | ⟨g,cur,_,_,_,h1,_⟩
 · exact Nat.le_refl _
 · exact h1
theorem Ow.some (h : Ow w0 w S E c A n cap xs) (hn : 0 < n) : ∃ g,A = some ⟨g,0,none⟩:=by
 rcases h.cases with ⟨_,rfl,_⟩ | ⟨g,cur,rfl,_⟩
 · omega
 · exact ⟨g,rfl⟩
theorem Ow.row (h : Ow w0 w S E c A n cap xs) : ∀ j u,xs[j]? = Option.some u → ∃ a,A = Option.some a ∧ w.cell? (a.add j) = Option.some u:=fun j u hj=>by
 rcases h.cases with ⟨_,_,_,rfl⟩ | ⟨g,cur,rfl,_,hg,_,_,_,h4⟩
 · cases hj
 · refine ⟨_,rfl,?_⟩
   rw [lC,Nat.zero_add,cell_of_row w g j cur E (0,0) hg];rw [← h4,List.getElem?_take] at hj;split at hj
   · simpa using hj
   · cases hj
theorem Ow.rows {g : Nat} (h : Ow w0 w S E c (Option.some ⟨g,0,none⟩) n cap xs) : mP w ⟨g,0,none⟩ xs:=fun j u hj=>by
 obtain ⟨a,e,h1⟩:=h.row j u hj;cases e;exact h1
theorem Ow.nil (w0 w : World) (E : TypeId) (c : Nat) : Ow w0 w [] E c none 0 0 []:=⟨World.ownsRow_nil w _ E c,fun _ h=>(by cases h),fun _ h=>(by cases h)⟩
theorem Ow.mk' {g : Nat} {cs : List Value} (hB : fF w g cs E) (hg : w0.heap.size ≤ g) (hl : cs.length = n * c) (hm : n ≤ maxLen) : Ow w0 w [] E c (Option.some ⟨g,0,none⟩) n n cs :=
 ⟨⟨hl,.inr ⟨g,n,_,rfl,hg,hB,Nat.le_refl _,hm,by simpa using hl,by simp [← hl]⟩⟩,fun _ _ h=>(by cases h),fun _ h=>(by cases h)⟩
theorem Ow.as {ys : List Value} (h : Ow w0 w S E c A n cap xs) (e : xs = ys) : Ow w0 w S E c A n cap ys:=e ▸ h
end
section
variable {P : Program} {ds : List Deferred} {l : List Value} {x y : Operand} {T ty : TypeId}
variable {ops : Array Oper} {Q : Exit → Act → World → Prop} {rest : List Oper} {d : Nat} {pos : String} {after : Array Edge} {w w0 : World} {S : List (Option Nat)} {E : TypeId} {c n cap m mcap : Nat} {A B : Option Addr} {xs news : List Value}
theorem Wr.refl (w : World) (A : Option Addr) : Wr w w A:=⟨rfl,rfl,rfl,Nat.le_refl _,fun _ _ _=>rfl⟩
theorem Is {t : TypeId} {i : TypeInfo} {z : Value} {bytes : Nat} (ht : P.underlying t = some (.slice E)) (hi : P.info? E = some i) (hz : i.zero = some z) (hsize : i.size = c) (hby : i.bytes = bytes) (hzs : z.cells.size = c) (hsz : 0 < c)
 (hown : Ow w0 w S E c A n cap xs) (hl : news.length = m * c) (hnews : ∀ j u,news[j]? = some u → ∃ a,B = some a ∧ w.cell? (a.add j) = some u) (h1 : ∀ u ∈ news,u.oneCell' = true)
 (h63 : n + m ≤ maxLen) (hbytes : (n + m) * bytes ≤ 140737488355328) (hbase : w0.heap.size ≤ w.heap.size) :
 ∃ A' cap' w',(Builtin.append_ #[t,t] ty #[.slice A n cap,.slice B m mcap]).run P w = .ok (.slice A' (n + m) cap') w' ∧ Ow w0 w' S E c A' (n + m) cap' (xs ++ news) ∧ Wr w w' A ∧ (A' = A ∨ Dj A' = some w.heap.size):=by
 subst hsize;subst hby;have hsmall : n + m ≤ 9223372036854775807:=by simp only[maxLen] at h63;omega
 have hlen : (xs ++ news).length = (n + m) * i.size:=by rw [List.length_append,hown.own.1,hl,Nat.add_mul]
 have grown : ∀ (old : Nat),old < n + m →
  Ow w0 (w.drew.alloc (.cells (xs.toArray ++ news.toArray ++ Builtin.zeroCells z.cells (grownCap w (n + m) old E - (n + m))) E)) S E i.size
   (some ⟨w.heap.size,0,none⟩) (n + m) (grownCap w (n + m) old E) (xs ++ news) ∧
  Wr w (w.drew.alloc (.cells (xs.toArray ++ news.toArray ++ Builtin.zeroCells z.cells (grownCap w (n + m) old E - (n + m))) E)) A:=by
  intro old ho;have hge:=grownCap_ge w (n + m) old E;have hcm : grownCap w (n + m) old E ≤ maxLen:=grownCap_le_maxLen w (n + m) old E h63;refine ⟨⟨⟨hlen,.inr ⟨w.heap.size,_,_,rfl,hbase,heap_alloc_new w.drew _,hge,hcm,?_,?_⟩⟩,fun b hb hm=>?_,fun b hb=>?_⟩,⟨rfl,rfl,rfl,by simp,fun k hk _=>heap_alloc_old w.drew _ (h:=hk)⟩⟩
  · simp only[Array.size_append,List.size_toArray,size_zeroCells,hzs,hown.own.1,hl,← Nat.add_mul]
    congr 1
    omega
  · simp only[Array.toList_append,List.append_assoc]
    rw [← List.append_assoc,← hlen];exact List.take_left
  · have hb' : w.heap.size = b:=by simpa using hb
    subst hb';exact absurd (hown.bd _ hm) (Nat.lt_irrefl _)
  · have:=hown.bd _ hb
    have h2 : (w.drew.alloc (.cells (xs.toArray ++ news.toArray ++ Builtin.zeroCells z.cells (grownCap w (n + m) old E - (n + m))) E)).heap.size = w.heap.size + 1:=by simp
    rw [h2];omega
 have hB0 : B = none → m = 0 ∧ news = []:=fun hB=>by
  have hn : news = []:=by
   cases news with
   | nil=>rfl
   | cons u us=>obtain ⟨a,e,_⟩:=hnews 0 u rfl;rw [hB] at e;cases e
  subst hn;refine ⟨?_,rfl⟩;rcases Nat.eq_zero_or_pos m with h0 | h0
  · exact h0
  · have:=Nat.mul_pos h0 hsz;simp at hl;omega
 rcases hown.cases with ⟨rfl,rfl,rfl,rfl⟩ | ⟨g,cur,rfl,hbg,hg,hnc,hcm,hcs,htake⟩
 · by_cases hm : m = 0
   · subst hm
     have hn : news = []:=List.eq_nil_of_length_eq_zero (by simpa using hl);subst hn;refine ⟨none,0,w,?_,by simpa using hown,Wr.refl _ _,.inl rfl⟩;cases B <;> simp [Builtin.append_,run_underlying ht,sizeOf,typeInfo,hi,Builtin.lenOf,Builtin.firstCells,loadCells,loadCellsFrom]
   · cases B with
     | none=>exact absurd (hB0 rfl).1 hm
     | some a =>
      have hr:=run_append_nil (P:=P) w t ty E i z ht hi hz a m mcap news hl (fun j u hj=>by obtain ⟨a',e,h⟩:=hnews j u hj;cases e;exact h) (by omega) (by omega) (by have hb:=hbytes;simp only[Nat.zero_add] at hb;omega);have hgr:=grown 0 (by omega);simp only[Nat.zero_add,List.nil_append,Array.empty_append] at hgr ⊢;exact ⟨_,_,_,hr,hgr.1,hgr.2,.inr rfl⟩
 · cases B with
   | none =>
    obtain ⟨rfl,rfl⟩:=hB0 rfl;refine ⟨some ⟨g,0,none⟩,cap,w,?_,by simpa using hown,Wr.refl _ _,.inl rfl⟩;simp [Builtin.append_,run_underlying ht,sizeOf,typeInfo,hi,Builtin.lenOf,Builtin.firstCells,hnc,storeCells]
   | some a =>
    have hnews' : ∀ j u,news[j]? = some u → w.cell? (a.add j) = some u:=fun j u hj=>by obtain ⟨a',e,h⟩:=hnews j u hj;cases e;exact h
    by_cases hroom : n + m ≤ cap
    · have hfit : n * i.size + news.length ≤ cur.size:=by rw [hl,hcs,← Nat.add_mul];exact Nat.mul_le_mul_right _ hroom
      have hr:=run_append_room (P:=P) w t ty E i ht hi g n cap cur hg a m mcap news hl hnews' h1 hroom hfit;refine ⟨_,_,_,hr,⟨⟨hlen,.inr ⟨g,cap,_,rfl,hbg,setRow_heap w g cur _ E _ hg,hroom,hcm,?_,?_⟩⟩,hown.sep,fun b hb=>by simpa using hown.bd b hb⟩,⟨rfl,rfl,rfl,by simp,fun k _ hk=>setRow_other w g k _ (fun e=>hk (by rw [e];rfl))⟩,.inl rfl⟩
      · simp only[List.size_toArray,List.length_append,List.length_take,List.length_drop,Array.length_toList]
        omega
      · rw [htake,← hlen]
        exact List.take_left
    · have hr:=run_append_grow (P:=P) w t ty E i z ht hi hz ⟨g,0,none⟩ n cap xs hown.own.1 hown.rows a m mcap news hl hnews' (by omega) (by omega) (growslice_fits (by omega) hbytes)
      have hgr:=grown cap (by omega);exact ⟨_,_,_,hr,hgr.1,hgr.2,.inr rfl⟩
theorem Kd {b : Nat} {z : Value} {a0 : Array TypeId} (ha : a0 = #[T,T]) (hu : P.underlying T = some (.slice E)) (hi : (P.info? E).map (fun i=>(i.size,i.bytes,i.zero)) = some (c,b,some z)) (hz : z.cells.size = c) (hc : 0 < c) (hX : eB w0 w)
 (hs : ev l x = .slice A n cap) (hown : Ow w0 w S E c A n cap xs) (hx : ev l y = .slice B m mcap) (hl : news.length = m * c) (hrow : ∀ j u,news[j]? = some u → ∃ a,B = some a ∧ w.cell? (a.add j) = some u) (h1 : ∀ u ∈ news,u.oneCell' = true) (h63 : n + m ≤ 9223372036854775807) (hbytes : (n + m) * b ≤ 140737488355328)
 (h : ∀ A' cap' w',Ow w0 w' S E c A' (n + m) cap' (xs ++ news) → Wr w w' A → (A' = A ∨ Dj A' = some w.heap.size) → wpList P ops Q rest (Fr (l.set d (.slice A' (n + m) cap')) ds) w') :
 wpList P ops Q (Oper.mk (some d) (.call { callee:=.builtin .append,args:=#[x,y],argTypes:=a0 }) ty pos after none :: rest) (Fr l ds) w:=by
 subst ha;cases hq : P.info? E with
 | none=>rw [hq] at hi;cases hi
 | some i =>
  rw [hq] at hi;simp only[Option.map_some,Option.some.injEq,Prod.mk.injEq] at hi;obtain ⟨e1,e2,e3⟩:=hi;obtain ⟨A',cap',w',hr,h2,h3,h4⟩:=Is (P:=P) (w:=w) (ty:=ty) (mcap:=mcap) hu hq e3 e1 e2 hz hc hown hl hrow h1 (by simpa [maxLen] using h63) hbytes hX.size;exact jN (fun o ho hty=>by simp [execOp,ho,hty,resolve,invoke,builtin,cM,hs,hx,hr]) (h A' cap' w' h2 h3 h4)
end
theorem yV (ts : List T3) : (ts.flatMap aW).length = ts.length * 9:=by
 induction ts with
 | nil=>rfl
 | cons t ts ih=>rw [List.flatMap_cons,List.length_append,ih,nF,List.length_cons];omega
theorem Ow.tris {w0 w : World} {S : List (Option Nat)} {E : TypeId} {A : Option Addr} {n cap : Nat} {ts : List T3} (h : Ow w0 w S E 9 A n cap (ts.flatMap aW)) (hi : ∀ t ∈ ts,IT t) : bY w A n ts:=by
 refine ⟨?_,hi,fun i t ht=>?_⟩
 · have:=h.own.1;rw [yV] at this;omega
 · have hr : ∀ j u,(aW t)[j]? = Option.some u → (ts.flatMap aW)[i * 9 + j]? = Option.some u:=fun j u hj=>by
    have hj' : j < (aW t).length:=(List.getElem?_eq_some_iff.1 hj).1;rw [← List.getElem?_drop,Cd ts i t ht,List.getElem?_append_left hj'];exact hj
   obtain ⟨a,e,_⟩:=h.row _ _ (hr 0 _ rfl);refine ⟨a,e,fun j u hj=>?_⟩;obtain ⟨a',e',hc⟩:=h.row _ _ (hr j u hj);rw [e] at e';cases e';rw [iW];exact hc
theorem bY.cells {w : World} {A : Option Addr} {n : Nat} {ts : List T3} (h : bY w A n ts) : ∀ j u,(ts.flatMap aW)[j]? = some u → ∃ a,A = some a ∧ w.cell? (a.add j) = some u:=fun j u hj=>by
 have hl : j < ts.length * 9:=by
  have:=(List.getElem?_eq_some_iff.1 hj).1;rwa [yV] at this
 have hq : j / 9 < ts.length:=by omega
 have ht:=List.getElem?_eq_getElem hq;obtain ⟨a,e,hr⟩:=h.row _ _ ht;refine ⟨a,e,?_⟩;have hd:=Cd ts (j / 9) _ ht;have hj' : (aW ts[j / 9])[j % 9]? = some u:=by
  have : ((ts.flatMap aW).drop (j / 9 * 9))[j % 9]? = some u:=by rw [List.getElem?_drop,show j / 9 * 9 + j % 9 = j by omega];exact hj
  rw [hd,List.getElem?_append_left (by rw [nF];omega)] at this;exact this
 have:=hr _ _ hj';rwa [iW,show j / 9 * 9 + j % 9 = j by omega] at this
theorem adI : ∀ (t : T3),∀ u ∈ aW t,u.oneCell' = true:=fun t u hu=>by
 simp only[aW,List.mem_cons,List.not_mem_nil,or_false] at hu;rcases hu with rfl | rfl | rfl | rfl | rfl | rfl | rfl | rfl | rfl <;> rfl
theorem Ge (ts : List T3) : ∀ u ∈ ts.flatMap aW,u.oneCell' = true:=fun u hu=>by
 obtain ⟨t,_,h⟩:=List.mem_flatMap.1 hu;exact adI t u h
theorem fF.rowsO {w : World} {g : Nat} {cs : List Value} {t : TypeId} (h : fF w g cs t) : ∀ j u,cs[j]? = some u → ∃ a,some (⟨g,0,none⟩ : Addr) = some a ∧ w.cell? (a.add j) = some u:=fun j u hj=>⟨_,rfl,by have:=h.row 0;rw [List.drop_zero] at this;exact this j u hj⟩
section
variable {w0 w w' : World} {S : List (Option Nat)} {E : TypeId} {c n cap : Nat} {A : Option Addr} {xs : List Value}
end
end Go.Lith
namespace Go.Lith
open Go.RowKit
/-! ### Names that are short -/
theorem zA {l : List Value} (t : Nat) : ev l (.tmp t) = l.getD t undef:=rfl
theorem zB {l : List Value} (v : Value) : ev l (.const v) = v:=rfl
theorem zC {l : List Value} (f : Nat) : ev l (.func f) = .func (.func f) #[] #[]:=rfl
theorem zD {α : Type} {x : α} {xs : List α} {n : Nat} {d : α} : (x :: xs).getD (n + 1) d = xs.getD n d:=rfl
theorem zE {α : Type} {x : α} {xs : List α} {d : α} : (x :: xs).getD 0 d = x:=rfl
theorem zF {α : Type} {x : α} {xs : List α} {n : Nat} {a : α} : (x :: xs).set (n + 1) a = x :: xs.set n a:=rfl
theorem zG {α : Type} {x : α} {xs : List α} {a : α} : (x :: xs).set 0 a = a :: xs:=rfl
theorem zH {α : Type} {x : α} {xs : List α} {n : Nat} : (x :: xs).take (n + 1) = x :: xs.take n:=rfl
theorem zI {α : Type} {xs : List α} : xs.take 0 = []:=List.take_zero
theorem zJ {α : Type} {x : α} {xs : List α} {n : Nat} : (x :: xs).drop (n + 1) = xs.drop n:=rfl
theorem zK {α : Type} {xs : List α} : xs.drop 0 = xs:=rfl
theorem zL {α : Type} {x : α} {xs ys : List α} : (x :: xs) ++ ys = x :: (xs ++ ys):=rfl
theorem zM {α : Type} {ys : List α} : [] ++ ys = ys:=rfl
theorem zN {α : Type} {ys : List α} : ys ++ [] = ys:=List.append_nil ys
theorem zO {α : Type} {x : α} {xs : List α} : (x :: xs).length = xs.length + 1:=rfl
theorem zP {α : Type} : ([] : List α).length = 0:=rfl
theorem zQ {α β : Type} {f : α → β} {x : α} {xs : List α} : (x :: xs).map f = f x :: xs.map f:=rfl
theorem zR {α β : Type} {f : α → β} : ([] : List α).map f = []:=rfl
theorem zS {α : Type} {l : List α} {i : Nat} : l.toArray[i]? = l[i]?:=List.getElem?_toArray
theorem zT {α : Type} {x : α} {xs : List α} {n : Nat} : (x :: xs)[n + 1]? = xs[n]?:=rfl
theorem zU {α : Type} {x : α} {xs : List α} : (x :: xs)[0]? = some x:=rfl
theorem zV {α : Type} {x d : α} : (some x).getD d = x:=rfl
theorem zz : (∀ (l : List Go.Value) (t : Nat), ev l (.tmp t) = l.getD t undef) ∧ (∀ (l : List Go.Value) (v : Go.Value), ev l (.const v) = v) ∧ (∀ (l : List Go.Value) (f : Nat), ev l (.func f) = .func (.func f) #[] #[]) ∧ (∀ {α : Type} (x : α) (xs : List α) (n : Nat) (d : α), (x :: xs).getD (n + 1) d = xs.getD n d) ∧ (∀ {α : Type} (x : α) (xs : List α) (d : α), (x :: xs).getD 0 d = x) ∧ (∀ {α : Type} (x : α) (xs : List α) (n : Nat) (a : α), (x :: xs).set (n + 1) a = x :: xs.set n a) ∧ (∀ {α : Type} (x : α) (xs : List α) (a : α), (x :: xs).set 0 a = a :: xs) := ⟨fun _ _ => rfl, fun _ _ => rfl, fun _ _ => rfl, fun _ _ _ _ => rfl, fun _ _ _ => rfl, fun _ _ _ _ => rfl, fun _ _ _ => rfl⟩
theorem zy : (∀ {α : Type} (x : α) (xs : List α) (n : Nat), (x :: xs).take (n + 1) = x :: xs.take n) ∧ (∀ {α : Type} (xs : List α), xs.take 0 = []) ∧ (∀ {α : Type} (x : α) (xs : List α) (n : Nat), (x :: xs).drop (n + 1) = xs.drop n) ∧ (∀ {α : Type} (xs : List α), xs.drop 0 = xs) := ⟨fun _ _ _ => rfl, fun _ => List.take_zero, fun _ _ _ => rfl, fun _ => rfl⟩
theorem zx : (∀ {α : Type} (x : α) (xs ys : List α), (x :: xs) ++ ys = x :: (xs ++ ys)) ∧ (∀ {α : Type} (ys : List α), [] ++ ys = ys) ∧ (∀ {α : Type} (ys : List α), ys ++ [] = ys) ∧ (∀ {α : Type} (x : α) (xs : List α), (x :: xs).length = xs.length + 1) ∧ (∀ {α : Type}, ([] : List α).length = 0) := ⟨fun _ _ _ => rfl, fun _ => rfl, fun _ => List.append_nil _, fun _ _ => rfl, rfl⟩
theorem zw : (∀ {α : Type} (l : List α) (i : Nat), l.toArray[i]? = l[i]?) ∧ (∀ {α : Type} (x : α) (xs : List α) (n : Nat), (x :: xs)[n + 1]? = xs[n]?) ∧ (∀ {α : Type} (x : α) (xs : List α), (x :: xs)[0]? = some x) ∧ (∀ {α : Type} (x d : α), (some x).getD d = x) := ⟨fun _ _ => List.getElem?_toArray, fun _ _ _ => rfl, fun _ _ => rfl, fun _ _ => rfl⟩
theorem zu : (∀ (l : List Go.Value) (t : Nat) (ts : List Nat) (v : Go.Value) (vs : List Go.Value), fN l (t :: ts) (v :: vs) = fN (l.set t v) ts vs) ∧ (∀ (l vs : List Go.Value), fN l [] vs = l) ∧ (∀ (l : List Go.Value) (t : Nat) (ts : List Nat) (g : Nat → Go.Value), pB l (t :: ts) g = pB (l.set t (g t)) ts g) ∧ (∀ (l : List Go.Value) (g : Nat → Go.Value), pB l [] g = l) := ⟨fun _ _ _ _ _ => rfl, fun _ _ => uB, fun _ _ _ _ => rfl, fun _ _ => rfl⟩
theorem zv : (∀ {α β : Type} (f : α → β) (x : α) (xs : List α), (x :: xs).map f = f x :: xs.map f) ∧ (∀ {α β : Type} (f : α → β), ([] : List α).map f = []) ∧ (∀ (l : List Go.Value) (t : Nat) (ts : List Nat) (v : Go.Value) (vs : List Go.Value), fN l (t :: ts) (v :: vs) = fN (l.set t v) ts vs) ∧ (∀ (l vs : List Go.Value), fN l [] vs = l) ∧ (∀ (l : List Go.Value) (t : Nat) (ts : List Nat) (g : Nat → Go.Value), pB l (t :: ts) g = pB (l.set t (g t)) ts g) ∧ (∀ (l : List Go.Value) (g : Nat → Go.Value), pB l [] g = l) := ⟨fun _ _ _ => rfl, fun _ => rfl, fun _ _ _ _ _ => rfl, fun _ _ => uB, fun _ _ _ _ => rfl, fun _ _ => rfl⟩
end Go.Lith
namespace Go.Lith
open Go.RowKit
structure It where
 own : Nat → Prop
 P : World → Prop
 lt : ∀ w b,P w → own b → b < w.heap.size
 st : ∀ w w',P w → w.heap.size ≤ w'.heap.size → (∀ b,own b → w'.heap[b]? = w.heap[b]?) → P w'
def bI (g : Nat) (cs : List Value) (t : TypeId) : It where
 own b:=some g = some b
 P w:=fF w g cs t
 lt w b h e:=by cases e;exact h.lt
 st w w' h _ k:=(k g rfl).trans h
def oI (E : TypeId) (c : Nat) (A : Option Addr) (n cap : Nat) (xs : List Value) : It where
 own b:=Dj A = some b
 P w:=w.ownsRow 0 E c (.slice A n cap) n xs
 lt w b h e:=by
  rcases kQ h with ⟨rfl,_⟩ | ⟨g,cur,rfl,_,hg,_⟩
  · cases e
  · cases e;exact (Array.getElem?_eq_some_iff.1 hg).1
 st w w' h _ k:=by
  refine ⟨h.1,?_⟩;rcases kQ h with ⟨rfl,rfl,rfl,_⟩ | ⟨g,cur,rfl,h1,h2,h3⟩
  · exact .inl ⟨rfl,rfl⟩
  · exact .inr ⟨g,cap,cur,rfl,h1,(k g rfl).trans h2,h3⟩
def Ap (i j : It) : Prop:=∀ b,i.own b → j.own b → False
theorem Ap.symm {i j : It} (h : Ap i j) : Ap j i:=fun b h1 h2=>h b h2 h1
structure Mem (w0 w : World) (is : List It) : Prop where
 ext : eB w0 w
 all : ∀ i ∈ is,i.P w
 ge : ∀ i ∈ is,∀ b,i.own b → w0.heap.size ≤ b
 nd : is.Pairwise Ap
def Iu : List Bool → List It → List It
 | true :: bs,i :: is=>i :: Iu bs is
 | false :: bs,_ :: is=>Iu bs is
 | _,_=>[]
theorem uL : ∀ (bs : List Bool) (is : List It),(Iu bs is).Sublist is
 | true :: bs,i :: is=>(uL bs is).cons_cons i
 | false :: bs,i :: is=>(uL bs is).cons i
 | [],is=>List.nil_sublist _
 | true :: bs,[]=>List.nil_sublist _
 | false :: bs,[]=>List.nil_sublist _
section
variable {w0 w w' : World} {is : List It}
theorem Mem.refl (w : World) : Mem w w []:=⟨eB.refl w,fun _ h=>(by cases h),fun _ h=>(by cases h),.nil⟩
theorem Mem.ext' (m : Mem w0 w is) (e : eB w w') : Mem w0 w' is :=
 ⟨m.ext.trans e,fun i hi=>i.st w w' (m.all i hi) e.size fun b hb=>Below.block e b (i.lt w b (m.all i hi) hb),m.ge,m.nd⟩
theorem Mem.sel (m : Mem w0 w is) (bs : List Bool) : Mem w0 w (Iu bs is) :=
 ⟨m.ext,fun i hi=>m.all i ((uL bs is).subset hi),fun i hi=>m.ge i ((uL bs is).subset hi),m.nd.sublist (uL bs is)⟩
theorem Mem.tl {i : It} (m : Mem w0 w (i :: is)) : Mem w0 w is:=⟨m.ext,fun j hj=>m.all j (List.mem_cons_of_mem _ hj),fun j hj=>m.ge j (List.mem_cons_of_mem _ hj),(List.pairwise_cons.1 m.nd).2⟩
theorem Mem.get (m : Mem w0 w is) (k : Nat) {i : It} (hk : is[k]? = some i) : i.P w:=m.all i (List.mem_of_getElem? hk)
theorem Mem.b (m : Mem w0 w is) (k : Nat) {g : Nat} {cs : List Value} {t : TypeId} (hk : is[k]? = some (bI g cs t)) : fF w g cs t:=m.get k hk
theorem Mem.o (m : Mem w0 w is) (k : Nat) {E : TypeId} {c n cap : Nat} {A : Option Addr} {xs : List Value} (hk : is[k]? = some (oI E c A n cap xs)) : Ow w0 w [] E c A n cap xs:=by
 have h : w.ownsRow 0 E c (.slice A n cap) n xs:=m.get k hk;refine ⟨⟨h.1,?_⟩,fun _ _ h=>(by cases h),fun _ h=>(by cases h)⟩;rcases kQ h with ⟨rfl,rfl,rfl,_⟩ | ⟨g,cur,rfl,_,h2,h3⟩
 · exact .inl ⟨rfl,rfl⟩
 · exact .inr ⟨g,cap,cur,rfl,m.ge _ (List.mem_of_getElem? hk) g rfl,h2,h3⟩
theorem Mem.bo (m : Mem w0 w is) (k : Nat) {g : Nat} {cs : List Value} {t : TypeId} (hk : is[k]? = some (bI g cs t)) {n c : Nat} (hl : cs.length = n * c) (hm : n ≤ maxLen) : Ow w0 w [] t c (some ⟨g,0,none⟩) n n cs :=
 Ow.mk' (m.b k hk) (m.ge _ (List.mem_of_getElem? hk) g rfl) hl hm
theorem Mem.toO (m : Mem w0 w is) (k : Nat) {g : Nat} {cs : List Value} {t : TypeId} (hk : is[k]? = some (bI g cs t)) {n c : Nat} (hl : cs.length = n * c) (hm : n ≤ maxLen) : ∃ i,i = oI t c (some ⟨g,0,none⟩) n n cs ∧ i.P w:=⟨_,rfl,(m.bo k hk hl hm).own.1,.inr ⟨g,n,_,rfl,Nat.zero_le _,m.b k hk,Nat.le_refl _,hm,by simpa using hl,by simp [← hl]⟩⟩
theorem Mem.new {i : It} (m : Mem w0 w is) (e : eB w w') (hi : i.P w') (hg : ∀ b,i.own b → w.heap.size ≤ b) : Mem w0 w' (i :: is):=by
 have m':=m.ext' e;refine ⟨m'.ext,fun j hj=>?_,fun j hj=>?_,List.pairwise_cons.2 ⟨fun j hj b h1 h2=>?_,m'.nd⟩⟩
 · rcases List.mem_cons.1 hj with rfl | hj
   · exact hi
   · exact m'.all j hj
 · rcases List.mem_cons.1 hj with rfl | hj
   · exact fun b hb=>Nat.le_trans m.ext.size (hg b hb)
   · exact m'.ge j hj
 · have:=j.lt w b (m.all j hj) h2
   have:=hg b h1;omega
theorem Mem.newB {g : Nat} {cs : List Value} {t : TypeId} (m : Mem w0 w is) (e : eB w w') (hg : w.heap.size ≤ g) (hB : fF w' g cs t) : Mem w0 w' (bI g cs t :: is):=m.new e hB (fun b h=>by cases h;exact hg)
theorem Mem.newO {S : List (Option Nat)} {E : TypeId} {c n cap : Nat} {A : Option Addr} {xs : List Value} (m : Mem w0 w is) (e : eB w w') (h : Ow w w' S E c A n cap xs) : Mem w0 w' (oI E c A n cap xs :: is):=by
 refine m.new e (i:=oI E c A n cap xs) ?_ h.ge;refine ⟨h.own.1,?_⟩;rcases h.cases with ⟨rfl,rfl,rfl,_⟩ | ⟨g,cur,rfl,_,h2,h3⟩
 · exact .inl ⟨rfl,rfl⟩
 · exact .inr ⟨g,cap,cur,rfl,Nat.zero_le _,h2,h3⟩
theorem Mem.nilO (m : Mem w0 w is) (E : TypeId) (c : Nat) : Mem w0 w (oI E c none 0 0 [] :: is):=m.newO (eB.refl w) (Ow.nil w w E c)
theorem Sw {i i' : It} : ∀ (is : List It) (k : Nat),is.Pairwise Ap → is[k]? = some i → (∀ x ∈ is,Ap i x → Ap i' x) → (is.set k i').Pairwise Ap
 | [],_,_,h,_=>by cases h
 | j :: is,0,hp,h,hc=>by
  cases h;rw [List.set_cons_zero];have:=List.pairwise_cons.1 hp;exact List.pairwise_cons.2 ⟨fun x hx=>hc x (List.mem_cons_of_mem _ hx) (this.1 x hx),this.2⟩
 | j :: is,k + 1,hp,h,hc=>by
  rw [List.set_cons_succ];have hp':=List.pairwise_cons.1 hp;have h' : is[k]? = some i:=h;refine List.pairwise_cons.2 ⟨fun x hx=>?_,Sw is k hp'.2 h' fun x hx=>hc x (List.mem_cons_of_mem _ hx)⟩;rcases List.mem_or_eq_of_mem_set hx with hx | rfl
  · exact hp'.1 x hx
  · exact (hc j (List.mem_cons_self ..) (hp'.1 i (List.mem_of_getElem? h')).symm).symm
theorem Mem.put {i i' : It} (m : Mem w0 w is) (k : Nat) (hk : is[k]? = some i) (hos : w'.os = w.os) (ht : w'.tape = w.tape) (ho : w'.output = w.output) (hs : w.heap.size ≤ w'.heap.size) (hb : ∀ b,b < w.heap.size → ¬ i.own b → w'.heap[b]? = w.heap[b]?)
 (hi : i'.P w') (hid : (∀ b,i'.own b → i.own b) ∨ ∀ b,i'.own b → w.heap.size ≤ b) : Mem w0 w' (is.set k i'):=by
 have hmem:=List.mem_of_getElem? hk;refine ⟨⟨hos.trans m.ext.os,ht.trans m.ext.tape,ho.trans m.ext.output,Nat.le_trans m.ext.size hs,fun b hlt=>(hb b (Nat.lt_of_lt_of_le hlt m.ext.size) fun e=>?_).trans (Below.block m.ext b hlt)⟩,fun j hj=>?_,fun j hj b hjb=>?_,Sw is k m.nd hk fun x hx ha b h1 h2=>?_⟩
 · have:=m.ge i hmem b e
   omega
 · obtain ⟨q,hq,e⟩:=List.getElem_of_mem hj
   rw [List.getElem_set] at e;split at e
   · subst e;exact hi
   · rename_i hne
     rw [List.length_set] at hq;have hj' : j ∈ is:=e ▸ List.getElem_mem hq;have hq' : is[q]? = some j:=by rw [← e];exact List.getElem?_eq_getElem hq
     refine j.st w w' (m.all j hj') hs fun b hjb=>hb b (j.lt w b (m.all j hj') hjb) fun hib=>?_;have hklt : k < is.length:=(List.getElem?_eq_some_iff.1 hk).1;have hki : is[k] = i:=(List.getElem?_eq_some_iff.1 hk).2;rcases Nat.lt_or_gt_of_ne hne with h | h
     · have:=List.pairwise_iff_getElem.1 m.nd k q hklt hq h
       rw [hki,e] at this;exact this b hib hjb
     · have:=List.pairwise_iff_getElem.1 m.nd q k hq hklt h
       rw [hki,e] at this;exact this b hjb hib
 · rcases List.mem_or_eq_of_mem_set hj with hj | rfl
   · exact m.ge j hj b hjb
   · rcases hid with hid | hid
     · exact m.ge i hmem b (hid b hjb)
     · exact Nat.le_trans m.ext.size (hid b hjb)
 · rcases hid with hid | hid
   · exact ha b (hid b h1) h2
   · have:=hid b h1
     have:=x.lt w b (m.all x hx) h2;omega
theorem Mem.reO (m : Mem w0 w is) (k : Nat) {E : TypeId} {c n cap n' cap' : Nat} {A : Option Addr} {xs xs' : List Value} (hk : is[k]? = some (oI E c A n cap xs)) (h : Ow w0 w [] E c A n' cap' xs') : Mem w0 w (is.set k (oI E c A n' cap' xs')):=by
 refine m.put k hk rfl rfl rfl (Nat.le_refl _) (fun _ _ _=>rfl) ?_ (.inl fun _ h=>h);refine ⟨h.own.1,?_⟩;rcases h.cases with ⟨rfl,rfl,rfl,_⟩ | ⟨g,cur,rfl,_,h2,h3⟩
 · exact .inl ⟨rfl,rfl⟩
 · exact .inr ⟨g,cap',cur,rfl,Nat.zero_le _,h2,h3⟩
theorem Mem.own (m : Mem w0 w is) (k : Nat) {g : Nat} {cs : List Value} {t : TypeId} (hk : is[k]? = some (bI g cs t)) {n c : Nat} (hl : cs.length = n * c) (hm : n ≤ maxLen) : Mem w0 w (is.set k (oI t c (some ⟨g,0,none⟩) n n cs)):=by
 obtain ⟨i,rfl,h⟩:=m.toO k hk hl hm;exact m.put k hk rfl rfl rfl (Nat.le_refl _) (fun _ _ _=>rfl) h (.inl fun _ h=>h)
theorem cU {a b : Nat} (h : Nat.ble a b = true) : a ≤ b:=Nat.le_of_ble_eq_true h
theorem jZ {us : List Value} (h : (us.all (·.oneCell')) = true) : ∀ u ∈ us,u.oneCell' = true:=fun u hu=>List.all_eq_true.1 h u hu
end
section
variable {P : Program} {ds : List Deferred} {l : List Value} {x y : Operand} {T ty : TypeId}
variable {ops : Array Oper} {Q : Exit → Act → World → Prop} {rest : List Oper} {d : Nat} {pos : String} {after : Array Edge} {w w0 : World} {is : List It}
theorem aiK {cs : List Value} (m : Mem w0 w is) (hv : (ev l x).cells = cs.toArray) (h : ∀ g u,Mem w0 u (bI g cs T :: is) → wpList P ops Q rest (Fr (l.set d (.pointer (some ⟨g,0,none⟩))) ds) u) :
 wpList P ops Q (Oper.mk (some d) (.box T x) ty pos after none :: rest) (Fr l ds) w:=tL hv fun u g e hg hB=>h g u (m.newB e hg hB)
theorem bA {cs : List Value} {z : Value} (m : Mem w0 w is) (hZ : iL P T z) (hv : z.cells = cs.toArray) (h : ∀ g u,Mem w0 u (bI g cs T :: is) → wpList P ops Q rest (Fr (l.set d (.pointer (some ⟨g,0,none⟩))) ds) u) :
 wpList P ops Q (Oper.mk (some d) (.alloc T) ty pos after none :: rest) (Fr l ds) w:=nX hZ hv fun u g e hg hB=>h g u (m.newB e hg hB)
theorem aaV {g off : Nat} {cs us : List Value} {t : TypeId} (m : Mem w0 w is) (k : Nat) (hk : is[k]? = some (bI g cs t)) (hx : ev l x = .pointer (some ⟨g,off,none⟩)) (hv : (ev l y).cells = us.toArray) (hc : dG P T us.length) (hfit : off + us.length ≤ cs.length) (h1 : (us.all (·.oneCell')) = true)
 (h : ∀ u,Mem w0 u (is.set k (bI g (bB cs off us) t)) → wpList P ops Q rest (Fr l ds) u) : wpList P ops Q (Oper.mk none (.store T x y) ty pos after none :: rest) (Fr l ds) w :=
 fE hx hv hc (m.b k hk) hfit (jZ h1) fun u hC hB=>h u (m.put k hk hC.os hC.tape hC.output (by rw [hC.size];exact Nat.le_refl _) (fun b _ hne=>hC.block b fun e=>hne (by rw [e];rfl)) hB (.inl fun _ h=>h))
theorem dH {v : Value} {f : FuncId} {fo : Operand} {xs : Array Operand} {args : List Value} {first cap : Array Value} {a0 : Array TypeId} (m : Mem w0 w is) (hf : ev l fo = .func (.func f) first cap) (hxs : first.toList ++ xs.toList.map (ev l) ++ cap.toList = args) (hc : eQ P f args v)
 (h : ∀ u,Mem w0 u is → wpList P ops Q rest (Fr (l.set d v) ds) u) : wpList P ops Q (Oper.mk (some d) (.call { callee:=.value fo,args:=xs,argTypes:=a0 }) ty pos after none :: rest) (Fr l ds) w :=
 vP hf hxs hc fun u e=>h u (m.ext' e)
theorem eE {f : FuncId} {fo : Operand} {xs : Array Operand} {args : List Value} {first cap : Array Value} {a0 : Array TypeId} {R : Value → World → Prop} (m : Mem w0 w is) (hf : ev l fo = .func (.func f) first cap) (hxs : first.toList ++ xs.toList.map (ev l) ++ cap.toList = args) (hc : eG P f args w R)
 (h : ∀ v u,Mem w0 u is → R v u → wpList P ops Q rest (Fr (l.set d v) ds) u) : wpList P ops Q (Oper.mk (some d) (.call { callee:=.value fo,args:=xs,argTypes:=a0 }) ty pos after none :: rest) (Fr l ds) w :=
 cD hf hxs hc fun v u e hR=>h v u (m.ext' e) hR
def OR (E : TypeId) (c : Nat) (R : List Value → Prop) (w : World) (v : Value) (w' : World) : Prop:=∃ A n cap xs,v = .slice A n cap ∧ Ow w w' [] E c A n cap xs ∧ R xs
theorem dD {E : TypeId} {c n cap b nm mcap : Nat} {A B : Option Addr} {z : Value} {xs news : List Value} {a0 : Array TypeId} (m : Mem w0 w is) (k : Nat) (hk : is[k]? = some (oI E c A n cap xs)) (ha : a0 = #[T,T]) (hu : P.underlying T = some (.slice E)) (hi : (P.info? E).map (fun i=>(i.size,i.bytes,i.zero)) = some (c,b,some z)) (hz : z.cells.size = c) (hc : 0 < c)
 (hs : ev l x = .slice A n cap) (hx : ev l y = .slice B nm mcap) (hl : news.length = nm * c) (hrow : ∀ j u,news[j]? = some u → ∃ a,B = some a ∧ w.cell? (a.add j) = some u) (h1 : ∀ u ∈ news,u.oneCell' = true) (h63 : n + nm ≤ 9223372036854775807) (hbytes : (n + nm) * b ≤ 140737488355328)
 (h : ∀ A' cap' u,Mem w0 u (is.set k (oI E c A' (n + nm) cap' (xs ++ news))) → wpList P ops Q rest (Fr (l.set d (.slice A' (n + nm) cap')) ds) u) :
 wpList P ops Q (Oper.mk (some d) (.call { callee:=.builtin .append,args:=#[x,y],argTypes:=a0 }) ty pos after none :: rest) (Fr l ds) w :=
 Kd ha hu hi hz hc m.ext hs (m.o k hk) hx hl hrow h1 h63 hbytes fun A' cap' u hO hW hF=>h A' cap' u (m.put k hk hW.os hW.tape hW.output hW.size (fun b hb hne=>hW.block b hb hne) (by
  refine ⟨hO.own.1,?_⟩;rcases hO.cases with ⟨rfl,e1,rfl,_⟩ | ⟨g,cur,rfl,_,h2,h3⟩
  · exact .inl ⟨by rw [e1],e1⟩
  · exact .inr ⟨g,cap',cur,rfl,Nat.zero_le _,h2,h3⟩) (by
  rcases hF with rfl | hF
  · exact .inl fun _ h=>h
  · exact .inr fun b hb=>by
     have e : Dj A' = some b:=hb;rw [hF] at e;cases e;exact Nat.le_refl _))
theorem cB {cs : List Value} (m : Mem w0 w is) (hv : ev l x = .agg cs.toArray) (h : ∀ g u,Mem w0 u (bI g cs T :: is) → wpList P ops Q rest (Fr (l.set d (.pointer (some ⟨g,0,none⟩))) ds) u) :
 wpList P ops Q (Oper.mk (some d) (.box T x) ty pos after none :: rest) (Fr l ds) w:=aiK m (by rw [hv];rfl) h
theorem ae0 {v : Value} (m : Mem w0 w is) (hv : ev l x = v) (h1 : v.cells = #[v]) (h : ∀ g u,Mem w0 u (bI g [v] T :: is) → wpList P ops Q rest (Fr (l.set d (.pointer (some ⟨g,0,none⟩))) ds) u) :
 wpList P ops Q (Oper.mk (some d) (.box T x) ty pos after none :: rest) (Fr l ds) w:=aiK m (by rw [hv,h1]) h
theorem aT {g off : Nat} {cs us : List Value} {t : TypeId} (m : Mem w0 w is) (k : Nat) (hk : is[k]? = some (bI g cs t)) (hx : ev l x = .pointer (some ⟨g,off,none⟩)) (hv : ev l y = .agg us.toArray) (hc : dG P T us.length) (hfit : off + us.length ≤ cs.length) (h1 : (us.all (·.oneCell')) = true)
 (h : ∀ u,Mem w0 u (is.set k (bI g (bB cs off us) t)) → wpList P ops Q rest (Fr l ds) u) : wpList P ops Q (Oper.mk none (.store T x y) ty pos after none :: rest) (Fr l ds) w:=aaV m k hk hx (by rw [hv];rfl) hc hfit h1 h
theorem cH {g off : Nat} {cs : List Value} {v : Value} {t : TypeId} (m : Mem w0 w is) (k : Nat) (hk : is[k]? = some (bI g cs t)) (hx : ev l x = .pointer (some ⟨g,off,none⟩)) (hv : ev l y = v) (hc : dG P T 1) (hfit : off + 1 ≤ cs.length) (h1 : v.oneCell' = true ∧ v.cells = #[v])
 (h : ∀ u,Mem w0 u (is.set k (bI g (bB cs off [v]) t)) → wpList P ops Q rest (Fr l ds) u) : wpList P ops Q (Oper.mk none (.store T x y) ty pos after none :: rest) (Fr l ds) w:=aaV (us:=[v]) m k hk hx (by rw [hv,h1.2]) hc hfit (by simp [h1.1]) h
theorem fF.full {g : Nat} {cs : List Value} {t : TypeId} (h : fF w g cs t) (hA : eP P T true) (hc : dG P T cs.length) : hG P w T ⟨g,0,none⟩ (.agg cs.toArray):=by
 have:=h.row 0;rw [List.drop_zero] at this;exact this.lies hA hc
theorem Mem.s01 {w0 w : World} {i j : It} {is : List It} (m : Mem w0 w (i :: j :: is)) : Mem w0 w (j :: i :: is):=by
 have h1:=List.pairwise_cons.1 m.nd;have h2:=List.pairwise_cons.1 h1.2;refine ⟨m.ext,fun x hx=>m.all x ?_,fun x hx=>m.ge x ?_,List.pairwise_cons.2 ⟨fun x hx=>?_,List.pairwise_cons.2 ⟨fun x hx=>h1.1 x (List.mem_cons_of_mem _ hx),h2.2⟩⟩⟩
 · simp only[List.mem_cons] at hx ⊢;rcases hx with h | h | h <;> simp [h]
 · simp only[List.mem_cons] at hx ⊢;rcases hx with h | h | h <;> simp [h]
 · rcases List.mem_cons.1 hx with rfl | hx
   · exact (h1.1 _ (List.mem_cons_self ..)).symm
   · exact h2.1 x hx
/-! ### Regions -/
theorem eA {id : Nat} {a : Act} {l : List Oper} (m : Mem w0 w is) (n : Nat) (hm : P.follows .mixedOrders = true) (hB : Region.lexTailB .any l.toArray n = true)
 (h : wpQuiet P l.toArray (fun u=>Mem w0 u is) (fun a'=>∀ u,Mem w0 u is → wpList P l.toArray Q (l.drop n) a' u) (l.take n) a) : (Code.region id l.toArray true).wp P Q a w :=
 jM (C:=fun u=>Mem w0 u is) n hm hB (m.ext' (eB.refl w).drawn) h
theorem mq {id : Nat} {a : Act} {l : List Oper} (m : Mem w0 w is) (hm : P.follows .mixedOrders = true) (hB : Region.lexB .any l.toArray = true)
 (h : wpQuiet P l.toArray (fun u=>Mem w0 u is) (fun a'=>∀ u,Mem w0 u is → Q .normal a' u) l a) : (Code.region id l.toArray true).wp P Q a w :=
 wp_region_quiet (C:=fun u=>Mem w0 u is) hm hB (m.ext' (eB.refl w).drawn) (by simpa using h)
theorem mh {id : Nat} {a : Act} {l : List Oper} (m : Mem w0 w is) (bs : List Bool) (o : List (Nat × Bool)) (hm : P.follows .mixedOrders = true) (hB : (Region.noSelect l.toArray && decide (o.length = l.length) && Oe .any l.toArray o (Array.replicate l.toArray.size false)) = true)
 (hQ : ∀ c d v a w,Q (.panic c) (Act.put a d v) w → Q (.panic c) a w) {ol : List (Oper × Bool)} (hol : (o.map fun x=>((l.toArray[x.1]?).getD default,x.2)) = ol)
 (h : ∀ u,Mem w0 u is → bL P l.toArray (fun u=>Mem w0 u (Iu bs is)) Q ol a u) : (Code.region id l.toArray true).wp P Q a w :=
 gF o hm hB hQ hol fun u e=>⟨fun u=>Mem w0 u (Iu bs is),(m.ext' e).sel bs,h u (m.ext' e)⟩
theorem wX {id : Nat} {a : Act} {l : List Oper} (m : Mem w0 w is) (bs : List Bool) (t : oD) (hm : P.follows .mixedOrders = true) (hB : (Region.noSelect l.toArray && t.ok .any l.toArray l.toArray.size (Array.replicate l.toArray.size false)) = true)
 (hQ : ∀ c d v a w,Q (.panic c) (Act.put a d v) w → Q (.panic c) a w)
 (h : ∀ u,Mem w0 u is → cE P l.toArray (fun u=>Mem w0 u (Iu bs is)) Q t a u) : (Code.region id l.toArray true).wp P Q a w :=
 Ga t hm hB hQ fun u e=>⟨fun u=>Mem w0 u (Iu bs is),(m.ext' e).sel bs,h u (m.ext' e)⟩
theorem mf1 {tl : List Oper} {i d : Nat} {T : TypeId} {cs : List Value} (m : Mem w0 w is) (h : ∀ g u,Mem w0 u (bI g cs T :: is) → wpList P ops Q tl (Fr (l.set d (.pointer (some ⟨g,0,none⟩))) ds) u) :
 ∀ E w',eB w w' → Cc w.heap.size E [⟨i,d,T,cs⟩] w' → (∀ x ∈ [(⟨i,d,T,cs⟩ : Al)],∃ v,E x.i = some v) → wpList P ops Q tl (eR E [⟨i,d,T,cs⟩] (Fr l ds)) w' :=
 afJ fun u g e hg hB=>h g u (m.newB e hg hB)
theorem Mem.newB2 {w w' : World} {is : List It} {g g2 : Nat} {cs cs2 : List Value} {t t2 : TypeId} (m : Mem w0 w is) (e : eB w w') (hg : w.heap.size ≤ g) (hg2 : w.heap.size ≤ g2) (hB : fF w' g cs t) (hB2 : fF w' g2 cs2 t2) (hne : g2 ≠ g) : Mem w0 w' (bI g2 cs2 t2 :: bI g cs t :: is):=by
 have m1:=m.newB e hg hB;refine ⟨m1.ext,fun j hj=>?_,fun j hj=>?_,List.pairwise_cons.2 ⟨fun j hj b h1 h2=>?_,m1.nd⟩⟩
 · rcases List.mem_cons.1 hj with rfl | hj
   · exact hB2
   · exact m1.all j hj
 · rcases List.mem_cons.1 hj with rfl | hj
   · exact fun b hb=>by cases hb;exact Nat.le_trans m.ext.size hg2
   · exact m1.ge j hj
 · cases h1
   rcases List.mem_cons.1 hj with rfl | hj
   · cases h2;exact hne rfl
   · have:=j.lt w _ (m.all j hj) h2
     omega
theorem mf2 {tl : List Oper} {i d j e : Nat} {T U : TypeId} {cs us : List Value} (m : Mem w0 w is) (hij : i ≠ j) (h : ∀ g k u,Mem w0 u (bI k us U :: bI g cs T :: is) → wpList P ops Q tl (Fr ((l.set d (.pointer (some ⟨g,0,none⟩))).set e (.pointer (some ⟨k,0,none⟩))) ds) u) :
 ∀ E w',eB w w' → Cc w.heap.size E [⟨i,d,T,cs⟩,⟨j,e,U,us⟩] w' → (∀ x ∈ [(⟨i,d,T,cs⟩ : Al),⟨j,e,U,us⟩],∃ v,E x.i = some v) → wpList P ops Q tl (eR E [⟨i,d,T,cs⟩,⟨j,e,U,us⟩] (Fr l ds)) w' :=
 afK hij fun u g k e hg hk hB hK hne=>h g k u (m.newB2 e hg hk hB hK hne)
theorem aiL {c : Code} {a : Act} {l : Nat → Nat → List Value} {c1 c2 : List Value} {T1 T2 : TypeId} (m : Mem w0 w is) (h1 : c.wp P (fun e a' u=>e = .normal ∧ ∃ g k,a' = Fr (l g k) ds ∧ Mem w0 u (bI k c2 T2 :: bI g c1 T1 :: is)) a w)
 (h2 : ∀ g k u,Mem w0 u (bI k c2 T2 :: bI g c1 T1 :: is) → Q .normal (Fr (l g k) ds) u) : c.wp P Q a w:=by
 refine Code.wp_mono ?_ h1;rintro e a' u ⟨rfl,g,k,rfl,m'⟩;exact h2 g k u m'
end
section
variable {P : Program} {w0 : World} {is : List It} {l : List Value} {x y : Operand} {T ty : TypeId}
variable {ops : Array Oper} {Q : Act → Prop} {rest : List Oper} {d : Nat} {pos : String} {after : Array Edge} {v : Value} {ds : List Deferred}
theorem ql {a : Addr} (hx : ev l x = .pointer (some a)) (hv : ∀ u,Mem w0 u is → hG P u T a v) (h : wpQuiet P ops (fun u=>Mem w0 u is) Q rest (Fr (l.set d v) ds)) : wpQuiet P ops (fun u=>Mem w0 u is) Q (Oper.mk (some d) (.load T x) ty pos after none :: rest) (Fr l ds) :=
 gZ (fun u m=>bJ hx (hv u m)) h
theorem qc {f : FuncId} {fo : Operand} {xs : Array Operand} {args : List Value} {first cap : Array Value} {a0 : Array TypeId} (hf : ev l fo = .func (.func f) first cap) (hxs : first.toList ++ xs.toList.map (ev l) ++ cap.toList = args) (hc : ∀ u,Mem w0 u is → eG P f args u fun x _=>x = v)
 (h : wpQuiet P ops (fun u=>Mem w0 u is) Q rest (Fr (l.set d v) ds)) : wpQuiet P ops (fun u=>Mem w0 u is) Q (Oper.mk (some d) (.call { callee:=.value fo,args:=xs,argTypes:=a0 }) ty pos after none :: rest) (Fr l ds):=by
 refine wpQuiet_step fun K hK=>?_;rw [if_pos (by simp [Region.wanted])];refine ⟨v,fun w' hw=>?_,?_⟩
 · unfold Oper.quietAt
   rw [gH,kM (hc w' hw).1 hf hxs _ rfl];refine ⟨rfl,(hc w' hw).2.mono ?_⟩;rintro e w'' ⟨u,rfl,hE,rfl⟩;exact ⟨rfl,hw.ext' hE⟩
 · show K ((Fr l ds).put (some d) v)
   rw [gI];exact hK _ h
theorem gV {f : FuncId} {fo : Operand} {xs : Array Operand} {args : List Value} {first cap : Array Value} {a0 : Array TypeId} (hf : ev l fo = .func (.func f) first cap) (hxs : first.toList ++ xs.toList.map (ev l) ++ cap.toList = args) (hc : eQ P f args v)
 (h : wpQuiet P ops (fun u=>Mem w0 u is) Q rest (Fr (l.set d v) ds)) : wpQuiet P ops (fun u=>Mem w0 u is) Q (Oper.mk (some d) (.call { callee:=.value fo,args:=xs,argTypes:=a0 }) ty pos after none :: rest) (Fr l ds):=qc hf hxs (fun u _=>hc u) h
end
end Go.Lith
namespace Go.Lith
open Go.RowKit
structure GX (w w' : World) : Prop where
 ext : eB w w'
 dr : w.drawn ≤ w'.drawn
theorem GX.grow {w w' : World} (h : GX w w') : ∃ q os,w' = Sort.grow (w.drewN q) os:=by
 refine ⟨w'.drawn - w.drawn,w'.heap.extract w.heap.size w'.heap.size,?_⟩;have e1 : w.heap ++ w'.heap.extract w.heap.size w'.heap.size = w'.heap:=by
  apply Array.ext_getElem?;intro i;rw [Array.getElem?_append];split
  · rename_i hi
    exact (Below.block h.ext i hi).symm
  · rename_i hi
    rw [Array.getElem?_extract];have:=h.ext.size;split
    · congr 1;omega
    · rw [Array.getElem?_eq_none (by omega)]
 have e2 : w.drawn + (w'.drawn - w.drawn) = w'.drawn:=by have:=h.dr;omega
 have h1:=h.ext.os;have h2:=h.ext.tape;have h3:=h.ext.output;cases w;cases w';simp only[Sort.grow,World.drewN] at *
 subst h1 h2 h3;rw [e1,e2]
structure fS (w0 w : World) (is : List It) : Prop where
 ext : GX w0 w
 mem : Mem w0 w is
def nP (P : Program) (f : FuncId) (args : List Value) (v : Value) : Prop:=∀ w,Enters P f ∧ Calls P f args.toArray w fun e w'=>∃ u,e = .returned u ∧ GX w w' ∧ u = v
theorem nP.pure {P : Program} {f : FuncId} {args : List Value} {v : Value} (h : nP P f args v) : eQ P f args v:=fun w=>⟨(h w).1,(h w).2.mono fun _ _ ⟨u,he,hX,hv⟩=>⟨u,he,hX.ext,hv⟩⟩
section
variable {w0 w w' : World} {is : List It}
theorem fS.refl (w : World) : fS w w []:=⟨⟨eB.refl w,Nat.le_refl _⟩,Mem.refl w⟩
theorem fS.go (m : fS w0 w is) {js : List It} (h : Mem w0 w' js) (d : w.drawn ≤ w'.drawn) : fS w0 w' js:=⟨⟨h.ext,Nat.le_trans m.ext.dr d⟩,h⟩
theorem fS.ext' (m : fS w0 w is) (e : GX w w') : fS w0 w' is:=m.go (m.mem.ext' e.ext) e.dr
theorem fS.b (m : fS w0 w is) (k : Nat) {g : Nat} {cs : List Value} {t : TypeId} (hk : is[k]? = some (bI g cs t)) : fF w g cs t:=m.mem.b k hk
end
section
variable {P : Program} {ds : List Deferred} {l : List Value} {x y : Operand} {T ty : TypeId}
variable {ops : Array Oper} {Q : Exit → Act → World → Prop} {rest : List Oper} {d : Nat} {pos : String} {after : Array Edge} {w w0 : World} {is : List It} {v : Value}
theorem aiM {cs : List Value} (m : fS w0 w is) (hv : (ev l x).cells = cs.toArray) (h : ∀ g u,fS w0 u (bI g cs T :: is) → wpList P ops Q rest (Fr (l.set d (.pointer (some ⟨g,0,none⟩))) ds) u) :
 wpList P ops Q (Oper.mk (some d) (.box T x) ty pos after none :: rest) (Fr l ds) w :=
 jN (w':=w.alloc (.cells cs.toArray T)) (v:=.pointer (some ⟨w.heap.size,0,none⟩)) (fun o ho _=>by simp [execOp,ho,cM,Instr.box,newVar,newRow,hv,newObj,Sem.run]) (h _ _ (m.go (m.mem.newB ((eB.refl w).alloc _) (Nat.le_refl _) (gU w cs T)) (Nat.le_refl _)))
theorem kX {cs : List Value} (m : fS w0 w is) (hv : ev l x = .agg cs.toArray) (h : ∀ g u,fS w0 u (bI g cs T :: is) → wpList P ops Q rest (Fr (l.set d (.pointer (some ⟨g,0,none⟩))) ds) u) :
 wpList P ops Q (Oper.mk (some d) (.box T x) ty pos after none :: rest) (Fr l ds) w:=aiM m (by rw [hv];rfl) h
theorem adJ {cs : List Value} {z : Value} (m : fS w0 w is) (hZ : iL P T z) (hv : z.cells = cs.toArray) (h : ∀ g u,fS w0 u (bI g cs T :: is) → wpList P ops Q rest (Fr (l.set d (.pointer (some ⟨g,0,none⟩))) ds) u) :
 wpList P ops Q (Oper.mk (some d) (.alloc T) ty pos after none :: rest) (Fr l ds) w:=by
 obtain ⟨inf,hi,hz⟩:=hZ;exact jN (w':=w.alloc (.cells cs.toArray T)) (v:=.pointer (some ⟨w.heap.size,0,none⟩)) (fun o ho _=>by simp [execOp,ho,Instr.alloc,zeroValue,typeInfo,hi,hz,newVar,newRow,hv,newObj,Sem.run]) (h _ _ (m.go (m.mem.newB ((eB.refl w).alloc _) (Nat.le_refl _) (gU w cs T)) (Nat.le_refl _)))
theorem adK {g off : Nat} {cs us : List Value} {t : TypeId} (m : fS w0 w is) (k : Nat) (hk : is[k]? = some (bI g cs t)) (hx : ev l x = .pointer (some ⟨g,off,none⟩)) (hv : (ev l y).cells = us.toArray) (hc : dG P T us.length) (hfit : off + us.length ≤ cs.length) (h1 : (us.all (·.oneCell')) = true)
 (h : ∀ u,fS w0 u (is.set k (bI g (bB cs off us) t)) → wpList P ops Q rest (Fr l ds) u) : wpList P ops Q (Oper.mk none (.store T x y) ty pos after none :: rest) (Fr l ds) w:=by
 have hB:=m.b k hk;have hC:=Fk w g (bB cs off us).toArray;exact yP (w':=w.setRow g (bB cs off us).toArray) (fun o ho=>by simp [execOp,ho,cM,hx,Instr.storeAt,Instr.sureAddr,yQ hc hv hB hfit (jZ h1)])
  (h _ (m.go (m.mem.put k hk hC.os hC.tape hC.output (by rw [hC.size];exact Nat.le_refl _) (fun b _ hne=>hC.block b fun e=>hne (by rw [e];rfl)) (setRow_heap w g cs.toArray _ t _ hB) (.inl fun _ h=>h)) (Nat.le_refl _)))
theorem aaW {g off : Nat} {cs us : List Value} {t : TypeId} (m : fS w0 w is) (k : Nat) (hk : is[k]? = some (bI g cs t)) (hx : ev l x = .pointer (some ⟨g,off,none⟩)) (hv : ev l y = .agg us.toArray) (hc : dG P T us.length) (hfit : off + us.length ≤ cs.length) (h1 : (us.all (·.oneCell')) = true)
 (h : ∀ u,fS w0 u (is.set k (bI g (bB cs off us) t)) → wpList P ops Q rest (Fr l ds) u) : wpList P ops Q (Oper.mk none (.store T x y) ty pos after none :: rest) (Fr l ds) w:=adK m k hk hx (by rw [hv];rfl) hc hfit h1 h
theorem Eu {f : FuncId} {fo : Operand} {xs : Array Operand} {args : List Value} {first cap : Array Value} {a0 : Array TypeId} (m : fS w0 w is) (hf : ev l fo = .func (.func f) first cap) (hxs : first.toList ++ xs.toList.map (ev l) ++ cap.toList = args) (hc : nP P f args v)
 (h : ∀ u,fS w0 u is → wpList P ops Q rest (Fr (l.set d v) ds) u) : wpList P ops Q (Oper.mk (some d) (.call { callee:=.value fo,args:=xs,argTypes:=a0 }) ty pos after none :: rest) (Fr l ds) w:=by
 refine wpList_plain rfl fun K hK=>?_;unfold Oper.wp;rw [gH,kM (hc w).1 hf hxs _ rfl];refine (hc w).2.mono ?_;rintro e w' ⟨u,rfl,hE,rfl⟩;show K ((Fr l ds).put (some d) u) w'
 rw [gI];exact hK _ _ (h w' (m.ext' hE))
theorem fS.drew (m : fS w0 w is) : fS w0 { w with drawn:=w.drawn + 1 } is:=m.ext' ⟨(eB.refl w).drawn,Nat.le_succ _⟩
theorem Gf {id : Nat} {a : Act} {l : List Oper} (m : fS w0 w is) (n : Nat) (hm : P.follows .mixedOrders = true) (hB : Region.lexTailB .any l.toArray n = true)
 (h : wpQuiet P l.toArray (fun u=>fS w0 u is) (fun a'=>∀ u,fS w0 u is → wpList P l.toArray Q (l.drop n) a' u) (l.take n) a) : (Code.region id l.toArray true).wp P Q a w :=
 jM (C:=fun u=>fS w0 u is) n hm hB m.drew h
theorem Gmq {id : Nat} {a : Act} {l : List Oper} (m : fS w0 w is) (hm : P.follows .mixedOrders = true) (hB : Region.lexB .any l.toArray = true)
 (h : wpQuiet P l.toArray (fun u=>fS w0 u is) (fun a'=>∀ u,fS w0 u is → Q .normal a' u) l a) : (Code.region id l.toArray true).wp P Q a w :=
 wp_region_quiet (C:=fun u=>fS w0 u is) hm hB m.drew (by simpa using h)
end
section
variable {P : Program} {w0 : World} {is : List It} {l : List Value} {x y : Operand} {T ty : TypeId}
variable {ops : Array Oper} {Q : Act → Prop} {rest : List Oper} {d : Nat} {pos : String} {after : Array Edge} {v : Value} {ds : List Deferred}
theorem Ik {a : Addr} (hx : ev l x = .pointer (some a)) (hv : ∀ u,fS w0 u is → hG P u T a v) (h : wpQuiet P ops (fun u=>fS w0 u is) Q rest (Fr (l.set d v) ds)) : wpQuiet P ops (fun u=>fS w0 u is) Q (Oper.mk (some d) (.load T x) ty pos after none :: rest) (Fr l ds) :=
 gZ (fun u m=>bJ hx (hv u m)) h
theorem yW {f : FuncId} {fo : Operand} {xs : Array Operand} {args : List Value} {first cap : Array Value} {a0 : Array TypeId} (hf : ev l fo = .func (.func f) first cap) (hxs : first.toList ++ xs.toList.map (ev l) ++ cap.toList = args) (hc : nP P f args v)
 (h : wpQuiet P ops (fun u=>fS w0 u is) Q rest (Fr (l.set d v) ds)) : wpQuiet P ops (fun u=>fS w0 u is) Q (Oper.mk (some d) (.call { callee:=.value fo,args:=xs,argTypes:=a0 }) ty pos after none :: rest) (Fr l ds):=by
 refine wpQuiet_step fun K hK=>?_;rw [if_pos (by simp [Region.wanted])];refine ⟨v,fun w' hw=>?_,?_⟩
 · unfold Oper.quietAt
   rw [gH,kM (hc w').1 hf hxs _ rfl];refine ⟨rfl,(hc w').2.mono ?_⟩;rintro e w'' ⟨u,rfl,hE,rfl⟩;exact ⟨rfl,hw.ext' hE⟩
 · show K ((Fr l ds).put (some d) v)
   rw [gI];exact hK _ h
end
end Go.Lith
namespace Go.Lith
open Go.RowKit
def P3.Lt (p q : P3) : Prop:=p.x < q.x ∨ p.x = q.x ∧ (p.y < q.y ∨ p.y = q.y ∧ p.z < q.z)
instance (p q : P3) : Decidable (p.Lt q):=by unfold P3.Lt;infer_instance
def mC (p q : P3) : Int:=if p.Lt q then -1 else if q.Lt p then 1 else 0
theorem P3.eq {p q : P3} (h1 : p.x = q.x) (h2 : p.y = q.y) (h3 : p.z = q.z) : p = q:=by
 cases p;cases q;simp_all
instance : DecidableEq P3:=fun p q=>if h : p.x = q.x ∧ p.y = q.y ∧ p.z = q.z then isTrue (P3.eq h.1 h.2.1 h.2.2) else isFalse fun e=>h (by subst e;exact ⟨rfl,rfl,rfl⟩)
theorem P3.lt_irrefl (p : P3) : ¬ p.Lt p:=by unfold P3.Lt;omega
theorem P3.lt_trans {p q r : P3} (h : p.Lt q) (k : q.Lt r) : p.Lt r:=by unfold P3.Lt at *;omega
theorem P3.lt_tri (p q : P3) : p.Lt q ∨ p = q ∨ q.Lt p:=by
 by_cases h1 : p.x = q.x
 · by_cases h2 : p.y = q.y
   · by_cases h3 : p.z = q.z
     · exact .inr (.inl (P3.eq h1 h2 h3))
     · unfold P3.Lt;omega
   · unfold P3.Lt;omega
 · unfold P3.Lt;omega
theorem P3.lt_x {p q : P3} (h : ¬ p.x = q.x) : p.Lt q ↔ p.x < q.x:=by unfold P3.Lt;omega
theorem P3.lt_y {p q : P3} (h : p.x = q.x) (h2 : ¬ p.y = q.y) : p.Lt q ↔ p.y < q.y:=by unfold P3.Lt;omega
theorem P3.lt_z {p q : P3} (h : p.x = q.x) (h2 : p.y = q.y) : p.Lt q ↔ p.z < q.z:=by unfold P3.Lt;omega
end Go.Lith
