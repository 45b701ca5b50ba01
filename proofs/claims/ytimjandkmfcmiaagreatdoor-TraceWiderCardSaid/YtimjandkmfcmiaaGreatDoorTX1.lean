/-
  Texts of one claim, laid together: Ext, Ops, Al, Ops2, Upd, Held, Eq, Facts, Nat, Nat2, Nat3, Nat4, Nat5, Nat6, Nat7, Nat8, Ops3, Nat9, Nat10, Nat11, Nat12.
-/
import Derived.WalkKit
import Derived.StillTail
import Derived.Deep.Quiet
import Derived.BigQuiet
import Derived.Laws.Rows
import Derived.Laws.IdiomCopy
import Derived.Laws.CopyRow
import Derived.OrdersHeld
import Derived.Laws.StructEq
import Derived.ChangeKeysEq
import Derived.Test.YtimjandkmfcmiaaGreatDoorProg
import Derived.Laws.IdiomStrings
import Derived.Laws.BytesArg
import Derived.RangeFuncBox
import Derived.RangeFuncLeaves
set_option linter.unusedSimpArgs false
set_option linter.unusedVariables false
set_option linter.unusedSectionVars false
namespace Go.Lith
open Go.RowKit
def Ext (w w' : World) : Prop:=Below w.heap.size w w'
theorem Ext.refl (w : World) : Ext w w:=Below.refl _ _
theorem Ext.size {w w' : World} (h : Ext w w') : w.heap.size ≤ w'.heap.size:=Below.size h
theorem Ext.trans {a b c : World} (h : Ext a b) (k : Ext b c) : Ext a c:=Below.trans h (Below.mono k h.size)
theorem Ext.drew {w w' : World} (h : Ext w w') : Ext w w'.drew:=Below.drew h
theorem Ext.drawn {w w' : World} (h : Ext w w') : Ext w { w' with drawn:=w'.drawn + 1 }:=Below.drew h
theorem Ext.alloc {w w' : World} (h : Ext w w') (o : Obj) : Ext w (w'.alloc o):=Below.alloc h h.size o
theorem Ext.setCell {w w' : World} (h : Ext w w') {p : Addr} (hp : w.heap.size ≤ p.block) (u : Value) : Ext w (w'.setCell p u):=Below.setCell h hp u
theorem Ext.block {w w' : World} (h : Ext w w') {k : Nat} {o : Obj} (hk : w.heap[k]? = some o) : w'.heap[k]? = some o :=
  (Below.block h k (Array.getElem?_eq_some_iff.1 hk).1).trans hk
theorem Ext.cell {w w' : World} (h : Ext w w') {p : Addr} {v : Value} (hp : w.cell? p = some v) : w'.cell? p = some v :=
  (Below.cell h (World.block_lt_of_cell? _ _ hp)).trans hp
section
variable {P : Program} {ops : Array Oper} {md : Region.Mode} {C : World → Prop}
def wpAnyM (P : Program) (md : Region.Mode) (ops : Array Oper) (C : World → Prop) (n : Nat) (L : Array Bool → Act → Prop) : Nat → Array Bool → Act → Prop
  | 0,listed,a=>L listed a
  | f + 1,listed,a =>
    Region.ready md ops listed ≠ [] ∧ ∀ i ∈ Region.ready md ops listed,i < n ∧ qOp P ops C i (wpAnyM P md ops C n L f (listed.setIfInBounds i true)) a
theorem wpAny_of_headM {n g : Nat} {L : Array Bool → Act → Prop} {Q' : Exit → Act → World → Prop} (hL : ∀ listed a,L listed a → ∀ w,C w → wpAny P md ops Q' g listed a w) :
    ∀ (f : Nat) (listed : Array Bool) (a : Act) (w : World),C w → wpAnyM P md ops C n L f listed a → wpAny P md ops Q' (f + g) listed a w
  | 0,listed,a,w,hw,h=>by rw [Nat.zero_add]; exact hL _ _ h w hw
  | f + 1,listed,a,w,hw,h=>by
    rw [show f + 1 + g = (f + g) + 1 by omega]
    exact ⟨fun h0=>absurd h0 h.1,fun i hi=>wpOp_of_qOp hw (fun a' w' hw' h'=>wpAny_of_headM hL f _ a' w' hw' h') (h.2 i hi).2⟩
theorem wpAnyM_first {n i : Nat} {oi : Oper} {v : Value} {L : Array Bool → Act → Prop} (hi : ops[i]? = some oi) (hsel : ∀ (j : Nat) (o : Oper) cs b,ops[j]? = some o → o.op ≠ .select cs b)
    (hs : Region.sinkB md ops n = true) (hc : Region.chainB md ops n = true) (hn : n < ops.size) (hin : i < n)
    (hdone : ∀ listed a,L listed a → ∀ j ∈ Region.ready md ops listed,n ≤ j) :
    ∀ (f : Nat) (listed : Array Bool) (a : Act),HeadInv md ops n listed →
      (∀ j oj,ops[j]? = some oj → j ≠ i → listed.getD j true = false → (∀ e ∈ oj.after,Region.binds md e = true → e.on ≠ i) → oi.apart ops oj = true) →
      i ∈ Region.ready md ops listed → YieldsIn P ops C oi v a →
      wpAnyM P md ops C n L f (listed.setIfInBounds i true) (a.put oi.dst v) → wpAnyM P md ops C n L (f + 1) listed a:=by
  intro f
  induction f with
  | zero =>
    intro listed a inv _ hr hy H
    have hun:=(mem_ready.1 hr).1
    refine ⟨fun h=>(by rw [h] at hr; cases hr),fun j hj=>?_⟩
    have hjn : j < n:=by
      rcases Nat.lt_or_ge j n with h | h
      · exact h
      · exact absurd hj (tail_waits hs hc hn inv _ i rfl hin hun j h)
    refine ⟨hjn,?_⟩
    by_cases hji : j = i
    · subst hji; exact hy.qOp hi H
    · have:=hdone _ _ H j (ready_mono hj hji)
      omega
  | succ f ih =>
    intro listed a inv hfree hr hy H
    have hun:=(mem_ready.1 hr).1
    refine ⟨fun h=>(by rw [h] at hr; cases hr),fun j hj=>?_⟩
    have hjn : j < n:=by
      rcases Nat.lt_or_ge j n with h | h
      · exact h
      · exact absurd hj (tail_waits hs hc hn inv _ i rfl hin hun j h)
    refine ⟨hjn,?_⟩
    by_cases hji : j = i
    · subst hji; exact hy.qOp hi H
    · have h1:=(H.2 j (ready_mono hj hji)).2
      obtain ⟨hjun,oj,hoj,hall⟩:=mem_ready.1 hj
      have hnot : ∀ e ∈ oj.after,Region.binds md e = true → e.on ≠ i:=fun e he hb heq=>by
        have h1:=hall e he hb
        rw [heq,getD_both hun] at h1
        cases h1
      have h2:=qOp_put hoj (hfree j oj hoj hji hjun hnot) (fun cs b=>hsel i oi cs b hi) (fun cs b=>hsel j oj cs b hoj) hy h1
      have hfree' : ∀ k ok,ops[k]? = some ok → k ≠ i → (listed.setIfInBounds j true).getD k true = false →
          (∀ e ∈ ok.after,Region.binds md e = true → e.on ≠ i) → oi.apart ops ok = true:=fun k ok hk hki hun hno=>by
        refine hfree k ok hk hki ?_ hno
        by_cases hjk : j = k
        · subst hjk; exact hjun
        · rw [getD_set_ne true hjk] at hun; exact hun
      refine qOp_mono (fun a' h3=>ih (listed.setIfInBounds j true) a' (inv.set hj hjn) hfree' (ready_mono hr (Ne.symm hji)) h3.1 ?_) h2
      rw [Array.setIfInBounds_comm _ _ hji]
      exact h3.2
theorem wpAnyM_lex {n g : Nat} {Lq : Act → Prop} (hsel : Region.noSelect ops = true) (hs : Region.sinkB md ops n = true) (hc : Region.chainB md ops n = true) (hn : n < ops.size) :
    ∀ (l : List Oper) (k : Nat) (listed : Array Bool) (a : Act),(∀ j,j < l.length → l[j]? = ops[k + j]?) → k + l.length = n → HeadInv md ops n listed →
    Region.lexHead md ops g l.length k listed = true → wpQuiet P ops C Lq l a →
    wpAnyM P md ops C n (fun listed' a'=>Region.seqB md ops g n listed' = true ∧ Lq a') l.length listed a
  | [],k,listed,a,_,hk,_,hB,h=>by
    have : k = n:=by simpa using hk
    subst this
    exact ⟨by simpa [Region.lexHead] using hB,h⟩
  | o :: l,k,listed,a,hl,hk,inv,hB,h=>by
    have h0 : ops[k]? = some o:=by simpa using (hl 0 (by simp)).symm
    simp only [List.length_cons,Region.lexHead,Bool.and_eq_true] at hB
    obtain ⟨⟨hr,hf⟩,hB'⟩:=hB
    have hkn : k < n:=by simp only [List.length_cons] at hk; omega
    have hr' : k ∈ Region.ready md ops listed:=by simpa using hr
    have hst : qOp P ops C k (wpQuiet P ops C Lq l) a:=by unfold qOp; simp only [h0]; exact h
    obtain ⟨v,hy,hK⟩:=yieldsIn_of_qOp h0 hst
    exact wpAnyM_first h0 (Region.noSelect_spec hsel) hs hc hn hkn (fun listed' a' hL=>seqB_ready hL.1) l.length listed a inv (Region.free_spec h0 hf) hr' hy
      (wpAnyM_lex hsel hs hc hn l (k + 1) _ _ (fun j hj=>by have:=hl (j + 1) (by simp; omega); simpa [Nat.add_assoc,Nat.add_comm 1 j] using this) (by simp only [List.length_cons] at hk; omega) (inv.set hr' hkn) hB' hK)
theorem wp_region_quiet_tail {id : Nat} {Q : Exit → Act → World → Prop} {a : Act} {w : World} {l : List Oper} (n : Nat) (hm : P.follows .mixedOrders = true) (hB : Region.lexTailB .any l.toArray n = true)
    (hC : C { w with drawn:=w.drawn + 1 })
    (h : wpQuiet P l.toArray C (fun a'=>∀ w',C w' → wpList P l.toArray Q (l.drop n) a' w') (l.take n) a) : (Code.region id l.toArray true).wp P Q a w:=by
  simp only [Region.lexTailB,Bool.and_eq_true,decide_eq_true_eq] at hB
  obtain ⟨⟨⟨⟨hsel,hn⟩,hs⟩,hc⟩,hlex⟩:=hB
  have hn' : n < l.length:=by simpa using hn
  have htl : (l.take n).length = n:=by simp; omega
  have hdl : (l.drop n).length = l.toArray.size - n:=by simp
  have inv0 : HeadInv .any l.toArray n (Array.replicate l.toArray.size false) :=
    ⟨by simp,fun j oj _ hl=>(by rw [getD_replicate_false] at hl; cases hl),fun t _ ht=>getD_in (by simpa using ht) (getD_replicate_false _ _)⟩
  have H:=wpAnyM_lex (md:=.any) (g:=l.toArray.size - n) hsel hs hc hn (l.take n) 0 _ a (fun j hj=>by
    have hj' : j < n:=by rw [htl] at hj; exact hj
    simp [hj']) (by simpa using htl) inv0 (by rw [htl]; exact hlex) h
  refine wp_region_any hm ?_
  have:=wpAny_of_headM (Q':=Q) (g:=l.toArray.size - n) (fun listed a' hL w' hw'=>by
    have:=wpAny_of_seq (md:=.any) (Q':=Q) (l.drop n) n listed a' w' (fun j=>by simp [List.getElem?_drop]) (by rw [hdl]; exact hL.1) (hL.2 w' hw')
    rwa [hdl] at this) _ _ _ _ hC H
  rw [htl,show n + (l.toArray.size - n) = l.toArray.size by omega] at this
  exact this
theorem wp_region_ext_tail {id : Nat} {Q : Exit → Act → World → Prop} {a : Act} {w : World} {l : List Oper} (n : Nat) (hm : P.follows .mixedOrders = true) (hB : Region.lexTailB .any l.toArray n = true)
    (h : wpQuiet P l.toArray (Ext w) (fun a'=>∀ w',Ext w w' → wpList P l.toArray Q (l.drop n) a' w') (l.take n) a) : (Code.region id l.toArray true).wp P Q a w :=
  wp_region_quiet_tail (C:=Ext w) n hm hB (Ext.refl w).drawn h
theorem wp_region_ext {id : Nat} {Q : Exit → Act → World → Prop} {a : Act} {w : World} {l : List Oper} (hm : P.follows .mixedOrders = true) (hB : Region.lexB .any l.toArray = true)
    (h : wpQuiet P l.toArray (Ext w) (fun a'=>∀ w',Ext w w' → Q .normal a' w') l a) : (Code.region id l.toArray true).wp P Q a w :=
  wp_region_quiet (C:=Ext w) hm hB (Ext.refl w).drawn (by simpa using h)
def ordB (md : Region.Mode) (ops : Array Oper) : List (Nat × Bool) → Array Bool → Bool
  | [],listed=>(Region.ready md ops listed).isEmpty
  | (i,true) :: r,listed=>(ops[i]?).isSome && Region.free md ops listed i && (Region.ready md ops listed).contains i && ordB md ops r (listed.setIfInBounds i true)
  | (i,false) :: r,listed=>(ops[i]?).isSome && decide (Region.ready md ops listed = [i]) && ordB md ops r (listed.setIfInBounds i true)
def wpMix (P : Program) (ops : Array Oper) (Q : Exit → Act → World → Prop) : List (Oper × Bool) → Act → World → Prop
  | [],a,w=>Q .normal a w
  | (o,true) :: r,a,w=>∃ v,Yields P ops o v a ∧ wpMix P ops Q r (a.put o.dst v) w
  | (o,false) :: r,a,w=>wpList P ops (Exit.then (wpMix P ops Q r) Q) [o] a w
theorem wpAny_of_mix {Q : Exit → Act → World → Prop} (hs : Region.noSelect ops = true) (hQ : ∀ c d v a w,Q (.panic c) (Act.put a d v) w → Q (.panic c) a w) : ∀ (l : List (Nat × Bool)) (listed : Array Bool) (a : Act) (w : World),
    ordB md ops l listed = true → wpMix P ops Q (l.map fun x=>((ops[x.1]?).getD default,x.2)) a w → wpAny P md ops Q l.length listed a w
  | [],listed,a,w,hB,h=>⟨by simpa [ordB] using hB,h⟩
  | (i,true) :: r,listed,a,w,hB,h=>by
    simp only [ordB,Bool.and_eq_true] at hB
    obtain ⟨⟨⟨h1,h2⟩,h3⟩,h4⟩:=hB
    obtain ⟨o,ho⟩:=Option.isSome_iff_exists.1 h1
    simp only [List.map_cons,wpMix,ho,Option.getD_some] at h
    obtain ⟨v,hy,hr⟩:=h
    exact wpAny_take ho hs h2 h3 (fun c a w=>hQ c _ v a w) hy (wpAny_of_mix hs hQ r _ _ _ h4 hr)
  | (i,false) :: r,listed,a,w,hB,h=>by
    simp only [ordB,Bool.and_eq_true,decide_eq_true_eq] at hB
    obtain ⟨⟨h1,h2⟩,h4⟩:=hB
    obtain ⟨o,ho⟩:=Option.isSome_iff_exists.1 h1
    refine wpAny_all h2 (by simp) fun j hj=>?_
    obtain rfl : j = i:=by simpa using hj
    simp only [List.map_cons,wpMix,ho,Option.getD_some] at h
    have key : ∀ a' w',Exit.then (wpMix P ops Q (r.map fun x=>((ops[x.1]?).getD default,x.2))) Q .normal a' w' → wpAny P md ops Q r.length (listed.setIfInBounds j true) a' w':=fun a' w' hh=>wpAny_of_mix hs hQ r _ a' w' h4 hh
    unfold wpOp
    simp only [ho]
    simp only [wpList] at h
    split
    · rename_i hw
      rw [if_pos hw] at h
      rcases h with h | ⟨ha,x,y,hl⟩
      · refine .inl ?_
        unfold Oper.wp at h ⊢
        generalize (execOp a.eval o).run P w = res at *
        cases res with
        | ok n w' =>
          cases n <;> simp only [Oper.upon] at h ⊢ <;>
            first
              | exact key _ _ h
              | exact Calls.mono h (fun e w'' he=>by cases e <;> first | exact key _ _ he | exact he)
              | exact Rows.mono h (fun _ _ he=>key _ _ he)
        | halt x w'=>cases x <;> simp only [Oper.upon] at h ⊢ <;> exact h
      · exact .inr ⟨ha,x,y,hl⟩
    · rename_i hw
      rw [if_neg hw] at h
      exact key _ _ h
theorem wp_region_ord {id : Nat} {Q : Exit → Act → World → Prop} {a : Act} {w : World} {l : List Oper} (o : List (Nat × Bool)) (hm : P.follows .mixedOrders = true) (hB : (Region.noSelect l.toArray && decide (o.length = l.length) && ordB .any l.toArray o (Array.replicate l.toArray.size false)) = true)
    (hQ : ∀ c d v a w,Q (.panic c) (Act.put a d v) w → Q (.panic c) a w) {ol : List (Oper × Bool)} (hol : (o.map fun x=>((l.toArray[x.1]?).getD default,x.2)) = ol)
    (h : ∀ w',Ext w w' → wpMix P l.toArray Q ol a w') : (Code.region id l.toArray true).wp P Q a w:=by
  simp only [Bool.and_eq_true,decide_eq_true_eq] at hB
  subst hol
  refine wp_region_any hm ?_
  have:=wpAny_of_mix (md:=.any) hB.1.1 hQ o _ a { w with drawn:=w.drawn + 1 } hB.2 (h _ (Ext.refl w).drawn)
  rwa [hB.1.2] at this
end
end Go.Lith
namespace Go.Lith
open Go.RowKit
abbrev Fr (l : List Value) (ds : List Deferred:=[]) : Act:={ tmps:=l.toArray,defers:=ds }
def Blk (w : World) (g : Nat) (cs : List Value) (t : TypeId) : Prop:=w.heap[g]? = some (.cells cs.toArray t (0,0))
structure Chg (w w' : World) (g : Nat) : Prop where
  os : w'.os = w.os
  tape : w'.tape = w.tape
  output : w'.output = w.output
  size : w'.heap.size = w.heap.size
  block : ∀ k,k ≠ g → w'.heap[k]? = w.heap[k]?
def Row (w : World) (a : Addr) (cs : List Value) : Prop:=∀ j u,cs[j]? = some u → w.cell? (a.add j) = some u
theorem Blk.lt {w : World} {g : Nat} {cs : List Value} {t : TypeId} (h : Blk w g cs t) : g < w.heap.size:=(Array.getElem?_eq_some_iff.1 h).1
theorem Blk.ext {w w' : World} {g : Nat} {cs : List Value} {t : TypeId} (h : Blk w g cs t) (hE : Ext w w') : Blk w' g cs t:=hE.block h
theorem Blk.chg {w w' : World} {g g' : Nat} {cs : List Value} {t : TypeId} (h : Blk w g cs t) (hC : Chg w w' g') (hne : g ≠ g') : Blk w' g cs t:=(hC.block g hne).trans h
theorem Ext.chg {w0 w w' : World} {g : Nat} (h : Ext w0 w) (hC : Chg w w' g) (hg : w0.heap.size ≤ g) : Ext w0 w' :=
  ⟨hC.os.trans h.os,hC.tape.trans h.tape,hC.output.trans h.output,by rw [hC.size]; exact h.size,fun k hk=>(hC.block k (by omega)).trans (Below.block h k hk)⟩
theorem Row.ext {w w' : World} {a : Addr} {cs : List Value} (h : Row w a cs) (hE : Ext w w') : Row w' a cs:=fun j u hj=>hE.cell (h j u hj)
theorem addr_add_mk (g off j : Nat) : (⟨g,off,none⟩ : Addr).add j = ⟨g,off + j,none⟩:=by unfold Addr.add; split <;> simp_all
theorem addr_add_add (a : Addr) (i j : Nat) : (a.add i).add j = a.add (i + j):=by
  unfold Addr.add
  by_cases hi : i = 0 <;> by_cases hj : j = 0 <;> simp [hi,hj,Nat.add_assoc]
theorem Blk.row {w : World} {g : Nat} {cs : List Value} {t : TypeId} (h : Blk w g cs t) (off : Nat) : Row w ⟨g,off,none⟩ (cs.drop off):=by
  intro j u hj
  rw [addr_add_mk,cell_of_row w g (off + j) cs.toArray t (0,0) h]
  simpa [List.getElem?_drop] using hj
theorem Row.sub {w : World} {a : Addr} {cs : List Value} (h : Row w a cs) (i : Nat) : Row w (a.add i) (cs.drop i):=by
  intro j u hj
  rw [addr_add_add]
  exact h (i + j) u (by simpa [List.getElem?_drop] using hj)
theorem Row.take {w : World} {a : Addr} {cs : List Value} (h : Row w a cs) (n : Nat) : Row w a (cs.take n):=by
  intro j u hj
  refine h j u ?_
  rw [List.getElem?_take] at hj
  split at hj
  · exact hj
  · cases hj
section
variable {P : Program} {ds : List Deferred} {l : List Value}
theorem fr_tmp (t : Nat) : (Fr l).eval (.tmp t) = l.getD t undef:=by
  show l.toArray.getD t undef = _
  simp [Array.getD,List.getD]
  split <;> simp_all
theorem fr_eval {ds : List Deferred} : (Fr l ds).eval = (Fr l).eval:=rfl
theorem fr_put {ds : List Deferred} (d : Nat) (v : Value) : (Fr l ds).put (some d) v = Fr (l.set d v) ds:=by simp [Act.put,Fr]
def Cells (P : Program) (T : TypeId) (n : Nat) : Prop:=∃ inf,P.info? T = some inf ∧ inf.size = n
def Zero (P : Program) (T : TypeId) (z : Value) : Prop:=∃ inf,P.info? T = some inf ∧ inf.zero = some z
def aggDesc : TypeDesc → Bool
  | .struct _ | .array _ _=>true
  | _=>false
def IsAgg (P : Program) (T : TypeId) (b : Bool) : Prop:=∃ dd,P.underlying T = some dd ∧ aggDesc dd = b
theorem cells_of {T : TypeId} {n : Nat} (h : (P.info? T).map (·.size) = some n) : Cells P T n:=by
  cases hi : P.info? T with
  | none=>rw [hi] at h; cases h
  | some i=>rw [hi] at h; exact ⟨i,hi,by simpa using h⟩
theorem zero_of {T : TypeId} {z : Value} (h : (P.info? T).bind (·.zero) = some z) : Zero P T z:=by
  cases hi : P.info? T with
  | none=>rw [hi] at h; cases h
  | some i=>rw [hi] at h; exact ⟨i,hi,by simpa using h⟩
theorem isAgg_of {T : TypeId} {b : Bool} (dd : TypeDesc) (h : P.underlying T = some dd) (hb : aggDesc dd = b) : IsAgg P T b:=⟨dd,h,hb⟩
def ev (l : List Value) : Operand → Value
  | .tmp t=>l.getD t undef
  | .const v=>v
  | .global g=>.pointer (some ⟨g,0,none⟩)
  | .func f=>.func (.func f) #[] #[]
theorem ev_tmp (t : Nat) : ev l (.tmp t) = l.getD t undef:=rfl
theorem ev_const (v : Value) : ev l (.const v) = v:=rfl
theorem ev_func (f : Nat) : ev l (.func f) = .func (.func f) #[] #[]:=rfl
theorem ev_eq (x : Operand) : (Fr l).eval x = ev l x:=by
  cases x with
  | tmp t=>exact fr_tmp t
  | const=>rfl
  | global=>rfl
  | func=>rfl
def RunW (P : Program) (l : List Value) (op : Op) (ty : TypeId) (v : Value) (w : World) : Prop :=
  ∀ o : Oper,o.op = op → o.type = ty → (execOp (Fr l).eval o).run P w = .ok (.value v) w
def Run (P : Program) (l : List Value) (op : Op) (ty : TypeId) (v : Value) : Prop:=∀ w,RunW P l op ty v w
section
variable {ops : Array Oper} {Q : Exit → Act → World → Prop} {w : World} {rest : List Oper} {d : Nat} {op : Op} {ty : TypeId} {pos : String} {after : Array Edge} {v : Value}
theorem n_valW (hr : RunW P l op ty v w) (h : wpList P ops Q rest (Fr (l.set d v) ds) w) : wpList P ops Q (Oper.mk (some d) op ty pos after none :: rest) (Fr l ds) w:=by
  refine wpList_plain rfl fun K hK=>?_
  unfold Oper.wp
  rw [fr_eval,hr _ rfl rfl]
  show K ((Fr l ds).put (some d) v) w
  rw [fr_put]
  exact hK _ _ h
theorem n_val (hr : Run P l op ty v) (h : wpList P ops Q rest (Fr (l.set d v) ds) w) : wpList P ops Q (Oper.mk (some d) op ty pos after none :: rest) (Fr l ds) w:=n_valW (hr w) h
theorem n_nil (h : Q .normal (Fr l ds) w) : wpList P ops Q [] (Fr l ds) w:=h
theorem n_want {j : Nat} {b : Bool} (hw : yielded ops l.toArray j = some b) (h : wpList P ops Q (Oper.mk (some d) op ty pos after none :: rest) (Fr l ds) w) : wpList P ops Q (Oper.mk (some d) op ty pos after (some (j,b)) :: rest) (Fr l ds) w:=by
  unfold wpList at h ⊢
  rw [if_pos (by simp [Region.wanted])] at h
  rw [if_pos (by simp [Region.wanted,hw])]
  exact h
theorem n_skip {j : Nat} {b c : Bool} (hw : yielded ops l.toArray j = some c) (hbc : (c == b) = false) (h : wpList P ops Q rest (Fr (l.set d undef) ds) w) : wpList P ops Q (Oper.mk (some d) op ty pos after (some (j,b)) :: rest) (Fr l ds) w:=by
  unfold wpList
  rw [if_neg (by simp [Region.wanted,hw]; simpa using hbc)]
  show wpList P ops Q rest ((Fr l ds).put (some d) undef) w
  rw [fr_put]
  exact h
theorem n_skipT {j : Nat} (hw : yielded ops l.toArray j = some false) (h : wpList P ops Q rest (Fr (l.set d undef) ds) w) : wpList P ops Q (Oper.mk (some d) op ty pos after (some (j,true)) :: rest) (Fr l ds) w:=n_skip hw rfl h
theorem n_skipF {j : Nat} (hw : yielded ops l.toArray j = some true) (h : wpList P ops Q rest (Fr (l.set d undef) ds) w) : wpList P ops Q (Oper.mk (some d) op ty pos after (some (j,false)) :: rest) (Fr l ds) w:=n_skip hw rfl h
theorem n_skip0 {j : Nat} {b : Bool} (hw : yielded ops l.toArray j = none) (h : wpList P ops Q rest (Fr (l.set d undef) ds) w) : wpList P ops Q (Oper.mk (some d) op ty pos after (some (j,b)) :: rest) (Fr l ds) w:=by
  unfold wpList
  rw [if_neg (by simp [Region.wanted,hw])]
  show wpList P ops Q rest ((Fr l ds).put (some d) undef) w
  rw [fr_put]
  exact h
end
section
variable {ops : Array Oper} {Q : Act → Prop} {C : World → Prop} {rest : List Oper} {d : Nat} {op : Op} {ty : TypeId} {pos : String} {after : Array Edge} {v : Value}
theorem q_valW (hr : ∀ w,C w → RunW P l op ty v w) (h : wpQuiet P ops C Q rest (Fr (l.set d v) ds)) : wpQuiet P ops C Q (Oper.mk (some d) op ty pos after none :: rest) (Fr l ds):=by
  refine wpQuiet_step fun K hK=>?_
  rw [if_pos (by simp [Region.wanted])]
  refine ⟨v,fun w hw=>?_,?_⟩
  · unfold Oper.quietAt
    rw [fr_eval,hr w hw _ rfl rfl]
    exact ⟨rfl,rfl⟩
  · show K ((Fr l ds).put (some d) v)
    rw [fr_put]
    exact hK _ h
theorem q_val (hr : Run P l op ty v) (h : wpQuiet P ops C Q rest (Fr (l.set d v) ds)) : wpQuiet P ops C Q (Oper.mk (some d) op ty pos after none :: rest) (Fr l ds):=q_valW (fun w _=>hr w) h
theorem q_nil (h : Q (Fr l ds)) : wpQuiet P ops C Q [] (Fr l ds):=h
theorem q_want {j : Nat} {b : Bool} (hw : yielded ops l.toArray j = some b) (h : wpQuiet P ops C Q (Oper.mk (some d) op ty pos after none :: rest) (Fr l ds)) : wpQuiet P ops C Q (Oper.mk (some d) op ty pos after (some (j,b)) :: rest) (Fr l ds):=by
  unfold wpQuiet at h ⊢
  rw [if_pos (by simp [Region.wanted])] at h
  rw [if_pos (by simp [Region.wanted,hw])]
  exact h
theorem q_skip {j : Nat} {b c : Bool} (hw : yielded ops l.toArray j = some c) (hbc : (c == b) = false) (h : wpQuiet P ops C Q rest (Fr (l.set d undef) ds)) : wpQuiet P ops C Q (Oper.mk (some d) op ty pos after (some (j,b)) :: rest) (Fr l ds):=by
  unfold wpQuiet
  rw [if_neg (by simp [Region.wanted,hw]; simpa using hbc)]
  show wpQuiet P ops C Q rest ((Fr l ds).put (some d) undef)
  rw [fr_put]
  exact h
theorem q_skipF {j : Nat} (hw : yielded ops l.toArray j = some true) (h : wpQuiet P ops C Q rest (Fr (l.set d undef) ds)) : wpQuiet P ops C Q (Oper.mk (some d) op ty pos after (some (j,false)) :: rest) (Fr l ds):=q_skip hw rfl h
end
/-! ### Values -/
section
variable {x y : Operand} {T T' ty : TypeId} {k : IntKind} {m n r : Int}
theorem r_move : Run P l (.move x) ty (ev l x):=fun w o ho _=>by simp [execOp,ho,ev_eq]
theorem r_assign : Run P l (.assign x) ty (ev l x):=fun w o ho _=>by simp [execOp,ho,ev_eq]
theorem r_pick {c : Operand} {b : Bool} (hc : ev l c = .bool b) : Run P l (.pick c x y) ty (if b then ev l x else ev l y):=fun w o ho _=>by
  simp [execOp,ho,ev_eq,hc,asBool]
theorem r_add (hx : ev l x = .int k m) (hy : ev l y = .int k n) (hr : k.wrap (m + n) = r) : Run P l (.binOp .add T x y T') ty (.int k r):=fun w o ho _=>by
  simp [execOp,ho,ev_eq,hx,hy,eqGuard,binOp,Op.intArith,hr]
theorem r_sub (hx : ev l x = .int k m) (hy : ev l y = .int k n) (hr : k.wrap (m - n) = r) : Run P l (.binOp .sub T x y T') ty (.int k r):=fun w o ho _=>by
  simp [execOp,ho,ev_eq,hx,hy,eqGuard,binOp,Op.intArith,hr]
theorem r_mul (hx : ev l x = .int k m) (hy : ev l y = .int k n) (hr : k.wrap (m * n) = r) : Run P l (.binOp .mul T x y T') ty (.int k r):=fun w o ho _=>by
  simp [execOp,ho,ev_eq,hx,hy,eqGuard,binOp,Op.intArith,hr]
theorem r_lss (hx : ev l x = .int k m) (hy : ev l y = .int k n) : Run P l (.binOp .lss T x y T') ty (.bool (decide (m < n))):=fun w o ho _=>by
  simp [execOp,ho,ev_eq,hx,hy,eqGuard,binOp,Op.intCmp]
theorem r_leq (hx : ev l x = .int k m) (hy : ev l y = .int k n) : Run P l (.binOp .leq T x y T') ty (.bool (decide (m ≤ n))):=fun w o ho _=>by
  simp [execOp,ho,ev_eq,hx,hy,eqGuard,binOp,Op.intCmp]
theorem r_gtr (hx : ev l x = .int k m) (hy : ev l y = .int k n) : Run P l (.binOp .gtr T x y T') ty (.bool (decide (n < m))):=fun w o ho _=>by
  simp [execOp,ho,ev_eq,hx,hy,eqGuard,binOp,Op.intCmp]
theorem r_geq (hx : ev l x = .int k m) (hy : ev l y = .int k n) : Run P l (.binOp .geq T x y T') ty (.bool (decide (n ≤ m))):=fun w o ho _=>by
  simp [execOp,ho,ev_eq,hx,hy,eqGuard,binOp,Op.intCmp]
theorem r_eql (hx : ev l x = .int k m) (hy : ev l y = .int k n) : Run P l (.binOp .eql T x y T') ty (.bool (decide (m = n))):=fun w o ho _=>by
  simp [execOp,ho,ev_eq,hx,hy,eqGuard,binOp,Op.intCmp]
  cases h : (m == n) <;> simp_all
theorem r_neq (hx : ev l x = .int k m) (hy : ev l y = .int k n) : Run P l (.binOp .neq T x y T') ty (.bool (decide (m ≠ n))):=fun w o ho _=>by
  simp [execOp,ho,ev_eq,hx,hy,eqGuard,binOp,Op.intCmp]
  cases h : (m != n) <;> simp_all
theorem r_quo (hx : ev l x = .int k m) (hy : ev l y = .int k n) (h0 : n ≠ 0) (hr : k.wrap (m.tdiv n) = r) : Run P l (.binOp .quo T x y T') ty (.int k r):=fun w o ho _=>by
  simp [execOp,ho,ev_eq,hx,hy,eqGuard,binOp,Op.intDiv,h0,hr]
theorem r_rem (hx : ev l x = .int k m) (hy : ev l y = .int k n) (h0 : n ≠ 0) (hr : m.tmod n = r) : Run P l (.binOp .rem T x y T') ty (.int k r):=fun w o ho _=>by
  simp [execOp,ho,ev_eq,hx,hy,eqGuard,binOp,Op.intDiv,h0,hr]
theorem r_and (hx : ev l x = .int k m) (hy : ev l y = .int k n) (hr : k.wrap ((BitVec.ofInt k.bits m &&& BitVec.ofInt k.bits n).toNat : Int) = r) : Run P l (.binOp .and T x y T') ty (.int k r):=fun w o ho _=>by
  subst hr
  simp [execOp,ho,ev_eq,hx,hy,eqGuard,binOp,Op.intBits]
theorem r_or (hx : ev l x = .int k m) (hy : ev l y = .int k n) (hr : k.wrap ((BitVec.ofInt k.bits m ||| BitVec.ofInt k.bits n).toNat : Int) = r) : Run P l (.binOp .or T x y T') ty (.int k r):=fun w o ho _=>by
  subst hr
  simp [execOp,ho,ev_eq,hx,hy,eqGuard,binOp,Op.intBits]
theorem r_shl {k' : IntKind} (hx : ev l x = .int k m) (hy : ev l y = .int k' n) (h0 : 0 ≤ n) (hr : k.wrap (m * 2 ^ (min n.toNat k.bits)) = r) : Run P l (.binOp .shl T x y T') ty (.int k r):=fun w o ho _=>by
  subst hr
  simp [execOp,ho,ev_eq,hx,hy,eqGuard,binOp,Op.shift,Int.not_lt.2 h0]
theorem r_shr {k' : IntKind} (hx : ev l x = .int k m) (hy : ev l y = .int k' n) (h0 : 0 ≤ n) (hr : m.fdiv (2 ^ (min n.toNat k.bits)) = r) : Run P l (.binOp .shr T x y T') ty (.int k r):=fun w o ho _=>by
  subst hr
  simp [execOp,ho,ev_eq,hx,hy,eqGuard,binOp,Op.shift,Int.not_lt.2 h0]
theorem r_not {b : Bool} (hx : ev l x = .bool b) : Run P l (.unOp .not T x) ty (.bool (!b)):=fun w o ho _=>by
  simp [execOp,ho,ev_eq,hx,Op.unary]
theorem r_neg (hx : ev l x = .int k m) (hr : k.wrap (0 - m) = r) : Run P l (.unOp .neg T x) ty (.int k r):=fun w o ho _=>by
  subst hr
  simp [execOp,ho,ev_eq,hx,Op.unary,Op.intArith]
theorem r_conv (hd : P.underlying T' = some (.int k)) {k' : IntKind} {dd : TypeDesc} (hs : P.underlying T = some dd) (hx : ev l x = .int k' m) (hr : k.wrap m = r) : Run P l (.convert T T' x) ty (.int k r):=fun w o ho _=>by
  subst hr
  simp [execOp,ho,ev_eq,hx,convert,run_underlying hs,run_underlying hd,Conv.intToInt]
theorem r_extract {vs : Array Value} {i : Nat} {v : Value} (hx : ev l x = .tuple vs) (hi : vs[i]? = some v) : Run P l (.extract x i) ty v:=fun w o ho _=>by
  simp [execOp,ho,ev_eq,hx,Instr.extract,hi]
theorem r_makeFunc {fn : Fn} {first captured : Array Operand} : Run P l (.makeFunc fn first captured) ty (.func fn (first.map (ev l)) (captured.map (ev l))):=fun w o ho _=>by
  have e : (Fr l).eval = ev l:=funext ev_eq
  simp [execOp,ho,e,Instr.makeFunc]
theorem r_lenS {E : TypeId} {A : Option Addr} {n c : Nat} {a0 : Array TypeId} (ha : a0 = #[T]) (hu : P.underlying T = some (.slice E)) (hx : ev l x = .slice A n c) : Run P l (.call { callee:=.builtin .len,args:=#[x],argTypes:=a0 }) ty (.int .i64 n):=fun w o ho _=>by
  subst ha
  simp [execOp,ho,resolve,invoke,builtin,Builtin.len_,ev_eq,hx,run_underlying hu,goInt]
theorem r_lenStr {s : ByteArray} {a0 : Array TypeId} (ha : a0 = #[T]) (hu : P.underlying T = some .string) (hx : ev l x = .string s) : Run P l (.call { callee:=.builtin .len,args:=#[x],argTypes:=a0 }) ty (.int .i64 s.size):=fun w o ho _=>by
  subst ha
  simp [execOp,ho,resolve,invoke,builtin,Builtin.len_,ev_eq,hx,run_underlying hu,goInt]
theorem r_min {a0 : Array TypeId} (hx : ev l x = .int k m) (hy : ev l y = .int k n) (hr : (if n < m then n else m) = r) : Run P l (.call { callee:=.builtin .min,args:=#[x,y],argTypes:=a0 }) ty (.int k r):=fun w o ho _=>by
  subst hr
  simp [execOp,ho,resolve,invoke,builtin,Builtin.min_,Builtin.min2,ev_eq,hx,hy]
theorem r_max {a0 : Array TypeId} (hx : ev l x = .int k m) (hy : ev l y = .int k n) (hr : (if m < n then n else m) = r) : Run P l (.call { callee:=.builtin .max,args:=#[x,y],argTypes:=a0 }) ty (.int k r):=fun w o ho _=>by
  subst hr
  simp [execOp,ho,resolve,invoke,builtin,Builtin.max_,Builtin.max2,ev_eq,hx,hy]
end
/-! ### Addresses -/
section
variable {x y : Operand} {T T' ty : TypeId} {k : IntKind} {m n r : Int}
theorem r_fieldAddr {fs : Array Field} {i c : Nat} {f : Field} {a b : Addr} (hu : P.underlying T = some (.struct fs)) (hf : fs[i]? = some f) (hc : Cells P f.type (c + 1)) (hx : ev l x = .pointer (some a)) (hb : a.add f.offset = b) :
    Run P l (.fieldAddr T x i) ty (.pointer (some b)):=fun w o ho _=>by
  subst hb
  obtain ⟨inf,hi,hz⟩:=hc
  have hz' : ¬ inf.size = 0:=by omega
  simp [execOp,ho,ev_eq,hx,Instr.fieldAt,run_underlying hu,hf,Instr.sureAddr,fieldPlace,sizeOf,typeInfo,hi,hz']
theorem r_indexAddrA {E : TypeId} {len : Nat} {c : Nat} {a b : Addr} (hu : P.underlying T = some (.array len E)) (hc : Cells P E c) (hx : ev l x = .pointer (some a)) (hy : ev l y = .int k m) (h0 : 0 ≤ m) (h1 : m < len) (hb : a.add (m.toNat * c) = b) :
    Run P l (.indexAddr T x y) ty (.pointer (some b)):=fun w o ho _=>by
  subst hb
  obtain ⟨inf,hi,rfl⟩:=hc
  simp [execOp,ho,ev_eq,hx,hy,Instr.indexAt,asIntOf,run_underlying hu,Instr.sureAddr,sizeOf,typeInfo,hi,h0,h1]
theorem r_indexAddrS {E : TypeId} {len cap : Nat} {c : Nat} {a b : Addr} (hu : P.underlying T = some (.slice E)) (hc : Cells P E c) (hx : ev l x = .slice (some a) len cap) (hy : ev l y = .int k m) (h0 : 0 ≤ m) (h1 : m < len) (hb : a.add (m.toNat * c) = b) :
    Run P l (.indexAddr T x y) ty (.pointer (some b)):=fun w o ho _=>by
  subst hb
  obtain ⟨inf,hi,rfl⟩:=hc
  simp [execOp,ho,ev_eq,hx,hy,Instr.indexAt,asIntOf,run_underlying hu,sizeOf,typeInfo,hi,h0,h1]
end
/-! ### Memory -/
section
variable {x y : Operand} {T T' ty : TypeId} {w : World}
def Lies (P : Program) (w : World) (T : TypeId) (a : Addr) (v : Value) : Prop:=(loadVar T a).run P w = .ok v w
theorem Row.lies {a : Addr} {cs : List Value} (h : Row w a cs) (hA : IsAgg P T true) (hc : Cells P T cs.length) : Lies P w T a (.agg cs.toArray):=by
  obtain ⟨dd,hu,hd⟩:=hA
  obtain ⟨inf,hi,hn⟩:=hc
  have hl:=run_loadCells_list (P:=P) w a cs (fun j v hv=>h j v hv)
  have hagg : (isAgg T).run P w = .ok true w:=by
    unfold isAgg
    rw [Sem.run_bind,run_underlying hu w]
    cases dd <;> simp_all [aggDesc]
  unfold Lies
  simp [loadVar,Sem.run_bind,hagg,sizeOf,typeInfo,hi,hn,hl]
theorem lies1 {a : Addr} {v : Value} (h : w.cell? a = some v) (hA : IsAgg P T false) : Lies P w T a v:=by
  obtain ⟨dd,hu,hd⟩:=hA
  have hagg : (isAgg T).run P w = .ok false w:=by
    unfold isAgg
    rw [Sem.run_bind,run_underlying hu w]
    cases dd <;> simp_all [aggDesc]
  unfold Lies
  simp [loadVar,Sem.run_bind,hagg,load,Sem.run,h]
theorem Blk.cell {g : Nat} {cs : List Value} {t : TypeId} (h : Blk w g cs t) {i : Nat} {v : Value} (hi : cs[i]? = some v) : w.cell? ⟨g,i,none⟩ = some v:=by
  rw [cell_of_row w g i cs.toArray t (0,0) h]
  simpa using hi
theorem Blk.lies1 {g i : Nat} {cs : List Value} {t : TypeId} {v : Value} (h : Blk w g cs t) (hA : IsAgg P T false) (hi : cs[i]? = some v) : Lies P w T ⟨g,i,none⟩ v:=Lith.lies1 (h.cell hi) hA
theorem Blk.lies {g i n : Nat} {cs us : List Value} {t : TypeId} (h : Blk w g cs t) (hA : IsAgg P T true) (hc : Cells P T n) (hu : (cs.drop i).take n = us) (hn : us.length = n) : Lies P w T ⟨g,i,none⟩ (.agg us.toArray):=by
  subst hu
  exact ((h.row i).take n).lies hA (by rw [hn]; exact hc)
theorem r_load {a : Addr} {v : Value} (hx : ev l x = .pointer (some a)) (hv : Lies P w T a v) : RunW P l (.load T x) ty v w:=fun o ho _=>by
  unfold Lies at hv
  simp [execOp,ho,ev_eq,hx,Instr.loadAt,Instr.sureAddr,hv]
variable {ops : Array Oper} {Q : Exit → Act → World → Prop} {rest : List Oper} {d : Nat} {op : Op} {pos : String} {after : Array Edge} {v : Value}
theorem n_load {a : Addr} (hx : ev l x = .pointer (some a)) (hv : Lies P w T a v) (h : wpList P ops Q rest (Fr (l.set d v) ds) w) : wpList P ops Q (Oper.mk (some d) (.load T x) ty pos after none :: rest) (Fr l ds) w :=
  n_valW (r_load hx hv) h
theorem n_skipW {w' : World} (hr : ∀ o : Oper,o.op = op → (execOp (Fr l).eval o).run P w = .ok .skip w') (h : wpList P ops Q rest (Fr l ds) w') : wpList P ops Q (Oper.mk none op ty pos after none :: rest) (Fr l ds) w:=by
  refine wpList_plain rfl fun K hK=>?_
  unfold Oper.wp
  rw [fr_eval,hr _ rfl]
  exact hK _ _ h
theorem n_newW {w' : World} (hr : ∀ o : Oper,o.op = op → o.type = ty → (execOp (Fr l).eval o).run P w = .ok (.value v) w') (h : wpList P ops Q rest (Fr (l.set d v) ds) w') : wpList P ops Q (Oper.mk (some d) op ty pos after none :: rest) (Fr l ds) w:=by
  refine wpList_plain rfl fun K hK=>?_
  unfold Oper.wp
  rw [fr_eval,hr _ rfl rfl]
  show K ((Fr l ds).put (some d) v) w'
  rw [fr_put]
  exact hK _ _ h
theorem blk_alloc (w : World) (cs : List Value) (t : TypeId) : Blk (w.alloc (.cells cs.toArray t)) w.heap.size cs t:=heap_alloc_new w _
theorem n_box {cs : List Value} (hv : (ev l x).cells = cs.toArray) (h : ∀ w' g,Ext w w' → w.heap.size ≤ g → Blk w' g cs T → wpList P ops Q rest (Fr (l.set d (.pointer (some ⟨g,0,none⟩))) ds) w') :
    wpList P ops Q (Oper.mk (some d) (.box T x) ty pos after none :: rest) (Fr l ds) w :=
  n_newW (w':=w.alloc (.cells cs.toArray T)) (v:=.pointer (some ⟨w.heap.size,0,none⟩)) (fun o ho _=>by simp [execOp,ho,ev_eq,Instr.box,newVar,newRow,hv,newObj,Sem.run]) (h _ _ ((Ext.refl w).alloc _) (Nat.le_refl _) (blk_alloc w cs T))
theorem n_alloc {cs : List Value} {z : Value} (hZ : Zero P T z) (hv : z.cells = cs.toArray) (h : ∀ w' g,Ext w w' → w.heap.size ≤ g → Blk w' g cs T → wpList P ops Q rest (Fr (l.set d (.pointer (some ⟨g,0,none⟩))) ds) w') :
    wpList P ops Q (Oper.mk (some d) (.alloc T) ty pos after none :: rest) (Fr l ds) w:=by
  obtain ⟨inf,hi,hz⟩:=hZ
  exact n_newW (w':=w.alloc (.cells cs.toArray T)) (v:=.pointer (some ⟨w.heap.size,0,none⟩)) (fun o ho _=>by simp [execOp,ho,Instr.alloc,zeroValue,typeInfo,hi,hz,newVar,newRow,hv,newObj,Sem.run]) (h _ _ ((Ext.refl w).alloc _) (Nat.le_refl _) (blk_alloc w cs T))
def over (cs : List Value) (off : Nat) (us : List Value) : List Value:=cs.take off ++ us ++ cs.drop (off + us.length)
theorem over_length {cs us : List Value} {off : Nat} (h : off + us.length ≤ cs.length) : (over cs off us).length = cs.length:=by simp [over]; omega
theorem chg_setRow (w : World) (g : Nat) (cs : Array Value) : Chg w (w.setRow g cs) g:=⟨rfl,rfl,rfl,by simp,fun k hk=>setRow_other w g k cs hk⟩
theorem run_storeVar {g off : Nat} {cs us : List Value} {t : TypeId} (hc : Cells P T us.length) (hv : v.cells = us.toArray) (hB : Blk w g cs t) (hfit : off + us.length ≤ cs.length) (h1 : ∀ u ∈ us,u.oneCell' = true) :
    (storeVar T ⟨g,off,none⟩ v).run P w = .ok () (w.setRow g (over cs off us).toArray):=by
  obtain ⟨inf,hi,hn⟩:=hc
  have hst:=run_storeCells_at P g off t us 0 cs.toArray w hB (by simpa using hfit) h1
  simp only [Nat.add_zero,List.toList_toArray] at hst
  simp [storeVar,hv,sizeOf,typeInfo,hi,hn,hst,over]
theorem n_store {g off : Nat} {cs us : List Value} {t : TypeId} (hx : ev l x = .pointer (some ⟨g,off,none⟩)) (hv : (ev l y).cells = us.toArray) (hc : Cells P T us.length) (hB : Blk w g cs t) (hfit : off + us.length ≤ cs.length) (h1 : ∀ u ∈ us,u.oneCell' = true)
    (h : ∀ w',Chg w w' g → Blk w' g (over cs off us) t → wpList P ops Q rest (Fr l ds) w') : wpList P ops Q (Oper.mk none (.store T x y) ty pos after none :: rest) (Fr l ds) w :=
  n_skipW (w':=w.setRow g (over cs off us).toArray) (fun o ho=>by simp [execOp,ho,ev_eq,hx,Instr.storeAt,Instr.sureAddr,run_storeVar hc hv hB hfit h1]) (h _ (chg_setRow w g _) (setRow_heap w g cs.toArray _ t _ hB))
/-! ### Calls -/
def Enters (P : Program) (f : FuncId) : Prop:=∃ fn,P.funcs[f]? = some fn ∧ (fn.name == "runtime.NumGoroutine") = false ∧ fn.body.isNone = false
def Does (P : Program) (f : FuncId) (args : List Value) (w : World) (R : Value → World → Prop) : Prop :=
  Enters P f ∧ Calls P f args.toArray w fun e w'=>∃ v,e = .returned v ∧ Ext w w' ∧ R v w'
def Pure (P : Program) (f : FuncId) (args : List Value) (v : Value) : Prop:=∀ w,Does P f args w fun u _=>u = v
theorem Does.mono {f : FuncId} {args : List Value} {R R' : Value → World → Prop} (h : Does P f args w R) (hr : ∀ v w',Ext w w' → R v w' → R' v w') : Does P f args w R' :=
  ⟨h.1,h.2.mono fun _ _ ⟨v,he,hE,hR⟩=>⟨v,he,hE,hr _ _ hE hR⟩⟩
theorem run_callFunc {f : FuncId} {args : Array Value} (h : Enters P f) : (callFunc f args).run P w = .ok (.enter f args) w:=by
  obtain ⟨fn,hf,hn,hb⟩:=h
  have hn' : ¬ fn.name = "runtime.NumGoroutine" := by simpa using hn
  have hb' : ¬ fn.body = none:=by intro h; rw [h] at hb; cases hb
  simp [callFunc,hf,hn',hb']
theorem run_call {f : FuncId} {fo : Operand} {xs : Array Operand} {args : List Value} {first cap : Array Value} {a0 : Array TypeId} (h : Enters P f) (hf : ev l fo = .func (.func f) first cap) (hxs : first.toList ++ xs.toList.map (ev l) ++ cap.toList = args) (o : Oper) (ho : o.op = .call { callee:=.value fo,args:=xs,argTypes:=a0 }) :
    (execOp (Fr l).eval o).run P w = .ok (.enter f args.toArray) w:=by
  have e : (Fr l).eval = ev l:=funext ev_eq
  have ea : args.toArray = first ++ xs.map (ev l) ++ cap:=by
    rw [← hxs]
    apply Array.ext'
    simp
  simp [execOp,ho,resolve,e,hf,Deferred.ofValue,invoke,run_callFunc h,ea]
theorem n_call {f : FuncId} {fo : Operand} {xs : Array Operand} {args : List Value} {first cap : Array Value} {a0 : Array TypeId} {R : Value → World → Prop} (hf : ev l fo = .func (.func f) first cap) (hxs : first.toList ++ xs.toList.map (ev l) ++ cap.toList = args) (hc : Does P f args w R)
    (h : ∀ v w',Ext w w' → R v w' → wpList P ops Q rest (Fr (l.set d v) ds) w') : wpList P ops Q (Oper.mk (some d) (.call { callee:=.value fo,args:=xs,argTypes:=a0 }) ty pos after none :: rest) (Fr l ds) w:=by
  refine wpList_plain rfl fun K hK=>?_
  unfold Oper.wp
  rw [fr_eval,run_call hc.1 hf hxs _ rfl]
  refine hc.2.mono ?_
  rintro e w' ⟨v,rfl,hE,hR⟩
  show K ((Fr l ds).put (some d) v) w'
  rw [fr_put]
  exact hK _ _ (h v w' hE hR)
theorem n_callP {f : FuncId} {fo : Operand} {xs : Array Operand} {args : List Value} {first cap : Array Value} {a0 : Array TypeId} (hf : ev l fo = .func (.func f) first cap) (hxs : first.toList ++ xs.toList.map (ev l) ++ cap.toList = args) (hc : Pure P f args v)
    (h : ∀ w',Ext w w' → wpList P ops Q rest (Fr (l.set d v) ds) w') : wpList P ops Q (Oper.mk (some d) (.call { callee:=.value fo,args:=xs,argTypes:=a0 }) ty pos after none :: rest) (Fr l ds) w :=
  n_call hf hxs (hc w) fun _ w' hE hR=>hR ▸ h w' hE
end
section
variable {x y : Operand} {T T' ty : TypeId} {w : World}
variable {ops : Array Oper} {Q : Act → Prop} {rest : List Oper} {d : Nat} {op : Op} {pos : String} {after : Array Edge} {v : Value}
theorem q_load {a : Addr} (hx : ev l x = .pointer (some a)) (hv : ∀ w',Ext w w' → Lies P w' T a v) (h : wpQuiet P ops (Ext w) Q rest (Fr (l.set d v) ds)) : wpQuiet P ops (Ext w) Q (Oper.mk (some d) (.load T x) ty pos after none :: rest) (Fr l ds) :=
  q_valW (fun _ hE=>r_load hx (hv _ hE)) h
theorem q_callW {f : FuncId} {fo : Operand} {xs : Array Operand} {args : List Value} {first cap : Array Value} {a0 : Array TypeId} (hf : ev l fo = .func (.func f) first cap) (hxs : first.toList ++ xs.toList.map (ev l) ++ cap.toList = args) (hc : ∀ w',Ext w w' → Does P f args w' fun u _=>u = v)
    (h : wpQuiet P ops (Ext w) Q rest (Fr (l.set d v) ds)) : wpQuiet P ops (Ext w) Q (Oper.mk (some d) (.call { callee:=.value fo,args:=xs,argTypes:=a0 }) ty pos after none :: rest) (Fr l ds):=by
  refine wpQuiet_step fun K hK=>?_
  rw [if_pos (by simp [Region.wanted])]
  refine ⟨v,fun w' hw=>?_,?_⟩
  · unfold Oper.quietAt
    rw [fr_eval,run_call (hc w' hw).1 hf hxs _ rfl]
    refine ⟨rfl,(hc w' hw).2.mono ?_⟩
    rintro e w'' ⟨u,rfl,hE,rfl⟩
    exact ⟨rfl,hw.trans hE⟩
  · show K ((Fr l ds).put (some d) v)
    rw [fr_put]
    exact hK _ h
theorem q_callP {f : FuncId} {fo : Operand} {xs : Array Operand} {args : List Value} {first cap : Array Value} {a0 : Array TypeId} (hf : ev l fo = .func (.func f) first cap) (hxs : first.toList ++ xs.toList.map (ev l) ++ cap.toList = args) (hc : Pure P f args v)
    (h : wpQuiet P ops (Ext w) Q rest (Fr (l.set d v) ds)) : wpQuiet P ops (Ext w) Q (Oper.mk (some d) (.call { callee:=.value fo,args:=xs,argTypes:=a0 }) ty pos after none :: rest) (Fr l ds) :=
  q_callW hf hxs (fun w' _=>hc w') h
end
/-! ### Code -/
section
variable {Q : Exit → Act → World → Prop} {w : World} {c c1 c2 : Code}
theorem c_seq {a : Act} (h : ∀ K : Act → World → Prop,(∀ a w,c2.wp P Q a w → K a w) → c1.wp P (Exit.then K Q) a w) : (Code.seq c1 c2).wp P Q a w:=wp_seq_k h
theorem c_cond {x : Operand} {b : Bool} (hx : ev l x = .bool b) (ht : b = true → c1.wp P Q (Fr l ds) w) (hf : b = false → c2.wp P Q (Fr l ds) w) : (Code.cond x c1 c2).wp P Q (Fr l ds) w :=
  wp_cond_split (by rw [fr_eval,ev_eq]; exact hx) ht hf
theorem c_if {x : Operand} {p : Prop} [Decidable p] (hx : ev l x = .bool (decide p)) (ht : p → c1.wp P Q (Fr l ds) w) (hf : ¬ p → c2.wp P Q (Fr l ds) w) : (Code.cond x c1 c2).wp P Q (Fr l ds) w :=
  c_cond hx (fun h=>ht (of_decide_eq_true h)) (fun h=>hf (of_decide_eq_false h))
theorem c_yes {x : Operand} (hx : ev l x = .bool true) (ht : c1.wp P Q (Fr l ds) w) : (Code.cond x c1 c2).wp P Q (Fr l ds) w:=c_cond hx (fun _=>ht) (fun h=>by cases h)
theorem c_no {x : Operand} (hx : ev l x = .bool false) (hf : c2.wp P Q (Fr l ds) w) : (Code.cond x c1 c2).wp P Q (Fr l ds) w:=c_cond hx (fun h=>by cases h) (fun _=>hf)
def Res (P : Program) (l : List Value) (w : World) : ResultVar → Value → Prop
  | .tmp t,v=>l.getD t undef = v
  | .cell t T,v=>∃ a,l.getD t undef = .pointer (some a) ∧ Lies P w T a v
theorem res_cases {r : ResultVar} {v : Value} (h : Res P l w r v) : (∃ t,r = .tmp t ∧ l[t]?.getD undef = v) ∨ (∃ t T a,r = .cell t T ∧ l[t]?.getD undef = .pointer (some a) ∧ (loadVar T a).run P w = .ok v w):=by
  cases r with
  | tmp t=>exact .inl ⟨t,rfl,by simpa [Res] using h⟩
  | cell t T =>
    obtain ⟨a,ha,hl⟩:=h
    exact .inr ⟨t,T,a,rfl,by simpa using ha,hl⟩
theorem fin1 {fn : Func} {R : Ending → World → Prop} {r : ResultVar} {v : Value} (hr : fn.results = #[r]) (h : Res P l w r v) (hR : R (.returned v) w) : bodyPost P fn R .ret (Fr l) w:=by
  refine ⟨rfl,v,?_,hR⟩
  unfold results
  rw [hr]
  rcases res_cases h with ⟨t,rfl,h1⟩ | ⟨t,T,a,rfl,h1,h2⟩ <;> simp [*,asAddr]
theorem fin2 {fn : Func} {R : Ending → World → Prop} {r r' : ResultVar} {v v' : Value} (hr : fn.results = #[r,r']) (h : Res P l w r v) (h' : Res P l w r' v') (hR : R (.returned (.tuple #[v,v'])) w) : bodyPost P fn R .ret (Fr l) w:=by
  refine ⟨rfl,_,?_,hR⟩
  unfold results
  rw [hr]
  rcases res_cases h with ⟨t,rfl,h1⟩ | ⟨t,T,a,rfl,h1,h2⟩ <;> rcases res_cases h' with ⟨t',rfl,h1'⟩ | ⟨t',T',a',rfl,h1',h2'⟩ <;> simp [*,asAddr]
theorem fin3 {fn : Func} {R : Ending → World → Prop} {r r' r'' : ResultVar} {v v' v'' : Value} (hr : fn.results = #[r,r',r'']) (h : Res P l w r v) (h' : Res P l w r' v') (h'' : Res P l w r'' v'') (hR : R (.returned (.tuple #[v,v',v''])) w) : bodyPost P fn R .ret (Fr l) w:=by
  refine ⟨rfl,_,?_,hR⟩
  unfold results
  rw [hr]
  rcases res_cases h with ⟨t,rfl,h1⟩ | ⟨t,T,a,rfl,h1,h2⟩ <;> rcases res_cases h' with ⟨t',rfl,h1'⟩ | ⟨t',T',a',rfl,h1',h2'⟩ <;> rcases res_cases h'' with ⟨t'',rfl,h1''⟩ | ⟨t'',T'',a'',rfl,h1'',h2''⟩ <;> simp [*,asAddr]
end
end
/-! ### Numbers,loops,further values -/
theorem wrap_i64 {x : Int} (h0 : -9223372036854775808 ≤ x) (h1 : x < 9223372036854775808) : IntKind.i64.wrap x = x:=by
  simp [IntKind.wrap,IntKind.bits,IntKind.signed]
  split <;> omega
theorem wrap_u64 {x : Int} (h0 : 0 ≤ x) (h1 : x < 18446744073709551616) : IntKind.u64.wrap x = x:=by
  simp [IntKind.wrap,IntKind.bits,IntKind.signed]
  omega
theorem wrap_u8 {x : Int} (h0 : 0 ≤ x) (h1 : x < 256) : IntKind.u8.wrap x = x:=by
  simp [IntKind.wrap,IntKind.bits,IntKind.signed]
  omega
def setMany : List Value → List Nat → List Value → List Value
  | l,t :: ts,v :: vs=>setMany (l.set t v) ts vs
  | l,_,_=>l
theorem setMany_cons {l : List Value} {t : Nat} {ts : List Nat} {v : Value} {vs : List Value} : setMany l (t :: ts) (v :: vs) = setMany (l.set t v) ts vs:=rfl
theorem setMany_nil {l : List Value} {vs : List Value} : setMany l [] vs = l:=by cases vs <;> rfl
theorem set_getD {l : List Value} {t : Nat} : l.set t (l.getD t undef) = l:=by
  apply List.ext_getElem?
  intro i
  rw [List.getElem?_set]
  split
  · rename_i h; subst h
    split
    · rename_i h; simp [h]
    · rename_i h; simp at h; simp [h]
  · rfl
theorem setMany_same : ∀ (ts : List Nat) (l : List Value),setMany l ts (ts.map (l.getD · undef)) = l
  | [],l=>setMany_nil
  | t :: ts,l=>by
    simp only [List.map_cons,setMany_cons,set_getD]
    exact setMany_same ts l
theorem exists_least {p : Nat → Prop} (h : ∃ n,p n) : ∃ n,p n ∧ ∀ m,p m → n ≤ m:=by
  obtain ⟨n,hn⟩:=h
  induction n using Nat.strongRecOn with
  | _ n ih =>
    by_cases hx : ∃ m,m < n ∧ p m
    · obtain ⟨m,hm,hp⟩:=hx; exact ih m hm hp
    · exact ⟨n,hn,fun m hm=>Nat.le_of_not_lt fun hlt=>hx ⟨m,hlt,hm⟩⟩
noncomputable def leastN (p : Nat → Prop) (h : ∃ n,p n) : Nat:=(exists_least h).choose
theorem leastN_spec {p : Nat → Prop} (h : ∃ n,p n) : p (leastN p h):=(exists_least h).choose_spec.1
theorem leastN_le {p : Nat → Prop} (h : ∃ n,p n) {m : Nat} (hm : p m) : leastN p h ≤ m:=(exists_least h).choose_spec.2 m hm
section
variable {P : Program} {ds : List Deferred} {l : List Value}
end
/-! ### Parts of values,slices,new slices -/
section
variable {P : Program} {ds : List Deferred} {l : List Value} {x y : Operand} {T T' ty : TypeId} {k : IntKind} {m n r : Int}
theorem agg_run {b : Bool} (h : IsAgg P T b) (w : World) : (isAgg T).run P w = .ok b w:=by
  obtain ⟨dd,hu,hd⟩:=h
  unfold isAgg
  rw [Sem.run_bind,run_underlying hu w]
  cases dd <;> simp_all [aggDesc]
theorem size_run {c : Nat} (h : Cells P T c) (w : World) : (sizeOf T).run P w = .ok c w:=by
  obtain ⟨inf,hi,rfl⟩:=h
  simp [sizeOf,typeInfo,hi]
theorem agg_cells (cs : Array Value) : (Value.agg cs).cells = cs:=rfl
theorem r_build {parts : Array (Nat × Operand)} {vs : Array (Nat × Value)} {v : Value} (hp : (parts.map fun (i,x)=>(i,ev l x)) = vs) (h : ∀ w,(Instr.build T vs).run P w = .ok v w) : Run P l (.build T parts) ty v:=fun w o ho _=>by
  have e : (Fr l).eval = ev l:=funext ev_eq
  subst hp
  simp only [execOp,ho,e]
  rw [Sem.run_bind,h w]
  rfl
theorem run_build_struct {fs : Array Field} {places : Array (Nat × Nat)} {z : Value} {cells : Array Value} {vs : Array (Nat × Value)} (hu : P.underlying T = some (.struct fs)) (hz : Zero P T z)
    (hpl : ∀ w,(fs.mapM fun f=>do pure (f.offset,← sizeOf f.type) : Sem (Array (Nat × Nat))).run P w = .ok places w) (hf : Instr.fill (places[·]?) z.cells vs.toList = some cells) (w : World) : (Instr.build T vs).run P w = .ok (.agg cells) w:=by
  obtain ⟨inf,hi,h0⟩:=hz
  simp only [Instr.build,zeroValue,typeInfo]
  simp [hi,h0,run_underlying hu]
  have:=hpl w
  simp at this
  simp [this,hf]
theorem run_build_array {E : TypeId} {n c : Nat} {z : Value} {cells : Array Value} {vs : Array (Nat × Value)} (hu : P.underlying T = some (.array n E)) (hz : Zero P T z) (hc : Cells P E c)
    (hf : Instr.fill (fun i=>some (i * c,c)) z.cells vs.toList = some cells) (w : World) : (Instr.build T vs).run P w = .ok (.agg cells) w:=by
  obtain ⟨inf,hi,h0⟩:=hz
  simp only [Instr.build,zeroValue,typeInfo]
  simp [hi,h0,run_underlying hu,size_run hc,hf]
theorem r_index1 {E : TypeId} {len c : Nat} {cs : Array Value} {v : Value} (hu : P.underlying T = some (.array len E)) (hA : IsAgg P E false) (hc : Cells P E c) (hx : ev l x = .agg cs) (hy : ev l y = .int k m) (h0 : 0 ≤ m) (h1 : m < len) (hv : cs[m.toNat * c]? = some v) :
    Run P l (.index T x y) ty v:=fun w o ho _=>by
  simp [execOp,ho,ev_eq,hx,hy,Instr.index,asIntOf,run_underlying hu,h0,h1,part,agg_run hA,size_run hc,hv]
theorem r_indexA {E : TypeId} {len c : Nat} {cs us : Array Value} (hu : P.underlying T = some (.array len E)) (hA : IsAgg P E true) (hc : Cells P E c) (hx : ev l x = .agg cs) (hy : ev l y = .int k m) (h0 : 0 ≤ m) (h1 : m < len) (hv : cs.extract (m.toNat * c) (m.toNat * c + c) = us) :
    Run P l (.index T x y) ty (.agg us):=fun w o ho _=>by
  subst hv
  simp [execOp,ho,ev_eq,hx,hy,Instr.index,asIntOf,run_underlying hu,h0,h1,part,agg_run hA,size_run hc]
theorem r_indexStr {s : ByteArray} {b : UInt8} (hu : P.underlying T = some .string) (hx : ev l x = .string s) (hy : ev l y = .int k m) (h0 : 0 ≤ m) (hb : s[m.toNat]? = some b) :
    Run P l (.index T x y) ty (.int .u8 b.toNat):=fun w o ho _=>by
  simp [execOp,ho,ev_eq,hx,hy,Instr.index,asIntOf,run_underlying hu,h0,hb]
theorem r_sliceHi {E : TypeId} {A : Option Addr} {len cap c : Nat} (hu : P.underlying T = some (.slice E)) (hc : Cells P E c) {q : Nat} (hx : ev l x = .slice A len cap) (hy : ev l y = .int k m) (hq : m.toNat = q) (h0 : 0 ≤ m) (h1 : m ≤ cap) :
    Run P l (.slice T x none (some y) none) ty (.slice A q cap):=fun w o ho _=>by
  subst hq
  have e : (if cap = 0 then A else Option.map (fun a=>a.add 0) A) = A:=by
    split
    · rfl
    · cases A <;> simp [Addr.add]
  have h1' : ¬ (m.toNat : Int) > cap:=by omega
  simp [execOp,ho,ev_eq,hx,hy,Instr.sliceAt,Instr.slice,Instr.sliceBounds,Instr.sliceBound,asIntOf,run_underlying hu,h0,h1,size_run hc]
  intro _
  cases A <;> simp [Addr.add]
theorem r_sliceLo {E : TypeId} {A A' : Option Addr} {len cap c : Nat} (hu : P.underlying T = some (.slice E)) (hc : Cells P E c) {q : Nat} (hx : ev l x = .slice A len cap) (hy : ev l y = .int k m) (hq : m.toNat = q) (h0 : 0 ≤ m) (h1 : m ≤ len) (hA : (if cap = q then A else A.map (·.add (q * c))) = A') :
    Run P l (.slice T x (some y) none none) ty (.slice A' (len - q) (cap - q)):=fun w o ho _=>by
  subst hq
  subst hA
  simp [execOp,ho,ev_eq,hx,hy,Instr.sliceAt,Instr.slice,Instr.sliceBounds,Instr.sliceBound,asIntOf,run_underlying hu,h0,h1,size_run hc]
theorem r_substr {s : ByteArray} (hu : P.underlying T = some .string) (hx : ev l x = .string s) (hy : ev l y = .int k m) (h0 : 0 ≤ m) (h1 : m ≤ s.size) :
    Run P l (.slice T x (some y) none none) ty (.string (s.extract m.toNat s.size)):=fun w o ho _=>by
  simp [execOp,ho,ev_eq,hx,hy,Instr.sliceAt,Instr.slice,Instr.sliceBounds,Instr.sliceBound,asIntOf,run_underlying hu,h0,h1]
variable {ops : Array Oper} {Q : Exit → Act → World → Prop} {rest : List Oper} {d : Nat} {pos : String} {after : Array Edge} {w : World}
theorem n_make1 {E : TypeId} {b : Nat} {kc : IntKind} {z : Value} (hu : P.underlying T = some (.slice E)) (hi : (P.info? E).map (fun i=>(i.size,i.bytes,i.zero)) = some (1,b,some z)) (hzc : z.cells = #[z]) {q q' : Nat} (hx : ev l x = .int k m) (hy : ev l y = .int kc n) (hq : m.toNat = q) (hq' : n.toNat = q') (h0 : 0 ≤ m) (h1 : m ≤ n) (hn : n ≤ 9223372036854775807) (hb : (b : Int) * n ≤ 281474976710656)
    (h : ∀ w' g,Ext w w' → w.heap.size ≤ g → Blk w' g (List.replicate q' z) E → wpList P ops Q rest (Fr (l.set d (.slice (some ⟨g,0,none⟩) q q')) ds) w') :
    wpList P ops Q (Oper.mk (some d) (.makeSlice T x y) ty pos after none :: rest) (Fr l ds) w:=by
  subst hq
  subst hq'
  cases hq : P.info? E with
  | none=>rw [hq] at hi; cases hi
  | some i =>
    rw [hq] at hi
    simp only [Option.map_some,Option.some.injEq,Prod.mk.injEq] at hi
    obtain ⟨e1,e2,e3⟩:=hi
    subst e2
    have hr:=run_make (P:=P) w T E i z hu hq e3 k kc m n h0 h1 hb hn
    have hc : madeCells z.cells (n.toNat * i.size) = (List.replicate n.toNat z).toArray:=by
      rw [e1,hzc,Nat.mul_one]
      apply Array.ext'
      rw [toList_madeCells_one]
    rw [hc] at hr
    exact n_newW (fun o ho _=>by simp [execOp,ho,ev_eq,hx,hy,hr]) (h _ _ ((Ext.refl w).alloc _) (Nat.le_refl _) (blk_alloc w _ E))
def Owns (w : World) (base : Nat) (e : TypeId) (size : Nat) (v : Value) (n : Nat) (xs : List Value) : Prop:=w.ownsRow base e size v n xs
structure Grew (w w' : World) (base : Nat) : Prop where
  os : w'.os = w.os
  tape : w'.tape = w.tape
  output : w'.output = w.output
  size : w.heap.size ≤ w'.heap.size
  block : ∀ k,k < base → w'.heap[k]? = w.heap[k]?
theorem Owns.nil (w : World) (base : Nat) (e : TypeId) (size : Nat) : Owns w base e size (.slice none 0 0) 0 []:=World.ownsRow_nil w base e size
theorem Grew.refl (w : World) (base : Nat) : Grew w w base:=⟨rfl,rfl,rfl,Nat.le_refl _,fun _ _=>rfl⟩
theorem Grew.trans {w w' w'' : World} {base : Nat} (h : Grew w w' base) (k : Grew w' w'' base) : Grew w w'' base:=⟨k.os.trans h.os,k.tape.trans h.tape,k.output.trans h.output,Nat.le_trans h.size k.size,fun i hi=>(k.block i hi).trans (h.block i hi)⟩
theorem Ext.grew {w w' : World} (h : Ext w w') {base : Nat} (hb : base ≤ w.heap.size) : Grew w w' base:=⟨h.os,h.tape,h.output,h.size,fun k hk=>Below.block h k (by omega)⟩
theorem Chg.grew {w w' : World} {g base : Nat} (h : Chg w w' g) (hb : base ≤ g) : Grew w w' base:=⟨h.os,h.tape,h.output,by rw [h.size]; exact Nat.le_refl _,fun k hk=>h.block k (by omega)⟩
theorem Blk.grew {w w' : World} {g base : Nat} {cs : List Value} {t : TypeId} (h : Blk w g cs t) (hG : Grew w w' base) (hg : g < base) : Blk w' g cs t:=(hG.block g hg).trans h
theorem Ext.grown {w0 w w' : World} {base : Nat} (h : Ext w0 w) (hG : Grew w w' base) (hb : w0.heap.size ≤ base) : Ext w0 w' :=
  ⟨hG.os.trans h.os,hG.tape.trans h.tape,hG.output.trans h.output,Nat.le_trans h.size hG.size,fun k hk=>(hG.block k (by omega)).trans (Below.block h k hk)⟩
theorem Grew.ext {w w' : World} {base : Nat} (h : Grew w w' base) (hb : w.heap.size ≤ base) : Ext w w':=⟨h.os,h.tape,h.output,h.size,fun k hk=>h.block k (by omega)⟩
theorem Grew.mono {w w' : World} {base b : Nat} (h : Grew w w' base) (hb : b ≤ base) : Grew w w' b:=⟨h.os,h.tape,h.output,h.size,fun k hk=>h.block k (by omega)⟩
theorem owns_below {w : World} {base : Nat} {e : TypeId} {size : Nat} {v : Value} {n : Nat} {xs : List Value} (h : w.ownsRow base e size v n xs) {w' : World} (hg : w.grownBy w' v.ownBlock) (hb : base ≤ w.heap.size) : Grew w w' base:=by
  refine ⟨hg.os,hg.tape,hg.output,hg.size,fun k hk=>hg.block k (by omega) fun hc=>?_⟩
  rcases h.2 with ⟨rfl,_⟩ | ⟨g,cap,cur,rfl,hbg,_⟩
  · cases hc
  · simp [Value.ownBlock] at hc
    omega
theorem Owns.ext {w w' : World} {base : Nat} {e : TypeId} {size : Nat} {v : Value} {n : Nat} {xs : List Value} (h : Owns w base e size v n xs) (hE : Ext w w') : Owns w' base e size v n xs:=by
  refine ⟨h.1,?_⟩
  rcases h.2 with h | ⟨g,cap,cur,rfl,hbg,hg,h1,h2,h3,h4⟩
  · exact .inl h
  · exact .inr ⟨g,cap,cur,rfl,hbg,hE.block hg,h1,h2,h3,h4⟩
theorem Owns.row {w : World} {base : Nat} {e : TypeId} {size : Nat} {v : Value} {n : Nat} {xs : List Value} (h : Owns w base e size v n xs) : (v = .slice none 0 0 ∧ n = 0 ∧ xs = []) ∨ ∃ g cap,v = .slice (some ⟨g,0,none⟩) n cap ∧ base ≤ g ∧ n ≤ cap ∧ cap ≤ maxLen ∧ g < w.heap.size ∧ Row w ⟨g,0,none⟩ xs:=by
  rcases h.2 with ⟨rfl,rfl⟩ | ⟨g,cap,cur,rfl,hbg,hg,h1,h2,h3,h4⟩
  · exact .inl ⟨rfl,rfl,List.eq_nil_of_length_eq_zero (by simpa using h.1)⟩
  · refine .inr ⟨g,cap,rfl,hbg,h1,h2,(Array.getElem?_eq_some_iff.1 hg).1,fun j u hj=>?_⟩
    rw [addr_add_mk,Nat.zero_add,cell_of_row w g j cur e (0,0) hg]
    rw [← h4,List.getElem?_take] at hj
    split at hj
    · simpa using hj
    · cases hj
theorem n_append {s0 x0 : Operand} {base c b nn mm cap : Nat} {E : TypeId} {z v : Value} {xs news : List Value} {ad : Addr} {a0 : Array TypeId} (ha : a0 = #[T,T]) (hu : P.underlying T = some (.slice E)) (hi : (P.info? E).map (fun i=>(i.size,i.bytes,i.zero)) = some (c,b,some z)) (hz : z.cells.size = c) (hc : 0 < c)
    (hs : ev l s0 = v) (hown : Owns w base E c v nn xs) (hx : ev l x0 = .slice (some ad) mm cap) (hl : news.length = mm * c) (hrow : Row w ad news) (h1 : ∀ u ∈ news,u.oneCell' = true) (h63 : nn + mm ≤ 9223372036854775807) (hbytes : (nn + mm) * b ≤ 140737488355328) (hbase : base ≤ w.heap.size)
    (h : ∀ v' w',Owns w' base E c v' (nn + mm) (xs ++ news) → Grew w w' base → (v' = .slice none 0 0 ↔ v = .slice none 0 0 ∧ mm = 0) → wpList P ops Q rest (Fr (l.set d v') ds) w') :
    wpList P ops Q (Oper.mk (some d) (.call { callee:=.builtin .append,args:=#[s0,x0],argTypes:=a0 }) ty pos after none :: rest) (Fr l ds) w:=by
  subst ha
  cases hq : P.info? E with
  | none=>rw [hq] at hi; cases hi
  | some i =>
    rw [hq] at hi
    simp only [Option.map_some,Option.some.injEq,Prod.mk.injEq] at hi
    obtain ⟨e1,e2,e3⟩:=hi
    refine wpList_append_own w rfl s0 x0 T rfl base E i z c b hu hq e3 e1 e2 hz hc v nn xs (by rw [fr_eval,ev_eq]; exact hs) hown ad mm cap news (by rw [fr_eval,ev_eq]; exact hx) hl hrow h1 (by simpa [maxLen] using h63) hbytes hbase ?_
    intro v' w' ho hg hn
    show wpList P ops Q rest ((Fr l ds).put (some d) v') w'
    rw [fr_put]
    exact h v' w' ho (owns_below hown hg hbase) hn
end
section
variable {P : Program} {ds : List Deferred} {l : List Value} {x y : Operand} {T T' ty : TypeId} {k : IntKind} {m n r : Int}
theorem r_lssT (hx : ev l x = .int k m) (hy : ev l y = .int k n) (h : m < n) : Run P l (.binOp .lss T x y T') ty (.bool true):=by
  have:=r_lss (P:=P) (T:=T) (T':=T') (ty:=ty) hx hy
  rwa [decide_eq_true h] at this
theorem r_lssF (hx : ev l x = .int k m) (hy : ev l y = .int k n) (h : ¬ m < n) : Run P l (.binOp .lss T x y T') ty (.bool false):=by
  have:=r_lss (P:=P) (T:=T) (T':=T') (ty:=ty) hx hy
  rwa [decide_eq_false h] at this
theorem r_leqT (hx : ev l x = .int k m) (hy : ev l y = .int k n) (h : m ≤ n) : Run P l (.binOp .leq T x y T') ty (.bool true):=by
  have:=r_leq (P:=P) (T:=T) (T':=T') (ty:=ty) hx hy
  rwa [decide_eq_true h] at this
theorem r_leqF (hx : ev l x = .int k m) (hy : ev l y = .int k n) (h : ¬ m ≤ n) : Run P l (.binOp .leq T x y T') ty (.bool false):=by
  have:=r_leq (P:=P) (T:=T) (T':=T') (ty:=ty) hx hy
  rwa [decide_eq_false h] at this
theorem r_gtrT (hx : ev l x = .int k m) (hy : ev l y = .int k n) (h : n < m) : Run P l (.binOp .gtr T x y T') ty (.bool true):=by
  have:=r_gtr (P:=P) (T:=T) (T':=T') (ty:=ty) hx hy
  rwa [decide_eq_true h] at this
theorem r_gtrF (hx : ev l x = .int k m) (hy : ev l y = .int k n) (h : ¬ n < m) : Run P l (.binOp .gtr T x y T') ty (.bool false):=by
  have:=r_gtr (P:=P) (T:=T) (T':=T') (ty:=ty) hx hy
  rwa [decide_eq_false h] at this
theorem r_geqT (hx : ev l x = .int k m) (hy : ev l y = .int k n) (h : n ≤ m) : Run P l (.binOp .geq T x y T') ty (.bool true):=by
  have:=r_geq (P:=P) (T:=T) (T':=T') (ty:=ty) hx hy
  rwa [decide_eq_true h] at this
theorem r_eqlT (hx : ev l x = .int k m) (hy : ev l y = .int k n) (h : m = n) : Run P l (.binOp .eql T x y T') ty (.bool true):=by
  have:=r_eql (P:=P) (T:=T) (T':=T') (ty:=ty) hx hy
  rwa [decide_eq_true h] at this
theorem r_eqlF (hx : ev l x = .int k m) (hy : ev l y = .int k n) (h : ¬ m = n) : Run P l (.binOp .eql T x y T') ty (.bool false):=by
  have:=r_eql (P:=P) (T:=T) (T':=T') (ty:=ty) hx hy
  rwa [decide_eq_false h] at this
theorem r_neqT (hx : ev l x = .int k m) (hy : ev l y = .int k n) (h : m ≠ n) : Run P l (.binOp .neq T x y T') ty (.bool true):=by
  have:=r_neq (P:=P) (T:=T) (T':=T') (ty:=ty) hx hy
  rwa [decide_eq_true h] at this
theorem r_neqF (hx : ev l x = .int k m) (hy : ev l y = .int k n) (h : ¬ m ≠ n) : Run P l (.binOp .neq T x y T') ty (.bool false):=by
  have:=r_neq (P:=P) (T:=T) (T':=T') (ty:=ty) hx hy
  rwa [decide_eq_false h] at this
theorem r_pickT {c : Operand} (hc : ev l c = .bool true) : Run P l (.pick c x y) ty (ev l x):=r_pick hc
theorem r_pickF {c : Operand} (hc : ev l c = .bool false) : Run P l (.pick c x y) ty (ev l y):=r_pick hc
theorem r_as {op : Op} {v u : Value} (h : Run P l op ty v) (e : v = u) : Run P l op ty u:=e ▸ h
theorem bool_as {b c : Bool} (h : b = c) : Value.bool b = Value.bool c:=by rw [h]
end
def setG : List Value → List Nat → (Nat → Value) → List Value
  | l,t :: ts,g=>setG (l.set t (g t)) ts g
  | l,[],_=>l
theorem setG_cons {l : List Value} {t : Nat} {ts : List Nat} {g : Nat → Value} : setG l (t :: ts) g = setG (l.set t (g t)) ts g:=rfl
theorem setG_nil {l : List Value} {g : Nat → Value} : setG l [] g = l:=rfl
theorem setG_same : ∀ (ts : List Nat) (l : List Value),setG l ts (l.getD · undef) = l:=by
  intro ts
  have key : ∀ (ts : List Nat) (l : List Value) (g : Nat → Value),(∀ t,l.set t (g t) = l) → setG l ts g = l:=by
    intro ts
    induction ts with
    | nil=>intro l g _; rfl
    | cons t ts ih=>intro l g h; rw [setG_cons,h t]; exact ih l g h
  exact fun l=>key ts l _ fun t=>set_getD
section
variable {P : Program} {ds : List Deferred} {l : List Value}
theorem c_loopg {c : Code} {Q : Exit → Act → World → Prop} {w : World} (ts ss : List Nat) (I : Nat → List Value → World → Prop) (h0 : ∃ n,I n (ts.map (l.getD · undef)) w)
    (hr : ∀ n vs w,I n vs w → ∀ g : Nat → Value,c.wp P (Exit.then (fun a' w'=>∃ n' l',n' < n ∧ a' = Fr l' ∧ setG (setMany l ts (ts.map (l'.getD · undef))) ss (l'.getD · undef) = l' ∧ I n' (ts.map (l'.getD · undef)) w') Q) (Fr (setG (setMany l ts vs) ss g)) w) : (Code.loop c).wp P Q (Fr l) w:=by
  obtain ⟨n0,h0⟩:=h0
  let J : Nat → Act → World → Prop:=fun n a w=>∃ vs g,a = Fr (setG (setMany l ts vs) ss g) ∧ I n vs w
  have hJ0 : ∃ n,J n (Fr l) w:=⟨n0,_,(l.getD · undef),by rw [setMany_same,setG_same],h0⟩
  let μ : Act → World → Nat:=fun a w=>@dite _ (∃ n,J n a w) (Classical.propDecidable _) (fun h=>leastN (fun n=>J n a w) h) (fun _=>0)
  refine wp_loop (fun a w=>∃ n,J n a w) μ hJ0 ?_
  intro a w hI
  obtain ⟨vs,g,rfl,hIv⟩:=leastN_spec hI
  refine Code.wp_mono ?_ (hr _ vs w hIv g)
  intro e a' w' hq
  cases e with
  | normal =>
    obtain ⟨n',l',hlt,rfl,he,hI'⟩:=hq
    have hJ : J n' (Fr l') w':=⟨_,(l'.getD · undef),by rw [he],hI'⟩
    refine ⟨⟨n',hJ⟩,?_⟩
    have e1 : μ (Fr l') w' = leastN (fun n=>J n (Fr l') w') ⟨n',hJ⟩:=by simp only [μ]; rw [dif_pos ⟨n',hJ⟩]
    have e2 : μ (Fr (setG (setMany l ts vs) ss g)) w = leastN (fun n=>J n (Fr (setG (setMany l ts vs) ss g)) w) hI:=by simp only [μ]; rw [dif_pos hI]
    rw [e1,e2]
    exact Nat.lt_of_le_of_lt (leastN_le _ hJ) hlt
  | exit id=>exact hq
  | goto id=>exact hq
  | ret=>exact hq
  | panic ch=>exact hq
  | outgrown=>exact hq
end
section
variable {P : Program} {ds : List Deferred} {l : List Value} {ops : Array Oper} {Q : Exit → Act → World → Prop} {w : World} {rest : List (Oper × Bool)} {d : Nat} {op : Op} {ty : TypeId} {pos : String} {after : Array Edge} {v : Value}
theorem m_val (hr : Run P l op ty v) (h : wpMix P ops Q rest (Fr (l.set d v) ds) w) : wpMix P ops Q ((Oper.mk (some d) op ty pos after none,true) :: rest) (Fr l ds) w:=by
  refine ⟨v,.inl ⟨by simp [Region.wanted],fun w=>hr w _ rfl rfl⟩,?_⟩
  show wpMix P ops Q rest ((Fr l ds).put (some d) v) w
  rw [fr_put]
  exact h
theorem m_nil (h : Q .normal (Fr l ds) w) : wpMix P ops Q [] (Fr l ds) w:=h
theorem m_step {o : Oper} (h : wpList P ops (Exit.then (wpMix P ops Q rest) Q) [o] (Fr l ds) w) : wpMix P ops Q ((o,false) :: rest) (Fr l ds) w:=h
theorem panic_put {Q : Exit → Act → World → Prop} (h : ∀ c (t : Array Value) ds (t' : Array Value) w,Q (.panic c) { tmps:=t,defers:=ds } w → Q (.panic c) { tmps:=t',defers:=ds } w) : ∀ c d v a w,Q (.panic c) (Act.put a d v) w → Q (.panic c) a w:=by
  intro c d v a w hq
  cases d with
  | none=>exact hq
  | some d=>exact h c _ _ _ w hq
end
end Go.Lith
namespace Go.Lith
open Go.RowKit
/-! ### Names that are short -/
theorem zA {l : List Value} (t : Nat) : ev l (.tmp t) = l.getD t undef:=rfl
theorem zB {l : List Value} (v : Value) : ev l (.const v) = v:=rfl
theorem zC {l : List Value} (f : Nat) : ev l (.func f) = .func (.func f) #[] #[]:=rfl
theorem zD {α : Type} {x : α} {xs : List α} {n : Nat} {d : α} : (x :: xs).getD (n + 1) d = xs.getD n d:=rfl
theorem zE {α : Type} {x : α} {xs : List α} {d : α} : (x :: xs).getD 0 d = x:=rfl
theorem zF {α : Type} {x : α} {xs : List α} {n : Nat} {a : α} : (x :: xs).set (n + 1) a = x :: xs.set n a:=rfl
theorem zG {α : Type} {x : α} {xs : List α} {a : α} : (x :: xs).set 0 a = a :: xs:=rfl
theorem zH {α : Type} {x : α} {xs : List α} {n : Nat} : (x :: xs).take (n + 1) = x :: xs.take n:=rfl
theorem zI {α : Type} {xs : List α} : xs.take 0 = []:=List.take_zero
theorem zJ {α : Type} {x : α} {xs : List α} {n : Nat} : (x :: xs).drop (n + 1) = xs.drop n:=rfl
theorem zK {α : Type} {xs : List α} : xs.drop 0 = xs:=rfl
theorem zL {α : Type} {x : α} {xs ys : List α} : (x :: xs) ++ ys = x :: (xs ++ ys):=rfl
theorem zM {α : Type} {ys : List α} : [] ++ ys = ys:=rfl
theorem zN {α : Type} {ys : List α} : ys ++ [] = ys:=List.append_nil ys
theorem zO {α : Type} {x : α} {xs : List α} : (x :: xs).length = xs.length + 1:=rfl
theorem zP {α : Type} : ([] : List α).length = 0:=rfl
theorem zQ {α β : Type} {f : α → β} {x : α} {xs : List α} : (x :: xs).map f = f x :: xs.map f:=rfl
theorem zR {α β : Type} {f : α → β} : ([] : List α).map f = []:=rfl
theorem zS {α : Type} {l : List α} {i : Nat} : l.toArray[i]? = l[i]?:=List.getElem?_toArray
theorem zT {α : Type} {x : α} {xs : List α} {n : Nat} : (x :: xs)[n + 1]? = xs[n]?:=rfl
theorem zU {α : Type} {x : α} {xs : List α} : (x :: xs)[0]? = some x:=rfl
theorem zV {α : Type} {x d : α} : (some x).getD d = x:=rfl
end Go.Lith
namespace Go.Lith
open Go.RowKit
section
variable {P : Program} {ds : List Deferred} {l : List Value} {x y z0 : Operand} {T T' ty : TypeId}
theorem r_eqlNil {A : Option Addr} {n c : Nat} {E : TypeId} (hu : P.underlying T = some (.slice E)) (hx : ev l x = .slice A n c) (hy : ev l y = .slice none 0 0) : Run P l (.binOp .eql T x y T') ty (.bool A.isNone):=fun w o ho _=>by
  obtain ⟨D,hD⟩ : ∃ D,Op.maxDepth = D + 1:=⟨9999,rfl⟩
  cases A <;> simp [execOp,ho,ev_eq,hx,hy,eqGuard,binOp,Op.equal,hD,Op.equalIn,run_underlying hu]
variable {ops : Array Oper} {Q : Exit → Act → World → Prop} {rest : List Oper} {d : Nat} {pos : String} {after : Array Edge} {w : World}
theorem n_noneW {op : Op} {v : Value} {w' : World} (hr : ∀ o : Oper,o.op = op → (execOp (Fr l).eval o).run P w = .ok (.value v) w') (h : wpList P ops Q rest (Fr l ds) w') : wpList P ops Q (Oper.mk none op ty pos after none :: rest) (Fr l ds) w:=by
  refine wpList_plain rfl fun K hK=>?_
  unfold Oper.wp
  rw [fr_eval,hr _ rfl]
  exact hK _ _ h
theorem build0_cells : Array.map (fun (_ : Nat)=>(default : Value)) (Array.range 0) = #[]:=Array.eq_empty_of_size_eq_zero (by simp)
theorem build1_cells (z v : Value) : (Array.map (fun x=>[z][x % 1]?.getD default) (Array.range 1)).setIfInBounds 0 v = #[v]:=by
  apply Array.ext (by simp)
  intro i h1 h2
  obtain rfl : i = 0:=by simpa using h2
  simp
theorem build2_cells (z v v2 : Value) : ((Array.map (fun x=>[z][x % 1]?.getD default) (Array.range 2)).setIfInBounds 0 v).setIfInBounds 1 v2 = #[v,v2]:=by
  apply Array.ext (by simp)
  intro i h1 h2
  have h3 : i < 2:=by simpa using h2
  rcases Nat.lt_or_ge i 1 with h | h
  · obtain rfl : i = 0:=by omega
    simp
  · obtain rfl : i = 1:=by omega
    simp
theorem n_build0 {E : TypeId} {c : Nat} (hu : P.underlying T = some (.slice E)) (hi : (P.info? E).map (fun i=>i.size) = some c)
    (h : ∀ w' g,Ext w w' → w.heap.size ≤ g → Blk w' g [] E → wpList P ops Q rest (Fr (l.set d (.slice (some ⟨g,0,none⟩) 0 0)) ds) w') :
    wpList P ops Q (Oper.mk (some d) (.buildSlice T 0 #[]) ty pos after none :: rest) (Fr l ds) w:=by
  cases hq : P.info? E with
  | none=>rw [hq] at hi; cases hi
  | some i =>
    exact n_newW (w':=w.alloc (.cells #[] E)) (v:=.slice (some ⟨w.heap.size,0,none⟩) 0 0) (fun o ho _=>by simp [execOp,ho,Instr.buildSlice,run_underlying hu,sizeOf,typeInfo,hq,Instr.fill,newRow,newObj,Sem.run,build0_cells]) (h _ _ ((Ext.refl w).alloc _) (Nat.le_refl _) (blk_alloc w [] E))
theorem n_build1 {E : TypeId} {z : Value} (hu : P.underlying T = some (.slice E)) (hi : (P.info? E).map (fun i=>(i.size,i.zero)) = some (1,some z)) (hz : z.cells = #[z]) {v : Value} (hx : ev l x = v) (hv : v.cells = #[v])
    (h : ∀ w' g,Ext w w' → w.heap.size ≤ g → Blk w' g [v] E → wpList P ops Q rest (Fr (l.set d (.slice (some ⟨g,0,none⟩) 1 1)) ds) w') :
    wpList P ops Q (Oper.mk (some d) (.buildSlice T 1 #[(0,x)]) ty pos after none :: rest) (Fr l ds) w:=by
  cases hq : P.info? E with
  | none=>rw [hq] at hi; cases hi
  | some i =>
    rw [hq] at hi
    simp only [Option.map_some,Option.some.injEq,Prod.mk.injEq] at hi
    obtain ⟨e1,e2⟩:=hi
    exact n_newW (w':=w.alloc (.cells #[v] E)) (v:=.slice (some ⟨w.heap.size,0,none⟩) 1 1) (fun o ho _=>by simp [execOp,ho,Instr.buildSlice,run_underlying hu,sizeOf,typeInfo,zeroValue,hq,e1,e2,hz,ev_eq,hx,hv,Instr.fill,newRow,newObj,Sem.run,build1_cells]) (h _ _ ((Ext.refl w).alloc _) (Nat.le_refl _) (blk_alloc w [v] E))
theorem n_build2 {E : TypeId} {z : Value} (hu : P.underlying T = some (.slice E)) (hi : (P.info? E).map (fun i=>(i.size,i.zero)) = some (1,some z)) (hz : z.cells = #[z]) {v v2 : Value} (hx : ev l x = v) (hv : v.cells = #[v]) (hy : ev l y = v2) (hv2 : v2.cells = #[v2])
    (h : ∀ w' g,Ext w w' → w.heap.size ≤ g → Blk w' g [v,v2] E → wpList P ops Q rest (Fr (l.set d (.slice (some ⟨g,0,none⟩) 2 2)) ds) w') :
    wpList P ops Q (Oper.mk (some d) (.buildSlice T 2 #[(0,x),(1,y)]) ty pos after none :: rest) (Fr l ds) w:=by
  cases hq : P.info? E with
  | none=>rw [hq] at hi; cases hi
  | some i =>
    rw [hq] at hi
    simp only [Option.map_some,Option.some.injEq,Prod.mk.injEq] at hi
    obtain ⟨e1,e2⟩:=hi
    exact n_newW (w':=w.alloc (.cells #[v,v2] E)) (v:=.slice (some ⟨w.heap.size,0,none⟩) 2 2) (fun o ho _=>by simp [execOp,ho,Instr.buildSlice,run_underlying hu,sizeOf,typeInfo,zeroValue,hq,e1,e2,hz,ev_eq,hx,hv,hy,hv2,Instr.fill,newRow,newObj,Sem.run,build2_cells]) (h _ _ ((Ext.refl w).alloc _) (Nat.le_refl _) (blk_alloc w [v,v2] E))
theorem Owns.build0 {base g : Nat} {E : TypeId} {c : Nat} (hB : Blk w g [] E) (hb : base ≤ g) : Owns w base E c (.slice (some ⟨g,0,none⟩) 0 0) 0 []:=by
  refine ⟨(Nat.zero_mul c).symm,.inr ⟨g,0,#[],rfl,hb,hB,Nat.le_refl _,by decide,by simp,by simp⟩⟩
theorem n_clear {E : TypeId} {z : Value} {g o n cap : Nat} {cs : List Value} {t : TypeId} {a0 : Array TypeId} (ha : a0 = #[T]) (hu : P.underlying T = some (.slice E)) (hi : (P.info? E).map (fun i=>(i.size,i.zero)) = some (1,some z)) (hz : z.cells = #[z]) (hx : ev l x = .slice (some ⟨g,o,none⟩) n cap) (hn : 0 < n) (hB : Blk w g cs t) (hfit : o + n ≤ cs.length) (h1 : z.oneCell' = true)
    (h : ∀ w',Chg w w' g → Blk w' g (over cs o (List.replicate n z)) t → wpList P ops Q rest (Fr l ds) w') :
    wpList P ops Q (Oper.mk none (.call { callee:=.builtin .clear,args:=#[x],argTypes:=a0 }) ty pos after none :: rest) (Fr l ds) w:=by
  subst ha
  cases hq : P.info? E with
  | none=>rw [hq] at hi; cases hi
  | some i =>
    rw [hq] at hi
    simp only [Option.map_some,Option.some.injEq,Prod.mk.injEq] at hi
    obtain ⟨e1,e2⟩:=hi
    have hzc : (Builtin.zeroCells z.cells n).toList = List.replicate n z:=by
      rw [hz]
      apply List.ext_getElem
      · simp [Builtin.zeroCells]
      · intro j h1 h2
        simp [Builtin.zeroCells,Nat.mod_one]
    have hst:=run_storeCells_at P g o t (List.replicate n z) 0 cs.toArray w hB (by simpa using hfit) (fun u hu=>by rw [List.eq_of_mem_replicate hu]; exact h1)
    simp only [Nat.add_zero,List.toList_toArray] at hst
    obtain ⟨n,rfl⟩ : ∃ m,n = m + 1:=⟨n - 1,by omega⟩
    refine n_noneW (v:=.tuple #[]) (w':=w.setRow g (over cs o (List.replicate (n + 1) z)).toArray) (fun o' ho=>?_) (h _ (chg_setRow w g _) (setRow_heap w g cs.toArray _ t _ hB))
    simp [execOp,ho,resolve,invoke,builtin,ev_eq,hx,Builtin.clear_,run_underlying hu,zeroValue,typeInfo,hq,e2,hzc,hst,over]
theorem over_nil {cs : List Value} {off : Nat} : over cs off [] = cs:=by simp [over]
end
end Go.Lith
namespace Go.Lith
open Go.RowKit
theorem fin0 {P : Program} {l : List Value} {w : World} {fn : Func} {R : Ending → World → Prop} (hr : fn.results = #[]) (hR : R (.returned (.tuple #[])) w) : bodyPost P fn R .ret (Fr l) w:=by
  refine ⟨rfl,_,?_,hR⟩
  unfold results
  rw [hr]
  simp
theorem fin0n {P : Program} {l : List Value} {w : World} {fn : Func} {R : Ending → World → Prop} (hr : fn.results = #[]) (hR : R (.returned (.tuple #[])) w) : bodyPost P fn R .normal (Fr l) w:=fin0 hr hR
structure Upd (w w' : World) (g : Nat) : Prop where
  os : w'.os = w.os
  tape : w'.tape = w.tape
  output : w'.output = w.output
  size : w.heap.size ≤ w'.heap.size
  block : ∀ k,k < w.heap.size → k ≠ g → w'.heap[k]? = w.heap[k]?
theorem Ext.upd {w w' : World} (h : Ext w w') (g : Nat) : Upd w w' g:=⟨h.os,h.tape,h.output,h.size,fun k hk _=>Below.block h k hk⟩
theorem Upd.trans {w w' w'' : World} {g : Nat} (h : Upd w w' g) (hE : Ext w' w'') : Upd w w'' g :=
  ⟨hE.os.trans h.os,hE.tape.trans h.tape,hE.output.trans h.output,Nat.le_trans h.size hE.size,fun k hk hne=>(Below.block hE k (Nat.lt_of_lt_of_le hk h.size)).trans (h.block k hk hne)⟩
theorem Upd.chg {w w' w'' : World} {g k : Nat} (h : Upd w w' g) (hC : Chg w' w'' k) (hk : w.heap.size ≤ k ∨ k = g) : Upd w w'' g :=
  ⟨hC.os.trans h.os,hC.tape.trans h.tape,hC.output.trans h.output,by rw [hC.size]; exact h.size,fun j hj hne=>(hC.block j (by omega)).trans (h.block j hj hne)⟩
theorem Ext.grownUpd {w0 w w' : World} {g : Nat} (h : Ext w0 w) (hU : Upd w w' g) (hg : w0.heap.size ≤ g) : Ext w0 w' :=
  ⟨hU.os.trans h.os,hU.tape.trans h.tape,hU.output.trans h.output,Nat.le_trans h.size hU.size,fun k hk=>(hU.block k (Nat.lt_of_lt_of_le hk h.size) (by omega)).trans (Below.block h k hk)⟩
theorem Blk.upd {w w' : World} {g g' : Nat} {cs : List Value} {t : TypeId} (h : Blk w g cs t) (hU : Upd w w' g') (hne : g ≠ g') : Blk w' g cs t:=(hU.block g h.lt hne).trans h
def DoesTo (P : Program) (f : FuncId) (args : List Value) (w : World) (g : Nat) (R : Value → World → Prop) : Prop :=
  Enters P f ∧ Calls P f args.toArray w fun e w'=>∃ v,e = .returned v ∧ Upd w w' g ∧ R v w'
section
variable {P : Program} {ds : List Deferred} {l : List Value} {x y : Operand} {ty : TypeId} {w : World}
variable {ops : Array Oper} {Q : Exit → Act → World → Prop} {rest : List Oper} {d : Nat} {pos : String} {after : Array Edge}
theorem n_callTo {f : FuncId} {fo : Operand} {xs : Array Operand} {args : List Value} {first cap : Array Value} {a0 : Array TypeId} {g : Nat} {R : Value → World → Prop} (hf : ev l fo = .func (.func f) first cap) (hxs : first.toList ++ xs.toList.map (ev l) ++ cap.toList = args) (hc : DoesTo P f args w g R)
    (h : ∀ v w',Upd w w' g → R v w' → wpList P ops Q rest (Fr (l.set d v) ds) w') : wpList P ops Q (Oper.mk (some d) (.call { callee:=.value fo,args:=xs,argTypes:=a0 }) ty pos after none :: rest) (Fr l ds) w:=by
  refine wpList_plain rfl fun K hK=>?_
  unfold Oper.wp
  rw [fr_eval,run_call hc.1 hf hxs _ rfl]
  refine hc.2.mono ?_
  rintro e w' ⟨v,rfl,hE,hR⟩
  show K ((Fr l ds).put (some d) v) w'
  rw [fr_put]
  exact hK _ _ (h v w' hE hR)
theorem n_copyD {T : TypeId} {E : TypeId} {g o n cap m cap2 : Nat} {A : Option Addr} {cs us : List Value} {t : TypeId} {T' : TypeId} {a0 : Array TypeId} (ha : a0 = #[T,T']) (hu : P.underlying T = some (.slice E)) (hi : (P.info? E).map (·.size) = some 1) (hx : ev l x = .slice (some ⟨g,o,none⟩) n cap) (hy : ev l y = .slice A m cap2) (hl : us.length = Nat.min m n)
    (hsrc : ∀ j v,us[j]? = some v → ∃ a,A = some a ∧ w.cell? (a.add j) = some v) (hB : Blk w g cs t) (hfit : o + us.length ≤ cs.length) (h1 : ∀ v ∈ us,v.oneCell' = true)
    (h : ∀ w',Chg w w' g → Blk w' g (over cs o us) t → wpList P ops Q rest (Fr (l.set d (.int .i64 (us.length : Int))) ds) w') :
    wpList P ops Q (Oper.mk (some d) (.call { callee:=.builtin .copy,args:=#[x,y],argTypes:=a0 }) ty pos after none :: rest) (Fr l ds) w:=by
  subst ha
  cases us with
  | nil =>
    refine n_newW (v:=.int .i64 0) (w':=w) (fun o' ho _=>?_) (h w ⟨rfl,rfl,rfl,rfl,fun _ _=>rfl⟩ (by rw [over_nil]; exact hB))
    have hrun:=run_copy_none (P:=P) w T T' o'.type E (some ⟨g,o,none⟩) A n cap m cap2 hu hi hl.symm
    simp [execOp,ho,resolve,invoke,builtin,ev_eq,hx,hy,hrun,goInt]
  | cons u us =>
    obtain ⟨a,rfl,_⟩:=hsrc 0 u rfl
    refine n_newW (v:=.int .i64 ((u :: us).length : Int)) (w':=w.setRow g (over cs o (u :: us)).toArray) (fun o' ho _=>?_) (h _ (chg_setRow w g _) (setRow_heap w g cs.toArray _ t _ hB))
    have hrun:=run_copy_row (P:=P) w T T' o'.type E g o n cap a m cap2 cs.toArray t (u :: us) hu hi hB hl (fun j v hj=>let ⟨a',e,hc⟩:=hsrc j v hj; by cases e; exact hc) (by simpa using hfit) h1
    simp only [List.toList_toArray] at hrun
    simp [execOp,ho,resolve,invoke,builtin,ev_eq,hx,hy,hrun,over,goInt]
end
end Go.Lith
namespace Go.Lith
open Go.RowKit
def Hold (w : World) (S : World → Prop) : Prop:=S w
theorem Hold.nil {w : World} : Hold w (fun _=>True):=trivial
theorem Hold.cons {w : World} {A S : World → Prop} (h : A w) (k : Hold w S) : Hold w (fun w=>A w ∧ S w):=⟨h,k⟩
theorem Hold.blk {w : World} {g : Nat} {cs : List Value} {t : TypeId} {S : World → Prop} (h : Blk w g cs t) (k : Hold w S) : Hold w (fun w=>Blk w g cs t ∧ S w):=⟨h,k⟩
section
variable {P : Program} {ops : Array Oper} {md : Region.Mode} {S : World → Prop}
def wpMixH (P : Program) (ops : Array Oper) (S : World → Prop) (Q : Exit → Act → World → Prop) : List (Oper × Bool) → Act → World → Prop
  | [],a,w=>Q .normal a w
  | (o,true) :: r,a,w=>∃ v,YieldsIf P ops S o v a ∧ wpMixH P ops S Q r (a.put o.dst v) w
  | (o,false) :: r,a,w=>wpList P ops (Exit.then (fun a w=>S w ∧ wpMixH P ops S Q r a w) Q) [o] a w
theorem wpAnyH_of_mix {Q : Exit → Act → World → Prop} (hs : Region.noSelect ops = true) (hQ : ∀ c d v a w,Q (.panic c) (Act.put a d v) w → Q (.panic c) a w) : ∀ (l : List (Nat × Bool)) (listed : Array Bool) (a : Act) (w : World),
    ordB md ops l listed = true → S w → wpMixH P ops S Q (l.map fun x=>((ops[x.1]?).getD default,x.2)) a w → wpAnyH P md ops Q S l.length listed a w
  | [],listed,a,w,hB,_,h=>⟨by simpa [ordB] using hB,h⟩
  | (i,true) :: r,listed,a,w,hB,hS,h=>by
    simp only [ordB,Bool.and_eq_true] at hB
    obtain ⟨⟨⟨h1,h2⟩,h3⟩,h4⟩:=hB
    obtain ⟨o,ho⟩:=Option.isSome_iff_exists.1 h1
    simp only [List.map_cons,wpMixH,ho,Option.getD_some] at h
    obtain ⟨v,hy,hr⟩:=h
    exact wpAnyH_take ho hs h2 h3 (fun c a w=>hQ c _ v a w) hy hS (wpAnyH_of_mix hs hQ r _ _ _ h4 hS hr)
  | (i,false) :: r,listed,a,w,hB,hS,h=>by
    simp only [ordB,Bool.and_eq_true,decide_eq_true_eq] at hB
    obtain ⟨⟨h1,h2⟩,h4⟩:=hB
    obtain ⟨o,ho⟩:=Option.isSome_iff_exists.1 h1
    refine wpAnyH_all h2 (by simp) fun j hj=>?_
    obtain rfl : j = i:=by simpa using hj
    simp only [List.map_cons,wpMixH,ho,Option.getD_some] at h
    have key : ∀ a' w',Exit.then (fun a w=>S w ∧ wpMixH P ops S Q (r.map fun x=>((ops[x.1]?).getD default,x.2)) a w) Q .normal a' w' → S w' ∧ wpAnyH P md ops Q S r.length (listed.setIfInBounds j true) a' w':=fun a' w' hh=>⟨hh.1,wpAnyH_of_mix hs hQ r _ a' w' h4 hh.1 hh.2⟩
    unfold wpOp
    simp only [ho]
    simp only [wpList] at h
    split
    · rename_i hw
      rw [if_pos hw] at h
      rcases h with h | ⟨ha,x,y,hl⟩
      · refine .inl ?_
        unfold Oper.wp at h ⊢
        generalize (execOp a.eval o).run P w = res at *
        cases res with
        | ok n w' =>
          cases n <;> simp only [Oper.upon] at h ⊢ <;>
            first
              | exact key _ _ h
              | exact Calls.mono h (fun e w'' he=>by cases e <;> first | exact key _ _ he | exact he)
              | exact Rows.mono h (fun _ _ he=>key _ _ he)
        | halt x w'=>cases x <;> simp only [Oper.upon] at h ⊢ <;> exact h
      · exact .inr ⟨ha,x,y,hl⟩
    · rename_i hw
      rw [if_neg hw] at h
      exact key _ _ h
theorem wp_region_held' {id : Nat} {Q : Exit → Act → World → Prop} {a : Act} {w : World} {l : List Oper} (o : List (Nat × Bool)) (hm : P.follows .mixedOrders = true) (hB : (Region.noSelect l.toArray && decide (o.length = l.length) && ordB .any l.toArray o (Array.replicate l.toArray.size false)) = true)
    (hQ : ∀ c d v a w,Q (.panic c) (Act.put a d v) w → Q (.panic c) a w) {ol : List (Oper × Bool)} (hol : (o.map fun x=>((l.toArray[x.1]?).getD default,x.2)) = ol)
    (h : ∀ w',Ext w w' → ∃ S,Hold w' S ∧ wpMixH P l.toArray S Q ol a w') : (Code.region id l.toArray true).wp P Q a w:=by
  simp only [Bool.and_eq_true,decide_eq_true_eq] at hB
  subst hol
  obtain ⟨S,hS,h⟩:=h _ (Ext.refl w).drawn
  refine wp_region_held (S:=S) hm ?_
  have:=wpAnyH_of_mix (md:=.any) hB.1.1 hQ o _ a { w with drawn:=w.drawn + 1 } hB.2 hS h
  rwa [hB.1.2] at this
variable {ds : List Deferred} {l : List Value} {Q : Exit → Act → World → Prop} {w : World} {rest : List (Oper × Bool)} {d : Nat} {op : Op} {ty : TypeId} {pos : String} {after : Array Edge} {v : Value}
theorem h_valW (hr : ∀ w,S w → RunW P l op ty v w) (h : wpMixH P ops S Q rest (Fr (l.set d v) ds) w) : wpMixH P ops S Q ((Oper.mk (some d) op ty pos after none,true) :: rest) (Fr l ds) w:=by
  refine ⟨v,.inl ⟨by simp [Region.wanted],fun w hw=>hr w hw _ rfl rfl⟩,?_⟩
  show wpMixH P ops S Q rest ((Fr l ds).put (some d) v) w
  rw [fr_put]
  exact h
theorem h_val (hr : Run P l op ty v) (h : wpMixH P ops S Q rest (Fr (l.set d v) ds) w) : wpMixH P ops S Q ((Oper.mk (some d) op ty pos after none,true) :: rest) (Fr l ds) w:=h_valW (fun w _=>hr w) h
theorem h_load {T : TypeId} {x : Operand} {a : Addr} (hx : ev l x = .pointer (some a)) (hv : ∀ w',S w' → Lies P w' T a v) (h : wpMixH P ops S Q rest (Fr (l.set d v) ds) w) : wpMixH P ops S Q ((Oper.mk (some d) (.load T x) ty pos after none,true) :: rest) (Fr l ds) w :=
  h_valW (fun _ hS=>r_load hx (hv _ hS)) h
theorem h_nil (h : Q .normal (Fr l ds) w) : wpMixH P ops S Q [] (Fr l ds) w:=h
theorem h_step {o : Oper} (h : wpList P ops (Exit.then (fun a w=>S w ∧ wpMixH P ops S Q rest a w) Q) [o] (Fr l ds) w) : wpMixH P ops S Q ((o,false) :: rest) (Fr l ds) w:=h
end
end Go.Lith
namespace Go.Lith
open Go.RowKit
def EqR (P : Program) (d : Nat) (T : TypeId) (x y : Value) (p : Prop) : Prop:=∀ w,∃ b : Bool,(Op.equalIn d T x y).run P w = .ok b w ∧ (b = true ↔ p)
section
variable {P : Program} {d : Nat} {T : TypeId}
theorem EqR.int {k k' : IntKind} {m n : Int} (hu : P.underlying T = some (.int k')) : EqR P (d + 1) T (.int k m) (.int k n) (m = n):=fun w=>⟨m == n,by unfold Op.equalIn; simp [run_underlying hu],by simp⟩
theorem EqR.bool {a b : Bool} (hu : P.underlying T = some .bool) : EqR P (d + 1) T (.bool a) (.bool b) (a = b):=fun w=>⟨a == b,by unfold Op.equalIn; simp [run_underlying hu],by simp⟩
theorem str_toList_inj {a b : ByteArray} (h : a.toList = b.toList) : a = b:=by
  rw [ByteArray.toList_eq,ByteArray.toList_eq] at h
  cases a; cases b
  simp at h
  rw [h]
theorem str_beq (a b : ByteArray) : (a.toList == b.toList) = decide (a = b):=by
  by_cases h : a = b
  · subst h; simp
  · rw [decide_eq_false h]; exact beq_eq_false_iff_ne.2 fun e=>h (str_toList_inj e)
theorem EqR.str {a b : ByteArray} (hu : P.underlying T = some .string) : EqR P (d + 1) T (.string a) (.string b) (a = b):=fun w=>⟨a == b,by unfold Op.equalIn; simp [run_underlying hu],by rw [beq_toListBytes,str_beq]; simp⟩
def FldR (P : Program) (d : Nat) (xs ys : Array Value) (fs : List Field) (p : Prop) : Prop:=∀ w,∃ b : Bool,(Op.eqFields d xs ys fs).run P w = .ok b w ∧ (b = true ↔ p)
theorem FldR.nil {xs ys : Array Value} : FldR P d xs ys [] True:=fun w=>⟨true,by simp [Op.eqFields],by simp⟩
theorem FldR.cons {xs ys : Array Value} {f : Field} {fs : List Field} {x y : Value} {p q : Prop} (hn : f.name ≠ "_") (hx : ∀ w,(part f.type xs f.offset).run P w = .ok x w) (hy : ∀ w,(part f.type ys f.offset).run P w = .ok y w)
    (h : EqR P d f.type x y p) (k : FldR P d xs ys fs q) : FldR P d xs ys (f :: fs) (p ∧ q):=fun w=>by
  obtain ⟨b,hb,hp⟩:=h w
  obtain ⟨c,hc,hq⟩:=k w
  cases b
  · exact ⟨false,by simp [Op.eqFields,hn,hx,hy,hb],by simp at hp ⊢; intro h; exact absurd h hp⟩
  · exact ⟨c,by simp [Op.eqFields,hn,hx,hy,hb,hc],by simp at hp; simp [hp,hq]⟩
def ItmR (P : Program) (d : Nat) (E : TypeId) (n : Nat) (xs ys : Array Value) (is : List Nat) (p : Prop) : Prop:=∀ w,∃ b : Bool,(Op.eqItems d E n xs ys is).run P w = .ok b w ∧ (b = true ↔ p)
theorem ItmR.nil {E : TypeId} {n : Nat} {xs ys : Array Value} : ItmR P d E n xs ys [] True:=fun w=>⟨true,by simp [Op.eqItems],by simp⟩
theorem ItmR.cons {E : TypeId} {n i : Nat} {is : List Nat} {xs ys : Array Value} {x y : Value} {p q : Prop} (hx : ∀ w,(part E xs (i * n)).run P w = .ok x w) (hy : ∀ w,(part E ys (i * n)).run P w = .ok y w)
    (h : EqR P d E x y p) (k : ItmR P d E n xs ys is q) : ItmR P d E n xs ys (i :: is) (p ∧ q):=fun w=>by
  obtain ⟨b,hb,hp⟩:=h w
  obtain ⟨c,hc,hq⟩:=k w
  cases b
  · exact ⟨false,by simp [Op.eqItems,hx,hy,hb],by simp at hp ⊢; intro h; exact absurd h hp⟩
  · exact ⟨c,by simp [Op.eqItems,hx,hy,hb,hc],by simp at hp; simp [hp,hq]⟩
theorem EqR.struct {fs : Array Field} {xs ys : Array Value} {p : Prop} (hu : P.underlying T = some (.struct fs)) (hs : P.stoodInHeld T = false) (h : FldR P d xs ys fs.toList p) : EqR P (d + 1) T (.agg xs) (.agg ys) p:=fun w=>by
  have hf : P.fieldsOf T = fs:=by simp [Program.fieldsOf,hu]
  rw [run_equalIn_struct w d T xs ys (by rw [hf]; exact hu) hs,hf]
  exact h w
theorem EqR.array {n c : Nat} {E : TypeId} {xs ys : Array Value} {p : Prop} (hu : P.underlying T = some (.array n E)) (hc : Cells P E c) (h : ItmR P d E c xs ys (List.range n) p) : EqR P (d + 1) T (.agg xs) (.agg ys) p:=fun w=>by
  obtain ⟨i,hi,rfl⟩:=hc
  have hE : P.cellsOf E = i.size:=by simp [Program.cellsOf,hi]
  rw [run_equalIn_array w d xs ys hu hi,hE]
  exact h w
theorem EqR.iff {x y : Value} {p q : Prop} (h : EqR P d T x y p) (hpq : p ↔ q) : EqR P d T x y q:=fun w=>let ⟨b,hb,hp⟩:=h w; ⟨b,hb,hp.trans hpq⟩
theorem part_one {xs : Array Value} {off : Nat} {v : Value} (hA : IsAgg P T false) (hv : xs[off]? = some v) (w : World) : (part T xs off).run P w = .ok v w:=by simp [part,agg_run hA,hv]
theorem part_agg {xs us : Array Value} {off c : Nat} (hA : IsAgg P T true) (hc : Cells P T c) (hv : xs.extract off (off + c) = us) (w : World) : (part T xs off).run P w = .ok (.agg us) w:=by
  subst hv
  simp [part,agg_run hA,size_run hc]
variable {l : List Value} {x y : Operand} {T' ty : TypeId}
theorem eql_run {u v : Value} {p : Prop} [Decidable p] (h : EqR P 10000 T u v p) (w : World) : (Op.equal T u v).run P w = .ok (decide p) w:=by
  obtain ⟨b,hb,hp⟩:=h w
  rw [Op.equal,show Op.maxDepth = 10000 from rfl,hb]
  congr 1
  cases b
  · exact (decide_eq_false (by simpa using hp)).symm
  · exact (decide_eq_true (by simpa using hp)).symm
theorem r_eqlR {xs ys : Array Value} {p : Prop} [Decidable p] (hg : P.eqGuardType P.depth T = false) (hx : ev l x = .agg xs) (hy : ev l y = .agg ys) (h : EqR P 10000 T (.agg xs) (.agg ys) p) : Run P l (.binOp .eql T x y T') ty (.bool (decide p)):=fun w o ho _=>by
  simp [execOp,ho,ev_eq,hx,hy,eqGuard,binOp,hg,eql_run h]
theorem r_neqR {xs ys : Array Value} {p : Prop} [Decidable p] (hg : P.eqGuardType P.depth T = false) (hx : ev l x = .agg xs) (hy : ev l y = .agg ys) (h : EqR P 10000 T (.agg xs) (.agg ys) p) : Run P l (.binOp .neq T x y T') ty (.bool (decide (¬ p))):=fun w o ho _=>by
  simp [execOp,ho,ev_eq,hx,hy,eqGuard,binOp,hg,eql_run h]
theorem r_eqlB {a b : Bool} (hu : P.underlying T = some .bool) (hx : ev l x = .bool a) (hy : ev l y = .bool b) : Run P l (.binOp .eql T x y T') ty (.bool (decide (a = b))):=fun w o ho _=>by
  have h:=eql_run (EqR.bool (d:=9999) (a:=a) (b:=b) hu) w
  simp [execOp,ho,ev_eq,hx,hy,eqGuard,binOp,h]
theorem r_neqB {a b : Bool} (hu : P.underlying T = some .bool) (hx : ev l x = .bool a) (hy : ev l y = .bool b) : Run P l (.binOp .neq T x y T') ty (.bool (decide (¬ a = b))):=fun w o ho _=>by
  have h:=eql_run (EqR.bool (d:=9999) (a:=a) (b:=b) hu) w
  simp [execOp,ho,ev_eq,hx,hy,eqGuard,binOp,h]
theorem r_eqlS {a b : ByteArray} (hu : P.underlying T = some .string) (hx : ev l x = .string a) (hy : ev l y = .string b) : Run P l (.binOp .eql T x y T') ty (.bool (decide (a = b))):=fun w o ho _=>by
  have h:=eql_run (EqR.str (d:=9999) (a:=a) (b:=b) hu) w
  simp [execOp,ho,ev_eq,hx,hy,eqGuard,binOp,h,Op.stringOp,str_beq]
theorem r_neqS {a b : ByteArray} (hu : P.underlying T = some .string) (hx : ev l x = .string a) (hy : ev l y = .string b) : Run P l (.binOp .neq T x y T') ty (.bool (decide (¬ a = b))):=fun w o ho _=>by
  have h:=eql_run (EqR.str (d:=9999) (a:=a) (b:=b) hu) w
  simp [execOp,ho,ev_eq,hx,hy,eqGuard,binOp,h,Op.stringOp,str_beq]
end
end Go.Lith
namespace Go.Proofs.YtimjandkmfcmiaaGreatDoor
open Go.RowKit Go.Lith
set_option maxRecDepth 100000
theorem follows_mixed : Tryz.prog.follows .mixedOrders = true:=by kernel_rfl
theorem en_7 : Enters Tryz.prog 7:=⟨_,Tryz.func7,by kernel_rfl,by kernel_rfl⟩
theorem en_11 : Enters Tryz.prog 11:=⟨_,Tryz.func11,by kernel_rfl,by kernel_rfl⟩
theorem en_12 : Enters Tryz.prog 12:=⟨_,Tryz.func12,by kernel_rfl,by kernel_rfl⟩
theorem en_13 : Enters Tryz.prog 13:=⟨_,Tryz.func13,by kernel_rfl,by kernel_rfl⟩
theorem en_14 : Enters Tryz.prog 14:=⟨_,Tryz.func14,by kernel_rfl,by kernel_rfl⟩
theorem en_15 : Enters Tryz.prog 15:=⟨_,Tryz.func15,by kernel_rfl,by kernel_rfl⟩
theorem en_19 : Enters Tryz.prog 19:=⟨_,Tryz.func19,by kernel_rfl,by kernel_rfl⟩
theorem en_20 : Enters Tryz.prog 20:=⟨_,Tryz.func20,by kernel_rfl,by kernel_rfl⟩
theorem en_21 : Enters Tryz.prog 21:=⟨_,Tryz.func21,by kernel_rfl,by kernel_rfl⟩
theorem en_22 : Enters Tryz.prog 22:=⟨_,Tryz.func22,by kernel_rfl,by kernel_rfl⟩
theorem en_23 : Enters Tryz.prog 23:=⟨_,Tryz.func23,by kernel_rfl,by kernel_rfl⟩
theorem en_24 : Enters Tryz.prog 24:=⟨_,Tryz.func24,by kernel_rfl,by kernel_rfl⟩
theorem en_25 : Enters Tryz.prog 25:=⟨_,Tryz.func25,by kernel_rfl,by kernel_rfl⟩
theorem en_26 : Enters Tryz.prog 26:=⟨_,Tryz.func26,by kernel_rfl,by kernel_rfl⟩
theorem en_27 : Enters Tryz.prog 27:=⟨_,Tryz.func27,by kernel_rfl,by kernel_rfl⟩
theorem en_28 : Enters Tryz.prog 28:=⟨_,Tryz.func28,by kernel_rfl,by kernel_rfl⟩
theorem en_35 : Enters Tryz.prog 35:=⟨_,Tryz.func35,by kernel_rfl,by kernel_rfl⟩
theorem en_36 : Enters Tryz.prog 36:=⟨_,Tryz.func36,by kernel_rfl,by kernel_rfl⟩
theorem en_37 : Enters Tryz.prog 37:=⟨_,Tryz.func37,by kernel_rfl,by kernel_rfl⟩
theorem en_38 : Enters Tryz.prog 38:=⟨_,Tryz.func38,by kernel_rfl,by kernel_rfl⟩
theorem en_39 : Enters Tryz.prog 39:=⟨_,Tryz.func39,by kernel_rfl,by kernel_rfl⟩
theorem en_40 : Enters Tryz.prog 40:=⟨_,Tryz.func40,by kernel_rfl,by kernel_rfl⟩
theorem en_41 : Enters Tryz.prog 41:=⟨_,Tryz.func41,by kernel_rfl,by kernel_rfl⟩
theorem en_42 : Enters Tryz.prog 42:=⟨_,Tryz.func42,by kernel_rfl,by kernel_rfl⟩
theorem en_43 : Enters Tryz.prog 43:=⟨_,Tryz.func43,by kernel_rfl,by kernel_rfl⟩
theorem en_44 : Enters Tryz.prog 44:=⟨_,Tryz.func44,by kernel_rfl,by kernel_rfl⟩
theorem en_45 : Enters Tryz.prog 45:=⟨_,Tryz.func45,by kernel_rfl,by kernel_rfl⟩
theorem en_53 : Enters Tryz.prog 53:=⟨_,Tryz.func53,by kernel_rfl,by kernel_rfl⟩
theorem en_54 : Enters Tryz.prog 54:=⟨_,Tryz.func54,by kernel_rfl,by kernel_rfl⟩
theorem en_55 : Enters Tryz.prog 55:=⟨_,Tryz.func55,by kernel_rfl,by kernel_rfl⟩
theorem en_56 : Enters Tryz.prog 56:=⟨_,Tryz.func56,by kernel_rfl,by kernel_rfl⟩
theorem en_57 : Enters Tryz.prog 57:=⟨_,Tryz.func57,by kernel_rfl,by kernel_rfl⟩
theorem en_58 : Enters Tryz.prog 58:=⟨_,Tryz.func58,by kernel_rfl,by kernel_rfl⟩
theorem en_59 : Enters Tryz.prog 59:=⟨_,Tryz.func59,by kernel_rfl,by kernel_rfl⟩
theorem en_60 : Enters Tryz.prog 60:=⟨_,Tryz.func60,by kernel_rfl,by kernel_rfl⟩
theorem en_61 : Enters Tryz.prog 61:=⟨_,Tryz.func61,by kernel_rfl,by kernel_rfl⟩
theorem en_62 : Enters Tryz.prog 62:=⟨_,Tryz.func62,by kernel_rfl,by kernel_rfl⟩
theorem en_63 : Enters Tryz.prog 63:=⟨_,Tryz.func63,by kernel_rfl,by kernel_rfl⟩
theorem en_64 : Enters Tryz.prog 64:=⟨_,Tryz.func64,by kernel_rfl,by kernel_rfl⟩
theorem en_65 : Enters Tryz.prog 65:=⟨_,Tryz.func65,by kernel_rfl,by kernel_rfl⟩
theorem en_66 : Enters Tryz.prog 66:=⟨_,Tryz.func66,by kernel_rfl,by kernel_rfl⟩
theorem en_67 : Enters Tryz.prog 67:=⟨_,Tryz.func67,by kernel_rfl,by kernel_rfl⟩
theorem en_68 : Enters Tryz.prog 68:=⟨_,Tryz.func68,by kernel_rfl,by kernel_rfl⟩
theorem en_69 : Enters Tryz.prog 69:=⟨_,Tryz.func69,by kernel_rfl,by kernel_rfl⟩
theorem en_70 : Enters Tryz.prog 70:=⟨_,Tryz.func70,by kernel_rfl,by kernel_rfl⟩
theorem en_71 : Enters Tryz.prog 71:=⟨_,Tryz.func71,by kernel_rfl,by kernel_rfl⟩
theorem en_72 : Enters Tryz.prog 72:=⟨_,Tryz.func72,by kernel_rfl,by kernel_rfl⟩
theorem en_73 : Enters Tryz.prog 73:=⟨_,Tryz.func73,by kernel_rfl,by kernel_rfl⟩
theorem en_90 : Enters Tryz.prog 90:=⟨_,Tryz.func90,by kernel_rfl,by kernel_rfl⟩
theorem en_91 : Enters Tryz.prog 91:=⟨_,Tryz.func91,by kernel_rfl,by kernel_rfl⟩
theorem en_92 : Enters Tryz.prog 92:=⟨_,Tryz.func92,by kernel_rfl,by kernel_rfl⟩
theorem en_93 : Enters Tryz.prog 93:=⟨_,Tryz.func93,by kernel_rfl,by kernel_rfl⟩
theorem en_94 : Enters Tryz.prog 94:=⟨_,Tryz.func94,by kernel_rfl,by kernel_rfl⟩
theorem en_95 : Enters Tryz.prog 95:=⟨_,Tryz.func95,by kernel_rfl,by kernel_rfl⟩
theorem en_96 : Enters Tryz.prog 96:=⟨_,Tryz.func96,by kernel_rfl,by kernel_rfl⟩
theorem en_97 : Enters Tryz.prog 97:=⟨_,Tryz.func97,by kernel_rfl,by kernel_rfl⟩
theorem en_98 : Enters Tryz.prog 98:=⟨_,Tryz.func98,by kernel_rfl,by kernel_rfl⟩
theorem en_99 : Enters Tryz.prog 99:=⟨_,Tryz.func99,by kernel_rfl,by kernel_rfl⟩
theorem en_100 : Enters Tryz.prog 100:=⟨_,Tryz.func100,by kernel_rfl,by kernel_rfl⟩
theorem en_101 : Enters Tryz.prog 101:=⟨_,Tryz.func101,by kernel_rfl,by kernel_rfl⟩
theorem en_102 : Enters Tryz.prog 102:=⟨_,Tryz.func102,by kernel_rfl,by kernel_rfl⟩
theorem en_103 : Enters Tryz.prog 103:=⟨_,Tryz.func103,by kernel_rfl,by kernel_rfl⟩
theorem en_104 : Enters Tryz.prog 104:=⟨_,Tryz.func104,by kernel_rfl,by kernel_rfl⟩
theorem en_105 : Enters Tryz.prog 105:=⟨_,Tryz.func105,by kernel_rfl,by kernel_rfl⟩
theorem en_106 : Enters Tryz.prog 106:=⟨_,Tryz.func106,by kernel_rfl,by kernel_rfl⟩
theorem en_107 : Enters Tryz.prog 107:=⟨_,Tryz.func107,by kernel_rfl,by kernel_rfl⟩
theorem en_108 : Enters Tryz.prog 108:=⟨_,Tryz.func108,by kernel_rfl,by kernel_rfl⟩
theorem en_121 : Enters Tryz.prog 121:=⟨_,Tryz.func121,by kernel_rfl,by kernel_rfl⟩
theorem en_122 : Enters Tryz.prog 122:=⟨_,Tryz.func122,by kernel_rfl,by kernel_rfl⟩
theorem en_123 : Enters Tryz.prog 123:=⟨_,Tryz.func123,by kernel_rfl,by kernel_rfl⟩
theorem en_125 : Enters Tryz.prog 125:=⟨_,Tryz.func125,by kernel_rfl,by kernel_rfl⟩
theorem en_129 : Enters Tryz.prog 129:=⟨_,Tryz.func129,by kernel_rfl,by kernel_rfl⟩
theorem en_130 : Enters Tryz.prog 130:=⟨_,Tryz.func130,by kernel_rfl,by kernel_rfl⟩
theorem en_131 : Enters Tryz.prog 131:=⟨_,Tryz.func131,by kernel_rfl,by kernel_rfl⟩
theorem en_132 : Enters Tryz.prog 132:=⟨_,Tryz.func132,by kernel_rfl,by kernel_rfl⟩
theorem en_133 : Enters Tryz.prog 133:=⟨_,Tryz.func133,by kernel_rfl,by kernel_rfl⟩
theorem en_134 : Enters Tryz.prog 134:=⟨_,Tryz.func134,by kernel_rfl,by kernel_rfl⟩
theorem en_135 : Enters Tryz.prog 135:=⟨_,Tryz.func135,by kernel_rfl,by kernel_rfl⟩
theorem en_136 : Enters Tryz.prog 136:=⟨_,Tryz.func136,by kernel_rfl,by kernel_rfl⟩
theorem en_137 : Enters Tryz.prog 137:=⟨_,Tryz.func137,by kernel_rfl,by kernel_rfl⟩
theorem en_138 : Enters Tryz.prog 138:=⟨_,Tryz.func138,by kernel_rfl,by kernel_rfl⟩
theorem en_148 : Enters Tryz.prog 148:=⟨_,Tryz.func148,by kernel_rfl,by kernel_rfl⟩
theorem en_149 : Enters Tryz.prog 149:=⟨_,Tryz.func149,by kernel_rfl,by kernel_rfl⟩
theorem en_150 : Enters Tryz.prog 150:=⟨_,Tryz.func150,by kernel_rfl,by kernel_rfl⟩
theorem en_151 : Enters Tryz.prog 151:=⟨_,Tryz.func151,by kernel_rfl,by kernel_rfl⟩
theorem en_152 : Enters Tryz.prog 152:=⟨_,Tryz.func152,by kernel_rfl,by kernel_rfl⟩
theorem en_169 : Enters Tryz.prog 169:=⟨_,Tryz.func169,by kernel_rfl,by kernel_rfl⟩
theorem en_170 : Enters Tryz.prog 170:=⟨_,Tryz.func170,by kernel_rfl,by kernel_rfl⟩
theorem en_171 : Enters Tryz.prog 171:=⟨_,Tryz.func171,by kernel_rfl,by kernel_rfl⟩
theorem en_172 : Enters Tryz.prog 172:=⟨_,Tryz.func172,by kernel_rfl,by kernel_rfl⟩
theorem en_173 : Enters Tryz.prog 173:=⟨_,Tryz.func173,by kernel_rfl,by kernel_rfl⟩
theorem en_183 : Enters Tryz.prog 183:=⟨_,Tryz.func183,by kernel_rfl,by kernel_rfl⟩
theorem en_202 : Enters Tryz.prog 202:=⟨_,Tryz.func202,by kernel_rfl,by kernel_rfl⟩
theorem cells_3 : Cells Tryz.prog 3 1:=cells_of (by kernel_rfl)
theorem agg_3 : IsAgg Tryz.prog 3 false:=isAgg_of _ Tryz.underlying3 rfl
theorem inf_3 : (Tryz.prog.info? 3).map (fun i=>(i.size,i.bytes,i.zero)) = some (1,8,some (.int .i64 0)):=by kernel_rfl
theorem cells_4 : Cells Tryz.prog 4 1:=cells_of (by kernel_rfl)
theorem agg_4 : IsAgg Tryz.prog 4 false:=isAgg_of _ Tryz.underlying4 rfl
theorem zero_4 : Zero Tryz.prog 4 (.bool false):=zero_of (by kernel_rfl)
theorem cells_5 : Cells Tryz.prog 5 1:=cells_of (by kernel_rfl)
theorem agg_5 : IsAgg Tryz.prog 5 false:=isAgg_of _ Tryz.underlying5 rfl
theorem inf_5 : (Tryz.prog.info? 5).map (fun i=>(i.size,i.bytes,i.zero)) = some (1,1,some (.int .u8 0)):=by kernel_rfl
theorem cells_9 : Cells Tryz.prog 9 1:=cells_of (by kernel_rfl)
theorem agg_9 : IsAgg Tryz.prog 9 false:=isAgg_of _ Tryz.underlying9 rfl
theorem cells_22 : Cells Tryz.prog 22 1:=cells_of (by kernel_rfl)
theorem agg_22 : IsAgg Tryz.prog 22 false:=isAgg_of _ Tryz.underlying22 rfl
theorem cells_23 : Cells Tryz.prog 23 3:=cells_of (by kernel_rfl)
theorem agg_23 : IsAgg Tryz.prog 23 true:=isAgg_of _ Tryz.underlying23 rfl
theorem zero_23 : Zero Tryz.prog 23 (.agg #[.int .i64 0,.int .i64 0,.int .i64 0]):=zero_of (by kernel_rfl)
theorem cells_25 : Cells Tryz.prog 25 7:=cells_of (by kernel_rfl)
theorem agg_25 : IsAgg Tryz.prog 25 true:=isAgg_of _ Tryz.underlying25 rfl
theorem zero_25 : Zero Tryz.prog 25 (.agg #[.int .i64 0,.int .i64 0,.int .i64 0,.int .i64 0,.int .i64 0,.int .i64 0,.int .i64 0]):=zero_of (by kernel_rfl)
theorem cells_26 : Cells Tryz.prog 26 1:=cells_of (by kernel_rfl)
theorem agg_26 : IsAgg Tryz.prog 26 false:=isAgg_of _ Tryz.underlying26 rfl
theorem cells_28 : Cells Tryz.prog 28 13:=cells_of (by kernel_rfl)
theorem agg_28 : IsAgg Tryz.prog 28 true:=isAgg_of _ Tryz.underlying28 rfl
theorem cells_35 : Cells Tryz.prog 35 2:=cells_of (by kernel_rfl)
theorem agg_35 : IsAgg Tryz.prog 35 true:=isAgg_of _ Tryz.underlying35 rfl
theorem zero_35 : Zero Tryz.prog 35 (.agg #[.bool false,.string ⟨#[]⟩]):=zero_of (by kernel_rfl)
theorem cells_37 : Cells Tryz.prog 37 4:=cells_of (by kernel_rfl)
theorem agg_37 : IsAgg Tryz.prog 37 true:=isAgg_of _ Tryz.underlying37 rfl
theorem zero_37 : Zero Tryz.prog 37 (.agg #[.bool false,.string ⟨#[]⟩,.bool false,.string ⟨#[]⟩]):=zero_of (by kernel_rfl)
theorem cells_39 : Cells Tryz.prog 39 11:=cells_of (by kernel_rfl)
theorem agg_39 : IsAgg Tryz.prog 39 true:=isAgg_of _ Tryz.underlying39 rfl
theorem zero_39 : Zero Tryz.prog 39 (.agg #[.int .i64 0,.bool false,.string ⟨#[]⟩,.bool false,.string ⟨#[]⟩,.bool false,.string ⟨#[]⟩,.bool false,.string ⟨#[]⟩,.bool false,.slice none 0 0]):=zero_of (by kernel_rfl)
theorem cells_43 : Cells Tryz.prog 43 5:=cells_of (by kernel_rfl)
theorem agg_43 : IsAgg Tryz.prog 43 true:=isAgg_of _ Tryz.underlying43 rfl
theorem zero_43 : Zero Tryz.prog 43 (.agg #[.bool false,.string ⟨#[]⟩,.bool false,.string ⟨#[]⟩,.int .i64 0]):=zero_of (by kernel_rfl)
theorem cells_48 : Cells Tryz.prog 48 1:=cells_of (by kernel_rfl)
theorem agg_48 : IsAgg Tryz.prog 48 false:=isAgg_of _ Tryz.underlying48 rfl
theorem inf_48 : (Tryz.prog.info? 48).map (fun i=>(i.size,i.bytes,i.zero)) = some (1,24,some (.slice none 0 0)):=by kernel_rfl
theorem cells_56 : Cells Tryz.prog 56 3:=cells_of (by kernel_rfl)
theorem agg_56 : IsAgg Tryz.prog 56 true:=isAgg_of _ Tryz.underlying56 rfl
theorem zero_56 : Zero Tryz.prog 56 (.agg #[.int .i64 0,.int .i64 0,.int .i64 0]):=zero_of (by kernel_rfl)
theorem inf_56 : (Tryz.prog.info? 56).map (fun i=>(i.size,i.bytes,i.zero)) = some (3,24,some (.agg #[.int .i64 0,.int .i64 0,.int .i64 0])):=by kernel_rfl
theorem cells_58 : Cells Tryz.prog 58 9:=cells_of (by kernel_rfl)
theorem agg_58 : IsAgg Tryz.prog 58 true:=isAgg_of _ Tryz.underlying58 rfl
theorem zero_58 : Zero Tryz.prog 58 (.agg #[.int .i64 0,.int .i64 0,.int .i64 0,.int .i64 0,.int .i64 0,.int .i64 0,.int .i64 0,.int .i64 0,.int .i64 0]):=zero_of (by kernel_rfl)
theorem inf_58 : (Tryz.prog.info? 58).map (fun i=>(i.size,i.bytes,i.zero)) = some (9,72,some (.agg #[.int .i64 0,.int .i64 0,.int .i64 0,.int .i64 0,.int .i64 0,.int .i64 0,.int .i64 0,.int .i64 0,.int .i64 0])):=by kernel_rfl
theorem cells_67 : Cells Tryz.prog 67 1:=cells_of (by kernel_rfl)
theorem cells_69 : Cells Tryz.prog 69 1:=cells_of (by kernel_rfl)
theorem zero_69 : Zero Tryz.prog 69 (.agg #[.int .i64 0]):=zero_of (by kernel_rfl)
theorem cells_83 : Cells Tryz.prog 83 1:=cells_of (by kernel_rfl)
theorem zero_83 : Zero Tryz.prog 83 (.agg #[.int .i64 0]):=zero_of (by kernel_rfl)
theorem cells_88 : Cells Tryz.prog 88 7:=cells_of (by kernel_rfl)
theorem zero_88 : Zero Tryz.prog 88 (.agg #[.int .i64 0,.int .i64 0,.int .i64 0,.int .i64 0,.int .i64 0,.int .i64 0,.int .i64 0]):=zero_of (by kernel_rfl)
theorem cells_101 : Cells Tryz.prog 101 1:=cells_of (by kernel_rfl)
theorem agg_101 : IsAgg Tryz.prog 101 false:=isAgg_of _ Tryz.underlying101 rfl
theorem inf_101 : (Tryz.prog.info? 101).map (fun i=>(i.size,i.bytes,i.zero)) = some (1,8,some (.int .u64 0)):=by kernel_rfl
theorem cells_107 : Cells Tryz.prog 107 6:=cells_of (by kernel_rfl)
theorem agg_107 : IsAgg Tryz.prog 107 true:=isAgg_of _ Tryz.underlying107 rfl
theorem zero_107 : Zero Tryz.prog 107 (.agg #[.bool false,.string ⟨#[]⟩,.bool false,.string ⟨#[]⟩,.bool false,.string ⟨#[]⟩]):=zero_of (by kernel_rfl)
theorem cells_108 : Cells Tryz.prog 108 6:=cells_of (by kernel_rfl)
theorem agg_108 : IsAgg Tryz.prog 108 true:=isAgg_of _ Tryz.underlying108 rfl
theorem zero_108 : Zero Tryz.prog 108 (.agg #[.bool false,.string ⟨#[]⟩,.bool false,.string ⟨#[]⟩,.bool false,.string ⟨#[]⟩]):=zero_of (by kernel_rfl)
theorem cells_110 : Cells Tryz.prog 110 18:=cells_of (by kernel_rfl)
theorem agg_110 : IsAgg Tryz.prog 110 true:=isAgg_of _ Tryz.underlying110 rfl
theorem zero_110 : Zero Tryz.prog 110 (.agg #[.bool false,.string ⟨#[]⟩,.bool false,.string ⟨#[]⟩,.bool false,.string ⟨#[]⟩,.bool false,.string ⟨#[]⟩,.bool false,.string ⟨#[]⟩,.bool false,.string ⟨#[]⟩,.bool false,.string ⟨#[]⟩,.bool false,.string ⟨#[]⟩,.bool false,.string ⟨#[]⟩]):=zero_of (by kernel_rfl)
theorem cells_134 : Cells Tryz.prog 134 18:=cells_of (by kernel_rfl)
theorem zero_134 : Zero Tryz.prog 134 (.agg #[.int .i64 0,.int .i64 0,.int .i64 0,.int .i64 0,.int .i64 0,.int .i64 0,.int .i64 0,.int .i64 0,.int .i64 0,.int .i64 0,.int .i64 0,.int .i64 0,.int .i64 0,.int .i64 0,.int .i64 0,.int .i64 0,.int .i64 0,.int .i64 0]):=zero_of (by kernel_rfl)
theorem cells_139 : Cells Tryz.prog 139 1:=cells_of (by kernel_rfl)
theorem agg_139 : IsAgg Tryz.prog 139 false:=isAgg_of _ Tryz.underlying139 rfl
theorem zero_139 : Zero Tryz.prog 139 (.slice none 0 0):=zero_of (by kernel_rfl)
theorem cells_152 : Cells Tryz.prog 152 6:=cells_of (by kernel_rfl)
theorem agg_152 : IsAgg Tryz.prog 152 true:=isAgg_of _ Tryz.underlying152 rfl
theorem zero_152 : Zero Tryz.prog 152 (.agg #[.bool false,.string ⟨#[]⟩,.bool false,.string ⟨#[]⟩,.bool false,.string ⟨#[]⟩]):=zero_of (by kernel_rfl)
theorem zero_163 : Zero Tryz.prog 163 (.agg #[.int .i64 0,.int .i64 0,.int .i64 0,.int .i64 0,.int .i64 0,.int .i64 0,.int .i64 0,.int .i64 0,.int .i64 0,.int .i64 0,.int .i64 0,.int .i64 0,.int .i64 0,.int .i64 0,.int .i64 0,.int .i64 0,.int .i64 0,.int .i64 0,.int .i64 0,.int .i64 0,.int .i64 0,.int .i64 0,.int .i64 0,.int .i64 0]):=zero_of (by kernel_rfl)
theorem cells_176 : Cells Tryz.prog 176 3:=cells_of (by kernel_rfl)
theorem agg_176 : IsAgg Tryz.prog 176 true:=isAgg_of _ Tryz.underlying176 rfl
theorem zero_176 : Zero Tryz.prog 176 (.agg #[.int .i64 0,.int .i64 0,.int .i64 0]):=zero_of (by kernel_rfl)
theorem cells_180 : Cells Tryz.prog 180 1:=cells_of (by kernel_rfl)
theorem agg_180 : IsAgg Tryz.prog 180 false:=isAgg_of _ Tryz.underlying180 rfl
theorem cells_181 : Cells Tryz.prog 181 3:=cells_of (by kernel_rfl)
theorem agg_181 : IsAgg Tryz.prog 181 true:=isAgg_of _ Tryz.underlying181 rfl
theorem zero_181 : Zero Tryz.prog 181 (.agg #[.nilFunc,.nilFunc,.nilFunc]):=zero_of (by kernel_rfl)
theorem b_23_  (w : World) : (Instr.build 23 #[]).run Tryz.prog w = .ok (.agg #[(.int .i64 0),(.int .i64 0),(.int .i64 0)]) w:=run_build_array Tryz.underlying23 zero_23 cells_3 (by simp [Instr.fill,agg_cells]) w
theorem r_build_23_ {l : List Value} {ty : TypeId}  : Run Tryz.prog l (.build 23 #[]) ty (.agg #[(.int .i64 0),(.int .i64 0),(.int .i64 0)]):=r_build (vs:=#[]) (by simp) fun w=>b_23_  w
theorem b_23_0_1_2 {v0 v1 v2 : Value} {c0_0 : Value} (h0 : v0.cells = #[c0_0]) {c1_0 : Value} (h1 : v1.cells = #[c1_0]) {c2_0 : Value} (h2 : v2.cells = #[c2_0])  (w : World) : (Instr.build 23 #[(0,v0),(1,v1),(2,v2)]).run Tryz.prog w = .ok (.agg #[c0_0,c1_0,c2_0]) w:=run_build_array Tryz.underlying23 zero_23 cells_3 (by simp [Instr.fill,agg_cells,h0,h1,h2]) w
theorem r_build_23_0_1_2 {l : List Value} {ty : TypeId} {x0 x1 x2 : Operand} {c0_0 : Value} (h0 : (ev l x0).cells = #[c0_0]) {c1_0 : Value} (h1 : (ev l x1).cells = #[c1_0]) {c2_0 : Value} (h2 : (ev l x2).cells = #[c2_0]) : Run Tryz.prog l (.build 23 #[(0,x0),(1,x1),(2,x2)]) ty (.agg #[c0_0,c1_0,c2_0]):=r_build (vs:=#[(0,ev l x0),(1,ev l x1),(2,ev l x2)]) (by simp) fun w=>b_23_0_1_2 h0 h1 h2 w
theorem places_25 (w : World) : ((#[{ name := "X", type:=3,offset:=0,embedded:=false,tag := "", pkgPath := "", byteOffset:=0 },{ name := "Y", type:=3,offset:=1,embedded:=false,tag := "", pkgPath := "", byteOffset:=8 },{ name := "Z", type:=3,offset:=2,embedded:=false,tag := "", pkgPath := "", byteOffset:=16 },{ name := "W", type:=3,offset:=3,embedded:=false,tag := "", pkgPath := "", byteOffset:=24 },{ name := "Dir", type:=23,offset:=4,embedded:=false,tag := "", pkgPath := "", byteOffset:=32 }] : Array Field).mapM fun f=>do pure (f.offset,← sizeOf f.type) : Sem (Array (Nat × Nat))).run Tryz.prog w = .ok #[(0,1),(1,1),(2,1),(3,1),(4,3)] w:=by
  simp [Array.mapM_eq_mapM_toList,size_run cells_23,size_run cells_3]
theorem b_25_0_1_3_4 {v0 v1 v3 v4 : Value} {c0_0 : Value} (h0 : v0.cells = #[c0_0]) {c1_0 : Value} (h1 : v1.cells = #[c1_0]) {c3_0 : Value} (h3 : v3.cells = #[c3_0]) {c4_0 c4_1 c4_2 : Value} (h4 : v4.cells = #[c4_0,c4_1,c4_2])  (w : World) : (Instr.build 25 #[(0,v0),(1,v1),(3,v3),(4,v4)]).run Tryz.prog w = .ok (.agg #[c0_0,c1_0,(.int .i64 0),c3_0,c4_0,c4_1,c4_2]) w:=run_build_struct Tryz.underlying25 zero_25 places_25 (by simp [Instr.fill,agg_cells,h0,h1,h3,h4]) w
theorem r_build_25_0_1_3_4 {l : List Value} {ty : TypeId} {x0 x1 x3 x4 : Operand} {c0_0 : Value} (h0 : (ev l x0).cells = #[c0_0]) {c1_0 : Value} (h1 : (ev l x1).cells = #[c1_0]) {c3_0 : Value} (h3 : (ev l x3).cells = #[c3_0]) {c4_0 c4_1 c4_2 : Value} (h4 : (ev l x4).cells = #[c4_0,c4_1,c4_2]) : Run Tryz.prog l (.build 25 #[(0,x0),(1,x1),(3,x3),(4,x4)]) ty (.agg #[c0_0,c1_0,(.int .i64 0),c3_0,c4_0,c4_1,c4_2]):=r_build (vs:=#[(0,ev l x0),(1,ev l x1),(3,ev l x3),(4,ev l x4)]) (by simp) fun w=>b_25_0_1_3_4 h0 h1 h3 h4 w
theorem places_35 (w : World) : ((#[{ name := "Neg", type:=4,offset:=0,embedded:=false,tag := "", pkgPath := "", byteOffset:=0 },{ name := "Mag", type:=9,offset:=1,embedded:=false,tag := "", pkgPath := "", byteOffset:=8 }] : Array Field).mapM fun f=>do pure (f.offset,← sizeOf f.type) : Sem (Array (Nat × Nat))).run Tryz.prog w = .ok #[(0,1),(1,1)] w:=by
  simp [Array.mapM_eq_mapM_toList,size_run cells_4,size_run cells_9]
theorem b_35_  (w : World) : (Instr.build 35 #[]).run Tryz.prog w = .ok (.agg #[(.bool false),(.string ⟨#[]⟩)]) w:=run_build_struct Tryz.underlying35 zero_35 places_35 (by simp [Instr.fill,agg_cells]) w
theorem r_build_35_ {l : List Value} {ty : TypeId}  : Run Tryz.prog l (.build 35 #[]) ty (.agg #[(.bool false),(.string ⟨#[]⟩)]):=r_build (vs:=#[]) (by simp) fun w=>b_35_  w
theorem b_35_0_1 {v0 v1 : Value} {c0_0 : Value} (h0 : v0.cells = #[c0_0]) {c1_0 : Value} (h1 : v1.cells = #[c1_0])  (w : World) : (Instr.build 35 #[(0,v0),(1,v1)]).run Tryz.prog w = .ok (.agg #[c0_0,c1_0]) w:=run_build_struct Tryz.underlying35 zero_35 places_35 (by simp [Instr.fill,agg_cells,h0,h1]) w
theorem r_build_35_0_1 {l : List Value} {ty : TypeId} {x0 x1 : Operand} {c0_0 : Value} (h0 : (ev l x0).cells = #[c0_0]) {c1_0 : Value} (h1 : (ev l x1).cells = #[c1_0]) : Run Tryz.prog l (.build 35 #[(0,x0),(1,x1)]) ty (.agg #[c0_0,c1_0]):=r_build (vs:=#[(0,ev l x0),(1,ev l x1)]) (by simp) fun w=>b_35_0_1 h0 h1 w
theorem places_37 (w : World) : ((#[{ name := "N", type:=35,offset:=0,embedded:=false,tag := "", pkgPath := "", byteOffset:=0 },{ name := "D", type:=35,offset:=2,embedded:=false,tag := "", pkgPath := "", byteOffset:=24 }] : Array Field).mapM fun f=>do pure (f.offset,← sizeOf f.type) : Sem (Array (Nat × Nat))).run Tryz.prog w = .ok #[(0,2),(2,2)] w:=by
  simp [Array.mapM_eq_mapM_toList,size_run cells_35]
theorem b_37_0_1 {v0 v1 : Value} {c0_0 c0_1 : Value} (h0 : v0.cells = #[c0_0,c0_1]) {c1_0 c1_1 : Value} (h1 : v1.cells = #[c1_0,c1_1])  (w : World) : (Instr.build 37 #[(0,v0),(1,v1)]).run Tryz.prog w = .ok (.agg #[c0_0,c0_1,c1_0,c1_1]) w:=run_build_struct Tryz.underlying37 zero_37 places_37 (by simp [Instr.fill,agg_cells,h0,h1]) w
theorem r_build_37_0_1 {l : List Value} {ty : TypeId} {x0 x1 : Operand} {c0_0 c0_1 : Value} (h0 : (ev l x0).cells = #[c0_0,c0_1]) {c1_0 c1_1 : Value} (h1 : (ev l x1).cells = #[c1_0,c1_1]) : Run Tryz.prog l (.build 37 #[(0,x0),(1,x1)]) ty (.agg #[c0_0,c0_1,c1_0,c1_1]):=r_build (vs:=#[(0,ev l x0),(1,ev l x1)]) (by simp) fun w=>b_37_0_1 h0 h1 w
theorem b_37_1 {v1 : Value} {c1_0 c1_1 : Value} (h1 : v1.cells = #[c1_0,c1_1])  (w : World) : (Instr.build 37 #[(1,v1)]).run Tryz.prog w = .ok (.agg #[(.bool false),(.string ⟨#[]⟩),c1_0,c1_1]) w:=run_build_struct Tryz.underlying37 zero_37 places_37 (by simp [Instr.fill,agg_cells,h1]) w
theorem r_build_37_1 {l : List Value} {ty : TypeId} {x1 : Operand} {c1_0 c1_1 : Value} (h1 : (ev l x1).cells = #[c1_0,c1_1]) : Run Tryz.prog l (.build 37 #[(1,x1)]) ty (.agg #[(.bool false),(.string ⟨#[]⟩),c1_0,c1_1]):=r_build (vs:=#[(1,ev l x1)]) (by simp) fun w=>b_37_1 h1 w
theorem places_39 (w : World) : ((#[{ name := "Kind", type:=3,offset:=0,embedded:=false,tag := "", pkgPath := "", byteOffset:=0 },{ name := "Lo", type:=37,offset:=1,embedded:=false,tag := "", pkgPath := "", byteOffset:=8 },{ name := "Hi", type:=37,offset:=5,embedded:=false,tag := "", pkgPath := "", byteOffset:=56 },{ name := "Sure", type:=4,offset:=9,embedded:=false,tag := "", pkgPath := "", byteOffset:=104 },{ name := "Open", type:=22,offset:=10,embedded:=false,tag := "", pkgPath := "", byteOffset:=112 }] : Array Field).mapM fun f=>do pure (f.offset,← sizeOf f.type) : Sem (Array (Nat × Nat))).run Tryz.prog w = .ok #[(0,1),(1,4),(5,4),(9,1),(10,1)] w:=by
  simp [Array.mapM_eq_mapM_toList,size_run cells_22,size_run cells_3,size_run cells_37,size_run cells_4]
theorem b_39_0_1_2 {v0 v1 v2 : Value} {c0_0 : Value} (h0 : v0.cells = #[c0_0]) {c1_0 c1_1 c1_2 c1_3 : Value} (h1 : v1.cells = #[c1_0,c1_1,c1_2,c1_3]) {c2_0 c2_1 c2_2 c2_3 : Value} (h2 : v2.cells = #[c2_0,c2_1,c2_2,c2_3])  (w : World) : (Instr.build 39 #[(0,v0),(1,v1),(2,v2)]).run Tryz.prog w = .ok (.agg #[c0_0,c1_0,c1_1,c1_2,c1_3,c2_0,c2_1,c2_2,c2_3,(.bool false),(.slice none 0 0)]) w:=run_build_struct Tryz.underlying39 zero_39 places_39 (by simp [Instr.fill,agg_cells,h0,h1,h2]) w
theorem r_build_39_0_1_2 {l : List Value} {ty : TypeId} {x0 x1 x2 : Operand} {c0_0 : Value} (h0 : (ev l x0).cells = #[c0_0]) {c1_0 c1_1 c1_2 c1_3 : Value} (h1 : (ev l x1).cells = #[c1_0,c1_1,c1_2,c1_3]) {c2_0 c2_1 c2_2 c2_3 : Value} (h2 : (ev l x2).cells = #[c2_0,c2_1,c2_2,c2_3]) : Run Tryz.prog l (.build 39 #[(0,x0),(1,x1),(2,x2)]) ty (.agg #[c0_0,c1_0,c1_1,c1_2,c1_3,c2_0,c2_1,c2_2,c2_3,(.bool false),(.slice none 0 0)]):=r_build (vs:=#[(0,ev l x0),(1,ev l x1),(2,ev l x2)]) (by simp) fun w=>b_39_0_1_2 h0 h1 h2 w
theorem b_39_0_1_2_3_4 {v0 v1 v2 v3 v4 : Value} {c0_0 : Value} (h0 : v0.cells = #[c0_0]) {c1_0 c1_1 c1_2 c1_3 : Value} (h1 : v1.cells = #[c1_0,c1_1,c1_2,c1_3]) {c2_0 c2_1 c2_2 c2_3 : Value} (h2 : v2.cells = #[c2_0,c2_1,c2_2,c2_3]) {c3_0 : Value} (h3 : v3.cells = #[c3_0]) {c4_0 : Value} (h4 : v4.cells = #[c4_0])  (w : World) : (Instr.build 39 #[(0,v0),(1,v1),(2,v2),(3,v3),(4,v4)]).run Tryz.prog w = .ok (.agg #[c0_0,c1_0,c1_1,c1_2,c1_3,c2_0,c2_1,c2_2,c2_3,c3_0,c4_0]) w:=run_build_struct Tryz.underlying39 zero_39 places_39 (by simp [Instr.fill,agg_cells,h0,h1,h2,h3,h4]) w
theorem r_build_39_0_1_2_3_4 {l : List Value} {ty : TypeId} {x0 x1 x2 x3 x4 : Operand} {c0_0 : Value} (h0 : (ev l x0).cells = #[c0_0]) {c1_0 c1_1 c1_2 c1_3 : Value} (h1 : (ev l x1).cells = #[c1_0,c1_1,c1_2,c1_3]) {c2_0 c2_1 c2_2 c2_3 : Value} (h2 : (ev l x2).cells = #[c2_0,c2_1,c2_2,c2_3]) {c3_0 : Value} (h3 : (ev l x3).cells = #[c3_0]) {c4_0 : Value} (h4 : (ev l x4).cells = #[c4_0]) : Run Tryz.prog l (.build 39 #[(0,x0),(1,x1),(2,x2),(3,x3),(4,x4)]) ty (.agg #[c0_0,c1_0,c1_1,c1_2,c1_3,c2_0,c2_1,c2_2,c2_3,c3_0,c4_0]):=r_build (vs:=#[(0,ev l x0),(1,ev l x1),(2,ev l x2),(3,ev l x3),(4,ev l x4)]) (by simp) fun w=>b_39_0_1_2_3_4 h0 h1 h2 h3 h4 w
theorem b_39_0_1_2_4 {v0 v1 v2 v4 : Value} {c0_0 : Value} (h0 : v0.cells = #[c0_0]) {c1_0 c1_1 c1_2 c1_3 : Value} (h1 : v1.cells = #[c1_0,c1_1,c1_2,c1_3]) {c2_0 c2_1 c2_2 c2_3 : Value} (h2 : v2.cells = #[c2_0,c2_1,c2_2,c2_3]) {c4_0 : Value} (h4 : v4.cells = #[c4_0])  (w : World) : (Instr.build 39 #[(0,v0),(1,v1),(2,v2),(4,v4)]).run Tryz.prog w = .ok (.agg #[c0_0,c1_0,c1_1,c1_2,c1_3,c2_0,c2_1,c2_2,c2_3,(.bool false),c4_0]) w:=run_build_struct Tryz.underlying39 zero_39 places_39 (by simp [Instr.fill,agg_cells,h0,h1,h2,h4]) w
theorem r_build_39_0_1_2_4 {l : List Value} {ty : TypeId} {x0 x1 x2 x4 : Operand} {c0_0 : Value} (h0 : (ev l x0).cells = #[c0_0]) {c1_0 c1_1 c1_2 c1_3 : Value} (h1 : (ev l x1).cells = #[c1_0,c1_1,c1_2,c1_3]) {c2_0 c2_1 c2_2 c2_3 : Value} (h2 : (ev l x2).cells = #[c2_0,c2_1,c2_2,c2_3]) {c4_0 : Value} (h4 : (ev l x4).cells = #[c4_0]) : Run Tryz.prog l (.build 39 #[(0,x0),(1,x1),(2,x2),(4,x4)]) ty (.agg #[c0_0,c1_0,c1_1,c1_2,c1_3,c2_0,c2_1,c2_2,c2_3,(.bool false),c4_0]):=r_build (vs:=#[(0,ev l x0),(1,ev l x1),(2,ev l x2),(4,ev l x4)]) (by simp) fun w=>b_39_0_1_2_4 h0 h1 h2 h4 w
theorem places_43 (w : World) : ((#[{ name := "T", type:=37,offset:=0,embedded:=false,tag := "", pkgPath := "", byteOffset:=0 },{ name := "Tri", type:=3,offset:=4,embedded:=false,tag := "", pkgPath := "", byteOffset:=48 }] : Array Field).mapM fun f=>do pure (f.offset,← sizeOf f.type) : Sem (Array (Nat × Nat))).run Tryz.prog w = .ok #[(0,4),(4,1)] w:=by
  simp [Array.mapM_eq_mapM_toList,size_run cells_3,size_run cells_37]
theorem b_43_0 {v0 : Value} {c0_0 c0_1 c0_2 c0_3 : Value} (h0 : v0.cells = #[c0_0,c0_1,c0_2,c0_3])  (w : World) : (Instr.build 43 #[(0,v0)]).run Tryz.prog w = .ok (.agg #[c0_0,c0_1,c0_2,c0_3,(.int .i64 0)]) w:=run_build_struct Tryz.underlying43 zero_43 places_43 (by simp [Instr.fill,agg_cells,h0]) w
theorem r_build_43_0 {l : List Value} {ty : TypeId} {x0 : Operand} {c0_0 c0_1 c0_2 c0_3 : Value} (h0 : (ev l x0).cells = #[c0_0,c0_1,c0_2,c0_3]) : Run Tryz.prog l (.build 43 #[(0,x0)]) ty (.agg #[c0_0,c0_1,c0_2,c0_3,(.int .i64 0)]):=r_build (vs:=#[(0,ev l x0)]) (by simp) fun w=>b_43_0 h0 w
theorem b_43_0_1 {v0 v1 : Value} {c0_0 c0_1 c0_2 c0_3 : Value} (h0 : v0.cells = #[c0_0,c0_1,c0_2,c0_3]) {c1_0 : Value} (h1 : v1.cells = #[c1_0])  (w : World) : (Instr.build 43 #[(0,v0),(1,v1)]).run Tryz.prog w = .ok (.agg #[c0_0,c0_1,c0_2,c0_3,c1_0]) w:=run_build_struct Tryz.underlying43 zero_43 places_43 (by simp [Instr.fill,agg_cells,h0,h1]) w
theorem r_build_43_0_1 {l : List Value} {ty : TypeId} {x0 x1 : Operand} {c0_0 c0_1 c0_2 c0_3 : Value} (h0 : (ev l x0).cells = #[c0_0,c0_1,c0_2,c0_3]) {c1_0 : Value} (h1 : (ev l x1).cells = #[c1_0]) : Run Tryz.prog l (.build 43 #[(0,x0),(1,x1)]) ty (.agg #[c0_0,c0_1,c0_2,c0_3,c1_0]):=r_build (vs:=#[(0,ev l x0),(1,ev l x1)]) (by simp) fun w=>b_43_0_1 h0 h1 w
theorem places_56 (w : World) : ((#[{ name := "X", type:=3,offset:=0,embedded:=false,tag := "", pkgPath := "", byteOffset:=0 },{ name := "Y", type:=3,offset:=1,embedded:=false,tag := "", pkgPath := "", byteOffset:=8 },{ name := "Z", type:=3,offset:=2,embedded:=false,tag := "", pkgPath := "", byteOffset:=16 }] : Array Field).mapM fun f=>do pure (f.offset,← sizeOf f.type) : Sem (Array (Nat × Nat))).run Tryz.prog w = .ok #[(0,1),(1,1),(2,1)] w:=by
  simp [Array.mapM_eq_mapM_toList,size_run cells_3]
theorem b_56_0_1_2 {v0 v1 v2 : Value} {c0_0 : Value} (h0 : v0.cells = #[c0_0]) {c1_0 : Value} (h1 : v1.cells = #[c1_0]) {c2_0 : Value} (h2 : v2.cells = #[c2_0])  (w : World) : (Instr.build 56 #[(0,v0),(1,v1),(2,v2)]).run Tryz.prog w = .ok (.agg #[c0_0,c1_0,c2_0]) w:=run_build_struct Tryz.underlying56 zero_56 places_56 (by simp [Instr.fill,agg_cells,h0,h1,h2]) w
theorem r_build_56_0_1_2 {l : List Value} {ty : TypeId} {x0 x1 x2 : Operand} {c0_0 : Value} (h0 : (ev l x0).cells = #[c0_0]) {c1_0 : Value} (h1 : (ev l x1).cells = #[c1_0]) {c2_0 : Value} (h2 : (ev l x2).cells = #[c2_0]) : Run Tryz.prog l (.build 56 #[(0,x0),(1,x1),(2,x2)]) ty (.agg #[c0_0,c1_0,c2_0]):=r_build (vs:=#[(0,ev l x0),(1,ev l x1),(2,ev l x2)]) (by simp) fun w=>b_56_0_1_2 h0 h1 h2 w
theorem b_58_0_1_2 {v0 v1 v2 : Value} {c0_0 c0_1 c0_2 : Value} (h0 : v0.cells = #[c0_0,c0_1,c0_2]) {c1_0 c1_1 c1_2 : Value} (h1 : v1.cells = #[c1_0,c1_1,c1_2]) {c2_0 c2_1 c2_2 : Value} (h2 : v2.cells = #[c2_0,c2_1,c2_2])  (w : World) : (Instr.build 58 #[(0,v0),(1,v1),(2,v2)]).run Tryz.prog w = .ok (.agg #[c0_0,c0_1,c0_2,c1_0,c1_1,c1_2,c2_0,c2_1,c2_2]) w:=run_build_array Tryz.underlying58 zero_58 cells_56 (by simp [Instr.fill,agg_cells,h0,h1,h2]) w
theorem r_build_58_0_1_2 {l : List Value} {ty : TypeId} {x0 x1 x2 : Operand} {c0_0 c0_1 c0_2 : Value} (h0 : (ev l x0).cells = #[c0_0,c0_1,c0_2]) {c1_0 c1_1 c1_2 : Value} (h1 : (ev l x1).cells = #[c1_0,c1_1,c1_2]) {c2_0 c2_1 c2_2 : Value} (h2 : (ev l x2).cells = #[c2_0,c2_1,c2_2]) : Run Tryz.prog l (.build 58 #[(0,x0),(1,x1),(2,x2)]) ty (.agg #[c0_0,c0_1,c0_2,c1_0,c1_1,c1_2,c2_0,c2_1,c2_2]):=r_build (vs:=#[(0,ev l x0),(1,ev l x1),(2,ev l x2)]) (by simp) fun w=>b_58_0_1_2 h0 h1 h2 w
theorem places_69 (w : World) : ((#[{ name := "base", type:=67,offset:=0,embedded:=true,tag := "", pkgPath := "lithophane/trace", byteOffset:=0 }] : Array Field).mapM fun f=>do pure (f.offset,← sizeOf f.type) : Sem (Array (Nat × Nat))).run Tryz.prog w = .ok #[(0,1)] w:=by
  simp [Array.mapM_eq_mapM_toList,size_run cells_67]
theorem b_69_0 {v0 : Value} {c0_0 : Value} (h0 : v0.cells = #[c0_0])  (w : World) : (Instr.build 69 #[(0,v0)]).run Tryz.prog w = .ok (.agg #[c0_0]) w:=run_build_struct Tryz.underlying69 zero_69 places_69 (by simp [Instr.fill,agg_cells,h0]) w
theorem r_build_69_0 {l : List Value} {ty : TypeId} {x0 : Operand} {c0_0 : Value} (h0 : (ev l x0).cells = #[c0_0]) : Run Tryz.prog l (.build 69 #[(0,x0)]) ty (.agg #[c0_0]):=r_build (vs:=#[(0,ev l x0)]) (by simp) fun w=>b_69_0 h0 w
theorem places_83 (w : World) : ((#[{ name := "base", type:=67,offset:=0,embedded:=true,tag := "", pkgPath := "lithophane/trace", byteOffset:=0 }] : Array Field).mapM fun f=>do pure (f.offset,← sizeOf f.type) : Sem (Array (Nat × Nat))).run Tryz.prog w = .ok #[(0,1)] w:=by
  simp [Array.mapM_eq_mapM_toList,size_run cells_67]
theorem b_83_0 {v0 : Value} {c0_0 : Value} (h0 : v0.cells = #[c0_0])  (w : World) : (Instr.build 83 #[(0,v0)]).run Tryz.prog w = .ok (.agg #[c0_0]) w:=run_build_struct Tryz.underlying83 zero_83 places_83 (by simp [Instr.fill,agg_cells,h0]) w
theorem r_build_83_0 {l : List Value} {ty : TypeId} {x0 : Operand} {c0_0 : Value} (h0 : (ev l x0).cells = #[c0_0]) : Run Tryz.prog l (.build 83 #[(0,x0)]) ty (.agg #[c0_0]):=r_build (vs:=#[(0,ev l x0)]) (by simp) fun w=>b_83_0 h0 w
theorem places_88 (w : World) : ((#[{ name := "base", type:=67,offset:=0,embedded:=true,tag := "", pkgPath := "lithophane/trace", byteOffset:=0 },{ name := "lo", type:=56,offset:=1,embedded:=false,tag := "", pkgPath := "lithophane/trace", byteOffset:=8 },{ name := "hi", type:=56,offset:=4,embedded:=false,tag := "", pkgPath := "lithophane/trace", byteOffset:=32 }] : Array Field).mapM fun f=>do pure (f.offset,← sizeOf f.type) : Sem (Array (Nat × Nat))).run Tryz.prog w = .ok #[(0,1),(1,3),(4,3)] w:=by
  simp [Array.mapM_eq_mapM_toList,size_run cells_56,size_run cells_67]
theorem b_88_0_1_2 {v0 v1 v2 : Value} {c0_0 : Value} (h0 : v0.cells = #[c0_0]) {c1_0 c1_1 c1_2 : Value} (h1 : v1.cells = #[c1_0,c1_1,c1_2]) {c2_0 c2_1 c2_2 : Value} (h2 : v2.cells = #[c2_0,c2_1,c2_2])  (w : World) : (Instr.build 88 #[(0,v0),(1,v1),(2,v2)]).run Tryz.prog w = .ok (.agg #[c0_0,c1_0,c1_1,c1_2,c2_0,c2_1,c2_2]) w:=run_build_struct Tryz.underlying88 zero_88 places_88 (by simp [Instr.fill,agg_cells,h0,h1,h2]) w
theorem r_build_88_0_1_2 {l : List Value} {ty : TypeId} {x0 x1 x2 : Operand} {c0_0 : Value} (h0 : (ev l x0).cells = #[c0_0]) {c1_0 c1_1 c1_2 : Value} (h1 : (ev l x1).cells = #[c1_0,c1_1,c1_2]) {c2_0 c2_1 c2_2 : Value} (h2 : (ev l x2).cells = #[c2_0,c2_1,c2_2]) : Run Tryz.prog l (.build 88 #[(0,x0),(1,x1),(2,x2)]) ty (.agg #[c0_0,c1_0,c1_1,c1_2,c2_0,c2_1,c2_2]):=r_build (vs:=#[(0,ev l x0),(1,ev l x1),(2,ev l x2)]) (by simp) fun w=>b_88_0_1_2 h0 h1 h2 w
theorem b_108_  (w : World) : (Instr.build 108 #[]).run Tryz.prog w = .ok (.agg #[(.bool false),(.string ⟨#[]⟩),(.bool false),(.string ⟨#[]⟩),(.bool false),(.string ⟨#[]⟩)]) w:=run_build_array Tryz.underlying108 zero_108 cells_35 (by simp [Instr.fill,agg_cells]) w
theorem r_build_108_ {l : List Value} {ty : TypeId}  : Run Tryz.prog l (.build 108 #[]) ty (.agg #[(.bool false),(.string ⟨#[]⟩),(.bool false),(.string ⟨#[]⟩),(.bool false),(.string ⟨#[]⟩)]):=r_build (vs:=#[]) (by simp) fun w=>b_108_  w
theorem b_108_0_1_2 {v0 v1 v2 : Value} {c0_0 c0_1 : Value} (h0 : v0.cells = #[c0_0,c0_1]) {c1_0 c1_1 : Value} (h1 : v1.cells = #[c1_0,c1_1]) {c2_0 c2_1 : Value} (h2 : v2.cells = #[c2_0,c2_1])  (w : World) : (Instr.build 108 #[(0,v0),(1,v1),(2,v2)]).run Tryz.prog w = .ok (.agg #[c0_0,c0_1,c1_0,c1_1,c2_0,c2_1]) w:=run_build_array Tryz.underlying108 zero_108 cells_35 (by simp [Instr.fill,agg_cells,h0,h1,h2]) w
theorem r_build_108_0_1_2 {l : List Value} {ty : TypeId} {x0 x1 x2 : Operand} {c0_0 c0_1 : Value} (h0 : (ev l x0).cells = #[c0_0,c0_1]) {c1_0 c1_1 : Value} (h1 : (ev l x1).cells = #[c1_0,c1_1]) {c2_0 c2_1 : Value} (h2 : (ev l x2).cells = #[c2_0,c2_1]) : Run Tryz.prog l (.build 108 #[(0,x0),(1,x1),(2,x2)]) ty (.agg #[c0_0,c0_1,c1_0,c1_1,c2_0,c2_1]):=r_build (vs:=#[(0,ev l x0),(1,ev l x1),(2,ev l x2)]) (by simp) fun w=>b_108_0_1_2 h0 h1 h2 w
theorem b_134_0_1_2_3_4_5 {v0 v1 v2 v3 v4 v5 : Value} {c0_0 c0_1 c0_2 : Value} (h0 : v0.cells = #[c0_0,c0_1,c0_2]) {c1_0 c1_1 c1_2 : Value} (h1 : v1.cells = #[c1_0,c1_1,c1_2]) {c2_0 c2_1 c2_2 : Value} (h2 : v2.cells = #[c2_0,c2_1,c2_2]) {c3_0 c3_1 c3_2 : Value} (h3 : v3.cells = #[c3_0,c3_1,c3_2]) {c4_0 c4_1 c4_2 : Value} (h4 : v4.cells = #[c4_0,c4_1,c4_2]) {c5_0 c5_1 c5_2 : Value} (h5 : v5.cells = #[c5_0,c5_1,c5_2])  (w : World) : (Instr.build 134 #[(0,v0),(1,v1),(2,v2),(3,v3),(4,v4),(5,v5)]).run Tryz.prog w = .ok (.agg #[c0_0,c0_1,c0_2,c1_0,c1_1,c1_2,c2_0,c2_1,c2_2,c3_0,c3_1,c3_2,c4_0,c4_1,c4_2,c5_0,c5_1,c5_2]) w:=run_build_array Tryz.underlying134 zero_134 cells_23 (by simp [Instr.fill,agg_cells,h0,h1,h2,h3,h4,h5]) w
theorem r_build_134_0_1_2_3_4_5 {l : List Value} {ty : TypeId} {x0 x1 x2 x3 x4 x5 : Operand} {c0_0 c0_1 c0_2 : Value} (h0 : (ev l x0).cells = #[c0_0,c0_1,c0_2]) {c1_0 c1_1 c1_2 : Value} (h1 : (ev l x1).cells = #[c1_0,c1_1,c1_2]) {c2_0 c2_1 c2_2 : Value} (h2 : (ev l x2).cells = #[c2_0,c2_1,c2_2]) {c3_0 c3_1 c3_2 : Value} (h3 : (ev l x3).cells = #[c3_0,c3_1,c3_2]) {c4_0 c4_1 c4_2 : Value} (h4 : (ev l x4).cells = #[c4_0,c4_1,c4_2]) {c5_0 c5_1 c5_2 : Value} (h5 : (ev l x5).cells = #[c5_0,c5_1,c5_2]) : Run Tryz.prog l (.build 134 #[(0,x0),(1,x1),(2,x2),(3,x3),(4,x4),(5,x5)]) ty (.agg #[c0_0,c0_1,c0_2,c1_0,c1_1,c1_2,c2_0,c2_1,c2_2,c3_0,c3_1,c3_2,c4_0,c4_1,c4_2,c5_0,c5_1,c5_2]):=r_build (vs:=#[(0,ev l x0),(1,ev l x1),(2,ev l x2),(3,ev l x3),(4,ev l x4),(5,ev l x5)]) (by simp) fun w=>b_134_0_1_2_3_4_5 h0 h1 h2 h3 h4 h5 w
theorem b_176_0_1_2 {v0 v1 v2 : Value} {c0_0 : Value} (h0 : v0.cells = #[c0_0]) {c1_0 : Value} (h1 : v1.cells = #[c1_0]) {c2_0 : Value} (h2 : v2.cells = #[c2_0])  (w : World) : (Instr.build 176 #[(0,v0),(1,v1),(2,v2)]).run Tryz.prog w = .ok (.agg #[c0_0,c1_0,c2_0]) w:=run_build_array Tryz.underlying176 zero_176 cells_3 (by simp [Instr.fill,agg_cells,h0,h1,h2]) w
theorem r_build_176_0_1_2 {l : List Value} {ty : TypeId} {x0 x1 x2 : Operand} {c0_0 : Value} (h0 : (ev l x0).cells = #[c0_0]) {c1_0 : Value} (h1 : (ev l x1).cells = #[c1_0]) {c2_0 : Value} (h2 : (ev l x2).cells = #[c2_0]) : Run Tryz.prog l (.build 176 #[(0,x0),(1,x1),(2,x2)]) ty (.agg #[c0_0,c1_0,c2_0]):=r_build (vs:=#[(0,ev l x0),(1,ev l x1),(2,ev l x2)]) (by simp) fun w=>b_176_0_1_2 h0 h1 h2 w
theorem b_181_0_1_2 {v0 v1 v2 : Value} {c0_0 : Value} (h0 : v0.cells = #[c0_0]) {c1_0 : Value} (h1 : v1.cells = #[c1_0]) {c2_0 : Value} (h2 : v2.cells = #[c2_0])  (w : World) : (Instr.build 181 #[(0,v0),(1,v1),(2,v2)]).run Tryz.prog w = .ok (.agg #[c0_0,c1_0,c2_0]) w:=run_build_array Tryz.underlying181 zero_181 cells_180 (by simp [Instr.fill,agg_cells,h0,h1,h2]) w
theorem r_build_181_0_1_2 {l : List Value} {ty : TypeId} {x0 x1 x2 : Operand} {c0_0 : Value} (h0 : (ev l x0).cells = #[c0_0]) {c1_0 : Value} (h1 : (ev l x1).cells = #[c1_0]) {c2_0 : Value} (h2 : (ev l x2).cells = #[c2_0]) : Run Tryz.prog l (.build 181 #[(0,x0),(1,x1),(2,x2)]) ty (.agg #[c0_0,c1_0,c2_0]):=r_build (vs:=#[(0,ev l x0),(1,ev l x1),(2,ev l x2)]) (by simp) fun w=>b_181_0_1_2 h0 h1 h2 w
theorem eqr_23 (d : Nat) {x0 y0 : Int} {x1 y1 : Int} {x2 y2 : Int} : EqR Tryz.prog (d + 2) 23 (.agg #[.int .i64 x0,.int .i64 x1,.int .i64 x2]) (.agg #[.int .i64 y0,.int .i64 y1,.int .i64 y2]) (x0 = y0 ∧ x1 = y1 ∧ x2 = y2):=(EqR.array Tryz.underlying23 cells_3 (ItmR.cons (part_one agg_3 rfl) (part_one agg_3 rfl) (EqR.int (d:=d + 0) Tryz.underlying3) (ItmR.cons (part_one agg_3 rfl) (part_one agg_3 rfl) (EqR.int (d:=d + 0) Tryz.underlying3) (ItmR.cons (part_one agg_3 rfl) (part_one agg_3 rfl) (EqR.int (d:=d + 0) Tryz.underlying3) ItmR.nil)))).iff (by simp only [and_assoc,and_true])
theorem eq_eql_23 {l : List Value} {ty T' : TypeId} {x y : Operand} {x0 y0 : Int} {x1 y1 : Int} {x2 y2 : Int} (hx : ev l x = (.agg #[.int .i64 x0,.int .i64 x1,.int .i64 x2])) (hy : ev l y = (.agg #[.int .i64 y0,.int .i64 y1,.int .i64 y2])) : Run Tryz.prog l (.binOp .eql 23 x y T') ty (.bool (decide (x0 = y0 ∧ x1 = y1 ∧ x2 = y2))):=r_eqlR (by kernel_rfl) hx hy (eqr_23 9998)
theorem eq_neq_23 {l : List Value} {ty T' : TypeId} {x y : Operand} {x0 y0 : Int} {x1 y1 : Int} {x2 y2 : Int} (hx : ev l x = (.agg #[.int .i64 x0,.int .i64 x1,.int .i64 x2])) (hy : ev l y = (.agg #[.int .i64 y0,.int .i64 y1,.int .i64 y2])) : Run Tryz.prog l (.binOp .neq 23 x y T') ty (.bool (decide (¬ (x0 = y0 ∧ x1 = y1 ∧ x2 = y2)))):=r_neqR (by kernel_rfl) hx hy (eqr_23 9998)
theorem eqr_35 (d : Nat) {x0 y0 : Bool} {x1 y1 : ByteArray} : EqR Tryz.prog (d + 2) 35 (.agg #[.bool x0,.string x1]) (.agg #[.bool y0,.string y1]) (x0 = y0 ∧ x1 = y1):=(EqR.struct Tryz.underlying35 (by kernel_rfl) (FldR.cons (by decide) (part_one agg_4 rfl) (part_one agg_4 rfl) (EqR.bool (d:=d + 0) Tryz.underlying4) (FldR.cons (by decide) (part_one agg_9 rfl) (part_one agg_9 rfl) (EqR.str (d:=d + 0) Tryz.underlying9) FldR.nil))).iff (by simp only [and_assoc,and_true])
theorem eqr_37 (d : Nat) {x0 y0 : Bool} {x1 y1 : ByteArray} {x2 y2 : Bool} {x3 y3 : ByteArray} : EqR Tryz.prog (d + 3) 37 (.agg #[.bool x0,.string x1,.bool x2,.string x3]) (.agg #[.bool y0,.string y1,.bool y2,.string y3]) (x0 = y0 ∧ x1 = y1 ∧ x2 = y2 ∧ x3 = y3):=(EqR.struct Tryz.underlying37 (by kernel_rfl) (FldR.cons (by decide) (part_agg agg_35 cells_35 rfl) (part_agg agg_35 cells_35 rfl) (eqr_35 (d + 0)) (FldR.cons (by decide) (part_agg agg_35 cells_35 rfl) (part_agg agg_35 cells_35 rfl) (eqr_35 (d + 0)) FldR.nil))).iff (by simp only [and_assoc,and_true])
theorem eq_neq_37 {l : List Value} {ty T' : TypeId} {x y : Operand} {x0 y0 : Bool} {x1 y1 : ByteArray} {x2 y2 : Bool} {x3 y3 : ByteArray} (hx : ev l x = (.agg #[.bool x0,.string x1,.bool x2,.string x3])) (hy : ev l y = (.agg #[.bool y0,.string y1,.bool y2,.string y3])) : Run Tryz.prog l (.binOp .neq 37 x y T') ty (.bool (decide (¬ (x0 = y0 ∧ x1 = y1 ∧ x2 = y2 ∧ x3 = y3)))):=r_neqR (by kernel_rfl) hx hy (eqr_37 9997)
theorem eqr_56 (d : Nat) {x0 y0 : Int} {x1 y1 : Int} {x2 y2 : Int} : EqR Tryz.prog (d + 2) 56 (.agg #[.int .i64 x0,.int .i64 x1,.int .i64 x2]) (.agg #[.int .i64 y0,.int .i64 y1,.int .i64 y2]) (x0 = y0 ∧ x1 = y1 ∧ x2 = y2):=(EqR.struct Tryz.underlying56 (by kernel_rfl) (FldR.cons (by decide) (part_one agg_3 rfl) (part_one agg_3 rfl) (EqR.int (d:=d + 0) Tryz.underlying3) (FldR.cons (by decide) (part_one agg_3 rfl) (part_one agg_3 rfl) (EqR.int (d:=d + 0) Tryz.underlying3) (FldR.cons (by decide) (part_one agg_3 rfl) (part_one agg_3 rfl) (EqR.int (d:=d + 0) Tryz.underlying3) FldR.nil)))).iff (by simp only [and_assoc,and_true])
end Go.Proofs.YtimjandkmfcmiaaGreatDoor
namespace Go.Lith
/-! ### Digits -/
def val (B : Nat) : List Nat → Nat
  | []=>0
  | x :: xs=>x + B * val B xs
def trim : List Nat → List Nat
  | []=>[]
  | x :: xs=>if trim xs = [] ∧ x = 0 then [] else x :: trim xs
def Digs (B : Nat) (xs : List Nat) : Prop:=∀ x ∈ xs,x < B
theorem val_append (B : Nat) : ∀ xs ys : List Nat,val B (xs ++ ys) = val B xs + B ^ xs.length * val B ys
  | [],ys=>by simp [val]
  | x :: xs,ys=>by simp only [List.cons_append,val,val_append B xs ys,List.length_cons,Nat.pow_succ]; grind
theorem val_lt {B : Nat} : ∀ {xs : List Nat},Digs B xs → val B xs < B ^ xs.length
  | [],_=>by simp [val]
  | x :: xs,h=>by
    have h1 : x < B:=h x (by simp)
    have h2:=val_lt (xs:=xs) fun y hy=>h y (by simp [hy])
    simp only [val,List.length_cons,Nat.pow_succ]
    have h3 : val B xs + 1 ≤ B ^ xs.length:=h2
    have:=Nat.mul_le_mul_left B h3
    grind
theorem val_trim (B : Nat) : ∀ xs : List Nat,val B (trim xs) = val B xs
  | []=>rfl
  | x :: xs=>by
    have ih:=val_trim B xs
    simp only [trim]
    split
    · rename_i h; rw [h.1] at ih; simp only [val] at ih ⊢; rw [← ih,h.2]; simp
    · simp only [val,ih]
theorem trim_eq_take : ∀ xs : List Nat,trim xs = xs.take (trim xs).length
  | []=>rfl
  | x :: xs=>by
    simp only [trim]
    split
    · rfl
    · simp only [List.length_cons,List.take_succ_cons]; rw [← trim_eq_take xs]
theorem Digs.take {B : Nat} {xs : List Nat} (h : Digs B xs) (n : Nat) : Digs B (xs.take n):=fun x hx=>h x (List.mem_of_mem_take hx)
theorem Digs.drop {B : Nat} {xs : List Nat} (h : Digs B xs) (n : Nat) : Digs B (xs.drop n):=fun x hx=>h x (List.mem_of_mem_drop hx)
theorem Digs.trim {B : Nat} {xs : List Nat} (h : Digs B xs) : Digs B (trim xs):=by rw [trim_eq_take]; exact h.take _
theorem Digs.append {B : Nat} {xs ys : List Nat} (h : Digs B xs) (k : Digs B ys) : Digs B (xs ++ ys):=fun x hx=>by
  rcases List.mem_append.1 hx with h' | h'
  · exact h x h'
  · exact k x h'
theorem digs_nil (B : Nat) : Digs B []:=fun _ h=>by cases h
theorem digs_cons {B x : Nat} {xs : List Nat} (hx : x < B) (h : Digs B xs) : Digs B (x :: xs):=fun y hy=>by
  rcases List.mem_cons.1 hy with rfl | h'
  · exact hx
  · exact h y h'
theorem Digs.set {B : Nat} {xs : List Nat} (h : Digs B xs) {i x : Nat} (hx : x < B) : Digs B (xs.set i x):=fun y hy=>by
  rcases List.mem_or_eq_of_mem_set hy with h' | rfl
  · exact h y h'
  · exact hx
theorem Digs.get {B : Nat} {xs : List Nat} (h : Digs B xs) {i x : Nat} (hi : xs[i]? = some x) : x < B:=h x (List.mem_of_getElem? hi)
def Trimmed (xs : List Nat) : Prop:=trim xs = xs
theorem trim_trim : ∀ xs : List Nat,trim (trim xs) = trim xs
  | []=>rfl
  | x :: xs=>by
    have ih:=trim_trim xs
    simp only [trim]
    split
    · rfl
    · rename_i h; simp only [trim,ih]; rw [if_neg h]
theorem trimmed_trim (xs : List Nat) : Trimmed (trim xs):=trim_trim xs
theorem Trimmed.tail {x : Nat} {xs : List Nat} (h : Trimmed (x :: xs)) : Trimmed xs:=by
  unfold Trimmed at *
  simp only [trim] at h
  split at h
  · cases h
  · simpa using h
theorem val_pos {B : Nat} (hB : 0 < B) : ∀ {xs : List Nat},Trimmed xs → xs ≠ [] → 0 < val B xs
  | [],_,h=>absurd rfl h
  | x :: xs,ht,_=>by
    simp only [val]
    by_cases hx : xs = []
    · subst hx
      have : x ≠ 0:=by
        rintro rfl
        simp [Trimmed,trim] at ht
      omega
    · have:=Nat.mul_pos hB (val_pos hB ht.tail hx)
      omega
theorem digs_unique {B : Nat} (hB : 1 < B) : ∀ {xs ys : List Nat},Digs B xs → Digs B ys → Trimmed xs → Trimmed ys → val B xs = val B ys → xs = ys
  | [],[],_,_,_,_,_=>rfl
  | [],y :: ys,_,_,_,hy,h=>by have:=val_pos (B:=B) (by omega) hy (by simp); rw [← h] at this; simp [val] at this
  | x :: xs,[],_,_,hx,_,h=>by have:=val_pos (B:=B) (by omega) hx (by simp); rw [h] at this; simp [val] at this
  | x :: xs,y :: ys,hx,hy,tx,ty,h=>by
    simp only [val] at h
    have h1 : x < B:=hx x (by simp)
    have h2 : y < B:=hy y (by simp)
    have e1 : x = y:=by
      have:=congrArg (· % B) h
      simpa [Nat.add_mul_mod_self_left,Nat.mod_eq_of_lt h1,Nat.mod_eq_of_lt h2] using this
    subst e1
    have e2 : val B xs = val B ys:=by
      have : B * val B xs = B * val B ys:=by omega
      exact Nat.eq_of_mul_eq_mul_left (by omega) this
    rw [digs_unique hB (fun z hz=>hx z (by simp [hz])) (fun z hz=>hy z (by simp [hz])) tx.tail ty.tail e2]
def digsF (B : Nat) : Nat → Nat → List Nat
  | 0,_=>[]
  | f + 1,n=>if n = 0 then [] else (n % B) :: digsF B f (n / B)
def digs (B n : Nat) : List Nat:=digsF B n n
theorem digsF_spec {B : Nat} (hB : 1 < B) : ∀ (f n : Nat),n ≤ f → val B (digsF B f n) = n ∧ Digs B (digsF B f n) ∧ Trimmed (digsF B f n)
  | 0, n, h => by obtain rfl : n = 0 := by omega
                  exact ⟨rfl,digs_nil B,rfl⟩
  | f + 1,n,h=>by
    simp only [digsF]
    split
    · rename_i h0; exact ⟨by simp [val,h0],digs_nil B,rfl⟩
    · rename_i h0
      have hlt : n / B ≤ f:=by
        have:=Nat.div_lt_self (Nat.pos_of_ne_zero h0) hB
        omega
      obtain ⟨h1,h2,h3⟩:=digsF_spec hB f (n / B) hlt
      refine ⟨by simp only [val,h1]; exact Nat.mod_add_div n B,digs_cons (Nat.mod_lt _ (by omega)) h2,?_⟩
      unfold Trimmed at *
      simp only [trim,h3]
      rw [if_neg]
      rintro ⟨h4,h5⟩
      rw [h4] at h1
      simp only [val] at h1
      have:=Nat.mod_add_div n B
      rw [h5,← h1] at this
      omega
theorem val_digs {B : Nat} (hB : 1 < B) (n : Nat) : val B (digs B n) = n:=(digsF_spec hB n n (Nat.le_refl _)).1
theorem digs_digs {B : Nat} (hB : 1 < B) (n : Nat) : Digs B (digs B n):=(digsF_spec hB n n (Nat.le_refl _)).2.1
theorem trimmed_digs {B : Nat} (hB : 1 < B) (n : Nat) : Trimmed (digs B n):=(digsF_spec hB n n (Nat.le_refl _)).2.2
theorem trim_eq_digs {B : Nat} (hB : 1 < B) {xs : List Nat} (h : Digs B xs) {n : Nat} (hv : val B xs = n) : trim xs = digs B n :=
  digs_unique hB h.trim (digs_digs hB n) (trimmed_trim xs) (trimmed_digs hB n) (by rw [val_trim,val_digs hB,hv])
theorem digs_eq_nil {B n : Nat} (hB : 1 < B) : digs B n = [] ↔ n = 0:=by
  constructor
  · intro h; rw [← val_digs hB n,h]; rfl
  · rintro rfl; rfl
theorem length_digs_le {B n k : Nat} (hB : 1 < B) (h : n < B ^ k) : (digs B n).length ≤ k:=by
  rcases Nat.lt_or_ge k (digs B n).length with hlt | hge
  · exfalso
    have hne : (digs B n) ≠ []:=by intro h'; rw [h'] at hlt; simp at hlt
    -- the greatest digit is not 0
    have key : ∀ xs : List Nat,Trimmed xs → xs ≠ [] → B ^ (xs.length - 1) ≤ val B xs:=by
      intro xs
      induction xs with
      | nil=>intro _ h; exact absurd rfl h
      | cons x xs ih =>
        intro ht _
        by_cases hx : xs = []
        · subst hx
          have:=val_pos (B:=B) (by omega) ht (by simp)
          simp [val] at this ⊢; omega
        · have:=ih ht.tail hx
          have h2 : xs.length ≠ 0:=by simpa using hx
          simp only [List.length_cons,val,Nat.add_sub_cancel]
          have e : xs.length = (xs.length - 1) + 1:=by omega
          rw [e,Nat.pow_succ]
          have:=Nat.mul_le_mul_left B this
          grind
    have:=key _ (trimmed_digs hB n) hne
    rw [val_digs hB] at this
    have h3 : B ^ k ≤ B ^ ((digs B n).length - 1):=Nat.pow_le_pow_right (by omega) (by omega)
    omega
  · exact hge
/-! ### Numbers as values -/
def wneg (n : Int) : Bool:=decide (n < 0)
def beBytes (n : Nat) : List UInt8:=(digs 256 n).reverse.map UInt8.ofNat
def wmag (n : Int) : ByteArray:=⟨(beBytes n.natAbs).toArray⟩
def W (n : Int) : Value:=.agg #[.bool (wneg n),.string (wmag n)]
def Bd (k : Nat) (n : Int) : Prop:=n.natAbs < 2 ^ k
theorem Bd.mono {a b : Nat} {n : Int} (h : Bd a n) (hab : a ≤ b) : Bd b n:=Nat.lt_of_lt_of_le h (Nat.pow_le_pow_right (by omega) hab)
theorem Bd.neg {a : Nat} {n : Int} (h : Bd a n) : Bd a (-n):=by unfold Bd at *; rwa [Int.natAbs_neg]
theorem Bd.add {a b : Nat} {m n : Int} (h : Bd a m) (k : Bd b n) : Bd (max a b + 1) (m + n):=by
  unfold Bd at *
  have h1 : (m + n).natAbs ≤ m.natAbs + n.natAbs:=Int.natAbs_add_le m n
  have h2 : 2 ^ a ≤ 2 ^ max a b:=Nat.pow_le_pow_right (by omega) (Nat.le_max_left a b)
  have h3 : 2 ^ b ≤ 2 ^ max a b:=Nat.pow_le_pow_right (by omega) (Nat.le_max_right a b)
  rw [Nat.pow_succ]
  omega
theorem Bd.sub {a b : Nat} {m n : Int} (h : Bd a m) (k : Bd b n) : Bd (max a b + 1) (m - n):=by rw [Int.sub_eq_add_neg]; exact h.add k.neg
theorem Bd.mul {a b : Nat} {m n : Int} (h : Bd a m) (k : Bd b n) : Bd (a + b) (m * n):=by
  unfold Bd at *
  rw [Int.natAbs_mul,Nat.pow_add]
  exact Nat.mul_lt_mul_of_lt_of_lt h k
theorem Bd.of_i64 {n : Int} (h0 : -9223372036854775808 ≤ n) (h1 : n ≤ 9223372036854775807) : Bd 64 n:=by
  unfold Bd
  omega
theorem bd_zero (k : Nat) : Bd k 0:=by unfold Bd; exact Nat.two_pow_pos k
theorem Bd.of_le {a : Nat} {m n : Int} (h : Bd a n) (hle : m.natAbs ≤ n.natAbs) : Bd a m:=Nat.lt_of_le_of_lt hle h
theorem size_wmag (n : Int) : (wmag n).size = (digs 256 n.natAbs).length:=by simp [wmag,ByteArray.size,beBytes]
theorem size_wmag_le {k : Nat} {n : Int} (h : Bd k n) : (wmag n).size ≤ k:=by
  rw [size_wmag]
  refine length_digs_le (by omega) (Nat.lt_of_lt_of_le h ?_)
  rw [show 256 = 2 ^ 8 from rfl,← Nat.pow_mul]
  exact Nat.pow_le_pow_right (by omega) (by omega)
end Go.Lith
namespace Go.Lith
structure NatAt (w : World) (A : Option Addr) (n cap : Nat) (xs : List Nat) : Prop where
  eq : n = xs.length
  row : ∀ (i x : Nat),xs[i]? = some x → ∃ a,A = some a ∧ w.cell? (a.add i) = some (.int .u64 (x : Int))
  le : xs.length ≤ cap
  cap : cap ≤ 9223372036854775807
  len : xs.length ≤ 17592186044416
  digs : Digs 4294967296 xs
section
variable {w : World} {A : Option Addr} {n cap : Nat} {xs : List Nat}
theorem NatAt.ext {w' : World} (h : NatAt w A n cap xs) (hE : Ext w w') : NatAt w' A n cap xs :=
  ⟨h.eq,fun i x hi=>let ⟨a,e,hc⟩:=h.row i x hi; ⟨a,e,hE.cell hc⟩,h.le,h.cap,h.len,h.digs⟩
theorem NatAt.take (h : NatAt w A n cap xs) (k : Nat) : NatAt w A (xs.take k).length cap (xs.take k) :=
  ⟨rfl,fun i x hi=>h.row i x (by rw [List.getElem?_take] at hi; split at hi; exact hi; cases hi),Nat.le_trans (by simp; omega) h.le,h.cap,Nat.le_trans (by simp; omega) h.len,h.digs.take k⟩
theorem NatAt.get (h : NatAt w A n cap xs) {i : Nat} (hi : i < xs.length) : ∃ a,A = some a ∧ w.cell? (a.add i) = some (.int .u64 ((xs[i] : Nat) : Int)) ∧ xs[i] < 4294967296 :=
  let ⟨a,e,hc⟩:=h.row i xs[i] (List.getElem?_eq_getElem hi); ⟨a,e,hc,h.digs _ (List.getElem_mem hi)⟩
theorem NatAt.as (h : NatAt w A n cap xs) {ys : List Nat} (e : xs = ys) : NatAt w A n cap ys:=e ▸ h
end
theorem trim_snoc_zero : ∀ ys : List Nat,trim (ys ++ [0]) = trim ys
  | []=>by simp [trim]
  | y :: ys=>by simp only [List.cons_append,trim,trim_snoc_zero ys]
theorem trim_snoc_pos {x : Nat} (hx : x ≠ 0) : ∀ ys : List Nat,trim (ys ++ [x]) = ys ++ [x]
  | []=>by simp [trim,hx]
  | y :: ys=>by simp only [List.cons_append,trim,trim_snoc_pos hx ys]; rw [if_neg (by simp)]
theorem take_last {xs : List Nat} {k : Nat} (hk : 0 < k) (h : k - 1 < xs.length) : xs.take k = xs.take (k - 1) ++ [xs[k - 1]]:=by
  have e : k = (k - 1) + 1:=by omega
  conv=>lhs; rw [e]
  rw [List.take_succ_eq_append_getElem h]
theorem norm_zero {xs : List Nat} {k : Nat} (hk : 0 < k) (h : k - 1 < xs.length) (h0 : ((xs[k-1] : Nat) : Int) = 0) (ht : trim (xs.take k) = trim xs) : trim (xs.take (k - 1)) = trim xs:=by
  rw [← ht,take_last hk h,show xs[k-1] = 0 by omega,trim_snoc_zero]
theorem norm_pos {xs : List Nat} {k : Nat} (hk : 0 < k) (h : k - 1 < xs.length) (h0 : ¬ ((xs[k-1] : Nat) : Int) = 0) (ht : trim (xs.take k) = trim xs) : k = (trim xs).length:=by
  rw [← ht,take_last hk h,trim_snoc_pos (by omega)]
  simp; omega
theorem norm_nil {xs : List Nat} (ht : trim (xs.take 0) = trim xs) : 0 = (trim xs).length:=by rw [← ht]; rfl
/-! ### Words in a block -/
abbrev u64v (x : Nat) : Value:=.int .u64 (x : Int)
theorem over_set {os : List Nat} {i d : Nat} (hi : i < os.length) : over (os.map u64v) i [u64v d] = (os.set i d).map u64v:=by
  unfold over
  rw [List.set_eq_take_append_cons_drop,if_pos hi]
  simp [List.map_take,List.map_drop]
theorem replicate_u64 (n : Nat) : List.replicate n (Value.int .u64 0) = (List.replicate n 0).map u64v:=by simp [u64v]
theorem Blk.word {w : World} {g : Nat} {os : List Nat} {t : TypeId} (h : Blk w g (os.map u64v) t) {i : Nat} (hi : i < os.length) : w.cell? ⟨g,i,none⟩ = some (.int .u64 ((os[i] : Nat) : Int)) :=
  h.cell (by simp [hi])
theorem Blk.nat {w : World} {g : Nat} {os : List Nat} {t : TypeId} (h : Blk w g (os.map u64v) t) (hd : Digs 4294967296 os) {n : Nat} (hn : n = os.length) (hl : n ≤ 17592186044416) : NatAt w (some ⟨g,0,none⟩) n n os :=
  ⟨hn,fun i x hi=>⟨_,rfl,by rw [addr_add_mk,Nat.zero_add]; exact h.cell (by simp [hi])⟩,by omega,by omega,by omega,hd⟩
def NatRes (n : Nat) (v : Value) (w : World) : Prop:=∃ A cap,v = .slice A (digs 4294967296 n).length cap ∧ NatAt w A (digs 4294967296 n).length cap (digs 4294967296 n)
theorem NatRes.of_trim {w : World} {A : Option Addr} {xs : List Nat} {k cap n : Nat} (h : NatAt w A k cap xs) (hv : val 4294967296 xs = n) : NatRes n (.slice A (trim xs).length cap) w:=by
  have e : trim xs = digs 4294967296 n:=trim_eq_digs (by omega) h.digs hv
  refine ⟨A,cap,by rw [e],?_⟩
  have h':=h.take (trim xs).length
  rw [← trim_eq_take,e] at h'
  exact h'
def NewSlice (w : World) (v : Value) : Prop:=∀ a n c,v = .slice (some a) n c → w.heap.size ≤ a.block
theorem NewSlice.of_blk {w : World} {g off n c : Nat} (h : w.heap.size ≤ g) : NewSlice w (.slice (some ⟨g,off,none⟩) n c):=fun a n' c' e=>by cases e; exact h
theorem add_block (a : Addr) (i : Nat) : (a.add i).block = a.block:=by unfold Addr.add; split <;> rfl
theorem Chg.cell {w w' : World} {g : Nat} (h : Chg w w' g) {a : Addr} (hne : a.block ≠ g) : w'.cell? a = w.cell? a:=by
  unfold World.cell?
  rw [h.block _ hne]
theorem NatAt.chg {w w' : World} {g n cap : Nat} {A : Option Addr} {xs : List Nat} (h : NatAt w A n cap xs) (hC : Chg w w' g) (hne : ∀ a,A = some a → a.block ≠ g) : NatAt w' A n cap xs :=
  ⟨h.eq,fun i x hi=>let ⟨a,e,hc⟩:=h.row i x hi; ⟨a,e,by rw [hC.cell (by rw [add_block]; exact hne a e)]; exact hc⟩,h.le,h.cap,h.len,h.digs⟩
/-! ### Sums of digits -/
theorem val_set {B : Nat} : ∀ {os : List Nat} {j d : Nat} (hj : j < os.length),val B (os.set j d) + B ^ j * os[j] = val B os + B ^ j * d
  | x :: xs,0,d,_=>by simp [val]; omega
  | x :: xs,j + 1,d,h=>by
    have ih:=val_set (B:=B) (os:=xs) (j:=j) (d:=d) (by simpa using h)
    simp only [List.set_cons_succ,val,List.getElem_cons_succ,Nat.pow_succ]
    have:=congrArg (B * ·) ih
    simp only [Nat.mul_add] at this
    grind
theorem val_replicate (B n : Nat) : val B (List.replicate n 0) = 0:=by
  induction n with
  | zero=>rfl
  | succ n ih=>simp [List.replicate_succ,val,ih]
theorem val_take_succ {B : Nat} {xs : List Nat} {i : Nat} (hi : i < xs.length) : val B (xs.take (i + 1)) = val B (xs.take i) + B ^ i * xs[i]:=by
  rw [List.take_succ_eq_append_getElem hi,val_append,List.length_take,Nat.min_eq_left (by omega)]
  simp [val]
theorem val_take_ge {B : Nat} {xs : List Nat} {i : Nat} (hi : xs.length ≤ i) : val B (xs.take i) = val B xs:=by rw [List.take_of_length_le hi]
theorem drop_set_succ {os : List Nat} {i d : Nat} : (os.set i d).drop (i + 1) = os.drop (i + 1):=by
  apply List.ext_getElem?
  intro j
  simp only [List.getElem?_drop]
  rw [List.getElem?_set_ne (by omega)]
theorem drop_zero_get {os : List Nat} {i n : Nat} (h : os.drop i = List.replicate n 0) (hi : i < os.length) : os[i] = 0 ∧ os.drop (i + 1) = List.replicate (n - 1) 0:=by
  rw [List.drop_eq_getElem_cons hi] at h
  cases n with
  | zero=>cases h
  | succ n=>simp only [List.replicate_succ,List.cons.injEq] at h; exact ⟨h.1,by simpa using h.2⟩
theorem sum_step {B : Nat} {os : List Nat} {i d c c' s t T : Nat} (hi : i < os.length) (hs : os[i] + s + c = d + B * c') (hT : val B os + B ^ i * c = T) (ht : T + B ^ i * s = t) :
    val B (os.set i d) + B ^ (i + 1) * c' = t:=by
  have h1:=val_set (B:=B) (d:=d) hi
  have h2:=congrArg (B ^ i * ·) hs
  simp only [Nat.mul_add] at h2
  rw [Nat.pow_succ]
  grind
/-! ### Order -/
def ord (a b : Nat) : Int:=if a < b then -1 else if b < a then 1 else 0
theorem val_lt_of_top {B : Nat} (hB : 1 < B) {xs ys : List Nat} {k : Nat} (hx : Digs B xs) (hlx : k < xs.length) (hly : k < ys.length) (hd : xs.drop (k + 1) = ys.drop (k + 1)) (h : xs[k] < ys[k]) : val B xs < val B ys:=by
  have e1 : val B xs = val B (xs.take (k + 1)) + B ^ (k + 1) * val B (xs.drop (k + 1)):=by
    conv=>lhs; rw [← List.take_append_drop (k + 1) xs]
    rw [val_append,List.length_take,Nat.min_eq_left (by omega)]
  have e2 : val B ys = val B (ys.take (k + 1)) + B ^ (k + 1) * val B (ys.drop (k + 1)):=by
    conv=>lhs; rw [← List.take_append_drop (k + 1) ys]
    rw [val_append,List.length_take,Nat.min_eq_left (by omega)]
  rw [e1,e2,hd,val_take_succ hlx,val_take_succ hly]
  have h1:=val_lt (hx.take k)
  rw [List.length_take,Nat.min_eq_left (by omega)] at h1
  have h2 : B ^ k * (xs[k] + 1) ≤ B ^ k * ys[k]:=Nat.mul_le_mul_left _ h
  rw [Nat.mul_add] at h2
  omega
theorem val_lt_of_length {B : Nat} (hB : 1 < B) {xs ys : List Nat} (hx : Digs B xs) (hy : Digs B ys) (ty : Trimmed ys) (h : xs.length < ys.length) : val B xs < val B ys:=by
  rcases Nat.lt_or_ge (val B xs) (val B ys) with hlt | hge
  · exact hlt
  · exfalso
    have e : ys = digs B (val B ys):=digs_unique hB hy (digs_digs hB _) ty (trimmed_digs hB _) (by rw [val_digs hB])
    have h1 : val B ys < B ^ xs.length:=Nat.lt_of_le_of_lt hge (val_lt hx)
    have h2:=length_digs_le hB h1
    rw [← e] at h2
    omega
/-! ### The machine's numbers -/
theorem wrap_u64_emod (x : Int) : IntKind.u64.wrap x = x % 18446744073709551616:=by simp [IntKind.wrap,IntKind.bits,IntKind.signed]
theorem and_mask {s : Int} (h0 : 0 ≤ s) (h1 : s < 18446744073709551616) : IntKind.u64.wrap ((BitVec.ofInt IntKind.u64.bits s &&& BitVec.ofInt IntKind.u64.bits 4294967295).toNat : Int) = s % 4294967296:=by
  obtain ⟨n,rfl⟩:=Int.eq_ofNat_of_zero_le h0
  have hn : n < 18446744073709551616:=by omega
  have e : (BitVec.ofInt 64 (n : Int) &&& BitVec.ofInt 64 4294967295).toNat = n % 4294967296:=by
    rw [BitVec.toNat_and]
    have e1 : (BitVec.ofInt 64 (n : Int)).toNat = n:=by simp [BitVec.toNat_ofInt]; omega
    have e2 : (BitVec.ofInt 64 4294967295).toNat = 2 ^ 32 - 1:=by decide
    rw [e1,e2,Nat.and_two_pow_sub_one_eq_mod]
  show IntKind.u64.wrap ((BitVec.ofInt 64 (n : Int) &&& BitVec.ofInt 64 4294967295).toNat : Int) = _
  rw [e,wrap_u64 (by omega) (by omega)]
  omega
theorem shr32 {s : Int} (h0 : 0 ≤ s) : s.fdiv (2 ^ (min (32 : Int).toNat IntKind.u64.bits)) = s / 4294967296:=by
  show s.fdiv (2 ^ 32) = _
  rw [Int.fdiv_eq_ediv_of_nonneg _ (by decide)]
  rfl
theorem shr63 {s : Int} (h0 : 0 ≤ s) : s.fdiv (2 ^ (min (63 : Int).toNat IntKind.u64.bits)) = s / 9223372036854775808:=by
  show s.fdiv (2 ^ 63) = _
  rw [Int.fdiv_eq_ediv_of_nonneg _ (by decide)]
  rfl
/-! ### Addresses of words -/
theorem addr1 {a : Addr} {m : Int} {q : Nat} (h : m.toNat = q) : a.add (m.toNat * 1) = a.add q:=by rw [h,Nat.mul_one]
theorem addrN {a : Addr} {m : Int} {c q : Nat} (h : m.toNat = q) : a.add (m.toNat * c) = a.add (q * c):=by rw [h]
theorem addrB1 {g : Nat} {m : Int} {q : Nat} (h : m.toNat = q) : (⟨g,0,none⟩ : Addr).add (m.toNat * 1) = ⟨g,q,none⟩:=by rw [h,Nat.mul_one,addr_add_mk,Nat.zero_add]
theorem addrBN {g : Nat} {m : Int} {c q : Nat} (h : m.toNat = q) : (⟨g,0,none⟩ : Addr).add (m.toNat * c) = ⟨g,q * c,none⟩:=by rw [h,addr_add_mk,Nat.zero_add]
theorem NatAt.at {w : World} {a : Addr} {xs : List Nat} {n cap : Nat} (h : NatAt w (some a) n cap xs) {i : Nat} (hi : i < xs.length) : w.cell? (a.add i) = some (.int .u64 ((xs[i] : Nat) : Int)):=by
  obtain ⟨a',e,hc⟩:=h.row i xs[i] (List.getElem?_eq_getElem hi)
  cases e
  exact hc
theorem NatAt.lt {w : World} {A : Option Addr} {xs : List Nat} {n cap : Nat} (h : NatAt w A n cap xs) {i : Nat} (hi : i < xs.length) : xs[i] < 4294967296:=h.digs _ (List.getElem_mem hi)
/-! ### Rounds -/
theorem cmp_lt {xs ys : List Nat} {k : Nat} (hx : Digs 4294967296 xs) (hk : 0 < k) (hlx : k - 1 < xs.length) (hly : k - 1 < ys.length) (hd : xs.drop k = ys.drop k) (h : ((xs[k-1] : Nat) : Int) < ((ys[k-1] : Nat) : Int)) : val 4294967296 xs < val 4294967296 ys :=
  val_lt_of_top (by omega) hx hlx hly (by rw [show k - 1 + 1 = k by omega]; exact hd) (by omega)
theorem cmp_again {xs ys : List Nat} {k : Nat} (hk : 0 < k) (hlx : k - 1 < xs.length) (hly : k - 1 < ys.length) (hd : xs.drop k = ys.drop k) (h1 : ¬ ((xs[k-1] : Nat) : Int) < ((ys[k-1] : Nat) : Int)) (h2 : ¬ ((ys[k-1] : Nat) : Int) < ((xs[k-1] : Nat) : Int)) : xs.drop (k - 1) = ys.drop (k - 1):=by
  rw [List.drop_eq_getElem_cons hlx,List.drop_eq_getElem_cons hly,show k - 1 + 1 = k by omega,hd,show xs[k-1] = ys[k-1] by omega]
theorem add_round {os xs ys : List Nat} {i c s : Nat} (hi : i < xs.length) (hlo : os.length = xs.length + 1) (hv : val 4294967296 os + 4294967296 ^ i * c = val 4294967296 (xs.take i) + val 4294967296 (ys.take i)) (hz : os.drop i = List.replicate (xs.length + 1 - i) 0) (hd : Digs 4294967296 os) (hc : c ≤ 1)
    (hs : s = xs[i] + c + ys[i]?.getD 0) (hx : xs[i] < 4294967296) (hy : ys[i]?.getD 0 < 4294967296) :
    val 4294967296 (os.set i (s % 4294967296)) + 4294967296 ^ (i + 1) * (s / 4294967296) = val 4294967296 (xs.take (i + 1)) + val 4294967296 (ys.take (i + 1)) ∧ (os.set i (s % 4294967296)).drop (i + 1) = List.replicate (xs.length + 1 - (i + 1)) 0 ∧ Digs 4294967296 (os.set i (s % 4294967296)) ∧ s / 4294967296 ≤ 1:=by
  obtain ⟨z1,z2⟩:=drop_zero_get hz (by omega)
  refine ⟨?_,?_,hd.set (Nat.mod_lt _ (by omega)),by omega⟩
  · refine sum_step (s:=xs[i] + ys[i]?.getD 0) (by omega) (by rw [z1]; omega) hv ?_
    rw [val_take_succ hi]
    by_cases hy' : i < ys.length
    · rw [val_take_succ hy',List.getElem?_eq_getElem hy']
      simp only [Option.getD_some,Nat.mul_add]
      omega
    · rw [List.getElem?_eq_none (by omega),val_take_ge (xs:=ys) (i:=i + 1) (by omega),val_take_ge (xs:=ys) (i:=i) (by omega)]
      simp
      omega
  · rw [drop_set_succ,z2]
    congr 1
theorem add_end {os xs ys : List Nat} {c : Nat} (hle : ys.length ≤ xs.length) (hlo : os.length = xs.length + 1) (hv : val 4294967296 os + 4294967296 ^ xs.length * c = val 4294967296 (xs.take xs.length) + val 4294967296 (ys.take xs.length)) (hz : os.drop xs.length = List.replicate (xs.length + 1 - xs.length) 0) :
    val 4294967296 (os.set xs.length c) = val 4294967296 xs + val 4294967296 ys:=by
  obtain ⟨z1,_⟩:=drop_zero_get hz (by omega)
  have h:=val_set (B:=4294967296) (d:=c) (show xs.length < os.length by omega)
  rw [z1] at h
  rw [List.take_length,val_take_ge hle] at hv
  omega
theorem sub_round {os xs ys : List Nat} {i c s : Nat} (hi : i < xs.length) (hlo : os.length = xs.length) (hv : val 4294967296 os + val 4294967296 (ys.take i) = val 4294967296 (xs.take i) + 4294967296 ^ i * c) (hz : os.drop i = List.replicate (xs.length - i) 0) (hd : Digs 4294967296 os) (hc : c ≤ 1)
    (hs : (s : Int) = ((xs[i] : Nat) - (c : Nat) - (ys[i]?.getD 0 : Nat) : Int) % 18446744073709551616) (hx : xs[i] < 4294967296) (hy : ys[i]?.getD 0 < 4294967296) :
    val 4294967296 (os.set i (s % 4294967296)) + val 4294967296 (ys.take (i + 1)) = val 4294967296 (xs.take (i + 1)) + 4294967296 ^ (i + 1) * (s / 9223372036854775808) ∧ (os.set i (s % 4294967296)).drop (i + 1) = List.replicate (xs.length - (i + 1)) 0 ∧ Digs 4294967296 (os.set i (s % 4294967296)) ∧ s / 9223372036854775808 ≤ 1:=by
  obtain ⟨z1,z2⟩:=drop_zero_get hz (by omega)
  have key : xs[i] + 4294967296 * (s / 9223372036854775808) = s % 4294967296 + c + ys[i]?.getD 0:=by omega
  refine ⟨?_,?_,hd.set (Nat.mod_lt _ (by omega)),by omega⟩
  · have h1:=val_set (B:=4294967296) (d:=s % 4294967296) (show i < os.length by omega)
    rw [z1] at h1
    have h2:=congrArg (4294967296 ^ i * ·) key
    simp only [Nat.mul_add] at h2
    rw [val_take_succ hi,Nat.pow_succ]
    have h3 : val 4294967296 (ys.take (i + 1)) = val 4294967296 (ys.take i) + 4294967296 ^ i * ys[i]?.getD 0:=by
      by_cases hy' : i < ys.length
      · rw [val_take_succ hy',List.getElem?_eq_getElem hy']; rfl
      · rw [List.getElem?_eq_none (by omega),val_take_ge (xs:=ys) (i:=i + 1) (by omega),val_take_ge (xs:=ys) (i:=i) (by omega)]; rfl
    rw [h3]
    grind
  · rw [drop_set_succ,z2]
    congr 1
theorem sub_end {os xs ys : List Nat} {c : Nat} (hle : ys.length ≤ xs.length) (hlo : os.length = xs.length) (hd : Digs 4294967296 os) (hv : val 4294967296 os + val 4294967296 (ys.take xs.length) = val 4294967296 (xs.take xs.length) + 4294967296 ^ xs.length * c) (hge : val 4294967296 ys ≤ val 4294967296 xs) :
    val 4294967296 os = val 4294967296 xs - val 4294967296 ys:=by
  rw [List.take_length,val_take_ge hle] at hv
  have h:=val_lt hd
  rw [hlo] at h
  have hc : c = 0:=by
    rcases Nat.eq_zero_or_pos c with h0 | h0
    · exact h0
    · have:=Nat.mul_le_mul_left (4294967296 ^ xs.length) h0
      omega
  subst hc
  omega
theorem mul_round {os xs ys : List Nat} {i k c s : Nat} (hi : i < xs.length) (hk : k < ys.length) (hlo : os.length = xs.length + ys.length) (hv : val 4294967296 os + 4294967296 ^ (i + k) * c = val 4294967296 (xs.take i) * val 4294967296 ys + 4294967296 ^ i * (xs[i] * val 4294967296 (ys.take k)))
    (hs : s = os[i + k] + xs[i] * ys[k] + c) : val 4294967296 (os.set (i + k) (s % 4294967296)) + 4294967296 ^ (i + (k + 1)) * (s / 4294967296) = val 4294967296 (xs.take i) * val 4294967296 ys + 4294967296 ^ i * (xs[i] * val 4294967296 (ys.take (k + 1))):=by
  refine sum_step (s:=xs[i] * ys[k]) (i:=i + k) (by omega) (by omega) hv ?_
  rw [val_take_succ hk,Nat.pow_add]
  grind
theorem drop_set_ge {os : List Nat} {i j d : Nat} (h : i < j) : (os.set i d).drop j = os.drop j:=by
  apply List.ext_getElem?
  intro m
  simp only [List.getElem?_drop]
  rw [List.getElem?_set_ne (by omega)]
theorem mul_end {os xs ys : List Nat} {i c : Nat} (hi : i < xs.length) (hlo : os.length = xs.length + ys.length) (hv : val 4294967296 os + 4294967296 ^ (i + ys.length) * c = val 4294967296 (xs.take i) * val 4294967296 ys + 4294967296 ^ i * (xs[i] * val 4294967296 (ys.take ys.length))) (hz : os.drop (i + ys.length) = List.replicate (xs.length - i) 0) :
    val 4294967296 (os.set (i + ys.length) c) = val 4294967296 (xs.take (i + 1)) * val 4294967296 ys ∧ (os.set (i + ys.length) c).drop (i + 1 + ys.length) = List.replicate (xs.length - (i + 1)) 0:=by
  obtain ⟨z1,z2⟩:=drop_zero_get hz (by omega)
  have h:=val_set (B:=4294967296) (d:=c) (show i + ys.length < os.length by omega)
  rw [z1] at h
  rw [List.take_length] at hv
  refine ⟨?_,?_⟩
  · rw [val_take_succ hi]
    grind
  · rw [show i + 1 + ys.length = i + ys.length + 1 by omega,drop_set_succ,z2]
    congr 1
theorem mul_lt {x y : Nat} (hx : x < 4294967296) (hy : y < 4294967296) : x * y ≤ 18446744065119617025:=by
  have:=Nat.mul_le_mul (Nat.le_sub_one_of_lt hx) (Nat.le_sub_one_of_lt hy)
  omega
theorem mul_ltI {x y : Nat} (hx : x < 4294967296) (hy : y < 4294967296) : (0 : Int) ≤ (x : Int) * (y : Int) ∧ (x : Int) * (y : Int) ≤ 18446744065119617025:=by
  have h:=mul_lt hx hy
  have e : ((x * y : Nat) : Int) = (x : Int) * (y : Int):=Int.natCast_mul x y
  rw [← e]
  omega
/-! ### Shifts,divisions by a word -/
theorem shl_u64 {m n : Nat} (hn : n < 64) (h : m * 2 ^ n < 18446744073709551616) : IntKind.u64.wrap ((m : Int) * 2 ^ (min (n : Int).toNat IntKind.u64.bits)) = ((m * 2 ^ n : Nat) : Int):=by
  have e : min (n : Int).toNat IntKind.u64.bits = n:=by
    show min (n : Int).toNat 64 = n
    rw [Int.toNat_natCast]; omega
  rw [e]
  have e2 : ((m : Int) * 2 ^ n) = ((m * 2 ^ n : Nat) : Int):=by simp
  rw [e2]
  exact wrap_u64 (by omega) (by omega)
theorem shr_u64 {m n : Nat} (hn : n < 64) : (m : Int).fdiv (2 ^ (min (n : Int).toNat IntKind.u64.bits)) = ((m / 2 ^ n : Nat) : Int):=by
  have e : min (n : Int).toNat IntKind.u64.bits = n:=by
    show min (n : Int).toNat 64 = n
    rw [Int.toNat_natCast]; omega
  rw [e,Int.fdiv_eq_ediv_of_nonneg _ (by exact Int.le_of_lt (Int.pow_pos (by decide)))]
  simp
theorem or_u64 {a b s c : Nat} (ha : a < 2 ^ s) (hb : b = 2 ^ s * c) (h : a + b < 18446744073709551616) : IntKind.u64.wrap ((BitVec.ofInt IntKind.u64.bits (a : Int) ||| BitVec.ofInt IntKind.u64.bits (b : Int)).toNat : Int) = ((a + b : Nat) : Int):=by
  have e : (BitVec.ofInt 64 (a : Int) ||| BitVec.ofInt 64 (b : Int)).toNat = a + b:=by
    rw [BitVec.toNat_or]
    have e1 : (BitVec.ofInt 64 (a : Int)).toNat = a:=by simp [BitVec.toNat_ofInt]; omega
    have e2 : (BitVec.ofInt 64 (b : Int)).toNat = b:=by simp [BitVec.toNat_ofInt]; omega
    rw [e1,e2,Nat.or_comm,hb,← Nat.two_pow_add_eq_or_of_lt ha]
    omega
  show IntKind.u64.wrap ((BitVec.ofInt 64 (a : Int) ||| BitVec.ofInt 64 (b : Int)).toNat : Int) = _
  rw [e]
  exact wrap_u64 (by omega) (by omega)
theorem or_u64' {a b s c : Nat} (ha : a < 2 ^ s) (hb : b = 2 ^ s * c) (h : a + b < 18446744073709551616) : IntKind.u64.wrap ((BitVec.ofInt IntKind.u64.bits (b : Int) ||| BitVec.ofInt IntKind.u64.bits (a : Int)).toNat : Int) = ((a + b : Nat) : Int):=by
  have:=or_u64 ha hb h
  rwa [BitVec.or_comm] at this
theorem and_u64 {s : Nat} (h : s < 18446744073709551616) : IntKind.u64.wrap ((BitVec.ofInt IntKind.u64.bits (s : Int) &&& BitVec.ofInt IntKind.u64.bits 4294967295).toNat : Int) = ((s % 4294967296 : Nat) : Int):=by
  rw [and_mask (by omega) (by omega)]
  omega
theorem quo_u64 {m n : Nat} (h : m < 18446744073709551616) : IntKind.u64.wrap ((m : Int).tdiv (n : Int)) = ((m / n : Nat) : Int):=by
  rw [← Int.ofNat_tdiv]
  have : m / n ≤ m:=Nat.div_le_self m n
  generalize m / n = q at *
  exact wrap_u64 (by omega) (by omega)
theorem rem_nat {m n : Nat} : (m : Int).tmod (n : Int) = ((m % n : Nat) : Int):=(Int.ofNat_tmod m n).symm
theorem val_drop_pred {B : Nat} {xs : List Nat} {k : Nat} (hk : 0 < k) (h : k - 1 < xs.length) : val B (xs.drop (k - 1)) = xs[k - 1] + B * val B (xs.drop k):=by
  rw [List.drop_eq_getElem_cons h,show k - 1 + 1 = k by omega]
  rfl
theorem small_round {os xs : List Nat} {k d r : Nat} (hk : 0 < k) (hkl : k ≤ xs.length) (hlo : os.length = xs.length) (hv : val 4294967296 (xs.drop k) = d * val 4294967296 (os.drop k) + r) (hr : r < d) (hdg : Digs 4294967296 os) (hx : xs[k - 1] < 4294967296) :
    val 4294967296 (xs.drop (k - 1)) = d * val 4294967296 ((os.set (k - 1) ((xs[k - 1] + r * 4294967296) / d)).drop (k - 1)) + (xs[k - 1] + r * 4294967296) % d ∧ Digs 4294967296 (os.set (k - 1) ((xs[k - 1] + r * 4294967296) / d)) ∧ (xs[k - 1] + r * 4294967296) % d < d:=by
  refine ⟨?_,hdg.set ?_,Nat.mod_lt _ (by omega)⟩
  · have e1:=val_drop_pred (B:=4294967296) hk (show k - 1 < xs.length by omega)
    have e2:=val_drop_pred (B:=4294967296) (xs:=os.set (k - 1) ((xs[k - 1] + r * 4294967296) / d)) hk (by simp; omega)
    have e3 : (os.set (k - 1) ((xs[k - 1] + r * 4294967296) / d)).drop k = os.drop k:=drop_set_ge (by omega)
    rw [e1,e2,e3,List.getElem_set_self,hv]
    have:=Nat.div_add_mod (xs[k - 1] + r * 4294967296) d
    grind
  · have : (xs[k - 1] + r * 4294967296) / d < 4294967296:=by
      rw [Nat.div_lt_iff_lt_mul (by omega)]
      have : (r + 1) * 4294967296 ≤ d * 4294967296:=Nat.mul_le_mul_right _ hr
      omega
    exact this
theorem div_unique {a d q r : Nat} (h0 : 0 < d) (hr : r < d) (h : a = d * q + r) : q = a / d ∧ r = a % d:=by
  subst h
  constructor
  · rw [Nat.mul_add_div h0,Nat.div_eq_of_lt hr,Nat.add_zero]
  · rw [Nat.mul_add_mod,Nat.mod_eq_of_lt hr]
end Go.Lith
namespace Go.Lith
theorem shr32n {m : Nat} : (m : Int).fdiv (2 ^ (min (32 : Int).toNat IntKind.u64.bits)) = ((m / 4294967296 : Nat) : Int):=by
  rw [shr32 (by omega)]
  omega
theorem shr31n {m : Nat} : (m : Int).fdiv (2 ^ (min (31 : Int).toNat IntKind.u64.bits)) = ((m / 2147483648 : Nat) : Int):=by
  show (m : Int).fdiv (2 ^ 31) = _
  rw [Int.fdiv_eq_ediv_of_nonneg _ (by decide)]
  omega
theorem shl_mod {x n : Nat} (hn : n ≤ 32) : x * 2 ^ n % 4294967296 = 2 ^ n * (x % 2 ^ (32 - n)):=by
  have e : (4294967296 : Nat) = 2 ^ n * 2 ^ (32 - n):=by rw [← Nat.pow_add,show n + (32 - n) = 32 by omega]
  rw [Nat.mul_comm,e,Nat.mul_mod_mul_left]
theorem pow_split {n : Nat} (hn : n ≤ 32) : (4294967296 : Nat) = 2 ^ n * 2 ^ (32 - n):=by rw [← Nat.pow_add,show n + (32 - n) = 32 by omega]
theorem shl_lt {x n : Nat} (hn : n ≤ 32) (hx : x < 4294967296) : x * 2 ^ n < 18446744073709551616:=by
  have h1 : 2 ^ n ≤ 2 ^ 32:=Nat.pow_le_pow_right (by omega) hn
  have h2 : x * 2 ^ n ≤ x * 2 ^ 32:=Nat.mul_le_mul_left _ h1
  omega
theorem shl_fit {a x n : Nat} (hn : n ≤ 32) (ha : a < 2 ^ n) : a + x * 2 ^ n % 4294967296 < 4294967296:=by
  rw [shl_mod hn]
  have h1 : x % 2 ^ (32 - n) < 2 ^ (32 - n):=Nat.mod_lt _ (Nat.pow_pos (by omega))
  have h2 : 2 ^ n * (x % 2 ^ (32 - n) + 1) ≤ 2 ^ n * 2 ^ (32 - n):=Nat.mul_le_mul_left _ h1
  rw [← pow_split hn,Nat.mul_add] at h2
  omega
theorem shl_top {x n : Nat} (hx : x < 4294967296) : x * 2 ^ n / 4294967296 < 2 ^ n:=by
  rw [Nat.div_lt_iff_lt_mul (by omega),Nat.mul_comm (2 ^ n)]
  exact Nat.mul_lt_mul_of_pos_right hx (Nat.pow_pos (by omega))
theorem shift_round {os xs : List Nat} {i n : Nat} (hn : n ≤ 31) (hi : i < xs.length) (hlo : os.length = xs.length + 1) (hv : val 4294967296 os = 2 ^ n * val 4294967296 (xs.take i)) (hz : os.drop (i + 1) = List.replicate (xs.length - i) 0) (hd : Digs 4294967296 os) (h1 : i < os.length) (hc : os[i] < 2 ^ n) (hx : xs[i] < 4294967296) :
    val 4294967296 ((os.set i (os[i] + xs[i] * 2 ^ n % 4294967296)).set (i + 1) (xs[i] * 2 ^ n / 4294967296)) = 2 ^ n * val 4294967296 (xs.take (i + 1)) ∧ ((os.set i (os[i] + xs[i] * 2 ^ n % 4294967296)).set (i + 1) (xs[i] * 2 ^ n / 4294967296)).drop (i + 1 + 1) = List.replicate (xs.length - (i + 1)) 0 ∧ Digs 4294967296 ((os.set i (os[i] + xs[i] * 2 ^ n % 4294967296)).set (i + 1) (xs[i] * 2 ^ n / 4294967296)) ∧ (∀ h : i + 1 < ((os.set i (os[i] + xs[i] * 2 ^ n % 4294967296)).set (i + 1) (xs[i] * 2 ^ n / 4294967296)).length,((os.set i (os[i] + xs[i] * 2 ^ n % 4294967296)).set (i + 1) (xs[i] * 2 ^ n / 4294967296))[i + 1] < 2 ^ n):=by
  obtain ⟨z1,z2⟩:=drop_zero_get hz (by omega)
  have ht:=shl_top (n:=n) hx
  have hf:=shl_fit (x:=xs[i]) (by omega) hc
  have hp : 2 ^ n ≤ 2 ^ 32:=Nat.pow_le_pow_right (by omega) (by omega)
  refine ⟨?_,?_,(hd.set hf).set (by omega),?_⟩
  · have e1:=val_set (B:=4294967296) (d:=os[i] + xs[i] * 2 ^ n % 4294967296) h1
    have e2:=val_set (B:=4294967296) (os:=os.set i (os[i] + xs[i] * 2 ^ n % 4294967296)) (d:=xs[i] * 2 ^ n / 4294967296) (show i + 1 < _ by simp; omega)
    rw [List.getElem_set_ne (by omega),z1] at e2
    rw [val_take_succ hi]
    have e3:=Nat.div_add_mod (xs[i] * 2 ^ n) 4294967296
    generalize xs[i] * 2 ^ n / 4294967296 = t at *
    generalize hg : xs[i] * 2 ^ n % 4294967296 = r at *
    rw [Nat.pow_succ] at e2
    have e4:=congrArg (4294967296 ^ i * ·) e3
    simp only [Nat.mul_add] at e4 e1
    grind
  · rw [drop_set_succ,drop_set_ge (by omega),z2]
    congr 1
  · intro h
    rw [List.getElem_set_self]
    exact ht
theorem shr_lt {x n : Nat} (hn : n ≤ 32) (hx : x < 4294967296) : x / 2 ^ n < 2 ^ (32 - n):=by
  rw [Nat.div_lt_iff_lt_mul (Nat.pow_pos (by omega)),Nat.mul_comm,← pow_split hn]
  exact hx
theorem unshift_first {os xs : List Nat} {n : Nat} (hn : n ≤ 32) (hi : 0 < xs.length) (hlo : os.length = xs.length) (hv : val 4294967296 os = val 4294967296 (xs.take 0) / 2 ^ n) (hz : os.drop 0 = List.replicate (xs.length - 0) 0) (hd : Digs 4294967296 os) (hx : xs[0] < 4294967296) :
    val 4294967296 (os.set 0 (xs[0] / 2 ^ n)) = val 4294967296 (xs.take (0 + 1)) / 2 ^ n ∧ (os.set 0 (xs[0] / 2 ^ n)).drop (0 + 1) = List.replicate (xs.length - (0 + 1)) 0 ∧ Digs 4294967296 (os.set 0 (xs[0] / 2 ^ n)):=by
  obtain ⟨z1,z2⟩:=drop_zero_get hz (by omega)
  refine ⟨?_,?_,hd.set (Nat.lt_of_le_of_lt (Nat.div_le_self _ _) hx)⟩
  · have e1:=val_set (B:=4294967296) (d:=xs[0] / 2 ^ n) (show 0 < os.length by omega)
    rw [z1] at e1
    rw [val_take_succ hi]
    simp only [List.take_zero,val,Nat.pow_zero,Nat.one_mul,Nat.zero_add] at hv e1 ⊢
    rw [Nat.zero_div] at hv
    omega
  · rw [drop_set_succ,z2]
    congr 1
theorem val_shift_div {V x i n : Nat} (hV : V < 4294967296 ^ (i + 1)) (hn : n ≤ 32) : (V + 4294967296 ^ (i + 1) * x) / 2 ^ n = V / 2 ^ n + 4294967296 ^ i * (2 ^ (32 - n) * x):=by
  have e : 4294967296 ^ (i + 1) * x = 2 ^ n * (4294967296 ^ i * (2 ^ (32 - n) * x)):=by
    rw [Nat.pow_succ]
    have:=pow_split hn
    generalize 2 ^ n = p at *
    generalize 2 ^ (32 - n) = q at *
    rw [this]
    grind
  rw [e,Nat.add_mul_div_left _ _ (Nat.pow_pos (by omega))]
theorem unshift_round {os xs : List Nat} {j n : Nat} (hn : n ≤ 32) (hi : j + 1 < xs.length) (hlo : os.length = xs.length) (hv : val 4294967296 os = val 4294967296 (xs.take (j + 1)) / 2 ^ n) (hz : os.drop (j + 1) = List.replicate (xs.length - (j + 1)) 0) (hd : Digs 4294967296 os) (hdx : Digs 4294967296 xs) (h1 : j < os.length) (hc : os[j] < 2 ^ (32 - n)) :
    val 4294967296 ((os.set (j + 1) (xs[j + 1] / 2 ^ n)).set j (os[j] + xs[j + 1] * 2 ^ (32 - n) % 4294967296)) = val 4294967296 (xs.take (j + 1 + 1)) / 2 ^ n ∧ ((os.set (j + 1) (xs[j + 1] / 2 ^ n)).set j (os[j] + xs[j + 1] * 2 ^ (32 - n) % 4294967296)).drop (j + 1 + 1) = List.replicate (xs.length - (j + 1 + 1)) 0 ∧ Digs 4294967296 ((os.set (j + 1) (xs[j + 1] / 2 ^ n)).set j (os[j] + xs[j + 1] * 2 ^ (32 - n) % 4294967296)):=by
  obtain ⟨z1,z2⟩:=drop_zero_get hz (by omega)
  have hx : xs[j + 1] < 4294967296:=hdx _ (List.getElem_mem hi)
  have hf:=shl_fit (x:=xs[j + 1]) (n:=32 - n) (by omega) hc
  refine ⟨?_,?_,(hd.set (Nat.lt_of_le_of_lt (Nat.div_le_self _ _) hx)).set hf⟩
  · have e1:=val_set (B:=4294967296) (d:=xs[j + 1] / 2 ^ n) (show j + 1 < os.length by omega)
    have e2:=val_set (B:=4294967296) (os:=os.set (j + 1) (xs[j + 1] / 2 ^ n)) (j:=j) (d:=os[j] + xs[j + 1] * 2 ^ (32 - n) % 4294967296) (by simp; omega)
    rw [List.getElem_set_ne (by omega)] at e2
    rw [z1] at e1
    have hV:=val_lt (hdx.take (j + 1))
    rw [List.length_take,Nat.min_eq_left (by omega)] at hV
    rw [val_take_succ hi,val_shift_div hV hn,← hv]
    have e3 : 2 ^ (32 - n) * xs[j + 1] = 4294967296 * (xs[j + 1] / 2 ^ n) + xs[j + 1] * 2 ^ (32 - n) % 4294967296:=by
      rw [shl_mod (by omega),show 32 - (32 - n) = n by omega]
      have h3:=Nat.div_add_mod xs[j + 1] (2 ^ n)
      have:=pow_split hn
      generalize 2 ^ n = p at *
      generalize 2 ^ (32 - n) = q at *
      conv=>lhs; rw [← h3]
      rw [this]
      grind
    rw [e3,Nat.mul_add]
    generalize xs[j + 1] * 2 ^ (32 - n) % 4294967296 = r at *
    generalize xs[j + 1] / 2 ^ n = t at *
    rw [Nat.pow_succ] at e1
    simp only [Nat.mul_add] at e2
    grind
  · rw [drop_set_ge (by omega),drop_set_succ,z2]
    congr 1
/-! ### Slices of words -/
theorem NatAt.nil (w : World) : NatAt w none 0 0 []:=⟨rfl,fun i x hi=>by simp at hi,Nat.le_refl _,by omega,by simp,fun x hx=>by cases hx⟩
theorem NatAt.drop {w : World} {a : Addr} {n cap : Nat} {xs : List Nat} (h : NatAt w (some a) n cap xs) {k : Nat} (hk : k ≤ xs.length) {m : Nat} (hm : m = n - k) : NatAt w (some (a.add k)) m (cap - k) (xs.drop k):=by
  have hl:=h.len
  have hc:=h.cap
  have he:=h.eq
  have hle:=h.le
  refine ⟨by rw [hm,he]; simp,fun i x hi=>⟨_,rfl,?_⟩,by simp; omega,by omega,by simp; omega,fun x hx=>h.digs x (List.mem_of_mem_drop hx)⟩
  obtain ⟨a',e,hcell⟩:=h.row (k + i) x (by rw [List.getElem?_drop] at hi; exact hi)
  cases e
  rw [show (a.add k).add i = a.add (k + i) from ?_]
  · exact hcell
  · obtain ⟨g,off,ln⟩:=a
    by_cases hk0 : k = 0 <;> by_cases hi0 : i = 0 <;> simp [Addr.add,hk0,hi0,Nat.add_assoc]
theorem NatAt.head {w : World} {A : Option Addr} {n cap : Nat} {xs : List Nat} (h : NatAt w A n cap xs) {k : Nat} (hk : k ≤ xs.length) : NatAt w A k cap (xs.take k):=by
  have:=h.take k
  rwa [List.length_take,Nat.min_eq_left hk] at this
theorem NatAt.words {w : World} {a : Addr} {n cap : Nat} {xs : List Nat} (h : NatAt w (some a) n cap xs) : Row w a (xs.map u64v):=by
  intro j u hj
  rw [List.getElem?_map] at hj
  cases hq : xs[j]? with
  | none=>rw [hq] at hj; cases hj
  | some x =>
    rw [hq] at hj
    cases hj
    obtain ⟨a',e,hc⟩:=h.row j x hq
    cases e
    exact hc
theorem NatAt.of_owns {w : World} {base n : Nat} {v : Value} {xs : List Nat} {E : TypeId} (h : Owns w base E 1 v n (xs.map u64v)) (hn : n = xs.length) (hd : Digs 4294967296 xs) (hl : n ≤ 17592186044416) : ∃ A c,v = .slice A n c ∧ NatAt w A n c xs:=by
  rcases h.row with ⟨rfl,h0,h1⟩ | ⟨g,cap,rfl,_,hc,hm,_,hr⟩
  · subst h0
    have : xs = []:=by simpa using h1
    subst this
    exact ⟨_,_,rfl,NatAt.nil w⟩
  · refine ⟨_,_,rfl,hn,fun i x hi=>⟨_,rfl,hr i (u64v x) (by rw [List.getElem?_map,hi]; rfl)⟩,by omega,hm,by omega,hd⟩
theorem NatAt.none {w : World} {n cap : Nat} {xs : List Nat} (h : NatAt w none n cap xs) : xs = []:=by
  cases xs with
  | nil=>rfl
  | cons x xs=>obtain ⟨a,e,_⟩:=h.row 0 x rfl; cases e
def NatCopy (xs : List Nat) (v : Value) (w : World) : Prop:=∃ A c,v = .slice A xs.length c ∧ NatAt w A xs.length c xs
structure Words (w0 w : World) (v : Value) (g : Nat) (os : List Nat) : Prop where
  val : v = .slice (some ⟨g,0,none⟩) os.length os.length
  new : w0.heap.size ≤ g
  blk : Blk w g (os.map u64v) 101
  digs : Digs 4294967296 os
  len : os.length ≤ 17592186044416
end Go.Lith
namespace Go.Lith
theorem ord_lt {a b : Nat} : decide (ord a b < 0) = decide (a < b):=by
  unfold ord
  split
  · simp [*]
  · split <;> simp [*]
theorem NatAt.src {w : World} {A : Option Addr} {n cap : Nat} {xs : List Nat} (h : NatAt w A n cap xs) : ∀ (j : Nat) (v : Value),(xs.map u64v)[j]? = some v → ∃ a,A = some a ∧ w.cell? (a.add j) = some v:=by
  intro j v hj
  rw [List.getElem?_map] at hj
  cases hq : xs[j]? with
  | none=>rw [hq] at hj; cases hj
  | some x =>
    rw [hq] at hj
    cases hj
    exact h.row j x hq
theorem u64v_one {xs : List Nat} : ∀ u ∈ xs.map u64v,u.oneCell' = true:=fun u hu=>by obtain ⟨x,_,rfl⟩:=List.mem_map.1 hu; rfl
theorem val_digs32 (n : Nat) : val 4294967296 (digs 4294967296 n) = n:=val_digs (by omega) n
theorem trimmed_digs32 (n : Nat) : Trimmed (digs 4294967296 n):=trimmed_digs (by omega) n
theorem digs_digs32 (n : Nat) : Digs 4294967296 (digs 4294967296 n):=digs_digs (by omega) n
theorem val_word (d : Nat) : val 4294967296 [d] = d:=by simp [val]
theorem digs_word {d : Nat} (h : d < 4294967296) : Digs 4294967296 [d]:=fun x hx=>by simp at hx; omega
theorem length_trim_le (xs : List Nat) : (trim xs).length ≤ xs.length:=by rw [trim_eq_take]; simp; omega
theorem length_digs_val {xs : List Nat} (h : Digs 4294967296 xs) : (digs 4294967296 (val 4294967296 xs)).length ≤ xs.length:=length_digs_le (by omega) (val_lt h)
theorem length_digs_mul {xs : List Nat} {d : Nat} (h : Digs 4294967296 xs) (hd : d < 4294967296) : (digs 4294967296 (val 4294967296 xs * d)).length ≤ xs.length + 1:=by
  refine length_digs_le (by omega) ?_
  rw [Nat.pow_succ]
  exact Nat.mul_lt_mul'' (val_lt h) hd
def laid (os : List Nat) (off n m : Nat) : List Nat:=os.take off ++ (digs 4294967296 m ++ List.replicate (n - (digs 4294967296 m).length) 0) ++ os.drop (off + n)
theorem laid_length {os : List Nat} {off n m : Nat} (h : off + n ≤ os.length) (hm : (digs 4294967296 m).length ≤ n) : (laid os off n m).length = os.length:=by
  simp [laid]
  omega
theorem laid_digs {os : List Nat} {off n m : Nat} (hd : Digs 4294967296 os) : Digs 4294967296 (laid os off n m) :=
  ((hd.take _).append ((digs_digs32 m).append fun x hx=>by rw [List.eq_of_mem_replicate hx]; decide)).append (hd.drop _)
theorem laid_val {os : List Nat} {off n m : Nat} (h : off + n ≤ os.length) (hm : (digs 4294967296 m).length ≤ n) :
    val 4294967296 (laid os off n m) + 4294967296 ^ off * val 4294967296 ((os.drop off).take n) = val 4294967296 os + 4294967296 ^ off * m:=by
  have e1 : val 4294967296 os = val 4294967296 (os.take off) + 4294967296 ^ off * (val 4294967296 ((os.drop off).take n) + 4294967296 ^ n * val 4294967296 (os.drop (off + n))):=by
    have e : os = os.take off ++ ((os.drop off).take n ++ os.drop (off + n)):=by
      rw [← List.drop_drop,List.take_append_drop,List.take_append_drop]
    conv=>lhs; rw [e]
    rw [val_append,val_append]
    simp only [List.length_take,List.length_drop]
    rw [Nat.min_eq_left (by omega),Nat.min_eq_left (by omega)]
  have e2 : val 4294967296 (laid os off n m) = val 4294967296 (os.take off) + 4294967296 ^ off * (m + 4294967296 ^ n * val 4294967296 (os.drop (off + n))):=by
    unfold laid
    rw [List.append_assoc,val_append,val_append,val_append,val_replicate,val_digs32]
    simp only [List.length_take,List.length_append,List.length_replicate]
    rw [Nat.min_eq_left (by omega),show (digs 4294967296 m).length + (n - (digs 4294967296 m).length) = n by omega]
    simp
  rw [e1,e2]
  grind
theorem over_over {cs us vs : List Value} {off : Nat} (h : off + us.length ≤ cs.length) (hm : vs.length ≤ us.length) : over (over cs off us) off vs = cs.take off ++ (vs ++ us.drop vs.length) ++ cs.drop (off + us.length):=by
  have hA : (cs.take off).length = off:=by simp; omega
  unfold over
  generalize cs.take off = A at *
  generalize cs.drop (off + us.length) = C at *
  subst hA
  rw [List.append_assoc A us C,List.take_left' rfl,List.drop_append,List.drop_eq_nil_of_le (by omega),Nat.add_sub_cancel_left,List.drop_append_of_le_length hm]
  simp
theorem over_laid {os : List Nat} {off n m : Nat} (h : off + n ≤ os.length) (hm : (digs 4294967296 m).length ≤ n) :
    over (over (os.map u64v) off (List.replicate n (.int .u64 0))) off ((digs 4294967296 m).map u64v) = (laid os off n m).map u64v:=by
  rw [over_over (by simpa using h) (by simpa using hm)]
  simp [laid,List.drop_replicate,u64v,List.map_take,List.map_drop]
end Go.Lith
namespace Go.Lith
theorem val_take_drop {B : Nat} (xs : List Nat) {k : Nat} (hk : k ≤ xs.length) : val B xs = val B (xs.take k) + B ^ k * val B (xs.drop k):=by
  conv=>lhs; rw [← List.take_append_drop k xs]
  rw [val_append,List.length_take,Nat.min_eq_left hk]
theorem guess_ge {P U V two top q : Nat} (hP : 0 < P) (hU : U < (two + 1) * P) (hV : top * P ≤ V) (hq : q * V ≤ U) (ht : 0 < top) : q ≤ two / top:=by
  rw [Nat.le_div_iff_mul_le ht]
  have h1 : q * (top * P) ≤ q * V:=Nat.mul_le_mul_left _ hV
  have h2 : (q * top) * P < (two + 1) * P:=by rw [Nat.mul_assoc]; omega
  have:=Nat.lt_of_mul_lt_mul_right h2
  omega
theorem guess_gt {P U V two3 v2 q g : Nat} (hP : 0 < P) (hU : U < (two3 + 1) * P) (hV : v2 * P ≤ V) (hq : q * V ≤ U) (h : two3 < g * v2) : q < g:=by
  rcases Nat.lt_or_ge q g with hlt | hge
  · exact hlt
  · exfalso
    have h1 : g * (v2 * P) ≤ q * V:=Nat.mul_le_mul hge hV
    have h2 : (g * v2) * P < (two3 + 1) * P:=by rw [Nat.mul_assoc]; omega
    have:=Nat.lt_of_mul_lt_mul_right h2
    omega
theorem guess_le {P U V two3 v2 q g : Nat} (hU : two3 * P ≤ U) (hV : V < (v2 + 1) * P) (hq : U < (q + 1) * V) (h : g * v2 ≤ two3) (hg : g ≤ v2) : g ≤ q + 1:=by
  rcases Nat.lt_or_ge (q + 1) g with hlt | hge
  · exfalso
    obtain ⟨e,rfl⟩ : ∃ e,g = e + 1:=⟨g - 1,by omega⟩
    have h1 : (q + 1) * V ≤ e * V:=Nat.mul_le_mul_right _ (by omega)
    have h2 : e * V ≤ e * ((v2 + 1) * P):=Nat.mul_le_mul_left _ (Nat.le_of_lt hV)
    have h3 : two3 * P < (e * (v2 + 1)) * P:=by rw [Nat.mul_assoc]; omega
    have h4:=Nat.lt_of_mul_lt_mul_right h3
    rw [Nat.mul_add] at h4
    rw [Nat.add_mul] at h
    omega
  · exact hge
theorem guess_end {U V q g : Nat} (hq : q * V ≤ U) (hq2 : U < (q + 1) * V) (h1 : q ≤ g) (h2 : g ≤ q + 1) : (U < V * g → g - 1 = q) ∧ (¬ U < V * g → g = q):=by
  constructor
  · intro h
    rcases Nat.lt_or_ge q g with hlt | hge
    · omega
    · have : V * g ≤ V * q:=Nat.mul_le_mul_left _ hge
      rw [Nat.mul_comm V q] at this
      omega
  · intro h
    rcases Nat.lt_or_ge q g with hlt | hge
    · have : (q + 1) * V ≤ g * V:=Nat.mul_le_mul_right _ hlt
      rw [Nat.mul_comm V g] at h
      omega
    · omega
theorem laid_drop_val {os : List Nat} {off n m : Nat} (h : off + n ≤ os.length) (hm : (digs 4294967296 m).length ≤ n) : val 4294967296 ((laid os off n m).drop off) = m + 4294967296 ^ n * val 4294967296 (os.drop (off + n)):=by
  have hA : (os.take off).length = off:=by simp; omega
  unfold laid
  rw [List.append_assoc,List.drop_append,List.drop_eq_nil_of_le (by omega),hA,Nat.sub_self,List.drop_zero,List.nil_append,val_append,val_append,val_replicate,val_digs32]
  simp only [List.length_append,List.length_replicate]
  rw [show (digs 4294967296 m).length + (n - (digs 4294967296 m).length) = n by omega]
  simp
theorem high_zero {us vs : List Nat} {i : Nat} (hd : Digs 4294967296 vs) (hi : i + vs.length + 1 ≤ us.length) (hH : val 4294967296 (us.drop (i + 1)) < val 4294967296 vs) : val 4294967296 (us.drop (i + (vs.length + 1))) = 0:=by
  have h1:=val_lt hd
  have h2:=val_take_drop (B:=4294967296) (us.drop (i + 1)) (k:=vs.length) (by simp; omega)
  rw [List.drop_drop,show i + 1 + vs.length = i + (vs.length + 1) by omega] at h2
  rcases Nat.eq_zero_or_pos (val 4294967296 (us.drop (i + (vs.length + 1)))) with h | h
  · exact h
  · have:=Nat.mul_le_mul_left (4294967296 ^ vs.length) h
    omega
theorem part_val {us vs : List Nat} {i : Nat} (hd : Digs 4294967296 vs) (hi : i + vs.length + 1 ≤ us.length) (hH : val 4294967296 (us.drop (i + 1)) < val 4294967296 vs) : val 4294967296 (us.drop i) = val 4294967296 ((us.drop i).take (vs.length + 1)):=by
  have h2:=val_take_drop (B:=4294967296) (us.drop i) (k:=vs.length + 1) (by simp; omega)
  rw [List.drop_drop,high_zero hd hi hH,Nat.mul_zero,Nat.add_zero] at h2
  exact h2
theorem part_lt {us vs : List Nat} {i : Nat} (hdu : Digs 4294967296 us) (hi : i < us.length) (hH : val 4294967296 (us.drop (i + 1)) < val 4294967296 vs) : val 4294967296 (us.drop i) < 4294967296 * val 4294967296 vs:=by
  have e:=val_drop_pred (B:=4294967296) (xs:=us) (k:=i + 1) (by omega) (by simpa using hi)
  simp only [Nat.add_sub_cancel] at e
  have:=hdu us[i] (List.getElem_mem hi)
  omega
theorem part_top {us : List Nat} {j n : Nat} (hdu : Digs 4294967296 us) (hn : 2 ≤ n) (h0 : j + n < us.length) :
    val 4294967296 ((us.drop j).take (n + 1)) = (us[j + n] * 4294967296 + us[j + n - 1]) * 4294967296 ^ (n - 1) + us[j + n - 2] * 4294967296 ^ (n - 2) + val 4294967296 ((us.drop j).take (n - 2)) ∧ val 4294967296 ((us.drop j).take (n - 2)) < 4294967296 ^ (n - 2):=by
  have hL : (us.drop j).length = us.length - j:=by simp
  have e1:=val_take_succ (B:=4294967296) (xs:=us.drop j) (i:=n) (by omega)
  have e2:=val_take_succ (B:=4294967296) (xs:=us.drop j) (i:=n - 1) (by omega)
  have e3:=val_take_succ (B:=4294967296) (xs:=us.drop j) (i:=n - 2) (by omega)
  rw [show n - 1 + 1 = n by omega] at e2
  rw [show n - 2 + 1 = n - 1 by omega] at e3
  simp only [List.getElem_drop] at e1 e2 e3
  have x2 : us[j + (n - 1)] = us[j + n - 1]:=getElem_congr rfl (by omega) _
  have x3 : us[j + (n - 2)] = us[j + n - 2]:=getElem_congr rfl (by omega) _
  rw [x2] at e2
  rw [x3] at e3
  have hp : (4294967296 : Nat) ^ n = 4294967296 * 4294967296 ^ (n - 1):=by rw [← Nat.pow_succ']; congr 1; omega
  have hl:=val_lt ((hdu.drop j).take (n - 2))
  rw [List.length_take,Nat.min_eq_left (by omega)] at hl
  refine ⟨?_,hl⟩
  rw [e1,e2,e3,hp]
  grind
theorem ord_lt_iff {a b : Nat} : ord a b < 0 ↔ a < b:=by
  have:=@ord_lt a b
  simpa using this
theorem NatRes.self {w : World} {A : Option Addr} {n c : Nat} {xs : List Nat} (h : NatAt w A n c xs) (t : Trimmed xs) : NatRes (val 4294967296 xs) (.slice A n c) w:=by
  have:=NatRes.of_trim h rfl
  rw [t] at this
  rw [h.eq]
  exact this
theorem NatRes.zero (w : World) : NatRes 0 (.slice none 0 0) w:=⟨none,0,rfl,NatAt.nil w⟩
theorem trimmed_top {xs : List Nat} (t : Trimmed xs) (h : 0 < xs.length) : 0 < xs[xs.length - 1]:=by
  rcases Nat.eq_zero_or_pos (xs[xs.length - 1]) with h0 | h0
  · exfalso
    have e:=take_last (xs:=xs) (k:=xs.length) h (by omega)
    rw [List.take_length,h0] at e
    have t2 : trim xs = trim (xs.take (xs.length - 1)):=by conv=>lhs; rw [e,trim_snoc_zero]
    have t3 : (trim xs).length = xs.length:=by rw [t]
    have t4:=length_trim_le (xs.take (xs.length - 1))
    rw [← t2,t3] at t4
    simp at t4
    omega
  · exact h0
theorem nat_trim {w : World} {g : Nat} {os : List Nat} (h : Blk w g (os.map u64v) 101) (hd : Digs 4294967296 os) (hl : os.length ≤ 17592186044416) : NatAt w (some ⟨g,0,none⟩) (trim os).length os.length (trim os):=by
  have:=(h.nat hd rfl hl).take (trim os).length
  rwa [← trim_eq_take] at this
theorem val_top {ys : List Nat} (h : 0 < ys.length) : val 4294967296 ys = val 4294967296 (ys.take (ys.length - 1)) + 4294967296 ^ (ys.length - 1) * ys[ys.length - 1]:=by
  have e:=val_take_succ (B:=4294967296) (xs:=ys) (i:=ys.length - 1) (by omega)
  rw [show ys.length - 1 + 1 = ys.length by omega,List.take_length] at e
  exact e
theorem shift_len {vs ys : List Nat} {sh : Nat} (hdv : Digs 4294967296 vs) (hvv : val 4294967296 vs = 2 ^ sh * val 4294967296 ys) (hdy : Digs 4294967296 ys) (h : 0 < ys.length) (hsh : ys[ys.length - 1] * 2 ^ sh < 4294967296) (ht : 0 < ys[ys.length - 1]) (hs : sh ≤ 31) : (trim vs).length = ys.length:=by
  have e : trim vs = digs 4294967296 (2 ^ sh * val 4294967296 ys):=trim_eq_digs (by omega) hdv hvv
  have hv:=val_top h
  have hl:=val_lt (hdy.take (ys.length - 1))
  rw [List.length_take,Nat.min_eq_left (by omega)] at hl
  have hp : 0 < 2 ^ sh:=Nat.pow_pos (by omega)
  have hsp:=pow_split (n:=sh) (by omega)
  have hB : (4294967296 : Nat) ^ ys.length = 4294967296 ^ (ys.length - 1) * 4294967296:=by rw [← Nat.pow_succ]; congr 1; omega
  have hQ : (trim vs).length < ys.length → (4294967296 : Nat) ^ (trim vs).length ≤ 4294967296 ^ (ys.length - 1):=fun h=>Nat.pow_le_pow_right (by omega) (by omega)
  generalize 4294967296 ^ (ys.length - 1) = Q at *
  generalize ys[ys.length - 1] = t at *
  generalize val 4294967296 (ys.take (ys.length - 1)) = l at *
  have h1 : t + 1 ≤ 2 ^ (32 - sh):=by
    rw [hsp,Nat.mul_comm] at hsh
    exact Nat.lt_of_mul_lt_mul_left hsh
  have h2 : 2 ^ sh * (t + 1) ≤ 4294967296:=by rw [hsp]; exact Nat.mul_le_mul_left _ h1
  have h3 : val 4294967296 ys < Q * (t + 1):=by rw [hv,Nat.mul_add]; omega
  have h4 : 2 ^ sh * val 4294967296 ys < 4294967296 ^ ys.length:=by
    rw [hB]
    calc 2 ^ sh * val 4294967296 ys < 2 ^ sh * (Q * (t + 1)):=Nat.mul_lt_mul_of_pos_left h3 hp
      _ = Q * (2 ^ sh * (t + 1)):=by grind
      _ ≤ Q * 4294967296:=Nat.mul_le_mul_left _ h2
  have h5:=length_digs_le (by omega) h4
  rw [← e] at h5
  rcases Nat.lt_or_ge (trim vs).length ys.length with hlt | hge
  · exfalso
    have h6:=val_lt hdv.trim
    rw [val_trim,hvv] at h6
    have h7:=hQ hlt
    have h8 : Q * 1 ≤ Q * t:=Nat.mul_le_mul_left _ ht
    have h9 : 1 * val 4294967296 ys ≤ 2 ^ sh * val 4294967296 ys:=Nat.mul_le_mul_right _ hp
    omega
  · omega
theorem shift_low {ys : List Nat} {sh : Nat} (h : 0 < ys.length) (h31 : 2147483648 ≤ ys[ys.length - 1] * 2 ^ sh) : 2147483648 * 4294967296 ^ (ys.length - 1) ≤ 2 ^ sh * val 4294967296 ys:=by
  rw [val_top h]
  generalize 4294967296 ^ (ys.length - 1) = Q at *
  generalize ys[ys.length - 1] = t at *
  have h1 : 2147483648 * Q ≤ t * 2 ^ sh * Q:=Nat.mul_le_mul_right _ h31
  rw [Nat.mul_add]
  have h2 : 2 ^ sh * (Q * t) = t * 2 ^ sh * Q:=by grind
  rw [h2]
  exact Nat.le_trans h1 (Nat.le_add_left _ _)
theorem start_lt {us xs : List Nat} {sh l V : Nat} (hdx : Digs 4294967296 xs) (hlu : us.length = xs.length + 1) (hvu : val 4294967296 us = 2 ^ sh * val 4294967296 xs) (hl : l ≤ xs.length) (h0 : 0 < l) (hs : sh ≤ 31) (hV : 2147483648 * 4294967296 ^ (l - 1) ≤ V) : val 4294967296 (us.drop (xs.length + 1 - l)) < V:=by
  have e:=val_take_drop (B:=4294967296) us (k:=xs.length + 1 - l) (by omega)
  have hx:=val_lt hdx
  have hp : (4294967296 : Nat) ^ xs.length = 4294967296 ^ (xs.length + 1 - l) * 4294967296 ^ (l - 1):=by rw [← Nat.pow_add]; congr 1; omega
  have hs2 : 2 ^ sh ≤ 2 ^ 31:=Nat.pow_le_pow_right (by omega) hs
  rcases Nat.lt_or_ge (val 4294967296 (us.drop (xs.length + 1 - l))) V with h | h
  · exact h
  · exfalso
    generalize val 4294967296 (us.drop (xs.length + 1 - l)) = D at *
    generalize val 4294967296 (us.take (xs.length + 1 - l)) = T at *
    have h1 : 4294967296 ^ (xs.length + 1 - l) * (2147483648 * 4294967296 ^ (l - 1)) ≤ 4294967296 ^ (xs.length + 1 - l) * D:=Nat.mul_le_mul_left _ (Nat.le_trans hV h)
    have h2 : 4294967296 ^ (xs.length + 1 - l) * (2147483648 * 4294967296 ^ (l - 1)) = 2147483648 * 4294967296 ^ xs.length:=by rw [hp]; grind
    have h3 : 2 ^ sh * val 4294967296 xs ≤ 2147483648 * val 4294967296 xs:=Nat.mul_le_mul_right _ hs2
    generalize 4294967296 ^ (xs.length + 1 - l) * D = Z at *
    rw [h2] at h1
    generalize (4294967296 : Nat) ^ xs.length = W' at *
    omega
theorem div_last {X Y p u q : Nat} (hp : 0 < p) (h : u + q * (p * Y) = p * X) (hu : u < p * Y) : q = X / Y ∧ u / p = X % Y:=by
  have hY : 0 < Y:=by
    rcases Nat.eq_zero_or_pos Y with h0 | h0
    · subst h0; omega
    · exact h0
  have hd : p ∣ u:=by
    have h1 : p ∣ u + q * (p * Y):=h ▸ Nat.dvd_mul_right p X
    have h2 : p ∣ q * (p * Y):=⟨q * Y,by grind⟩
    exact (Nat.dvd_add_iff_left h2).2 h1
  obtain ⟨r,rfl⟩:=hd
  have h3 : p * (r + q * Y) = p * X:=by rw [← h]; grind
  have h4:=Nat.eq_of_mul_eq_mul_left hp h3
  have h5:=Nat.lt_of_mul_lt_mul_left hu
  rw [Nat.mul_div_cancel_left _ hp]
  have:=div_unique (a:=X) (q:=q) (r:=r) hY h5 (by rw [← h4]; grind)
  exact this
theorem vs_top {vs : List Nat} (hd : Digs 4294967296 vs) (h : 2 ≤ vs.length) : val 4294967296 vs = (vs[vs.length - 1] * 4294967296 + vs[vs.length - 2]) * 4294967296 ^ (vs.length - 2) + val 4294967296 (vs.take (vs.length - 2)) ∧ val 4294967296 (vs.take (vs.length - 2)) < 4294967296 ^ (vs.length - 2):=by
  have e1:=val_top (ys:=vs) (by omega)
  have e2:=val_take_succ (B:=4294967296) (xs:=vs) (i:=vs.length - 2) (by omega)
  rw [show vs.length - 2 + 1 = vs.length - 1 by omega] at e2
  have hl:=val_lt (hd.take (vs.length - 2))
  rw [List.length_take,Nat.min_eq_left (by omega)] at hl
  refine ⟨?_,hl⟩
  have hp : (4294967296 : Nat) ^ (vs.length - 1) = 4294967296 * 4294967296 ^ (vs.length - 2):=by rw [← Nat.pow_succ']; congr 1; omega
  rw [e1,e2,hp]
  grind
theorem div_facts {us ds : List Nat} {i two top sec a3 U : Nat} (hdu : Digs 4294967296 us) (hdd : Digs 4294967296 ds) (h2 : 2 ≤ ds.length) (hi : i + ds.length < us.length) (hH : val 4294967296 (us.drop (i + 1)) < val 4294967296 ds)
    (htwo : two = us[i + ds.length - 1] + us[i + ds.length] * 4294967296) (htop : top = ds[ds.length - 1]) (hsec : sec = ds[ds.length - 2]) (ha3 : a3 = us[i + ds.length - 2]) (hU : U = val 4294967296 (us.drop i)) :
    ∃ P,0 < P ∧ U < (two + 1) * (4294967296 * P) ∧ top * (4294967296 * P) ≤ val 4294967296 ds ∧ U < (two * 4294967296 + a3 + 1) * P ∧ (two * 4294967296 + a3) * P ≤ U ∧ (top * 4294967296 + sec) * P ≤ val 4294967296 ds ∧ val 4294967296 ds < (top * 4294967296 + sec + 1) * P ∧ U < 4294967296 * val 4294967296 ds:=by
  obtain ⟨hpt,hpl⟩:=part_top hdu h2 hi
  obtain ⟨hvt,hvl⟩:=vs_top hdd h2
  have hUB:=part_lt hdu (by omega) hH
  rw [← part_val hdd (by omega) hH,← hU] at hpt
  rw [← hU] at hUB
  have hp : (4294967296 : Nat) ^ (ds.length - 1) = 4294967296 * 4294967296 ^ (ds.length - 2):=by rw [← Nat.pow_succ']; congr 1; omega
  have ha : us[i + ds.length - 2] < 4294967296:=hdu _ (List.getElem_mem _)
  rw [hp,← ha3] at hpt
  rw [← ha3] at ha
  rw [← htop,← hsec] at hvt
  rw [Nat.add_comm (us[i + ds.length] * 4294967296),← htwo] at hpt
  refine ⟨4294967296 ^ (ds.length - 2),Nat.pow_pos (by decide),?_⟩
  generalize (4294967296 : Nat) ^ (ds.length - 2) = P at *
  generalize val 4294967296 ((us.drop i).take (ds.length - 2)) = lu at *
  generalize val 4294967296 (ds.take (ds.length - 2)) = ld at *
  generalize val 4294967296 ds = V at *
  have h3 : (a3 + 1) * P ≤ 4294967296 * P:=Nat.mul_le_mul_right _ ha
  have e1 : (two * 4294967296 + a3) * P = two * (4294967296 * P) + a3 * P:=by grind
  have e2 : (top * 4294967296 + sec) * P = top * (4294967296 * P) + sec * P:=by grind
  rw [Nat.add_mul,Nat.one_mul] at h3
  refine ⟨?_,?_,?_,?_,?_,?_,hUB⟩
  · rw [Nat.add_mul,Nat.one_mul]; omega
  · rw [hvt,e2]; omega
  · rw [Nat.add_mul,e1]; omega
  · rw [e1]; omega
  · rw [hvt]; omega
  · rw [hvt,Nat.add_mul (top * 4294967296 + sec)]; omega
theorem mul_u64 {a b : Nat} (h : a * b < 18446744073709551616) : IntKind.u64.wrap ((a : Int) * (b : Int)) = ((a * b : Nat) : Int):=by
  rw [← Int.natCast_mul]
  generalize a * b = c at *
  exact wrap_u64 (by omega) (by omega)
theorem guess_more {g r top sec two a3 : Nat} (h : g * top + r = two) (hx : a3 + r * 4294967296 < g * sec) : two * 4294967296 + a3 < g * (top * 4294967296 + sec):=by
  subst h
  have : g * (top * 4294967296 + sec) = g * top * 4294967296 + g * sec:=by grind
  rw [this,Nat.add_mul]
  omega
theorem guess_done {g r top sec two a3 : Nat} (h : g * top + r = two) (hx : g * sec ≤ a3 + r * 4294967296) : g * (top * 4294967296 + sec) ≤ two * 4294967296 + a3:=by
  subst h
  have : g * (top * 4294967296 + sec) = g * top * 4294967296 + g * sec:=by grind
  rw [this,Nat.add_mul]
  omega
theorem mul_lt32 {g s r a : Nat} (hg : g < 4294967296) (hs : s < 4294967296) (hr : 4294967296 ≤ r) : g * s ≤ a + r * 4294967296:=by
  have h1 : g * s ≤ 4294967296 * 4294967296:=Nat.mul_le_mul (by omega) (by omega)
  omega
theorem sliceB1 {g q cap : Nat} (h : ¬ cap = q) : (if cap = q then some (⟨g,0,none⟩ : Addr) else (some (⟨g,0,none⟩ : Addr)).map (·.add (q * 1))) = some ⟨g,q,none⟩:=by
  rw [if_neg h]
  simp [addr_add_mk]
theorem div_round {us qs ds : List Nat} {i q U S : Nat} (hdd : Digs 4294967296 ds) (hdu : Digs 4294967296 us) (hi : i + ds.length < us.length) (hH : val 4294967296 (us.drop (i + 1)) < val 4294967296 ds) (hU : U = val 4294967296 (us.drop i)) (hq1 : q * val 4294967296 ds ≤ U) (hq2 : U < (q + 1) * val 4294967296 ds) (hI : val 4294967296 us + val 4294967296 qs * val 4294967296 ds = S) (hz : qs.take (i + 1) = List.replicate (i + 1) 0) (hiq : i < qs.length) :
    val 4294967296 (laid us i (ds.length + 1) (val 4294967296 ((us.drop i).take (ds.length + 1)) - val 4294967296 ds * q)) + val 4294967296 (qs.set i q) * val 4294967296 ds = S ∧ val 4294967296 ((laid us i (ds.length + 1) (val 4294967296 ((us.drop i).take (ds.length + 1)) - val 4294967296 ds * q)).drop i) < val 4294967296 ds ∧ (qs.set i q).take i = List.replicate i 0 ∧ (laid us i (ds.length + 1) (val 4294967296 ((us.drop i).take (ds.length + 1)) - val 4294967296 ds * q)).length = us.length:=by
  have hp:=part_val hdd (by omega) hH
  rw [← hp,← hU]
  have hm : (digs 4294967296 (U - val 4294967296 ds * q)).length ≤ ds.length + 1:=by
    refine length_digs_le (by omega) (Nat.lt_of_le_of_lt (Nat.sub_le _ _) ?_)
    have h:=val_lt ((hdu.drop i).take (ds.length + 1))
    rw [List.length_take,Nat.min_eq_left (by simp; omega),← hp,← hU] at h
    exact h
  have hqc : q * val 4294967296 ds = val 4294967296 ds * q:=Nat.mul_comm _ _
  refine ⟨?_,?_,?_,laid_length (by omega) hm⟩
  · have e1:=laid_val (os:=us) (off:=i) (n:=ds.length + 1) (m:=U - val 4294967296 ds * q) (by omega) hm
    rw [← hp,← hU] at e1
    have e2:=val_set (B:=4294967296) (os:=qs) (j:=i) (d:=q) hiq
    have e3 : qs[i] = 0:=by
      have h:=congrArg (fun l=>l[i]?) hz
      simp only [List.getElem?_take] at h
      rw [if_pos (by omega),List.getElem?_eq_getElem hiq,List.getElem?_replicate,if_pos (by omega)] at h
      exact Option.some.inj h
    rw [e3,Nat.mul_zero,Nat.add_zero] at e2
    rw [e2,← hI]
    obtain ⟨r,hr⟩ : ∃ r,U = val 4294967296 ds * q + r:=⟨U - val 4294967296 ds * q,by omega⟩
    rw [hr] at e1 ⊢
    rw [Nat.add_sub_cancel_left] at e1 ⊢
    generalize val 4294967296 (laid us i (ds.length + 1) r) = L at *
    generalize (4294967296 : Nat) ^ i = Q at *
    generalize val 4294967296 ds = V at *
    generalize val 4294967296 us = W' at *
    generalize val 4294967296 qs = Z at *
    grind
  · rw [laid_drop_val (by omega) hm,high_zero hdd (by omega) hH,Nat.mul_zero,Nat.add_zero]
    rw [Nat.add_mul,Nat.one_mul] at hq2
    omega
  · rw [List.take_set_of_le (Nat.le_refl i)]
    have h:=congrArg (List.take i) hz
    rw [List.take_take,Nat.min_eq_left (by omega),List.take_replicate,Nat.min_eq_left (by omega)] at h
    exact h
end Go.Lith
namespace Go.Lith
theorem pow256_split {r : Nat} (h : r ≤ 4) : (4294967296 : Nat) = 256 ^ r * 256 ^ (4 - r):=by rw [← Nat.pow_add,show r + (4 - r) = 4 by omega]
theorem pow256_two (r : Nat) : (256 : Nat) ^ r = 2 ^ (8 * r):=by rw [show 256 = 2 ^ 8 from rfl,← Nat.pow_mul]
theorem byte_fit {x b r : Nat} (hr : r < 4) (hx : x < 4294967296) (hd : 256 ^ (r + 1) ∣ x) (hb : b < 256) : x + b * 256 ^ r < 4294967296:=by
  obtain ⟨c,rfl⟩:=hd
  have e:=pow256_split (r:=r + 1) (by omega)
  rw [e] at hx ⊢
  have h1:=Nat.lt_of_mul_lt_mul_left hx
  have h2 : 256 ^ (r + 1) * (c + 1) ≤ 256 ^ (r + 1) * 256 ^ (4 - (r + 1)):=Nat.mul_le_mul_left _ h1
  rw [Nat.mul_add,Nat.mul_one] at h2
  have h3 : (b + 1) * 256 ^ r ≤ 256 * 256 ^ r:=Nat.mul_le_mul_right _ hb
  have h4 : (256 : Nat) ^ (r + 1) = 256 * 256 ^ r:=Nat.pow_succ'
  have h5 : 0 < (256 : Nat) ^ r:=Nat.pow_pos (by omega)
  rw [Nat.add_mul,Nat.one_mul] at h3
  generalize 256 ^ (r + 1) * 256 ^ (4 - (r + 1)) = Z at *
  generalize 256 ^ (r + 1) * c = Y at *
  omega
theorem abs_round {os bs : List Nat} {p j r : Nat} (hp : p < bs.length) (hpj : p = 4 * j + r) (hr : r < 4) (hj : j < os.length) (hd : Digs 4294967296 os) (hb : Digs 256 bs) (hdv : ∀ (i : Nat) (h : i < os.length),256 ^ (p + 1 - 4 * i) ∣ os[i]) (hv : val 4294967296 os = 256 ^ (p + 1) * val 256 (bs.drop (p + 1))) :
    os[j] + bs[p] * 256 ^ r < 4294967296 ∧ 256 ^ (r + 1) ∣ os[j] ∧ (∀ (i : Nat) (h : i < (os.set j (os[j] + bs[p] * 256 ^ r)).length),256 ^ (p - 4 * i) ∣ (os.set j (os[j] + bs[p] * 256 ^ r))[i]) ∧ val 4294967296 (os.set j (os[j] + bs[p] * 256 ^ r)) = 256 ^ p * val 256 (bs.drop p):=by
  have h1:=hdv j hj
  rw [show p + 1 - 4 * j = r + 1 by omega] at h1
  have hx:=hd _ (List.getElem_mem hj)
  have hby:=hb _ (List.getElem_mem hp)
  refine ⟨byte_fit hr hx h1 hby,h1,?_,?_⟩
  · intro i h
    by_cases e : i = j
    · subst e
      rw [List.getElem_set_self,show p - 4 * i = r by omega]
      exact Nat.dvd_add (Nat.dvd_trans (Nat.pow_dvd_pow 256 (by omega)) h1) (Nat.dvd_mul_left _ _)
    · rw [List.getElem_set_ne (by omega)]
      exact Nat.dvd_trans (Nat.pow_dvd_pow 256 (by omega)) (hdv i (by simpa using h))
  · have e1:=val_set (B:=4294967296) (os:=os) (j:=j) (d:=os[j] + bs[p] * 256 ^ r) hj
    have e2:=val_drop_pred (B:=256) (xs:=bs) (k:=p + 1) (by omega) (by simpa using hp)
    simp only [Nat.add_sub_cancel] at e2
    have e3 : (4294967296 : Nat) ^ j * 256 ^ r = 256 ^ p:=by
      rw [show (4294967296 : Nat) = 256 ^ 4 from rfl,← Nat.pow_mul,← Nat.pow_add,hpj]
    rw [e2,← e3]
    rw [Nat.pow_succ,← e3] at hv
    generalize (4294967296 : Nat) ^ j = Q at *
    generalize (256 : Nat) ^ r = R at *
    generalize val 256 (bs.drop (p + 1)) = D at *
    generalize val 4294967296 (os.set j (os[j] + bs[p] * R)) = L at *
    generalize val 4294967296 os = M at *
    subst hv
    grind
end Go.Lith
namespace Go.Lith
def sbytes (s : ByteArray) : List Nat:=s.data.toList.reverse.map UInt8.toNat
def sval (s : ByteArray) : Nat:=val 256 (sbytes s)
theorem data_len (s : ByteArray) : s.data.toList.length = s.size:=Array.length_toList
theorem sbytes_length (s : ByteArray) : (sbytes s).length = s.size:=by simp only [sbytes,List.length_map,List.length_reverse,data_len]
theorem sbytes_digs (s : ByteArray) : Digs 256 (sbytes s):=fun x hx=>by
  obtain ⟨b,_,rfl⟩:=List.mem_map.1 hx
  exact b.toNat_lt
theorem getElem?_data (s : ByteArray) (i : Nat) : s[i]? = s.data.toList[i]?:=by
  by_cases h : i < s.size
  · rw [getElem?_pos s i h,List.getElem?_eq_getElem (by rw [data_len]; omega)]
    rfl
  · rw [getElem?_neg s i h,List.getElem?_eq_none (by rw [data_len]; omega)]
theorem sbytes_get {s : ByteArray} {i p : Nat} (h : p + 1 + i = s.size) : ∃ b,s[i]? = some b ∧ ∃ hp : p < (sbytes s).length,(sbytes s)[p] = b.toNat:=by
  have hs:=data_len s
  have hi : i < s.data.toList.length:=by omega
  refine ⟨s.data.toList[i],by rw [getElem?_data]; exact List.getElem?_eq_getElem hi,by rw [sbytes_length]; omega,?_⟩
  simp only [sbytes,List.getElem_map,List.getElem_reverse]
  congr 2
  omega
theorem sval_wmag (n : Int) : sval (wmag n) = n.natAbs:=by
  have e : sbytes (wmag n) = digs 256 n.natAbs:=by
    simp only [sbytes,wmag,beBytes,List.reverse_reverse,← List.map_reverse,List.map_map]
    have hd : Digs 256 (digs 256 n.natAbs):=digs_digs (by omega) _
    have : ∀ l : List Nat,Digs 256 l → l.map (UInt8.toNat ∘ UInt8.ofNat) = l:=by
      intro l hl
      refine (List.map_congr_left fun x hx=>?_).trans (List.map_id l)
      simp only [Function.comp_apply,id_eq,UInt8.toNat_ofNat']
      exact Nat.mod_eq_of_lt (hl x hx)
    exact this _ hd
  rw [sval,e,val_digs (by omega)]
theorem quo_i64 {m n : Nat} (h : m < 9223372036854775808) : IntKind.i64.wrap ((m : Int).tdiv (n : Int)) = ((m / n : Nat) : Int):=by
  rw [← Int.ofNat_tdiv]
  have : m / n ≤ m:=Nat.div_le_self m n
  exact wrap_i64 (by have:=Int.natCast_nonneg (m / n); omega) (by omega)
theorem Hold.nat {w : Go.World} {A : Option Go.Addr} {n cap : Nat} {xs : List Nat} {S : Go.World → Prop} (h : NatAt w A n cap xs) (k : Hold w S) : Hold w (fun w=>NatAt w A n cap xs ∧ S w):=⟨h,k⟩
theorem drop_len {xs : List Nat} {n : Nat} (h : xs.length ≤ n) : val 256 (xs.drop n) = 0:=by rw [List.drop_of_length_le h]; rfl
end Go.Lith
namespace Go.Lith
def strOf (l : List UInt8) : ByteArray:=⟨l.toArray⟩
theorem strOf_toList (l : List UInt8) : (strOf l).data.toList = l:=by simp [strOf]
theorem strOf_inj {l k : List UInt8} (h : strOf l = strOf k) : l = k:=by rw [← strOf_toList l,h,strOf_toList]
theorem strOf_size (l : List UInt8) : (strOf l).size = l.length:=by rw [← data_len,strOf_toList]
theorem strOf_get (l : List UInt8) (i : Nat) : (strOf l)[i]? = l[i]?:=by rw [getElem?_data,strOf_toList]
theorem strOf_drop (l : List UInt8) (n : Nat) : (strOf l).extract n (strOf l).size = strOf (l.drop n):=by
  apply ByteArray.ext
  rw [ByteArray.data_extract]
  apply Array.ext'
  rw [Array.toList_extract,strOf_toList,strOf_size]
  simp only [strOf,List.extract_eq_take_drop,List.toList_toArray]
  exact List.take_of_length_le (by simp)
theorem strOf_empty (l : List UInt8) : (strOf l = ⟨#[]⟩) = (l = []):=by
  apply propext
  constructor
  · intro h
    exact strOf_inj (k:=[]) h
  · rintro rfl; rfl
def strip (l : List UInt8) : List UInt8:=l.dropWhile (· == 0)
theorem strip_zero {l : List UInt8} {b : UInt8} (h : l[0]? = some b) (hb : b.toNat = 0) : strip (l.drop 1) = strip l:=by
  cases l with
  | nil=>cases h
  | cons c l =>
    simp at h
    subst h
    have : c = 0:=UInt8.toNat_inj.1 hb
    subst this
    simp [strip]
theorem strip_done {l : List UInt8} {b : UInt8} (h : l[0]? = some b) (hb : ¬ b.toNat = 0) : strip l = l:=by
  cases l with
  | nil=>rfl
  | cons c l =>
    simp at h
    subst h
    have : ¬ c = 0:=fun e=>hb (by rw [e]; rfl)
    simp [strip,this]
theorem strip_nil : strip [] = []:=rfl
end Go.Lith
namespace Go.Lith
open Go.RowKit
section
variable {P : Program} {ds : List Deferred} {l : List Value} {x y z0 : Operand} {T T' ty : TypeId}
abbrev u8v (b : UInt8) : Value:=.int .u8 (b.toNat : Int)
theorem r_bytesOwn {w : World} {base n : Nat} {E : TypeId} {v : Value} {bs : List UInt8} (hs : P.underlying T = some (.slice E)) (he : P.underlying E = some (.int .u8)) (hd : P.underlying T' = some .string) (hx : ev l x = v) (hown : Owns w base E 1 v n (bs.map u8v)) :
    RunW P l (.convert T T' x) ty (.string (strOf bs)) w:=fun o ho _=>by
  have hn : bs.length = n:=by have:=hown.1; simpa using this
  rcases hown.row with ⟨rfl,rfl,h⟩ | ⟨g,cap,rfl,_,_,_,_,hr⟩
  · obtain rfl : bs = []:=by simpa using h
    simp only [execOp,ho,ev_eq,hx]
    rw [Sem.run_bind,run_convert_bytes_nil w T E hs he 0 0 T' hd]
    rfl
  · subst hn
    have:=run_convert_bytes_back (P:=P) w T T' E ⟨g,0,none⟩ cap bs hs he hd (fun j hj=>hr j _ (by simp [hj]))
    simp only [execOp,ho,ev_eq,hx]
    rw [Sem.run_bind,this]
    rfl
end
structure Def (w : World) (D : Nat) : Prop where
  h : w.heap[D]? = some (.deferred (some []))
theorem Def.ext {w w' : World} {D : Nat} (h : Def w D) (hE : Ext w w') : Def w' D:=⟨hE.block h.h⟩
theorem Def.ne {w : World} {D g : Nat} {cs : List Value} {t : TypeId} (h : Def w D) (hB : Blk w g cs t) : D ≠ g:=fun e=>by
  subst e
  have:=h.h
  rw [hB] at this
  cases this
theorem Def.chg {w w' : World} {D g : Nat} (h : Def w D) (hC : Chg w w' g) (hne : D ≠ g) : Def w' D:=⟨(hC.block D hne).trans h.h⟩
theorem Blk.putD {w : World} {D g : Nat} {cs : List Value} {t : TypeId} (hB : Blk w g cs t) (h : Def w D) {o : Obj} : Blk (w.putObj D o) g cs t:=(World.putObj_heap_other (Ne.symm (h.ne hB))).trans hB
theorem Ext.putD {w0 w : World} {D : Nat} (hX : Ext w0 w) (hD : w0.heap.size ≤ D) {o : Obj} : Ext w0 (w.putObj D o) :=
  ⟨hX.os,hX.tape,hX.output,by rw [World.putObj_size]; exact hX.size,fun k hk=>(World.putObj_heap_other (by omega)).trans (Below.block hX k hk)⟩
theorem finM {P : Program} {l : List Value} {n : Nat} {fn : Func} {R : Ending → World → Prop} {D : Nat} {w : World} (hK : Def w D) (h : bodyPost P fn R .ret (Fr l) (w.putObj D (.deferred none))) :
    bodyPostM Fence.wide n P fn R .ret (Fr l [{ target:=.collected D,args:=#[] }]) w:=by
  refine ⟨by simp,.inl ⟨D,_,rfl,run_takeDeferred hK.h,?_⟩⟩
  obtain ⟨_,v,hv,hR⟩:=h
  exact ⟨v,hv,hR⟩
end Go.Lith
namespace Go.Lith
def wb (x : Nat) : List UInt8:=[UInt8.ofNat (x / 16777216),UInt8.ofNat (x / 65536),UInt8.ofNat (x / 256),UInt8.ofNat x]
def wbs (l : List (Nat × Nat)) : List UInt8:=l.flatMap fun x=>wb x.2
theorem wbs_snoc (l : List (Nat × Nat)) (x : Nat × Nat) : wbs (l ++ [x]) = wbs l ++ wb x.2:=by simp [wbs]
theorem wbs_length (l : List (Nat × Nat)) : (wbs l).length = 4 * l.length:=by
  induction l with
  | nil=>rfl
  | cons x l ih=>rw [wbs,List.flatMap_cons,List.length_append]; rw [wbs] at ih; rw [ih]; simp [wb]; omega
def sgn (neg : Bool) (n : Nat) : Int:=if neg then -(n : Int) else n
theorem sgn_natAbs (neg : Bool) (n : Nat) : (sgn neg n).natAbs = n:=by cases neg <;> simp [sgn]
theorem sgn_neg (neg : Bool) (n : Nat) : wneg (sgn neg n) = (neg && decide (n ≠ 0)):=by
  cases neg
  · simp [sgn,wneg]
  · rcases Nat.eq_zero_or_pos n with h | h
    · subst h; rfl
    · have h2 : n ≠ 0:=by omega
      simp [sgn,wneg,h,h2]
theorem val_rev_bytes (ys : List Nat) (h : Digs 4294967296 ys) : val 256 (((ys.reverse.flatMap wb).reverse).map UInt8.toNat) = val 4294967296 ys ∧ Digs 256 (((ys.reverse.flatMap wb).reverse).map UInt8.toNat):=by
  induction ys with
  | nil=>exact ⟨rfl,fun _ h=>by cases h⟩
  | cons y ys ih =>
    have hy:=h y (by simp)
    obtain ⟨i1,i2⟩:=ih (fun x hx=>h x (by simp [hx]))
    have e : (((y :: ys).reverse.flatMap wb).reverse).map UInt8.toNat = [y % 256,y / 256 % 256,y / 65536 % 256,y / 16777216 % 256] ++ (((ys.reverse.flatMap wb).reverse).map UInt8.toNat):=by
      simp [List.flatMap_append,wb,UInt8.toNat_ofNat']
    rw [e]
    refine ⟨?_,?_⟩
    · rw [val_append,i1]
      simp only [val,List.length_cons,List.length_nil]
      omega
    · refine Digs.append ?_ i2
      intro x hx
      simp at hx
      omega
theorem strip_bytes {l : List UInt8} : strip l = ((trim ((l.reverse).map UInt8.toNat)).reverse).map UInt8.ofNat:=by
  induction l with
  | nil=>rfl
  | cons b l ih =>
    have hk : ∀ k : List Nat,∀ x : Nat,trim (k ++ [x]) = if x = 0 then trim k else k ++ [x]:=fun k x=>by
      split
      · rename_i h; subst h; exact trim_snoc_zero k
      · rename_i h; exact trim_snoc_pos h k
    rw [List.reverse_cons,List.map_append,List.map_cons,List.map_nil,hk]
    by_cases hb : b = 0
    · subst hb
      rw [if_pos (show UInt8.toNat 0 = 0 from rfl),← ih]
      simp [strip]
    · have hb' : ¬ b.toNat = 0:=fun e=>hb (UInt8.toNat_inj.1 e)
      rw [if_neg hb']
      simp [strip,hb,Function.comp_def]
theorem wide_bytes {ys : List Nat} (h : Digs 4294967296 ys) (neg : Bool) : strOf (strip (ys.reverse.flatMap wb)) = wmag (sgn neg (val 4294967296 ys)):=by
  obtain ⟨h1,h2⟩:=val_rev_bytes ys h
  rw [strip_bytes,trim_eq_digs (by omega) h2 h1,wmag,sgn_natAbs,beBytes]
  rfl
theorem wide_empty {neg : Bool} {n : Nat} : (wmag (sgn neg n) = ⟨#[]⟩) ↔ n = 0:=by
  constructor
  · intro h
    have:=size_wmag (sgn neg n)
    rw [h,sgn_natAbs] at this
    have h0 : digs 256 n = []:=List.eq_nil_of_length_eq_zero this.symm
    exact (digs_eq_nil (by omega)).1 h0
  · rintro rfl
    cases neg <;> rfl
end Go.Lith
namespace Go.Lith
class Bw (k : outParam Nat) (n : Int) : Prop where
  h : Bd k n
instance {a b : Nat} {m n : Int} [x : Bw a m] [y : Bw b n] : Bw (max a b + 1) (m + n):=⟨x.h.add y.h⟩
instance {a b : Nat} {m n : Int} [x : Bw a m] [y : Bw b n] : Bw (max a b + 1) (m - n):=⟨x.h.sub y.h⟩
instance {a b : Nat} {m n : Int} [x : Bw a m] [y : Bw b n] : Bw (a + b) (m * n):=⟨x.h.mul y.h⟩
instance {a : Nat} {m : Int} [x : Bw a m] : Bw a (-m):=⟨x.h.neg⟩
instance : Bw 1 0:=⟨bd_zero 1⟩
theorem Bw.of {n : Int} {k : Nat} [x : Bw k n] (h : k ≤ 1000000:=by decide) : Bd 1000000 n:=x.h.mono h
theorem wneg_true {n : Int} (h : wneg n = true) : n < 0:=of_decide_eq_true h
theorem wneg_false {n : Int} (h : wneg n = false) : 0 ≤ n:=Int.not_lt.1 (of_decide_eq_false h)
theorem natAbs_neg {n : Int} (h : wneg n = true) : (n.natAbs : Int) = -n:=by have:=wneg_true h; omega
theorem natAbs_nn {n : Int} (h : wneg n = false) : (n.natAbs : Int) = n:=by have:=wneg_false h; omega
theorem sgn_true (n : Nat) : sgn true n = -(n : Int):=rfl
theorem sgn_false (n : Nat) : sgn false n = (n : Int):=rfl
theorem sgn_self (a : Int) : sgn (wneg a) a.natAbs = a:=by
  cases h : wneg a
  · rw [sgn_false,natAbs_nn h]
  · rw [sgn_true,natAbs_neg h]; omega
theorem sgn_not (a : Int) : sgn (!wneg a) a.natAbs = -a:=by
  cases h : wneg a
  · rw [Bool.not_false,sgn_true,natAbs_nn h]
  · rw [Bool.not_true,sgn_false,natAbs_neg h]
theorem sgn_add {a b : Int} (h : wneg a = wneg b) : sgn (wneg a) (a.natAbs + b.natAbs) = a + b:=by
  cases ha : wneg a <;> rw [ha] at h
  · have h1:=natAbs_nn ha; have h2:=natAbs_nn h.symm; rw [sgn_false]; omega
  · have h1:=natAbs_neg ha; have h2:=natAbs_neg h.symm; rw [sgn_true]; omega
theorem sgn_lt {a b : Int} (h : ¬ wneg a = wneg b) (hl : a.natAbs < b.natAbs) : sgn (wneg b) (b.natAbs - a.natAbs) = a + b:=by
  cases ha : wneg a <;> cases hb : wneg b <;> rw [ha,hb] at h
  · exact absurd rfl h
  · have h1:=natAbs_nn ha; have h2:=natAbs_neg hb; rw [sgn_true]; omega
  · have h1:=natAbs_neg ha; have h2:=natAbs_nn hb; rw [sgn_false]; omega
  · exact absurd rfl h
theorem sgn_ge {a b : Int} (h : ¬ wneg a = wneg b) (hl : b.natAbs ≤ a.natAbs) : sgn (wneg a) (a.natAbs - b.natAbs) = a + b:=by
  cases ha : wneg a <;> cases hb : wneg b <;> rw [ha,hb] at h
  · exact absurd rfl h
  · have h1:=natAbs_nn ha; have h2:=natAbs_neg hb; rw [sgn_false]; omega
  · have h1:=natAbs_neg ha; have h2:=natAbs_nn hb; rw [sgn_true]; omega
  · exact absurd rfl h
theorem sgn_mul {a b : Int} : sgn (decide (¬ wneg a = wneg b)) (a.natAbs * b.natAbs) = a * b:=by
  cases ha : wneg a <;> cases hb : wneg b
  · have h1:=natAbs_nn ha; have h2:=natAbs_nn hb
    show ((a.natAbs * b.natAbs : Nat) : Int) = _
    rw [Int.natCast_mul,h1,h2]
  · have h1:=natAbs_nn ha; have h2:=natAbs_neg hb
    show -((a.natAbs * b.natAbs : Nat) : Int) = _
    rw [Int.natCast_mul,h1,h2,Int.mul_neg,Int.neg_neg]
  · have h1:=natAbs_neg ha; have h2:=natAbs_nn hb
    show -((a.natAbs * b.natAbs : Nat) : Int) = _
    rw [Int.natCast_mul,h1,h2,Int.neg_mul,Int.neg_neg]
  · have h1:=natAbs_neg ha; have h2:=natAbs_neg hb
    show ((a.natAbs * b.natAbs : Nat) : Int) = _
    rw [Int.natCast_mul,h1,h2,Int.neg_mul_neg]
theorem sgn_quo {a b : Int} : sgn (decide (¬ wneg a = wneg b)) (a.natAbs / b.natAbs) = a.tdiv b:=by
  cases ha : wneg a <;> cases hb : wneg b
  · have h1:=natAbs_nn ha; have h2:=natAbs_nn hb
    show ((a.natAbs / b.natAbs : Nat) : Int) = _
    rw [Int.ofNat_tdiv,h1,h2]
  · have h1:=natAbs_nn ha; have h2:=natAbs_neg hb
    show -((a.natAbs / b.natAbs : Nat) : Int) = _
    rw [Int.ofNat_tdiv,h1,h2,Int.tdiv_neg,Int.neg_neg]
  · have h1:=natAbs_neg ha; have h2:=natAbs_nn hb
    show -((a.natAbs / b.natAbs : Nat) : Int) = _
    rw [Int.ofNat_tdiv,h1,h2,Int.neg_tdiv,Int.neg_neg]
  · have h1:=natAbs_neg ha; have h2:=natAbs_neg hb
    show ((a.natAbs / b.natAbs : Nat) : Int) = _
    rw [Int.ofNat_tdiv,h1,h2,Int.neg_tdiv,Int.tdiv_neg,Int.neg_neg]
theorem sgn_rem {a b : Int} : sgn (wneg a) (a.natAbs % b.natAbs) = a.tmod b:=by
  have hb : a.tmod b = a.tmod (b.natAbs : Int):=by
    rcases Int.natAbs_eq b with h | h
    · rw [← h]
    · have : (b.natAbs : Int) = -b:=by omega
      rw [this,Int.tmod_neg]
  rw [hb]
  cases ha : wneg a
  · have h1:=natAbs_nn ha
    rw [sgn_false,Int.ofNat_tmod,h1]
  · have h1:=natAbs_neg ha
    rw [sgn_true,Int.ofNat_tmod,h1,Int.neg_tmod,Int.neg_neg]
def isign (n : Int) : Int:=if n < 0 then -1 else if 0 < n then 1 else 0
theorem isign_neg {n : Int} (h : n < 0) : isign n = -1:=by rw [isign,if_pos h]
theorem isign_pos {n : Int} (h : 0 < n) : isign n = 1:=by rw [isign,if_neg (by omega),if_pos h]
def isqrt : Nat → Nat
  | 0=>0
  | n + 1=>if (isqrt n + 1) * (isqrt n + 1) ≤ n + 1 then isqrt n + 1 else isqrt n
theorem isqrt_spec : ∀ n,isqrt n * isqrt n ≤ n ∧ n < (isqrt n + 1) * (isqrt n + 1)
  | 0=>by simp [isqrt]
  | n + 1=>by
    obtain ⟨h1,h2⟩:=isqrt_spec n
    simp only [isqrt]
    split
    · rename_i h
      refine ⟨h,?_⟩
      have : (isqrt n + 1 + 1) * (isqrt n + 1 + 1) = (isqrt n + 1) * (isqrt n + 1) + 2 * isqrt n + 3:=by grind
      omega
    · rename_i h
      exact ⟨by omega,by omega⟩
theorem length_digs_bd {k V : Nat} (h : V < 2 ^ k) : (digs 4294967296 V).length ≤ k:=by
  refine length_digs_le (by omega) (Nat.lt_of_lt_of_le h ?_)
  rw [show (4294967296 : Nat) = 2 ^ 32 from rfl,← Nat.pow_mul]
  exact Nat.pow_le_pow_right (by omega) (by omega)
theorem wmag_size {n : Int} (h : Bd 1000000 n) : (wmag n).size ≤ 1000000000000:=Nat.le_trans (size_wmag_le h) (by decide)
theorem len_add32 {k : Nat} {a b : Int} (ha : Bd k a) (hb : Bd k b) : (digs 4294967296 (a.natAbs + b.natAbs)).length ≤ k + 1:=length_digs_bd (by unfold Bd at ha hb; rw [Nat.pow_succ]; omega)
theorem len_bd {k : Nat} {n : Int} (h : Bd k n) : (digs 4294967296 n.natAbs).length ≤ k:=length_digs_bd h
theorem lt_len {m n : Nat} (h : m ≤ n) : (digs 4294967296 m).length ≤ (digs 4294967296 n).length:=by
  refine length_digs_le (by omega) (Nat.lt_of_le_of_lt h ?_)
  have:=val_lt (digs_digs32 n)
  rwa [val_digs32] at this
theorem nil_iff {a : Int} : (((digs 4294967296 a.natAbs).length : Int) = 0) ↔ a = 0:=by
  constructor
  · intro h
    have h0 : digs 4294967296 a.natAbs = []:=List.eq_nil_of_length_eq_zero (by omega)
    have:=(digs_eq_nil (by omega)).1 h0
    omega
  · rintro rfl; rfl
end Go.Lith
namespace Go.Lith
def I64 (n : Int) : Prop:=-9223372036854775808 ≤ n ∧ n < 9223372036854775808
theorem I64.bd {n : Int} (h : I64 n) : Bd 64 n:=Bd.of_i64 h.1 (by have:=h.2; omega)
theorem u64_nn {n : Int} (h : I64 n) (h0 : 0 ≤ n) : IntKind.u64.wrap n = (n.natAbs : Int):=by
  rw [wrap_u64_emod]; have:=h.2; omega
theorem u64_neg {n : Int} (h : I64 n) (h0 : n < 0) : IntKind.u64.wrap n = ((18446744073709551616 - n.natAbs : Nat) : Int):=by
  rw [wrap_u64_emod]; have:=h.1; omega
theorem u64_minus {m : Nat} (h : m ≤ 9223372036854775808) (h0 : 0 < m) : IntKind.u64.wrap (0 - ((18446744073709551616 - m : Nat) : Int)) = (m : Int):=by
  rw [wrap_u64_emod]; omega
theorem words_val {m : Nat} : val 4294967296 [m % 4294967296,m / 4294967296] = m:=by simp [val]; omega
theorem words_digs {m : Nat} (h : m < 18446744073709551616) : Digs 4294967296 [m % 4294967296,m / 4294967296]:=fun x hx=>by simp at hx; omega
theorem I64.natAbs {n : Int} (h : I64 n) : n.natAbs ≤ 9223372036854775808:=by have:=h.1; have:=h.2; omega
theorem gcd_step {X Y : Nat} : Nat.gcd Y (X % Y) = Nat.gcd X Y:=by rw [Nat.gcd_comm X Y,Nat.gcd_rec Y X,Nat.gcd_comm]
theorem isqrt_le (n : Nat) : isqrt n ≤ n:=by
  have h:=(isqrt_spec n).1
  rcases Nat.eq_zero_or_pos (isqrt n) with h0 | h0
  · omega
  · exact Nat.le_trans (Nat.le_mul_of_pos_left _ h0) h
def Qc (n d : Int) : Go.Value:=.agg #[.bool (wneg n),.string (wmag n),.bool (wneg d),.string (wmag d)]
def Q (q : Rat) : Go.Value:=Qc q.num q.den
theorem frac_den {n d : Int} (h : d ≠ 0) : d.tdiv ((Int.gcd n d : Int) * isign d) = ((Rat.divInt n d).den : Int) ∧ (Int.gcd n d : Int) * isign d ≠ 0:=by
  have hg : (Int.gcd n d : Int) ≠ 0:=by
    intro e
    have:=Int.gcd_eq_zero_iff.1 (show Int.gcd n d = 0 by omega)
    exact h this.2
  have hgd : (Int.gcd n d : Int) ∣ d:=Int.gcd_dvd_right ..
  rw [Rat.den_divInt,if_neg h,Int.gcd_comm d n]
  obtain ⟨c,hc⟩:=hgd
  generalize (Int.gcd n d) = g at *
  rcases Int.lt_trichotomy d 0 with h0 | h0 | h0
  · rw [isign_neg h0]
    refine ⟨?_,by omega⟩
    rw [show (g : Int) * -1 = -(g : Int) by omega,Int.tdiv_neg,← Int.neg_tdiv]
    rw [Int.natCast_ediv,show (d.natAbs : Int) = -d by omega]
    exact Int.tdiv_eq_ediv_of_nonneg (by omega)
  · exact absurd h0 h
  · rw [isign_pos h0,Int.mul_one]
    refine ⟨?_,hg⟩
    rw [Int.natCast_ediv,show (d.natAbs : Int) = d by omega]
    exact Int.tdiv_eq_ediv_of_nonneg (by omega)
theorem frac_num {n d : Int} (h : d ≠ 0) : n.tdiv ((Int.gcd n d : Int) * isign d) = (Rat.divInt n d).num:=by
  rw [Rat.num_divInt,Int.gcd_comm d n]
  have hgn : (Int.gcd n d : Int) ∣ n:=Int.gcd_dvd_left ..
  obtain ⟨c,hc⟩:=hgn
  have hg : (Int.gcd n d : Int) ≠ 0:=by
    intro e
    have:=Int.gcd_eq_zero_iff.1 (show Int.gcd n d = 0 by omega)
    exact h this.2
  generalize (Int.gcd n d) = g at *
  subst hc
  rcases Int.lt_trichotomy d 0 with h0 | h0 | h0
  · rw [isign_neg h0,Int.sign_eq_neg_one_of_neg h0,show (g : Int) * -1 = -(g : Int) by omega,Int.tdiv_neg,Int.mul_tdiv_cancel_left _ hg,Int.neg_one_mul,Int.neg_ediv_of_dvd (Int.dvd_mul_right ..),Int.mul_ediv_cancel_left _ hg]
  · exact absurd h0 h
  · rw [isign_pos h0,Int.sign_eq_one_of_pos h0,Int.mul_one,Int.mul_tdiv_cancel_left _ hg,Int.one_mul,Int.mul_ediv_cancel_left _ hg]
theorem num_le {n d : Int} (h : d ≠ 0) : (Rat.divInt n d).num.natAbs ≤ n.natAbs:=by
  rw [← frac_num h,Int.natAbs_tdiv]; exact Nat.div_le_self ..
theorem den_le {n d : Int} (h : d ≠ 0) : (Rat.divInt n d).den ≤ d.natAbs:=by
  have:=(frac_den (n:=n) h).1
  have e : ((Rat.divInt n d).den : Int).natAbs ≤ d.natAbs:=by rw [← this,Int.natAbs_tdiv]; exact Nat.div_le_self ..
  simpa using e
class Bq (k : outParam Nat) (q : Rat) : Prop where
  n : Bd k q.num
  d : Bd k (q.den : Int)
theorem Bq.num {k : Nat} {q : Rat} (h : Bq k q) : Bw k q.num:=⟨h.n⟩
theorem Bq.den {k : Nat} {q : Rat} (h : Bq k q) : Bw k (q.den : Int):=⟨h.d⟩
theorem Bq.mk' {a b : Nat} {n d : Int} (x : Bd a n) (y : Bd b d) (h : d ≠ 0) : Bq (max a b) (Rat.divInt n d) :=
  ⟨(x.of_le (num_le h)).mono (Nat.le_max_left ..),(y.of_le (by have:=den_le (n:=n) h; simpa using this)).mono (Nat.le_max_right ..)⟩
def qcmp (p q : Rat) : Int:=isign (p.num * q.den - q.num * p.den)
theorem qcmp_lt {p q : Rat} : qcmp p q < 0 ↔ p < q:=by
  rw [Rat.lt_iff,qcmp]
  generalize p.num * q.den = a; generalize q.num * p.den = b
  simp only [isign]
  split
  · simp; omega
  · split <;> simp <;> omega
theorem qcmp_gt {p q : Rat} : 0 < qcmp p q ↔ q < p:=by
  rw [Rat.lt_iff,qcmp]
  generalize p.num * q.den = a; generalize q.num * p.den = b
  simp only [isign]
  split
  · simp; omega
  · split <;> simp <;> omega
end Go.Lith
namespace Go.Lith
open Go.RowKit
theorem Owns.full {w : World} {base g n : Nat} {E : TypeId} {cs : List Value} (hB : Blk w g cs E) (hb : base ≤ g) (hn : cs.length = n) (hl : n ≤ 9223372036854775807) : Owns w base E 1 (.slice (some ⟨g,0,none⟩) n n) n cs:=by
  refine ⟨by simpa using hn,.inr ⟨g,n,cs.toArray,rfl,hb,hB,Nat.le_refl _,hl,by simpa using hn,?_⟩⟩
  simp [← hn]
theorem Ext.ext {a b c : World} (h : Ext a b) (k : Ext b c) : Ext a c:=h.trans k
theorem NatAt.grew {w0 w w' : World} {A : Option Addr} {n cap base : Nat} {xs : List Nat} (h : NatAt w0 A n cap xs) (hE : Ext w0 w) (hG : Grew w w' base) (hb : w0.heap.size ≤ base) : NatAt w' A n cap xs :=
  ⟨h.eq,fun i x hi=>by
    obtain ⟨a,e,hc⟩:=h.row i x hi
    have h1:=World.block_lt_of_cell? _ _ hc
    have h2:=hE.cell hc
    exact ⟨a,e,(World.cell?_of_block (hG.block _ (Nat.lt_of_lt_of_le h1 hb))).trans h2⟩,h.le,h.cap,h.len,h.digs⟩
end Go.Lith
