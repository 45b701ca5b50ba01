/-
 Texts of one claim, laid together: Ext, Ops, Al, Ops2, Upd, Held, Eq, Facts, Nat, Nat2, Nat3, Nat4, Nat5, Nat6, Nat7, Nat8, Ops3, Nat9, Nat10, Nat11, Nat12.
-/
import Derived.WalkKit
import Derived.StillTail
import Derived.Deep.Quiet
import Derived.BigQuiet
import Derived.Laws.Rows
import Derived.Laws.IdiomCopy
import Derived.Laws.CopyRow
import Derived.OrdersHeld
import Derived.Laws.StructEq
import Derived.ChangeKeysEq
import Derived.Test.YtimjandkmfcmiaaGreatDoorProg
import Derived.Laws.IdiomStrings
import Derived.Laws.BytesArg
import Derived.RangeFuncBox
import Derived.RangeFuncLeaves
set_option linter.unusedSimpArgs false
set_option linter.unusedVariables false
set_option linter.unusedSectionVars false
namespace Go.Lith
open Go.RowKit
def cD (w w' : World) : Prop:=Below w.heap.size w w'
theorem cD.refl (w : World) : cD w w:=Below.refl _ _
theorem cD.size {w w' : World} (h : cD w w') : w.heap.size ≤ w'.heap.size:=Below.size h
theorem cD.trans {a b c : World} (h : cD a b) (k : cD b c) : cD a c:=Below.trans h (Below.mono k h.size)
theorem cD.drew {w w' : World} (h : cD w w') : cD w w'.drew:=Below.drew h
theorem cD.drawn {w w' : World} (h : cD w w') : cD w { w' with drawn:=w'.drawn + 1 }:=Below.drew h
theorem cD.alloc {w w' : World} (h : cD w w') (o : Obj) : cD w (w'.alloc o):=Below.alloc h h.size o
theorem cD.setCell {w w' : World} (h : cD w w') {p : Addr} (hp : w.heap.size ≤ p.block) (u : Value) : cD w (w'.setCell p u):=Below.setCell h hp u
theorem cD.block {w w' : World} (h : cD w w') {k : Nat} {o : Obj} (hk : w.heap[k]? = some o) : w'.heap[k]? = some o :=
 (Below.block h k (Array.getElem?_eq_some_iff.1 hk).1).trans hk
theorem cD.cell {w w' : World} (h : cD w w') {p : Addr} {v : Value} (hp : w.cell? p = some v) : w'.cell? p = some v :=
 (Below.cell h (World.block_lt_of_cell? _ _ hp)).trans hp
section
variable {P : Program} {ops : Array Oper} {md : Region.Mode} {C : World → Prop}
def vL (P : Program) (md : Region.Mode) (ops : Array Oper) (C : World → Prop) (n : Nat) (L : Array Bool → Act → Prop) : Nat → Array Bool → Act → Prop
 | 0,listed,a=>L listed a
 | f + 1,listed,a =>
  Region.ready md ops listed ≠ [] ∧ ∀ i ∈ Region.ready md ops listed,i < n ∧ qOp P ops C i (vL P md ops C n L f (listed.setIfInBounds i true)) a
theorem oV {n g : Nat} {L : Array Bool → Act → Prop} {Q' : Exit → Act → World → Prop} (hL : ∀ listed a,L listed a → ∀ w,C w → wpAny P md ops Q' g listed a w) :
 ∀ (f : Nat) (listed : Array Bool) (a : Act) (w : World),C w → vL P md ops C n L f listed a → wpAny P md ops Q' (f + g) listed a w
 | 0,listed,a,w,hw,h=>by rw [Nat.zero_add]; exact hL _ _ h w hw
 | f + 1,listed,a,w,hw,h=>by
  rw [show f + 1 + g = (f + g) + 1 by omega];exact ⟨fun h0=>absurd h0 h.1,fun i hi=>wpOp_of_qOp hw (fun a' w' hw' h'=>oV hL f _ a' w' hw' h') (h.2 i hi).2⟩
theorem At {n i : Nat} {oi : Oper} {v : Value} {L : Array Bool → Act → Prop} (hi : ops[i]? = some oi) (hsel : ∀ (j : Nat) (o : Oper) cs b,ops[j]? = some o → o.op ≠ .select cs b)
 (hs : Region.sinkB md ops n = true) (hc : Region.chainB md ops n = true) (hn : n < ops.size) (hin : i < n)
 (hdone : ∀ listed a,L listed a → ∀ j ∈ Region.ready md ops listed,n ≤ j) :
 ∀ (f : Nat) (listed : Array Bool) (a : Act),HeadInv md ops n listed →
  (∀ j oj,ops[j]? = some oj → j ≠ i → listed.getD j true = false → (∀ e ∈ oj.after,Region.binds md e = true → e.on ≠ i) → oi.apart ops oj = true) →
  i ∈ Region.ready md ops listed → YieldsIn P ops C oi v a →
  vL P md ops C n L f (listed.setIfInBounds i true) (a.put oi.dst v) → vL P md ops C n L (f + 1) listed a:=by
 intro f
 induction f with
 | zero =>
  intro listed a inv _ hr hy H;have hun:=(mem_ready.1 hr).1;refine ⟨fun h=>(by rw [h] at hr; cases hr),fun j hj=>?_⟩;have hjn : j < n:=by
   rcases Nat.lt_or_ge j n with h | h
   · exact h
   · exact absurd hj (tail_waits hs hc hn inv _ i rfl hin hun j h)
  refine ⟨hjn,?_⟩;by_cases hji : j = i
  · subst hji; exact hy.qOp hi H
  · have:=hdone _ _ H j (ready_mono hj hji)
    omega
 | succ f ih =>
  intro listed a inv hfree hr hy H;have hun:=(mem_ready.1 hr).1;refine ⟨fun h=>(by rw [h] at hr; cases hr),fun j hj=>?_⟩;have hjn : j < n:=by
   rcases Nat.lt_or_ge j n with h | h
   · exact h
   · exact absurd hj (tail_waits hs hc hn inv _ i rfl hin hun j h)
  refine ⟨hjn,?_⟩;by_cases hji : j = i
  · subst hji; exact hy.qOp hi H
  · have h1:=(H.2 j (ready_mono hj hji)).2
    obtain ⟨hjun,oj,hoj,hall⟩:=mem_ready.1 hj;have hnot : ∀ e ∈ oj.after,Region.binds md e = true → e.on ≠ i:=fun e he hb heq=>by
     have h1:=hall e he hb;rw [heq,getD_both hun] at h1;cases h1
    have h2:=qOp_put hoj (hfree j oj hoj hji hjun hnot) (fun cs b=>hsel i oi cs b hi) (fun cs b=>hsel j oj cs b hoj) hy h1;have hfree' : ∀ k ok,ops[k]? = some ok → k ≠ i → (listed.setIfInBounds j true).getD k true = false →
     (∀ e ∈ ok.after,Region.binds md e = true → e.on ≠ i) → oi.apart ops ok = true:=fun k ok hk hki hun hno=>by
     refine hfree k ok hk hki ?_ hno;by_cases hjk : j = k
     · subst hjk; exact hjun
     · rw [getD_set_ne true hjk] at hun; exact hun
    refine qOp_mono (fun a' h3=>ih (listed.setIfInBounds j true) a' (inv.set hj hjn) hfree' (ready_mono hr (Ne.symm hji)) h3.1 ?_) h2;rw [Array.setIfInBounds_comm _ _ hji];exact h3.2
theorem vM {n g : Nat} {Lq : Act → Prop} (hsel : Region.noSelect ops = true) (hs : Region.sinkB md ops n = true) (hc : Region.chainB md ops n = true) (hn : n < ops.size) :
 ∀ (l : List Oper) (k : Nat) (listed : Array Bool) (a : Act),(∀ j,j < l.length → l[j]? = ops[k + j]?) → k + l.length = n → HeadInv md ops n listed →
 Region.lexHead md ops g l.length k listed = true → wpQuiet P ops C Lq l a →
 vL P md ops C n (fun listed' a'=>Region.seqB md ops g n listed' = true ∧ Lq a') l.length listed a
 | [],k,listed,a,_,hk,_,hB,h=>by
  have : k = n:=by simpa using hk
  subst this;exact ⟨by simpa [Region.lexHead] using hB,h⟩
 | o :: l,k,listed,a,hl,hk,inv,hB,h=>by
  have h0 : ops[k]? = some o:=by simpa using (hl 0 (by simp)).symm
  simp only[List.length_cons,Region.lexHead,Bool.and_eq_true] at hB;obtain ⟨⟨hr,hf⟩,hB'⟩:=hB;have hkn : k < n:=by simp only[List.length_cons] at hk; omega
  have hr' : k ∈ Region.ready md ops listed:=by simpa using hr
  have hst : qOp P ops C k (wpQuiet P ops C Lq l) a:=by unfold qOp; simp only[h0]; exact h
  obtain ⟨v,hy,hK⟩:=yieldsIn_of_qOp h0 hst;exact At h0 (Region.noSelect_spec hsel) hs hc hn hkn (fun listed' a' hL=>seqB_ready hL.1) l.length listed a inv (Region.free_spec h0 hf) hr' hy
   (vM hsel hs hc hn l (k + 1) _ _ (fun j hj=>by have:=hl (j + 1) (by simp; omega); simpa [Nat.add_assoc,Nat.add_comm 1 j] using this) (by simp only[List.length_cons] at hk; omega) (inv.set hr' hkn) hB' hK)
theorem kJ {id : Nat} {Q : Exit → Act → World → Prop} {a : Act} {w : World} {l : List Oper} (n : Nat) (hm : P.follows .mixedOrders = true) (hB : Region.lexTailB .any l.toArray n = true)
 (hC : C { w with drawn:=w.drawn + 1 })
 (h : wpQuiet P l.toArray C (fun a'=>∀ w',C w' → wpList P l.toArray Q (l.drop n) a' w') (l.take n) a) : (Code.region id l.toArray true).wp P Q a w:=by
 simp only[Region.lexTailB,Bool.and_eq_true,decide_eq_true_eq] at hB;obtain ⟨⟨⟨⟨hsel,hn⟩,hs⟩,hc⟩,hlex⟩:=hB;have hn' : n < l.length:=by simpa using hn
 have htl : (l.take n).length = n:=by simp; omega
 have hdl : (l.drop n).length = l.toArray.size - n:=by simp
 have inv0 : HeadInv .any l.toArray n (Array.replicate l.toArray.size false) :=
  ⟨by simp,fun j oj _ hl=>(by rw [getD_replicate_false] at hl; cases hl),fun t _ ht=>getD_in (by simpa using ht) (getD_replicate_false _ _)⟩
 have H:=vM (md:=.any) (g:=l.toArray.size - n) hsel hs hc hn (l.take n) 0 _ a (fun j hj=>by
  have hj' : j < n:=by rw [htl] at hj; exact hj
  simp [hj']) (by simpa using htl) inv0 (by rw [htl]; exact hlex) h
 refine wp_region_any hm ?_;have:=oV (Q':=Q) (g:=l.toArray.size - n) (fun listed a' hL w' hw'=>by
  have:=wpAny_of_seq (md:=.any) (Q':=Q) (l.drop n) n listed a' w' (fun j=>by simp [List.getElem?_drop]) (by rw [hdl]; exact hL.1) (hL.2 w' hw');rwa [hdl] at this) _ _ _ _ hC H
 rw [htl,show n + (l.toArray.size - n) = l.toArray.size by omega] at this;exact this
theorem gZ {id : Nat} {Q : Exit → Act → World → Prop} {a : Act} {w : World} {l : List Oper} (n : Nat) (hm : P.follows .mixedOrders = true) (hB : Region.lexTailB .any l.toArray n = true)
 (h : wpQuiet P l.toArray (cD w) (fun a'=>∀ w',cD w w' → wpList P l.toArray Q (l.drop n) a' w') (l.take n) a) : (Code.region id l.toArray true).wp P Q a w :=
 kJ (C:=cD w) n hm hB (cD.refl w).drawn h
theorem iG {id : Nat} {Q : Exit → Act → World → Prop} {a : Act} {w : World} {l : List Oper} (hm : P.follows .mixedOrders = true) (hB : Region.lexB .any l.toArray = true)
 (h : wpQuiet P l.toArray (cD w) (fun a'=>∀ w',cD w w' → Q .normal a' w') l a) : (Code.region id l.toArray true).wp P Q a w :=
 wp_region_quiet (C:=cD w) hm hB (cD.refl w).drawn (by simpa using h)
def tG (md : Region.Mode) (ops : Array Oper) : List (Nat × Bool) → Array Bool → Bool
 | [],listed=>(Region.ready md ops listed).isEmpty
 | (i,true) :: r,listed=>(ops[i]?).isSome && Region.free md ops listed i && (Region.ready md ops listed).contains i && tG md ops r (listed.setIfInBounds i true)
 | (i,false) :: r,listed=>(ops[i]?).isSome && decide (Region.ready md ops listed = [i]) && tG md ops r (listed.setIfInBounds i true)
def dV (P : Program) (ops : Array Oper) (Q : Exit → Act → World → Prop) : List (Oper × Bool) → Act → World → Prop
 | [],a,w=>Q .normal a w
 | (o,true) :: r,a,w=>∃ v,Yields P ops o v a ∧ dV P ops Q r (a.put o.dst v) w
 | (o,false) :: r,a,w=>wpList P ops (Exit.then (dV P ops Q r) Q) [o] a w
theorem nT {Q : Exit → Act → World → Prop} (hs : Region.noSelect ops = true) (hQ : ∀ c d v a w,Q (.panic c) (Act.put a d v) w → Q (.panic c) a w) : ∀ (l : List (Nat × Bool)) (listed : Array Bool) (a : Act) (w : World),
 tG md ops l listed = true → dV P ops Q (l.map fun x=>((ops[x.1]?).getD default,x.2)) a w → wpAny P md ops Q l.length listed a w
 | [],listed,a,w,hB,h=>⟨by simpa [tG] using hB,h⟩
 | (i,true) :: r,listed,a,w,hB,h=>by
  simp only[tG,Bool.and_eq_true] at hB;obtain ⟨⟨⟨h1,h2⟩,h3⟩,h4⟩:=hB;obtain ⟨o,ho⟩:=Option.isSome_iff_exists.1 h1;simp only[List.map_cons,dV,ho,Option.getD_some] at h;obtain ⟨v,hy,hr⟩:=h;exact wpAny_take ho hs h2 h3 (fun c a w=>hQ c _ v a w) hy (nT hs hQ r _ _ _ h4 hr)
 | (i,false) :: r,listed,a,w,hB,h=>by
  simp only[tG,Bool.and_eq_true,decide_eq_true_eq] at hB;obtain ⟨⟨h1,h2⟩,h4⟩:=hB;obtain ⟨o,ho⟩:=Option.isSome_iff_exists.1 h1;refine wpAny_all h2 (by simp) fun j hj=>?_;obtain rfl : j = i:=by simpa using hj
  simp only[List.map_cons,dV,ho,Option.getD_some] at h;have key : ∀ a' w',Exit.then (dV P ops Q (r.map fun x=>((ops[x.1]?).getD default,x.2))) Q .normal a' w' → wpAny P md ops Q r.length (listed.setIfInBounds j true) a' w':=fun a' w' hh=>nT hs hQ r _ a' w' h4 hh
  unfold wpOp;simp only[ho];simp only[wpList] at h;split
  · rename_i hw
    rw [if_pos hw] at h;rcases h with h | ⟨ha,x,y,hl⟩
    · refine .inl ?_
      unfold Oper.wp at h ⊢;generalize (execOp a.eval o).run P w = res at *
      cases res with
      | ok n w' =>
       cases n <;> simp only[Oper.upon] at h ⊢ <;>
        first
         | exact key _ _ h
         | exact Calls.mono h (fun e w'' he=>by cases e <;> first | exact key _ _ he | exact he)
         | exact Rows.mono h (fun _ _ he=>key _ _ he)
      | halt x w'=>cases x <;> simp only[Oper.upon] at h ⊢ <;> exact h
    · exact .inr ⟨ha,x,y,hl⟩
  · rename_i hw
    rw [if_neg hw] at h;exact key _ _ h
theorem xL {id : Nat} {Q : Exit → Act → World → Prop} {a : Act} {w : World} {l : List Oper} (o : List (Nat × Bool)) (hm : P.follows .mixedOrders = true) (hB : (Region.noSelect l.toArray && decide (o.length = l.length) && tG .any l.toArray o (Array.replicate l.toArray.size false)) = true)
 (hQ : ∀ c d v a w,Q (.panic c) (Act.put a d v) w → Q (.panic c) a w) {ol : List (Oper × Bool)} (hol : (o.map fun x=>((l.toArray[x.1]?).getD default,x.2)) = ol)
 (h : ∀ w',cD w w' → dV P l.toArray Q ol a w') : (Code.region id l.toArray true).wp P Q a w:=by
 simp only[Bool.and_eq_true,decide_eq_true_eq] at hB;subst hol;refine wp_region_any hm ?_;have:=nT (md:=.any) hB.1.1 hQ o _ a { w with drawn:=w.drawn + 1 } hB.2 (h _ (cD.refl w).drawn);rwa [hB.1.2] at this
end
end Go.Lith
namespace Go.Lith
open Go.RowKit
abbrev Fr (l : List Value) (ds : List Deferred:=[]) : Act:={ tmps:=l.toArray,defers:=ds }
def eU (w : World) (g : Nat) (cs : List Value) (t : TypeId) : Prop:=w.heap[g]? = some (.cells cs.toArray t (0,0))
structure yF (w w' : World) (g : Nat) : Prop where
 os : w'.os = w.os
 tape : w'.tape = w.tape
 output : w'.output = w.output
 size : w'.heap.size = w.heap.size
 block : ∀ k,k ≠ g → w'.heap[k]? = w.heap[k]?
def pS (w : World) (a : Addr) (cs : List Value) : Prop:=∀ j u,cs[j]? = some u → w.cell? (a.add j) = some u
theorem eU.lt {w : World} {g : Nat} {cs : List Value} {t : TypeId} (h : eU w g cs t) : g < w.heap.size:=(Array.getElem?_eq_some_iff.1 h).1
theorem eU.ext {w w' : World} {g : Nat} {cs : List Value} {t : TypeId} (h : eU w g cs t) (hE : cD w w') : eU w' g cs t:=hE.block h
theorem eU.chg {w w' : World} {g g' : Nat} {cs : List Value} {t : TypeId} (h : eU w g cs t) (hC : yF w w' g') (hne : g ≠ g') : eU w' g cs t:=(hC.block g hne).trans h
theorem cD.chg {w0 w w' : World} {g : Nat} (h : cD w0 w) (hC : yF w w' g) (hg : w0.heap.size ≤ g) : cD w0 w' :=
 ⟨hC.os.trans h.os,hC.tape.trans h.tape,hC.output.trans h.output,by rw [hC.size]; exact h.size,fun k hk=>(hC.block k (by omega)).trans (Below.block h k hk)⟩
theorem pS.ext {w w' : World} {a : Addr} {cs : List Value} (h : pS w a cs) (hE : cD w w') : pS w' a cs:=fun j u hj=>hE.cell (h j u hj)
theorem eY (g off j : Nat) : (⟨g,off,none⟩ : Addr).add j = ⟨g,off + j,none⟩:=by unfold Addr.add; split <;> simp_all
theorem fP (a : Addr) (i j : Nat) : (a.add i).add j = a.add (i + j):=by
 unfold Addr.add;by_cases hi : i = 0 <;> by_cases hj : j = 0 <;> simp [hi,hj,Nat.add_assoc]
theorem eU.row {w : World} {g : Nat} {cs : List Value} {t : TypeId} (h : eU w g cs t) (off : Nat) : pS w ⟨g,off,none⟩ (cs.drop off):=by
 intro j u hj;rw [eY,cell_of_row w g (off + j) cs.toArray t (0,0) h];simpa [List.getElem?_drop] using hj
theorem pS.sub {w : World} {a : Addr} {cs : List Value} (h : pS w a cs) (i : Nat) : pS w (a.add i) (cs.drop i):=by
 intro j u hj;rw [fP];exact h (i + j) u (by simpa [List.getElem?_drop] using hj)
theorem pS.take {w : World} {a : Addr} {cs : List Value} (h : pS w a cs) (n : Nat) : pS w a (cs.take n):=by
 intro j u hj;refine h j u ?_;rw [List.getElem?_take] at hj;split at hj
 · exact hj
 · cases hj
section
variable {P : Program} {ds : List Deferred} {l : List Value}
theorem Qw (t : Nat) : (Fr l).eval (.tmp t) = l.getD t undef:=by
 show l.toArray.getD t undef = _
 simp [Array.getD,List.getD];split <;> simp_all
theorem gH {ds : List Deferred} : (Fr l ds).eval = (Fr l).eval:=rfl
theorem fV {ds : List Deferred} (d : Nat) (v : Value) : (Fr l ds).put (some d) v = Fr (l.set d v) ds:=by simp [Act.put,Fr]
def dM (P : Program) (T : TypeId) (n : Nat) : Prop:=∃ inf,P.info? T = some inf ∧ inf.size = n
def i7 (P : Program) (T : TypeId) (z : Value) : Prop:=∃ inf,P.info? T = some inf ∧ inf.zero = some z
def rJ : TypeDesc → Bool
 | .struct _ | .array _ _=>true
 | _=>false
def fM (P : Program) (T : TypeId) (b : Bool) : Prop:=∃ dd,P.underlying T = some dd ∧ rJ dd = b
theorem dB {T : TypeId} {n : Nat} (h : (P.info? T).map (·.size) = some n) : dM P T n:=by
 cases hi : P.info? T with
 | none=>rw [hi] at h; cases h
 | some i=>rw [hi] at h; exact ⟨i,hi,by simpa using h⟩
theorem fQ {T : TypeId} {z : Value} (h : (P.info? T).bind (·.zero) = some z) : i7 P T z:=by
 cases hi : P.info? T with
 | none=>rw [hi] at h; cases h
 | some i=>rw [hi] at h; exact ⟨i,hi,by simpa using h⟩
theorem dR {T : TypeId} {b : Bool} (dd : TypeDesc) (h : P.underlying T = some dd) (hb : rJ dd = b) : fM P T b:=⟨dd,h,hb⟩
def ev (l : List Value) : Operand → Value
 | .tmp t=>l.getD t undef
 | .const v=>v
 | .global g=>.pointer (some ⟨g,0,none⟩)
 | .func f=>.func (.func f) #[] #[]
theorem oW (t : Nat) : ev l (.tmp t) = l.getD t undef:=rfl
theorem i8 (v : Value) : ev l (.const v) = v:=rfl
theorem mM (f : Nat) : ev l (.func f) = .func (.func f) #[] #[]:=rfl
theorem cC (x : Operand) : (Fr l).eval x = ev l x:=by
 cases x with
 | tmp t=>exact Qw t
 | const=>rfl
 | global=>rfl
 | func=>rfl
def uT (P : Program) (l : List Value) (op : Op) (ty : TypeId) (v : Value) (w : World) : Prop :=
 ∀ o : Oper,o.op = op → o.type = ty → (execOp (Fr l).eval o).run P w = .ok (.value v) w
def fF (P : Program) (l : List Value) (op : Op) (ty : TypeId) (v : Value) : Prop:=∀ w,uT P l op ty v w
section
variable {ops : Array Oper} {Q : Exit → Act → World → Prop} {w : World} {rest : List Oper} {d : Nat} {op : Op} {ty : TypeId} {pos : String} {after : Array Edge} {v : Value}
theorem oX (hr : uT P l op ty v w) (h : wpList P ops Q rest (Fr (l.set d v) ds) w) : wpList P ops Q (Oper.mk (some d) op ty pos after none :: rest) (Fr l ds) w:=by
 refine wpList_plain rfl fun K hK=>?_;unfold Oper.wp;rw [gH,hr _ rfl rfl];show K ((Fr l ds).put (some d) v) w
 rw [fV];exact hK _ _ h
theorem aA (hr : fF P l op ty v) (h : wpList P ops Q rest (Fr (l.set d v) ds) w) : wpList P ops Q (Oper.mk (some d) op ty pos after none :: rest) (Fr l ds) w:=oX (hr w) h
theorem aC (h : Q .normal (Fr l ds) w) : wpList P ops Q [] (Fr l ds) w:=h
theorem aW {j : Nat} {b : Bool} (hw : yielded ops l.toArray j = some b) (h : wpList P ops Q (Oper.mk (some d) op ty pos after none :: rest) (Fr l ds) w) : wpList P ops Q (Oper.mk (some d) op ty pos after (some (j,b)) :: rest) (Fr l ds) w:=by
 unfold wpList at h ⊢;rw [if_pos (by simp [Region.wanted])] at h;rw [if_pos (by simp [Region.wanted,hw])];exact h
theorem I5 {j : Nat} {b c : Bool} (hw : yielded ops l.toArray j = some c) (hbc : (c == b) = false) (h : wpList P ops Q rest (Fr (l.set d undef) ds) w) : wpList P ops Q (Oper.mk (some d) op ty pos after (some (j,b)) :: rest) (Fr l ds) w:=by
 unfold wpList;rw [if_neg (by simp [Region.wanted,hw]; simpa using hbc)];show wpList P ops Q rest ((Fr l ds).put (some d) undef) w
 rw [fV];exact h
theorem bD {j : Nat} (hw : yielded ops l.toArray j = some false) (h : wpList P ops Q rest (Fr (l.set d undef) ds) w) : wpList P ops Q (Oper.mk (some d) op ty pos after (some (j,true)) :: rest) (Fr l ds) w:=I5 hw rfl h
theorem bW {j : Nat} (hw : yielded ops l.toArray j = some true) (h : wpList P ops Q rest (Fr (l.set d undef) ds) w) : wpList P ops Q (Oper.mk (some d) op ty pos after (some (j,false)) :: rest) (Fr l ds) w:=I5 hw rfl h
theorem eC {j : Nat} {b : Bool} (hw : yielded ops l.toArray j = none) (h : wpList P ops Q rest (Fr (l.set d undef) ds) w) : wpList P ops Q (Oper.mk (some d) op ty pos after (some (j,b)) :: rest) (Fr l ds) w:=by
 unfold wpList;rw [if_neg (by simp [Region.wanted,hw])];show wpList P ops Q rest ((Fr l ds).put (some d) undef) w
 rw [fV];exact h
end
section
variable {ops : Array Oper} {Q : Act → Prop} {C : World → Prop} {rest : List Oper} {d : Nat} {op : Op} {ty : TypeId} {pos : String} {after : Array Edge} {v : Value}
theorem vN (hr : ∀ w,C w → uT P l op ty v w) (h : wpQuiet P ops C Q rest (Fr (l.set d v) ds)) : wpQuiet P ops C Q (Oper.mk (some d) op ty pos after none :: rest) (Fr l ds):=by
 refine wpQuiet_step fun K hK=>?_;rw [if_pos (by simp [Region.wanted])];refine ⟨v,fun w hw=>?_,?_⟩
 · unfold Oper.quietAt
   rw [gH,hr w hw _ rfl rfl];exact ⟨rfl,rfl⟩
 · show K ((Fr l ds).put (some d) v)
   rw [fV];exact hK _ h
theorem aR (hr : fF P l op ty v) (h : wpQuiet P ops C Q rest (Fr (l.set d v) ds)) : wpQuiet P ops C Q (Oper.mk (some d) op ty pos after none :: rest) (Fr l ds):=vN (fun w _=>hr w) h
theorem dW (h : Q (Fr l ds)) : wpQuiet P ops C Q [] (Fr l ds):=h
theorem d9 {j : Nat} {b : Bool} (hw : yielded ops l.toArray j = some b) (h : wpQuiet P ops C Q (Oper.mk (some d) op ty pos after none :: rest) (Fr l ds)) : wpQuiet P ops C Q (Oper.mk (some d) op ty pos after (some (j,b)) :: rest) (Fr l ds):=by
 unfold wpQuiet at h ⊢;rw [if_pos (by simp [Region.wanted])] at h;rw [if_pos (by simp [Region.wanted,hw])];exact h
theorem I6 {j : Nat} {b c : Bool} (hw : yielded ops l.toArray j = some c) (hbc : (c == b) = false) (h : wpQuiet P ops C Q rest (Fr (l.set d undef) ds)) : wpQuiet P ops C Q (Oper.mk (some d) op ty pos after (some (j,b)) :: rest) (Fr l ds):=by
 unfold wpQuiet;rw [if_neg (by simp [Region.wanted,hw]; simpa using hbc)];show wpQuiet P ops C Q rest ((Fr l ds).put (some d) undef)
 rw [fV];exact h
theorem iP {j : Nat} (hw : yielded ops l.toArray j = some false) (h : wpQuiet P ops C Q rest (Fr (l.set d undef) ds)) : wpQuiet P ops C Q (Oper.mk (some d) op ty pos after (some (j,true)) :: rest) (Fr l ds):=I6 hw rfl h
theorem F7 {j : Nat} (hw : yielded ops l.toArray j = some true) (h : wpQuiet P ops C Q rest (Fr (l.set d undef) ds)) : wpQuiet P ops C Q (Oper.mk (some d) op ty pos after (some (j,false)) :: rest) (Fr l ds):=I6 hw rfl h
theorem jK {j : Nat} {b : Bool} (hw : yielded ops l.toArray j = none) (h : wpQuiet P ops C Q rest (Fr (l.set d undef) ds)) : wpQuiet P ops C Q (Oper.mk (some d) op ty pos after (some (j,b)) :: rest) (Fr l ds):=by
 unfold wpQuiet;rw [if_neg (by simp [Region.wanted,hw])];show wpQuiet P ops C Q rest ((Fr l ds).put (some d) undef)
 rw [fV];exact h
end
/-! ### Values -/
section
variable {x y : Operand} {T T' ty : TypeId} {k : IntKind} {m n r : Int}
theorem aB : fF P l (.move x) ty (ev l x):=fun w o ho _=>by simp [execOp,ho,cC]
theorem aD : fF P l (.assign x) ty (ev l x):=fun w o ho _=>by simp [execOp,ho,cC]
theorem Au {c : Operand} {b : Bool} (hc : ev l c = .bool b) : fF P l (.pick c x y) ty (if b then ev l x else ev l y):=fun w o ho _=>by
 simp [execOp,ho,cC,hc,asBool]
theorem aX (hx : ev l x = .int k m) (hy : ev l y = .int k n) (hr : k.wrap (m + n) = r) : fF P l (.binOp .add T x y T') ty (.int k r):=fun w o ho _=>by
 simp [execOp,ho,cC,hx,hy,eqGuard,binOp,Op.intArith,hr]
theorem eA (hx : ev l x = .int k m) (hy : ev l y = .int k n) (hr : k.wrap (m - n) = r) : fF P l (.binOp .sub T x y T') ty (.int k r):=fun w o ho _=>by
 simp [execOp,ho,cC,hx,hy,eqGuard,binOp,Op.intArith,hr]
theorem dX (hx : ev l x = .int k m) (hy : ev l y = .int k n) (hr : k.wrap (m * n) = r) : fF P l (.binOp .mul T x y T') ty (.int k r):=fun w o ho _=>by
 simp [execOp,ho,cC,hx,hy,eqGuard,binOp,Op.intArith,hr]
theorem dS (hx : ev l x = .int k m) (hy : ev l y = .int k n) : fF P l (.binOp .lss T x y T') ty (.bool (decide (m < n))):=fun w o ho _=>by
 simp [execOp,ho,cC,hx,hy,eqGuard,binOp,Op.intCmp]
theorem I7 (hx : ev l x = .int k m) (hy : ev l y = .int k n) : fF P l (.binOp .leq T x y T') ty (.bool (decide (m ≤ n))):=fun w o ho _=>by
 simp [execOp,ho,cC,hx,hy,eqGuard,binOp,Op.intCmp]
theorem gJ (hx : ev l x = .int k m) (hy : ev l y = .int k n) : fF P l (.binOp .gtr T x y T') ty (.bool (decide (n < m))):=fun w o ho _=>by
 simp [execOp,ho,cC,hx,hy,eqGuard,binOp,Op.intCmp]
theorem kK (hx : ev l x = .int k m) (hy : ev l y = .int k n) : fF P l (.binOp .geq T x y T') ty (.bool (decide (n ≤ m))):=fun w o ho _=>by
 simp [execOp,ho,cC,hx,hy,eqGuard,binOp,Op.intCmp]
theorem lZ (hx : ev l x = .int k m) (hy : ev l y = .int k n) : fF P l (.binOp .eql T x y T') ty (.bool (decide (m = n))):=fun w o ho _=>by
 simp [execOp,ho,cC,hx,hy,eqGuard,binOp,Op.intCmp];cases h : (m == n) <;> simp_all
theorem nB (hx : ev l x = .int k m) (hy : ev l y = .int k n) : fF P l (.binOp .neq T x y T') ty (.bool (decide (m ≠ n))):=fun w o ho _=>by
 simp [execOp,ho,cC,hx,hy,eqGuard,binOp,Op.intCmp];cases h : (m != n) <;> simp_all
theorem gS (hx : ev l x = .int k m) (hy : ev l y = .int k n) (h0 : n ≠ 0) (hr : k.wrap (m.tdiv n) = r) : fF P l (.binOp .quo T x y T') ty (.int k r):=fun w o ho _=>by
 simp [execOp,ho,cC,hx,hy,eqGuard,binOp,Op.intDiv,h0,hr]
theorem dF (hx : ev l x = .int k m) (hy : ev l y = .int k n) (h0 : n ≠ 0) (hr : m.tmod n = r) : fF P l (.binOp .rem T x y T') ty (.int k r):=fun w o ho _=>by
 simp [execOp,ho,cC,hx,hy,eqGuard,binOp,Op.intDiv,h0,hr]
theorem nC (hx : ev l x = .int k m) (hy : ev l y = .int k n) (hr : k.wrap ((BitVec.ofInt k.bits m &&& BitVec.ofInt k.bits n).toNat : Int) = r) : fF P l (.binOp .and T x y T') ty (.int k r):=fun w o ho _=>by
 subst hr;simp [execOp,ho,cC,hx,hy,eqGuard,binOp,Op.intBits]
theorem El (hx : ev l x = .int k m) (hy : ev l y = .int k n) (hr : k.wrap ((BitVec.ofInt k.bits m ||| BitVec.ofInt k.bits n).toNat : Int) = r) : fF P l (.binOp .or T x y T') ty (.int k r):=fun w o ho _=>by
 subst hr;simp [execOp,ho,cC,hx,hy,eqGuard,binOp,Op.intBits]
theorem vO {k' : IntKind} (hx : ev l x = .int k m) (hy : ev l y = .int k' n) (h0 : 0 ≤ n) (hr : k.wrap (m * 2 ^ (min n.toNat k.bits)) = r) : fF P l (.binOp .shl T x y T') ty (.int k r):=fun w o ho _=>by
 subst hr;simp [execOp,ho,cC,hx,hy,eqGuard,binOp,Op.shift,Int.not_lt.2 h0]
theorem i9 {k' : IntKind} (hx : ev l x = .int k m) (hy : ev l y = .int k' n) (h0 : 0 ≤ n) (hr : m.fdiv (2 ^ (min n.toNat k.bits)) = r) : fF P l (.binOp .shr T x y T') ty (.int k r):=fun w o ho _=>by
 subst hr;simp [execOp,ho,cC,hx,hy,eqGuard,binOp,Op.shift,Int.not_lt.2 h0]
theorem gX {b : Bool} (hx : ev l x = .bool b) : fF P l (.unOp .not T x) ty (.bool (!b)):=fun w o ho _=>by
 simp [execOp,ho,cC,hx,Op.unary]
theorem mN (hx : ev l x = .int k m) (hr : k.wrap (0 - m) = r) : fF P l (.unOp .neg T x) ty (.int k r):=fun w o ho _=>by
 subst hr;simp [execOp,ho,cC,hx,Op.unary,Op.intArith]
theorem dH (hd : P.underlying T' = some (.int k)) {k' : IntKind} {dd : TypeDesc} (hs : P.underlying T = some dd) (hx : ev l x = .int k' m) (hr : k.wrap m = r) : fF P l (.convert T T' x) ty (.int k r):=fun w o ho _=>by
 subst hr;simp [execOp,ho,cC,hx,convert,run_underlying hs,run_underlying hd,Conv.intToInt]
theorem bJ {vs : Array Value} {i : Nat} {v : Value} (hx : ev l x = .tuple vs) (hi : vs[i]? = some v) : fF P l (.extract x i) ty v:=fun w o ho _=>by
 simp [execOp,ho,cC,hx,Instr.extract,hi]
theorem vQ {fn : Fn} {first captured : Array Operand} : fF P l (.makeFunc fn first captured) ty (.func fn (first.map (ev l)) (captured.map (ev l))):=fun w o ho _=>by
 have e : (Fr l).eval = ev l:=funext cC;simp [execOp,ho,e,Instr.makeFunc]
theorem bM {E : TypeId} {A : Option Addr} {n c : Nat} {a0 : Array TypeId} (ha : a0 = #[T]) (hu : P.underlying T = some (.slice E)) (hx : ev l x = .slice A n c) : fF P l (.call { callee:=.builtin .len,args:=#[x],argTypes:=a0 }) ty (.int .i64 n):=fun w o ho _=>by
 subst ha;simp [execOp,ho,resolve,invoke,builtin,Builtin.len_,cC,hx,run_underlying hu,goInt]
theorem nD {s : ByteArray} {a0 : Array TypeId} (ha : a0 = #[T]) (hu : P.underlying T = some .string) (hx : ev l x = .string s) : fF P l (.call { callee:=.builtin .len,args:=#[x],argTypes:=a0 }) ty (.int .i64 s.size):=fun w o ho _=>by
 subst ha;simp [execOp,ho,resolve,invoke,builtin,Builtin.len_,cC,hx,run_underlying hu,goInt]
theorem vR {a0 : Array TypeId} (hx : ev l x = .int k m) (hy : ev l y = .int k n) (hr : (if n < m then n else m) = r) : fF P l (.call { callee:=.builtin .min,args:=#[x,y],argTypes:=a0 }) ty (.int k r):=fun w o ho _=>by
 subst hr;simp [execOp,ho,resolve,invoke,builtin,Builtin.min_,Builtin.min2,cC,hx,hy]
theorem jU {a0 : Array TypeId} (hx : ev l x = .int k m) (hy : ev l y = .int k n) (hr : (if m < n then n else m) = r) : fF P l (.call { callee:=.builtin .max,args:=#[x,y],argTypes:=a0 }) ty (.int k r):=fun w o ho _=>by
 subst hr;simp [execOp,ho,resolve,invoke,builtin,Builtin.max_,Builtin.max2,cC,hx,hy]
end
/-! ### Addresses -/
section
variable {x y : Operand} {T T' ty : TypeId} {k : IntKind} {m n r : Int}
theorem aG {fs : Array Field} {i c : Nat} {f : Field} {a b : Addr} (hu : P.underlying T = some (.struct fs)) (hf : fs[i]? = some f) (hc : dM P f.type (c + 1)) (hx : ev l x = .pointer (some a)) (hb : a.add f.offset = b) :
 fF P l (.fieldAddr T x i) ty (.pointer (some b)):=fun w o ho _=>by
 subst hb;obtain ⟨inf,hi,hz⟩:=hc;have hz' : ¬ inf.size = 0:=by omega
 simp [execOp,ho,cC,hx,Instr.fieldAt,run_underlying hu,hf,Instr.sureAddr,fieldPlace,sizeOf,typeInfo,hi,hz']
theorem aJ {E : TypeId} {len : Nat} {c : Nat} {a b : Addr} (hu : P.underlying T = some (.array len E)) (hc : dM P E c) (hx : ev l x = .pointer (some a)) (hy : ev l y = .int k m) (h0 : 0 ≤ m) (h1 : m < len) (hb : a.add (m.toNat * c) = b) :
 fF P l (.indexAddr T x y) ty (.pointer (some b)):=fun w o ho _=>by
 subst hb;obtain ⟨inf,hi,rfl⟩:=hc;simp [execOp,ho,cC,hx,hy,Instr.indexAt,asIntOf,run_underlying hu,Instr.sureAddr,sizeOf,typeInfo,hi,h0,h1]
theorem aT {E : TypeId} {len cap : Nat} {c : Nat} {a b : Addr} (hu : P.underlying T = some (.slice E)) (hc : dM P E c) (hx : ev l x = .slice (some a) len cap) (hy : ev l y = .int k m) (h0 : 0 ≤ m) (h1 : m < len) (hb : a.add (m.toNat * c) = b) :
 fF P l (.indexAddr T x y) ty (.pointer (some b)):=fun w o ho _=>by
 subst hb;obtain ⟨inf,hi,rfl⟩:=hc;simp [execOp,ho,cC,hx,hy,Instr.indexAt,asIntOf,run_underlying hu,sizeOf,typeInfo,hi,h0,h1]
end
/-! ### Memory -/
section
variable {x y : Operand} {T T' ty : TypeId} {w : World}
def oY (P : Program) (w : World) (T : TypeId) (a : Addr) (v : Value) : Prop:=(loadVar T a).run P w = .ok v w
theorem pS.lies {a : Addr} {cs : List Value} (h : pS w a cs) (hA : fM P T true) (hc : dM P T cs.length) : oY P w T a (.agg cs.toArray):=by
 obtain ⟨dd,hu,hd⟩:=hA;obtain ⟨inf,hi,hn⟩:=hc;have hl:=run_loadCells_list (P:=P) w a cs (fun j v hv=>h j v hv);have hagg : (isAgg T).run P w = .ok true w:=by
  unfold isAgg;rw [Sem.run_bind,run_underlying hu w];cases dd <;> simp_all [rJ]
 unfold oY;simp [loadVar,Sem.run_bind,hagg,sizeOf,typeInfo,hi,hn,hl]
theorem lies1 {a : Addr} {v : Value} (h : w.cell? a = some v) (hA : fM P T false) : oY P w T a v:=by
 obtain ⟨dd,hu,hd⟩:=hA;have hagg : (isAgg T).run P w = .ok false w:=by
  unfold isAgg;rw [Sem.run_bind,run_underlying hu w];cases dd <;> simp_all [rJ]
 unfold oY;simp [loadVar,Sem.run_bind,hagg,load,Sem.run,h]
theorem eU.cell {g : Nat} {cs : List Value} {t : TypeId} (h : eU w g cs t) {i : Nat} {v : Value} (hi : cs[i]? = some v) : w.cell? ⟨g,i,none⟩ = some v:=by
 rw [cell_of_row w g i cs.toArray t (0,0) h];simpa using hi
theorem eU.lies1 {g i : Nat} {cs : List Value} {t : TypeId} {v : Value} (h : eU w g cs t) (hA : fM P T false) (hi : cs[i]? = some v) : oY P w T ⟨g,i,none⟩ v:=Lith.lies1 (h.cell hi) hA
theorem eU.lies {g i n : Nat} {cs us : List Value} {t : TypeId} (h : eU w g cs t) (hA : fM P T true) (hc : dM P T n) (hu : (cs.drop i).take n = us) (hn : us.length = n) : oY P w T ⟨g,i,none⟩ (.agg us.toArray):=by
 subst hu;exact ((h.row i).take n).lies hA (by rw [hn]; exact hc)
theorem jN {a : Addr} {v : Value} (hx : ev l x = .pointer (some a)) (hv : oY P w T a v) : uT P l (.load T x) ty v w:=fun o ho _=>by
 unfold oY at hv;simp [execOp,ho,cC,hx,Instr.loadAt,Instr.sureAddr,hv]
variable {ops : Array Oper} {Q : Exit → Act → World → Prop} {rest : List Oper} {d : Nat} {op : Op} {pos : String} {after : Array Edge} {v : Value}
theorem aI {a : Addr} (hx : ev l x = .pointer (some a)) (hv : oY P w T a v) (h : wpList P ops Q rest (Fr (l.set d v) ds) w) : wpList P ops Q (Oper.mk (some d) (.load T x) ty pos after none :: rest) (Fr l ds) w :=
 oX (jN hx hv) h
theorem Av {w' : World} (hr : ∀ o : Oper,o.op = op → (execOp (Fr l).eval o).run P w = .ok .skip w') (h : wpList P ops Q rest (Fr l ds) w') : wpList P ops Q (Oper.mk none op ty pos after none :: rest) (Fr l ds) w:=by
 refine wpList_plain rfl fun K hK=>?_;unfold Oper.wp;rw [gH,hr _ rfl];exact hK _ _ h
theorem jO {w' : World} (hr : ∀ o : Oper,o.op = op → o.type = ty → (execOp (Fr l).eval o).run P w = .ok (.value v) w') (h : wpList P ops Q rest (Fr (l.set d v) ds) w') : wpList P ops Q (Oper.mk (some d) op ty pos after none :: rest) (Fr l ds) w:=by
 refine wpList_plain rfl fun K hK=>?_;unfold Oper.wp;rw [gH,hr _ rfl rfl];show K ((Fr l ds).put (some d) v) w'
 rw [fV];exact hK _ _ h
theorem gK (w : World) (cs : List Value) (t : TypeId) : eU (w.alloc (.cells cs.toArray t)) w.heap.size cs t:=heap_alloc_new w _
theorem jA {cs : List Value} (hv : (ev l x).cells = cs.toArray) (h : ∀ w' g,cD w w' → w.heap.size ≤ g → eU w' g cs T → wpList P ops Q rest (Fr (l.set d (.pointer (some ⟨g,0,none⟩))) ds) w') :
 wpList P ops Q (Oper.mk (some d) (.box T x) ty pos after none :: rest) (Fr l ds) w :=
 jO (w':=w.alloc (.cells cs.toArray T)) (v:=.pointer (some ⟨w.heap.size,0,none⟩)) (fun o ho _=>by simp [execOp,ho,cC,Instr.box,newVar,newRow,hv,newObj,Sem.run]) (h _ _ ((cD.refl w).alloc _) (Nat.le_refl _) (gK w cs T))
theorem fR {cs : List Value} {z : Value} (hZ : i7 P T z) (hv : z.cells = cs.toArray) (h : ∀ w' g,cD w w' → w.heap.size ≤ g → eU w' g cs T → wpList P ops Q rest (Fr (l.set d (.pointer (some ⟨g,0,none⟩))) ds) w') :
 wpList P ops Q (Oper.mk (some d) (.alloc T) ty pos after none :: rest) (Fr l ds) w:=by
 obtain ⟨inf,hi,hz⟩:=hZ;exact jO (w':=w.alloc (.cells cs.toArray T)) (v:=.pointer (some ⟨w.heap.size,0,none⟩)) (fun o ho _=>by simp [execOp,ho,Instr.alloc,zeroValue,typeInfo,hi,hz,newVar,newRow,hv,newObj,Sem.run]) (h _ _ ((cD.refl w).alloc _) (Nat.le_refl _) (gK w cs T))
def a8 (cs : List Value) (off : Nat) (us : List Value) : List Value:=cs.take off ++ us ++ cs.drop (off + us.length)
theorem oZ {cs us : List Value} {off : Nat} (h : off + us.length ≤ cs.length) : (a8 cs off us).length = cs.length:=by simp [a8]; omega
theorem nU (w : World) (g : Nat) (cs : Array Value) : yF w (w.setRow g cs) g:=⟨rfl,rfl,rfl,by simp,fun k hk=>setRow_other w g k cs hk⟩
theorem rK {g off : Nat} {cs us : List Value} {t : TypeId} (hc : dM P T us.length) (hv : v.cells = us.toArray) (hB : eU w g cs t) (hfit : off + us.length ≤ cs.length) (h1 : ∀ u ∈ us,u.oneCell' = true) :
 (storeVar T ⟨g,off,none⟩ v).run P w = .ok () (w.setRow g (a8 cs off us).toArray):=by
 obtain ⟨inf,hi,hn⟩:=hc;have hst:=run_storeCells_at P g off t us 0 cs.toArray w hB (by simpa using hfit) h1;simp only[Nat.add_zero,List.toList_toArray] at hst;simp [storeVar,hv,sizeOf,typeInfo,hi,hn,hst,a8]
theorem bZ {g off : Nat} {cs us : List Value} {t : TypeId} (hx : ev l x = .pointer (some ⟨g,off,none⟩)) (hv : (ev l y).cells = us.toArray) (hc : dM P T us.length) (hB : eU w g cs t) (hfit : off + us.length ≤ cs.length) (h1 : ∀ u ∈ us,u.oneCell' = true)
 (h : ∀ w',yF w w' g → eU w' g (a8 cs off us) t → wpList P ops Q rest (Fr l ds) w') : wpList P ops Q (Oper.mk none (.store T x y) ty pos after none :: rest) (Fr l ds) w :=
 Av (w':=w.setRow g (a8 cs off us).toArray) (fun o ho=>by simp [execOp,ho,cC,hx,Instr.storeAt,Instr.sureAddr,rK hc hv hB hfit h1]) (h _ (nU w g _) (setRow_heap w g cs.toArray _ t _ hB))
/-! ### Calls -/
def bF (P : Program) (f : FuncId) : Prop:=∃ fn,P.funcs[f]? = some fn ∧ (fn.name == "runtime.NumGoroutine") = false ∧ fn.body.isNone = false
def gD (P : Program) (f : FuncId) (args : List Value) (w : World) (R : Value → World → Prop) : Prop :=
 bF P f ∧ Calls P f args.toArray w fun e w'=>∃ v,e = .returned v ∧ cD w w' ∧ R v w'
def eI (P : Program) (f : FuncId) (args : List Value) (v : Value) : Prop:=∀ w,gD P f args w fun u _=>u = v
theorem gD.mono {f : FuncId} {args : List Value} {R R' : Value → World → Prop} (h : gD P f args w R) (hr : ∀ v w',cD w w' → R v w' → R' v w') : gD P f args w R' :=
 ⟨h.1,h.2.mono fun _ _ ⟨v,he,hE,hR⟩=>⟨v,he,hE,hr _ _ hE hR⟩⟩
theorem rL {f : FuncId} {args : Array Value} (h : bF P f) : (callFunc f args).run P w = .ok (.enter f args) w:=by
 obtain ⟨fn,hf,hn,hb⟩:=h;have hn' : ¬ fn.name = "runtime.NumGoroutine" := by simpa using hn
 have hb' : ¬ fn.body = none:=by intro h; rw [h] at hb; cases hb
 simp [callFunc,hf,hn',hb']
theorem kL {f : FuncId} {fo : Operand} {xs : Array Operand} {args : List Value} {first cap : Array Value} {a0 : Array TypeId} (h : bF P f) (hf : ev l fo = .func (.func f) first cap) (hxs : first.toList ++ xs.toList.map (ev l) ++ cap.toList = args) (o : Oper) (ho : o.op = .call { callee:=.value fo,args:=xs,argTypes:=a0 }) :
 (execOp (Fr l).eval o).run P w = .ok (.enter f args.toArray) w:=by
 have e : (Fr l).eval = ev l:=funext cC;have ea : args.toArray = first ++ xs.map (ev l) ++ cap:=by
  rw [← hxs];apply Array.ext';simp
 simp [execOp,ho,resolve,e,hf,Deferred.ofValue,invoke,rL h,ea]
theorem bO {f : FuncId} {fo : Operand} {xs : Array Operand} {args : List Value} {first cap : Array Value} {a0 : Array TypeId} {R : Value → World → Prop} (hf : ev l fo = .func (.func f) first cap) (hxs : first.toList ++ xs.toList.map (ev l) ++ cap.toList = args) (hc : gD P f args w R)
 (h : ∀ v w',cD w w' → R v w' → wpList P ops Q rest (Fr (l.set d v) ds) w') : wpList P ops Q (Oper.mk (some d) (.call { callee:=.value fo,args:=xs,argTypes:=a0 }) ty pos after none :: rest) (Fr l ds) w:=by
 refine wpList_plain rfl fun K hK=>?_;unfold Oper.wp;rw [gH,kL hc.1 hf hxs _ rfl];refine hc.2.mono ?_;rintro e w' ⟨v,rfl,hE,hR⟩;show K ((Fr l ds).put (some d) v) w'
 rw [fV];exact hK _ _ (h v w' hE hR)
theorem iQ {f : FuncId} {fo : Operand} {xs : Array Operand} {args : List Value} {first cap : Array Value} {a0 : Array TypeId} (hf : ev l fo = .func (.func f) first cap) (hxs : first.toList ++ xs.toList.map (ev l) ++ cap.toList = args) (hc : eI P f args v)
 (h : ∀ w',cD w w' → wpList P ops Q rest (Fr (l.set d v) ds) w') : wpList P ops Q (Oper.mk (some d) (.call { callee:=.value fo,args:=xs,argTypes:=a0 }) ty pos after none :: rest) (Fr l ds) w :=
 bO hf hxs (hc w) fun _ w' hE hR=>hR ▸ h w' hE
end
section
variable {x y : Operand} {T T' ty : TypeId} {w : World}
variable {ops : Array Oper} {Q : Act → Prop} {rest : List Oper} {d : Nat} {op : Op} {pos : String} {after : Array Edge} {v : Value}
theorem iM {a : Addr} (hx : ev l x = .pointer (some a)) (hv : ∀ w',cD w w' → oY P w' T a v) (h : wpQuiet P ops (cD w) Q rest (Fr (l.set d v) ds)) : wpQuiet P ops (cD w) Q (Oper.mk (some d) (.load T x) ty pos after none :: rest) (Fr l ds) :=
 vN (fun _ hE=>jN hx (hv _ hE)) h
theorem Nb {f : FuncId} {fo : Operand} {xs : Array Operand} {args : List Value} {first cap : Array Value} {a0 : Array TypeId} (hf : ev l fo = .func (.func f) first cap) (hxs : first.toList ++ xs.toList.map (ev l) ++ cap.toList = args) (hc : ∀ w',cD w w' → gD P f args w' fun u _=>u = v)
 (h : wpQuiet P ops (cD w) Q rest (Fr (l.set d v) ds)) : wpQuiet P ops (cD w) Q (Oper.mk (some d) (.call { callee:=.value fo,args:=xs,argTypes:=a0 }) ty pos after none :: rest) (Fr l ds):=by
 refine wpQuiet_step fun K hK=>?_;rw [if_pos (by simp [Region.wanted])];refine ⟨v,fun w' hw=>?_,?_⟩
 · unfold Oper.quietAt
   rw [gH,kL (hc w' hw).1 hf hxs _ rfl];refine ⟨rfl,(hc w' hw).2.mono ?_⟩;rintro e w'' ⟨u,rfl,hE,rfl⟩;exact ⟨rfl,hw.trans hE⟩
 · show K ((Fr l ds).put (some d) v)
   rw [fV];exact hK _ h
theorem rM {f : FuncId} {fo : Operand} {xs : Array Operand} {args : List Value} {first cap : Array Value} {a0 : Array TypeId} (hf : ev l fo = .func (.func f) first cap) (hxs : first.toList ++ xs.toList.map (ev l) ++ cap.toList = args) (hc : eI P f args v)
 (h : wpQuiet P ops (cD w) Q rest (Fr (l.set d v) ds)) : wpQuiet P ops (cD w) Q (Oper.mk (some d) (.call { callee:=.value fo,args:=xs,argTypes:=a0 }) ty pos after none :: rest) (Fr l ds) :=
 Nb hf hxs (fun w' _=>hc w') h
end
/-! ### Code -/
section
variable {Q : Exit → Act → World → Prop} {w : World} {c c1 c2 : Code}
theorem aF {a : Act} (h : ∀ K : Act → World → Prop,(∀ a w,c2.wp P Q a w → K a w) → c1.wp P (Exit.then K Q) a w) : (Code.seq c1 c2).wp P Q a w:=wp_seq_k h
theorem o0 {x : Operand} {b : Bool} (hx : ev l x = .bool b) (ht : b = true → c1.wp P Q (Fr l ds) w) (hf : b = false → c2.wp P Q (Fr l ds) w) : (Code.cond x c1 c2).wp P Q (Fr l ds) w :=
 wp_cond_split (by rw [gH,cC]; exact hx) ht hf
theorem cK {x : Operand} {p : Prop} [Decidable p] (hx : ev l x = .bool (decide p)) (ht : p → c1.wp P Q (Fr l ds) w) (hf : ¬ p → c2.wp P Q (Fr l ds) w) : (Code.cond x c1 c2).wp P Q (Fr l ds) w :=
 o0 hx (fun h=>ht (of_decide_eq_true h)) (fun h=>hf (of_decide_eq_false h))
theorem bS {x : Operand} (hx : ev l x = .bool true) (ht : c1.wp P Q (Fr l ds) w) : (Code.cond x c1 c2).wp P Q (Fr l ds) w:=o0 hx (fun _=>ht) (fun h=>by cases h)
theorem eM {x : Operand} (hx : ev l x = .bool false) (hf : c2.wp P Q (Fr l ds) w) : (Code.cond x c1 c2).wp P Q (Fr l ds) w:=o0 hx (fun h=>by cases h) (fun _=>hf)
def P8 (P : Program) (l : List Value) (w : World) : ResultVar → Value → Prop
 | .tmp t,v=>l.getD t undef = v
 | .cell t T,v=>∃ a,l.getD t undef = .pointer (some a) ∧ oY P w T a v
theorem lR {r : ResultVar} {v : Value} (h : P8 P l w r v) : (∃ t,r = .tmp t ∧ l[t]?.getD undef = v) ∨ (∃ t T a,r = .cell t T ∧ l[t]?.getD undef = .pointer (some a) ∧ (loadVar T a).run P w = .ok v w):=by
 cases r with
 | tmp t=>exact .inl ⟨t,rfl,by simpa [P8] using h⟩
 | cell t T =>
  obtain ⟨a,ha,hl⟩:=h;exact .inr ⟨t,T,a,rfl,by simpa using ha,hl⟩
theorem bT {fn : Func} {R : Ending → World → Prop} {r : ResultVar} {v : Value} (hr : fn.results = #[r]) (h : P8 P l w r v) (hR : R (.returned v) w) : bodyPost P fn R .ret (Fr l) w:=by
 refine ⟨rfl,v,?_,hR⟩;unfold results;rw [hr];rcases lR h with ⟨t,rfl,h1⟩ | ⟨t,T,a,rfl,h1,h2⟩ <;> simp [*,asAddr]
theorem mZ {fn : Func} {R : Ending → World → Prop} {r r' : ResultVar} {v v' : Value} (hr : fn.results = #[r,r']) (h : P8 P l w r v) (h' : P8 P l w r' v') (hR : R (.returned (.tuple #[v,v'])) w) : bodyPost P fn R .ret (Fr l) w:=by
 refine ⟨rfl,_,?_,hR⟩;unfold results;rw [hr];rcases lR h with ⟨t,rfl,h1⟩ | ⟨t,T,a,rfl,h1,h2⟩ <;> rcases lR h' with ⟨t',rfl,h1'⟩ | ⟨t',T',a',rfl,h1',h2'⟩ <;> simp [*,asAddr]
theorem uU {fn : Func} {R : Ending → World → Prop} {r r' r'' : ResultVar} {v v' v'' : Value} (hr : fn.results = #[r,r',r'']) (h : P8 P l w r v) (h' : P8 P l w r' v') (h'' : P8 P l w r'' v'') (hR : R (.returned (.tuple #[v,v',v''])) w) : bodyPost P fn R .ret (Fr l) w:=by
 refine ⟨rfl,_,?_,hR⟩;unfold results;rw [hr];rcases lR h with ⟨t,rfl,h1⟩ | ⟨t,T,a,rfl,h1,h2⟩ <;> rcases lR h' with ⟨t',rfl,h1'⟩ | ⟨t',T',a',rfl,h1',h2'⟩ <;> rcases lR h'' with ⟨t'',rfl,h1''⟩ | ⟨t'',T'',a'',rfl,h1'',h2''⟩ <;> simp [*,asAddr]
end
end
/-! ### Numbers,loops,further values -/
theorem aL {x : Int} (h0 : -9223372036854775808 ≤ x) (h1 : x < 9223372036854775808) : IntKind.i64.wrap x = x:=by
 simp [IntKind.wrap,IntKind.bits,IntKind.signed];split <;> omega
theorem eP {x : Int} (h0 : 0 ≤ x) (h1 : x < 18446744073709551616) : IntKind.u64.wrap x = x:=by
 simp [IntKind.wrap,IntKind.bits,IntKind.signed];omega
theorem lH {x : Int} (h0 : 0 ≤ x) (h1 : x < 256) : IntKind.u8.wrap x = x:=by
 simp [IntKind.wrap,IntKind.bits,IntKind.signed];omega
def kG : List Value → List Nat → List Value → List Value
 | l,t :: ts,v :: vs=>kG (l.set t v) ts vs
 | l,_,_=>l
theorem aM {l : List Value} {t : Nat} {ts : List Nat} {v : Value} {vs : List Value} : kG l (t :: ts) (v :: vs) = kG (l.set t v) ts vs:=rfl
theorem aP {l : List Value} {vs : List Value} : kG l [] vs = l:=by cases vs <;> rfl
theorem C1 {l : List Value} {t : Nat} : l.set t (l.getD t undef) = l:=by
 apply List.ext_getElem?;intro i;rw [List.getElem?_set];split
 · rename_i h; subst h
   split
   · rename_i h; simp [h]
   · rename_i h; simp at h; simp [h]
 · rfl
theorem rN : ∀ (ts : List Nat) (l : List Value),kG l ts (ts.map (l.getD · undef)) = l
 | [],l=>aP
 | t :: ts,l=>by
  simp only[List.map_cons,aM,C1];exact rN ts l
theorem nV {p : Nat → Prop} (h : ∃ n,p n) : ∃ n,p n ∧ ∀ m,p m → n ≤ m:=by
 obtain ⟨n,hn⟩:=h
 induction n using Nat.strongRecOn with
 | _ n ih =>
  by_cases hx : ∃ m,m < n ∧ p m
  · obtain ⟨m,hm,hp⟩:=hx; exact ih m hm hp
  · exact ⟨n,hn,fun m hm=>Nat.le_of_not_lt fun hlt=>hx ⟨m,hlt,hm⟩⟩
noncomputable def vS (p : Nat → Prop) (h : ∃ n,p n) : Nat:=(nV h).choose
theorem C2 {p : Nat → Prop} (h : ∃ n,p n) : p (vS p h):=(nV h).choose_spec.1
theorem G4 {p : Nat → Prop} (h : ∃ n,p n) {m : Nat} (hm : p m) : vS p h ≤ m:=(nV h).choose_spec.2 m hm
section
variable {P : Program} {ds : List Deferred} {l : List Value}
end
/-! ### Parts of values,slices,new slices -/
section
variable {P : Program} {ds : List Deferred} {l : List Value} {x y : Operand} {T T' ty : TypeId} {k : IntKind} {m n r : Int}
theorem rO {b : Bool} (h : fM P T b) (w : World) : (isAgg T).run P w = .ok b w:=by
 obtain ⟨dd,hu,hd⟩:=h;unfold isAgg;rw [Sem.run_bind,run_underlying hu w];cases dd <;> simp_all [rJ]
theorem d6 {c : Nat} (h : dM P T c) (w : World) : (sizeOf T).run P w = .ok c w:=by
 obtain ⟨inf,hi,rfl⟩:=h;simp [sizeOf,typeInfo,hi]
theorem dT (cs : Array Value) : (Value.agg cs).cells = cs:=rfl
theorem fI {parts : Array (Nat × Operand)} {vs : Array (Nat × Value)} {v : Value} (hp : (parts.map fun (i,x)=>(i,ev l x)) = vs) (h : ∀ w,(Instr.build T vs).run P w = .ok v w) : fF P l (.build T parts) ty v:=fun w o ho _=>by
 have e : (Fr l).eval = ev l:=funext cC;subst hp;simp only[execOp,ho,e];rw [Sem.run_bind,h w];rfl
theorem cO {fs : Array Field} {places : Array (Nat × Nat)} {z : Value} {cells : Array Value} {vs : Array (Nat × Value)} (hu : P.underlying T = some (.struct fs)) (hz : i7 P T z)
 (hpl : ∀ w,(fs.mapM fun f=>do pure (f.offset,← sizeOf f.type) : Sem (Array (Nat × Nat))).run P w = .ok places w) (hf : Instr.fill (places[·]?) z.cells vs.toList = some cells) (w : World) : (Instr.build T vs).run P w = .ok (.agg cells) w:=by
 obtain ⟨inf,hi,h0⟩:=hz;simp only[Instr.build,zeroValue,typeInfo];simp [hi,h0,run_underlying hu];have:=hpl w;simp at this;simp [this,hf]
theorem fG {E : TypeId} {n c : Nat} {z : Value} {cells : Array Value} {vs : Array (Nat × Value)} (hu : P.underlying T = some (.array n E)) (hz : i7 P T z) (hc : dM P E c)
 (hf : Instr.fill (fun i=>some (i * c,c)) z.cells vs.toList = some cells) (w : World) : (Instr.build T vs).run P w = .ok (.agg cells) w:=by
 obtain ⟨inf,hi,h0⟩:=hz;simp only[Instr.build,zeroValue,typeInfo];simp [hi,h0,run_underlying hu,d6 hc,hf]
theorem jB {E : TypeId} {len c : Nat} {cs : Array Value} {v : Value} (hu : P.underlying T = some (.array len E)) (hA : fM P E false) (hc : dM P E c) (hx : ev l x = .agg cs) (hy : ev l y = .int k m) (h0 : 0 ≤ m) (h1 : m < len) (hv : cs[m.toNat * c]? = some v) :
 fF P l (.index T x y) ty v:=fun w o ho _=>by
 simp [execOp,ho,cC,hx,hy,Instr.index,asIntOf,run_underlying hu,h0,h1,part,rO hA,d6 hc,hv]
theorem nE {E : TypeId} {len c : Nat} {cs us : Array Value} (hu : P.underlying T = some (.array len E)) (hA : fM P E true) (hc : dM P E c) (hx : ev l x = .agg cs) (hy : ev l y = .int k m) (h0 : 0 ≤ m) (h1 : m < len) (hv : cs.extract (m.toNat * c) (m.toNat * c + c) = us) :
 fF P l (.index T x y) ty (.agg us):=fun w o ho _=>by
 subst hv;simp [execOp,ho,cC,hx,hy,Instr.index,asIntOf,run_underlying hu,h0,h1,part,rO hA,d6 hc]
theorem l1 {s : ByteArray} {b : UInt8} (hu : P.underlying T = some .string) (hx : ev l x = .string s) (hy : ev l y = .int k m) (h0 : 0 ≤ m) (hb : s[m.toNat]? = some b) :
 fF P l (.index T x y) ty (.int .u8 b.toNat):=fun w o ho _=>by
 simp [execOp,ho,cC,hx,hy,Instr.index,asIntOf,run_underlying hu,h0,hb]
theorem lS {E : TypeId} {A : Option Addr} {len cap c : Nat} (hu : P.underlying T = some (.slice E)) (hc : dM P E c) {q : Nat} (hx : ev l x = .slice A len cap) (hy : ev l y = .int k m) (hq : m.toNat = q) (h0 : 0 ≤ m) (h1 : m ≤ cap) :
 fF P l (.slice T x none (some y) none) ty (.slice A q cap):=fun w o ho _=>by
 subst hq;have e : (if cap = 0 then A else Option.map (fun a=>a.add 0) A) = A:=by
  split
  · rfl
  · cases A <;> simp [Addr.add]
 have h1' : ¬ (m.toNat : Int) > cap:=by omega
 simp [execOp,ho,cC,hx,hy,Instr.sliceAt,Instr.slice,Instr.sliceBounds,Instr.sliceBound,asIntOf,run_underlying hu,h0,h1,d6 hc];intro _;cases A <;> simp [Addr.add]
theorem j6 {E : TypeId} {A A' : Option Addr} {len cap c : Nat} (hu : P.underlying T = some (.slice E)) (hc : dM P E c) {q : Nat} (hx : ev l x = .slice A len cap) (hy : ev l y = .int k m) (hq : m.toNat = q) (h0 : 0 ≤ m) (h1 : m ≤ len) (hA : (if cap = q then A else A.map (·.add (q * c))) = A') :
 fF P l (.slice T x (some y) none none) ty (.slice A' (len - q) (cap - q)):=fun w o ho _=>by
 subst hq;subst hA;simp [execOp,ho,cC,hx,hy,Instr.sliceAt,Instr.slice,Instr.sliceBounds,Instr.sliceBound,asIntOf,run_underlying hu,h0,h1,d6 hc]
theorem I8 {s : ByteArray} (hu : P.underlying T = some .string) (hx : ev l x = .string s) (hy : ev l y = .int k m) (h0 : 0 ≤ m) (h1 : m ≤ s.size) :
 fF P l (.slice T x (some y) none none) ty (.string (s.extract m.toNat s.size)):=fun w o ho _=>by
 simp [execOp,ho,cC,hx,hy,Instr.sliceAt,Instr.slice,Instr.sliceBounds,Instr.sliceBound,asIntOf,run_underlying hu,h0,h1]
variable {ops : Array Oper} {Q : Exit → Act → World → Prop} {rest : List Oper} {d : Nat} {pos : String} {after : Array Edge} {w : World}
theorem iR {E : TypeId} {b : Nat} {kc : IntKind} {z : Value} (hu : P.underlying T = some (.slice E)) (hi : (P.info? E).map (fun i=>(i.size,i.bytes,i.zero)) = some (1,b,some z)) (hzc : z.cells = #[z]) {q q' : Nat} (hx : ev l x = .int k m) (hy : ev l y = .int kc n) (hq : m.toNat = q) (hq' : n.toNat = q') (h0 : 0 ≤ m) (h1 : m ≤ n) (hn : n ≤ 9223372036854775807) (hb : (b : Int) * n ≤ 281474976710656)
 (h : ∀ w' g,cD w w' → w.heap.size ≤ g → eU w' g (List.replicate q' z) E → wpList P ops Q rest (Fr (l.set d (.slice (some ⟨g,0,none⟩) q q')) ds) w') :
 wpList P ops Q (Oper.mk (some d) (.makeSlice T x y) ty pos after none :: rest) (Fr l ds) w:=by
 subst hq;subst hq';cases hq : P.info? E with
 | none=>rw [hq] at hi; cases hi
 | some i =>
  rw [hq] at hi;simp only[Option.map_some,Option.some.injEq,Prod.mk.injEq] at hi;obtain ⟨e1,e2,e3⟩:=hi;subst e2;have hr:=run_make (P:=P) w T E i z hu hq e3 k kc m n h0 h1 hb hn;have hc : madeCells z.cells (n.toNat * i.size) = (List.replicate n.toNat z).toArray:=by
   rw [e1,hzc,Nat.mul_one];apply Array.ext';rw [toList_madeCells_one]
  rw [hc] at hr;exact jO (fun o ho _=>by simp [execOp,ho,cC,hx,hy,hr]) (h _ _ ((cD.refl w).alloc _) (Nat.le_refl _) (gK w _ E))
def iS (w : World) (base : Nat) (e : TypeId) (size : Nat) (v : Value) (n : Nat) (xs : List Value) : Prop:=w.ownsRow base e size v n xs
structure m0 (w w' : World) (base : Nat) : Prop where
 os : w'.os = w.os
 tape : w'.tape = w.tape
 output : w'.output = w.output
 size : w.heap.size ≤ w'.heap.size
 block : ∀ k,k < base → w'.heap[k]? = w.heap[k]?
theorem iS.nil (w : World) (base : Nat) (e : TypeId) (size : Nat) : iS w base e size (.slice none 0 0) 0 []:=World.ownsRow_nil w base e size
theorem m0.refl (w : World) (base : Nat) : m0 w w base:=⟨rfl,rfl,rfl,Nat.le_refl _,fun _ _=>rfl⟩
theorem m0.trans {w w' w'' : World} {base : Nat} (h : m0 w w' base) (k : m0 w' w'' base) : m0 w w'' base:=⟨k.os.trans h.os,k.tape.trans h.tape,k.output.trans h.output,Nat.le_trans h.size k.size,fun i hi=>(k.block i hi).trans (h.block i hi)⟩
theorem cD.grew {w w' : World} (h : cD w w') {base : Nat} (hb : base ≤ w.heap.size) : m0 w w' base:=⟨h.os,h.tape,h.output,h.size,fun k hk=>Below.block h k (by omega)⟩
theorem yF.grew {w w' : World} {g base : Nat} (h : yF w w' g) (hb : base ≤ g) : m0 w w' base:=⟨h.os,h.tape,h.output,by rw [h.size]; exact Nat.le_refl _,fun k hk=>h.block k (by omega)⟩
theorem eU.grew {w w' : World} {g base : Nat} {cs : List Value} {t : TypeId} (h : eU w g cs t) (hG : m0 w w' base) (hg : g < base) : eU w' g cs t:=(hG.block g hg).trans h
theorem cD.grown {w0 w w' : World} {base : Nat} (h : cD w0 w) (hG : m0 w w' base) (hb : w0.heap.size ≤ base) : cD w0 w' :=
 ⟨hG.os.trans h.os,hG.tape.trans h.tape,hG.output.trans h.output,Nat.le_trans h.size hG.size,fun k hk=>(hG.block k (by omega)).trans (Below.block h k hk)⟩
theorem m0.ext {w w' : World} {base : Nat} (h : m0 w w' base) (hb : w.heap.size ≤ base) : cD w w':=⟨h.os,h.tape,h.output,h.size,fun k hk=>h.block k (by omega)⟩
theorem m0.mono {w w' : World} {base b : Nat} (h : m0 w w' base) (hb : b ≤ base) : m0 w w' b:=⟨h.os,h.tape,h.output,h.size,fun k hk=>h.block k (by omega)⟩
theorem Em {w : World} {base : Nat} {e : TypeId} {size : Nat} {v : Value} {n : Nat} {xs : List Value} (h : w.ownsRow base e size v n xs) {w' : World} (hg : w.grownBy w' v.ownBlock) (hb : base ≤ w.heap.size) : m0 w w' base:=by
 refine ⟨hg.os,hg.tape,hg.output,hg.size,fun k hk=>hg.block k (by omega) fun hc=>?_⟩;rcases h.2 with ⟨rfl,_⟩ | ⟨g,cap,cur,rfl,hbg,_⟩
 · cases hc
 · simp [Value.ownBlock] at hc
   omega
theorem iS.ext {w w' : World} {base : Nat} {e : TypeId} {size : Nat} {v : Value} {n : Nat} {xs : List Value} (h : iS w base e size v n xs) (hE : cD w w') : iS w' base e size v n xs:=by
 refine ⟨h.1,?_⟩;rcases h.2 with h | ⟨g,cap,cur,rfl,hbg,hg,h1,h2,h3,h4⟩
 · exact .inl h
 · exact .inr ⟨g,cap,cur,rfl,hbg,hE.block hg,h1,h2,h3,h4⟩
theorem iS.row {w : World} {base : Nat} {e : TypeId} {size : Nat} {v : Value} {n : Nat} {xs : List Value} (h : iS w base e size v n xs) : (v = .slice none 0 0 ∧ n = 0 ∧ xs = []) ∨ ∃ g cap,v = .slice (some ⟨g,0,none⟩) n cap ∧ base ≤ g ∧ n ≤ cap ∧ cap ≤ maxLen ∧ g < w.heap.size ∧ pS w ⟨g,0,none⟩ xs:=by
 rcases h.2 with ⟨rfl,rfl⟩ | ⟨g,cap,cur,rfl,hbg,hg,h1,h2,h3,h4⟩
 · exact .inl ⟨rfl,rfl,List.eq_nil_of_length_eq_zero (by simpa using h.1)⟩
 · refine .inr ⟨g,cap,rfl,hbg,h1,h2,(Array.getElem?_eq_some_iff.1 hg).1,fun j u hj=>?_⟩
   rw [eY,Nat.zero_add,cell_of_row w g j cur e (0,0) hg];rw [← h4,List.getElem?_take] at hj;split at hj
   · simpa using hj
   · cases hj
theorem kO {s0 x0 : Operand} {base c b nn mm cap : Nat} {E : TypeId} {z v : Value} {xs news : List Value} {ad : Addr} {a0 : Array TypeId} (ha : a0 = #[T,T]) (hu : P.underlying T = some (.slice E)) (hi : (P.info? E).map (fun i=>(i.size,i.bytes,i.zero)) = some (c,b,some z)) (hz : z.cells.size = c) (hc : 0 < c)
 (hs : ev l s0 = v) (hown : iS w base E c v nn xs) (hx : ev l x0 = .slice (some ad) mm cap) (hl : news.length = mm * c) (hrow : pS w ad news) (h1 : ∀ u ∈ news,u.oneCell' = true) (h63 : nn + mm ≤ 9223372036854775807) (hbytes : (nn + mm) * b ≤ 140737488355328) (hbase : base ≤ w.heap.size)
 (h : ∀ v' w',iS w' base E c v' (nn + mm) (xs ++ news) → m0 w w' base → (v' = .slice none 0 0 ↔ v = .slice none 0 0 ∧ mm = 0) → wpList P ops Q rest (Fr (l.set d v') ds) w') :
 wpList P ops Q (Oper.mk (some d) (.call { callee:=.builtin .append,args:=#[s0,x0],argTypes:=a0 }) ty pos after none :: rest) (Fr l ds) w:=by
 subst ha;cases hq : P.info? E with
 | none=>rw [hq] at hi; cases hi
 | some i =>
  rw [hq] at hi;simp only[Option.map_some,Option.some.injEq,Prod.mk.injEq] at hi;obtain ⟨e1,e2,e3⟩:=hi;refine wpList_append_own w rfl s0 x0 T rfl base E i z c b hu hq e3 e1 e2 hz hc v nn xs (by rw [gH,cC]; exact hs) hown ad mm cap news (by rw [gH,cC]; exact hx) hl hrow h1 (by simpa [maxLen] using h63) hbytes hbase ?_;intro v' w' ho hg hn;show wpList P ops Q rest ((Fr l ds).put (some d) v') w'
  rw [fV];exact h v' w' ho (Em hown hg hbase) hn
end
section
variable {P : Program} {ds : List Deferred} {l : List Value} {x y : Operand} {T T' ty : TypeId} {k : IntKind} {m n r : Int}
theorem bR (hx : ev l x = .int k m) (hy : ev l y = .int k n) (h : m < n) : fF P l (.binOp .lss T x y T') ty (.bool true):=by
 have:=dS (P:=P) (T:=T) (T':=T') (ty:=ty) hx hy;rwa [decide_eq_true h] at this
theorem eW (hx : ev l x = .int k m) (hy : ev l y = .int k n) (h : ¬ m < n) : fF P l (.binOp .lss T x y T') ty (.bool false):=by
 have:=dS (P:=P) (T:=T) (T':=T') (ty:=ty) hx hy;rwa [decide_eq_false h] at this
theorem I9 (hx : ev l x = .int k m) (hy : ev l y = .int k n) (h : m ≤ n) : fF P l (.binOp .leq T x y T') ty (.bool true):=by
 have:=I7 (P:=P) (T:=T) (T':=T') (ty:=ty) hx hy;rwa [decide_eq_true h] at this
theorem vT (hx : ev l x = .int k m) (hy : ev l y = .int k n) (h : ¬ m ≤ n) : fF P l (.binOp .leq T x y T') ty (.bool false):=by
 have:=I7 (P:=P) (T:=T) (T':=T') (ty:=ty) hx hy;rwa [decide_eq_false h] at this
theorem l2 (hx : ev l x = .int k m) (hy : ev l y = .int k n) (h : n < m) : fF P l (.binOp .gtr T x y T') ty (.bool true):=by
 have:=gJ (P:=P) (T:=T) (T':=T') (ty:=ty) hx hy;rwa [decide_eq_true h] at this
theorem iZ (hx : ev l x = .int k m) (hy : ev l y = .int k n) (h : ¬ n < m) : fF P l (.binOp .gtr T x y T') ty (.bool false):=by
 have:=gJ (P:=P) (T:=T) (T':=T') (ty:=ty) hx hy;rwa [decide_eq_false h] at this
theorem nW (hx : ev l x = .int k m) (hy : ev l y = .int k n) (h : m = n) : fF P l (.binOp .eql T x y T') ty (.bool true):=by
 have:=lZ (P:=P) (T:=T) (T':=T') (ty:=ty) hx hy;rwa [decide_eq_true h] at this
theorem nX (hx : ev l x = .int k m) (hy : ev l y = .int k n) (h : ¬ m = n) : fF P l (.binOp .eql T x y T') ty (.bool false):=by
 have:=lZ (P:=P) (T:=T) (T':=T') (ty:=ty) hx hy;rwa [decide_eq_false h] at this
theorem Aw (hx : ev l x = .int k m) (hy : ev l y = .int k n) (h : m ≠ n) : fF P l (.binOp .neq T x y T') ty (.bool true):=by
 have:=nB (P:=P) (T:=T) (T':=T') (ty:=ty) hx hy;rwa [decide_eq_true h] at this
theorem qQ (hx : ev l x = .int k m) (hy : ev l y = .int k n) (h : ¬ m ≠ n) : fF P l (.binOp .neq T x y T') ty (.bool false):=by
 have:=nB (P:=P) (T:=T) (T':=T') (ty:=ty) hx hy;rwa [decide_eq_false h] at this
theorem cQ {c : Operand} (hc : ev l c = .bool true) : fF P l (.pick c x y) ty (ev l x):=Au hc
theorem cU {c : Operand} (hc : ev l c = .bool false) : fF P l (.pick c x y) ty (ev l y):=Au hc
theorem qR {op : Op} {v u : Value} (h : fF P l op ty v) (e : v = u) : fF P l op ty u:=e ▸ h
theorem iA {b c : Bool} (h : b = c) : Value.bool b = Value.bool c:=by rw [h]
end
def mK : List Value → List Nat → (Nat → Value) → List Value
 | l,t :: ts,g=>mK (l.set t (g t)) ts g
 | l,[],_=>l
theorem aK {l : List Value} {t : Nat} {ts : List Nat} {g : Nat → Value} : mK l (t :: ts) g = mK (l.set t (g t)) ts g:=rfl
theorem aQ {l : List Value} {g : Nat → Value} : mK l [] g = l:=rfl
theorem yG : ∀ (ts : List Nat) (l : List Value),mK l ts (l.getD · undef) = l:=by
 intro ts;have key : ∀ (ts : List Nat) (l : List Value) (g : Nat → Value),(∀ t,l.set t (g t) = l) → mK l ts g = l:=by
  intro ts
  induction ts with
  | nil=>intro l g _; rfl
  | cons t ts ih=>intro l g h; rw [aK,h t]; exact ih l g h
 exact fun l=>key ts l _ fun t=>C1
section
variable {P : Program} {ds : List Deferred} {l : List Value}
theorem cX {c : Code} {Q : Exit → Act → World → Prop} {w : World} (ts ss : List Nat) (I : Nat → List Value → World → Prop) (h0 : ∃ n,I n (ts.map (l.getD · undef)) w)
 (hr : ∀ n vs w,I n vs w → ∀ g : Nat → Value,c.wp P (Exit.then (fun a' w'=>∃ n' l',n' < n ∧ a' = Fr l' ∧ mK (kG l ts (ts.map (l'.getD · undef))) ss (l'.getD · undef) = l' ∧ I n' (ts.map (l'.getD · undef)) w') Q) (Fr (mK (kG l ts vs) ss g)) w) : (Code.loop c).wp P Q (Fr l) w:=by
 obtain ⟨n0,h0⟩:=h0
 let J : Nat → Act → World → Prop:=fun n a w=>∃ vs g,a = Fr (mK (kG l ts vs) ss g) ∧ I n vs w
 have hJ0 : ∃ n,J n (Fr l) w:=⟨n0,_,(l.getD · undef),by rw [rN,yG],h0⟩
 let μ : Act → World → Nat:=fun a w=>@dite _ (∃ n,J n a w) (Classical.propDecidable _) (fun h=>vS (fun n=>J n a w) h) (fun _=>0)
 refine wp_loop (fun a w=>∃ n,J n a w) μ hJ0 ?_;intro a w hI;obtain ⟨vs,g,rfl,hIv⟩:=C2 hI;refine Code.wp_mono ?_ (hr _ vs w hIv g);intro e a' w' hq;cases e with
 | normal =>
  obtain ⟨n',l',hlt,rfl,he,hI'⟩:=hq;have hJ : J n' (Fr l') w':=⟨_,(l'.getD · undef),by rw [he],hI'⟩
  refine ⟨⟨n',hJ⟩,?_⟩;have e1 : μ (Fr l') w' = vS (fun n=>J n (Fr l') w') ⟨n',hJ⟩:=by simp only[μ]; rw [dif_pos ⟨n',hJ⟩]
  have e2 : μ (Fr (mK (kG l ts vs) ss g)) w = vS (fun n=>J n (Fr (mK (kG l ts vs) ss g)) w) hI:=by simp only[μ]; rw [dif_pos hI]
  rw [e1,e2];exact Nat.lt_of_le_of_lt (G4 _ hJ) hlt
 | exit id=>exact hq
 | goto id=>exact hq
 | ret=>exact hq
 | panic ch=>exact hq
 | outgrown=>exact hq
end
section
variable {P : Program} {ds : List Deferred} {l : List Value} {ops : Array Oper} {Q : Exit → Act → World → Prop} {w : World} {rest : List (Oper × Bool)} {d : Nat} {op : Op} {ty : TypeId} {pos : String} {after : Array Edge} {v : Value}
theorem qC (hr : fF P l op ty v) (h : dV P ops Q rest (Fr (l.set d v) ds) w) : dV P ops Q ((Oper.mk (some d) op ty pos after none,true) :: rest) (Fr l ds) w:=by
 refine ⟨v,.inl ⟨by simp [Region.wanted],fun w=>hr w _ rfl rfl⟩,?_⟩;show dV P ops Q rest ((Fr l ds).put (some d) v) w
 rw [fV];exact h
theorem Tr (h : Q .normal (Fr l ds) w) : dV P ops Q [] (Fr l ds) w:=h
theorem Qx {o : Oper} (h : wpList P ops (Exit.then (dV P ops Q rest) Q) [o] (Fr l ds) w) : dV P ops Q ((o,false) :: rest) (Fr l ds) w:=h
theorem dN {Q : Exit → Act → World → Prop} (h : ∀ c (t : Array Value) ds (t' : Array Value) w,Q (.panic c) { tmps:=t,defers:=ds } w → Q (.panic c) { tmps:=t',defers:=ds } w) : ∀ c d v a w,Q (.panic c) (Act.put a d v) w → Q (.panic c) a w:=by
 intro c d v a w hq;cases d with
 | none=>exact hq
 | some d=>exact h c _ _ _ w hq
end
end Go.Lith
namespace Go.Lith
open Go.RowKit
/-! ### Names that are short -/
theorem zA {l : List Value} (t : Nat) : ev l (.tmp t) = l.getD t undef:=rfl
theorem zB {l : List Value} (v : Value) : ev l (.const v) = v:=rfl
theorem zC {l : List Value} (f : Nat) : ev l (.func f) = .func (.func f) #[] #[]:=rfl
theorem zD {α : Type} {x : α} {xs : List α} {n : Nat} {d : α} : (x :: xs).getD (n + 1) d = xs.getD n d:=rfl
theorem zE {α : Type} {x : α} {xs : List α} {d : α} : (x :: xs).getD 0 d = x:=rfl
theorem zF {α : Type} {x : α} {xs : List α} {n : Nat} {a : α} : (x :: xs).set (n + 1) a = x :: xs.set n a:=rfl
theorem zG {α : Type} {x : α} {xs : List α} {a : α} : (x :: xs).set 0 a = a :: xs:=rfl
theorem zH {α : Type} {x : α} {xs : List α} {n : Nat} : (x :: xs).take (n + 1) = x :: xs.take n:=rfl
theorem zI {α : Type} {xs : List α} : xs.take 0 = []:=List.take_zero
theorem zJ {α : Type} {x : α} {xs : List α} {n : Nat} : (x :: xs).drop (n + 1) = xs.drop n:=rfl
theorem zK {α : Type} {xs : List α} : xs.drop 0 = xs:=rfl
theorem zL {α : Type} {x : α} {xs ys : List α} : (x :: xs) ++ ys = x :: (xs ++ ys):=rfl
theorem zM {α : Type} {ys : List α} : [] ++ ys = ys:=rfl
theorem zN {α : Type} {ys : List α} : ys ++ [] = ys:=List.append_nil ys
theorem zO {α : Type} {x : α} {xs : List α} : (x :: xs).length = xs.length + 1:=rfl
theorem zP {α : Type} : ([] : List α).length = 0:=rfl
theorem zQ {α β : Type} {f : α → β} {x : α} {xs : List α} : (x :: xs).map f = f x :: xs.map f:=rfl
theorem zR {α β : Type} {f : α → β} : ([] : List α).map f = []:=rfl
theorem zS {α : Type} {l : List α} {i : Nat} : l.toArray[i]? = l[i]?:=List.getElem?_toArray
theorem zT {α : Type} {x : α} {xs : List α} {n : Nat} : (x :: xs)[n + 1]? = xs[n]?:=rfl
theorem zU {α : Type} {x : α} {xs : List α} : (x :: xs)[0]? = some x:=rfl
theorem zV {α : Type} {x d : α} : (some x).getD d = x:=rfl
end Go.Lith
namespace Go.Lith
open Go.RowKit
section
variable {P : Program} {ds : List Deferred} {l : List Value} {x y z0 : Operand} {T T' ty : TypeId}
theorem C3 {A : Option Addr} {n c : Nat} {E : TypeId} (hu : P.underlying T = some (.slice E)) (hx : ev l x = .slice A n c) (hy : ev l y = .slice none 0 0) : fF P l (.binOp .eql T x y T') ty (.bool A.isNone):=fun w o ho _=>by
 obtain ⟨D,hD⟩ : ∃ D,Op.maxDepth = D + 1:=⟨9999,rfl⟩
 cases A <;> simp [execOp,ho,cC,hx,hy,eqGuard,binOp,Op.equal,hD,Op.equalIn,run_underlying hu]
variable {ops : Array Oper} {Q : Exit → Act → World → Prop} {rest : List Oper} {d : Nat} {pos : String} {after : Array Edge} {w : World}
theorem Nc {op : Op} {v : Value} {w' : World} (hr : ∀ o : Oper,o.op = op → (execOp (Fr l).eval o).run P w = .ok (.value v) w') (h : wpList P ops Q rest (Fr l ds) w') : wpList P ops Q (Oper.mk none op ty pos after none :: rest) (Fr l ds) w:=by
 refine wpList_plain rfl fun K hK=>?_;unfold Oper.wp;rw [gH,hr _ rfl];exact hK _ _ h
theorem Ax : Array.map (fun (_ : Nat)=>(default : Value)) (Array.range 0) = #[]:=Array.eq_empty_of_size_eq_zero (by simp)
theorem Ay (z v : Value) : (Array.map (fun x=>[z][x % 1]?.getD default) (Array.range 1)).setIfInBounds 0 v = #[v]:=by
 apply Array.ext (by simp);intro i h1 h2;obtain rfl : i = 0:=by simpa using h2
 simp
theorem Az (z v v2 : Value) : ((Array.map (fun x=>[z][x % 1]?.getD default) (Array.range 2)).setIfInBounds 0 v).setIfInBounds 1 v2 = #[v,v2]:=by
 apply Array.ext (by simp);intro i h1 h2;have h3 : i < 2:=by simpa using h2
 rcases Nat.lt_or_ge i 1 with h | h
 · obtain rfl : i = 0:=by omega
   simp
 · obtain rfl : i = 1:=by omega
   simp
theorem Ja {E : TypeId} {c : Nat} (hu : P.underlying T = some (.slice E)) (hi : (P.info? E).map (fun i=>i.size) = some c)
 (h : ∀ w' g,cD w w' → w.heap.size ≤ g → eU w' g [] E → wpList P ops Q rest (Fr (l.set d (.slice (some ⟨g,0,none⟩) 0 0)) ds) w') :
 wpList P ops Q (Oper.mk (some d) (.buildSlice T 0 #[]) ty pos after none :: rest) (Fr l ds) w:=by
 cases hq : P.info? E with
 | none=>rw [hq] at hi; cases hi
 | some i =>
  exact jO (w':=w.alloc (.cells #[] E)) (v:=.slice (some ⟨w.heap.size,0,none⟩) 0 0) (fun o ho _=>by simp [execOp,ho,Instr.buildSlice,run_underlying hu,sizeOf,typeInfo,hq,Instr.fill,newRow,newObj,Sem.run,Ax]) (h _ _ ((cD.refl w).alloc _) (Nat.le_refl _) (gK w [] E))
theorem b7 {E : TypeId} {z : Value} (hu : P.underlying T = some (.slice E)) (hi : (P.info? E).map (fun i=>(i.size,i.zero)) = some (1,some z)) (hz : z.cells = #[z]) {v : Value} (hx : ev l x = v) (hv : v.cells = #[v])
 (h : ∀ w' g,cD w w' → w.heap.size ≤ g → eU w' g [v] E → wpList P ops Q rest (Fr (l.set d (.slice (some ⟨g,0,none⟩) 1 1)) ds) w') :
 wpList P ops Q (Oper.mk (some d) (.buildSlice T 1 #[(0,x)]) ty pos after none :: rest) (Fr l ds) w:=by
 cases hq : P.info? E with
 | none=>rw [hq] at hi; cases hi
 | some i =>
  rw [hq] at hi;simp only[Option.map_some,Option.some.injEq,Prod.mk.injEq] at hi;obtain ⟨e1,e2⟩:=hi;exact jO (w':=w.alloc (.cells #[v] E)) (v:=.slice (some ⟨w.heap.size,0,none⟩) 1 1) (fun o ho _=>by simp [execOp,ho,Instr.buildSlice,run_underlying hu,sizeOf,typeInfo,zeroValue,hq,e1,e2,hz,cC,hx,hv,Instr.fill,newRow,newObj,Sem.run,Ay]) (h _ _ ((cD.refl w).alloc _) (Nat.le_refl _) (gK w [v] E))
theorem l3 {E : TypeId} {z : Value} (hu : P.underlying T = some (.slice E)) (hi : (P.info? E).map (fun i=>(i.size,i.zero)) = some (1,some z)) (hz : z.cells = #[z]) {v v2 : Value} (hx : ev l x = v) (hv : v.cells = #[v]) (hy : ev l y = v2) (hv2 : v2.cells = #[v2])
 (h : ∀ w' g,cD w w' → w.heap.size ≤ g → eU w' g [v,v2] E → wpList P ops Q rest (Fr (l.set d (.slice (some ⟨g,0,none⟩) 2 2)) ds) w') :
 wpList P ops Q (Oper.mk (some d) (.buildSlice T 2 #[(0,x),(1,y)]) ty pos after none :: rest) (Fr l ds) w:=by
 cases hq : P.info? E with
 | none=>rw [hq] at hi; cases hi
 | some i =>
  rw [hq] at hi;simp only[Option.map_some,Option.some.injEq,Prod.mk.injEq] at hi;obtain ⟨e1,e2⟩:=hi;exact jO (w':=w.alloc (.cells #[v,v2] E)) (v:=.slice (some ⟨w.heap.size,0,none⟩) 2 2) (fun o ho _=>by simp [execOp,ho,Instr.buildSlice,run_underlying hu,sizeOf,typeInfo,zeroValue,hq,e1,e2,hz,cC,hx,hv,hy,hv2,Instr.fill,newRow,newObj,Sem.run,Az]) (h _ _ ((cD.refl w).alloc _) (Nat.le_refl _) (gK w [v,v2] E))
theorem iS.build0 {base g : Nat} {E : TypeId} {c : Nat} (hB : eU w g [] E) (hb : base ≤ g) : iS w base E c (.slice (some ⟨g,0,none⟩) 0 0) 0 []:=by
 refine ⟨(Nat.zero_mul c).symm,.inr ⟨g,0,#[],rfl,hb,hB,Nat.le_refl _,by decide,by simp,by simp⟩⟩
theorem Nf {E : TypeId} {z : Value} {g o n cap : Nat} {cs : List Value} {t : TypeId} {a0 : Array TypeId} (ha : a0 = #[T]) (hu : P.underlying T = some (.slice E)) (hi : (P.info? E).map (fun i=>(i.size,i.zero)) = some (1,some z)) (hz : z.cells = #[z]) (hx : ev l x = .slice (some ⟨g,o,none⟩) n cap) (hn : 0 < n) (hB : eU w g cs t) (hfit : o + n ≤ cs.length) (h1 : z.oneCell' = true)
 (h : ∀ w',yF w w' g → eU w' g (a8 cs o (List.replicate n z)) t → wpList P ops Q rest (Fr l ds) w') :
 wpList P ops Q (Oper.mk none (.call { callee:=.builtin .clear,args:=#[x],argTypes:=a0 }) ty pos after none :: rest) (Fr l ds) w:=by
 subst ha;cases hq : P.info? E with
 | none=>rw [hq] at hi; cases hi
 | some i =>
  rw [hq] at hi;simp only[Option.map_some,Option.some.injEq,Prod.mk.injEq] at hi;obtain ⟨e1,e2⟩:=hi;have hzc : (Builtin.zeroCells z.cells n).toList = List.replicate n z:=by
   rw [hz];apply List.ext_getElem
   · simp [Builtin.zeroCells]
   · intro j h1 h2
     simp [Builtin.zeroCells,Nat.mod_one]
  have hst:=run_storeCells_at P g o t (List.replicate n z) 0 cs.toArray w hB (by simpa using hfit) (fun u hu=>by rw [List.eq_of_mem_replicate hu]; exact h1);simp only[Nat.add_zero,List.toList_toArray] at hst;obtain ⟨n,rfl⟩ : ∃ m,n = m + 1:=⟨n - 1,by omega⟩
  refine Nc (v:=.tuple #[]) (w':=w.setRow g (a8 cs o (List.replicate (n + 1) z)).toArray) (fun o' ho=>?_) (h _ (nU w g _) (setRow_heap w g cs.toArray _ t _ hB));simp [execOp,ho,resolve,invoke,builtin,cC,hx,Builtin.clear_,run_underlying hu,zeroValue,typeInfo,hq,e2,hzc,hst,a8]
theorem Jb {cs : List Value} {off : Nat} : a8 cs off [] = cs:=by simp [a8]
end
end Go.Lith
namespace Go.Lith
open Go.RowKit
theorem Wq {P : Program} {l : List Value} {w : World} {fn : Func} {R : Ending → World → Prop} (hr : fn.results = #[]) (hR : R (.returned (.tuple #[])) w) : bodyPost P fn R .ret (Fr l) w:=by
 refine ⟨rfl,_,?_,hR⟩;unfold results;rw [hr];simp
theorem Ts {P : Program} {l : List Value} {w : World} {fn : Func} {R : Ending → World → Prop} (hr : fn.results = #[]) (hR : R (.returned (.tuple #[])) w) : bodyPost P fn R .normal (Fr l) w:=Wq hr hR
structure I2 (w w' : World) (g : Nat) : Prop where
 os : w'.os = w.os
 tape : w'.tape = w.tape
 output : w'.output = w.output
 size : w.heap.size ≤ w'.heap.size
 block : ∀ k,k < w.heap.size → k ≠ g → w'.heap[k]? = w.heap[k]?
theorem cD.upd {w w' : World} (h : cD w w') (g : Nat) : I2 w w' g:=⟨h.os,h.tape,h.output,h.size,fun k hk _=>Below.block h k hk⟩
theorem I2.trans {w w' w'' : World} {g : Nat} (h : I2 w w' g) (hE : cD w' w'') : I2 w w'' g :=
 ⟨hE.os.trans h.os,hE.tape.trans h.tape,hE.output.trans h.output,Nat.le_trans h.size hE.size,fun k hk hne=>(Below.block hE k (Nat.lt_of_lt_of_le hk h.size)).trans (h.block k hk hne)⟩
theorem I2.chg {w w' w'' : World} {g k : Nat} (h : I2 w w' g) (hC : yF w' w'' k) (hk : w.heap.size ≤ k ∨ k = g) : I2 w w'' g :=
 ⟨hC.os.trans h.os,hC.tape.trans h.tape,hC.output.trans h.output,by rw [hC.size]; exact h.size,fun j hj hne=>(hC.block j (by omega)).trans (h.block j hj hne)⟩
theorem cD.grownUpd {w0 w w' : World} {g : Nat} (h : cD w0 w) (hU : I2 w w' g) (hg : w0.heap.size ≤ g) : cD w0 w' :=
 ⟨hU.os.trans h.os,hU.tape.trans h.tape,hU.output.trans h.output,Nat.le_trans h.size hU.size,fun k hk=>(hU.block k (Nat.lt_of_lt_of_le hk h.size) (by omega)).trans (Below.block h k hk)⟩
theorem eU.upd {w w' : World} {g g' : Nat} {cs : List Value} {t : TypeId} (h : eU w g cs t) (hU : I2 w w' g') (hne : g ≠ g') : eU w' g cs t:=(hU.block g h.lt hne).trans h
def Jc (P : Program) (f : FuncId) (args : List Value) (w : World) (g : Nat) (R : Value → World → Prop) : Prop :=
 bF P f ∧ Calls P f args.toArray w fun e w'=>∃ v,e = .returned v ∧ I2 w w' g ∧ R v w'
section
variable {P : Program} {ds : List Deferred} {l : List Value} {x y : Operand} {ty : TypeId} {w : World}
variable {ops : Array Oper} {Q : Exit → Act → World → Prop} {rest : List Oper} {d : Nat} {pos : String} {after : Array Edge}
theorem rP {f : FuncId} {fo : Operand} {xs : Array Operand} {args : List Value} {first cap : Array Value} {a0 : Array TypeId} {g : Nat} {R : Value → World → Prop} (hf : ev l fo = .func (.func f) first cap) (hxs : first.toList ++ xs.toList.map (ev l) ++ cap.toList = args) (hc : Jc P f args w g R)
 (h : ∀ v w',I2 w w' g → R v w' → wpList P ops Q rest (Fr (l.set d v) ds) w') : wpList P ops Q (Oper.mk (some d) (.call { callee:=.value fo,args:=xs,argTypes:=a0 }) ty pos after none :: rest) (Fr l ds) w:=by
 refine wpList_plain rfl fun K hK=>?_;unfold Oper.wp;rw [gH,kL hc.1 hf hxs _ rfl];refine hc.2.mono ?_;rintro e w' ⟨v,rfl,hE,hR⟩;show K ((Fr l ds).put (some d) v) w'
 rw [fV];exact hK _ _ (h v w' hE hR)
theorem Ng {T : TypeId} {E : TypeId} {g o n cap m cap2 : Nat} {A : Option Addr} {cs us : List Value} {t : TypeId} {T' : TypeId} {a0 : Array TypeId} (ha : a0 = #[T,T']) (hu : P.underlying T = some (.slice E)) (hi : (P.info? E).map (·.size) = some 1) (hx : ev l x = .slice (some ⟨g,o,none⟩) n cap) (hy : ev l y = .slice A m cap2) (hl : us.length = Nat.min m n)
 (hsrc : ∀ j v,us[j]? = some v → ∃ a,A = some a ∧ w.cell? (a.add j) = some v) (hB : eU w g cs t) (hfit : o + us.length ≤ cs.length) (h1 : ∀ v ∈ us,v.oneCell' = true)
 (h : ∀ w',yF w w' g → eU w' g (a8 cs o us) t → wpList P ops Q rest (Fr (l.set d (.int .i64 (us.length : Int))) ds) w') :
 wpList P ops Q (Oper.mk (some d) (.call { callee:=.builtin .copy,args:=#[x,y],argTypes:=a0 }) ty pos after none :: rest) (Fr l ds) w:=by
 subst ha;cases us with
 | nil =>
  refine jO (v:=.int .i64 0) (w':=w) (fun o' ho _=>?_) (h w ⟨rfl,rfl,rfl,rfl,fun _ _=>rfl⟩ (by rw [Jb]; exact hB));have hrun:=run_copy_none (P:=P) w T T' o'.type E (some ⟨g,o,none⟩) A n cap m cap2 hu hi hl.symm;simp [execOp,ho,resolve,invoke,builtin,cC,hx,hy,hrun,goInt]
 | cons u us =>
  obtain ⟨a,rfl,_⟩:=hsrc 0 u rfl;refine jO (v:=.int .i64 ((u :: us).length : Int)) (w':=w.setRow g (a8 cs o (u :: us)).toArray) (fun o' ho _=>?_) (h _ (nU w g _) (setRow_heap w g cs.toArray _ t _ hB));have hrun:=run_copy_row (P:=P) w T T' o'.type E g o n cap a m cap2 cs.toArray t (u :: us) hu hi hB hl (fun j v hj=>let ⟨a',e,hc⟩:=hsrc j v hj; by cases e; exact hc) (by simpa using hfit) h1;simp only[List.toList_toArray] at hrun;simp [execOp,ho,resolve,invoke,builtin,cC,hx,hy,hrun,a8,goInt]
end
end Go.Lith
namespace Go.Lith
open Go.RowKit
def iC (w : World) (S : World → Prop) : Prop:=S w
theorem iC.nil {w : World} : iC w (fun _=>True):=trivial
theorem iC.cons {w : World} {A S : World → Prop} (h : A w) (k : iC w S) : iC w (fun w=>A w ∧ S w):=⟨h,k⟩
theorem iC.blk {w : World} {g : Nat} {cs : List Value} {t : TypeId} {S : World → Prop} (h : eU w g cs t) (k : iC w S) : iC w (fun w=>eU w g cs t ∧ S w):=⟨h,k⟩
section
variable {P : Program} {ops : Array Oper} {md : Region.Mode} {S : World → Prop}
def dK (P : Program) (ops : Array Oper) (S : World → Prop) (Q : Exit → Act → World → Prop) : List (Oper × Bool) → Act → World → Prop
 | [],a,w=>Q .normal a w
 | (o,true) :: r,a,w=>∃ v,YieldsIf P ops S o v a ∧ dK P ops S Q r (a.put o.dst v) w
 | (o,false) :: r,a,w=>wpList P ops (Exit.then (fun a w=>S w ∧ dK P ops S Q r a w) Q) [o] a w
theorem m4 {Q : Exit → Act → World → Prop} (hs : Region.noSelect ops = true) (hQ : ∀ c d v a w,Q (.panic c) (Act.put a d v) w → Q (.panic c) a w) : ∀ (l : List (Nat × Bool)) (listed : Array Bool) (a : Act) (w : World),
 tG md ops l listed = true → S w → dK P ops S Q (l.map fun x=>((ops[x.1]?).getD default,x.2)) a w → wpAnyH P md ops Q S l.length listed a w
 | [],listed,a,w,hB,_,h=>⟨by simpa [tG] using hB,h⟩
 | (i,true) :: r,listed,a,w,hB,hS,h=>by
  simp only[tG,Bool.and_eq_true] at hB;obtain ⟨⟨⟨h1,h2⟩,h3⟩,h4⟩:=hB;obtain ⟨o,ho⟩:=Option.isSome_iff_exists.1 h1;simp only[List.map_cons,dK,ho,Option.getD_some] at h;obtain ⟨v,hy,hr⟩:=h;exact wpAnyH_take ho hs h2 h3 (fun c a w=>hQ c _ v a w) hy hS (m4 hs hQ r _ _ _ h4 hS hr)
 | (i,false) :: r,listed,a,w,hB,hS,h=>by
  simp only[tG,Bool.and_eq_true,decide_eq_true_eq] at hB;obtain ⟨⟨h1,h2⟩,h4⟩:=hB;obtain ⟨o,ho⟩:=Option.isSome_iff_exists.1 h1;refine wpAnyH_all h2 (by simp) fun j hj=>?_;obtain rfl : j = i:=by simpa using hj
  simp only[List.map_cons,dK,ho,Option.getD_some] at h;have key : ∀ a' w',Exit.then (fun a w=>S w ∧ dK P ops S Q (r.map fun x=>((ops[x.1]?).getD default,x.2)) a w) Q .normal a' w' → S w' ∧ wpAnyH P md ops Q S r.length (listed.setIfInBounds j true) a' w':=fun a' w' hh=>⟨hh.1,m4 hs hQ r _ a' w' h4 hh.1 hh.2⟩
  unfold wpOp;simp only[ho];simp only[wpList] at h;split
  · rename_i hw
    rw [if_pos hw] at h;rcases h with h | ⟨ha,x,y,hl⟩
    · refine .inl ?_
      unfold Oper.wp at h ⊢;generalize (execOp a.eval o).run P w = res at *
      cases res with
      | ok n w' =>
       cases n <;> simp only[Oper.upon] at h ⊢ <;>
        first
         | exact key _ _ h
         | exact Calls.mono h (fun e w'' he=>by cases e <;> first | exact key _ _ he | exact he)
         | exact Rows.mono h (fun _ _ he=>key _ _ he)
      | halt x w'=>cases x <;> simp only[Oper.upon] at h ⊢ <;> exact h
    · exact .inr ⟨ha,x,y,hl⟩
  · rename_i hw
    rw [if_neg hw] at h;exact key _ _ h
theorem eG {id : Nat} {Q : Exit → Act → World → Prop} {a : Act} {w : World} {l : List Oper} (o : List (Nat × Bool)) (hm : P.follows .mixedOrders = true) (hB : (Region.noSelect l.toArray && decide (o.length = l.length) && tG .any l.toArray o (Array.replicate l.toArray.size false)) = true)
 (hQ : ∀ c d v a w,Q (.panic c) (Act.put a d v) w → Q (.panic c) a w) {ol : List (Oper × Bool)} (hol : (o.map fun x=>((l.toArray[x.1]?).getD default,x.2)) = ol)
 (h : ∀ w',cD w w' → ∃ S,iC w' S ∧ dK P l.toArray S Q ol a w') : (Code.region id l.toArray true).wp P Q a w:=by
 simp only[Bool.and_eq_true,decide_eq_true_eq] at hB;subst hol;obtain ⟨S,hS,h⟩:=h _ (cD.refl w).drawn;refine wp_region_held (S:=S) hm ?_;have:=m4 (md:=.any) hB.1.1 hQ o _ a { w with drawn:=w.drawn + 1 } hB.2 hS h;rwa [hB.1.2] at this
variable {ds : List Deferred} {l : List Value} {Q : Exit → Act → World → Prop} {w : World} {rest : List (Oper × Bool)} {d : Nat} {op : Op} {ty : TypeId} {pos : String} {after : Array Edge} {v : Value}
theorem Jd (hr : ∀ w,S w → uT P l op ty v w) (h : dK P ops S Q rest (Fr (l.set d v) ds) w) : dK P ops S Q ((Oper.mk (some d) op ty pos after none,true) :: rest) (Fr l ds) w:=by
 refine ⟨v,.inl ⟨by simp [Region.wanted],fun w hw=>hr w hw _ rfl rfl⟩,?_⟩;show dK P ops S Q rest ((Fr l ds).put (some d) v) w
 rw [fV];exact h
theorem bQ (hr : fF P l op ty v) (h : dK P ops S Q rest (Fr (l.set d v) ds) w) : dK P ops S Q ((Oper.mk (some d) op ty pos after none,true) :: rest) (Fr l ds) w:=Jd (fun w _=>hr w) h
theorem eQ {T : TypeId} {x : Operand} {a : Addr} (hx : ev l x = .pointer (some a)) (hv : ∀ w',S w' → oY P w' T a v) (h : dK P ops S Q rest (Fr (l.set d v) ds) w) : dK P ops S Q ((Oper.mk (some d) (.load T x) ty pos after none,true) :: rest) (Fr l ds) w :=
 Jd (fun _ hS=>jN hx (hv _ hS)) h
theorem cZ (h : Q .normal (Fr l ds) w) : dK P ops S Q [] (Fr l ds) w:=h
theorem dZ {o : Oper} (h : wpList P ops (Exit.then (fun a w=>S w ∧ dK P ops S Q rest a w) Q) [o] (Fr l ds) w) : dK P ops S Q ((o,false) :: rest) (Fr l ds) w:=h
end
end Go.Lith
namespace Go.Lith
open Go.RowKit
def nY (P : Program) (d : Nat) (T : TypeId) (x y : Value) (p : Prop) : Prop:=∀ w,∃ b : Bool,(Op.equalIn d T x y).run P w = .ok b w ∧ (b = true ↔ p)
section
variable {P : Program} {d : Nat} {T : TypeId}
theorem nY.int {k k' : IntKind} {m n : Int} (hu : P.underlying T = some (.int k')) : nY P (d + 1) T (.int k m) (.int k n) (m = n):=fun w=>⟨m == n,by unfold Op.equalIn; simp [run_underlying hu],by simp⟩
theorem nY.bool {a b : Bool} (hu : P.underlying T = some .bool) : nY P (d + 1) T (.bool a) (.bool b) (a = b):=fun w=>⟨a == b,by unfold Op.equalIn; simp [run_underlying hu],by simp⟩
theorem vU {a b : ByteArray} (h : a.toList = b.toList) : a = b:=by
 rw [ByteArray.toList_eq,ByteArray.toList_eq] at h;cases a; cases b;simp at h;rw [h]
theorem A0 (a b : ByteArray) : (a.toList == b.toList) = decide (a = b):=by
 by_cases h : a = b
 · subst h; simp
 · rw [decide_eq_false h]; exact beq_eq_false_iff_ne.2 fun e=>h (vU e)
theorem nY.str {a b : ByteArray} (hu : P.underlying T = some .string) : nY P (d + 1) T (.string a) (.string b) (a = b):=fun w=>⟨a == b,by unfold Op.equalIn; simp [run_underlying hu],by rw [beq_toListBytes,A0]; simp⟩
def p9 (P : Program) (d : Nat) (xs ys : Array Value) (fs : List Field) (p : Prop) : Prop:=∀ w,∃ b : Bool,(Op.eqFields d xs ys fs).run P w = .ok b w ∧ (b = true ↔ p)
theorem p9.nil {xs ys : Array Value} : p9 P d xs ys [] True:=fun w=>⟨true,by simp [Op.eqFields],by simp⟩
theorem p9.cons {xs ys : Array Value} {f : Field} {fs : List Field} {x y : Value} {p q : Prop} (hn : f.name ≠ "_") (hx : ∀ w,(part f.type xs f.offset).run P w = .ok x w) (hy : ∀ w,(part f.type ys f.offset).run P w = .ok y w)
 (h : nY P d f.type x y p) (k : p9 P d xs ys fs q) : p9 P d xs ys (f :: fs) (p ∧ q):=fun w=>by
 obtain ⟨b,hb,hp⟩:=h w;obtain ⟨c,hc,hq⟩:=k w;cases b
 · exact ⟨false,by simp [Op.eqFields,hn,hx,hy,hb],by simp at hp ⊢; intro h; exact absurd h hp⟩
 · exact ⟨c,by simp [Op.eqFields,hn,hx,hy,hb,hc],by simp at hp; simp [hp,hq]⟩
def xM (P : Program) (d : Nat) (E : TypeId) (n : Nat) (xs ys : Array Value) (is : List Nat) (p : Prop) : Prop:=∀ w,∃ b : Bool,(Op.eqItems d E n xs ys is).run P w = .ok b w ∧ (b = true ↔ p)
theorem xM.nil {E : TypeId} {n : Nat} {xs ys : Array Value} : xM P d E n xs ys [] True:=fun w=>⟨true,by simp [Op.eqItems],by simp⟩
theorem xM.cons {E : TypeId} {n i : Nat} {is : List Nat} {xs ys : Array Value} {x y : Value} {p q : Prop} (hx : ∀ w,(part E xs (i * n)).run P w = .ok x w) (hy : ∀ w,(part E ys (i * n)).run P w = .ok y w)
 (h : nY P d E x y p) (k : xM P d E n xs ys is q) : xM P d E n xs ys (i :: is) (p ∧ q):=fun w=>by
 obtain ⟨b,hb,hp⟩:=h w;obtain ⟨c,hc,hq⟩:=k w;cases b
 · exact ⟨false,by simp [Op.eqItems,hx,hy,hb],by simp at hp ⊢; intro h; exact absurd h hp⟩
 · exact ⟨c,by simp [Op.eqItems,hx,hy,hb,hc],by simp at hp; simp [hp,hq]⟩
theorem nY.struct {fs : Array Field} {xs ys : Array Value} {p : Prop} (hu : P.underlying T = some (.struct fs)) (hs : P.stoodInHeld T = false) (h : p9 P d xs ys fs.toList p) : nY P (d + 1) T (.agg xs) (.agg ys) p:=fun w=>by
 have hf : P.fieldsOf T = fs:=by simp [Program.fieldsOf,hu]
 rw [run_equalIn_struct w d T xs ys (by rw [hf]; exact hu) hs,hf];exact h w
theorem nY.array {n c : Nat} {E : TypeId} {xs ys : Array Value} {p : Prop} (hu : P.underlying T = some (.array n E)) (hc : dM P E c) (h : xM P d E c xs ys (List.range n) p) : nY P (d + 1) T (.agg xs) (.agg ys) p:=fun w=>by
 obtain ⟨i,hi,rfl⟩:=hc;have hE : P.cellsOf E = i.size:=by simp [Program.cellsOf,hi]
 rw [run_equalIn_array w d xs ys hu hi,hE];exact h w
theorem nY.iff {x y : Value} {p q : Prop} (h : nY P d T x y p) (hpq : p ↔ q) : nY P d T x y q:=fun w=>let ⟨b,hb,hp⟩:=h w; ⟨b,hb,hp.trans hpq⟩
theorem fW {xs : Array Value} {off : Nat} {v : Value} (hA : fM P T false) (hv : xs[off]? = some v) (w : World) : (part T xs off).run P w = .ok v w:=by simp [part,rO hA,hv]
theorem rQ {xs us : Array Value} {off c : Nat} (hA : fM P T true) (hc : dM P T c) (hv : xs.extract off (off + c) = us) (w : World) : (part T xs off).run P w = .ok (.agg us) w:=by
 subst hv;simp [part,rO hA,d6 hc]
variable {l : List Value} {x y : Operand} {T' ty : TypeId}
theorem nZ {u v : Value} {p : Prop} [Decidable p] (h : nY P 10000 T u v p) (w : World) : (Op.equal T u v).run P w = .ok (decide p) w:=by
 obtain ⟨b,hb,hp⟩:=h w;rw [Op.equal,show Op.maxDepth = 10000 from rfl,hb]
 congr 1
 cases b
 · exact (decide_eq_false (by simpa using hp)).symm
 · exact (decide_eq_true (by simpa using hp)).symm
theorem Je {xs ys : Array Value} {p : Prop} [Decidable p] (hg : P.eqGuardType P.depth T = false) (hx : ev l x = .agg xs) (hy : ev l y = .agg ys) (h : nY P 10000 T (.agg xs) (.agg ys) p) : fF P l (.binOp .eql T x y T') ty (.bool (decide p)):=fun w o ho _=>by
 simp [execOp,ho,cC,hx,hy,eqGuard,binOp,hg,nZ h]
theorem Jf {xs ys : Array Value} {p : Prop} [Decidable p] (hg : P.eqGuardType P.depth T = false) (hx : ev l x = .agg xs) (hy : ev l y = .agg ys) (h : nY P 10000 T (.agg xs) (.agg ys) p) : fF P l (.binOp .neq T x y T') ty (.bool (decide (¬ p))):=fun w o ho _=>by
 simp [execOp,ho,cC,hx,hy,eqGuard,binOp,hg,nZ h]
theorem Jg {a b : Bool} (hu : P.underlying T = some .bool) (hx : ev l x = .bool a) (hy : ev l y = .bool b) : fF P l (.binOp .eql T x y T') ty (.bool (decide (a = b))):=fun w o ho _=>by
 have h:=nZ (nY.bool (d:=9999) (a:=a) (b:=b) hu) w;simp [execOp,ho,cC,hx,hy,eqGuard,binOp,h]
theorem En {a b : Bool} (hu : P.underlying T = some .bool) (hx : ev l x = .bool a) (hy : ev l y = .bool b) : fF P l (.binOp .neq T x y T') ty (.bool (decide (¬ a = b))):=fun w o ho _=>by
 have h:=nZ (nY.bool (d:=9999) (a:=a) (b:=b) hu) w;simp [execOp,ho,cC,hx,hy,eqGuard,binOp,h]
theorem Eo {a b : ByteArray} (hu : P.underlying T = some .string) (hx : ev l x = .string a) (hy : ev l y = .string b) : fF P l (.binOp .eql T x y T') ty (.bool (decide (a = b))):=fun w o ho _=>by
 have h:=nZ (nY.str (d:=9999) (a:=a) (b:=b) hu) w;simp [execOp,ho,cC,hx,hy,eqGuard,binOp,h,Op.stringOp,A0]
theorem Qy {a b : ByteArray} (hu : P.underlying T = some .string) (hx : ev l x = .string a) (hy : ev l y = .string b) : fF P l (.binOp .neq T x y T') ty (.bool (decide (¬ a = b))):=fun w o ho _=>by
 have h:=nZ (nY.str (d:=9999) (a:=a) (b:=b) hu) w;simp [execOp,ho,cC,hx,hy,eqGuard,binOp,h,Op.stringOp,A0]
end
end Go.Lith
namespace Go.Proofs.YtimjandkmfcmiaaGreatDoor
open Go.RowKit Go.Lith
set_option maxRecDepth 100000
theorem aU : Tryz.prog.follows .mixedOrders = true:=by kernel_rfl
theorem Ws : bF Tryz.prog 8:=⟨_,Tryz.func8,by kernel_rfl,by kernel_rfl⟩
theorem Tt : bF Tryz.prog 11:=⟨_,Tryz.func11,by kernel_rfl,by kernel_rfl⟩
theorem Tu : bF Tryz.prog 12:=⟨_,Tryz.func12,by kernel_rfl,by kernel_rfl⟩
theorem Tv : bF Tryz.prog 13:=⟨_,Tryz.func13,by kernel_rfl,by kernel_rfl⟩
theorem Tw : bF Tryz.prog 14:=⟨_,Tryz.func14,by kernel_rfl,by kernel_rfl⟩
theorem Tx : bF Tryz.prog 15:=⟨_,Tryz.func15,by kernel_rfl,by kernel_rfl⟩
theorem Ty : bF Tryz.prog 19:=⟨_,Tryz.func19,by kernel_rfl,by kernel_rfl⟩
theorem Tz : bF Tryz.prog 20:=⟨_,Tryz.func20,by kernel_rfl,by kernel_rfl⟩
theorem T0 : bF Tryz.prog 21:=⟨_,Tryz.func21,by kernel_rfl,by kernel_rfl⟩
theorem T4 : bF Tryz.prog 22:=⟨_,Tryz.func22,by kernel_rfl,by kernel_rfl⟩
theorem T5 : bF Tryz.prog 23:=⟨_,Tryz.func23,by kernel_rfl,by kernel_rfl⟩
theorem T6 : bF Tryz.prog 24:=⟨_,Tryz.func24,by kernel_rfl,by kernel_rfl⟩
theorem T7 : bF Tryz.prog 25:=⟨_,Tryz.func25,by kernel_rfl,by kernel_rfl⟩
theorem T8 : bF Tryz.prog 26:=⟨_,Tryz.func26,by kernel_rfl,by kernel_rfl⟩
theorem T9 : bF Tryz.prog 27:=⟨_,Tryz.func27,by kernel_rfl,by kernel_rfl⟩
theorem Ua : bF Tryz.prog 28:=⟨_,Tryz.func28,by kernel_rfl,by kernel_rfl⟩
theorem Ub : bF Tryz.prog 35:=⟨_,Tryz.func35,by kernel_rfl,by kernel_rfl⟩
theorem Uc : bF Tryz.prog 36:=⟨_,Tryz.func36,by kernel_rfl,by kernel_rfl⟩
theorem Ud : bF Tryz.prog 37:=⟨_,Tryz.func37,by kernel_rfl,by kernel_rfl⟩
theorem Ue : bF Tryz.prog 38:=⟨_,Tryz.func38,by kernel_rfl,by kernel_rfl⟩
theorem Uf : bF Tryz.prog 39:=⟨_,Tryz.func39,by kernel_rfl,by kernel_rfl⟩
theorem Ug : bF Tryz.prog 40:=⟨_,Tryz.func40,by kernel_rfl,by kernel_rfl⟩
theorem Uh : bF Tryz.prog 41:=⟨_,Tryz.func41,by kernel_rfl,by kernel_rfl⟩
theorem Ui : bF Tryz.prog 42:=⟨_,Tryz.func42,by kernel_rfl,by kernel_rfl⟩
theorem Uj : bF Tryz.prog 43:=⟨_,Tryz.func43,by kernel_rfl,by kernel_rfl⟩
theorem Uk : bF Tryz.prog 44:=⟨_,Tryz.func44,by kernel_rfl,by kernel_rfl⟩
theorem Ul : bF Tryz.prog 45:=⟨_,Tryz.func45,by kernel_rfl,by kernel_rfl⟩
theorem Um : bF Tryz.prog 53:=⟨_,Tryz.func53,by kernel_rfl,by kernel_rfl⟩
theorem Un : bF Tryz.prog 54:=⟨_,Tryz.func54,by kernel_rfl,by kernel_rfl⟩
theorem Uo : bF Tryz.prog 55:=⟨_,Tryz.func55,by kernel_rfl,by kernel_rfl⟩
theorem Up : bF Tryz.prog 56:=⟨_,Tryz.func56,by kernel_rfl,by kernel_rfl⟩
theorem Uq : bF Tryz.prog 57:=⟨_,Tryz.func57,by kernel_rfl,by kernel_rfl⟩
theorem Ur : bF Tryz.prog 58:=⟨_,Tryz.func58,by kernel_rfl,by kernel_rfl⟩
theorem Us : bF Tryz.prog 59:=⟨_,Tryz.func59,by kernel_rfl,by kernel_rfl⟩
theorem Ut : bF Tryz.prog 60:=⟨_,Tryz.func60,by kernel_rfl,by kernel_rfl⟩
theorem Uu : bF Tryz.prog 61:=⟨_,Tryz.func61,by kernel_rfl,by kernel_rfl⟩
theorem Uv : bF Tryz.prog 62:=⟨_,Tryz.func62,by kernel_rfl,by kernel_rfl⟩
theorem Uw : bF Tryz.prog 63:=⟨_,Tryz.func63,by kernel_rfl,by kernel_rfl⟩
theorem Ux : bF Tryz.prog 64:=⟨_,Tryz.func64,by kernel_rfl,by kernel_rfl⟩
theorem Uy : bF Tryz.prog 65:=⟨_,Tryz.func65,by kernel_rfl,by kernel_rfl⟩
theorem Uz : bF Tryz.prog 66:=⟨_,Tryz.func66,by kernel_rfl,by kernel_rfl⟩
theorem U0 : bF Tryz.prog 67:=⟨_,Tryz.func67,by kernel_rfl,by kernel_rfl⟩
theorem U1 : bF Tryz.prog 68:=⟨_,Tryz.func68,by kernel_rfl,by kernel_rfl⟩
theorem U2 : bF Tryz.prog 69:=⟨_,Tryz.func69,by kernel_rfl,by kernel_rfl⟩
theorem U3 : bF Tryz.prog 70:=⟨_,Tryz.func70,by kernel_rfl,by kernel_rfl⟩
theorem U4 : bF Tryz.prog 71:=⟨_,Tryz.func71,by kernel_rfl,by kernel_rfl⟩
theorem U5 : bF Tryz.prog 72:=⟨_,Tryz.func72,by kernel_rfl,by kernel_rfl⟩
theorem P9 : bF Tryz.prog 73:=⟨_,Tryz.func73,by kernel_rfl,by kernel_rfl⟩
theorem U6 : bF Tryz.prog 90:=⟨_,Tryz.func90,by kernel_rfl,by kernel_rfl⟩
theorem U7 : bF Tryz.prog 91:=⟨_,Tryz.func91,by kernel_rfl,by kernel_rfl⟩
theorem U8 : bF Tryz.prog 92:=⟨_,Tryz.func92,by kernel_rfl,by kernel_rfl⟩
theorem U9 : bF Tryz.prog 93:=⟨_,Tryz.func93,by kernel_rfl,by kernel_rfl⟩
theorem Va : bF Tryz.prog 94:=⟨_,Tryz.func94,by kernel_rfl,by kernel_rfl⟩
theorem Vb : bF Tryz.prog 95:=⟨_,Tryz.func95,by kernel_rfl,by kernel_rfl⟩
theorem Vc : bF Tryz.prog 96:=⟨_,Tryz.func96,by kernel_rfl,by kernel_rfl⟩
theorem Vd : bF Tryz.prog 97:=⟨_,Tryz.func97,by kernel_rfl,by kernel_rfl⟩
theorem Ve : bF Tryz.prog 98:=⟨_,Tryz.func98,by kernel_rfl,by kernel_rfl⟩
theorem Vf : bF Tryz.prog 99:=⟨_,Tryz.func99,by kernel_rfl,by kernel_rfl⟩
theorem Ep : bF Tryz.prog 100:=⟨_,Tryz.func100,by kernel_rfl,by kernel_rfl⟩
theorem Qz : bF Tryz.prog 101:=⟨_,Tryz.func101,by kernel_rfl,by kernel_rfl⟩
theorem Q0 : bF Tryz.prog 102:=⟨_,Tryz.func102,by kernel_rfl,by kernel_rfl⟩
theorem Q1 : bF Tryz.prog 103:=⟨_,Tryz.func103,by kernel_rfl,by kernel_rfl⟩
theorem Q2 : bF Tryz.prog 104:=⟨_,Tryz.func104,by kernel_rfl,by kernel_rfl⟩
theorem Q3 : bF Tryz.prog 105:=⟨_,Tryz.func105,by kernel_rfl,by kernel_rfl⟩
theorem Q4 : bF Tryz.prog 106:=⟨_,Tryz.func106,by kernel_rfl,by kernel_rfl⟩
theorem Q5 : bF Tryz.prog 107:=⟨_,Tryz.func107,by kernel_rfl,by kernel_rfl⟩
theorem Q6 : bF Tryz.prog 108:=⟨_,Tryz.func108,by kernel_rfl,by kernel_rfl⟩
theorem Q7 : bF Tryz.prog 121:=⟨_,Tryz.func121,by kernel_rfl,by kernel_rfl⟩
theorem Q8 : bF Tryz.prog 122:=⟨_,Tryz.func122,by kernel_rfl,by kernel_rfl⟩
theorem Q9 : bF Tryz.prog 123:=⟨_,Tryz.func123,by kernel_rfl,by kernel_rfl⟩
theorem Ra : bF Tryz.prog 125:=⟨_,Tryz.func125,by kernel_rfl,by kernel_rfl⟩
theorem Rb : bF Tryz.prog 129:=⟨_,Tryz.func129,by kernel_rfl,by kernel_rfl⟩
theorem Rc : bF Tryz.prog 130:=⟨_,Tryz.func130,by kernel_rfl,by kernel_rfl⟩
theorem Rd : bF Tryz.prog 131:=⟨_,Tryz.func131,by kernel_rfl,by kernel_rfl⟩
theorem Re : bF Tryz.prog 132:=⟨_,Tryz.func132,by kernel_rfl,by kernel_rfl⟩
theorem Rf : bF Tryz.prog 133:=⟨_,Tryz.func133,by kernel_rfl,by kernel_rfl⟩
theorem Rh : bF Tryz.prog 134:=⟨_,Tryz.func134,by kernel_rfl,by kernel_rfl⟩
theorem Ri : bF Tryz.prog 135:=⟨_,Tryz.func135,by kernel_rfl,by kernel_rfl⟩
theorem Rj : bF Tryz.prog 136:=⟨_,Tryz.func136,by kernel_rfl,by kernel_rfl⟩
theorem Jh : bF Tryz.prog 137:=⟨_,Tryz.func137,by kernel_rfl,by kernel_rfl⟩
theorem Eq : bF Tryz.prog 138:=⟨_,Tryz.func138,by kernel_rfl,by kernel_rfl⟩
theorem Rk : bF Tryz.prog 148:=⟨_,Tryz.func148,by kernel_rfl,by kernel_rfl⟩
theorem Rl : bF Tryz.prog 149:=⟨_,Tryz.func149,by kernel_rfl,by kernel_rfl⟩
theorem Ji : bF Tryz.prog 150:=⟨_,Tryz.func150,by kernel_rfl,by kernel_rfl⟩
theorem Jj : bF Tryz.prog 151:=⟨_,Tryz.func151,by kernel_rfl,by kernel_rfl⟩
theorem Jk : bF Tryz.prog 152:=⟨_,Tryz.func152,by kernel_rfl,by kernel_rfl⟩
theorem Rm : bF Tryz.prog 169:=⟨_,Tryz.func169,by kernel_rfl,by kernel_rfl⟩
theorem Rn : bF Tryz.prog 170:=⟨_,Tryz.func170,by kernel_rfl,by kernel_rfl⟩
theorem Ro : bF Tryz.prog 171:=⟨_,Tryz.func171,by kernel_rfl,by kernel_rfl⟩
theorem Rp : bF Tryz.prog 172:=⟨_,Tryz.func172,by kernel_rfl,by kernel_rfl⟩
theorem Rq : bF Tryz.prog 173:=⟨_,Tryz.func173,by kernel_rfl,by kernel_rfl⟩
theorem Rr : bF Tryz.prog 183:=⟨_,Tryz.func183,by kernel_rfl,by kernel_rfl⟩
theorem Rs : bF Tryz.prog 202:=⟨_,Tryz.func202,by kernel_rfl,by kernel_rfl⟩
theorem aO : dM Tryz.prog 3 1:=dB (by kernel_rfl)
theorem aZ : fM Tryz.prog 3 false:=dR _ Tryz.underlying3 rfl
theorem iW : (Tryz.prog.info? 3).map (fun i=>(i.size,i.bytes,i.zero)) = some (1,8,some (.int .i64 0)):=by kernel_rfl
theorem gA : dM Tryz.prog 4 1:=dB (by kernel_rfl)
theorem j4 : fM Tryz.prog 4 false:=dR _ Tryz.underlying4 rfl
theorem Rt : i7 Tryz.prog 4 (.bool false):=fQ (by kernel_rfl)
theorem Nh : dM Tryz.prog 5 1:=dB (by kernel_rfl)
theorem Vg : fM Tryz.prog 5 false:=dR _ Tryz.underlying5 rfl
theorem yH : (Tryz.prog.info? 5).map (fun i=>(i.size,i.bytes,i.zero)) = some (1,1,some (.int .u8 0)):=by kernel_rfl
theorem rR : dM Tryz.prog 9 1:=dB (by kernel_rfl)
theorem yI : fM Tryz.prog 9 false:=dR _ Tryz.underlying9 rfl
theorem bK : dM Tryz.prog 22 1:=dB (by kernel_rfl)
theorem d4 : fM Tryz.prog 22 false:=dR _ Tryz.underlying22 rfl
theorem eJ : dM Tryz.prog 23 3:=dB (by kernel_rfl)
theorem o4 : fM Tryz.prog 23 true:=dR _ Tryz.underlying23 rfl
theorem u3 : i7 Tryz.prog 23 (.agg #[.int .i64 0,.int .i64 0,.int .i64 0]):=fQ (by kernel_rfl)
theorem eE : dM Tryz.prog 25 7:=dB (by kernel_rfl)
theorem iN : fM Tryz.prog 25 true:=dR _ Tryz.underlying25 rfl
theorem u4 : i7 Tryz.prog 25 (.agg #[.int .i64 0,.int .i64 0,.int .i64 0,.int .i64 0,.int .i64 0,.int .i64 0,.int .i64 0]):=fQ (by kernel_rfl)
theorem rS : dM Tryz.prog 26 1:=dB (by kernel_rfl)
theorem Ba : fM Tryz.prog 26 false:=dR _ Tryz.underlying26 rfl
theorem rT : dM Tryz.prog 28 13:=dB (by kernel_rfl)
theorem Bb : fM Tryz.prog 28 true:=dR _ Tryz.underlying28 rfl
theorem aH : dM Tryz.prog 35 2:=dB (by kernel_rfl)
theorem aY : fM Tryz.prog 35 true:=dR _ Tryz.underlying35 rfl
theorem cV : i7 Tryz.prog 35 (.agg #[.bool false,.string ⟨#[]⟩]):=fQ (by kernel_rfl)
theorem aS : dM Tryz.prog 37 4:=dB (by kernel_rfl)
theorem bG : fM Tryz.prog 37 true:=dR _ Tryz.underlying37 rfl
theorem fJ : i7 Tryz.prog 37 (.agg #[.bool false,.string ⟨#[]⟩,.bool false,.string ⟨#[]⟩]):=fQ (by kernel_rfl)
theorem eR : dM Tryz.prog 39 11:=dB (by kernel_rfl)
theorem kX : fM Tryz.prog 39 true:=dR _ Tryz.underlying39 rfl
theorem mO : i7 Tryz.prog 39 (.agg #[.int .i64 0,.bool false,.string ⟨#[]⟩,.bool false,.string ⟨#[]⟩,.bool false,.string ⟨#[]⟩,.bool false,.string ⟨#[]⟩,.bool false,.slice none 0 0]):=fQ (by kernel_rfl)
theorem l4 : dM Tryz.prog 43 5:=dB (by kernel_rfl)
theorem Jl : fM Tryz.prog 43 true:=dR _ Tryz.underlying43 rfl
theorem rU : i7 Tryz.prog 43 (.agg #[.bool false,.string ⟨#[]⟩,.bool false,.string ⟨#[]⟩,.int .i64 0]):=fQ (by kernel_rfl)
theorem jV : dM Tryz.prog 48 1:=dB (by kernel_rfl)
theorem Er : fM Tryz.prog 48 false:=dR _ Tryz.underlying48 rfl
theorem Jm : (Tryz.prog.info? 48).map (fun i=>(i.size,i.bytes,i.zero)) = some (1,24,some (.slice none 0 0)):=by kernel_rfl
theorem aN : dM Tryz.prog 56 3:=dB (by kernel_rfl)
theorem bC : fM Tryz.prog 56 true:=dR _ Tryz.underlying56 rfl
theorem e9 : i7 Tryz.prog 56 (.agg #[.int .i64 0,.int .i64 0,.int .i64 0]):=fQ (by kernel_rfl)
theorem Ru : (Tryz.prog.info? 56).map (fun i=>(i.size,i.bytes,i.zero)) = some (3,24,some (.agg #[.int .i64 0,.int .i64 0,.int .i64 0])):=by kernel_rfl
theorem eS : dM Tryz.prog 58 9:=dB (by kernel_rfl)
theorem l5 : fM Tryz.prog 58 true:=dR _ Tryz.underlying58 rfl
theorem u5 : i7 Tryz.prog 58 (.agg #[.int .i64 0,.int .i64 0,.int .i64 0,.int .i64 0,.int .i64 0,.int .i64 0,.int .i64 0,.int .i64 0,.int .i64 0]):=fQ (by kernel_rfl)
theorem oA : (Tryz.prog.info? 58).map (fun i=>(i.size,i.bytes,i.zero)) = some (9,72,some (.agg #[.int .i64 0,.int .i64 0,.int .i64 0,.int .i64 0,.int .i64 0,.int .i64 0,.int .i64 0,.int .i64 0,.int .i64 0])):=by kernel_rfl
theorem vV : dM Tryz.prog 67 1:=dB (by kernel_rfl)
theorem Jn : dM Tryz.prog 69 1:=dB (by kernel_rfl)
theorem u6 : i7 Tryz.prog 69 (.agg #[.int .i64 0]):=fQ (by kernel_rfl)
theorem Jo : dM Tryz.prog 83 1:=dB (by kernel_rfl)
theorem Bc : i7 Tryz.prog 83 (.agg #[.int .i64 0]):=fQ (by kernel_rfl)
theorem Jp : dM Tryz.prog 88 7:=dB (by kernel_rfl)
theorem F8 : i7 Tryz.prog 88 (.agg #[.int .i64 0,.int .i64 0,.int .i64 0,.int .i64 0,.int .i64 0,.int .i64 0,.int .i64 0]):=fQ (by kernel_rfl)
theorem bA : dM Tryz.prog 101 1:=dB (by kernel_rfl)
theorem eD : fM Tryz.prog 101 false:=dR _ Tryz.underlying101 rfl
theorem kH : (Tryz.prog.info? 101).map (fun i=>(i.size,i.bytes,i.zero)) = some (1,8,some (.int .u64 0)):=by kernel_rfl
theorem yJ : dM Tryz.prog 107 6:=dB (by kernel_rfl)
theorem Ni : fM Tryz.prog 107 true:=dR _ Tryz.underlying107 rfl
theorem Jq : i7 Tryz.prog 107 (.agg #[.bool false,.string ⟨#[]⟩,.bool false,.string ⟨#[]⟩,.bool false,.string ⟨#[]⟩]):=fQ (by kernel_rfl)
theorem bE : dM Tryz.prog 108 6:=dB (by kernel_rfl)
theorem dP : fM Tryz.prog 108 true:=dR _ Tryz.underlying108 rfl
theorem gL : i7 Tryz.prog 108 (.agg #[.bool false,.string ⟨#[]⟩,.bool false,.string ⟨#[]⟩,.bool false,.string ⟨#[]⟩]):=fQ (by kernel_rfl)
theorem G5 : dM Tryz.prog 110 18:=dB (by kernel_rfl)
theorem Nj : fM Tryz.prog 110 true:=dR _ Tryz.underlying110 rfl
theorem Jr : i7 Tryz.prog 110 (.agg #[.bool false,.string ⟨#[]⟩,.bool false,.string ⟨#[]⟩,.bool false,.string ⟨#[]⟩,.bool false,.string ⟨#[]⟩,.bool false,.string ⟨#[]⟩,.bool false,.string ⟨#[]⟩,.bool false,.string ⟨#[]⟩,.bool false,.string ⟨#[]⟩,.bool false,.string ⟨#[]⟩]):=fQ (by kernel_rfl)
theorem G6 : dM Tryz.prog 134 18:=dB (by kernel_rfl)
theorem C4 : i7 Tryz.prog 134 (.agg #[.int .i64 0,.int .i64 0,.int .i64 0,.int .i64 0,.int .i64 0,.int .i64 0,.int .i64 0,.int .i64 0,.int .i64 0,.int .i64 0,.int .i64 0,.int .i64 0,.int .i64 0,.int .i64 0,.int .i64 0,.int .i64 0,.int .i64 0,.int .i64 0]):=fQ (by kernel_rfl)
theorem G7 : dM Tryz.prog 139 1:=dB (by kernel_rfl)
theorem Nk : fM Tryz.prog 139 false:=dR _ Tryz.underlying139 rfl
theorem Js : i7 Tryz.prog 139 (.slice none 0 0):=fQ (by kernel_rfl)
theorem lT : dM Tryz.prog 152 6:=dB (by kernel_rfl)
theorem u7 : fM Tryz.prog 152 true:=dR _ Tryz.underlying152 rfl
theorem rV : i7 Tryz.prog 152 (.agg #[.bool false,.string ⟨#[]⟩,.bool false,.string ⟨#[]⟩,.bool false,.string ⟨#[]⟩]):=fQ (by kernel_rfl)
theorem Jt : i7 Tryz.prog 163 (.agg #[.int .i64 0,.int .i64 0,.int .i64 0,.int .i64 0,.int .i64 0,.int .i64 0,.int .i64 0,.int .i64 0,.int .i64 0,.int .i64 0,.int .i64 0,.int .i64 0,.int .i64 0,.int .i64 0,.int .i64 0,.int .i64 0,.int .i64 0,.int .i64 0,.int .i64 0,.int .i64 0,.int .i64 0,.int .i64 0,.int .i64 0,.int .i64 0]):=fQ (by kernel_rfl)
theorem nF : dM Tryz.prog 176 3:=dB (by kernel_rfl)
theorem Be : fM Tryz.prog 176 true:=dR _ Tryz.underlying176 rfl
theorem rW : i7 Tryz.prog 176 (.agg #[.int .i64 0,.int .i64 0,.int .i64 0]):=fQ (by kernel_rfl)
theorem pT : dM Tryz.prog 180 1:=dB (by kernel_rfl)
theorem Bf : fM Tryz.prog 180 false:=dR _ Tryz.underlying180 rfl
theorem pU : dM Tryz.prog 181 3:=dB (by kernel_rfl)
theorem F9 : fM Tryz.prog 181 true:=dR _ Tryz.underlying181 rfl
theorem vW : i7 Tryz.prog 181 (.agg #[.nilFunc,.nilFunc,.nilFunc]):=fQ (by kernel_rfl)
theorem Vh  (w : World) : (Instr.build 23 #[]).run Tryz.prog w = .ok (.agg #[(.int .i64 0),(.int .i64 0),(.int .i64 0)]) w:=fG Tryz.underlying23 u3 aO (by simp [Instr.fill,dT]) w
theorem mP {l : List Value} {ty : TypeId}  : fF Tryz.prog l (.build 23 #[]) ty (.agg #[(.int .i64 0),(.int .i64 0),(.int .i64 0)]):=fI (vs:=#[]) (by simp) fun w=>Vh  w
theorem Es {v0 v1 v2 : Value} {c0_0 : Value} (h0 : v0.cells = #[c0_0]) {c1_0 : Value} (h1 : v1.cells = #[c1_0]) {c2_0 : Value} (h2 : v2.cells = #[c2_0])  (w : World) : (Instr.build 23 #[(0,v0),(1,v1),(2,v2)]).run Tryz.prog w = .ok (.agg #[c0_0,c1_0,c2_0]) w:=fG Tryz.underlying23 u3 aO (by simp [Instr.fill,dT,h0,h1,h2]) w
theorem dO {l : List Value} {ty : TypeId} {x0 x1 x2 : Operand} {c0_0 : Value} (h0 : (ev l x0).cells = #[c0_0]) {c1_0 : Value} (h1 : (ev l x1).cells = #[c1_0]) {c2_0 : Value} (h2 : (ev l x2).cells = #[c2_0]) : fF Tryz.prog l (.build 23 #[(0,x0),(1,x1),(2,x2)]) ty (.agg #[c0_0,c1_0,c2_0]):=fI (vs:=#[(0,ev l x0),(1,ev l x1),(2,ev l x2)]) (by simp) fun w=>Es h0 h1 h2 w
theorem G8 (w : World) : ((#[{ name := "X", type:=3,offset:=0,embedded:=false,tag := "", pkgPath := "", byteOffset:=0 },{ name := "Y", type:=3,offset:=1,embedded:=false,tag := "", pkgPath := "", byteOffset:=8 },{ name := "Z", type:=3,offset:=2,embedded:=false,tag := "", pkgPath := "", byteOffset:=16 },{ name := "W", type:=3,offset:=3,embedded:=false,tag := "", pkgPath := "", byteOffset:=24 },{ name := "Dir", type:=23,offset:=4,embedded:=false,tag := "", pkgPath := "", byteOffset:=32 }] : Array Field).mapM fun f=>do pure (f.offset,← sizeOf f.type) : Sem (Array (Nat × Nat))).run Tryz.prog w = .ok #[(0,1),(1,1),(2,1),(3,1),(4,3)] w:=by
 simp [Array.mapM_eq_mapM_toList,d6 eJ,d6 aO]
theorem Bg {v0 v1 v3 v4 : Value} {c0_0 : Value} (h0 : v0.cells = #[c0_0]) {c1_0 : Value} (h1 : v1.cells = #[c1_0]) {c3_0 : Value} (h3 : v3.cells = #[c3_0]) {c4_0 c4_1 c4_2 : Value} (h4 : v4.cells = #[c4_0,c4_1,c4_2])  (w : World) : (Instr.build 25 #[(0,v0),(1,v1),(3,v3),(4,v4)]).run Tryz.prog w = .ok (.agg #[c0_0,c1_0,(.int .i64 0),c3_0,c4_0,c4_1,c4_2]) w:=cO Tryz.underlying25 u4 G8 (by simp [Instr.fill,dT,h0,h1,h3,h4]) w
theorem qS {l : List Value} {ty : TypeId} {x0 x1 x3 x4 : Operand} {c0_0 : Value} (h0 : (ev l x0).cells = #[c0_0]) {c1_0 : Value} (h1 : (ev l x1).cells = #[c1_0]) {c3_0 : Value} (h3 : (ev l x3).cells = #[c3_0]) {c4_0 c4_1 c4_2 : Value} (h4 : (ev l x4).cells = #[c4_0,c4_1,c4_2]) : fF Tryz.prog l (.build 25 #[(0,x0),(1,x1),(3,x3),(4,x4)]) ty (.agg #[c0_0,c1_0,(.int .i64 0),c3_0,c4_0,c4_1,c4_2]):=fI (vs:=#[(0,ev l x0),(1,ev l x1),(3,ev l x3),(4,ev l x4)]) (by simp) fun w=>Bg h0 h1 h3 h4 w
theorem yK (w : World) : ((#[{ name := "Neg", type:=4,offset:=0,embedded:=false,tag := "", pkgPath := "", byteOffset:=0 },{ name := "Mag", type:=9,offset:=1,embedded:=false,tag := "", pkgPath := "", byteOffset:=8 }] : Array Field).mapM fun f=>do pure (f.offset,← sizeOf f.type) : Sem (Array (Nat × Nat))).run Tryz.prog w = .ok #[(0,1),(1,1)] w:=by
 simp [Array.mapM_eq_mapM_toList,d6 gA,d6 rR]
theorem Vi  (w : World) : (Instr.build 35 #[]).run Tryz.prog w = .ok (.agg #[(.bool false),(.string ⟨#[]⟩)]) w:=cO Tryz.underlying35 cV yK (by simp [Instr.fill,dT]) w
theorem uC {l : List Value} {ty : TypeId}  : fF Tryz.prog l (.build 35 #[]) ty (.agg #[(.bool false),(.string ⟨#[]⟩)]):=fI (vs:=#[]) (by simp) fun w=>Vi  w
theorem Ju {v0 v1 : Value} {c0_0 : Value} (h0 : v0.cells = #[c0_0]) {c1_0 : Value} (h1 : v1.cells = #[c1_0])  (w : World) : (Instr.build 35 #[(0,v0),(1,v1)]).run Tryz.prog w = .ok (.agg #[c0_0,c1_0]) w:=cO Tryz.underlying35 cV yK (by simp [Instr.fill,dT,h0,h1]) w
theorem l6 {l : List Value} {ty : TypeId} {x0 x1 : Operand} {c0_0 : Value} (h0 : (ev l x0).cells = #[c0_0]) {c1_0 : Value} (h1 : (ev l x1).cells = #[c1_0]) : fF Tryz.prog l (.build 35 #[(0,x0),(1,x1)]) ty (.agg #[c0_0,c1_0]):=fI (vs:=#[(0,ev l x0),(1,ev l x1)]) (by simp) fun w=>Ju h0 h1 w
theorem yL (w : World) : ((#[{ name := "N", type:=35,offset:=0,embedded:=false,tag := "", pkgPath := "", byteOffset:=0 },{ name := "D", type:=35,offset:=2,embedded:=false,tag := "", pkgPath := "", byteOffset:=24 }] : Array Field).mapM fun f=>do pure (f.offset,← sizeOf f.type) : Sem (Array (Nat × Nat))).run Tryz.prog w = .ok #[(0,2),(2,2)] w:=by
 simp [Array.mapM_eq_mapM_toList,d6 aH]
theorem Jv {v0 v1 : Value} {c0_0 c0_1 : Value} (h0 : v0.cells = #[c0_0,c0_1]) {c1_0 c1_1 : Value} (h1 : v1.cells = #[c1_0,c1_1])  (w : World) : (Instr.build 37 #[(0,v0),(1,v1)]).run Tryz.prog w = .ok (.agg #[c0_0,c0_1,c1_0,c1_1]) w:=cO Tryz.underlying37 fJ yL (by simp [Instr.fill,dT,h0,h1]) w
theorem o5 {l : List Value} {ty : TypeId} {x0 x1 : Operand} {c0_0 c0_1 : Value} (h0 : (ev l x0).cells = #[c0_0,c0_1]) {c1_0 c1_1 : Value} (h1 : (ev l x1).cells = #[c1_0,c1_1]) : fF Tryz.prog l (.build 37 #[(0,x0),(1,x1)]) ty (.agg #[c0_0,c0_1,c1_0,c1_1]):=fI (vs:=#[(0,ev l x0),(1,ev l x1)]) (by simp) fun w=>Jv h0 h1 w
theorem Rv {v1 : Value} {c1_0 c1_1 : Value} (h1 : v1.cells = #[c1_0,c1_1])  (w : World) : (Instr.build 37 #[(1,v1)]).run Tryz.prog w = .ok (.agg #[(.bool false),(.string ⟨#[]⟩),c1_0,c1_1]) w:=cO Tryz.underlying37 fJ yL (by simp [Instr.fill,dT,h1]) w
theorem Bh {l : List Value} {ty : TypeId} {x1 : Operand} {c1_0 c1_1 : Value} (h1 : (ev l x1).cells = #[c1_0,c1_1]) : fF Tryz.prog l (.build 37 #[(1,x1)]) ty (.agg #[(.bool false),(.string ⟨#[]⟩),c1_0,c1_1]):=fI (vs:=#[(1,ev l x1)]) (by simp) fun w=>Rv h1 w
theorem tJ (w : World) : ((#[{ name := "Kind", type:=3,offset:=0,embedded:=false,tag := "", pkgPath := "", byteOffset:=0 },{ name := "Lo", type:=37,offset:=1,embedded:=false,tag := "", pkgPath := "", byteOffset:=8 },{ name := "Hi", type:=37,offset:=5,embedded:=false,tag := "", pkgPath := "", byteOffset:=56 },{ name := "Sure", type:=4,offset:=9,embedded:=false,tag := "", pkgPath := "", byteOffset:=104 },{ name := "Open", type:=22,offset:=10,embedded:=false,tag := "", pkgPath := "", byteOffset:=112 }] : Array Field).mapM fun f=>do pure (f.offset,← sizeOf f.type) : Sem (Array (Nat × Nat))).run Tryz.prog w = .ok #[(0,1),(1,4),(5,4),(9,1),(10,1)] w:=by
 simp [Array.mapM_eq_mapM_toList,d6 bK,d6 aO,d6 aS,d6 gA]
theorem Et {v0 v1 v2 : Value} {c0_0 : Value} (h0 : v0.cells = #[c0_0]) {c1_0 c1_1 c1_2 c1_3 : Value} (h1 : v1.cells = #[c1_0,c1_1,c1_2,c1_3]) {c2_0 c2_1 c2_2 c2_3 : Value} (h2 : v2.cells = #[c2_0,c2_1,c2_2,c2_3])  (w : World) : (Instr.build 39 #[(0,v0),(1,v1),(2,v2)]).run Tryz.prog w = .ok (.agg #[c0_0,c1_0,c1_1,c1_2,c1_3,c2_0,c2_1,c2_2,c2_3,(.bool false),(.slice none 0 0)]) w:=cO Tryz.underlying39 mO tJ (by simp [Instr.fill,dT,h0,h1,h2]) w
theorem j7 {l : List Value} {ty : TypeId} {x0 x1 x2 : Operand} {c0_0 : Value} (h0 : (ev l x0).cells = #[c0_0]) {c1_0 c1_1 c1_2 c1_3 : Value} (h1 : (ev l x1).cells = #[c1_0,c1_1,c1_2,c1_3]) {c2_0 c2_1 c2_2 c2_3 : Value} (h2 : (ev l x2).cells = #[c2_0,c2_1,c2_2,c2_3]) : fF Tryz.prog l (.build 39 #[(0,x0),(1,x1),(2,x2)]) ty (.agg #[c0_0,c1_0,c1_1,c1_2,c1_3,c2_0,c2_1,c2_2,c2_3,(.bool false),(.slice none 0 0)]):=fI (vs:=#[(0,ev l x0),(1,ev l x1),(2,ev l x2)]) (by simp) fun w=>Et h0 h1 h2 w
theorem vX {v0 v1 v2 v3 v4 : Value} {c0_0 : Value} (h0 : v0.cells = #[c0_0]) {c1_0 c1_1 c1_2 c1_3 : Value} (h1 : v1.cells = #[c1_0,c1_1,c1_2,c1_3]) {c2_0 c2_1 c2_2 c2_3 : Value} (h2 : v2.cells = #[c2_0,c2_1,c2_2,c2_3]) {c3_0 : Value} (h3 : v3.cells = #[c3_0]) {c4_0 : Value} (h4 : v4.cells = #[c4_0])  (w : World) : (Instr.build 39 #[(0,v0),(1,v1),(2,v2),(3,v3),(4,v4)]).run Tryz.prog w = .ok (.agg #[c0_0,c1_0,c1_1,c1_2,c1_3,c2_0,c2_1,c2_2,c2_3,c3_0,c4_0]) w:=cO Tryz.underlying39 mO tJ (by simp [Instr.fill,dT,h0,h1,h2,h3,h4]) w
theorem kP {l : List Value} {ty : TypeId} {x0 x1 x2 x3 x4 : Operand} {c0_0 : Value} (h0 : (ev l x0).cells = #[c0_0]) {c1_0 c1_1 c1_2 c1_3 : Value} (h1 : (ev l x1).cells = #[c1_0,c1_1,c1_2,c1_3]) {c2_0 c2_1 c2_2 c2_3 : Value} (h2 : (ev l x2).cells = #[c2_0,c2_1,c2_2,c2_3]) {c3_0 : Value} (h3 : (ev l x3).cells = #[c3_0]) {c4_0 : Value} (h4 : (ev l x4).cells = #[c4_0]) : fF Tryz.prog l (.build 39 #[(0,x0),(1,x1),(2,x2),(3,x3),(4,x4)]) ty (.agg #[c0_0,c1_0,c1_1,c1_2,c1_3,c2_0,c2_1,c2_2,c2_3,c3_0,c4_0]):=fI (vs:=#[(0,ev l x0),(1,ev l x1),(2,ev l x2),(3,ev l x3),(4,ev l x4)]) (by simp) fun w=>vX h0 h1 h2 h3 h4 w
theorem Bi {v0 v1 v2 v4 : Value} {c0_0 : Value} (h0 : v0.cells = #[c0_0]) {c1_0 c1_1 c1_2 c1_3 : Value} (h1 : v1.cells = #[c1_0,c1_1,c1_2,c1_3]) {c2_0 c2_1 c2_2 c2_3 : Value} (h2 : v2.cells = #[c2_0,c2_1,c2_2,c2_3]) {c4_0 : Value} (h4 : v4.cells = #[c4_0])  (w : World) : (Instr.build 39 #[(0,v0),(1,v1),(2,v2),(4,v4)]).run Tryz.prog w = .ok (.agg #[c0_0,c1_0,c1_1,c1_2,c1_3,c2_0,c2_1,c2_2,c2_3,(.bool false),c4_0]) w:=cO Tryz.underlying39 mO tJ (by simp [Instr.fill,dT,h0,h1,h2,h4]) w
theorem qT {l : List Value} {ty : TypeId} {x0 x1 x2 x4 : Operand} {c0_0 : Value} (h0 : (ev l x0).cells = #[c0_0]) {c1_0 c1_1 c1_2 c1_3 : Value} (h1 : (ev l x1).cells = #[c1_0,c1_1,c1_2,c1_3]) {c2_0 c2_1 c2_2 c2_3 : Value} (h2 : (ev l x2).cells = #[c2_0,c2_1,c2_2,c2_3]) {c4_0 : Value} (h4 : (ev l x4).cells = #[c4_0]) : fF Tryz.prog l (.build 39 #[(0,x0),(1,x1),(2,x2),(4,x4)]) ty (.agg #[c0_0,c1_0,c1_1,c1_2,c1_3,c2_0,c2_1,c2_2,c2_3,(.bool false),c4_0]):=fI (vs:=#[(0,ev l x0),(1,ev l x1),(2,ev l x2),(4,ev l x4)]) (by simp) fun w=>Bi h0 h1 h2 h4 w
theorem yM (w : World) : ((#[{ name := "T", type:=37,offset:=0,embedded:=false,tag := "", pkgPath := "", byteOffset:=0 },{ name := "Tri", type:=3,offset:=4,embedded:=false,tag := "", pkgPath := "", byteOffset:=48 }] : Array Field).mapM fun f=>do pure (f.offset,← sizeOf f.type) : Sem (Array (Nat × Nat))).run Tryz.prog w = .ok #[(0,4),(4,1)] w:=by
 simp [Array.mapM_eq_mapM_toList,d6 aO,d6 aS]
theorem Rw {v0 : Value} {c0_0 c0_1 c0_2 c0_3 : Value} (h0 : v0.cells = #[c0_0,c0_1,c0_2,c0_3])  (w : World) : (Instr.build 43 #[(0,v0)]).run Tryz.prog w = .ok (.agg #[c0_0,c0_1,c0_2,c0_3,(.int .i64 0)]) w:=cO Tryz.underlying43 rU yM (by simp [Instr.fill,dT,h0]) w
theorem Bj {l : List Value} {ty : TypeId} {x0 : Operand} {c0_0 c0_1 c0_2 c0_3 : Value} (h0 : (ev l x0).cells = #[c0_0,c0_1,c0_2,c0_3]) : fF Tryz.prog l (.build 43 #[(0,x0)]) ty (.agg #[c0_0,c0_1,c0_2,c0_3,(.int .i64 0)]):=fI (vs:=#[(0,ev l x0)]) (by simp) fun w=>Rw h0 w
theorem Jw {v0 v1 : Value} {c0_0 c0_1 c0_2 c0_3 : Value} (h0 : v0.cells = #[c0_0,c0_1,c0_2,c0_3]) {c1_0 : Value} (h1 : v1.cells = #[c1_0])  (w : World) : (Instr.build 43 #[(0,v0),(1,v1)]).run Tryz.prog w = .ok (.agg #[c0_0,c0_1,c0_2,c0_3,c1_0]) w:=cO Tryz.underlying43 rU yM (by simp [Instr.fill,dT,h0,h1]) w
theorem o6 {l : List Value} {ty : TypeId} {x0 x1 : Operand} {c0_0 c0_1 c0_2 c0_3 : Value} (h0 : (ev l x0).cells = #[c0_0,c0_1,c0_2,c0_3]) {c1_0 : Value} (h1 : (ev l x1).cells = #[c1_0]) : fF Tryz.prog l (.build 43 #[(0,x0),(1,x1)]) ty (.agg #[c0_0,c0_1,c0_2,c0_3,c1_0]):=fI (vs:=#[(0,ev l x0),(1,ev l x1)]) (by simp) fun w=>Jw h0 h1 w
theorem G9 (w : World) : ((#[{ name := "X", type:=3,offset:=0,embedded:=false,tag := "", pkgPath := "", byteOffset:=0 },{ name := "Y", type:=3,offset:=1,embedded:=false,tag := "", pkgPath := "", byteOffset:=8 },{ name := "Z", type:=3,offset:=2,embedded:=false,tag := "", pkgPath := "", byteOffset:=16 }] : Array Field).mapM fun f=>do pure (f.offset,← sizeOf f.type) : Sem (Array (Nat × Nat))).run Tryz.prog w = .ok #[(0,1),(1,1),(2,1)] w:=by
 simp [Array.mapM_eq_mapM_toList,d6 aO]
theorem Eu {v0 v1 v2 : Value} {c0_0 : Value} (h0 : v0.cells = #[c0_0]) {c1_0 : Value} (h1 : v1.cells = #[c1_0]) {c2_0 : Value} (h2 : v2.cells = #[c2_0])  (w : World) : (Instr.build 56 #[(0,v0),(1,v1),(2,v2)]).run Tryz.prog w = .ok (.agg #[c0_0,c1_0,c2_0]) w:=cO Tryz.underlying56 e9 G9 (by simp [Instr.fill,dT,h0,h1,h2]) w
theorem bL {l : List Value} {ty : TypeId} {x0 x1 x2 : Operand} {c0_0 : Value} (h0 : (ev l x0).cells = #[c0_0]) {c1_0 : Value} (h1 : (ev l x1).cells = #[c1_0]) {c2_0 : Value} (h2 : (ev l x2).cells = #[c2_0]) : fF Tryz.prog l (.build 56 #[(0,x0),(1,x1),(2,x2)]) ty (.agg #[c0_0,c1_0,c2_0]):=fI (vs:=#[(0,ev l x0),(1,ev l x1),(2,ev l x2)]) (by simp) fun w=>Eu h0 h1 h2 w
theorem Ev {v0 v1 v2 : Value} {c0_0 c0_1 c0_2 : Value} (h0 : v0.cells = #[c0_0,c0_1,c0_2]) {c1_0 c1_1 c1_2 : Value} (h1 : v1.cells = #[c1_0,c1_1,c1_2]) {c2_0 c2_1 c2_2 : Value} (h2 : v2.cells = #[c2_0,c2_1,c2_2])  (w : World) : (Instr.build 58 #[(0,v0),(1,v1),(2,v2)]).run Tryz.prog w = .ok (.agg #[c0_0,c0_1,c0_2,c1_0,c1_1,c1_2,c2_0,c2_1,c2_2]) w:=fG Tryz.underlying58 u5 aN (by simp [Instr.fill,dT,h0,h1,h2]) w
theorem j8 {l : List Value} {ty : TypeId} {x0 x1 x2 : Operand} {c0_0 c0_1 c0_2 : Value} (h0 : (ev l x0).cells = #[c0_0,c0_1,c0_2]) {c1_0 c1_1 c1_2 : Value} (h1 : (ev l x1).cells = #[c1_0,c1_1,c1_2]) {c2_0 c2_1 c2_2 : Value} (h2 : (ev l x2).cells = #[c2_0,c2_1,c2_2]) : fF Tryz.prog l (.build 58 #[(0,x0),(1,x1),(2,x2)]) ty (.agg #[c0_0,c0_1,c0_2,c1_0,c1_1,c1_2,c2_0,c2_1,c2_2]):=fI (vs:=#[(0,ev l x0),(1,ev l x1),(2,ev l x2)]) (by simp) fun w=>Ev h0 h1 h2 w
theorem Ha (w : World) : ((#[{ name := "base", type:=67,offset:=0,embedded:=true,tag := "", pkgPath := "lithophane/trace", byteOffset:=0 }] : Array Field).mapM fun f=>do pure (f.offset,← sizeOf f.type) : Sem (Array (Nat × Nat))).run Tryz.prog w = .ok #[(0,1)] w:=by
 simp [Array.mapM_eq_mapM_toList,d6 vV]
theorem Rx {v0 : Value} {c0_0 : Value} (h0 : v0.cells = #[c0_0])  (w : World) : (Instr.build 69 #[(0,v0)]).run Tryz.prog w = .ok (.agg #[c0_0]) w:=cO Tryz.underlying69 u6 Ha (by simp [Instr.fill,dT,h0]) w
theorem Bk {l : List Value} {ty : TypeId} {x0 : Operand} {c0_0 : Value} (h0 : (ev l x0).cells = #[c0_0]) : fF Tryz.prog l (.build 69 #[(0,x0)]) ty (.agg #[c0_0]):=fI (vs:=#[(0,ev l x0)]) (by simp) fun w=>Rx h0 w
theorem Hb (w : World) : ((#[{ name := "base", type:=67,offset:=0,embedded:=true,tag := "", pkgPath := "lithophane/trace", byteOffset:=0 }] : Array Field).mapM fun f=>do pure (f.offset,← sizeOf f.type) : Sem (Array (Nat × Nat))).run Tryz.prog w = .ok #[(0,1)] w:=by
 simp [Array.mapM_eq_mapM_toList,d6 vV]
theorem Ry {v0 : Value} {c0_0 : Value} (h0 : v0.cells = #[c0_0])  (w : World) : (Instr.build 83 #[(0,v0)]).run Tryz.prog w = .ok (.agg #[c0_0]) w:=cO Tryz.underlying83 Bc Hb (by simp [Instr.fill,dT,h0]) w
theorem oB {l : List Value} {ty : TypeId} {x0 : Operand} {c0_0 : Value} (h0 : (ev l x0).cells = #[c0_0]) : fF Tryz.prog l (.build 83 #[(0,x0)]) ty (.agg #[c0_0]):=fI (vs:=#[(0,ev l x0)]) (by simp) fun w=>Ry h0 w
theorem He (w : World) : ((#[{ name := "base", type:=67,offset:=0,embedded:=true,tag := "", pkgPath := "lithophane/trace", byteOffset:=0 },{ name := "lo", type:=56,offset:=1,embedded:=false,tag := "", pkgPath := "lithophane/trace", byteOffset:=8 },{ name := "hi", type:=56,offset:=4,embedded:=false,tag := "", pkgPath := "lithophane/trace", byteOffset:=32 }] : Array Field).mapM fun f=>do pure (f.offset,← sizeOf f.type) : Sem (Array (Nat × Nat))).run Tryz.prog w = .ok #[(0,1),(1,3),(4,3)] w:=by
 simp [Array.mapM_eq_mapM_toList,d6 aN,d6 vV]
theorem Ew {v0 v1 v2 : Value} {c0_0 : Value} (h0 : v0.cells = #[c0_0]) {c1_0 c1_1 c1_2 : Value} (h1 : v1.cells = #[c1_0,c1_1,c1_2]) {c2_0 c2_1 c2_2 : Value} (h2 : v2.cells = #[c2_0,c2_1,c2_2])  (w : World) : (Instr.build 88 #[(0,v0),(1,v1),(2,v2)]).run Tryz.prog w = .ok (.agg #[c0_0,c1_0,c1_1,c1_2,c2_0,c2_1,c2_2]) w:=cO Tryz.underlying88 F8 He (by simp [Instr.fill,dT,h0,h1,h2]) w
theorem tK {l : List Value} {ty : TypeId} {x0 x1 x2 : Operand} {c0_0 : Value} (h0 : (ev l x0).cells = #[c0_0]) {c1_0 c1_1 c1_2 : Value} (h1 : (ev l x1).cells = #[c1_0,c1_1,c1_2]) {c2_0 c2_1 c2_2 : Value} (h2 : (ev l x2).cells = #[c2_0,c2_1,c2_2]) : fF Tryz.prog l (.build 88 #[(0,x0),(1,x1),(2,x2)]) ty (.agg #[c0_0,c1_0,c1_1,c1_2,c2_0,c2_1,c2_2]):=fI (vs:=#[(0,ev l x0),(1,ev l x1),(2,ev l x2)]) (by simp) fun w=>Ew h0 h1 h2 w
theorem Rz  (w : World) : (Instr.build 108 #[]).run Tryz.prog w = .ok (.agg #[(.bool false),(.string ⟨#[]⟩),(.bool false),(.string ⟨#[]⟩),(.bool false),(.string ⟨#[]⟩)]) w:=fG Tryz.underlying108 gL aH (by simp [Instr.fill,dT]) w
theorem Bm {l : List Value} {ty : TypeId}  : fF Tryz.prog l (.build 108 #[]) ty (.agg #[(.bool false),(.string ⟨#[]⟩),(.bool false),(.string ⟨#[]⟩),(.bool false),(.string ⟨#[]⟩)]):=fI (vs:=#[]) (by simp) fun w=>Rz  w
theorem C5 {v0 v1 v2 : Value} {c0_0 c0_1 : Value} (h0 : v0.cells = #[c0_0,c0_1]) {c1_0 c1_1 : Value} (h1 : v1.cells = #[c1_0,c1_1]) {c2_0 c2_1 : Value} (h2 : v2.cells = #[c2_0,c2_1])  (w : World) : (Instr.build 108 #[(0,v0),(1,v1),(2,v2)]).run Tryz.prog w = .ok (.agg #[c0_0,c0_1,c1_0,c1_1,c2_0,c2_1]) w:=fG Tryz.underlying108 gL aH (by simp [Instr.fill,dT,h0,h1,h2]) w
theorem rX {l : List Value} {ty : TypeId} {x0 x1 x2 : Operand} {c0_0 c0_1 : Value} (h0 : (ev l x0).cells = #[c0_0,c0_1]) {c1_0 c1_1 : Value} (h1 : (ev l x1).cells = #[c1_0,c1_1]) {c2_0 c2_1 : Value} (h2 : (ev l x2).cells = #[c2_0,c2_1]) : fF Tryz.prog l (.build 108 #[(0,x0),(1,x1),(2,x2)]) ty (.agg #[c0_0,c0_1,c1_0,c1_1,c2_0,c2_1]):=fI (vs:=#[(0,ev l x0),(1,ev l x1),(2,ev l x2)]) (by simp) fun w=>C5 h0 h1 h2 w
theorem rY {v0 v1 v2 v3 v4 v5 : Value} {c0_0 c0_1 c0_2 : Value} (h0 : v0.cells = #[c0_0,c0_1,c0_2]) {c1_0 c1_1 c1_2 : Value} (h1 : v1.cells = #[c1_0,c1_1,c1_2]) {c2_0 c2_1 c2_2 : Value} (h2 : v2.cells = #[c2_0,c2_1,c2_2]) {c3_0 c3_1 c3_2 : Value} (h3 : v3.cells = #[c3_0,c3_1,c3_2]) {c4_0 c4_1 c4_2 : Value} (h4 : v4.cells = #[c4_0,c4_1,c4_2]) {c5_0 c5_1 c5_2 : Value} (h5 : v5.cells = #[c5_0,c5_1,c5_2])  (w : World) : (Instr.build 134 #[(0,v0),(1,v1),(2,v2),(3,v3),(4,v4),(5,v5)]).run Tryz.prog w = .ok (.agg #[c0_0,c0_1,c0_2,c1_0,c1_1,c1_2,c2_0,c2_1,c2_2,c3_0,c3_1,c3_2,c4_0,c4_1,c4_2,c5_0,c5_1,c5_2]) w:=fG Tryz.underlying134 C4 eJ (by simp [Instr.fill,dT,h0,h1,h2,h3,h4,h5]) w
theorem nG {l : List Value} {ty : TypeId} {x0 x1 x2 x3 x4 x5 : Operand} {c0_0 c0_1 c0_2 : Value} (h0 : (ev l x0).cells = #[c0_0,c0_1,c0_2]) {c1_0 c1_1 c1_2 : Value} (h1 : (ev l x1).cells = #[c1_0,c1_1,c1_2]) {c2_0 c2_1 c2_2 : Value} (h2 : (ev l x2).cells = #[c2_0,c2_1,c2_2]) {c3_0 c3_1 c3_2 : Value} (h3 : (ev l x3).cells = #[c3_0,c3_1,c3_2]) {c4_0 c4_1 c4_2 : Value} (h4 : (ev l x4).cells = #[c4_0,c4_1,c4_2]) {c5_0 c5_1 c5_2 : Value} (h5 : (ev l x5).cells = #[c5_0,c5_1,c5_2]) : fF Tryz.prog l (.build 134 #[(0,x0),(1,x1),(2,x2),(3,x3),(4,x4),(5,x5)]) ty (.agg #[c0_0,c0_1,c0_2,c1_0,c1_1,c1_2,c2_0,c2_1,c2_2,c3_0,c3_1,c3_2,c4_0,c4_1,c4_2,c5_0,c5_1,c5_2]):=fI (vs:=#[(0,ev l x0),(1,ev l x1),(2,ev l x2),(3,ev l x3),(4,ev l x4),(5,ev l x5)]) (by simp) fun w=>rY h0 h1 h2 h3 h4 h5 w
theorem C6 {v0 v1 v2 : Value} {c0_0 : Value} (h0 : v0.cells = #[c0_0]) {c1_0 : Value} (h1 : v1.cells = #[c1_0]) {c2_0 : Value} (h2 : v2.cells = #[c2_0])  (w : World) : (Instr.build 176 #[(0,v0),(1,v1),(2,v2)]).run Tryz.prog w = .ok (.agg #[c0_0,c1_0,c2_0]) w:=fG Tryz.underlying176 rW aO (by simp [Instr.fill,dT,h0,h1,h2]) w
theorem rZ {l : List Value} {ty : TypeId} {x0 x1 x2 : Operand} {c0_0 : Value} (h0 : (ev l x0).cells = #[c0_0]) {c1_0 : Value} (h1 : (ev l x1).cells = #[c1_0]) {c2_0 : Value} (h2 : (ev l x2).cells = #[c2_0]) : fF Tryz.prog l (.build 176 #[(0,x0),(1,x1),(2,x2)]) ty (.agg #[c0_0,c1_0,c2_0]):=fI (vs:=#[(0,ev l x0),(1,ev l x1),(2,ev l x2)]) (by simp) fun w=>C6 h0 h1 h2 w
theorem C7 {v0 v1 v2 : Value} {c0_0 : Value} (h0 : v0.cells = #[c0_0]) {c1_0 : Value} (h1 : v1.cells = #[c1_0]) {c2_0 : Value} (h2 : v2.cells = #[c2_0])  (w : World) : (Instr.build 181 #[(0,v0),(1,v1),(2,v2)]).run Tryz.prog w = .ok (.agg #[c0_0,c1_0,c2_0]) w:=fG Tryz.underlying181 vW pT (by simp [Instr.fill,dT,h0,h1,h2]) w
theorem mQ {l : List Value} {ty : TypeId} {x0 x1 x2 : Operand} {c0_0 : Value} (h0 : (ev l x0).cells = #[c0_0]) {c1_0 : Value} (h1 : (ev l x1).cells = #[c1_0]) {c2_0 : Value} (h2 : (ev l x2).cells = #[c2_0]) : fF Tryz.prog l (.build 181 #[(0,x0),(1,x1),(2,x2)]) ty (.agg #[c0_0,c1_0,c2_0]):=fI (vs:=#[(0,ev l x0),(1,ev l x1),(2,ev l x2)]) (by simp) fun w=>C7 h0 h1 h2 w
theorem Jy (d : Nat) {x0 y0 : Int} {x1 y1 : Int} {x2 y2 : Int} : nY Tryz.prog (d + 2) 23 (.agg #[.int .i64 x0,.int .i64 x1,.int .i64 x2]) (.agg #[.int .i64 y0,.int .i64 y1,.int .i64 y2]) (x0 = y0 ∧ x1 = y1 ∧ x2 = y2):=(nY.array Tryz.underlying23 aO (xM.cons (fW aZ rfl) (fW aZ rfl) (nY.int (d:=d + 0) Tryz.underlying3) (xM.cons (fW aZ rfl) (fW aZ rfl) (nY.int (d:=d + 0) Tryz.underlying3) (xM.cons (fW aZ rfl) (fW aZ rfl) (nY.int (d:=d + 0) Tryz.underlying3) xM.nil)))).iff (by simp only[and_assoc,and_true])
theorem tL {l : List Value} {ty T' : TypeId} {x y : Operand} {x0 y0 : Int} {x1 y1 : Int} {x2 y2 : Int} (hx : ev l x = (.agg #[.int .i64 x0,.int .i64 x1,.int .i64 x2])) (hy : ev l y = (.agg #[.int .i64 y0,.int .i64 y1,.int .i64 y2])) : fF Tryz.prog l (.binOp .eql 23 x y T') ty (.bool (decide (x0 = y0 ∧ x1 = y1 ∧ x2 = y2))):=Je (by kernel_rfl) hx hy (Jy 9998)
theorem Hf {l : List Value} {ty T' : TypeId} {x y : Operand} {x0 y0 : Int} {x1 y1 : Int} {x2 y2 : Int} (hx : ev l x = (.agg #[.int .i64 x0,.int .i64 x1,.int .i64 x2])) (hy : ev l y = (.agg #[.int .i64 y0,.int .i64 y1,.int .i64 y2])) : fF Tryz.prog l (.binOp .neq 23 x y T') ty (.bool (decide (¬ (x0 = y0 ∧ x1 = y1 ∧ x2 = y2)))):=Jf (by kernel_rfl) hx hy (Jy 9998)
theorem Jz (d : Nat) {x0 y0 : Bool} {x1 y1 : ByteArray} : nY Tryz.prog (d + 2) 35 (.agg #[.bool x0,.string x1]) (.agg #[.bool y0,.string y1]) (x0 = y0 ∧ x1 = y1):=(nY.struct Tryz.underlying35 (by kernel_rfl) (p9.cons (by decide) (fW j4 rfl) (fW j4 rfl) (nY.bool (d:=d + 0) Tryz.underlying4) (p9.cons (by decide) (fW yI rfl) (fW yI rfl) (nY.str (d:=d + 0) Tryz.underlying9) p9.nil))).iff (by simp only[and_assoc,and_true])
theorem J0 (d : Nat) {x0 y0 : Bool} {x1 y1 : ByteArray} {x2 y2 : Bool} {x3 y3 : ByteArray} : nY Tryz.prog (d + 3) 37 (.agg #[.bool x0,.string x1,.bool x2,.string x3]) (.agg #[.bool y0,.string y1,.bool y2,.string y3]) (x0 = y0 ∧ x1 = y1 ∧ x2 = y2 ∧ x3 = y3):=(nY.struct Tryz.underlying37 (by kernel_rfl) (p9.cons (by decide) (rQ aY aH rfl) (rQ aY aH rfl) (Jz (d + 0)) (p9.cons (by decide) (rQ aY aH rfl) (rQ aY aH rfl) (Jz (d + 0)) p9.nil))).iff (by simp only[and_assoc,and_true])
theorem yN {l : List Value} {ty T' : TypeId} {x y : Operand} {x0 y0 : Bool} {x1 y1 : ByteArray} {x2 y2 : Bool} {x3 y3 : ByteArray} (hx : ev l x = (.agg #[.bool x0,.string x1,.bool x2,.string x3])) (hy : ev l y = (.agg #[.bool y0,.string y1,.bool y2,.string y3])) : fF Tryz.prog l (.binOp .eql 37 x y T') ty (.bool (decide (x0 = y0 ∧ x1 = y1 ∧ x2 = y2 ∧ x3 = y3))):=Je (by kernel_rfl) hx hy (J0 9997)
theorem yO {l : List Value} {ty T' : TypeId} {x y : Operand} {x0 y0 : Bool} {x1 y1 : ByteArray} {x2 y2 : Bool} {x3 y3 : ByteArray} (hx : ev l x = (.agg #[.bool x0,.string x1,.bool x2,.string x3])) (hy : ev l y = (.agg #[.bool y0,.string y1,.bool y2,.string y3])) : fF Tryz.prog l (.binOp .neq 37 x y T') ty (.bool (decide (¬ (x0 = y0 ∧ x1 = y1 ∧ x2 = y2 ∧ x3 = y3)))):=Jf (by kernel_rfl) hx hy (J0 9997)
theorem R1 (d : Nat) {x0 y0 : Int} {x1 y1 : Int} {x2 y2 : Int} : nY Tryz.prog (d + 2) 56 (.agg #[.int .i64 x0,.int .i64 x1,.int .i64 x2]) (.agg #[.int .i64 y0,.int .i64 y1,.int .i64 y2]) (x0 = y0 ∧ x1 = y1 ∧ x2 = y2):=(nY.struct Tryz.underlying56 (by kernel_rfl) (p9.cons (by decide) (fW aZ rfl) (fW aZ rfl) (nY.int (d:=d + 0) Tryz.underlying3) (p9.cons (by decide) (fW aZ rfl) (fW aZ rfl) (nY.int (d:=d + 0) Tryz.underlying3) (p9.cons (by decide) (fW aZ rfl) (fW aZ rfl) (nY.int (d:=d + 0) Tryz.underlying3) p9.nil)))).iff (by simp only[and_assoc,and_true])
end Go.Proofs.YtimjandkmfcmiaaGreatDoor
namespace Go.Lith
/-! ### Digits -/
def val (B : Nat) : List Nat → Nat
 | []=>0
 | x :: xs=>x + B * val B xs
def trim : List Nat → List Nat
 | []=>[]
 | x :: xs=>if trim xs = [] ∧ x = 0 then [] else x :: trim xs
def cM (B : Nat) (xs : List Nat) : Prop:=∀ x ∈ xs,x < B
theorem eX (B : Nat) : ∀ xs ys : List Nat,val B (xs ++ ys) = val B xs + B ^ xs.length * val B ys
 | [],ys=>by simp [val]
 | x :: xs,ys=>by simp only[List.cons_append,val,eX B xs ys,List.length_cons,Nat.pow_succ]; grind
theorem i4 {B : Nat} : ∀ {xs : List Nat},cM B xs → val B xs < B ^ xs.length
 | [],_=>by simp [val]
 | x :: xs,h=>by
  have h1 : x < B:=h x (by simp);have h2:=i4 (xs:=xs) fun y hy=>h y (by simp [hy]);simp only[val,List.length_cons,Nat.pow_succ];have h3 : val B xs + 1 ≤ B ^ xs.length:=h2;have:=Nat.mul_le_mul_left B h3
  grind
theorem nH (B : Nat) : ∀ xs : List Nat,val B (trim xs) = val B xs
 | []=>rfl
 | x :: xs=>by
  have ih:=nH B xs;simp only[trim];split
  · rename_i h; rw [h.1] at ih; simp only[val] at ih ⊢; rw [← ih,h.2]; simp
  · simp only[val,ih]
theorem fS : ∀ xs : List Nat,trim xs = xs.take (trim xs).length
 | []=>rfl
 | x :: xs=>by
  simp only[trim];split
  · rfl
  · simp only[List.length_cons,List.take_succ_cons]; rw [← fS xs]
theorem cM.take {B : Nat} {xs : List Nat} (h : cM B xs) (n : Nat) : cM B (xs.take n):=fun x hx=>h x (List.mem_of_mem_take hx)
theorem cM.drop {B : Nat} {xs : List Nat} (h : cM B xs) (n : Nat) : cM B (xs.drop n):=fun x hx=>h x (List.mem_of_mem_drop hx)
theorem cM.trim {B : Nat} {xs : List Nat} (h : cM B xs) : cM B (trim xs):=by rw [fS]; exact h.take _
theorem cM.append {B : Nat} {xs ys : List Nat} (h : cM B xs) (k : cM B ys) : cM B (xs ++ ys):=fun x hx=>by
 rcases List.mem_append.1 hx with h' | h'
 · exact h x h'
 · exact k x h'
theorem o7 (B : Nat) : cM B []:=fun _ h=>by cases h
theorem yP {B x : Nat} {xs : List Nat} (hx : x < B) (h : cM B xs) : cM B (x :: xs):=fun y hy=>by
 rcases List.mem_cons.1 hy with rfl | h'
 · exact hx
 · exact h y h'
theorem cM.set {B : Nat} {xs : List Nat} (h : cM B xs) {i x : Nat} (hx : x < B) : cM B (xs.set i x):=fun y hy=>by
 rcases List.mem_or_eq_of_mem_set hy with h' | rfl
 · exact h y h'
 · exact hx
theorem cM.get {B : Nat} {xs : List Nat} (h : cM B xs) {i x : Nat} (hi : xs[i]? = some x) : x < B:=h x (List.mem_of_getElem? hi)
def fK (xs : List Nat) : Prop:=trim xs = xs
theorem yQ : ∀ xs : List Nat,trim (trim xs) = trim xs
 | []=>rfl
 | x :: xs=>by
  have ih:=yQ xs;simp only[trim];split
  · rfl
  · rename_i h; simp only[trim,ih]; rw [if_neg h]
theorem oC (xs : List Nat) : fK (trim xs):=yQ xs
theorem fK.tail {x : Nat} {xs : List Nat} (h : fK (x :: xs)) : fK xs:=by
 unfold fK at *
 simp only[trim] at h;split at h
 · cases h
 · simpa using h
theorem sA {B : Nat} (hB : 0 < B) : ∀ {xs : List Nat},fK xs → xs ≠ [] → 0 < val B xs
 | [],_,h=>absurd rfl h
 | x :: xs,ht,_=>by
  simp only[val];by_cases hx : xs = []
  · subst hx
    have : x ≠ 0:=by
     rintro rfl;simp [fK,trim] at ht
    omega
  · have:=Nat.mul_pos hB (sA hB ht.tail hx)
    omega
theorem o8 {B : Nat} (hB : 1 < B) : ∀ {xs ys : List Nat},cM B xs → cM B ys → fK xs → fK ys → val B xs = val B ys → xs = ys
 | [],[],_,_,_,_,_=>rfl
 | [],y :: ys,_,_,_,hy,h=>by have:=sA (B:=B) (by omega) hy (by simp); rw [← h] at this; simp [val] at this
 | x :: xs,[],_,_,hx,_,h=>by have:=sA (B:=B) (by omega) hx (by simp); rw [h] at this; simp [val] at this
 | x :: xs,y :: ys,hx,hy,tx,ty,h=>by
  simp only[val] at h;have h1 : x < B:=hx x (by simp);have h2 : y < B:=hy y (by simp);have e1 : x = y:=by
   have:=congrArg (· % B) h;simpa [Nat.add_mul_mod_self_left,Nat.mod_eq_of_lt h1,Nat.mod_eq_of_lt h2] using this
  subst e1;have e2 : val B xs = val B ys:=by
   have : B * val B xs = B * val B ys:=by omega
   exact Nat.eq_of_mul_eq_mul_left (by omega) this
  rw [o8 hB (fun z hz=>hx z (by simp [hz])) (fun z hz=>hy z (by simp [hz])) tx.tail ty.tail e2]
def yR (B : Nat) : Nat → Nat → List Nat
 | 0,_=>[]
 | f + 1,n=>if n = 0 then [] else (n % B) :: yR B f (n / B)
def digs (B n : Nat) : List Nat:=yR B n n
theorem oD {B : Nat} (hB : 1 < B) : ∀ (f n : Nat),n ≤ f → val B (yR B f n) = n ∧ cM B (yR B f n) ∧ fK (yR B f n)
 | 0, n, h => by
  obtain rfl : n = 0 := by omega
  exact ⟨rfl,o7 B,rfl⟩
 | f + 1,n,h=>by
  simp only[yR];split
  · rename_i h0; exact ⟨by simp [val,h0],o7 B,rfl⟩
  · rename_i h0
    have hlt : n / B ≤ f:=by
     have:=Nat.div_lt_self (Nat.pos_of_ne_zero h0) hB;omega
    obtain ⟨h1,h2,h3⟩:=oD hB f (n / B) hlt;refine ⟨by simp only[val,h1]; exact Nat.mod_add_div n B,yP (Nat.mod_lt _ (by omega)) h2,?_⟩;unfold fK at *
    simp only[trim,h3];rw [if_neg];rintro ⟨h4,h5⟩;rw [h4] at h1;simp only[val] at h1;have:=Nat.mod_add_div n B;rw [h5,← h1] at this;omega
theorem nI {B : Nat} (hB : 1 < B) (n : Nat) : val B (digs B n) = n:=(oD hB n n (Nat.le_refl _)).1
theorem pV {B : Nat} (hB : 1 < B) (n : Nat) : cM B (digs B n):=(oD hB n n (Nat.le_refl _)).2.1
theorem lI {B : Nat} (hB : 1 < B) (n : Nat) : fK (digs B n):=(oD hB n n (Nat.le_refl _)).2.2
theorem iT {B : Nat} (hB : 1 < B) {xs : List Nat} (h : cM B xs) {n : Nat} (hv : val B xs = n) : trim xs = digs B n :=
 o8 hB h.trim (pV hB n) (oC xs) (lI hB n) (by rw [nH,nI hB,hv])
theorem mR {B n : Nat} (hB : 1 < B) : digs B n = [] ↔ n = 0:=by
 constructor
 · intro h; rw [← nI hB n,h]; rfl
 · rintro rfl; rfl
theorem fC {B n k : Nat} (hB : 1 < B) (h : n < B ^ k) : (digs B n).length ≤ k:=by
 rcases Nat.lt_or_ge k (digs B n).length with hlt | hge
 · exfalso
   have hne : (digs B n) ≠ []:=by intro h'; rw [h'] at hlt; simp at hlt
   -- the greatest digit is not 0
   have key : ∀ xs : List Nat,fK xs → xs ≠ [] → B ^ (xs.length - 1) ≤ val B xs:=by
    intro xs
    induction xs with
    | nil=>intro _ h; exact absurd rfl h
    | cons x xs ih =>
     intro ht _;by_cases hx : xs = []
     · subst hx
       have:=sA (B:=B) (by omega) ht (by simp);simp [val] at this ⊢; omega
     · have:=ih ht.tail hx
       have h2 : xs.length ≠ 0:=by simpa using hx
       simp only[List.length_cons,val,Nat.add_sub_cancel];have e : xs.length = (xs.length - 1) + 1:=by omega
       rw [e,Nat.pow_succ];have:=Nat.mul_le_mul_left B this
       grind
   have:=key _ (lI hB n) hne;rw [nI hB] at this;have h3 : B ^ k ≤ B ^ ((digs B n).length - 1):=Nat.pow_le_pow_right (by omega) (by omega);omega
 · exact hge
/-! ### Numbers as values -/
def b8 (n : Int) : Bool:=decide (n < 0)
def oF (n : Nat) : List UInt8:=(digs 256 n).reverse.map UInt8.ofNat
def cW (n : Int) : ByteArray:=⟨(oF n.natAbs).toArray⟩
def W (n : Int) : Value:=.agg #[.bool (b8 n),.string (cW n)]
def Bd (k : Nat) (n : Int) : Prop:=n.natAbs < 2 ^ k
theorem Bd.mono {a b : Nat} {n : Int} (h : Bd a n) (hab : a ≤ b) : Bd b n:=Nat.lt_of_lt_of_le h (Nat.pow_le_pow_right (by omega) hab)
theorem Bd.neg {a : Nat} {n : Int} (h : Bd a n) : Bd a (-n):=by unfold Bd at *; rwa [Int.natAbs_neg]
theorem Bd.add {a b : Nat} {m n : Int} (h : Bd a m) (k : Bd b n) : Bd (max a b + 1) (m + n):=by
 unfold Bd at *
 have h1 : (m + n).natAbs ≤ m.natAbs + n.natAbs:=Int.natAbs_add_le m n;have h2 : 2 ^ a ≤ 2 ^ max a b:=Nat.pow_le_pow_right (by omega) (Nat.le_max_left a b);have h3 : 2 ^ b ≤ 2 ^ max a b:=Nat.pow_le_pow_right (by omega) (Nat.le_max_right a b);rw [Nat.pow_succ];omega
theorem Bd.sub {a b : Nat} {m n : Int} (h : Bd a m) (k : Bd b n) : Bd (max a b + 1) (m - n):=by rw [Int.sub_eq_add_neg]; exact h.add k.neg
theorem Bd.mul {a b : Nat} {m n : Int} (h : Bd a m) (k : Bd b n) : Bd (a + b) (m * n):=by
 unfold Bd at *
 rw [Int.natAbs_mul,Nat.pow_add];exact Nat.mul_lt_mul_of_lt_of_lt h k
theorem Bd.of_i64 {n : Int} (h0 : -9223372036854775808 ≤ n) (h1 : n ≤ 9223372036854775807) : Bd 64 n:=by
 unfold Bd;omega
theorem gT (k : Nat) : Bd k 0:=by unfold Bd; exact Nat.two_pow_pos k
theorem Bd.of_le {a : Nat} {m n : Int} (h : Bd a n) (hle : m.natAbs ≤ n.natAbs) : Bd a m:=Nat.lt_of_le_of_lt hle h
theorem yS (n : Int) : (cW n).size = (digs 256 n.natAbs).length:=by simp [cW,ByteArray.size,oF]
theorem Bn {k : Nat} {n : Int} (h : Bd k n) : (cW n).size ≤ k:=by
 rw [yS];refine fC (by omega) (Nat.lt_of_lt_of_le h ?_);rw [show 256 = 2 ^ 8 from rfl,← Nat.pow_mul];exact Nat.pow_le_pow_right (by omega) (by omega)
end Go.Lith
namespace Go.Lith
structure cG (w : World) (A : Option Addr) (n cap : Nat) (xs : List Nat) : Prop where
 eq : n = xs.length
 row : ∀ (i x : Nat),xs[i]? = some x → ∃ a,A = some a ∧ w.cell? (a.add i) = some (.int .u64 (x : Int))
 le : xs.length ≤ cap
 cap : cap ≤ 9223372036854775807
 len : xs.length ≤ 17592186044416
 digs : cM 4294967296 xs
section
variable {w : World} {A : Option Addr} {n cap : Nat} {xs : List Nat}
theorem cG.ext {w' : World} (h : cG w A n cap xs) (hE : cD w w') : cG w' A n cap xs :=
 ⟨h.eq,fun i x hi=>let ⟨a,e,hc⟩:=h.row i x hi; ⟨a,e,hE.cell hc⟩,h.le,h.cap,h.len,h.digs⟩
theorem cG.take (h : cG w A n cap xs) (k : Nat) : cG w A (xs.take k).length cap (xs.take k) :=
 ⟨rfl,fun i x hi=>h.row i x (by rw [List.getElem?_take] at hi; split at hi; exact hi; cases hi),Nat.le_trans (by simp; omega) h.le,h.cap,Nat.le_trans (by simp; omega) h.len,h.digs.take k⟩
theorem cG.get (h : cG w A n cap xs) {i : Nat} (hi : i < xs.length) : ∃ a,A = some a ∧ w.cell? (a.add i) = some (.int .u64 ((xs[i] : Nat) : Int)) ∧ xs[i] < 4294967296 :=
 let ⟨a,e,hc⟩:=h.row i xs[i] (List.getElem?_eq_getElem hi); ⟨a,e,hc,h.digs _ (List.getElem_mem hi)⟩
theorem cG.as (h : cG w A n cap xs) {ys : List Nat} (e : xs = ys) : cG w A n cap ys:=e ▸ h
end
theorem jW : ∀ ys : List Nat,trim (ys ++ [0]) = trim ys
 | []=>by simp [trim]
 | y :: ys=>by simp only[List.cons_append,trim,jW ys]
theorem m5 {x : Nat} (hx : x ≠ 0) : ∀ ys : List Nat,trim (ys ++ [x]) = ys ++ [x]
 | []=>by simp [trim,hx]
 | y :: ys=>by simp only[List.cons_append,trim,m5 hx ys]; rw [if_neg (by simp)]
theorem tM {xs : List Nat} {k : Nat} (hk : 0 < k) (h : k - 1 < xs.length) : xs.take k = xs.take (k - 1) ++ [xs[k - 1]]:=by
 have e : k = (k - 1) + 1:=by omega
 conv=>lhs; rw [e]
 rw [List.take_succ_eq_append_getElem h]
theorem yT {xs : List Nat} {k : Nat} (hk : 0 < k) (h : k - 1 < xs.length) (h0 : ((xs[k-1] : Nat) : Int) = 0) (ht : trim (xs.take k) = trim xs) : trim (xs.take (k - 1)) = trim xs:=by
 rw [← ht,tM hk h,show xs[k-1] = 0 by omega,jW]
theorem C8 {xs : List Nat} {k : Nat} (hk : 0 < k) (h : k - 1 < xs.length) (h0 : ¬ ((xs[k-1] : Nat) : Int) = 0) (ht : trim (xs.take k) = trim xs) : k = (trim xs).length:=by
 rw [← ht,tM hk h,m5 (by omega)];simp; omega
theorem C9 {xs : List Nat} (ht : trim (xs.take 0) = trim xs) : 0 = (trim xs).length:=by rw [← ht]; rfl
/-! ### Words in a block -/
abbrev iD (x : Nat) : Value:=.int .u64 (x : Int)
theorem eZ {os : List Nat} {i d : Nat} (hi : i < os.length) : a8 (os.map iD) i [iD d] = (os.set i d).map iD:=by
 unfold a8;rw [List.set_eq_take_append_cons_drop,if_pos hi];simp [List.map_take,List.map_drop]
theorem fT (n : Nat) : List.replicate n (Value.int .u64 0) = (List.replicate n 0).map iD:=by simp [iD]
theorem eU.word {w : World} {g : Nat} {os : List Nat} {t : TypeId} (h : eU w g (os.map iD) t) {i : Nat} (hi : i < os.length) : w.cell? ⟨g,i,none⟩ = some (.int .u64 ((os[i] : Nat) : Int)) :=
 h.cell (by simp [hi])
theorem eU.nat {w : World} {g : Nat} {os : List Nat} {t : TypeId} (h : eU w g (os.map iD) t) (hd : cM 4294967296 os) {n : Nat} (hn : n = os.length) (hl : n ≤ 17592186044416) : cG w (some ⟨g,0,none⟩) n n os :=
 ⟨hn,fun i x hi=>⟨_,rfl,by rw [eY,Nat.zero_add]; exact h.cell (by simp [hi])⟩,by omega,by omega,by omega,hd⟩
def fH (n : Nat) (v : Value) (w : World) : Prop:=∃ A cap,v = .slice A (digs 4294967296 n).length cap ∧ cG w A (digs 4294967296 n).length cap (digs 4294967296 n)
theorem fH.of_trim {w : World} {A : Option Addr} {xs : List Nat} {k cap n : Nat} (h : cG w A k cap xs) (hv : val 4294967296 xs = n) : fH n (.slice A (trim xs).length cap) w:=by
 have e : trim xs = digs 4294967296 n:=iT (by omega) h.digs hv;refine ⟨A,cap,by rw [e],?_⟩;have h':=h.take (trim xs).length;rw [← fS,e] at h';exact h'
def sB (w : World) (v : Value) : Prop:=∀ a n c,v = .slice (some a) n c → w.heap.size ≤ a.block
theorem sB.of_blk {w : World} {g off n c : Nat} (h : w.heap.size ≤ g) : sB w (.slice (some ⟨g,off,none⟩) n c):=fun a n' c' e=>by cases e; exact h
theorem jQ (a : Addr) (i : Nat) : (a.add i).block = a.block:=by unfold Addr.add; split <;> rfl
theorem yF.cell {w w' : World} {g : Nat} (h : yF w w' g) {a : Addr} (hne : a.block ≠ g) : w'.cell? a = w.cell? a:=by
 unfold World.cell?;rw [h.block _ hne]
theorem cG.chg {w w' : World} {g n cap : Nat} {A : Option Addr} {xs : List Nat} (h : cG w A n cap xs) (hC : yF w w' g) (hne : ∀ a,A = some a → a.block ≠ g) : cG w' A n cap xs :=
 ⟨h.eq,fun i x hi=>let ⟨a,e,hc⟩:=h.row i x hi; ⟨a,e,by rw [hC.cell (by rw [jQ]; exact hne a e)]; exact hc⟩,h.le,h.cap,h.len,h.digs⟩
/-! ### Sums of digits -/
theorem jL {B : Nat} : ∀ {os : List Nat} {j d : Nat} (hj : j < os.length),val B (os.set j d) + B ^ j * os[j] = val B os + B ^ j * d
 | x :: xs,0,d,_=>by simp [val]; omega
 | x :: xs,j + 1,d,h=>by
  have ih:=jL (B:=B) (os:=xs) (j:=j) (d:=d) (by simpa using h);simp only[List.set_cons_succ,val,List.getElem_cons_succ,Nat.pow_succ];have:=congrArg (B * ·) ih;simp only[Nat.mul_add] at this
  grind
theorem fB (B n : Nat) : val B (List.replicate n 0) = 0:=by
 induction n with
 | zero=>rfl
 | succ n ih=>simp [List.replicate_succ,val,ih]
theorem dD {B : Nat} {xs : List Nat} {i : Nat} (hi : i < xs.length) : val B (xs.take (i + 1)) = val B (xs.take i) + B ^ i * xs[i]:=by
 rw [List.take_succ_eq_append_getElem hi,eX,List.length_take,Nat.min_eq_left (by omega)];simp [val]
theorem jR {B : Nat} {xs : List Nat} {i : Nat} (hi : xs.length ≤ i) : val B (xs.take i) = val B xs:=by rw [List.take_of_length_le hi]
theorem iH {os : List Nat} {i d : Nat} : (os.set i d).drop (i + 1) = os.drop (i + 1):=by
 apply List.ext_getElem?;intro j;simp only[List.getElem?_drop];rw [List.getElem?_set_ne (by omega)]
theorem gF {os : List Nat} {i n : Nat} (h : os.drop i = List.replicate n 0) (hi : i < os.length) : os[i] = 0 ∧ os.drop (i + 1) = List.replicate (n - 1) 0:=by
 rw [List.drop_eq_getElem_cons hi] at h;cases n with
 | zero=>cases h
 | succ n=>simp only[List.replicate_succ,List.cons.injEq] at h; exact ⟨h.1,by simpa using h.2⟩
theorem Da {B : Nat} {os : List Nat} {i d c c' s t T : Nat} (hi : i < os.length) (hs : os[i] + s + c = d + B * c') (hT : val B os + B ^ i * c = T) (ht : T + B ^ i * s = t) :
 val B (os.set i d) + B ^ (i + 1) * c' = t:=by
 have h1:=jL (B:=B) (d:=d) hi;have h2:=congrArg (B ^ i * ·) hs;simp only[Nat.mul_add] at h2;rw [Nat.pow_succ]
 grind
/-! ### Order -/
def Nl (a b : Nat) : Int:=if a < b then -1 else if b < a then 1 else 0
theorem xN {B : Nat} (hB : 1 < B) {xs ys : List Nat} {k : Nat} (hx : cM B xs) (hlx : k < xs.length) (hly : k < ys.length) (hd : xs.drop (k + 1) = ys.drop (k + 1)) (h : xs[k] < ys[k]) : val B xs < val B ys:=by
 have e1 : val B xs = val B (xs.take (k + 1)) + B ^ (k + 1) * val B (xs.drop (k + 1)):=by
  conv=>lhs; rw [← List.take_append_drop (k + 1) xs]
  rw [eX,List.length_take,Nat.min_eq_left (by omega)]
 have e2 : val B ys = val B (ys.take (k + 1)) + B ^ (k + 1) * val B (ys.drop (k + 1)):=by
  conv=>lhs; rw [← List.take_append_drop (k + 1) ys]
  rw [eX,List.length_take,Nat.min_eq_left (by omega)]
 rw [e1,e2,hd,dD hlx,dD hly];have h1:=i4 (hx.take k);rw [List.length_take,Nat.min_eq_left (by omega)] at h1;have h2 : B ^ k * (xs[k] + 1) ≤ B ^ k * ys[k]:=Nat.mul_le_mul_left _ h;rw [Nat.mul_add] at h2;omega
theorem j9 {B : Nat} (hB : 1 < B) {xs ys : List Nat} (hx : cM B xs) (hy : cM B ys) (ty : fK ys) (h : xs.length < ys.length) : val B xs < val B ys:=by
 rcases Nat.lt_or_ge (val B xs) (val B ys) with hlt | hge
 · exact hlt
 · exfalso
   have e : ys = digs B (val B ys):=o8 hB hy (pV hB _) ty (lI hB _) (by rw [nI hB]);have h1 : val B ys < B ^ xs.length:=Nat.lt_of_le_of_lt hge (i4 hx);have h2:=fC hB h1;rw [← e] at h2;omega
/-! ### The machine's numbers -/
theorem iJ (x : Int) : IntKind.u64.wrap x = x % 18446744073709551616:=by simp [IntKind.wrap,IntKind.bits,IntKind.signed]
theorem kQ {s : Int} (h0 : 0 ≤ s) (h1 : s < 18446744073709551616) : IntKind.u64.wrap ((BitVec.ofInt IntKind.u64.bits s &&& BitVec.ofInt IntKind.u64.bits 4294967295).toNat : Int) = s % 4294967296:=by
 obtain ⟨n,rfl⟩:=Int.eq_ofNat_of_zero_le h0;have hn : n < 18446744073709551616:=by omega
 have e : (BitVec.ofInt 64 (n : Int) &&& BitVec.ofInt 64 4294967295).toNat = n % 4294967296:=by
  rw [BitVec.toNat_and];have e1 : (BitVec.ofInt 64 (n : Int)).toNat = n:=by simp [BitVec.toNat_ofInt]; omega
  have e2 : (BitVec.ofInt 64 4294967295).toNat = 2 ^ 32 - 1:=by decide
  rw [e1,e2,Nat.and_two_pow_sub_one_eq_mod]
 show IntKind.u64.wrap ((BitVec.ofInt 64 (n : Int) &&& BitVec.ofInt 64 4294967295).toNat : Int) = _
 rw [e,eP (by omega) (by omega)];omega
theorem yU {s : Int} (h0 : 0 ≤ s) : s.fdiv (2 ^ (min (32 : Int).toNat IntKind.u64.bits)) = s / 4294967296:=by
 show s.fdiv (2 ^ 32) = _
 rw [Int.fdiv_eq_ediv_of_nonneg _ (by decide)];rfl
theorem Qd {s : Int} (h0 : 0 ≤ s) : s.fdiv (2 ^ (min (63 : Int).toNat IntKind.u64.bits)) = s / 9223372036854775808:=by
 show s.fdiv (2 ^ 63) = _
 rw [Int.fdiv_eq_ediv_of_nonneg _ (by decide)];rfl
/-! ### Addresses of words -/
theorem d7 {a : Addr} {m : Int} {q : Nat} (h : m.toNat = q) : a.add (m.toNat * 1) = a.add q:=by rw [h,Nat.mul_one]
theorem vY {a : Addr} {m : Int} {c q : Nat} (h : m.toNat = q) : a.add (m.toNat * c) = a.add (q * c):=by rw [h]
theorem eF {g : Nat} {m : Int} {q : Nat} (h : m.toNat = q) : (⟨g,0,none⟩ : Addr).add (m.toNat * 1) = ⟨g,q,none⟩:=by rw [h,Nat.mul_one,eY,Nat.zero_add]
theorem vZ {g : Nat} {m : Int} {c q : Nat} (h : m.toNat = q) : (⟨g,0,none⟩ : Addr).add (m.toNat * c) = ⟨g,q * c,none⟩:=by rw [h,eY,Nat.zero_add]
theorem cG.at {w : World} {a : Addr} {xs : List Nat} {n cap : Nat} (h : cG w (some a) n cap xs) {i : Nat} (hi : i < xs.length) : w.cell? (a.add i) = some (.int .u64 ((xs[i] : Nat) : Int)):=by
 obtain ⟨a',e,hc⟩:=h.row i xs[i] (List.getElem?_eq_getElem hi);cases e;exact hc
theorem cG.lt {w : World} {A : Option Addr} {xs : List Nat} {n cap : Nat} (h : cG w A n cap xs) {i : Nat} (hi : i < xs.length) : xs[i] < 4294967296:=h.digs _ (List.getElem_mem hi)
/-! ### Rounds -/
theorem J1 {xs ys : List Nat} {k : Nat} (hx : cM 4294967296 xs) (hk : 0 < k) (hlx : k - 1 < xs.length) (hly : k - 1 < ys.length) (hd : xs.drop k = ys.drop k) (h : ((xs[k-1] : Nat) : Int) < ((ys[k-1] : Nat) : Int)) : val 4294967296 xs < val 4294967296 ys :=
 xN (by omega) hx hlx hly (by rw [show k - 1 + 1 = k by omega]; exact hd) (by omega)
theorem Hg {xs ys : List Nat} {k : Nat} (hk : 0 < k) (hlx : k - 1 < xs.length) (hly : k - 1 < ys.length) (hd : xs.drop k = ys.drop k) (h1 : ¬ ((xs[k-1] : Nat) : Int) < ((ys[k-1] : Nat) : Int)) (h2 : ¬ ((ys[k-1] : Nat) : Int) < ((xs[k-1] : Nat) : Int)) : xs.drop (k - 1) = ys.drop (k - 1):=by
 rw [List.drop_eq_getElem_cons hlx,List.drop_eq_getElem_cons hly,show k - 1 + 1 = k by omega,hd,show xs[k-1] = ys[k-1] by omega]
theorem pW {os xs ys : List Nat} {i c s : Nat} (hi : i < xs.length) (hlo : os.length = xs.length + 1) (hv : val 4294967296 os + 4294967296 ^ i * c = val 4294967296 (xs.take i) + val 4294967296 (ys.take i)) (hz : os.drop i = List.replicate (xs.length + 1 - i) 0) (hd : cM 4294967296 os) (hc : c ≤ 1)
 (hs : s = xs[i] + c + ys[i]?.getD 0) (hx : xs[i] < 4294967296) (hy : ys[i]?.getD 0 < 4294967296) :
 val 4294967296 (os.set i (s % 4294967296)) + 4294967296 ^ (i + 1) * (s / 4294967296) = val 4294967296 (xs.take (i + 1)) + val 4294967296 (ys.take (i + 1)) ∧ (os.set i (s % 4294967296)).drop (i + 1) = List.replicate (xs.length + 1 - (i + 1)) 0 ∧ cM 4294967296 (os.set i (s % 4294967296)) ∧ s / 4294967296 ≤ 1:=by
 obtain ⟨z1,z2⟩:=gF hz (by omega);refine ⟨?_,?_,hd.set (Nat.mod_lt _ (by omega)),by omega⟩
 · refine Da (s:=xs[i] + ys[i]?.getD 0) (by omega) (by rw [z1]; omega) hv ?_
   rw [dD hi];by_cases hy' : i < ys.length
   · rw [dD hy',List.getElem?_eq_getElem hy']
     simp only[Option.getD_some,Nat.mul_add];omega
   · rw [List.getElem?_eq_none (by omega),jR (xs:=ys) (i:=i + 1) (by omega),jR (xs:=ys) (i:=i) (by omega)]
     simp;omega
 · rw [iH,z2]
   congr 1
theorem u9 {os xs ys : List Nat} {c : Nat} (hle : ys.length ≤ xs.length) (hlo : os.length = xs.length + 1) (hv : val 4294967296 os + 4294967296 ^ xs.length * c = val 4294967296 (xs.take xs.length) + val 4294967296 (ys.take xs.length)) (hz : os.drop xs.length = List.replicate (xs.length + 1 - xs.length) 0) :
 val 4294967296 (os.set xs.length c) = val 4294967296 xs + val 4294967296 ys:=by
 obtain ⟨z1,_⟩:=gF hz (by omega);have h:=jL (B:=4294967296) (d:=c) (show xs.length < os.length by omega);rw [z1] at h;rw [List.take_length,jR hle] at hv;omega
theorem yV {os xs ys : List Nat} {i c s : Nat} (hi : i < xs.length) (hlo : os.length = xs.length) (hv : val 4294967296 os + val 4294967296 (ys.take i) = val 4294967296 (xs.take i) + 4294967296 ^ i * c) (hz : os.drop i = List.replicate (xs.length - i) 0) (hd : cM 4294967296 os) (hc : c ≤ 1)
 (hs : (s : Int) = ((xs[i] : Nat) - (c : Nat) - (ys[i]?.getD 0 : Nat) : Int) % 18446744073709551616) (hx : xs[i] < 4294967296) (hy : ys[i]?.getD 0 < 4294967296) :
 val 4294967296 (os.set i (s % 4294967296)) + val 4294967296 (ys.take (i + 1)) = val 4294967296 (xs.take (i + 1)) + 4294967296 ^ (i + 1) * (s / 9223372036854775808) ∧ (os.set i (s % 4294967296)).drop (i + 1) = List.replicate (xs.length - (i + 1)) 0 ∧ cM 4294967296 (os.set i (s % 4294967296)) ∧ s / 9223372036854775808 ≤ 1:=by
 obtain ⟨z1,z2⟩:=gF hz (by omega);have key : xs[i] + 4294967296 * (s / 9223372036854775808) = s % 4294967296 + c + ys[i]?.getD 0:=by omega
 refine ⟨?_,?_,hd.set (Nat.mod_lt _ (by omega)),by omega⟩
 · have h1:=jL (B:=4294967296) (d:=s % 4294967296) (show i < os.length by omega)
   rw [z1] at h1;have h2:=congrArg (4294967296 ^ i * ·) key;simp only[Nat.mul_add] at h2;rw [dD hi,Nat.pow_succ];have h3 : val 4294967296 (ys.take (i + 1)) = val 4294967296 (ys.take i) + 4294967296 ^ i * ys[i]?.getD 0:=by
    by_cases hy' : i < ys.length
    · rw [dD hy',List.getElem?_eq_getElem hy']; rfl
    · rw [List.getElem?_eq_none (by omega),jR (xs:=ys) (i:=i + 1) (by omega),jR (xs:=ys) (i:=i) (by omega)]; rfl
   rw [h3]
   grind
 · rw [iH,z2]
   congr 1
theorem Nm {os xs ys : List Nat} {c : Nat} (hle : ys.length ≤ xs.length) (hlo : os.length = xs.length) (hd : cM 4294967296 os) (hv : val 4294967296 os + val 4294967296 (ys.take xs.length) = val 4294967296 (xs.take xs.length) + 4294967296 ^ xs.length * c) (hge : val 4294967296 ys ≤ val 4294967296 xs) :
 val 4294967296 os = val 4294967296 xs - val 4294967296 ys:=by
 rw [List.take_length,jR hle] at hv;have h:=i4 hd;rw [hlo] at h;have hc : c = 0:=by
  rcases Nat.eq_zero_or_pos c with h0 | h0
  · exact h0
  · have:=Nat.mul_le_mul_left (4294967296 ^ xs.length) h0
    omega
 subst hc;omega
theorem Hh {os xs ys : List Nat} {i k c s : Nat} (hi : i < xs.length) (hk : k < ys.length) (hlo : os.length = xs.length + ys.length) (hv : val 4294967296 os + 4294967296 ^ (i + k) * c = val 4294967296 (xs.take i) * val 4294967296 ys + 4294967296 ^ i * (xs[i] * val 4294967296 (ys.take k)))
 (hs : s = os[i + k] + xs[i] * ys[k] + c) : val 4294967296 (os.set (i + k) (s % 4294967296)) + 4294967296 ^ (i + (k + 1)) * (s / 4294967296) = val 4294967296 (xs.take i) * val 4294967296 ys + 4294967296 ^ i * (xs[i] * val 4294967296 (ys.take (k + 1))):=by
 refine Da (s:=xs[i] * ys[k]) (i:=i + k) (by omega) (by omega) hv ?_;rw [dD hk,Nat.pow_add]
 grind
theorem mS {os : List Nat} {i j d : Nat} (h : i < j) : (os.set i d).drop j = os.drop j:=by
 apply List.ext_getElem?;intro m;simp only[List.getElem?_drop];rw [List.getElem?_set_ne (by omega)]
theorem Nn {os xs ys : List Nat} {i c : Nat} (hi : i < xs.length) (hlo : os.length = xs.length + ys.length) (hv : val 4294967296 os + 4294967296 ^ (i + ys.length) * c = val 4294967296 (xs.take i) * val 4294967296 ys + 4294967296 ^ i * (xs[i] * val 4294967296 (ys.take ys.length))) (hz : os.drop (i + ys.length) = List.replicate (xs.length - i) 0) :
 val 4294967296 (os.set (i + ys.length) c) = val 4294967296 (xs.take (i + 1)) * val 4294967296 ys ∧ (os.set (i + ys.length) c).drop (i + 1 + ys.length) = List.replicate (xs.length - (i + 1)) 0:=by
 obtain ⟨z1,z2⟩:=gF hz (by omega);have h:=jL (B:=4294967296) (d:=c) (show i + ys.length < os.length by omega);rw [z1] at h;rw [List.take_length] at hv;refine ⟨?_,?_⟩
 · rw [dD hi]
   grind
 · rw [show i + 1 + ys.length = i + ys.length + 1 by omega,iH,z2]
   congr 1
theorem J2 {x y : Nat} (hx : x < 4294967296) (hy : y < 4294967296) : x * y ≤ 18446744065119617025:=by
 have:=Nat.mul_le_mul (Nat.le_sub_one_of_lt hx) (Nat.le_sub_one_of_lt hy);omega
theorem No {x y : Nat} (hx : x < 4294967296) (hy : y < 4294967296) : (0 : Int) ≤ (x : Int) * (y : Int) ∧ (x : Int) * (y : Int) ≤ 18446744065119617025:=by
 have h:=J2 hx hy;have e : ((x * y : Nat) : Int) = (x : Int) * (y : Int):=Int.natCast_mul x y;rw [← e];omega
/-! ### Shifts,divisions by a word -/
theorem oG {m n : Nat} (hn : n < 64) (h : m * 2 ^ n < 18446744073709551616) : IntKind.u64.wrap ((m : Int) * 2 ^ (min (n : Int).toNat IntKind.u64.bits)) = ((m * 2 ^ n : Nat) : Int):=by
 have e : min (n : Int).toNat IntKind.u64.bits = n:=by
  show min (n : Int).toNat 64 = n
  rw [Int.toNat_natCast]; omega
 rw [e];have e2 : ((m : Int) * 2 ^ n) = ((m * 2 ^ n : Nat) : Int):=by simp
 rw [e2];exact eP (by omega) (by omega)
theorem Np {m n : Nat} (hn : n < 64) : (m : Int).fdiv (2 ^ (min (n : Int).toNat IntKind.u64.bits)) = ((m / 2 ^ n : Nat) : Int):=by
 have e : min (n : Int).toNat IntKind.u64.bits = n:=by
  show min (n : Int).toNat 64 = n
  rw [Int.toNat_natCast]; omega
 rw [e,Int.fdiv_eq_ediv_of_nonneg _ (by exact Int.le_of_lt (Int.pow_pos (by decide)))];simp
theorem Bo {a b s c : Nat} (ha : a < 2 ^ s) (hb : b = 2 ^ s * c) (h : a + b < 18446744073709551616) : IntKind.u64.wrap ((BitVec.ofInt IntKind.u64.bits (a : Int) ||| BitVec.ofInt IntKind.u64.bits (b : Int)).toNat : Int) = ((a + b : Nat) : Int):=by
 have e : (BitVec.ofInt 64 (a : Int) ||| BitVec.ofInt 64 (b : Int)).toNat = a + b:=by
  rw [BitVec.toNat_or];have e1 : (BitVec.ofInt 64 (a : Int)).toNat = a:=by simp [BitVec.toNat_ofInt]; omega
  have e2 : (BitVec.ofInt 64 (b : Int)).toNat = b:=by simp [BitVec.toNat_ofInt]; omega
  rw [e1,e2,Nat.or_comm,hb,← Nat.two_pow_add_eq_or_of_lt ha];omega
 show IntKind.u64.wrap ((BitVec.ofInt 64 (a : Int) ||| BitVec.ofInt 64 (b : Int)).toNat : Int) = _
 rw [e];exact eP (by omega) (by omega)
theorem vA {a b s c : Nat} (ha : a < 2 ^ s) (hb : b = 2 ^ s * c) (h : a + b < 18446744073709551616) : IntKind.u64.wrap ((BitVec.ofInt IntKind.u64.bits (b : Int) ||| BitVec.ofInt IntKind.u64.bits (a : Int)).toNat : Int) = ((a + b : Nat) : Int):=by
 have:=Bo ha hb h;rwa [BitVec.or_comm] at this
theorem vB {s : Nat} (h : s < 18446744073709551616) : IntKind.u64.wrap ((BitVec.ofInt IntKind.u64.bits (s : Int) &&& BitVec.ofInt IntKind.u64.bits 4294967295).toNat : Int) = ((s % 4294967296 : Nat) : Int):=by
 rw [kQ (by omega) (by omega)];omega
theorem vC {m n : Nat} (h : m < 18446744073709551616) : IntKind.u64.wrap ((m : Int).tdiv (n : Int)) = ((m / n : Nat) : Int):=by
 rw [← Int.ofNat_tdiv];have : m / n ≤ m:=Nat.div_le_self m n;generalize m / n = q at *
 exact eP (by omega) (by omega)
theorem mT {m n : Nat} : (m : Int).tmod (n : Int) = ((m % n : Nat) : Int):=(Int.ofNat_tmod m n).symm
theorem kI {B : Nat} {xs : List Nat} {k : Nat} (hk : 0 < k) (h : k - 1 < xs.length) : val B (xs.drop (k - 1)) = xs[k - 1] + B * val B (xs.drop k):=by
 rw [List.drop_eq_getElem_cons h,show k - 1 + 1 = k by omega];rfl
theorem Db {os xs : List Nat} {k d r : Nat} (hk : 0 < k) (hkl : k ≤ xs.length) (hlo : os.length = xs.length) (hv : val 4294967296 (xs.drop k) = d * val 4294967296 (os.drop k) + r) (hr : r < d) (hdg : cM 4294967296 os) (hx : xs[k - 1] < 4294967296) :
 val 4294967296 (xs.drop (k - 1)) = d * val 4294967296 ((os.set (k - 1) ((xs[k - 1] + r * 4294967296) / d)).drop (k - 1)) + (xs[k - 1] + r * 4294967296) % d ∧ cM 4294967296 (os.set (k - 1) ((xs[k - 1] + r * 4294967296) / d)) ∧ (xs[k - 1] + r * 4294967296) % d < d:=by
 refine ⟨?_,hdg.set ?_,Nat.mod_lt _ (by omega)⟩
 · have e1:=kI (B:=4294967296) hk (show k - 1 < xs.length by omega)
   have e2:=kI (B:=4294967296) (xs:=os.set (k - 1) ((xs[k - 1] + r * 4294967296) / d)) hk (by simp; omega);have e3 : (os.set (k - 1) ((xs[k - 1] + r * 4294967296) / d)).drop k = os.drop k:=mS (by omega);rw [e1,e2,e3,List.getElem_set_self,hv];have:=Nat.div_add_mod (xs[k - 1] + r * 4294967296) d
   grind
 · have : (xs[k - 1] + r * 4294967296) / d < 4294967296:=by
    rw [Nat.div_lt_iff_lt_mul (by omega)];have : (r + 1) * 4294967296 ≤ d * 4294967296:=Nat.mul_le_mul_right _ hr;omega
   exact this
theorem v6 {a d q r : Nat} (h0 : 0 < d) (hr : r < d) (h : a = d * q + r) : q = a / d ∧ r = a % d:=by
 subst h;constructor
 · rw [Nat.mul_add_div h0,Nat.div_eq_of_lt hr,Nat.add_zero]
 · rw [Nat.mul_add_mod,Nat.mod_eq_of_lt hr]
end Go.Lith
namespace Go.Lith
theorem Bp {m : Nat} : (m : Int).fdiv (2 ^ (min (32 : Int).toNat IntKind.u64.bits)) = ((m / 4294967296 : Nat) : Int):=by
 rw [yU (by omega)];omega
theorem R2 {m : Nat} : (m : Int).fdiv (2 ^ (min (31 : Int).toNat IntKind.u64.bits)) = ((m / 2147483648 : Nat) : Int):=by
 show (m : Int).fdiv (2 ^ 31) = _
 rw [Int.fdiv_eq_ediv_of_nonneg _ (by decide)];omega
theorem vD {x n : Nat} (hn : n ≤ 32) : x * 2 ^ n % 4294967296 = 2 ^ n * (x % 2 ^ (32 - n)):=by
 have e : (4294967296 : Nat) = 2 ^ n * 2 ^ (32 - n):=by rw [← Nat.pow_add,show n + (32 - n) = 32 by omega]
 rw [Nat.mul_comm,e,Nat.mul_mod_mul_left]
theorem nJ {n : Nat} (hn : n ≤ 32) : (4294967296 : Nat) = 2 ^ n * 2 ^ (32 - n):=by rw [← Nat.pow_add,show n + (32 - n) = 32 by omega]
theorem Ex {x n : Nat} (hn : n ≤ 32) (hx : x < 4294967296) : x * 2 ^ n < 18446744073709551616:=by
 have h1 : 2 ^ n ≤ 2 ^ 32:=Nat.pow_le_pow_right (by omega) hn;have h2 : x * 2 ^ n ≤ x * 2 ^ 32:=Nat.mul_le_mul_left _ h1;omega
theorem vE {a x n : Nat} (hn : n ≤ 32) (ha : a < 2 ^ n) : a + x * 2 ^ n % 4294967296 < 4294967296:=by
 rw [vD hn];have h1 : x % 2 ^ (32 - n) < 2 ^ (32 - n):=Nat.mod_lt _ (Nat.pow_pos (by omega));have h2 : 2 ^ n * (x % 2 ^ (32 - n) + 1) ≤ 2 ^ n * 2 ^ (32 - n):=Nat.mul_le_mul_left _ h1;rw [← nJ hn,Nat.mul_add] at h2;omega
theorem Nq {x n : Nat} (hx : x < 4294967296) : x * 2 ^ n / 4294967296 < 2 ^ n:=by
 rw [Nat.div_lt_iff_lt_mul (by omega),Nat.mul_comm (2 ^ n)];exact Nat.mul_lt_mul_of_pos_right hx (Nat.pow_pos (by omega))
theorem Dc {os xs : List Nat} {i n : Nat} (hn : n ≤ 31) (hi : i < xs.length) (hlo : os.length = xs.length + 1) (hv : val 4294967296 os = 2 ^ n * val 4294967296 (xs.take i)) (hz : os.drop (i + 1) = List.replicate (xs.length - i) 0) (hd : cM 4294967296 os) (h1 : i < os.length) (hc : os[i] < 2 ^ n) (hx : xs[i] < 4294967296) :
 val 4294967296 ((os.set i (os[i] + xs[i] * 2 ^ n % 4294967296)).set (i + 1) (xs[i] * 2 ^ n / 4294967296)) = 2 ^ n * val 4294967296 (xs.take (i + 1)) ∧ ((os.set i (os[i] + xs[i] * 2 ^ n % 4294967296)).set (i + 1) (xs[i] * 2 ^ n / 4294967296)).drop (i + 1 + 1) = List.replicate (xs.length - (i + 1)) 0 ∧ cM 4294967296 ((os.set i (os[i] + xs[i] * 2 ^ n % 4294967296)).set (i + 1) (xs[i] * 2 ^ n / 4294967296)) ∧ (∀ h : i + 1 < ((os.set i (os[i] + xs[i] * 2 ^ n % 4294967296)).set (i + 1) (xs[i] * 2 ^ n / 4294967296)).length,((os.set i (os[i] + xs[i] * 2 ^ n % 4294967296)).set (i + 1) (xs[i] * 2 ^ n / 4294967296))[i + 1] < 2 ^ n):=by
 obtain ⟨z1,z2⟩:=gF hz (by omega);have ht:=Nq (n:=n) hx;have hf:=vE (x:=xs[i]) (by omega) hc;have hp : 2 ^ n ≤ 2 ^ 32:=Nat.pow_le_pow_right (by omega) (by omega);refine ⟨?_,?_,(hd.set hf).set (by omega),?_⟩
 · have e1:=jL (B:=4294967296) (d:=os[i] + xs[i] * 2 ^ n % 4294967296) h1
   have e2:=jL (B:=4294967296) (os:=os.set i (os[i] + xs[i] * 2 ^ n % 4294967296)) (d:=xs[i] * 2 ^ n / 4294967296) (show i + 1 < _ by simp; omega);rw [List.getElem_set_ne (by omega),z1] at e2;rw [dD hi];have e3:=Nat.div_add_mod (xs[i] * 2 ^ n) 4294967296;generalize xs[i] * 2 ^ n / 4294967296 = t at *
   generalize hg : xs[i] * 2 ^ n % 4294967296 = r at *
   rw [Nat.pow_succ] at e2;have e4:=congrArg (4294967296 ^ i * ·) e3;simp only[Nat.mul_add] at e4 e1
   grind
 · rw [iH,mS (by omega),z2]
   congr 1
 · intro h
   rw [List.getElem_set_self];exact ht
theorem J3 {x n : Nat} (hn : n ≤ 32) (hx : x < 4294967296) : x / 2 ^ n < 2 ^ (32 - n):=by
 rw [Nat.div_lt_iff_lt_mul (Nat.pow_pos (by omega)),Nat.mul_comm,← nJ hn];exact hx
theorem xO {os xs : List Nat} {n : Nat} (hn : n ≤ 32) (hi : 0 < xs.length) (hlo : os.length = xs.length) (hv : val 4294967296 os = val 4294967296 (xs.take 0) / 2 ^ n) (hz : os.drop 0 = List.replicate (xs.length - 0) 0) (hd : cM 4294967296 os) (hx : xs[0] < 4294967296) :
 val 4294967296 (os.set 0 (xs[0] / 2 ^ n)) = val 4294967296 (xs.take (0 + 1)) / 2 ^ n ∧ (os.set 0 (xs[0] / 2 ^ n)).drop (0 + 1) = List.replicate (xs.length - (0 + 1)) 0 ∧ cM 4294967296 (os.set 0 (xs[0] / 2 ^ n)):=by
 obtain ⟨z1,z2⟩:=gF hz (by omega);refine ⟨?_,?_,hd.set (Nat.lt_of_le_of_lt (Nat.div_le_self _ _) hx)⟩
 · have e1:=jL (B:=4294967296) (d:=xs[0] / 2 ^ n) (show 0 < os.length by omega)
   rw [z1] at e1;rw [dD hi];simp only[List.take_zero,val,Nat.pow_zero,Nat.one_mul,Nat.zero_add] at hv e1 ⊢;rw [Nat.zero_div] at hv;omega
 · rw [iH,z2]
   congr 1
theorem xP {V x i n : Nat} (hV : V < 4294967296 ^ (i + 1)) (hn : n ≤ 32) : (V + 4294967296 ^ (i + 1) * x) / 2 ^ n = V / 2 ^ n + 4294967296 ^ i * (2 ^ (32 - n) * x):=by
 have e : 4294967296 ^ (i + 1) * x = 2 ^ n * (4294967296 ^ i * (2 ^ (32 - n) * x)):=by
  rw [Nat.pow_succ];have:=nJ hn;generalize 2 ^ n = p at *
  generalize 2 ^ (32 - n) = q at *
  rw [this]
  grind
 rw [e,Nat.add_mul_div_left _ _ (Nat.pow_pos (by omega))]
theorem xQ {os xs : List Nat} {j n : Nat} (hn : n ≤ 32) (hi : j + 1 < xs.length) (hlo : os.length = xs.length) (hv : val 4294967296 os = val 4294967296 (xs.take (j + 1)) / 2 ^ n) (hz : os.drop (j + 1) = List.replicate (xs.length - (j + 1)) 0) (hd : cM 4294967296 os) (hdx : cM 4294967296 xs) (h1 : j < os.length) (hc : os[j] < 2 ^ (32 - n)) :
 val 4294967296 ((os.set (j + 1) (xs[j + 1] / 2 ^ n)).set j (os[j] + xs[j + 1] * 2 ^ (32 - n) % 4294967296)) = val 4294967296 (xs.take (j + 1 + 1)) / 2 ^ n ∧ ((os.set (j + 1) (xs[j + 1] / 2 ^ n)).set j (os[j] + xs[j + 1] * 2 ^ (32 - n) % 4294967296)).drop (j + 1 + 1) = List.replicate (xs.length - (j + 1 + 1)) 0 ∧ cM 4294967296 ((os.set (j + 1) (xs[j + 1] / 2 ^ n)).set j (os[j] + xs[j + 1] * 2 ^ (32 - n) % 4294967296)):=by
 obtain ⟨z1,z2⟩:=gF hz (by omega);have hx : xs[j + 1] < 4294967296:=hdx _ (List.getElem_mem hi);have hf:=vE (x:=xs[j + 1]) (n:=32 - n) (by omega) hc;refine ⟨?_,?_,(hd.set (Nat.lt_of_le_of_lt (Nat.div_le_self _ _) hx)).set hf⟩
 · have e1:=jL (B:=4294967296) (d:=xs[j + 1] / 2 ^ n) (show j + 1 < os.length by omega)
   have e2:=jL (B:=4294967296) (os:=os.set (j + 1) (xs[j + 1] / 2 ^ n)) (j:=j) (d:=os[j] + xs[j + 1] * 2 ^ (32 - n) % 4294967296) (by simp; omega);rw [List.getElem_set_ne (by omega)] at e2;rw [z1] at e1;have hV:=i4 (hdx.take (j + 1));rw [List.length_take,Nat.min_eq_left (by omega)] at hV;rw [dD hi,xP hV hn,← hv];have e3 : 2 ^ (32 - n) * xs[j + 1] = 4294967296 * (xs[j + 1] / 2 ^ n) + xs[j + 1] * 2 ^ (32 - n) % 4294967296:=by
    rw [vD (by omega),show 32 - (32 - n) = n by omega];have h3:=Nat.div_add_mod xs[j + 1] (2 ^ n);have:=nJ hn;generalize 2 ^ n = p at *
    generalize 2 ^ (32 - n) = q at *
    conv=>lhs; rw [← h3]
    rw [this]
    grind
   rw [e3,Nat.mul_add];generalize xs[j + 1] * 2 ^ (32 - n) % 4294967296 = r at *
   generalize xs[j + 1] / 2 ^ n = t at *
   rw [Nat.pow_succ] at e1;simp only[Nat.mul_add] at e2
   grind
 · rw [mS (by omega),iH,z2]
   congr 1
/-! ### Slices of words -/
theorem cG.nil (w : World) : cG w none 0 0 []:=⟨rfl,fun i x hi=>by simp at hi,Nat.le_refl _,by omega,by simp,fun x hx=>by cases hx⟩
theorem cG.drop {w : World} {a : Addr} {n cap : Nat} {xs : List Nat} (h : cG w (some a) n cap xs) {k : Nat} (hk : k ≤ xs.length) {m : Nat} (hm : m = n - k) : cG w (some (a.add k)) m (cap - k) (xs.drop k):=by
 have hl:=h.len;have hc:=h.cap;have he:=h.eq;have hle:=h.le;refine ⟨by rw [hm,he]; simp,fun i x hi=>⟨_,rfl,?_⟩,by simp; omega,by omega,by simp; omega,fun x hx=>h.digs x (List.mem_of_mem_drop hx)⟩;obtain ⟨a',e,hcell⟩:=h.row (k + i) x (by rw [List.getElem?_drop] at hi; exact hi);cases e;rw [show (a.add k).add i = a.add (k + i) from ?_]
 · exact hcell
 · obtain ⟨g,off,ln⟩:=a
   by_cases hk0 : k = 0 <;> by_cases hi0 : i = 0 <;> simp [Addr.add,hk0,hi0,Nat.add_assoc]
theorem cG.head {w : World} {A : Option Addr} {n cap : Nat} {xs : List Nat} (h : cG w A n cap xs) {k : Nat} (hk : k ≤ xs.length) : cG w A k cap (xs.take k):=by
 have:=h.take k;rwa [List.length_take,Nat.min_eq_left hk] at this
theorem cG.words {w : World} {a : Addr} {n cap : Nat} {xs : List Nat} (h : cG w (some a) n cap xs) : pS w a (xs.map iD):=by
 intro j u hj;rw [List.getElem?_map] at hj;cases hq : xs[j]? with
 | none=>rw [hq] at hj; cases hj
 | some x =>
  rw [hq] at hj;cases hj;obtain ⟨a',e,hc⟩:=h.row j x hq;cases e;exact hc
theorem cG.of_owns {w : World} {base n : Nat} {v : Value} {xs : List Nat} {E : TypeId} (h : iS w base E 1 v n (xs.map iD)) (hn : n = xs.length) (hd : cM 4294967296 xs) (hl : n ≤ 17592186044416) : ∃ A c,v = .slice A n c ∧ cG w A n c xs:=by
 rcases h.row with ⟨rfl,h0,h1⟩ | ⟨g,cap,rfl,_,hc,hm,_,hr⟩
 · subst h0
   have : xs = []:=by simpa using h1
   subst this;exact ⟨_,_,rfl,cG.nil w⟩
 · refine ⟨_,_,rfl,hn,fun i x hi=>⟨_,rfl,hr i (iD x) (by rw [List.getElem?_map,hi]; rfl)⟩,by omega,hm,by omega,hd⟩
theorem cG.none {w : World} {n cap : Nat} {xs : List Nat} (h : cG w none n cap xs) : xs = []:=by
 cases xs with
 | nil=>rfl
 | cons x xs=>obtain ⟨a,e,_⟩:=h.row 0 x rfl; cases e
def Nr (xs : List Nat) (v : Value) (w : World) : Prop:=∃ A c,v = .slice A xs.length c ∧ cG w A xs.length c xs
structure W2 (w0 w : World) (v : Value) (g : Nat) (os : List Nat) : Prop where
 val : v = .slice (some ⟨g,0,none⟩) os.length os.length
 new : w0.heap.size ≤ g
 blk : eU w g (os.map iD) 101
 digs : cM 4294967296 os
 len : os.length ≤ 17592186044416
end Go.Lith
namespace Go.Lith
theorem J4 {a b : Nat} : decide (Nl a b < 0) = decide (a < b):=by
 unfold Nl;split
 · simp [*]
 · split <;> simp [*]
theorem cG.src {w : World} {A : Option Addr} {n cap : Nat} {xs : List Nat} (h : cG w A n cap xs) : ∀ (j : Nat) (v : Value),(xs.map iD)[j]? = some v → ∃ a,A = some a ∧ w.cell? (a.add j) = some v:=by
 intro j v hj;rw [List.getElem?_map] at hj;cases hq : xs[j]? with
 | none=>rw [hq] at hj; cases hj
 | some x =>
  rw [hq] at hj;cases hj;exact h.row j x hq
theorem J5 {xs : List Nat} : ∀ u ∈ xs.map iD,u.oneCell' = true:=fun u hu=>by obtain ⟨x,_,rfl⟩:=List.mem_map.1 hu; rfl
theorem cF (n : Nat) : val 4294967296 (digs 4294967296 n) = n:=nI (by omega) n
theorem fX (n : Nat) : fK (digs 4294967296 n):=lI (by omega) n
theorem uD (n : Nat) : cM 4294967296 (digs 4294967296 n):=pV (by omega) n
theorem jX (d : Nat) : val 4294967296 [d] = d:=by simp [val]
theorem nK {d : Nat} (h : d < 4294967296) : cM 4294967296 [d]:=fun x hx=>by simp at hx; omega
theorem l7 (xs : List Nat) : (trim xs).length ≤ xs.length:=by rw [fS]; simp; omega
theorem kY {xs : List Nat} (h : cM 4294967296 xs) : (digs 4294967296 (val 4294967296 xs)).length ≤ xs.length:=fC (by omega) (i4 h)
theorem uV {xs : List Nat} {d : Nat} (h : cM 4294967296 xs) (hd : d < 4294967296) : (digs 4294967296 (val 4294967296 xs * d)).length ≤ xs.length + 1:=by
 refine fC (by omega) ?_;rw [Nat.pow_succ];exact Nat.mul_lt_mul'' (i4 h) hd
def laid (os : List Nat) (off n m : Nat) : List Nat:=os.take off ++ (digs 4294967296 m ++ List.replicate (n - (digs 4294967296 m).length) 0) ++ os.drop (off + n)
theorem Dd {os : List Nat} {off n m : Nat} (h : off + n ≤ os.length) (hm : (digs 4294967296 m).length ≤ n) : (laid os off n m).length = os.length:=by
 simp [laid];omega
theorem pX {os : List Nat} {off n m : Nat} (hd : cM 4294967296 os) : cM 4294967296 (laid os off n m) :=
 ((hd.take _).append ((uD m).append fun x hx=>by rw [List.eq_of_mem_replicate hx]; decide)).append (hd.drop _)
theorem J6 {os : List Nat} {off n m : Nat} (h : off + n ≤ os.length) (hm : (digs 4294967296 m).length ≤ n) :
 val 4294967296 (laid os off n m) + 4294967296 ^ off * val 4294967296 ((os.drop off).take n) = val 4294967296 os + 4294967296 ^ off * m:=by
 have e1 : val 4294967296 os = val 4294967296 (os.take off) + 4294967296 ^ off * (val 4294967296 ((os.drop off).take n) + 4294967296 ^ n * val 4294967296 (os.drop (off + n))):=by
  have e : os = os.take off ++ ((os.drop off).take n ++ os.drop (off + n)):=by
   rw [← List.drop_drop,List.take_append_drop,List.take_append_drop]
  conv=>lhs; rw [e]
  rw [eX,eX];simp only[List.length_take,List.length_drop];rw [Nat.min_eq_left (by omega),Nat.min_eq_left (by omega)]
 have e2 : val 4294967296 (laid os off n m) = val 4294967296 (os.take off) + 4294967296 ^ off * (m + 4294967296 ^ n * val 4294967296 (os.drop (off + n))):=by
  unfold laid;rw [List.append_assoc,eX,eX,eX,fB,cF];simp only[List.length_take,List.length_append,List.length_replicate];rw [Nat.min_eq_left (by omega),show (digs 4294967296 m).length + (n - (digs 4294967296 m).length) = n by omega];simp
 rw [e1,e2]
 grind
theorem Hi {cs us vs : List Value} {off : Nat} (h : off + us.length ≤ cs.length) (hm : vs.length ≤ us.length) : a8 (a8 cs off us) off vs = cs.take off ++ (vs ++ us.drop vs.length) ++ cs.drop (off + us.length):=by
 have hA : (cs.take off).length = off:=by simp; omega
 unfold a8;generalize cs.take off = A at *
 generalize cs.drop (off + us.length) = C at *
 subst hA;rw [List.append_assoc A us C,List.take_left' rfl,List.drop_append,List.drop_eq_nil_of_le (by omega),Nat.add_sub_cancel_left,List.drop_append_of_le_length hm];simp
theorem Hj {os : List Nat} {off n m : Nat} (h : off + n ≤ os.length) (hm : (digs 4294967296 m).length ≤ n) :
 a8 (a8 (os.map iD) off (List.replicate n (.int .u64 0))) off ((digs 4294967296 m).map iD) = (laid os off n m).map iD:=by
 rw [Hi (by simpa using h) (by simpa using hm)];simp [laid,List.drop_replicate,iD,List.map_take,List.map_drop]
end Go.Lith
namespace Go.Lith
theorem m6 {B : Nat} (xs : List Nat) {k : Nat} (hk : k ≤ xs.length) : val B xs = val B (xs.take k) + B ^ k * val B (xs.drop k):=by
 conv=>lhs; rw [← List.take_append_drop k xs]
 rw [eX,List.length_take,Nat.min_eq_left hk]
theorem J7 {P U V two top q : Nat} (hP : 0 < P) (hU : U < (two + 1) * P) (hV : top * P ≤ V) (hq : q * V ≤ U) (ht : 0 < top) : q ≤ two / top:=by
 rw [Nat.le_div_iff_mul_le ht];have h1 : q * (top * P) ≤ q * V:=Nat.mul_le_mul_left _ hV;have h2 : (q * top) * P < (two + 1) * P:=by rw [Nat.mul_assoc]; omega
 have:=Nat.lt_of_mul_lt_mul_right h2;omega
theorem J8 {P U V two3 v2 q g : Nat} (hP : 0 < P) (hU : U < (two3 + 1) * P) (hV : v2 * P ≤ V) (hq : q * V ≤ U) (h : two3 < g * v2) : q < g:=by
 rcases Nat.lt_or_ge q g with hlt | hge
 · exact hlt
 · exfalso
   have h1 : g * (v2 * P) ≤ q * V:=Nat.mul_le_mul hge hV;have h2 : (g * v2) * P < (two3 + 1) * P:=by rw [Nat.mul_assoc]; omega
   have:=Nat.lt_of_mul_lt_mul_right h2;omega
theorem De {P U V two3 v2 q g : Nat} (hU : two3 * P ≤ U) (hV : V < (v2 + 1) * P) (hq : U < (q + 1) * V) (h : g * v2 ≤ two3) (hg : g ≤ v2) : g ≤ q + 1:=by
 rcases Nat.lt_or_ge (q + 1) g with hlt | hge
 · exfalso
   obtain ⟨e,rfl⟩ : ∃ e,g = e + 1:=⟨g - 1,by omega⟩
   have h1 : (q + 1) * V ≤ e * V:=Nat.mul_le_mul_right _ (by omega);have h2 : e * V ≤ e * ((v2 + 1) * P):=Nat.mul_le_mul_left _ (Nat.le_of_lt hV);have h3 : two3 * P < (e * (v2 + 1)) * P:=by rw [Nat.mul_assoc]; omega
   have h4:=Nat.lt_of_mul_lt_mul_right h3;rw [Nat.mul_add] at h4;rw [Nat.add_mul] at h;omega
 · exact hge
theorem yW {U V q g : Nat} (hq : q * V ≤ U) (hq2 : U < (q + 1) * V) (h1 : q ≤ g) (h2 : g ≤ q + 1) : (U < V * g → g - 1 = q) ∧ (¬ U < V * g → g = q):=by
 constructor
 · intro h
   rcases Nat.lt_or_ge q g with hlt | hge
   · omega
   · have : V * g ≤ V * q:=Nat.mul_le_mul_left _ hge
     rw [Nat.mul_comm V q] at this;omega
 · intro h
   rcases Nat.lt_or_ge q g with hlt | hge
   · have : (q + 1) * V ≤ g * V:=Nat.mul_le_mul_right _ hlt
     rw [Nat.mul_comm V g] at h;omega
   · omega
theorem xR {os : List Nat} {off n m : Nat} (h : off + n ≤ os.length) (hm : (digs 4294967296 m).length ≤ n) : val 4294967296 ((laid os off n m).drop off) = m + 4294967296 ^ n * val 4294967296 (os.drop (off + n)):=by
 have hA : (os.take off).length = off:=by simp; omega
 unfold laid;rw [List.append_assoc,List.drop_append,List.drop_eq_nil_of_le (by omega),hA,Nat.sub_self,List.drop_zero,List.nil_append,eX,eX,fB,cF];simp only[List.length_append,List.length_replicate];rw [show (digs 4294967296 m).length + (n - (digs 4294967296 m).length) = n by omega];simp
theorem yX {us vs : List Nat} {i : Nat} (hd : cM 4294967296 vs) (hi : i + vs.length + 1 ≤ us.length) (hH : val 4294967296 (us.drop (i + 1)) < val 4294967296 vs) : val 4294967296 (us.drop (i + (vs.length + 1))) = 0:=by
 have h1:=i4 hd;have h2:=m6 (B:=4294967296) (us.drop (i + 1)) (k:=vs.length) (by simp; omega);rw [List.drop_drop,show i + 1 + vs.length = i + (vs.length + 1) by omega] at h2;rcases Nat.eq_zero_or_pos (val 4294967296 (us.drop (i + (vs.length + 1)))) with h | h
 · exact h
 · have:=Nat.mul_le_mul_left (4294967296 ^ vs.length) h
   omega
theorem sC {us vs : List Nat} {i : Nat} (hd : cM 4294967296 vs) (hi : i + vs.length + 1 ≤ us.length) (hH : val 4294967296 (us.drop (i + 1)) < val 4294967296 vs) : val 4294967296 (us.drop i) = val 4294967296 ((us.drop i).take (vs.length + 1)):=by
 have h2:=m6 (B:=4294967296) (us.drop i) (k:=vs.length + 1) (by simp; omega);rw [List.drop_drop,yX hd hi hH,Nat.mul_zero,Nat.add_zero] at h2;exact h2
theorem Ns {us vs : List Nat} {i : Nat} (hdu : cM 4294967296 us) (hi : i < us.length) (hH : val 4294967296 (us.drop (i + 1)) < val 4294967296 vs) : val 4294967296 (us.drop i) < 4294967296 * val 4294967296 vs:=by
 have e:=kI (B:=4294967296) (xs:=us) (k:=i + 1) (by omega) (by simpa using hi);simp only[Nat.add_sub_cancel] at e;have:=hdu us[i] (List.getElem_mem hi);omega
theorem J9 {us : List Nat} {j n : Nat} (hdu : cM 4294967296 us) (hn : 2 ≤ n) (h0 : j + n < us.length) :
 val 4294967296 ((us.drop j).take (n + 1)) = (us[j + n] * 4294967296 + us[j + n - 1]) * 4294967296 ^ (n - 1) + us[j + n - 2] * 4294967296 ^ (n - 2) + val 4294967296 ((us.drop j).take (n - 2)) ∧ val 4294967296 ((us.drop j).take (n - 2)) < 4294967296 ^ (n - 2):=by
 have hL : (us.drop j).length = us.length - j:=by simp
 have e1:=dD (B:=4294967296) (xs:=us.drop j) (i:=n) (by omega);have e2:=dD (B:=4294967296) (xs:=us.drop j) (i:=n - 1) (by omega);have e3:=dD (B:=4294967296) (xs:=us.drop j) (i:=n - 2) (by omega);rw [show n - 1 + 1 = n by omega] at e2;rw [show n - 2 + 1 = n - 1 by omega] at e3;simp only[List.getElem_drop] at e1 e2 e3;have x2 : us[j + (n - 1)] = us[j + n - 1]:=getElem_congr rfl (by omega) _;have x3 : us[j + (n - 2)] = us[j + n - 2]:=getElem_congr rfl (by omega) _;rw [x2] at e2;rw [x3] at e3;have hp : (4294967296 : Nat) ^ n = 4294967296 * 4294967296 ^ (n - 1):=by rw [← Nat.pow_succ']; congr 1; omega
 have hl:=i4 ((hdu.drop j).take (n - 2));rw [List.length_take,Nat.min_eq_left (by omega)] at hl;refine ⟨?_,hl⟩;rw [e1,e2,e3,hp]
 grind
theorem oH {a b : Nat} : Nl a b < 0 ↔ a < b:=by
 have:=@J4 a b;simpa using this
theorem fH.self {w : World} {A : Option Addr} {n c : Nat} {xs : List Nat} (h : cG w A n c xs) (t : fK xs) : fH (val 4294967296 xs) (.slice A n c) w:=by
 have:=fH.of_trim h rfl;rw [t] at this;rw [h.eq];exact this
theorem fH.zero (w : World) : fH 0 (.slice none 0 0) w:=⟨none,0,rfl,cG.nil w⟩
theorem o9 {xs : List Nat} (t : fK xs) (h : 0 < xs.length) : 0 < xs[xs.length - 1]:=by
 rcases Nat.eq_zero_or_pos (xs[xs.length - 1]) with h0 | h0
 · exfalso
   have e:=tM (xs:=xs) (k:=xs.length) h (by omega);rw [List.take_length,h0] at e;have t2 : trim xs = trim (xs.take (xs.length - 1)):=by conv=>lhs; rw [e,jW]
   have t3 : (trim xs).length = xs.length:=by rw [t]
   have t4:=l7 (xs.take (xs.length - 1));rw [← t2,t3] at t4;simp at t4;omega
 · exact h0
theorem l8 {w : World} {g : Nat} {os : List Nat} (h : eU w g (os.map iD) 101) (hd : cM 4294967296 os) (hl : os.length ≤ 17592186044416) : cG w (some ⟨g,0,none⟩) (trim os).length os.length (trim os):=by
 have:=(h.nat hd rfl hl).take (trim os).length;rwa [← fS] at this
theorem Br {ys : List Nat} (h : 0 < ys.length) : val 4294967296 ys = val 4294967296 (ys.take (ys.length - 1)) + 4294967296 ^ (ys.length - 1) * ys[ys.length - 1]:=by
 have e:=dD (B:=4294967296) (xs:=ys) (i:=ys.length - 1) (by omega);rw [show ys.length - 1 + 1 = ys.length by omega,List.take_length] at e;exact e
theorem Hk {vs ys : List Nat} {sh : Nat} (hdv : cM 4294967296 vs) (hvv : val 4294967296 vs = 2 ^ sh * val 4294967296 ys) (hdy : cM 4294967296 ys) (h : 0 < ys.length) (hsh : ys[ys.length - 1] * 2 ^ sh < 4294967296) (ht : 0 < ys[ys.length - 1]) (hs : sh ≤ 31) : (trim vs).length = ys.length:=by
 have e : trim vs = digs 4294967296 (2 ^ sh * val 4294967296 ys):=iT (by omega) hdv hvv;have hv:=Br h;have hl:=i4 (hdy.take (ys.length - 1));rw [List.length_take,Nat.min_eq_left (by omega)] at hl;have hp : 0 < 2 ^ sh:=Nat.pow_pos (by omega);have hsp:=nJ (n:=sh) (by omega);have hB : (4294967296 : Nat) ^ ys.length = 4294967296 ^ (ys.length - 1) * 4294967296:=by rw [← Nat.pow_succ]; congr 1; omega
 have hQ : (trim vs).length < ys.length → (4294967296 : Nat) ^ (trim vs).length ≤ 4294967296 ^ (ys.length - 1):=fun h=>Nat.pow_le_pow_right (by omega) (by omega);generalize 4294967296 ^ (ys.length - 1) = Q at *
 generalize ys[ys.length - 1] = t at *
 generalize val 4294967296 (ys.take (ys.length - 1)) = l at *
 have h1 : t + 1 ≤ 2 ^ (32 - sh):=by
  rw [hsp,Nat.mul_comm] at hsh;exact Nat.lt_of_mul_lt_mul_left hsh
 have h2 : 2 ^ sh * (t + 1) ≤ 4294967296:=by rw [hsp]; exact Nat.mul_le_mul_left _ h1
 have h3 : val 4294967296 ys < Q * (t + 1):=by rw [hv,Nat.mul_add]; omega
 have h4 : 2 ^ sh * val 4294967296 ys < 4294967296 ^ ys.length:=by
  rw [hB]
  calc 2 ^ sh * val 4294967296 ys < 2 ^ sh * (Q * (t + 1)):=Nat.mul_lt_mul_of_pos_left h3 hp
   _ = Q * (2 ^ sh * (t + 1)):=by grind
   _ ≤ Q * 4294967296:=Nat.mul_le_mul_left _ h2
 have h5:=fC (by omega) h4;rw [← e] at h5;rcases Nat.lt_or_ge (trim vs).length ys.length with hlt | hge
 · exfalso
   have h6:=i4 hdv.trim;rw [nH,hvv] at h6;have h7:=hQ hlt;have h8 : Q * 1 ≤ Q * t:=Nat.mul_le_mul_left _ ht;have h9 : 1 * val 4294967296 ys ≤ 2 ^ sh * val 4294967296 ys:=Nat.mul_le_mul_right _ hp;omega
 · omega
theorem Hl {ys : List Nat} {sh : Nat} (h : 0 < ys.length) (h31 : 2147483648 ≤ ys[ys.length - 1] * 2 ^ sh) : 2147483648 * 4294967296 ^ (ys.length - 1) ≤ 2 ^ sh * val 4294967296 ys:=by
 rw [Br h];generalize 4294967296 ^ (ys.length - 1) = Q at *
 generalize ys[ys.length - 1] = t at *
 have h1 : 2147483648 * Q ≤ t * 2 ^ sh * Q:=Nat.mul_le_mul_right _ h31;rw [Nat.mul_add];have h2 : 2 ^ sh * (Q * t) = t * 2 ^ sh * Q:=by grind
 rw [h2];exact Nat.le_trans h1 (Nat.le_add_left _ _)
theorem Ka {us xs : List Nat} {sh l V : Nat} (hdx : cM 4294967296 xs) (hlu : us.length = xs.length + 1) (hvu : val 4294967296 us = 2 ^ sh * val 4294967296 xs) (hl : l ≤ xs.length) (h0 : 0 < l) (hs : sh ≤ 31) (hV : 2147483648 * 4294967296 ^ (l - 1) ≤ V) : val 4294967296 (us.drop (xs.length + 1 - l)) < V:=by
 have e:=m6 (B:=4294967296) us (k:=xs.length + 1 - l) (by omega);have hx:=i4 hdx;have hp : (4294967296 : Nat) ^ xs.length = 4294967296 ^ (xs.length + 1 - l) * 4294967296 ^ (l - 1):=by rw [← Nat.pow_add]; congr 1; omega
 have hs2 : 2 ^ sh ≤ 2 ^ 31:=Nat.pow_le_pow_right (by omega) hs;rcases Nat.lt_or_ge (val 4294967296 (us.drop (xs.length + 1 - l))) V with h | h
 · exact h
 · exfalso
   generalize val 4294967296 (us.drop (xs.length + 1 - l)) = D at *
   generalize val 4294967296 (us.take (xs.length + 1 - l)) = T at *
   have h1 : 4294967296 ^ (xs.length + 1 - l) * (2147483648 * 4294967296 ^ (l - 1)) ≤ 4294967296 ^ (xs.length + 1 - l) * D:=Nat.mul_le_mul_left _ (Nat.le_trans hV h);have h2 : 4294967296 ^ (xs.length + 1 - l) * (2147483648 * 4294967296 ^ (l - 1)) = 2147483648 * 4294967296 ^ xs.length:=by rw [hp]; grind
   have h3 : 2 ^ sh * val 4294967296 xs ≤ 2147483648 * val 4294967296 xs:=Nat.mul_le_mul_right _ hs2;generalize 4294967296 ^ (xs.length + 1 - l) * D = Z at *
   rw [h2] at h1;generalize (4294967296 : Nat) ^ xs.length = W' at *
   omega
theorem Kb {X Y p u q : Nat} (hp : 0 < p) (h : u + q * (p * Y) = p * X) (hu : u < p * Y) : q = X / Y ∧ u / p = X % Y:=by
 have hY : 0 < Y:=by
  rcases Nat.eq_zero_or_pos Y with h0 | h0
  · subst h0; omega
  · exact h0
 have hd : p ∣ u:=by
  have h1 : p ∣ u + q * (p * Y):=h ▸ Nat.dvd_mul_right p X;have h2 : p ∣ q * (p * Y):=⟨q * Y,by grind⟩
  exact (Nat.dvd_add_iff_left h2).2 h1
 obtain ⟨r,rfl⟩:=hd;have h3 : p * (r + q * Y) = p * X:=by rw [← h]; grind
 have h4:=Nat.eq_of_mul_eq_mul_left hp h3;have h5:=Nat.lt_of_mul_lt_mul_left hu;rw [Nat.mul_div_cancel_left _ hp];have:=v6 (a:=X) (q:=q) (r:=r) hY h5 (by rw [← h4]; grind);exact this
theorem R3 {vs : List Nat} (hd : cM 4294967296 vs) (h : 2 ≤ vs.length) : val 4294967296 vs = (vs[vs.length - 1] * 4294967296 + vs[vs.length - 2]) * 4294967296 ^ (vs.length - 2) + val 4294967296 (vs.take (vs.length - 2)) ∧ val 4294967296 (vs.take (vs.length - 2)) < 4294967296 ^ (vs.length - 2):=by
 have e1:=Br (ys:=vs) (by omega);have e2:=dD (B:=4294967296) (xs:=vs) (i:=vs.length - 2) (by omega);rw [show vs.length - 2 + 1 = vs.length - 1 by omega] at e2;have hl:=i4 (hd.take (vs.length - 2));rw [List.length_take,Nat.min_eq_left (by omega)] at hl;refine ⟨?_,hl⟩;have hp : (4294967296 : Nat) ^ (vs.length - 1) = 4294967296 * 4294967296 ^ (vs.length - 2):=by rw [← Nat.pow_succ']; congr 1; omega
 rw [e1,e2,hp]
 grind
theorem Hm {us ds : List Nat} {i two top sec a3 U : Nat} (hdu : cM 4294967296 us) (hdd : cM 4294967296 ds) (h2 : 2 ≤ ds.length) (hi : i + ds.length < us.length) (hH : val 4294967296 (us.drop (i + 1)) < val 4294967296 ds)
 (htwo : two = us[i + ds.length - 1] + us[i + ds.length] * 4294967296) (htop : top = ds[ds.length - 1]) (hsec : sec = ds[ds.length - 2]) (ha3 : a3 = us[i + ds.length - 2]) (hU : U = val 4294967296 (us.drop i)) :
 ∃ P,0 < P ∧ U < (two + 1) * (4294967296 * P) ∧ top * (4294967296 * P) ≤ val 4294967296 ds ∧ U < (two * 4294967296 + a3 + 1) * P ∧ (two * 4294967296 + a3) * P ≤ U ∧ (top * 4294967296 + sec) * P ≤ val 4294967296 ds ∧ val 4294967296 ds < (top * 4294967296 + sec + 1) * P ∧ U < 4294967296 * val 4294967296 ds:=by
 obtain ⟨hpt,hpl⟩:=J9 hdu h2 hi;obtain ⟨hvt,hvl⟩:=R3 hdd h2;have hUB:=Ns hdu (by omega) hH;rw [← sC hdd (by omega) hH,← hU] at hpt;rw [← hU] at hUB;have hp : (4294967296 : Nat) ^ (ds.length - 1) = 4294967296 * 4294967296 ^ (ds.length - 2):=by rw [← Nat.pow_succ']; congr 1; omega
 have ha : us[i + ds.length - 2] < 4294967296:=hdu _ (List.getElem_mem _);rw [hp,← ha3] at hpt;rw [← ha3] at ha;rw [← htop,← hsec] at hvt;rw [Nat.add_comm (us[i + ds.length] * 4294967296),← htwo] at hpt;refine ⟨4294967296 ^ (ds.length - 2),Nat.pow_pos (by decide),?_⟩;generalize (4294967296 : Nat) ^ (ds.length - 2) = P at *
 generalize val 4294967296 ((us.drop i).take (ds.length - 2)) = lu at *
 generalize val 4294967296 (ds.take (ds.length - 2)) = ld at *
 generalize val 4294967296 ds = V at *
 have h3 : (a3 + 1) * P ≤ 4294967296 * P:=Nat.mul_le_mul_right _ ha;have e1 : (two * 4294967296 + a3) * P = two * (4294967296 * P) + a3 * P:=by grind
 have e2 : (top * 4294967296 + sec) * P = top * (4294967296 * P) + sec * P:=by grind
 rw [Nat.add_mul,Nat.one_mul] at h3;refine ⟨?_,?_,?_,?_,?_,?_,hUB⟩
 · rw [Nat.add_mul,Nat.one_mul]; omega
 · rw [hvt,e2]; omega
 · rw [Nat.add_mul,e1]; omega
 · rw [e1]; omega
 · rw [hvt]; omega
 · rw [hvt,Nat.add_mul (top * 4294967296 + sec)]; omega
theorem Nt {a b : Nat} (h : a * b < 18446744073709551616) : IntKind.u64.wrap ((a : Int) * (b : Int)) = ((a * b : Nat) : Int):=by
 rw [← Int.natCast_mul];generalize a * b = c at *
 exact eP (by omega) (by omega)
theorem Ey {g r top sec two a3 : Nat} (h : g * top + r = two) (hx : a3 + r * 4294967296 < g * sec) : two * 4294967296 + a3 < g * (top * 4294967296 + sec):=by
 subst h;have : g * (top * 4294967296 + sec) = g * top * 4294967296 + g * sec:=by grind
 rw [this,Nat.add_mul];omega
theorem v7 {g r top sec two a3 : Nat} (h : g * top + r = two) (hx : g * sec ≤ a3 + r * 4294967296) : g * (top * 4294967296 + sec) ≤ two * 4294967296 + a3:=by
 subst h;have : g * (top * 4294967296 + sec) = g * top * 4294967296 + g * sec:=by grind
 rw [this,Nat.add_mul];omega
theorem Kc {g s r a : Nat} (hg : g < 4294967296) (hs : s < 4294967296) (hr : 4294967296 ≤ r) : g * s ≤ a + r * 4294967296:=by
 have h1 : g * s ≤ 4294967296 * 4294967296:=Nat.mul_le_mul (by omega) (by omega);omega
theorem pY {g q cap : Nat} (h : ¬ cap = q) : (if cap = q then some (⟨g,0,none⟩ : Addr) else (some (⟨g,0,none⟩ : Addr)).map (·.add (q * 1))) = some ⟨g,q,none⟩:=by
 rw [if_neg h];simp [eY]
theorem pZ {us qs ds : List Nat} {i q U S : Nat} (hdd : cM 4294967296 ds) (hdu : cM 4294967296 us) (hi : i + ds.length < us.length) (hH : val 4294967296 (us.drop (i + 1)) < val 4294967296 ds) (hU : U = val 4294967296 (us.drop i)) (hq1 : q * val 4294967296 ds ≤ U) (hq2 : U < (q + 1) * val 4294967296 ds) (hI : val 4294967296 us + val 4294967296 qs * val 4294967296 ds = S) (hz : qs.take (i + 1) = List.replicate (i + 1) 0) (hiq : i < qs.length) :
 val 4294967296 (laid us i (ds.length + 1) (val 4294967296 ((us.drop i).take (ds.length + 1)) - val 4294967296 ds * q)) + val 4294967296 (qs.set i q) * val 4294967296 ds = S ∧ val 4294967296 ((laid us i (ds.length + 1) (val 4294967296 ((us.drop i).take (ds.length + 1)) - val 4294967296 ds * q)).drop i) < val 4294967296 ds ∧ (qs.set i q).take i = List.replicate i 0 ∧ (laid us i (ds.length + 1) (val 4294967296 ((us.drop i).take (ds.length + 1)) - val 4294967296 ds * q)).length = us.length:=by
 have hp:=sC hdd (by omega) hH;rw [← hp,← hU];have hm : (digs 4294967296 (U - val 4294967296 ds * q)).length ≤ ds.length + 1:=by
  refine fC (by omega) (Nat.lt_of_le_of_lt (Nat.sub_le _ _) ?_);have h:=i4 ((hdu.drop i).take (ds.length + 1));rw [List.length_take,Nat.min_eq_left (by simp; omega),← hp,← hU] at h;exact h
 have hqc : q * val 4294967296 ds = val 4294967296 ds * q:=Nat.mul_comm _ _;refine ⟨?_,?_,?_,Dd (by omega) hm⟩
 · have e1:=J6 (os:=us) (off:=i) (n:=ds.length + 1) (m:=U - val 4294967296 ds * q) (by omega) hm
   rw [← hp,← hU] at e1;have e2:=jL (B:=4294967296) (os:=qs) (j:=i) (d:=q) hiq;have e3 : qs[i] = 0:=by
    have h:=congrArg (fun l=>l[i]?) hz;simp only[List.getElem?_take] at h;rw [if_pos (by omega),List.getElem?_eq_getElem hiq,List.getElem?_replicate,if_pos (by omega)] at h;exact Option.some.inj h
   rw [e3,Nat.mul_zero,Nat.add_zero] at e2;rw [e2,← hI];obtain ⟨r,hr⟩ : ∃ r,U = val 4294967296 ds * q + r:=⟨U - val 4294967296 ds * q,by omega⟩
   rw [hr] at e1 ⊢;rw [Nat.add_sub_cancel_left] at e1 ⊢;generalize val 4294967296 (laid us i (ds.length + 1) r) = L at *
   generalize (4294967296 : Nat) ^ i = Q at *
   generalize val 4294967296 ds = V at *
   generalize val 4294967296 us = W' at *
   generalize val 4294967296 qs = Z at *
   grind
 · rw [xR (by omega) hm,yX hdd (by omega) hH,Nat.mul_zero,Nat.add_zero]
   rw [Nat.add_mul,Nat.one_mul] at hq2;omega
 · rw [List.take_set_of_le (Nat.le_refl i)]
   have h:=congrArg (List.take i) hz;rw [List.take_take,Nat.min_eq_left (by omega),List.take_replicate,Nat.min_eq_left (by omega)] at h;exact h
end Go.Lith
namespace Go.Lith
theorem Bt {r : Nat} (h : r ≤ 4) : (4294967296 : Nat) = 256 ^ r * 256 ^ (4 - r):=by rw [← Nat.pow_add,show r + (4 - r) = 4 by omega]
theorem v8 (r : Nat) : (256 : Nat) ^ r = 2 ^ (8 * r):=by rw [show 256 = 2 ^ 8 from rfl,← Nat.pow_mul]
theorem Ke {x b r : Nat} (hr : r < 4) (hx : x < 4294967296) (hd : 256 ^ (r + 1) ∣ x) (hb : b < 256) : x + b * 256 ^ r < 4294967296:=by
 obtain ⟨c,rfl⟩:=hd;have e:=Bt (r:=r + 1) (by omega);rw [e] at hx ⊢;have h1:=Nat.lt_of_mul_lt_mul_left hx;have h2 : 256 ^ (r + 1) * (c + 1) ≤ 256 ^ (r + 1) * 256 ^ (4 - (r + 1)):=Nat.mul_le_mul_left _ h1;rw [Nat.mul_add,Nat.mul_one] at h2;have h3 : (b + 1) * 256 ^ r ≤ 256 * 256 ^ r:=Nat.mul_le_mul_right _ hb;have h4 : (256 : Nat) ^ (r + 1) = 256 * 256 ^ r:=Nat.pow_succ';have h5 : 0 < (256 : Nat) ^ r:=Nat.pow_pos (by omega);rw [Nat.add_mul,Nat.one_mul] at h3;generalize 256 ^ (r + 1) * 256 ^ (4 - (r + 1)) = Z at *
 generalize 256 ^ (r + 1) * c = Y at *
 omega
theorem Ho {os bs : List Nat} {p j r : Nat} (hp : p < bs.length) (hpj : p = 4 * j + r) (hr : r < 4) (hj : j < os.length) (hd : cM 4294967296 os) (hb : cM 256 bs) (hdv : ∀ (i : Nat) (h : i < os.length),256 ^ (p + 1 - 4 * i) ∣ os[i]) (hv : val 4294967296 os = 256 ^ (p + 1) * val 256 (bs.drop (p + 1))) :
 os[j] + bs[p] * 256 ^ r < 4294967296 ∧ 256 ^ (r + 1) ∣ os[j] ∧ (∀ (i : Nat) (h : i < (os.set j (os[j] + bs[p] * 256 ^ r)).length),256 ^ (p - 4 * i) ∣ (os.set j (os[j] + bs[p] * 256 ^ r))[i]) ∧ val 4294967296 (os.set j (os[j] + bs[p] * 256 ^ r)) = 256 ^ p * val 256 (bs.drop p):=by
 have h1:=hdv j hj;rw [show p + 1 - 4 * j = r + 1 by omega] at h1;have hx:=hd _ (List.getElem_mem hj);have hby:=hb _ (List.getElem_mem hp);refine ⟨Ke hr hx h1 hby,h1,?_,?_⟩
 · intro i h
   by_cases e : i = j
   · subst e
     rw [List.getElem_set_self,show p - 4 * i = r by omega];exact Nat.dvd_add (Nat.dvd_trans (Nat.pow_dvd_pow 256 (by omega)) h1) (Nat.dvd_mul_left _ _)
   · rw [List.getElem_set_ne (by omega)]
     exact Nat.dvd_trans (Nat.pow_dvd_pow 256 (by omega)) (hdv i (by simpa using h))
 · have e1:=jL (B:=4294967296) (os:=os) (j:=j) (d:=os[j] + bs[p] * 256 ^ r) hj
   have e2:=kI (B:=256) (xs:=bs) (k:=p + 1) (by omega) (by simpa using hp);simp only[Nat.add_sub_cancel] at e2;have e3 : (4294967296 : Nat) ^ j * 256 ^ r = 256 ^ p:=by
    rw [show (4294967296 : Nat) = 256 ^ 4 from rfl,← Nat.pow_mul,← Nat.pow_add,hpj]
   rw [e2,← e3];rw [Nat.pow_succ,← e3] at hv;generalize (4294967296 : Nat) ^ j = Q at *
   generalize (256 : Nat) ^ r = R at *
   generalize val 256 (bs.drop (p + 1)) = D at *
   generalize val 4294967296 (os.set j (os[j] + bs[p] * R)) = L at *
   generalize val 4294967296 os = M at *
   subst hv
   grind
end Go.Lith
namespace Go.Lith
def m7 (s : ByteArray) : List Nat:=s.data.toList.reverse.map UInt8.toNat
def R4 (s : ByteArray) : Nat:=val 256 (m7 s)
theorem pA (s : ByteArray) : s.data.toList.length = s.size:=Array.length_toList
theorem qD (s : ByteArray) : (m7 s).length = s.size:=by simp only[m7,List.length_map,List.length_reverse,pA]
theorem Df (s : ByteArray) : cM 256 (m7 s):=fun x hx=>by
 obtain ⟨b,_,rfl⟩:=List.mem_map.1 hx;exact b.toNat_lt
theorem qF (s : ByteArray) (i : Nat) : s[i]? = s.data.toList[i]?:=by
 by_cases h : i < s.size
 · rw [getElem?_pos s i h,List.getElem?_eq_getElem (by rw [pA]; omega)]
   rfl
 · rw [getElem?_neg s i h,List.getElem?_eq_none (by rw [pA]; omega)]
theorem Ez {s : ByteArray} {i p : Nat} (h : p + 1 + i = s.size) : ∃ b,s[i]? = some b ∧ ∃ hp : p < (m7 s).length,(m7 s)[p] = b.toNat:=by
 have hs:=pA s;have hi : i < s.data.toList.length:=by omega
 refine ⟨s.data.toList[i],by rw [qF]; exact List.getElem?_eq_getElem hi,by rw [qD]; omega,?_⟩;simp only[m7,List.getElem_map,List.getElem_reverse]
 congr 2
 omega
theorem iK (n : Int) : R4 (cW n) = n.natAbs:=by
 have e : m7 (cW n) = digs 256 n.natAbs:=by
  simp only[m7,cW,oF,List.reverse_reverse,← List.map_reverse,List.map_map];have hd : cM 256 (digs 256 n.natAbs):=pV (by omega) _;have : ∀ l : List Nat,cM 256 l → l.map (UInt8.toNat ∘ UInt8.ofNat) = l:=by
   intro l hl;refine (List.map_congr_left fun x hx=>?_).trans (List.map_id l);simp only[Function.comp_apply,id_eq,UInt8.toNat_ofNat'];exact Nat.mod_eq_of_lt (hl x hx)
  exact this _ hd
 rw [R4,e,nI (by omega)]
theorem sD {m n : Nat} (h : m < 9223372036854775808) : IntKind.i64.wrap ((m : Int).tdiv (n : Int)) = ((m / n : Nat) : Int):=by
 rw [← Int.ofNat_tdiv];have : m / n ≤ m:=Nat.div_le_self m n;exact aL (by have:=Int.natCast_nonneg (m / n); omega) (by omega)
theorem iC.nat {w : Go.World} {A : Option Go.Addr} {n cap : Nat} {xs : List Nat} {S : Go.World → Prop} (h : cG w A n cap xs) (k : iC w S) : iC w (fun w=>cG w A n cap xs ∧ S w):=⟨h,k⟩
theorem Kf {xs : List Nat} {n : Nat} (h : xs.length ≤ n) : val 256 (xs.drop n) = 0:=by rw [List.drop_of_length_le h]; rfl
end Go.Lith
namespace Go.Lith
def iX (l : List UInt8) : ByteArray:=⟨l.toArray⟩
theorem jY (l : List UInt8) : (iX l).data.toList = l:=by simp [iX]
theorem Hp {l k : List UInt8} (h : iX l = iX k) : l = k:=by rw [← jY l,h,jY]
theorem qU (l : List UInt8) : (iX l).size = l.length:=by rw [← pA,jY]
theorem Hq (l : List UInt8) (i : Nat) : (iX l)[i]? = l[i]?:=by rw [qF,jY]
theorem E0 (l : List UInt8) (n : Nat) : (iX l).extract n (iX l).size = iX (l.drop n):=by
 apply ByteArray.ext;rw [ByteArray.data_extract];apply Array.ext';rw [Array.toList_extract,jY,qU];simp only[iX,List.extract_eq_take_drop,List.toList_toArray];exact List.take_of_length_le (by simp)
theorem Dg (l : List UInt8) : (iX l = ⟨#[]⟩) = (l = []):=by
 apply propext;constructor
 · intro h
   exact Hp (k:=[]) h
 · rintro rfl; rfl
def gB (l : List UInt8) : List UInt8:=l.dropWhile (· == 0)
theorem E1 {l : List UInt8} {b : UInt8} (h : l[0]? = some b) (hb : b.toNat = 0) : gB (l.drop 1) = gB l:=by
 cases l with
 | nil=>cases h
 | cons c l =>
  simp at h;subst h;have : c = 0:=UInt8.toNat_inj.1 hb;subst this;simp [gB]
theorem E4 {l : List UInt8} {b : UInt8} (h : l[0]? = some b) (hb : ¬ b.toNat = 0) : gB l = l:=by
 cases l with
 | nil=>rfl
 | cons c l =>
  simp at h;subst h;have : ¬ c = 0:=fun e=>hb (by rw [e]; rfl);simp [gB,this]
theorem Hr : gB [] = []:=rfl
end Go.Lith
namespace Go.Lith
open Go.RowKit
section
variable {P : Program} {ds : List Deferred} {l : List Value} {x y z0 : Operand} {T T' ty : TypeId}
abbrev Nu (b : UInt8) : Value:=.int .u8 (b.toNat : Int)
theorem wA {w : World} {base n : Nat} {E : TypeId} {v : Value} {bs : List UInt8} (hs : P.underlying T = some (.slice E)) (he : P.underlying E = some (.int .u8)) (hd : P.underlying T' = some .string) (hx : ev l x = v) (hown : iS w base E 1 v n (bs.map Nu)) :
 uT P l (.convert T T' x) ty (.string (iX bs)) w:=fun o ho _=>by
 have hn : bs.length = n:=by have:=hown.1; simpa using this
 rcases hown.row with ⟨rfl,rfl,h⟩ | ⟨g,cap,rfl,_,_,_,_,hr⟩
 · obtain rfl : bs = []:=by simpa using h
   simp only[execOp,ho,cC,hx];rw [Sem.run_bind,run_convert_bytes_nil w T E hs he 0 0 T' hd];rfl
 · subst hn
   have:=run_convert_bytes_back (P:=P) w T T' E ⟨g,0,none⟩ cap bs hs he hd (fun j hj=>hr j _ (by simp [hj]));simp only[execOp,ho,cC,hx];rw [Sem.run_bind,this];rfl
end
structure Kg (w : World) (D : Nat) : Prop where
 h : w.heap[D]? = some (.deferred (some []))
theorem Kg.ext {w w' : World} {D : Nat} (h : Kg w D) (hE : cD w w') : Kg w' D:=⟨hE.block h.h⟩
theorem Kg.ne {w : World} {D g : Nat} {cs : List Value} {t : TypeId} (h : Kg w D) (hB : eU w g cs t) : D ≠ g:=fun e=>by
 subst e;have:=h.h;rw [hB] at this;cases this
theorem Kg.chg {w w' : World} {D g : Nat} (h : Kg w D) (hC : yF w w' g) (hne : D ≠ g) : Kg w' D:=⟨(hC.block D hne).trans h.h⟩
theorem eU.putD {w : World} {D g : Nat} {cs : List Value} {t : TypeId} (hB : eU w g cs t) (h : Kg w D) {o : Obj} : eU (w.putObj D o) g cs t:=(World.putObj_heap_other (Ne.symm (h.ne hB))).trans hB
theorem cD.putD {w0 w : World} {D : Nat} (hX : cD w0 w) (hD : w0.heap.size ≤ D) {o : Obj} : cD w0 (w.putObj D o) :=
 ⟨hX.os,hX.tape,hX.output,by rw [World.putObj_size]; exact hX.size,fun k hk=>(World.putObj_heap_other (by omega)).trans (Below.block hX k hk)⟩
theorem Vj {P : Program} {l : List Value} {n : Nat} {fn : Func} {R : Ending → World → Prop} {D : Nat} {w : World} (hK : Kg w D) (h : bodyPost P fn R .ret (Fr l) (w.putObj D (.deferred none))) :
 bodyPostM Fence.wide n P fn R .ret (Fr l [{ target:=.collected D,args:=#[] }]) w:=by
 refine ⟨by simp,.inl ⟨D,_,rfl,run_takeDeferred hK.h,?_⟩⟩;obtain ⟨_,v,hv,hR⟩:=h;exact ⟨v,hv,hR⟩
end Go.Lith
namespace Go.Lith
def wb (x : Nat) : List UInt8:=[UInt8.ofNat (x / 16777216),UInt8.ofNat (x / 65536),UInt8.ofNat (x / 256),UInt8.ofNat x]
def Dh (l : List (Nat × Nat)) : List UInt8:=l.flatMap fun x=>wb x.2
theorem Kh (l : List (Nat × Nat)) (x : Nat × Nat) : Dh (l ++ [x]) = Dh l ++ wb x.2:=by simp [Dh]
theorem wB (l : List (Nat × Nat)) : (Dh l).length = 4 * l.length:=by
 induction l with
 | nil=>rfl
 | cons x l ih=>rw [Dh,List.flatMap_cons,List.length_append]; rw [Dh] at ih; rw [ih]; simp [wb]; omega
def wC (neg : Bool) (n : Nat) : Int:=if neg then -(n : Int) else n
theorem qV (neg : Bool) (n : Nat) : (wC neg n).natAbs = n:=by cases neg <;> simp [wC]
theorem Bu (neg : Bool) (n : Nat) : b8 (wC neg n) = (neg && decide (n ≠ 0)):=by
 cases neg
 · simp [wC,b8]
 · rcases Nat.eq_zero_or_pos n with h | h
   · subst h; rfl
   · have h2 : n ≠ 0:=by omega
     simp [wC,b8,h,h2]
theorem xS (ys : List Nat) (h : cM 4294967296 ys) : val 256 (((ys.reverse.flatMap wb).reverse).map UInt8.toNat) = val 4294967296 ys ∧ cM 256 (((ys.reverse.flatMap wb).reverse).map UInt8.toNat):=by
 induction ys with
 | nil=>exact ⟨rfl,fun _ h=>by cases h⟩
 | cons y ys ih =>
  have hy:=h y (by simp);obtain ⟨i1,i2⟩:=ih (fun x hx=>h x (by simp [hx]));have e : (((y :: ys).reverse.flatMap wb).reverse).map UInt8.toNat = [y % 256,y / 256 % 256,y / 65536 % 256,y / 16777216 % 256] ++ (((ys.reverse.flatMap wb).reverse).map UInt8.toNat):=by
   simp [List.flatMap_append,wb,UInt8.toNat_ofNat']
  rw [e];refine ⟨?_,?_⟩
  · rw [eX,i1]
    simp only[val,List.length_cons,List.length_nil];omega
  · refine cM.append ?_ i2
    intro x hx;simp at hx;omega
theorem uE {l : List UInt8} : gB l = ((trim ((l.reverse).map UInt8.toNat)).reverse).map UInt8.ofNat:=by
 induction l with
 | nil=>rfl
 | cons b l ih =>
  have hk : ∀ k : List Nat,∀ x : Nat,trim (k ++ [x]) = if x = 0 then trim k else k ++ [x]:=fun k x=>by
   split
   · rename_i h; subst h; exact jW k
   · rename_i h; exact m5 h k
  rw [List.reverse_cons,List.map_append,List.map_cons,List.map_nil,hk];by_cases hb : b = 0
  · subst hb
    rw [if_pos (show UInt8.toNat 0 = 0 from rfl),← ih];simp [gB]
  · have hb' : ¬ b.toNat = 0:=fun e=>hb (UInt8.toNat_inj.1 e)
    rw [if_neg hb'];simp [gB,hb,Function.comp_def]
theorem E5 {ys : List Nat} (h : cM 4294967296 ys) (neg : Bool) : iX (gB (ys.reverse.flatMap wb)) = cW (wC neg (val 4294967296 ys)):=by
 obtain ⟨h1,h2⟩:=xS ys h;rw [uE,iT (by omega) h2 h1,cW,qV,oF];rfl
theorem wD {neg : Bool} {n : Nat} : (cW (wC neg n) = ⟨#[]⟩) ↔ n = 0:=by
 constructor
 · intro h
   have:=yS (wC neg n);rw [h,qV] at this;have h0 : digs 256 n = []:=List.eq_nil_of_length_eq_zero this.symm;exact (mR (by omega)).1 h0
 · rintro rfl
   cases neg <;> rfl
end Go.Lith
namespace Go.Lith
class Bw (k : outParam Nat) (n : Int) : Prop where
 h : Bd k n
instance {a b : Nat} {m n : Int} [x : Bw a m] [y : Bw b n] : Bw (max a b + 1) (m + n):=⟨x.h.add y.h⟩
instance {a b : Nat} {m n : Int} [x : Bw a m] [y : Bw b n] : Bw (max a b + 1) (m - n):=⟨x.h.sub y.h⟩
instance {a b : Nat} {m n : Int} [x : Bw a m] [y : Bw b n] : Bw (a + b) (m * n):=⟨x.h.mul y.h⟩
instance {a : Nat} {m : Int} [x : Bw a m] : Bw a (-m):=⟨x.h.neg⟩
instance : Bw 1 0:=⟨gT 1⟩
theorem Bw.of {n : Int} {k : Nat} [x : Bw k n] (h : k ≤ 1000000:=by decide) : Bd 1000000 n:=x.h.mono h
theorem yY {n : Int} (h : b8 n = true) : n < 0:=of_decide_eq_true h
theorem wE {n : Int} (h : b8 n = false) : 0 ≤ n:=Int.not_lt.1 (of_decide_eq_false h)
theorem natAbs_neg {n : Int} (h : b8 n = true) : (n.natAbs : Int) = -n:=by have:=yY h; omega
theorem e6 {n : Int} (h : b8 n = false) : (n.natAbs : Int) = n:=by have:=wE h; omega
theorem nL (n : Nat) : wC true n = -(n : Int):=rfl
theorem kA (n : Nat) : wC false n = (n : Int):=rfl
theorem sE (a : Int) : wC (b8 a) a.natAbs = a:=by
 cases h : b8 a
 · rw [kA,e6 h]
 · rw [nL,natAbs_neg h]; omega
theorem Nv (a : Int) : wC (!b8 a) a.natAbs = -a:=by
 cases h : b8 a
 · rw [Bool.not_false,nL,e6 h]
 · rw [Bool.not_true,kA,natAbs_neg h]
theorem Nw {a b : Int} (h : b8 a = b8 b) : wC (b8 a) (a.natAbs + b.natAbs) = a + b:=by
 cases ha : b8 a <;> rw [ha] at h
 · have h1:=e6 ha; have h2:=e6 h.symm; rw [kA]; omega
 · have h1:=natAbs_neg ha; have h2:=natAbs_neg h.symm; rw [nL]; omega
theorem R5 {a b : Int} (h : ¬ b8 a = b8 b) (hl : a.natAbs < b.natAbs) : wC (b8 b) (b.natAbs - a.natAbs) = a + b:=by
 cases ha : b8 a <;> cases hb : b8 b <;> rw [ha,hb] at h
 · exact absurd rfl h
 · have h1:=e6 ha; have h2:=natAbs_neg hb; rw [nL]; omega
 · have h1:=natAbs_neg ha; have h2:=e6 hb; rw [kA]; omega
 · exact absurd rfl h
theorem R6 {a b : Int} (h : ¬ b8 a = b8 b) (hl : b.natAbs ≤ a.natAbs) : wC (b8 a) (a.natAbs - b.natAbs) = a + b:=by
 cases ha : b8 a <;> cases hb : b8 b <;> rw [ha,hb] at h
 · exact absurd rfl h
 · have h1:=e6 ha; have h2:=natAbs_neg hb; rw [kA]; omega
 · have h1:=natAbs_neg ha; have h2:=e6 hb; rw [nL]; omega
 · exact absurd rfl h
theorem Nx {a b : Int} : wC (decide (¬ b8 a = b8 b)) (a.natAbs * b.natAbs) = a * b:=by
 cases ha : b8 a <;> cases hb : b8 b
 · have h1:=e6 ha; have h2:=e6 hb
   show ((a.natAbs * b.natAbs : Nat) : Int) = _
   rw [Int.natCast_mul,h1,h2]
 · have h1:=e6 ha; have h2:=natAbs_neg hb
   show -((a.natAbs * b.natAbs : Nat) : Int) = _
   rw [Int.natCast_mul,h1,h2,Int.mul_neg,Int.neg_neg]
 · have h1:=natAbs_neg ha; have h2:=e6 hb
   show -((a.natAbs * b.natAbs : Nat) : Int) = _
   rw [Int.natCast_mul,h1,h2,Int.neg_mul,Int.neg_neg]
 · have h1:=natAbs_neg ha; have h2:=natAbs_neg hb
   show ((a.natAbs * b.natAbs : Nat) : Int) = _
   rw [Int.natCast_mul,h1,h2,Int.neg_mul_neg]
theorem Ny {a b : Int} : wC (decide (¬ b8 a = b8 b)) (a.natAbs / b.natAbs) = a.tdiv b:=by
 cases ha : b8 a <;> cases hb : b8 b
 · have h1:=e6 ha; have h2:=e6 hb
   show ((a.natAbs / b.natAbs : Nat) : Int) = _
   rw [Int.ofNat_tdiv,h1,h2]
 · have h1:=e6 ha; have h2:=natAbs_neg hb
   show -((a.natAbs / b.natAbs : Nat) : Int) = _
   rw [Int.ofNat_tdiv,h1,h2,Int.tdiv_neg,Int.neg_neg]
 · have h1:=natAbs_neg ha; have h2:=e6 hb
   show -((a.natAbs / b.natAbs : Nat) : Int) = _
   rw [Int.ofNat_tdiv,h1,h2,Int.neg_tdiv,Int.neg_neg]
 · have h1:=natAbs_neg ha; have h2:=natAbs_neg hb
   show ((a.natAbs / b.natAbs : Nat) : Int) = _
   rw [Int.ofNat_tdiv,h1,h2,Int.neg_tdiv,Int.tdiv_neg,Int.neg_neg]
theorem Nz {a b : Int} : wC (b8 a) (a.natAbs % b.natAbs) = a.tmod b:=by
 have hb : a.tmod b = a.tmod (b.natAbs : Int):=by
  rcases Int.natAbs_eq b with h | h
  · rw [← h]
  · have : (b.natAbs : Int) = -b:=by omega
    rw [this,Int.tmod_neg]
 rw [hb];cases ha : b8 a
 · have h1:=e6 ha
   rw [kA,Int.ofNat_tmod,h1]
 · have h1:=natAbs_neg ha
   rw [nL,Int.ofNat_tmod,h1,Int.neg_tmod,Int.neg_neg]
def dL (n : Int) : Int:=if n < 0 then -1 else if 0 < n then 1 else 0
theorem lU {n : Int} (h : n < 0) : dL n = -1:=by rw [dL,if_pos h]
theorem lV {n : Int} (h : 0 < n) : dL n = 1:=by rw [dL,if_neg (by omega),if_pos h]
def j5 : Nat → Nat
 | 0=>0
 | n + 1=>if (j5 n + 1) * (j5 n + 1) ≤ n + 1 then j5 n + 1 else j5 n
theorem wF : ∀ n,j5 n * j5 n ≤ n ∧ n < (j5 n + 1) * (j5 n + 1)
 | 0=>by simp [j5]
 | n + 1=>by
  obtain ⟨h1,h2⟩:=wF n;simp only[j5];split
  · rename_i h
    refine ⟨h,?_⟩;have : (j5 n + 1 + 1) * (j5 n + 1 + 1) = (j5 n + 1) * (j5 n + 1) + 2 * j5 n + 3:=by grind
    omega
  · rename_i h
    exact ⟨by omega,by omega⟩
theorem l9 {k V : Nat} (h : V < 2 ^ k) : (digs 4294967296 V).length ≤ k:=by
 refine fC (by omega) (Nat.lt_of_lt_of_le h ?_);rw [show (4294967296 : Nat) = 2 ^ 32 from rfl,← Nat.pow_mul];exact Nat.pow_le_pow_right (by omega) (by omega)
theorem iL {n : Int} (h : Bd 1000000 n) : (cW n).size ≤ 1000000000000:=Nat.le_trans (Bn h) (by decide)
theorem Hs {k : Nat} {a b : Int} (ha : Bd k a) (hb : Bd k b) : (digs 4294967296 (a.natAbs + b.natAbs)).length ≤ k + 1:=l9 (by unfold Bd at ha hb; rw [Nat.pow_succ]; omega)
theorem mA {k : Nat} {n : Int} (h : Bd k n) : (digs 4294967296 n.natAbs).length ≤ k:=l9 h
theorem By {m n : Nat} (h : m ≤ n) : (digs 4294967296 m).length ≤ (digs 4294967296 n).length:=by
 refine fC (by omega) (Nat.lt_of_le_of_lt h ?_);have:=i4 (uD n);rwa [cF] at this
theorem Bz {a : Int} : (((digs 4294967296 a.natAbs).length : Int) = 0) ↔ a = 0:=by
 constructor
 · intro h
   have h0 : digs 4294967296 a.natAbs = []:=List.eq_nil_of_length_eq_zero (by omega);have:=(mR (by omega)).1 h0;omega
 · rintro rfl; rfl
end Go.Lith
namespace Go.Lith
def kW (n : Int) : Prop:=-9223372036854775808 ≤ n ∧ n < 9223372036854775808
theorem kW.bd {n : Int} (h : kW n) : Bd 64 n:=Bd.of_i64 h.1 (by have:=h.2; omega)
theorem Ki {n : Int} (h : kW n) (h0 : 0 ≤ n) : IntKind.u64.wrap n = (n.natAbs : Int):=by
 rw [iJ]; have:=h.2; omega
theorem Ga {n : Int} (h : kW n) (h0 : n < 0) : IntKind.u64.wrap n = ((18446744073709551616 - n.natAbs : Nat) : Int):=by
 rw [iJ]; have:=h.1; omega
theorem yZ {m : Nat} (h : m ≤ 9223372036854775808) (h0 : 0 < m) : IntKind.u64.wrap (0 - ((18446744073709551616 - m : Nat) : Int)) = (m : Int):=by
 rw [iJ]; omega
theorem y7 {m : Nat} : val 4294967296 [m % 4294967296,m / 4294967296] = m:=by simp [val]; omega
theorem wG {m : Nat} (h : m < 18446744073709551616) : cM 4294967296 [m % 4294967296,m / 4294967296]:=fun x hx=>by simp at hx; omega
theorem kW.natAbs {n : Int} (h : kW n) : n.natAbs ≤ 9223372036854775808:=by have:=h.1; have:=h.2; omega
theorem Kj {X Y : Nat} : Nat.gcd Y (X % Y) = Nat.gcd X Y:=by rw [Nat.gcd_comm X Y,Nat.gcd_rec Y X,Nat.gcd_comm]
theorem Kk (n : Nat) : j5 n ≤ n:=by
 have h:=(wF n).1;rcases Nat.eq_zero_or_pos (j5 n) with h0 | h0
 · omega
 · exact Nat.le_trans (Nat.le_mul_of_pos_left _ h0) h
def Qc (n d : Int) : Go.Value:=.agg #[.bool (b8 n),.string (cW n),.bool (b8 d),.string (cW d)]
def Q (q : Rat) : Go.Value:=Qc q.num q.den
theorem Di {n d : Int} (h : d ≠ 0) : d.tdiv ((Int.gcd n d : Int) * dL d) = ((Rat.divInt n d).den : Int) ∧ (Int.gcd n d : Int) * dL d ≠ 0:=by
 have hg : (Int.gcd n d : Int) ≠ 0:=by
  intro e;have:=Int.gcd_eq_zero_iff.1 (show Int.gcd n d = 0 by omega);exact h this.2
 have hgd : (Int.gcd n d : Int) ∣ d:=Int.gcd_dvd_right ..;rw [Rat.den_divInt,if_neg h,Int.gcd_comm d n];obtain ⟨c,hc⟩:=hgd;generalize (Int.gcd n d) = g at *
 rcases Int.lt_trichotomy d 0 with h0 | h0 | h0
 · rw [lU h0]
   refine ⟨?_,by omega⟩;rw [show (g : Int) * -1 = -(g : Int) by omega,Int.tdiv_neg,← Int.neg_tdiv];rw [Int.natCast_ediv,show (d.natAbs : Int) = -d by omega];exact Int.tdiv_eq_ediv_of_nonneg (by omega)
 · exact absurd h0 h
 · rw [lV h0,Int.mul_one]
   refine ⟨?_,hg⟩;rw [Int.natCast_ediv,show (d.natAbs : Int) = d by omega];exact Int.tdiv_eq_ediv_of_nonneg (by omega)
theorem Dj {n d : Int} (h : d ≠ 0) : n.tdiv ((Int.gcd n d : Int) * dL d) = (Rat.divInt n d).num:=by
 rw [Rat.num_divInt,Int.gcd_comm d n];have hgn : (Int.gcd n d : Int) ∣ n:=Int.gcd_dvd_left ..;obtain ⟨c,hc⟩:=hgn;have hg : (Int.gcd n d : Int) ≠ 0:=by
  intro e;have:=Int.gcd_eq_zero_iff.1 (show Int.gcd n d = 0 by omega);exact h this.2
 generalize (Int.gcd n d) = g at *
 subst hc;rcases Int.lt_trichotomy d 0 with h0 | h0 | h0
 · rw [lU h0,Int.sign_eq_neg_one_of_neg h0,show (g : Int) * -1 = -(g : Int) by omega,Int.tdiv_neg,Int.mul_tdiv_cancel_left _ hg,Int.neg_one_mul,Int.neg_ediv_of_dvd (Int.dvd_mul_right ..),Int.mul_ediv_cancel_left _ hg]
 · exact absurd h0 h
 · rw [lV h0,Int.sign_eq_one_of_pos h0,Int.mul_one,Int.mul_tdiv_cancel_left _ hg,Int.one_mul,Int.mul_ediv_cancel_left _ hg]
theorem R7 {n d : Int} (h : d ≠ 0) : (Rat.divInt n d).num.natAbs ≤ n.natAbs:=by
 rw [← Dj h,Int.natAbs_tdiv]; exact Nat.div_le_self ..
theorem R8 {n d : Int} (h : d ≠ 0) : (Rat.divInt n d).den ≤ d.natAbs:=by
 have:=(Di (n:=n) h).1;have e : ((Rat.divInt n d).den : Int).natAbs ≤ d.natAbs:=by rw [← this,Int.natAbs_tdiv]; exact Nat.div_le_self ..
 simpa using e
class Bq (k : outParam Nat) (q : Rat) : Prop where
 n : Bd k q.num
 d : Bd k (q.den : Int)
theorem Bq.num {k : Nat} {q : Rat} (h : Bq k q) : Bw k q.num:=⟨h.n⟩
theorem Bq.den {k : Nat} {q : Rat} (h : Bq k q) : Bw k (q.den : Int):=⟨h.d⟩
theorem Bq.mk' {a b : Nat} {n d : Int} (x : Bd a n) (y : Bd b d) (h : d ≠ 0) : Bq (max a b) (Rat.divInt n d) :=
 ⟨(x.of_le (R7 h)).mono (Nat.le_max_left ..),(y.of_le (by have:=R8 (n:=n) h; simpa using this)).mono (Nat.le_max_right ..)⟩
def Kl (p q : Rat) : Int:=dL (p.num * q.den - q.num * p.den)
theorem gU {p q : Rat} : Kl p q < 0 ↔ p < q:=by
 rw [Rat.lt_iff,Kl];generalize p.num * q.den = a; generalize q.num * p.den = b;simp only[dL];split
 · simp; omega
 · split <;> simp <;> omega
theorem p3 {p q : Rat} : 0 < Kl p q ↔ q < p:=by
 rw [Rat.lt_iff,Kl];generalize p.num * q.den = a; generalize q.num * p.den = b;simp only[dL];split
 · simp; omega
 · split <;> simp <;> omega
end Go.Lith
namespace Go.Lith
open Go.RowKit
theorem iS.full {w : World} {base g n : Nat} {E : TypeId} {cs : List Value} (hB : eU w g cs E) (hb : base ≤ g) (hn : cs.length = n) (hl : n ≤ 9223372036854775807) : iS w base E 1 (.slice (some ⟨g,0,none⟩) n n) n cs:=by
 refine ⟨by simpa using hn,.inr ⟨g,n,cs.toArray,rfl,hb,hB,Nat.le_refl _,hl,by simpa using hn,?_⟩⟩;simp [← hn]
theorem cD.ext {a b c : World} (h : cD a b) (k : cD b c) : cD a c:=h.trans k
theorem cG.grew {w0 w w' : World} {A : Option Addr} {n cap base : Nat} {xs : List Nat} (h : cG w0 A n cap xs) (hE : cD w0 w) (hG : m0 w w' base) (hb : w0.heap.size ≤ base) : cG w' A n cap xs :=
 ⟨h.eq,fun i x hi=>by
  obtain ⟨a,e,hc⟩:=h.row i x hi;have h1:=World.block_lt_of_cell? _ _ hc;have h2:=hE.cell hc;exact ⟨a,e,(World.cell?_of_block (hG.block _ (Nat.lt_of_lt_of_le h1 hb))).trans h2⟩,h.le,h.cap,h.len,h.digs⟩
end Go.Lith
