/-
 Texts of one claim, laid together: Ext, Ops, Al, Ops2, Upd, Held, Eq, Facts, Nat, Nat2, Nat3, Nat4, Nat5, Nat6, Nat7, Nat8, Ops3, Nat9, Nat10, Nat11, Nat12.
-/
import Derived.WalkKit
import Derived.StillTail
import Derived.Deep.Quiet
import Derived.BigQuiet
import Derived.Laws.Rows
import Derived.Laws.IdiomCopy
import Derived.Laws.CopyRow
import Derived.OrdersHeld
import Derived.Laws.StructEq
import Derived.ChangeKeysEq
import Derived.Test.YtimjandkmfcmiaaGreatDoorProg
import Derived.Laws.IdiomStrings
import Derived.Laws.BytesArg
import Derived.RangeFuncBox
import Derived.RangeFuncLeaves
set_option linter.unusedSimpArgs false
set_option linter.unusedVariables false
set_option linter.unusedSectionVars false
namespace Go.Lith
open Go.RowKit
def dL (w w' : World) : Prop:=Below w.heap.size w w'
theorem dL.refl (w : World) : dL w w:=Below.refl _ _
theorem dL.size {w w' : World} (h : dL w w') : w.heap.size ≤ w'.heap.size:=Below.size h
theorem dL.trans {a b c : World} (h : dL a b) (k : dL b c) : dL a c:=Below.trans h (Below.mono k h.size)
theorem dL.drawn {w w' : World} (h : dL w w') : dL w { w' with drawn:=w'.drawn + 1 }:=Below.drew h
theorem dL.alloc {w w' : World} (h : dL w w') (o : Obj) : dL w (w'.alloc o):=Below.alloc h h.size o
theorem dL.block {w w' : World} (h : dL w w') {k : Nat} {o : Obj} (hk : w.heap[k]? = some o) : w'.heap[k]? = some o :=
 (Below.block h k (Array.getElem?_eq_some_iff.1 hk).1).trans hk
theorem dL.cell {w w' : World} (h : dL w w') {p : Addr} {v : Value} (hp : w.cell? p = some v) : w'.cell? p = some v :=
 (Below.cell h (World.block_lt_of_cell? _ _ hp)).trans hp
section
variable {P : Program} {ops : Array Oper} {md : Region.Mode} {C : World → Prop}
def Aj (P : Program) (md : Region.Mode) (ops : Array Oper) (C : World → Prop) (n : Nat) (L : Array Bool → Act → Prop) : Nat → Array Bool → Act → Prop
 | 0,listed,a=>L listed a
 | f + 1,listed,a =>
  Region.ready md ops listed ≠ [] ∧ ∀ i ∈ Region.ready md ops listed,i < n ∧ qOp P ops C i (Aj P md ops C n L f (listed.setIfInBounds i true)) a
theorem sW {n g : Nat} {L : Array Bool → Act → Prop} {Q' : Exit → Act → World → Prop} (hL : ∀ listed a,L listed a → ∀ w,C w → wpAny P md ops Q' g listed a w) :
 ∀ (f : Nat) (listed : Array Bool) (a : Act) (w : World),C w → Aj P md ops C n L f listed a → wpAny P md ops Q' (f + g) listed a w
 | 0,listed,a,w,hw,h=>by rw [Nat.zero_add]; exact hL _ _ h w hw
 | f + 1,listed,a,w,hw,h=>by
  rw [show f + 1 + g = (f + g) + 1 by omega];exact ⟨fun h0=>absurd h0 h.1,fun i hi=>wpOp_of_qOp hw (fun a' w' hw' h'=>sW hL f _ a' w' hw' h') (h.2 i hi).2⟩
theorem Fj {n i : Nat} {oi : Oper} {v : Value} {L : Array Bool → Act → Prop} (hi : ops[i]? = some oi) (hsel : ∀ (j : Nat) (o : Oper) cs b,ops[j]? = some o → o.op ≠ .select cs b)
 (hs : Region.sinkB md ops n = true) (hc : Region.chainB md ops n = true) (hn : n < ops.size) (hin : i < n)
 (hdone : ∀ listed a,L listed a → ∀ j ∈ Region.ready md ops listed,n ≤ j) :
 ∀ (f : Nat) (listed : Array Bool) (a : Act),HeadInv md ops n listed →
  (∀ j oj,ops[j]? = some oj → j ≠ i → listed.getD j true = false → (∀ e ∈ oj.after,Region.binds md e = true → e.on ≠ i) → oi.apart ops oj = true) →
  i ∈ Region.ready md ops listed → YieldsIn P ops C oi v a →
  Aj P md ops C n L f (listed.setIfInBounds i true) (a.put oi.dst v) → Aj P md ops C n L (f + 1) listed a:=by
 intro f
 induction f with
 | zero =>
  intro listed a inv _ hr hy H;have hun:=(mem_ready.1 hr).1;refine ⟨fun h=>(by rw [h] at hr; cases hr),fun j hj=>?_⟩;have hjn : j < n:=by
   rcases Nat.lt_or_ge j n with h | h
   · exact h
   · exact absurd hj (tail_waits hs hc hn inv _ i rfl hin hun j h)
  refine ⟨hjn,?_⟩;by_cases hji : j = i
  · subst hji; exact hy.qOp hi H
  · have:=hdone _ _ H j (ready_mono hj hji)
    omega
 | succ f ih =>
  intro listed a inv hfree hr hy H;have hun:=(mem_ready.1 hr).1;refine ⟨fun h=>(by rw [h] at hr; cases hr),fun j hj=>?_⟩;have hjn : j < n:=by
   rcases Nat.lt_or_ge j n with h | h
   · exact h
   · exact absurd hj (tail_waits hs hc hn inv _ i rfl hin hun j h)
  refine ⟨hjn,?_⟩;by_cases hji : j = i
  · subst hji; exact hy.qOp hi H
  · have h1:=(H.2 j (ready_mono hj hji)).2
    obtain ⟨hjun,oj,hoj,hall⟩:=mem_ready.1 hj;have hnot : ∀ e ∈ oj.after,Region.binds md e = true → e.on ≠ i:=fun e he hb heq=>by
     have h1:=hall e he hb;rw [heq,getD_both hun] at h1;cases h1
    have h2:=qOp_put hoj (hfree j oj hoj hji hjun hnot) (fun cs b=>hsel i oi cs b hi) (fun cs b=>hsel j oj cs b hoj) hy h1;have hfree' : ∀ k ok,ops[k]? = some ok → k ≠ i → (listed.setIfInBounds j true).getD k true = false →
     (∀ e ∈ ok.after,Region.binds md e = true → e.on ≠ i) → oi.apart ops ok = true:=fun k ok hk hki hun hno=>by
     refine hfree k ok hk hki ?_ hno;by_cases hjk : j = k
     · subst hjk; exact hjun
     · rw [getD_set_ne true hjk] at hun; exact hun
    refine qOp_mono (fun a' h3=>ih (listed.setIfInBounds j true) a' (inv.set hj hjn) hfree' (ready_mono hr (Ne.symm hji)) h3.1 ?_) h2;rw [Array.setIfInBounds_comm _ _ hji];exact h3.2
theorem Ak {n g : Nat} {Lq : Act → Prop} (hsel : Region.noSelect ops = true) (hs : Region.sinkB md ops n = true) (hc : Region.chainB md ops n = true) (hn : n < ops.size) :
 ∀ (l : List Oper) (k : Nat) (listed : Array Bool) (a : Act),(∀ j,j < l.length → l[j]? = ops[k + j]?) → k + l.length = n → HeadInv md ops n listed →
 Region.lexHead md ops g l.length k listed = true → wpQuiet P ops C Lq l a →
 Aj P md ops C n (fun listed' a'=>Region.seqB md ops g n listed' = true ∧ Lq a') l.length listed a
 | [],k,listed,a,_,hk,_,hB,h=>by
  have : k = n:=by simpa using hk
  subst this;exact ⟨by simpa [Region.lexHead] using hB,h⟩
 | o :: l,k,listed,a,hl,hk,inv,hB,h=>by
  have h0 : ops[k]? = some o:=by simpa using (hl 0 (by simp)).symm
  simp only[List.length_cons,Region.lexHead,Bool.and_eq_true] at hB;obtain ⟨⟨hr,hf⟩,hB'⟩:=hB;have hkn : k < n:=by simp only[List.length_cons] at hk; omega
  have hr' : k ∈ Region.ready md ops listed:=by simpa using hr
  have hst : qOp P ops C k (wpQuiet P ops C Lq l) a:=by unfold qOp; simp only[h0]; exact h
  obtain ⟨v,hy,hK⟩:=yieldsIn_of_qOp h0 hst;exact Fj h0 (Region.noSelect_spec hsel) hs hc hn hkn (fun listed' a' hL=>seqB_ready hL.1) l.length listed a inv (Region.free_spec h0 hf) hr' hy
   (Ak hsel hs hc hn l (k + 1) _ _ (fun j hj=>by have:=hl (j + 1) (by simp; omega); simpa [Nat.add_assoc,Nat.add_comm 1 j] using this) (by simp only[List.length_cons] at hk; omega) (inv.set hr' hkn) hB' hK)
theorem nP {id : Nat} {Q : Exit → Act → World → Prop} {a : Act} {w : World} {l : List Oper} (n : Nat) (hm : P.follows .mixedOrders = true) (hB : Region.lexTailB .any l.toArray n = true)
 (hC : C { w with drawn:=w.drawn + 1 })
 (h : wpQuiet P l.toArray C (fun a'=>∀ w',C w' → wpList P l.toArray Q (l.drop n) a' w') (l.take n) a) : (Code.region id l.toArray true).wp P Q a w:=by
 simp only[Region.lexTailB,Bool.and_eq_true,decide_eq_true_eq] at hB;obtain ⟨⟨⟨⟨hsel,hn⟩,hs⟩,hc⟩,hlex⟩:=hB;have hn' : n < l.length:=by simpa using hn
 have htl : (l.take n).length = n:=by simp; omega
 have hdl : (l.drop n).length = l.toArray.size - n:=by simp
 have inv0 : HeadInv .any l.toArray n (Array.replicate l.toArray.size false) :=
  ⟨by simp,fun j oj _ hl=>(by rw [getD_replicate_false] at hl; cases hl),fun t _ ht=>getD_in (by simpa using ht) (getD_replicate_false _ _)⟩
 have H:=Ak (md:=.any) (g:=l.toArray.size - n) hsel hs hc hn (l.take n) 0 _ a (fun j hj=>by
  have hj' : j < n:=by rw [htl] at hj; exact hj
  simp [hj']) (by simpa using htl) inv0 (by rw [htl]; exact hlex) h
 refine wp_region_any hm ?_;have:=sW (Q':=Q) (g:=l.toArray.size - n) (fun listed a' hL w' hw'=>by
  have:=wpAny_of_seq (md:=.any) (Q':=Q) (l.drop n) n listed a' w' (fun j=>by simp [List.getElem?_drop]) (by rw [hdl]; exact hL.1) (hL.2 w' hw');rwa [hdl] at this) _ _ _ _ hC H
 rw [htl,show n + (l.toArray.size - n) = l.toArray.size by omega] at this;exact this
theorem iW {id : Nat} {Q : Exit → Act → World → Prop} {a : Act} {w : World} {l : List Oper} (n : Nat) (hm : P.follows .mixedOrders = true) (hB : Region.lexTailB .any l.toArray n = true)
 (h : wpQuiet P l.toArray (dL w) (fun a'=>∀ w',dL w w' → wpList P l.toArray Q (l.drop n) a' w') (l.take n) a) : (Code.region id l.toArray true).wp P Q a w :=
 nP (C:=dL w) n hm hB (dL.refl w).drawn h
theorem gR {id : Nat} {Q : Exit → Act → World → Prop} {a : Act} {w : World} {l : List Oper} (hm : P.follows .mixedOrders = true) (hB : Region.lexB .any l.toArray = true)
 (h : wpQuiet P l.toArray (dL w) (fun a'=>∀ w',dL w w' → Q .normal a' w') l a) : (Code.region id l.toArray true).wp P Q a w :=
 wp_region_quiet (C:=dL w) hm hB (dL.refl w).drawn (by simpa using h)
def xE (md : Region.Mode) (ops : Array Oper) : List (Nat × Bool) → Array Bool → Bool
 | [],listed=>(Region.ready md ops listed).isEmpty
 | (i,true) :: r,listed=>(ops[i]?).isSome && Region.free md ops listed i && (Region.ready md ops listed).contains i && xE md ops r (listed.setIfInBounds i true)
 | (i,false) :: r,listed=>(ops[i]?).isSome && decide (Region.ready md ops listed = [i]) && xE md ops r (listed.setIfInBounds i true)
def eS (P : Program) (ops : Array Oper) (Q : Exit → Act → World → Prop) : List (Oper × Bool) → Act → World → Prop
 | [],a,w=>Q .normal a w
 | (o,true) :: r,a,w=>∃ v,Yields P ops o v a ∧ eS P ops Q r (a.put o.dst v) w
 | (o,false) :: r,a,w=>wpList P ops (Exit.then (eS P ops Q r) Q) [o] a w
theorem rS {Q : Exit → Act → World → Prop} (hs : Region.noSelect ops = true) (hQ : ∀ c d v a w,Q (.panic c) (Act.put a d v) w → Q (.panic c) a w) : ∀ (l : List (Nat × Bool)) (listed : Array Bool) (a : Act) (w : World),
 xE md ops l listed = true → eS P ops Q (l.map fun x=>((ops[x.1]?).getD default,x.2)) a w → wpAny P md ops Q l.length listed a w
 | [],listed,a,w,hB,h=>⟨by simpa [xE] using hB,h⟩
 | (i,true) :: r,listed,a,w,hB,h=>by
  simp only[xE,Bool.and_eq_true] at hB;obtain ⟨⟨⟨h1,h2⟩,h3⟩,h4⟩:=hB;obtain ⟨o,ho⟩:=Option.isSome_iff_exists.1 h1;simp only[List.map_cons,eS,ho,Option.getD_some] at h;obtain ⟨v,hy,hr⟩:=h;exact wpAny_take ho hs h2 h3 (fun c a w=>hQ c _ v a w) hy (rS hs hQ r _ _ _ h4 hr)
 | (i,false) :: r,listed,a,w,hB,h=>by
  simp only[xE,Bool.and_eq_true,decide_eq_true_eq] at hB;obtain ⟨⟨h1,h2⟩,h4⟩:=hB;obtain ⟨o,ho⟩:=Option.isSome_iff_exists.1 h1;refine wpAny_all h2 (by simp) fun j hj=>?_;obtain rfl : j = i:=by simpa using hj
  simp only[List.map_cons,eS,ho,Option.getD_some] at h;have key : ∀ a' w',Exit.then (eS P ops Q (r.map fun x=>((ops[x.1]?).getD default,x.2))) Q .normal a' w' → wpAny P md ops Q r.length (listed.setIfInBounds j true) a' w':=fun a' w' hh=>rS hs hQ r _ a' w' h4 hh
  unfold wpOp;simp only[ho];simp only[wpList] at h;split
  · rename_i hw
    rw [if_pos hw] at h;rcases h with h | ⟨ha,x,y,hl⟩
    · refine .inl ?_
      unfold Oper.wp at h ⊢;generalize (execOp a.eval o).run P w = res at *
      cases res with
      | ok n w' =>
       cases n <;> simp only[Oper.upon] at h ⊢ <;>
        first
         | exact key _ _ h
         | exact Calls.mono h (fun e w'' he=>by cases e <;> first | exact key _ _ he | exact he)
         | exact Rows.mono h (fun _ _ he=>key _ _ he)
      | halt x w'=>cases x <;> simp only[Oper.upon] at h ⊢ <;> exact h
    · exact .inr ⟨ha,x,y,hl⟩
  · rename_i hw
    rw [if_neg hw] at h;exact key _ _ h
theorem De {id : Nat} {Q : Exit → Act → World → Prop} {a : Act} {w : World} {l : List Oper} (o : List (Nat × Bool)) (hm : P.follows .mixedOrders = true) (hB : (Region.noSelect l.toArray && decide (o.length = l.length) && xE .any l.toArray o (Array.replicate l.toArray.size false)) = true)
 (hQ : ∀ c d v a w,Q (.panic c) (Act.put a d v) w → Q (.panic c) a w) {ol : List (Oper × Bool)} (hol : (o.map fun x=>((l.toArray[x.1]?).getD default,x.2)) = ol)
 (h : ∀ w',dL w w' → eS P l.toArray Q ol a w') : (Code.region id l.toArray true).wp P Q a w:=by
 simp only[Bool.and_eq_true,decide_eq_true_eq] at hB;subst hol;refine wp_region_any hm ?_;have:=rS (md:=.any) hB.1.1 hQ o _ a { w with drawn:=w.drawn + 1 } hB.2 (h _ (dL.refl w).drawn);rwa [hB.1.2] at this
end
end Go.Lith
namespace Go.Lith
open Go.RowKit
abbrev Fr (l : List Value) (ds : List Deferred:=[]) : Act:={ tmps:=l.toArray,defers:=ds }
def fW (w : World) (g : Nat) (cs : List Value) (t : TypeId) : Prop:=w.heap[g]? = some (.cells cs.toArray t (0,0))
structure Mm (w w' : World) (g : Nat) : Prop where
 os : w'.os = w.os
 tape : w'.tape = w.tape
 output : w'.output = w.output
 size : w'.heap.size = w.heap.size
 block : ∀ k,k ≠ g → w'.heap[k]? = w.heap[k]?
def qS (w : World) (a : Addr) (cs : List Value) : Prop:=∀ j u,cs[j]? = some u → w.cell? (a.add j) = some u
theorem fW.lt {w : World} {g : Nat} {cs : List Value} {t : TypeId} (h : fW w g cs t) : g < w.heap.size:=(Array.getElem?_eq_some_iff.1 h).1
theorem fW.ext {w w' : World} {g : Nat} {cs : List Value} {t : TypeId} (h : fW w g cs t) (hE : dL w w') : fW w' g cs t:=hE.block h
theorem fW.chg {w w' : World} {g g' : Nat} {cs : List Value} {t : TypeId} (h : fW w g cs t) (hC : Mm w w' g') (hne : g ≠ g') : fW w' g cs t:=(hC.block g hne).trans h
theorem dL.chg {w0 w w' : World} {g : Nat} (h : dL w0 w) (hC : Mm w w' g) (hg : w0.heap.size ≤ g) : dL w0 w' :=
 ⟨hC.os.trans h.os,hC.tape.trans h.tape,hC.output.trans h.output,by rw [hC.size]; exact h.size,fun k hk=>(hC.block k (by omega)).trans (Below.block h k hk)⟩
theorem qS.ext {w w' : World} {a : Addr} {cs : List Value} (h : qS w a cs) (hE : dL w w') : qS w' a cs:=fun j u hj=>hE.cell (h j u hj)
theorem fN (g off j : Nat) : (⟨g,off,none⟩ : Addr).add j = ⟨g,off + j,none⟩:=by unfold Addr.add; split <;> simp_all
theorem mK (a : Addr) (i j : Nat) : (a.add i).add j = a.add (i + j):=by
 unfold Addr.add;by_cases hi : i = 0 <;> by_cases hj : j = 0 <;> simp [hi,hj,Nat.add_assoc]
theorem fW.row {w : World} {g : Nat} {cs : List Value} {t : TypeId} (h : fW w g cs t) (off : Nat) : qS w ⟨g,off,none⟩ (cs.drop off):=by
 intro j u hj;rw [fN,cell_of_row w g (off + j) cs.toArray t (0,0) h];simpa [List.getElem?_drop] using hj
theorem qS.sub {w : World} {a : Addr} {cs : List Value} (h : qS w a cs) (i : Nat) : qS w (a.add i) (cs.drop i):=by
 intro j u hj;rw [mK];exact h (i + j) u (by simpa [List.getElem?_drop] using hj)
theorem qS.take {w : World} {a : Addr} {cs : List Value} (h : qS w a cs) (n : Nat) : qS w a (cs.take n):=by
 intro j u hj;refine h j u ?_;rw [List.getElem?_take] at hj;split at hj
 · exact hj
 · cases hj
section
variable {P : Program} {ds : List Deferred} {l : List Value}
theorem Yv (t : Nat) : (Fr l).eval (.tmp t) = l.getD t undef:=by
 show l.toArray.getD t undef = _
 simp [Array.getD,List.getD];split <;> simp_all
theorem iX {ds : List Deferred} : (Fr l ds).eval = (Fr l).eval:=rfl
theorem iP {ds : List Deferred} (d : Nat) (v : Value) : (Fr l ds).put (some d) v = Fr (l.set d v) ds:=by simp [Act.put,Fr]
def fG (P : Program) (T : TypeId) (n : Nat) : Prop:=∃ inf,P.info? T = some inf ∧ inf.size = n
def lT (P : Program) (T : TypeId) (z : Value) : Prop:=∃ inf,P.info? T = some inf ∧ inf.zero = some z
def vN : TypeDesc → Bool
 | .struct _ | .array _ _=>true
 | _=>false
def iA (P : Program) (T : TypeId) (b : Bool) : Prop:=∃ dd,P.underlying T = some dd ∧ vN dd = b
theorem eP {T : TypeId} {n : Nat} (h : (P.info? T).map (·.size) = some n) : fG P T n:=by
 cases hi : P.info? T with
 | none=>rw [hi] at h; cases h
 | some i=>rw [hi] at h; exact ⟨i,hi,by simpa using h⟩
theorem iM {T : TypeId} {z : Value} (h : (P.info? T).bind (·.zero) = some z) : lT P T z:=by
 cases hi : P.info? T with
 | none=>rw [hi] at h; cases h
 | some i=>rw [hi] at h; exact ⟨i,hi,by simpa using h⟩
theorem fO {T : TypeId} {b : Bool} (dd : TypeDesc) (h : P.underlying T = some dd) (hb : vN dd = b) : iA P T b:=⟨dd,h,hb⟩
def ev (l : List Value) : Operand → Value
 | .tmp t=>l.getD t undef
 | .const v=>v
 | .global g=>.pointer (some ⟨g,0,none⟩)
 | .func f=>.func (.func f) #[] #[]
theorem cL (t : Nat) : ev l (.tmp t) = l.getD t undef:=rfl
theorem bP (v : Value) : ev l (.const v) = v:=rfl
theorem bV (f : Nat) : ev l (.func f) = .func (.func f) #[] #[]:=rfl
theorem dH (x : Operand) : (Fr l).eval x = ev l x:=by
 cases x with
 | tmp t=>exact Yv t
 | const=>rfl
 | global=>rfl
 | func=>rfl
def Am (P : Program) (l : List Value) (op : Op) (ty : TypeId) (v : Value) (w : World) : Prop :=
 ∀ o : Oper,o.op = op → o.type = ty → (execOp (Fr l).eval o).run P w = .ok (.value v) w
def gQ (P : Program) (l : List Value) (op : Op) (ty : TypeId) (v : Value) : Prop:=∀ w,Am P l op ty v w
section
variable {ops : Array Oper} {Q : Exit → Act → World → Prop} {w : World} {rest : List Oper} {d : Nat} {op : Op} {ty : TypeId} {pos : String} {after : Array Edge} {v : Value}
theorem sX (hr : Am P l op ty v w) (h : wpList P ops Q rest (Fr (l.set d v) ds) w) : wpList P ops Q (Oper.mk (some d) op ty pos after none :: rest) (Fr l ds) w:=by
 refine wpList_plain rfl fun K hK=>?_;unfold Oper.wp;rw [iX,hr _ rfl rfl];show K ((Fr l ds).put (some d) v) w
 rw [iP];exact hK _ _ h
theorem aA (hr : gQ P l op ty v) (h : wpList P ops Q rest (Fr (l.set d v) ds) w) : wpList P ops Q (Oper.mk (some d) op ty pos after none :: rest) (Fr l ds) w:=sX (hr w) h
theorem aC (h : Q .normal (Fr l ds) w) : wpList P ops Q [] (Fr l ds) w:=h
theorem aP {j : Nat} {b : Bool} (hw : yielded ops l.toArray j = some b) (h : wpList P ops Q (Oper.mk (some d) op ty pos after none :: rest) (Fr l ds) w) : wpList P ops Q (Oper.mk (some d) op ty pos after (some (j,b)) :: rest) (Fr l ds) w:=by
 unfold wpList at h ⊢;rw [if_pos (by simp [Region.wanted])] at h;rw [if_pos (by simp [Region.wanted,hw])];exact h
theorem Ql {j : Nat} {b c : Bool} (hw : yielded ops l.toArray j = some c) (hbc : (c == b) = false) (h : wpList P ops Q rest (Fr (l.set d undef) ds) w) : wpList P ops Q (Oper.mk (some d) op ty pos after (some (j,b)) :: rest) (Fr l ds) w:=by
 unfold wpList;rw [if_neg (by simp [Region.wanted,hw]; simpa using hbc)];show wpList P ops Q rest ((Fr l ds).put (some d) undef) w
 rw [iP];exact h
theorem bM {j : Nat} (hw : yielded ops l.toArray j = some false) (h : wpList P ops Q rest (Fr (l.set d undef) ds) w) : wpList P ops Q (Oper.mk (some d) op ty pos after (some (j,true)) :: rest) (Fr l ds) w:=Ql hw rfl h
theorem bG {j : Nat} (hw : yielded ops l.toArray j = some true) (h : wpList P ops Q rest (Fr (l.set d undef) ds) w) : wpList P ops Q (Oper.mk (some d) op ty pos after (some (j,false)) :: rest) (Fr l ds) w:=Ql hw rfl h
theorem dM {j : Nat} {b : Bool} (hw : yielded ops l.toArray j = none) (h : wpList P ops Q rest (Fr (l.set d undef) ds) w) : wpList P ops Q (Oper.mk (some d) op ty pos after (some (j,b)) :: rest) (Fr l ds) w:=by
 unfold wpList;rw [if_neg (by simp [Region.wanted,hw])];show wpList P ops Q rest ((Fr l ds).put (some d) undef) w
 rw [iP];exact h
end
section
variable {ops : Array Oper} {Q : Act → Prop} {C : World → Prop} {rest : List Oper} {d : Nat} {op : Op} {ty : TypeId} {pos : String} {after : Array Edge} {v : Value}
theorem Fk (hr : ∀ w,C w → Am P l op ty v w) (h : wpQuiet P ops C Q rest (Fr (l.set d v) ds)) : wpQuiet P ops C Q (Oper.mk (some d) op ty pos after none :: rest) (Fr l ds):=by
 refine wpQuiet_step fun K hK=>?_;rw [if_pos (by simp [Region.wanted])];refine ⟨v,fun w hw=>?_,?_⟩
 · unfold Oper.quietAt
   rw [iX,hr w hw _ rfl rfl];exact ⟨rfl,rfl⟩
 · show K ((Fr l ds).put (some d) v)
   rw [iP];exact hK _ h
theorem aS (hr : gQ P l op ty v) (h : wpQuiet P ops C Q rest (Fr (l.set d v) ds)) : wpQuiet P ops C Q (Oper.mk (some d) op ty pos after none :: rest) (Fr l ds):=Fk (fun w _=>hr w) h
theorem dW (h : Q (Fr l ds)) : wpQuiet P ops C Q [] (Fr l ds):=h
end
/-! ### Values -/
section
variable {x y : Operand} {T T' ty : TypeId} {k : IntKind} {m n r : Int}
theorem aB : gQ P l (.move x) ty (ev l x):=fun w o ho _=>by simp [execOp,ho,dH]
theorem aD : gQ P l (.assign x) ty (ev l x):=fun w o ho _=>by simp [execOp,ho,dH]
theorem Fl {c : Operand} {b : Bool} (hc : ev l c = .bool b) : gQ P l (.pick c x y) ty (if b then ev l x else ev l y):=fun w o ho _=>by
 simp [execOp,ho,dH,hc,asBool]
theorem bD (hx : ev l x = .int k m) (hy : ev l y = .int k n) (hr : k.wrap (m + n) = r) : gQ P l (.binOp .add T x y T') ty (.int k r):=fun w o ho _=>by
 simp [execOp,ho,dH,hx,hy,eqGuard,binOp,Op.intArith,hr]
theorem dU (hx : ev l x = .int k m) (hy : ev l y = .int k n) (hr : k.wrap (m - n) = r) : gQ P l (.binOp .sub T x y T') ty (.int k r):=fun w o ho _=>by
 simp [execOp,ho,dH,hx,hy,eqGuard,binOp,Op.intArith,hr]
theorem lB (hx : ev l x = .int k m) (hy : ev l y = .int k n) (hr : k.wrap (m * n) = r) : gQ P l (.binOp .mul T x y T') ty (.int k r):=fun w o ho _=>by
 simp [execOp,ho,dH,hx,hy,eqGuard,binOp,Op.intArith,hr]
theorem eA (hx : ev l x = .int k m) (hy : ev l y = .int k n) : gQ P l (.binOp .lss T x y T') ty (.bool (decide (m < n))):=fun w o ho _=>by
 simp [execOp,ho,dH,hx,hy,eqGuard,binOp,Op.intCmp]
theorem yF (hx : ev l x = .int k m) (hy : ev l y = .int k n) : gQ P l (.binOp .leq T x y T') ty (.bool (decide (m ≤ n))):=fun w o ho _=>by
 simp [execOp,ho,dH,hx,hy,eqGuard,binOp,Op.intCmp]
theorem gS (hx : ev l x = .int k m) (hy : ev l y = .int k n) : gQ P l (.binOp .gtr T x y T') ty (.bool (decide (n < m))):=fun w o ho _=>by
 simp [execOp,ho,dH,hx,hy,eqGuard,binOp,Op.intCmp]
theorem lC (hx : ev l x = .int k m) (hy : ev l y = .int k n) : gQ P l (.binOp .geq T x y T') ty (.bool (decide (n ≤ m))):=fun w o ho _=>by
 simp [execOp,ho,dH,hx,hy,eqGuard,binOp,Op.intCmp]
theorem nA (hx : ev l x = .int k m) (hy : ev l y = .int k n) : gQ P l (.binOp .eql T x y T') ty (.bool (decide (m = n))):=fun w o ho _=>by
 simp [execOp,ho,dH,hx,hy,eqGuard,binOp,Op.intCmp];cases h : (m == n) <;> simp_all
theorem nB (hx : ev l x = .int k m) (hy : ev l y = .int k n) : gQ P l (.binOp .neq T x y T') ty (.bool (decide (m ≠ n))):=fun w o ho _=>by
 simp [execOp,ho,dH,hx,hy,eqGuard,binOp,Op.intCmp];cases h : (m != n) <;> simp_all
theorem oH (hx : ev l x = .int k m) (hy : ev l y = .int k n) (h0 : n ≠ 0) (hr : k.wrap (m.tdiv n) = r) : gQ P l (.binOp .quo T x y T') ty (.int k r):=fun w o ho _=>by
 simp [execOp,ho,dH,hx,hy,eqGuard,binOp,Op.intDiv,h0,hr]
theorem kD (hx : ev l x = .int k m) (hy : ev l y = .int k n) (h0 : n ≠ 0) (hr : m.tmod n = r) : gQ P l (.binOp .rem T x y T') ty (.int k r):=fun w o ho _=>by
 simp [execOp,ho,dH,hx,hy,eqGuard,binOp,Op.intDiv,h0,hr]
theorem sY (hx : ev l x = .int k m) (hy : ev l y = .int k n) (hr : k.wrap ((BitVec.ofInt k.bits m &&& BitVec.ofInt k.bits n).toNat : Int) = r) : gQ P l (.binOp .and T x y T') ty (.int k r):=fun w o ho _=>by
 subst hr;simp [execOp,ho,dH,hx,hy,eqGuard,binOp,Op.intBits]
theorem Kl (hx : ev l x = .int k m) (hy : ev l y = .int k n) (hr : k.wrap ((BitVec.ofInt k.bits m ||| BitVec.ofInt k.bits n).toNat : Int) = r) : gQ P l (.binOp .or T x y T') ty (.int k r):=fun w o ho _=>by
 subst hr;simp [execOp,ho,dH,hx,hy,eqGuard,binOp,Op.intBits]
theorem An {k' : IntKind} (hx : ev l x = .int k m) (hy : ev l y = .int k' n) (h0 : 0 ≤ n) (hr : k.wrap (m * 2 ^ (min n.toNat k.bits)) = r) : gQ P l (.binOp .shl T x y T') ty (.int k r):=fun w o ho _=>by
 subst hr;simp [execOp,ho,dH,hx,hy,eqGuard,binOp,Op.shift,Int.not_lt.2 h0]
theorem mL {k' : IntKind} (hx : ev l x = .int k m) (hy : ev l y = .int k' n) (h0 : 0 ≤ n) (hr : m.fdiv (2 ^ (min n.toNat k.bits)) = r) : gQ P l (.binOp .shr T x y T') ty (.int k r):=fun w o ho _=>by
 subst hr;simp [execOp,ho,dH,hx,hy,eqGuard,binOp,Op.shift,Int.not_lt.2 h0]
theorem eT {b : Bool} (hx : ev l x = .bool b) : gQ P l (.unOp .not T x) ty (.bool (!b)):=fun w o ho _=>by
 simp [execOp,ho,dH,hx,Op.unary]
theorem oW (hx : ev l x = .int k m) (hr : k.wrap (0 - m) = r) : gQ P l (.unOp .neg T x) ty (.int k r):=fun w o ho _=>by
 subst hr;simp [execOp,ho,dH,hx,Op.unary,Op.intArith]
theorem eL (hd : P.underlying T' = some (.int k)) {k' : IntKind} {dd : TypeDesc} (hs : P.underlying T = some dd) (hx : ev l x = .int k' m) (hr : k.wrap m = r) : gQ P l (.convert T T' x) ty (.int k r):=fun w o ho _=>by
 subst hr;simp [execOp,ho,dH,hx,convert,run_underlying hs,run_underlying hd,Conv.intToInt]
theorem aT {vs : Array Value} {i : Nat} {v : Value} (hx : ev l x = .tuple vs) (hi : vs[i]? = some v) : gQ P l (.extract x i) ty v:=fun w o ho _=>by
 simp [execOp,ho,dH,hx,Instr.extract,hi]
theorem Ao {fn : Fn} {first captured : Array Operand} : gQ P l (.makeFunc fn first captured) ty (.func fn (first.map (ev l)) (captured.map (ev l))):=fun w o ho _=>by
 have e : (Fr l).eval = ev l:=funext dH;simp [execOp,ho,e,Instr.makeFunc]
theorem bR {E : TypeId} {A : Option Addr} {n c : Nat} {a0 : Array TypeId} (ha : a0 = #[T]) (hu : P.underlying T = some (.slice E)) (hx : ev l x = .slice A n c) : gQ P l (.call { callee:=.builtin .len,args:=#[x],argTypes:=a0 }) ty (.int .i64 n):=fun w o ho _=>by
 subst ha;simp [execOp,ho,resolve,invoke,builtin,Builtin.len_,dH,hx,run_underlying hu,goInt]
theorem oX {s : ByteArray} {a0 : Array TypeId} (ha : a0 = #[T]) (hu : P.underlying T = some .string) (hx : ev l x = .string s) : gQ P l (.call { callee:=.builtin .len,args:=#[x],argTypes:=a0 }) ty (.int .i64 s.size):=fun w o ho _=>by
 subst ha;simp [execOp,ho,resolve,invoke,builtin,Builtin.len_,dH,hx,run_underlying hu,goInt]
theorem oY {a0 : Array TypeId} (hx : ev l x = .int k m) (hy : ev l y = .int k n) (hr : (if n < m then n else m) = r) : gQ P l (.call { callee:=.builtin .min,args:=#[x,y],argTypes:=a0 }) ty (.int k r):=fun w o ho _=>by
 subst hr;simp [execOp,ho,resolve,invoke,builtin,Builtin.min_,Builtin.min2,dH,hx,hy]
theorem jR {a0 : Array TypeId} (hx : ev l x = .int k m) (hy : ev l y = .int k n) (hr : (if m < n then n else m) = r) : gQ P l (.call { callee:=.builtin .max,args:=#[x,y],argTypes:=a0 }) ty (.int k r):=fun w o ho _=>by
 subst hr;simp [execOp,ho,resolve,invoke,builtin,Builtin.max_,Builtin.max2,dH,hx,hy]
end
/-! ### Addresses -/
section
variable {x y : Operand} {T T' ty : TypeId} {k : IntKind} {m n r : Int}
theorem aH {fs : Array Field} {i c : Nat} {f : Field} {a b : Addr} (hu : P.underlying T = some (.struct fs)) (hf : fs[i]? = some f) (hc : fG P f.type (c + 1)) (hx : ev l x = .pointer (some a)) (hb : a.add f.offset = b) :
 gQ P l (.fieldAddr T x i) ty (.pointer (some b)):=fun w o ho _=>by
 subst hb;obtain ⟨inf,hi,hz⟩:=hc;have hz' : ¬ inf.size = 0:=by omega
 simp [execOp,ho,dH,hx,Instr.fieldAt,run_underlying hu,hf,Instr.sureAddr,fieldPlace,sizeOf,typeInfo,hi,hz']
theorem aJ {E : TypeId} {len : Nat} {c : Nat} {a b : Addr} (hu : P.underlying T = some (.array len E)) (hc : fG P E c) (hx : ev l x = .pointer (some a)) (hy : ev l y = .int k m) (h0 : 0 ≤ m) (h1 : m < len) (hb : a.add (m.toNat * c) = b) :
 gQ P l (.indexAddr T x y) ty (.pointer (some b)):=fun w o ho _=>by
 subst hb;obtain ⟨inf,hi,rfl⟩:=hc;simp [execOp,ho,dH,hx,hy,Instr.indexAt,asIntOf,run_underlying hu,Instr.sureAddr,sizeOf,typeInfo,hi,h0,h1]
theorem aU {E : TypeId} {len cap : Nat} {c : Nat} {a b : Addr} (hu : P.underlying T = some (.slice E)) (hc : fG P E c) (hx : ev l x = .slice (some a) len cap) (hy : ev l y = .int k m) (h0 : 0 ≤ m) (h1 : m < len) (hb : a.add (m.toNat * c) = b) :
 gQ P l (.indexAddr T x y) ty (.pointer (some b)):=fun w o ho _=>by
 subst hb;obtain ⟨inf,hi,rfl⟩:=hc;simp [execOp,ho,dH,hx,hy,Instr.indexAt,asIntOf,run_underlying hu,sizeOf,typeInfo,hi,h0,h1]
end
/-! ### Memory -/
section
variable {x y : Operand} {T T' ty : TypeId} {w : World}
def qT (P : Program) (w : World) (T : TypeId) (a : Addr) (v : Value) : Prop:=(loadVar T a).run P w = .ok v w
theorem qS.lies {a : Addr} {cs : List Value} (h : qS w a cs) (hA : iA P T true) (hc : fG P T cs.length) : qT P w T a (.agg cs.toArray):=by
 obtain ⟨dd,hu,hd⟩:=hA;obtain ⟨inf,hi,hn⟩:=hc;have hl:=run_loadCells_list (P:=P) w a cs (fun j v hv=>h j v hv);have hagg : (isAgg T).run P w = .ok true w:=by
  unfold isAgg;rw [Sem.run_bind,run_underlying hu w];cases dd <;> simp_all [vN]
 unfold qT;simp [loadVar,Sem.run_bind,hagg,sizeOf,typeInfo,hi,hn,hl]
theorem lies1 {a : Addr} {v : Value} (h : w.cell? a = some v) (hA : iA P T false) : qT P w T a v:=by
 obtain ⟨dd,hu,hd⟩:=hA;have hagg : (isAgg T).run P w = .ok false w:=by
  unfold isAgg;rw [Sem.run_bind,run_underlying hu w];cases dd <;> simp_all [vN]
 unfold qT;simp [loadVar,Sem.run_bind,hagg,load,Sem.run,h]
theorem fW.cell {g : Nat} {cs : List Value} {t : TypeId} (h : fW w g cs t) {i : Nat} {v : Value} (hi : cs[i]? = some v) : w.cell? ⟨g,i,none⟩ = some v:=by
 rw [cell_of_row w g i cs.toArray t (0,0) h];simpa using hi
theorem fW.lies1 {g i : Nat} {cs : List Value} {t : TypeId} {v : Value} (h : fW w g cs t) (hA : iA P T false) (hi : cs[i]? = some v) : qT P w T ⟨g,i,none⟩ v:=Lith.lies1 (h.cell hi) hA
theorem fW.lies {g i n : Nat} {cs us : List Value} {t : TypeId} (h : fW w g cs t) (hA : iA P T true) (hc : fG P T n) (hu : (cs.drop i).take n = us) (hn : us.length = n) : qT P w T ⟨g,i,none⟩ (.agg us.toArray):=by
 subst hu;exact ((h.row i).take n).lies hA (by rw [hn]; exact hc)
theorem kS {a : Addr} {v : Value} (hx : ev l x = .pointer (some a)) (hv : qT P w T a v) : Am P l (.load T x) ty v w:=fun o ho _=>by
 unfold qT at hv;simp [execOp,ho,dH,hx,Instr.loadAt,Instr.sureAddr,hv]
variable {ops : Array Oper} {Q : Exit → Act → World → Prop} {rest : List Oper} {d : Nat} {op : Op} {pos : String} {after : Array Edge} {v : Value}
theorem aI {a : Addr} (hx : ev l x = .pointer (some a)) (hv : qT P w T a v) (h : wpList P ops Q rest (Fr (l.set d v) ds) w) : wpList P ops Q (Oper.mk (some d) (.load T x) ty pos after none :: rest) (Fr l ds) w :=
 sX (kS hx hv) h
theorem Fm {w' : World} (hr : ∀ o : Oper,o.op = op → (execOp (Fr l).eval o).run P w = .ok .skip w') (h : wpList P ops Q rest (Fr l ds) w') : wpList P ops Q (Oper.mk none op ty pos after none :: rest) (Fr l ds) w:=by
 refine wpList_plain rfl fun K hK=>?_;unfold Oper.wp;rw [iX,hr _ rfl];exact hK _ _ h
theorem lE {w' : World} (hr : ∀ o : Oper,o.op = op → o.type = ty → (execOp (Fr l).eval o).run P w = .ok (.value v) w') (h : wpList P ops Q rest (Fr (l.set d v) ds) w') : wpList P ops Q (Oper.mk (some d) op ty pos after none :: rest) (Fr l ds) w:=by
 refine wpList_plain rfl fun K hK=>?_;unfold Oper.wp;rw [iX,hr _ rfl rfl];show K ((Fr l ds).put (some d) v) w'
 rw [iP];exact hK _ _ h
theorem jD (w : World) (cs : List Value) (t : TypeId) : fW (w.alloc (.cells cs.toArray t)) w.heap.size cs t:=heap_alloc_new w _
theorem gK {cs : List Value} (hv : (ev l x).cells = cs.toArray) (h : ∀ w' g,dL w w' → w.heap.size ≤ g → fW w' g cs T → wpList P ops Q rest (Fr (l.set d (.pointer (some ⟨g,0,none⟩))) ds) w') :
 wpList P ops Q (Oper.mk (some d) (.box T x) ty pos after none :: rest) (Fr l ds) w :=
 lE (w':=w.alloc (.cells cs.toArray T)) (v:=.pointer (some ⟨w.heap.size,0,none⟩)) (fun o ho _=>by simp [execOp,ho,dH,Instr.box,newVar,newRow,hv,newObj,Sem.run]) (h _ _ ((dL.refl w).alloc _) (Nat.le_refl _) (jD w cs T))
theorem dX {cs : List Value} {z : Value} (hZ : lT P T z) (hv : z.cells = cs.toArray) (h : ∀ w' g,dL w w' → w.heap.size ≤ g → fW w' g cs T → wpList P ops Q rest (Fr (l.set d (.pointer (some ⟨g,0,none⟩))) ds) w') :
 wpList P ops Q (Oper.mk (some d) (.alloc T) ty pos after none :: rest) (Fr l ds) w:=by
 obtain ⟨inf,hi,hz⟩:=hZ;exact lE (w':=w.alloc (.cells cs.toArray T)) (v:=.pointer (some ⟨w.heap.size,0,none⟩)) (fun o ho _=>by simp [execOp,ho,Instr.alloc,zeroValue,typeInfo,hi,hz,newVar,newRow,hv,newObj,Sem.run]) (h _ _ ((dL.refl w).alloc _) (Nat.le_refl _) (jD w cs T))
def aX (cs : List Value) (off : Nat) (us : List Value) : List Value:=cs.take off ++ us ++ cs.drop (off + us.length)
theorem Hz {cs us : List Value} {off : Nat} (h : off + us.length ≤ cs.length) : (aX cs off us).length = cs.length:=by simp [aX]; omega
theorem rT (w : World) (g : Nat) (cs : Array Value) : Mm w (w.setRow g cs) g:=⟨rfl,rfl,rfl,by simp,fun k hk=>setRow_other w g k cs hk⟩
theorem vO {g off : Nat} {cs us : List Value} {t : TypeId} (hc : fG P T us.length) (hv : v.cells = us.toArray) (hB : fW w g cs t) (hfit : off + us.length ≤ cs.length) (h1 : ∀ u ∈ us,u.oneCell' = true) :
 (storeVar T ⟨g,off,none⟩ v).run P w = .ok () (w.setRow g (aX cs off us).toArray):=by
 obtain ⟨inf,hi,hn⟩:=hc;have hst:=run_storeCells_at P g off t us 0 cs.toArray w hB (by simpa using hfit) h1;simp only[Nat.add_zero,List.toList_toArray] at hst;simp [storeVar,hv,sizeOf,typeInfo,hi,hn,hst,aX]
theorem cC {g off : Nat} {cs us : List Value} {t : TypeId} (hx : ev l x = .pointer (some ⟨g,off,none⟩)) (hv : (ev l y).cells = us.toArray) (hc : fG P T us.length) (hB : fW w g cs t) (hfit : off + us.length ≤ cs.length) (h1 : ∀ u ∈ us,u.oneCell' = true)
 (h : ∀ w',Mm w w' g → fW w' g (aX cs off us) t → wpList P ops Q rest (Fr l ds) w') : wpList P ops Q (Oper.mk none (.store T x y) ty pos after none :: rest) (Fr l ds) w :=
 Fm (w':=w.setRow g (aX cs off us).toArray) (fun o ho=>by simp [execOp,ho,dH,hx,Instr.storeAt,Instr.sureAddr,vO hc hv hB hfit h1]) (h _ (rT w g _) (setRow_heap w g cs.toArray _ t _ hB))
/-! ### Calls -/
def bH (P : Program) (f : FuncId) : Prop:=∃ fn,P.funcs[f]? = some fn ∧ (fn.name == "runtime.NumGoroutine") = false ∧ fn.body.isNone = false
def iL (P : Program) (f : FuncId) (args : List Value) (w : World) (R : Value → World → Prop) : Prop :=
 bH P f ∧ Calls P f args.toArray w fun e w'=>∃ v,e = .returned v ∧ dL w w' ∧ R v w'
def dP (P : Program) (f : FuncId) (args : List Value) (v : Value) : Prop:=∀ w,iL P f args w fun u _=>u = v
theorem iL.mono {f : FuncId} {args : List Value} {R R' : Value → World → Prop} (h : iL P f args w R) (hr : ∀ v w',dL w w' → R v w' → R' v w') : iL P f args w R' :=
 ⟨h.1,h.2.mono fun _ _ ⟨v,he,hE,hR⟩=>⟨v,he,hE,hr _ _ hE hR⟩⟩
theorem vP {f : FuncId} {args : Array Value} (h : bH P f) : (callFunc f args).run P w = .ok (.enter f args) w:=by
 obtain ⟨fn,hf,hn,hb⟩:=h;have hn' : ¬ fn.name = "runtime.NumGoroutine" := by simpa using hn
 have hb' : ¬ fn.body = none:=by intro h; rw [h] at hb; cases hb
 simp [callFunc,hf,hn',hb']
theorem nQ {f : FuncId} {fo : Operand} {xs : Array Operand} {args : List Value} {first cap : Array Value} {a0 : Array TypeId} (h : bH P f) (hf : ev l fo = .func (.func f) first cap) (hxs : first.toList ++ xs.toList.map (ev l) ++ cap.toList = args) (o : Oper) (ho : o.op = .call { callee:=.value fo,args:=xs,argTypes:=a0 }) :
 (execOp (Fr l).eval o).run P w = .ok (.enter f args.toArray) w:=by
 have e : (Fr l).eval = ev l:=funext dH;have ea : args.toArray = first ++ xs.map (ev l) ++ cap:=by
  rw [← hxs];apply Array.ext';simp
 simp [execOp,ho,resolve,e,hf,Deferred.ofValue,invoke,vP h,ea]
theorem bS {f : FuncId} {fo : Operand} {xs : Array Operand} {args : List Value} {first cap : Array Value} {a0 : Array TypeId} {R : Value → World → Prop} (hf : ev l fo = .func (.func f) first cap) (hxs : first.toList ++ xs.toList.map (ev l) ++ cap.toList = args) (hc : iL P f args w R)
 (h : ∀ v w',dL w w' → R v w' → wpList P ops Q rest (Fr (l.set d v) ds) w') : wpList P ops Q (Oper.mk (some d) (.call { callee:=.value fo,args:=xs,argTypes:=a0 }) ty pos after none :: rest) (Fr l ds) w:=by
 refine wpList_plain rfl fun K hK=>?_;unfold Oper.wp;rw [iX,nQ hc.1 hf hxs _ rfl];refine hc.2.mono ?_;rintro e w' ⟨v,rfl,hE,hR⟩;show K ((Fr l ds).put (some d) v) w'
 rw [iP];exact hK _ _ (h v w' hE hR)
theorem gA {f : FuncId} {fo : Operand} {xs : Array Operand} {args : List Value} {first cap : Array Value} {a0 : Array TypeId} (hf : ev l fo = .func (.func f) first cap) (hxs : first.toList ++ xs.toList.map (ev l) ++ cap.toList = args) (hc : dP P f args v)
 (h : ∀ w',dL w w' → wpList P ops Q rest (Fr (l.set d v) ds) w') : wpList P ops Q (Oper.mk (some d) (.call { callee:=.value fo,args:=xs,argTypes:=a0 }) ty pos after none :: rest) (Fr l ds) w :=
 bS hf hxs (hc w) fun _ w' hE hR=>hR ▸ h w' hE
end
section
variable {x y : Operand} {T T' ty : TypeId} {w : World}
variable {ops : Array Oper} {Q : Act → Prop} {rest : List Oper} {d : Nat} {op : Op} {pos : String} {after : Array Edge} {v : Value}
theorem gL {a : Addr} (hx : ev l x = .pointer (some a)) (hv : ∀ w',dL w w' → qT P w' T a v) (h : wpQuiet P ops (dL w) Q rest (Fr (l.set d v) ds)) : wpQuiet P ops (dL w) Q (Oper.mk (some d) (.load T x) ty pos after none :: rest) (Fr l ds) :=
 Fk (fun _ hE=>kS hx (hv _ hE)) h
theorem Uy {f : FuncId} {fo : Operand} {xs : Array Operand} {args : List Value} {first cap : Array Value} {a0 : Array TypeId} (hf : ev l fo = .func (.func f) first cap) (hxs : first.toList ++ xs.toList.map (ev l) ++ cap.toList = args) (hc : ∀ w',dL w w' → iL P f args w' fun u _=>u = v)
 (h : wpQuiet P ops (dL w) Q rest (Fr (l.set d v) ds)) : wpQuiet P ops (dL w) Q (Oper.mk (some d) (.call { callee:=.value fo,args:=xs,argTypes:=a0 }) ty pos after none :: rest) (Fr l ds):=by
 refine wpQuiet_step fun K hK=>?_;rw [if_pos (by simp [Region.wanted])];refine ⟨v,fun w' hw=>?_,?_⟩
 · unfold Oper.quietAt
   rw [iX,nQ (hc w' hw).1 hf hxs _ rfl];refine ⟨rfl,(hc w' hw).2.mono ?_⟩;rintro e w'' ⟨u,rfl,hE,rfl⟩;exact ⟨rfl,hw.trans hE⟩
 · show K ((Fr l ds).put (some d) v)
   rw [iP];exact hK _ h
theorem nL {f : FuncId} {fo : Operand} {xs : Array Operand} {args : List Value} {first cap : Array Value} {a0 : Array TypeId} (hf : ev l fo = .func (.func f) first cap) (hxs : first.toList ++ xs.toList.map (ev l) ++ cap.toList = args) (hc : dP P f args v)
 (h : wpQuiet P ops (dL w) Q rest (Fr (l.set d v) ds)) : wpQuiet P ops (dL w) Q (Oper.mk (some d) (.call { callee:=.value fo,args:=xs,argTypes:=a0 }) ty pos after none :: rest) (Fr l ds) :=
 Uy hf hxs (fun w' _=>hc w') h
end
/-! ### Code -/
section
variable {Q : Exit → Act → World → Prop} {w : World} {c c1 c2 : Code}
theorem aF {a : Act} (h : ∀ K : Act → World → Prop,(∀ a w,c2.wp P Q a w → K a w) → c1.wp P (Exit.then K Q) a w) : (Code.seq c1 c2).wp P Q a w:=wp_seq_k h
theorem oZ {x : Operand} {b : Bool} (hx : ev l x = .bool b) (ht : b = true → c1.wp P Q (Fr l ds) w) (hf : b = false → c2.wp P Q (Fr l ds) w) : (Code.cond x c1 c2).wp P Q (Fr l ds) w :=
 wp_cond_split (by rw [iX,dH]; exact hx) ht hf
theorem cQ {x : Operand} {p : Prop} [Decidable p] (hx : ev l x = .bool (decide p)) (ht : p → c1.wp P Q (Fr l ds) w) (hf : ¬ p → c2.wp P Q (Fr l ds) w) : (Code.cond x c1 c2).wp P Q (Fr l ds) w :=
 oZ hx (fun h=>ht (of_decide_eq_true h)) (fun h=>hf (of_decide_eq_false h))
theorem bX {x : Operand} (hx : ev l x = .bool true) (ht : c1.wp P Q (Fr l ds) w) : (Code.cond x c1 c2).wp P Q (Fr l ds) w:=oZ hx (fun _=>ht) (fun h=>by cases h)
theorem eQ {x : Operand} (hx : ev l x = .bool false) (hf : c2.wp P Q (Fr l ds) w) : (Code.cond x c1 c2).wp P Q (Fr l ds) w:=oZ hx (fun h=>by cases h) (fun _=>hf)
def Ya (P : Program) (l : List Value) (w : World) : ResultVar → Value → Prop
 | .tmp t,v=>l.getD t undef = v
 | .cell t T,v=>∃ a,l.getD t undef = .pointer (some a) ∧ qT P w T a v
theorem oR {r : ResultVar} {v : Value} (h : Ya P l w r v) : (∃ t,r = .tmp t ∧ l[t]?.getD undef = v) ∨ (∃ t T a,r = .cell t T ∧ l[t]?.getD undef = .pointer (some a) ∧ (loadVar T a).run P w = .ok v w):=by
 cases r with
 | tmp t=>exact .inl ⟨t,rfl,by simpa [Ya] using h⟩
 | cell t T =>
  obtain ⟨a,ha,hl⟩:=h;exact .inr ⟨t,T,a,rfl,by simpa using ha,hl⟩
theorem bU {fn : Func} {R : Ending → World → Prop} {r : ResultVar} {v : Value} (hr : fn.results = #[r]) (h : Ya P l w r v) (hR : R (.returned v) w) : bodyPost P fn R .ret (Fr l) w:=by
 refine ⟨rfl,v,?_,hR⟩;unfold results;rw [hr];rcases oR h with ⟨t,rfl,h1⟩ | ⟨t,T,a,rfl,h1,h2⟩ <;> simp [*,asAddr]
theorem jL {fn : Func} {R : Ending → World → Prop} {r r' : ResultVar} {v v' : Value} (hr : fn.results = #[r,r']) (h : Ya P l w r v) (h' : Ya P l w r' v') (hR : R (.returned (.tuple #[v,v'])) w) : bodyPost P fn R .ret (Fr l) w:=by
 refine ⟨rfl,_,?_,hR⟩;unfold results;rw [hr];rcases oR h with ⟨t,rfl,h1⟩ | ⟨t,T,a,rfl,h1,h2⟩ <;> rcases oR h' with ⟨t',rfl,h1'⟩ | ⟨t',T',a',rfl,h1',h2'⟩ <;> simp [*,asAddr]
theorem oJ {fn : Func} {R : Ending → World → Prop} {r r' r'' : ResultVar} {v v' v'' : Value} (hr : fn.results = #[r,r',r'']) (h : Ya P l w r v) (h' : Ya P l w r' v') (h'' : Ya P l w r'' v'') (hR : R (.returned (.tuple #[v,v',v''])) w) : bodyPost P fn R .ret (Fr l) w:=by
 refine ⟨rfl,_,?_,hR⟩;unfold results;rw [hr];rcases oR h with ⟨t,rfl,h1⟩ | ⟨t,T,a,rfl,h1,h2⟩ <;> rcases oR h' with ⟨t',rfl,h1'⟩ | ⟨t',T',a',rfl,h1',h2'⟩ <;> rcases oR h'' with ⟨t'',rfl,h1''⟩ | ⟨t'',T'',a'',rfl,h1'',h2''⟩ <;> simp [*,asAddr]
end
end
/-! ### Numbers,loops,further values -/
theorem aQ {x : Int} (h0 : -9223372036854775808 ≤ x) (h1 : x < 9223372036854775808) : IntKind.i64.wrap x = x:=by
 simp [IntKind.wrap,IntKind.bits,IntKind.signed];split <;> omega
theorem fX {x : Int} (h0 : 0 ≤ x) (h1 : x < 18446744073709551616) : IntKind.u64.wrap x = x:=by
 simp [IntKind.wrap,IntKind.bits,IntKind.signed];omega
theorem oK {x : Int} (h0 : 0 ≤ x) (h1 : x < 256) : IntKind.u8.wrap x = x:=by
 simp [IntKind.wrap,IntKind.bits,IntKind.signed];omega
def kX : List Value → List Nat → List Value → List Value
 | l,t :: ts,v :: vs=>kX (l.set t v) ts vs
 | l,_,_=>l
theorem Fo {l : List Value} {t : Nat} {ts : List Nat} {v : Value} {vs : List Value} : kX l (t :: ts) (v :: vs) = kX (l.set t v) ts vs:=rfl
theorem yG {l : List Value} {vs : List Value} : kX l [] vs = l:=by cases vs <;> rfl
theorem Ia {l : List Value} {t : Nat} : l.set t (l.getD t undef) = l:=by
 apply List.ext_getElem?;intro i;rw [List.getElem?_set];split
 · rename_i h; subst h
   split
   · rename_i h; simp [h]
   · rename_i h; simp at h; simp [h]
 · rfl
theorem vQ : ∀ (ts : List Nat) (l : List Value),kX l ts (ts.map (l.getD · undef)) = l
 | [],l=>yG
 | t :: ts,l=>by
  simp only[List.map_cons,Fo,Ia];exact vQ ts l
theorem rU {p : Nat → Prop} (h : ∃ n,p n) : ∃ n,p n ∧ ∀ m,p m → n ≤ m:=by
 obtain ⟨n,hn⟩:=h
 induction n using Nat.strongRecOn with
 | _ n ih =>
  by_cases hx : ∃ m,m < n ∧ p m
  · obtain ⟨m,hm,hp⟩:=hx; exact ih m hm hp
  · exact ⟨n,hn,fun m hm=>Nat.le_of_not_lt fun hlt=>hx ⟨m,hlt,hm⟩⟩
noncomputable def Aq (p : Nat → Prop) (h : ∃ n,p n) : Nat:=(rU h).choose
theorem Ib {p : Nat → Prop} (h : ∃ n,p n) : p (Aq p h):=(rU h).choose_spec.1
theorem Nu {p : Nat → Prop} (h : ∃ n,p n) {m : Nat} (hm : p m) : Aq p h ≤ m:=(rU h).choose_spec.2 m hm
section
variable {P : Program} {ds : List Deferred} {l : List Value}
end
/-! ### Parts of values,slices,new slices -/
section
variable {P : Program} {ds : List Deferred} {l : List Value} {x y : Operand} {T T' ty : TypeId} {k : IntKind} {m n r : Int}
theorem vR {b : Bool} (h : iA P T b) (w : World) : (isAgg T).run P w = .ok b w:=by
 obtain ⟨dd,hu,hd⟩:=h;unfold isAgg;rw [Sem.run_bind,run_underlying hu w];cases dd <;> simp_all [vN]
theorem fP {c : Nat} (h : fG P T c) (w : World) : (sizeOf T).run P w = .ok c w:=by
 obtain ⟨inf,hi,rfl⟩:=h;simp [sizeOf,typeInfo,hi]
theorem eB (cs : Array Value) : (Value.agg cs).cells = cs:=rfl
theorem fL {parts : Array (Nat × Operand)} {vs : Array (Nat × Value)} {v : Value} (hp : (parts.map fun (i,x)=>(i,ev l x)) = vs) (h : ∀ w,(Instr.build T vs).run P w = .ok v w) : gQ P l (.build T parts) ty v:=fun w o ho _=>by
 have e : (Fr l).eval = ev l:=funext dH;subst hp;simp only[execOp,ho,e];rw [Sem.run_bind,h w];rfl
theorem cV {fs : Array Field} {places : Array (Nat × Nat)} {z : Value} {cells : Array Value} {vs : Array (Nat × Value)} (hu : P.underlying T = some (.struct fs)) (hz : lT P T z)
 (hpl : ∀ w,(fs.mapM fun f=>do pure (f.offset,← sizeOf f.type) : Sem (Array (Nat × Nat))).run P w = .ok places w) (hf : Instr.fill (places[·]?) z.cells vs.toList = some cells) (w : World) : (Instr.build T vs).run P w = .ok (.agg cells) w:=by
 obtain ⟨inf,hi,h0⟩:=hz;simp only[Instr.build,zeroValue,typeInfo];simp [hi,h0,run_underlying hu];have:=hpl w;simp at this;simp [this,hf]
theorem gI {E : TypeId} {n c : Nat} {z : Value} {cells : Array Value} {vs : Array (Nat × Value)} (hu : P.underlying T = some (.array n E)) (hz : lT P T z) (hc : fG P E c)
 (hf : Instr.fill (fun i=>some (i * c,c)) z.cells vs.toList = some cells) (w : World) : (Instr.build T vs).run P w = .ok (.agg cells) w:=by
 obtain ⟨inf,hi,h0⟩:=hz;simp only[Instr.build,zeroValue,typeInfo];simp [hi,h0,run_underlying hu,fP hc,hf]
theorem lI {E : TypeId} {len c : Nat} {cs : Array Value} {v : Value} (hu : P.underlying T = some (.array len E)) (hA : iA P E false) (hc : fG P E c) (hx : ev l x = .agg cs) (hy : ev l y = .int k m) (h0 : 0 ≤ m) (h1 : m < len) (hv : cs[m.toNat * c]? = some v) :
 gQ P l (.index T x y) ty v:=fun w o ho _=>by
 simp [execOp,ho,dH,hx,hy,Instr.index,asIntOf,run_underlying hu,h0,h1,part,vR hA,fP hc,hv]
theorem qU {E : TypeId} {len c : Nat} {cs us : Array Value} (hu : P.underlying T = some (.array len E)) (hA : iA P E true) (hc : fG P E c) (hx : ev l x = .agg cs) (hy : ev l y = .int k m) (h0 : 0 ≤ m) (h1 : m < len) (hv : cs.extract (m.toNat * c) (m.toNat * c + c) = us) :
 gQ P l (.index T x y) ty (.agg us):=fun w o ho _=>by
 subst hv;simp [execOp,ho,dH,hx,hy,Instr.index,asIntOf,run_underlying hu,h0,h1,part,vR hA,fP hc]
theorem lU {s : ByteArray} {b : UInt8} (hu : P.underlying T = some .string) (hx : ev l x = .string s) (hy : ev l y = .int k m) (h0 : 0 ≤ m) (hb : s[m.toNat]? = some b) :
 gQ P l (.index T x y) ty (.int .u8 b.toNat):=fun w o ho _=>by
 simp [execOp,ho,dH,hx,hy,Instr.index,asIntOf,run_underlying hu,h0,hb]
theorem qV {E : TypeId} {A : Option Addr} {len cap c : Nat} (hu : P.underlying T = some (.slice E)) (hc : fG P E c) {q : Nat} (hx : ev l x = .slice A len cap) (hy : ev l y = .int k m) (hq : m.toNat = q) (h0 : 0 ≤ m) (h1 : m ≤ cap) :
 gQ P l (.slice T x none (some y) none) ty (.slice A q cap):=fun w o ho _=>by
 subst hq;have e : (if cap = 0 then A else Option.map (fun a=>a.add 0) A) = A:=by
  split
  · rfl
  · cases A <;> simp [Addr.add]
 have h1' : ¬ (m.toNat : Int) > cap:=by omega
 simp [execOp,ho,dH,hx,hy,Instr.sliceAt,Instr.slice,Instr.sliceBounds,Instr.sliceBound,asIntOf,run_underlying hu,h0,h1,fP hc];intro _;cases A <;> simp [Addr.add]
theorem oS {E : TypeId} {A A' : Option Addr} {len cap c : Nat} (hu : P.underlying T = some (.slice E)) (hc : fG P E c) {q : Nat} (hx : ev l x = .slice A len cap) (hy : ev l y = .int k m) (hq : m.toNat = q) (h0 : 0 ≤ m) (h1 : m ≤ len) (hA : (if cap = q then A else A.map (·.add (q * c))) = A') :
 gQ P l (.slice T x (some y) none none) ty (.slice A' (len - q) (cap - q)):=fun w o ho _=>by
 subst hq;subst hA;simp [execOp,ho,dH,hx,hy,Instr.sliceAt,Instr.slice,Instr.sliceBounds,Instr.sliceBound,asIntOf,run_underlying hu,h0,h1,fP hc]
theorem Qm {s : ByteArray} (hu : P.underlying T = some .string) (hx : ev l x = .string s) (hy : ev l y = .int k m) (h0 : 0 ≤ m) (h1 : m ≤ s.size) :
 gQ P l (.slice T x (some y) none none) ty (.string (s.extract m.toNat s.size)):=fun w o ho _=>by
 simp [execOp,ho,dH,hx,hy,Instr.sliceAt,Instr.slice,Instr.sliceBounds,Instr.sliceBound,asIntOf,run_underlying hu,h0,h1]
variable {ops : Array Oper} {Q : Exit → Act → World → Prop} {rest : List Oper} {d : Nat} {pos : String} {after : Array Edge} {w : World}
theorem lP {E : TypeId} {b : Nat} {kc : IntKind} {z : Value} (hu : P.underlying T = some (.slice E)) (hi : (P.info? E).map (fun i=>(i.size,i.bytes,i.zero)) = some (1,b,some z)) (hzc : z.cells = #[z]) {q q' : Nat} (hx : ev l x = .int k m) (hy : ev l y = .int kc n) (hq : m.toNat = q) (hq' : n.toNat = q') (h0 : 0 ≤ m) (h1 : m ≤ n) (hn : n ≤ 9223372036854775807) (hb : (b : Int) * n ≤ 281474976710656)
 (h : ∀ w' g,dL w w' → w.heap.size ≤ g → fW w' g (List.replicate q' z) E → wpList P ops Q rest (Fr (l.set d (.slice (some ⟨g,0,none⟩) q q')) ds) w') :
 wpList P ops Q (Oper.mk (some d) (.makeSlice T x y) ty pos after none :: rest) (Fr l ds) w:=by
 subst hq;subst hq';cases hq : P.info? E with
 | none=>rw [hq] at hi; cases hi
 | some i =>
  rw [hq] at hi;simp only[Option.map_some,Option.some.injEq,Prod.mk.injEq] at hi;obtain ⟨e1,e2,e3⟩:=hi;subst e2;have hr:=run_make (P:=P) w T E i z hu hq e3 k kc m n h0 h1 hb hn;have hc : madeCells z.cells (n.toNat * i.size) = (List.replicate n.toNat z).toArray:=by
   rw [e1,hzc,Nat.mul_one];apply Array.ext';rw [toList_madeCells_one]
  rw [hc] at hr;exact lE (fun o ho _=>by simp [execOp,ho,dH,hx,hy,hr]) (h _ _ ((dL.refl w).alloc _) (Nat.le_refl _) (jD w _ E))
def jT (w : World) (base : Nat) (e : TypeId) (size : Nat) (v : Value) (n : Nat) (xs : List Value) : Prop:=w.ownsRow base e size v n xs
structure Ar (w w' : World) (base : Nat) : Prop where
 os : w'.os = w.os
 tape : w'.tape = w.tape
 output : w'.output = w.output
 size : w.heap.size ≤ w'.heap.size
 block : ∀ k,k < base → w'.heap[k]? = w.heap[k]?
theorem jT.nil (w : World) (base : Nat) (e : TypeId) (size : Nat) : jT w base e size (.slice none 0 0) 0 []:=World.ownsRow_nil w base e size
theorem Ar.refl (w : World) (base : Nat) : Ar w w base:=⟨rfl,rfl,rfl,Nat.le_refl _,fun _ _=>rfl⟩
theorem dL.grew {w w' : World} (h : dL w w') {base : Nat} (hb : base ≤ w.heap.size) : Ar w w' base:=⟨h.os,h.tape,h.output,h.size,fun k hk=>Below.block h k (by omega)⟩
theorem fW.grew {w w' : World} {g base : Nat} {cs : List Value} {t : TypeId} (h : fW w g cs t) (hG : Ar w w' base) (hg : g < base) : fW w' g cs t:=(hG.block g hg).trans h
theorem dL.grown {w0 w w' : World} {base : Nat} (h : dL w0 w) (hG : Ar w w' base) (hb : w0.heap.size ≤ base) : dL w0 w' :=
 ⟨hG.os.trans h.os,hG.tape.trans h.tape,hG.output.trans h.output,Nat.le_trans h.size hG.size,fun k hk=>(hG.block k (by omega)).trans (Below.block h k hk)⟩
theorem Km {w : World} {base : Nat} {e : TypeId} {size : Nat} {v : Value} {n : Nat} {xs : List Value} (h : w.ownsRow base e size v n xs) {w' : World} (hg : w.grownBy w' v.ownBlock) (hb : base ≤ w.heap.size) : Ar w w' base:=by
 refine ⟨hg.os,hg.tape,hg.output,hg.size,fun k hk=>hg.block k (by omega) fun hc=>?_⟩;rcases h.2 with ⟨rfl,_⟩ | ⟨g,cap,cur,rfl,hbg,_⟩
 · cases hc
 · simp [Value.ownBlock] at hc
   omega
theorem jT.ext {w w' : World} {base : Nat} {e : TypeId} {size : Nat} {v : Value} {n : Nat} {xs : List Value} (h : jT w base e size v n xs) (hE : dL w w') : jT w' base e size v n xs:=by
 refine ⟨h.1,?_⟩;rcases h.2 with h | ⟨g,cap,cur,rfl,hbg,hg,h1,h2,h3,h4⟩
 · exact .inl h
 · exact .inr ⟨g,cap,cur,rfl,hbg,hE.block hg,h1,h2,h3,h4⟩
theorem jT.row {w : World} {base : Nat} {e : TypeId} {size : Nat} {v : Value} {n : Nat} {xs : List Value} (h : jT w base e size v n xs) : (v = .slice none 0 0 ∧ n = 0 ∧ xs = []) ∨ ∃ g cap,v = .slice (some ⟨g,0,none⟩) n cap ∧ base ≤ g ∧ n ≤ cap ∧ cap ≤ maxLen ∧ g < w.heap.size ∧ qS w ⟨g,0,none⟩ xs:=by
 rcases h.2 with ⟨rfl,rfl⟩ | ⟨g,cap,cur,rfl,hbg,hg,h1,h2,h3,h4⟩
 · exact .inl ⟨rfl,rfl,List.eq_nil_of_length_eq_zero (by simpa using h.1)⟩
 · refine .inr ⟨g,cap,rfl,hbg,h1,h2,(Array.getElem?_eq_some_iff.1 hg).1,fun j u hj=>?_⟩
   rw [fN,Nat.zero_add,cell_of_row w g j cur e (0,0) hg];rw [← h4,List.getElem?_take] at hj;split at hj
   · simpa using hj
   · cases hj
theorem gT {s0 x0 : Operand} {base c b nn mm cap : Nat} {E : TypeId} {z v : Value} {xs news : List Value} {ad : Addr} {a0 : Array TypeId} (ha : a0 = #[T,T]) (hu : P.underlying T = some (.slice E)) (hi : (P.info? E).map (fun i=>(i.size,i.bytes,i.zero)) = some (c,b,some z)) (hz : z.cells.size = c) (hc : 0 < c)
 (hs : ev l s0 = v) (hown : jT w base E c v nn xs) (hx : ev l x0 = .slice (some ad) mm cap) (hl : news.length = mm * c) (hrow : qS w ad news) (h1 : ∀ u ∈ news,u.oneCell' = true) (h63 : nn + mm ≤ 9223372036854775807) (hbytes : (nn + mm) * b ≤ 140737488355328) (hbase : base ≤ w.heap.size)
 (h : ∀ v' w',jT w' base E c v' (nn + mm) (xs ++ news) → Ar w w' base → (v' = .slice none 0 0 ↔ v = .slice none 0 0 ∧ mm = 0) → wpList P ops Q rest (Fr (l.set d v') ds) w') :
 wpList P ops Q (Oper.mk (some d) (.call { callee:=.builtin .append,args:=#[s0,x0],argTypes:=a0 }) ty pos after none :: rest) (Fr l ds) w:=by
 subst ha;cases hq : P.info? E with
 | none=>rw [hq] at hi; cases hi
 | some i =>
  rw [hq] at hi;simp only[Option.map_some,Option.some.injEq,Prod.mk.injEq] at hi;obtain ⟨e1,e2,e3⟩:=hi;refine wpList_append_own w rfl s0 x0 T rfl base E i z c b hu hq e3 e1 e2 hz hc v nn xs (by rw [iX,dH]; exact hs) hown ad mm cap news (by rw [iX,dH]; exact hx) hl hrow h1 (by simpa [maxLen] using h63) hbytes hbase ?_;intro v' w' ho hg hn;show wpList P ops Q rest ((Fr l ds).put (some d) v') w'
  rw [iP];exact h v' w' ho (Km hown hg hbase) hn
theorem Nv {s0 x0 : Operand} {base c b nn cap : Nat} {E : TypeId} {z v : Value} {xs : List Value} {a0 : Array TypeId} (ha : a0 = #[T,T]) (hu : P.underlying T = some (.slice E)) (hi : (P.info? E).map (fun i=>(i.size,i.bytes,i.zero)) = some (c,b,some z))
 (hs : ev l s0 = v) (hown : jT w base E c v nn xs) (hx : ev l x0 = .slice none 0 cap)
 (h : wpList P ops Q rest (Fr (l.set d v) ds) w) :
 wpList P ops Q (Oper.mk (some d) (.call { callee:=.builtin .append,args:=#[s0,x0],argTypes:=a0 }) ty pos after none :: rest) (Fr l ds) w:=by
 subst ha;cases hq : P.info? E with
 | none=>rw [hq] at hi; cases hi
 | some i =>
  refine lE (w':=w) (fun o ho _=>?_) h;rcases hown.2 with ⟨rfl,rfl⟩ | ⟨g,cp,cur,rfl,hbg,hg,h1,h2,h3,h4⟩
  · simp [execOp,ho,resolve,invoke,builtin,dH,hs,hx,Builtin.append_,run_underlying hu,sizeOf,typeInfo,hq,Builtin.lenOf,Builtin.firstCells]
  · simp [execOp,ho,resolve,invoke,builtin,dH,hs,hx,Builtin.append_,run_underlying hu,sizeOf,typeInfo,hq,Builtin.lenOf,Builtin.firstCells,h1,storeCells]
end
section
variable {P : Program} {ds : List Deferred} {l : List Value} {x y : Operand} {T T' ty : TypeId} {k : IntKind} {m n r : Int}
theorem cK (hx : ev l x = .int k m) (hy : ev l y = .int k n) (h : m < n) : gQ P l (.binOp .lss T x y T') ty (.bool true):=by
 have:=eA (P:=P) (T:=T) (T':=T') (ty:=ty) hx hy;rwa [decide_eq_true h] at this
theorem fA (hx : ev l x = .int k m) (hy : ev l y = .int k n) (h : ¬ m < n) : gQ P l (.binOp .lss T x y T') ty (.bool false):=by
 have:=eA (P:=P) (T:=T) (T':=T') (ty:=ty) hx hy;rwa [decide_eq_false h] at this
theorem Kn (hx : ev l x = .int k m) (hy : ev l y = .int k n) (h : m ≤ n) : gQ P l (.binOp .leq T x y T') ty (.bool true):=by
 have:=yF (P:=P) (T:=T) (T':=T') (ty:=ty) hx hy;rwa [decide_eq_true h] at this
theorem As (hx : ev l x = .int k m) (hy : ev l y = .int k n) (h : ¬ m ≤ n) : gQ P l (.binOp .leq T x y T') ty (.bool false):=by
 have:=yF (P:=P) (T:=T) (T':=T') (ty:=ty) hx hy;rwa [decide_eq_false h] at this
theorem kT (hx : ev l x = .int k m) (hy : ev l y = .int k n) (h : n < m) : gQ P l (.binOp .gtr T x y T') ty (.bool true):=by
 have:=gS (P:=P) (T:=T) (T':=T') (ty:=ty) hx hy;rwa [decide_eq_true h] at this
theorem jZ (hx : ev l x = .int k m) (hy : ev l y = .int k n) (h : ¬ n < m) : gQ P l (.binOp .gtr T x y T') ty (.bool false):=by
 have:=gS (P:=P) (T:=T) (T':=T') (ty:=ty) hx hy;rwa [decide_eq_false h] at this
theorem Qn (hx : ev l x = .int k m) (hy : ev l y = .int k n) (h : n ≤ m) : gQ P l (.binOp .geq T x y T') ty (.bool true):=by
 have:=lC (P:=P) (T:=T) (T':=T') (ty:=ty) hx hy;rwa [decide_eq_true h] at this
theorem Yw (hx : ev l x = .int k m) (hy : ev l y = .int k n) (h : ¬ n ≤ m) : gQ P l (.binOp .geq T x y T') ty (.bool false):=by
 have:=lC (P:=P) (T:=T) (T':=T') (ty:=ty) hx hy;rwa [decide_eq_false h] at this
theorem nD (hx : ev l x = .int k m) (hy : ev l y = .int k n) (h : m = n) : gQ P l (.binOp .eql T x y T') ty (.bool true):=by
 have:=nA (P:=P) (T:=T) (T':=T') (ty:=ty) hx hy;rwa [decide_eq_true h] at this
theorem kL (hx : ev l x = .int k m) (hy : ev l y = .int k n) (h : ¬ m = n) : gQ P l (.binOp .eql T x y T') ty (.bool false):=by
 have:=nA (P:=P) (T:=T) (T':=T') (ty:=ty) hx hy;rwa [decide_eq_false h] at this
theorem uX (hx : ev l x = .int k m) (hy : ev l y = .int k n) (h : m ≠ n) : gQ P l (.binOp .neq T x y T') ty (.bool true):=by
 have:=nB (P:=P) (T:=T) (T':=T') (ty:=ty) hx hy;rwa [decide_eq_true h] at this
theorem qG (hx : ev l x = .int k m) (hy : ev l y = .int k n) (h : ¬ m ≠ n) : gQ P l (.binOp .neq T x y T') ty (.bool false):=by
 have:=nB (P:=P) (T:=T) (T':=T') (ty:=ty) hx hy;rwa [decide_eq_false h] at this
theorem cG {c : Operand} (hc : ev l c = .bool true) : gQ P l (.pick c x y) ty (ev l x):=Fl hc
theorem cO {c : Operand} (hc : ev l c = .bool false) : gQ P l (.pick c x y) ty (ev l y):=Fl hc
theorem qW {op : Op} {v u : Value} (h : gQ P l op ty v) (e : v = u) : gQ P l op ty u:=e ▸ h
theorem iD {b c : Bool} (h : b = c) : Value.bool b = Value.bool c:=by rw [h]
theorem Qo {k : IntKind} {a b : Int} (h : a = b) : Value.int k a = Value.int k b:=by rw [h]
end
def nZ : List Value → List Nat → (Nat → Value) → List Value
 | l,t :: ts,g=>nZ (l.set t (g t)) ts g
 | l,[],_=>l
theorem bO {l : List Value} {t : Nat} {ts : List Nat} {g : Nat → Value} : nZ l (t :: ts) g = nZ (l.set t (g t)) ts g:=rfl
theorem bY {l : List Value} {g : Nat → Value} : nZ l [] g = l:=rfl
theorem Dw : ∀ (ts : List Nat) (l : List Value),nZ l ts (l.getD · undef) = l:=by
 intro ts;have key : ∀ (ts : List Nat) (l : List Value) (g : Nat → Value),(∀ t,l.set t (g t) = l) → nZ l ts g = l:=by
  intro ts
  induction ts with
  | nil=>intro l g _; rfl
  | cons t ts ih=>intro l g h; rw [bO,h t]; exact ih l g h
 exact fun l=>key ts l _ fun t=>Ia
section
variable {P : Program} {ds : List Deferred} {l : List Value}
theorem dI {c : Code} {Q : Exit → Act → World → Prop} {w : World} (ts ss : List Nat) (I : Nat → List Value → World → Prop) (h0 : ∃ n,I n (ts.map (l.getD · undef)) w)
 (hr : ∀ n vs w,I n vs w → ∀ g : Nat → Value,c.wp P (Exit.then (fun a' w'=>∃ n' l',n' < n ∧ a' = Fr l' ∧ nZ (kX l ts (ts.map (l'.getD · undef))) ss (l'.getD · undef) = l' ∧ I n' (ts.map (l'.getD · undef)) w') Q) (Fr (nZ (kX l ts vs) ss g)) w) : (Code.loop c).wp P Q (Fr l) w:=by
 obtain ⟨n0,h0⟩:=h0
 let J : Nat → Act → World → Prop:=fun n a w=>∃ vs g,a = Fr (nZ (kX l ts vs) ss g) ∧ I n vs w
 have hJ0 : ∃ n,J n (Fr l) w:=⟨n0,_,(l.getD · undef),by rw [vQ,Dw],h0⟩
 let μ : Act → World → Nat:=fun a w=>@dite _ (∃ n,J n a w) (Classical.propDecidable _) (fun h=>Aq (fun n=>J n a w) h) (fun _=>0)
 refine wp_loop (fun a w=>∃ n,J n a w) μ hJ0 ?_;intro a w hI;obtain ⟨vs,g,rfl,hIv⟩:=Ib hI;refine Code.wp_mono ?_ (hr _ vs w hIv g);intro e a' w' hq;cases e with
 | normal =>
  obtain ⟨n',l',hlt,rfl,he,hI'⟩:=hq;have hJ : J n' (Fr l') w':=⟨_,(l'.getD · undef),by rw [he],hI'⟩
  refine ⟨⟨n',hJ⟩,?_⟩;have e1 : μ (Fr l') w' = Aq (fun n=>J n (Fr l') w') ⟨n',hJ⟩:=by simp only[μ]; rw [dif_pos ⟨n',hJ⟩]
  have e2 : μ (Fr (nZ (kX l ts vs) ss g)) w = Aq (fun n=>J n (Fr (nZ (kX l ts vs) ss g)) w) hI:=by simp only[μ]; rw [dif_pos hI]
  rw [e1,e2];exact Nat.lt_of_le_of_lt (Nu _ hJ) hlt
 | exit id=>exact hq
 | goto id=>exact hq
 | ret=>exact hq
 | panic ch=>exact hq
 | outgrown=>exact hq
end
section
variable {P : Program} {ds : List Deferred} {l : List Value} {ops : Array Oper} {Q : Exit → Act → World → Prop} {w : World} {rest : List (Oper × Bool)} {d : Nat} {op : Op} {ty : TypeId} {pos : String} {after : Array Edge} {v : Value}
theorem uN (hr : gQ P l op ty v) (h : eS P ops Q rest (Fr (l.set d v) ds) w) : eS P ops Q ((Oper.mk (some d) op ty pos after none,true) :: rest) (Fr l ds) w:=by
 refine ⟨v,.inl ⟨by simp [Region.wanted],fun w=>hr w _ rfl rfl⟩,?_⟩;show eS P ops Q rest ((Fr l ds).put (some d) v) w
 rw [iP];exact h
theorem aby (h : Q .normal (Fr l ds) w) : eS P ops Q [] (Fr l ds) w:=h
theorem Yx {o : Oper} (h : wpList P ops (Exit.then (eS P ops Q rest) Q) [o] (Fr l ds) w) : eS P ops Q ((o,false) :: rest) (Fr l ds) w:=h
theorem cW {Q : Exit → Act → World → Prop} (h : ∀ c (t : Array Value) ds (t' : Array Value) w,Q (.panic c) { tmps:=t,defers:=ds } w → Q (.panic c) { tmps:=t',defers:=ds } w) : ∀ c d v a w,Q (.panic c) (Act.put a d v) w → Q (.panic c) a w:=by
 intro c d v a w hq;cases d with
 | none=>exact hq
 | some d=>exact h c _ _ _ w hq
end
end Go.Lith
namespace Go.Lith
open Go.RowKit
/-! ### Names that are short -/
theorem zA {l : List Value} (t : Nat) : ev l (.tmp t) = l.getD t undef:=rfl
theorem zB {l : List Value} (v : Value) : ev l (.const v) = v:=rfl
theorem zC {l : List Value} (f : Nat) : ev l (.func f) = .func (.func f) #[] #[]:=rfl
theorem zD {α : Type} {x : α} {xs : List α} {n : Nat} {d : α} : (x :: xs).getD (n + 1) d = xs.getD n d:=rfl
theorem zE {α : Type} {x : α} {xs : List α} {d : α} : (x :: xs).getD 0 d = x:=rfl
theorem zF {α : Type} {x : α} {xs : List α} {n : Nat} {a : α} : (x :: xs).set (n + 1) a = x :: xs.set n a:=rfl
theorem zG {α : Type} {x : α} {xs : List α} {a : α} : (x :: xs).set 0 a = a :: xs:=rfl
theorem zH {α : Type} {x : α} {xs : List α} {n : Nat} : (x :: xs).take (n + 1) = x :: xs.take n:=rfl
theorem zI {α : Type} {xs : List α} : xs.take 0 = []:=List.take_zero
theorem zJ {α : Type} {x : α} {xs : List α} {n : Nat} : (x :: xs).drop (n + 1) = xs.drop n:=rfl
theorem zK {α : Type} {xs : List α} : xs.drop 0 = xs:=rfl
theorem zL {α : Type} {x : α} {xs ys : List α} : (x :: xs) ++ ys = x :: (xs ++ ys):=rfl
theorem zM {α : Type} {ys : List α} : [] ++ ys = ys:=rfl
theorem zN {α : Type} {ys : List α} : ys ++ [] = ys:=List.append_nil ys
theorem zO {α : Type} {x : α} {xs : List α} : (x :: xs).length = xs.length + 1:=rfl
theorem zP {α : Type} : ([] : List α).length = 0:=rfl
theorem zQ {α β : Type} {f : α → β} {x : α} {xs : List α} : (x :: xs).map f = f x :: xs.map f:=rfl
theorem zR {α β : Type} {f : α → β} : ([] : List α).map f = []:=rfl
theorem zS {α : Type} {l : List α} {i : Nat} : l.toArray[i]? = l[i]?:=List.getElem?_toArray
theorem zT {α : Type} {x : α} {xs : List α} {n : Nat} : (x :: xs)[n + 1]? = xs[n]?:=rfl
theorem zU {α : Type} {x : α} {xs : List α} : (x :: xs)[0]? = some x:=rfl
theorem zV {α : Type} {x d : α} : (some x).getD d = x:=rfl
theorem zz : (∀ (l : List Go.Value) (t : Nat), ev l (.tmp t) = l.getD t undef) ∧ (∀ (l : List Go.Value) (v : Go.Value), ev l (.const v) = v) ∧ (∀ (l : List Go.Value) (f : Nat), ev l (.func f) = .func (.func f) #[] #[]) ∧ (∀ {α : Type} (x : α) (xs : List α) (n : Nat) (d : α), (x :: xs).getD (n + 1) d = xs.getD n d) ∧ (∀ {α : Type} (x : α) (xs : List α) (d : α), (x :: xs).getD 0 d = x) ∧ (∀ {α : Type} (x : α) (xs : List α) (n : Nat) (a : α), (x :: xs).set (n + 1) a = x :: xs.set n a) ∧ (∀ {α : Type} (x : α) (xs : List α) (a : α), (x :: xs).set 0 a = a :: xs) := ⟨fun _ _ => rfl, fun _ _ => rfl, fun _ _ => rfl, fun _ _ _ _ => rfl, fun _ _ _ => rfl, fun _ _ _ _ => rfl, fun _ _ _ => rfl⟩
theorem zy : (∀ {α : Type} (x : α) (xs : List α) (n : Nat), (x :: xs).take (n + 1) = x :: xs.take n) ∧ (∀ {α : Type} (xs : List α), xs.take 0 = []) ∧ (∀ {α : Type} (x : α) (xs : List α) (n : Nat), (x :: xs).drop (n + 1) = xs.drop n) ∧ (∀ {α : Type} (xs : List α), xs.drop 0 = xs) := ⟨fun _ _ _ => rfl, fun _ => List.take_zero, fun _ _ _ => rfl, fun _ => rfl⟩
theorem zx : (∀ {α : Type} (x : α) (xs ys : List α), (x :: xs) ++ ys = x :: (xs ++ ys)) ∧ (∀ {α : Type} (ys : List α), [] ++ ys = ys) ∧ (∀ {α : Type} (ys : List α), ys ++ [] = ys) ∧ (∀ {α : Type} (x : α) (xs : List α), (x :: xs).length = xs.length + 1) ∧ (∀ {α : Type}, ([] : List α).length = 0) := ⟨fun _ _ _ => rfl, fun _ => rfl, fun _ => List.append_nil _, fun _ _ => rfl, rfl⟩
theorem zw : (∀ {α : Type} (l : List α) (i : Nat), l.toArray[i]? = l[i]?) ∧ (∀ {α : Type} (x : α) (xs : List α) (n : Nat), (x :: xs)[n + 1]? = xs[n]?) ∧ (∀ {α : Type} (x : α) (xs : List α), (x :: xs)[0]? = some x) ∧ (∀ {α : Type} (x d : α), (some x).getD d = x) := ⟨fun _ _ => List.getElem?_toArray, fun _ _ _ => rfl, fun _ _ => rfl, fun _ _ => rfl⟩
theorem zv : (∀ {α β : Type} (f : α → β) (x : α) (xs : List α), (x :: xs).map f = f x :: xs.map f) ∧ (∀ {α β : Type} (f : α → β), ([] : List α).map f = []) ∧ (∀ (l : List Go.Value) (t : Nat) (ts : List Nat) (v : Go.Value) (vs : List Go.Value), kX l (t :: ts) (v :: vs) = kX (l.set t v) ts vs) ∧ (∀ (l vs : List Go.Value), kX l [] vs = l) ∧ (∀ (l : List Go.Value) (t : Nat) (ts : List Nat) (g : Nat → Go.Value), nZ l (t :: ts) g = nZ (l.set t (g t)) ts g) ∧ (∀ (l : List Go.Value) (g : Nat → Go.Value), nZ l [] g = l) := ⟨fun _ _ _ => rfl, fun _ => rfl, fun _ _ _ _ _ => rfl, fun _ _ => yG, fun _ _ _ _ => rfl, fun _ _ => rfl⟩
end Go.Lith
namespace Go.Lith
open Go.RowKit
section
variable {P : Program} {ds : List Deferred} {l : List Value} {x y z0 : Operand} {T T' ty : TypeId}
theorem Ic {A : Option Addr} {n c : Nat} {E : TypeId} (hu : P.underlying T = some (.slice E)) (hx : ev l x = .slice A n c) (hy : ev l y = .slice none 0 0) : gQ P l (.binOp .eql T x y T') ty (.bool A.isNone):=fun w o ho _=>by
 obtain ⟨D,hD⟩ : ∃ D,Op.maxDepth = D + 1:=⟨9999,rfl⟩
 cases A <;> simp [execOp,ho,dH,hx,hy,eqGuard,binOp,Op.equal,hD,Op.equalIn,run_underlying hu]
variable {ops : Array Oper} {Q : Exit → Act → World → Prop} {rest : List Oper} {d : Nat} {pos : String} {after : Array Edge} {w : World}
theorem Uz {op : Op} {v : Value} {w' : World} (hr : ∀ o : Oper,o.op = op → (execOp (Fr l).eval o).run P w = .ok (.value v) w') (h : wpList P ops Q rest (Fr l ds) w') : wpList P ops Q (Oper.mk none op ty pos after none :: rest) (Fr l ds) w:=by
 refine wpList_plain rfl fun K hK=>?_;unfold Oper.wp;rw [iX,hr _ rfl];exact hK _ _ h
theorem Fp : Array.map (fun (_ : Nat)=>(default : Value)) (Array.range 0) = #[]:=Array.eq_empty_of_size_eq_zero (by simp)
theorem Fq (z v : Value) : (Array.map (fun x=>[z][x % 1]?.getD default) (Array.range 1)).setIfInBounds 0 v = #[v]:=by
 apply Array.ext (by simp);intro i h1 h2;obtain rfl : i = 0:=by simpa using h2
 simp
theorem Fs (z v v2 : Value) : ((Array.map (fun x=>[z][x % 1]?.getD default) (Array.range 2)).setIfInBounds 0 v).setIfInBounds 1 v2 = #[v,v2]:=by
 apply Array.ext (by simp);intro i h1 h2;have h3 : i < 2:=by simpa using h2
 rcases Nat.lt_or_ge i 1 with h | h
 · obtain rfl : i = 0:=by omega
   simp
 · obtain rfl : i = 1:=by omega
   simp
theorem Qp {E : TypeId} {c : Nat} (hu : P.underlying T = some (.slice E)) (hi : (P.info? E).map (fun i=>i.size) = some c)
 (h : ∀ w' g,dL w w' → w.heap.size ≤ g → fW w' g [] E → wpList P ops Q rest (Fr (l.set d (.slice (some ⟨g,0,none⟩) 0 0)) ds) w') :
 wpList P ops Q (Oper.mk (some d) (.buildSlice T 0 #[]) ty pos after none :: rest) (Fr l ds) w:=by
 cases hq : P.info? E with
 | none=>rw [hq] at hi; cases hi
 | some i =>
  exact lE (w':=w.alloc (.cells #[] E)) (v:=.slice (some ⟨w.heap.size,0,none⟩) 0 0) (fun o ho _=>by simp [execOp,ho,Instr.buildSlice,run_underlying hu,sizeOf,typeInfo,hq,Instr.fill,newRow,newObj,Sem.run,Fp]) (h _ _ ((dL.refl w).alloc _) (Nat.le_refl _) (jD w [] E))
theorem cH {E : TypeId} {z : Value} (hu : P.underlying T = some (.slice E)) (hi : (P.info? E).map (fun i=>(i.size,i.zero)) = some (1,some z)) (hz : z.cells = #[z]) {v : Value} (hx : ev l x = v) (hv : v.cells = #[v])
 (h : ∀ w' g,dL w w' → w.heap.size ≤ g → fW w' g [v] E → wpList P ops Q rest (Fr (l.set d (.slice (some ⟨g,0,none⟩) 1 1)) ds) w') :
 wpList P ops Q (Oper.mk (some d) (.buildSlice T 1 #[(0,x)]) ty pos after none :: rest) (Fr l ds) w:=by
 cases hq : P.info? E with
 | none=>rw [hq] at hi; cases hi
 | some i =>
  rw [hq] at hi;simp only[Option.map_some,Option.some.injEq,Prod.mk.injEq] at hi;obtain ⟨e1,e2⟩:=hi;exact lE (w':=w.alloc (.cells #[v] E)) (v:=.slice (some ⟨w.heap.size,0,none⟩) 1 1) (fun o ho _=>by simp [execOp,ho,Instr.buildSlice,run_underlying hu,sizeOf,typeInfo,zeroValue,hq,e1,e2,hz,dH,hx,hv,Instr.fill,newRow,newObj,Sem.run,Fq]) (h _ _ ((dL.refl w).alloc _) (Nat.le_refl _) (jD w [v] E))
theorem pA {E : TypeId} {z : Value} (hu : P.underlying T = some (.slice E)) (hi : (P.info? E).map (fun i=>(i.size,i.zero)) = some (1,some z)) (hz : z.cells = #[z]) {v v2 : Value} (hx : ev l x = v) (hv : v.cells = #[v]) (hy : ev l y = v2) (hv2 : v2.cells = #[v2])
 (h : ∀ w' g,dL w w' → w.heap.size ≤ g → fW w' g [v,v2] E → wpList P ops Q rest (Fr (l.set d (.slice (some ⟨g,0,none⟩) 2 2)) ds) w') :
 wpList P ops Q (Oper.mk (some d) (.buildSlice T 2 #[(0,x),(1,y)]) ty pos after none :: rest) (Fr l ds) w:=by
 cases hq : P.info? E with
 | none=>rw [hq] at hi; cases hi
 | some i =>
  rw [hq] at hi;simp only[Option.map_some,Option.some.injEq,Prod.mk.injEq] at hi;obtain ⟨e1,e2⟩:=hi;exact lE (w':=w.alloc (.cells #[v,v2] E)) (v:=.slice (some ⟨w.heap.size,0,none⟩) 2 2) (fun o ho _=>by simp [execOp,ho,Instr.buildSlice,run_underlying hu,sizeOf,typeInfo,zeroValue,hq,e1,e2,hz,dH,hx,hv,hy,hv2,Instr.fill,newRow,newObj,Sem.run,Fs]) (h _ _ ((dL.refl w).alloc _) (Nat.le_refl _) (jD w [v,v2] E))
theorem jT.build0 {base g : Nat} {E : TypeId} {c : Nat} (hB : fW w g [] E) (hb : base ≤ g) : jT w base E c (.slice (some ⟨g,0,none⟩) 0 0) 0 []:=by
 refine ⟨(Nat.zero_mul c).symm,.inr ⟨g,0,#[],rfl,hb,hB,Nat.le_refl _,by decide,by simp,by simp⟩⟩
theorem Va {E : TypeId} {z : Value} {g o n cap : Nat} {cs : List Value} {t : TypeId} {a0 : Array TypeId} (ha : a0 = #[T]) (hu : P.underlying T = some (.slice E)) (hi : (P.info? E).map (fun i=>(i.size,i.zero)) = some (1,some z)) (hz : z.cells = #[z]) (hx : ev l x = .slice (some ⟨g,o,none⟩) n cap) (hn : 0 < n) (hB : fW w g cs t) (hfit : o + n ≤ cs.length) (h1 : z.oneCell' = true)
 (h : ∀ w',Mm w w' g → fW w' g (aX cs o (List.replicate n z)) t → wpList P ops Q rest (Fr l ds) w') :
 wpList P ops Q (Oper.mk none (.call { callee:=.builtin .clear,args:=#[x],argTypes:=a0 }) ty pos after none :: rest) (Fr l ds) w:=by
 subst ha;cases hq : P.info? E with
 | none=>rw [hq] at hi; cases hi
 | some i =>
  rw [hq] at hi;simp only[Option.map_some,Option.some.injEq,Prod.mk.injEq] at hi;obtain ⟨e1,e2⟩:=hi;have hzc : (Builtin.zeroCells z.cells n).toList = List.replicate n z:=by
   rw [hz];apply List.ext_getElem
   · simp [Builtin.zeroCells]
   · intro j h1 h2
     simp [Builtin.zeroCells,Nat.mod_one]
  have hst:=run_storeCells_at P g o t (List.replicate n z) 0 cs.toArray w hB (by simpa using hfit) (fun u hu=>by rw [List.eq_of_mem_replicate hu]; exact h1);simp only[Nat.add_zero,List.toList_toArray] at hst;obtain ⟨n,rfl⟩ : ∃ m,n = m + 1:=⟨n - 1,by omega⟩
  refine Uz (v:=.tuple #[]) (w':=w.setRow g (aX cs o (List.replicate (n + 1) z)).toArray) (fun o' ho=>?_) (h _ (rT w g _) (setRow_heap w g cs.toArray _ t _ hB));simp [execOp,ho,resolve,invoke,builtin,dH,hx,Builtin.clear_,run_underlying hu,zeroValue,typeInfo,hq,e2,hzc,hst,aX]
theorem Qq {cs : List Value} {off : Nat} : aX cs off [] = cs:=by simp [aX]
end
end Go.Lith
namespace Go.Lith
open Go.RowKit
theorem ado {P : Program} {l : List Value} {w : World} {fn : Func} {R : Ending → World → Prop} (hr : fn.results = #[]) (hR : R (.returned (.tuple #[])) w) : bodyPost P fn R .ret (Fr l) w:=by
 refine ⟨rfl,_,?_,hR⟩;unfold results;rw [hr];simp
theorem abz {P : Program} {l : List Value} {w : World} {fn : Func} {R : Ending → World → Prop} (hr : fn.results = #[]) (hR : R (.returned (.tuple #[])) w) : bodyPost P fn R .normal (Fr l) w:=ado hr hR
structure Yb (w w' : World) (g : Nat) : Prop where
 os : w'.os = w.os
 tape : w'.tape = w.tape
 output : w'.output = w.output
 size : w.heap.size ≤ w'.heap.size
 block : ∀ k,k < w.heap.size → k ≠ g → w'.heap[k]? = w.heap[k]?
theorem dL.upd {w w' : World} (h : dL w w') (g : Nat) : Yb w w' g:=⟨h.os,h.tape,h.output,h.size,fun k hk _=>Below.block h k hk⟩
theorem Yb.chg {w w' w'' : World} {g k : Nat} (h : Yb w w' g) (hC : Mm w' w'' k) (hk : w.heap.size ≤ k ∨ k = g) : Yb w w'' g :=
 ⟨hC.os.trans h.os,hC.tape.trans h.tape,hC.output.trans h.output,by rw [hC.size]; exact h.size,fun j hj hne=>(hC.block j (by omega)).trans (h.block j hj hne)⟩
theorem dL.grownUpd {w0 w w' : World} {g : Nat} (h : dL w0 w) (hU : Yb w w' g) (hg : w0.heap.size ≤ g) : dL w0 w' :=
 ⟨hU.os.trans h.os,hU.tape.trans h.tape,hU.output.trans h.output,Nat.le_trans h.size hU.size,fun k hk=>(hU.block k (Nat.lt_of_lt_of_le hk h.size) (by omega)).trans (Below.block h k hk)⟩
theorem fW.upd {w w' : World} {g g' : Nat} {cs : List Value} {t : TypeId} (h : fW w g cs t) (hU : Yb w w' g') (hne : g ≠ g') : fW w' g cs t:=(hU.block g h.lt hne).trans h
def Qr (P : Program) (f : FuncId) (args : List Value) (w : World) (g : Nat) (R : Value → World → Prop) : Prop :=
 bH P f ∧ Calls P f args.toArray w fun e w'=>∃ v,e = .returned v ∧ Yb w w' g ∧ R v w'
section
variable {P : Program} {ds : List Deferred} {l : List Value} {x y : Operand} {ty : TypeId} {w : World}
variable {ops : Array Oper} {Q : Exit → Act → World → Prop} {rest : List Oper} {d : Nat} {pos : String} {after : Array Edge}
theorem vS {f : FuncId} {fo : Operand} {xs : Array Operand} {args : List Value} {first cap : Array Value} {a0 : Array TypeId} {g : Nat} {R : Value → World → Prop} (hf : ev l fo = .func (.func f) first cap) (hxs : first.toList ++ xs.toList.map (ev l) ++ cap.toList = args) (hc : Qr P f args w g R)
 (h : ∀ v w',Yb w w' g → R v w' → wpList P ops Q rest (Fr (l.set d v) ds) w') : wpList P ops Q (Oper.mk (some d) (.call { callee:=.value fo,args:=xs,argTypes:=a0 }) ty pos after none :: rest) (Fr l ds) w:=by
 refine wpList_plain rfl fun K hK=>?_;unfold Oper.wp;rw [iX,nQ hc.1 hf hxs _ rfl];refine hc.2.mono ?_;rintro e w' ⟨v,rfl,hE,hR⟩;show K ((Fr l ds).put (some d) v) w'
 rw [iP];exact hK _ _ (h v w' hE hR)
theorem Vb {T : TypeId} {E : TypeId} {g o n cap m cap2 : Nat} {A : Option Addr} {cs us : List Value} {t : TypeId} {T' : TypeId} {a0 : Array TypeId} (ha : a0 = #[T,T']) (hu : P.underlying T = some (.slice E)) (hi : (P.info? E).map (·.size) = some 1) (hx : ev l x = .slice (some ⟨g,o,none⟩) n cap) (hy : ev l y = .slice A m cap2) (hl : us.length = Nat.min m n)
 (hsrc : ∀ j v,us[j]? = some v → ∃ a,A = some a ∧ w.cell? (a.add j) = some v) (hB : fW w g cs t) (hfit : o + us.length ≤ cs.length) (h1 : ∀ v ∈ us,v.oneCell' = true)
 (h : ∀ w',Mm w w' g → fW w' g (aX cs o us) t → wpList P ops Q rest (Fr (l.set d (.int .i64 (us.length : Int))) ds) w') :
 wpList P ops Q (Oper.mk (some d) (.call { callee:=.builtin .copy,args:=#[x,y],argTypes:=a0 }) ty pos after none :: rest) (Fr l ds) w:=by
 subst ha;cases us with
 | nil =>
  refine lE (v:=.int .i64 0) (w':=w) (fun o' ho _=>?_) (h w ⟨rfl,rfl,rfl,rfl,fun _ _=>rfl⟩ (by rw [Qq]; exact hB));have hrun:=run_copy_none (P:=P) w T T' o'.type E (some ⟨g,o,none⟩) A n cap m cap2 hu hi hl.symm;simp [execOp,ho,resolve,invoke,builtin,dH,hx,hy,hrun,goInt]
 | cons u us =>
  obtain ⟨a,rfl,_⟩:=hsrc 0 u rfl;refine lE (v:=.int .i64 ((u :: us).length : Int)) (w':=w.setRow g (aX cs o (u :: us)).toArray) (fun o' ho _=>?_) (h _ (rT w g _) (setRow_heap w g cs.toArray _ t _ hB));have hrun:=run_copy_row (P:=P) w T T' o'.type E g o n cap a m cap2 cs.toArray t (u :: us) hu hi hB hl (fun j v hj=>let ⟨a',e,hc⟩:=hsrc j v hj; by cases e; exact hc) (by simpa using hfit) h1;simp only[List.toList_toArray] at hrun;simp [execOp,ho,resolve,invoke,builtin,dH,hx,hy,hrun,aX,goInt]
end
end Go.Lith
namespace Go.Lith
open Go.RowKit
def jM (w : World) (S : World → Prop) : Prop:=S w
theorem jM.nil {w : World} : jM w (fun _=>True):=trivial
theorem jM.blk {w : World} {g : Nat} {cs : List Value} {t : TypeId} {S : World → Prop} (h : fW w g cs t) (k : jM w S) : jM w (fun w=>fW w g cs t ∧ S w):=⟨h,k⟩
section
variable {P : Program} {ops : Array Oper} {md : Region.Mode} {S : World → Prop}
def dV (P : Program) (ops : Array Oper) (S : World → Prop) (Q : Exit → Act → World → Prop) : List (Oper × Bool) → Act → World → Prop
 | [],a,w=>Q .normal a w
 | (o,true) :: r,a,w=>∃ v,YieldsIf P ops S o v a ∧ dV P ops S Q r (a.put o.dst v) w
 | (o,false) :: r,a,w=>wpList P ops (Exit.then (fun a w=>S w ∧ dV P ops S Q r a w) Q) [o] a w
theorem qH {Q : Exit → Act → World → Prop} (hs : Region.noSelect ops = true) (hQ : ∀ c d v a w,Q (.panic c) (Act.put a d v) w → Q (.panic c) a w) : ∀ (l : List (Nat × Bool)) (listed : Array Bool) (a : Act) (w : World),
 xE md ops l listed = true → S w → dV P ops S Q (l.map fun x=>((ops[x.1]?).getD default,x.2)) a w → wpAnyH P md ops Q S l.length listed a w
 | [],listed,a,w,hB,_,h=>⟨by simpa [xE] using hB,h⟩
 | (i,true) :: r,listed,a,w,hB,hS,h=>by
  simp only[xE,Bool.and_eq_true] at hB;obtain ⟨⟨⟨h1,h2⟩,h3⟩,h4⟩:=hB;obtain ⟨o,ho⟩:=Option.isSome_iff_exists.1 h1;simp only[List.map_cons,dV,ho,Option.getD_some] at h;obtain ⟨v,hy,hr⟩:=h;exact wpAnyH_take ho hs h2 h3 (fun c a w=>hQ c _ v a w) hy hS (qH hs hQ r _ _ _ h4 hS hr)
 | (i,false) :: r,listed,a,w,hB,hS,h=>by
  simp only[xE,Bool.and_eq_true,decide_eq_true_eq] at hB;obtain ⟨⟨h1,h2⟩,h4⟩:=hB;obtain ⟨o,ho⟩:=Option.isSome_iff_exists.1 h1;refine wpAnyH_all h2 (by simp) fun j hj=>?_;obtain rfl : j = i:=by simpa using hj
  simp only[List.map_cons,dV,ho,Option.getD_some] at h;have key : ∀ a' w',Exit.then (fun a w=>S w ∧ dV P ops S Q (r.map fun x=>((ops[x.1]?).getD default,x.2)) a w) Q .normal a' w' → S w' ∧ wpAnyH P md ops Q S r.length (listed.setIfInBounds j true) a' w':=fun a' w' hh=>⟨hh.1,qH hs hQ r _ a' w' h4 hh.1 hh.2⟩
  unfold wpOp;simp only[ho];simp only[wpList] at h;split
  · rename_i hw
    rw [if_pos hw] at h;rcases h with h | ⟨ha,x,y,hl⟩
    · refine .inl ?_
      unfold Oper.wp at h ⊢;generalize (execOp a.eval o).run P w = res at *
      cases res with
      | ok n w' =>
       cases n <;> simp only[Oper.upon] at h ⊢ <;>
        first
         | exact key _ _ h
         | exact Calls.mono h (fun e w'' he=>by cases e <;> first | exact key _ _ he | exact he)
         | exact Rows.mono h (fun _ _ he=>key _ _ he)
      | halt x w'=>cases x <;> simp only[Oper.upon] at h ⊢ <;> exact h
    · exact .inr ⟨ha,x,y,hl⟩
  · rename_i hw
    rw [if_neg hw] at h;exact key _ _ h
theorem dS {id : Nat} {Q : Exit → Act → World → Prop} {a : Act} {w : World} {l : List Oper} (o : List (Nat × Bool)) (hm : P.follows .mixedOrders = true) (hB : (Region.noSelect l.toArray && decide (o.length = l.length) && xE .any l.toArray o (Array.replicate l.toArray.size false)) = true)
 (hQ : ∀ c d v a w,Q (.panic c) (Act.put a d v) w → Q (.panic c) a w) {ol : List (Oper × Bool)} (hol : (o.map fun x=>((l.toArray[x.1]?).getD default,x.2)) = ol)
 (h : ∀ w',dL w w' → ∃ S,jM w' S ∧ dV P l.toArray S Q ol a w') : (Code.region id l.toArray true).wp P Q a w:=by
 simp only[Bool.and_eq_true,decide_eq_true_eq] at hB;subst hol;obtain ⟨S,hS,h⟩:=h _ (dL.refl w).drawn;refine wp_region_held (S:=S) hm ?_;have:=qH (md:=.any) hB.1.1 hQ o _ a { w with drawn:=w.drawn + 1 } hB.2 hS h;rwa [hB.1.2] at this
variable {ds : List Deferred} {l : List Value} {Q : Exit → Act → World → Prop} {w : World} {rest : List (Oper × Bool)} {d : Nat} {op : Op} {ty : TypeId} {pos : String} {after : Array Edge} {v : Value}
theorem Qs (hr : ∀ w,S w → Am P l op ty v w) (h : dV P ops S Q rest (Fr (l.set d v) ds) w) : dV P ops S Q ((Oper.mk (some d) op ty pos after none,true) :: rest) (Fr l ds) w:=by
 refine ⟨v,.inl ⟨by simp [Region.wanted],fun w hw=>hr w hw _ rfl rfl⟩,?_⟩;show dV P ops S Q rest ((Fr l ds).put (some d) v) w
 rw [iP];exact h
theorem aY (hr : gQ P l op ty v) (h : dV P ops S Q rest (Fr (l.set d v) ds) w) : dV P ops S Q ((Oper.mk (some d) op ty pos after none,true) :: rest) (Fr l ds) w:=Qs (fun w _=>hr w) h
theorem cF {T : TypeId} {x : Operand} {a : Addr} (hx : ev l x = .pointer (some a)) (hv : ∀ w',S w' → qT P w' T a v) (h : dV P ops S Q rest (Fr (l.set d v) ds) w) : dV P ops S Q ((Oper.mk (some d) (.load T x) ty pos after none,true) :: rest) (Fr l ds) w :=
 Qs (fun _ hS=>kS hx (hv _ hS)) h
theorem eR {j : Nat} {b : Bool} (hw : yielded ops l.toArray j = some b) (h : dV P ops S Q ((Oper.mk (some d) op ty pos after none,true) :: rest) (Fr l ds) w) : dV P ops S Q ((Oper.mk (some d) op ty pos after (some (j,b)),true) :: rest) (Fr l ds) w:=by
 obtain ⟨v,hy,h⟩:=h;refine ⟨v,?_,h⟩;rcases hy with ⟨_,hy⟩ | ⟨hn,_⟩
 · exact .inl ⟨by simp [Region.wanted,hw],hy⟩
 · simp [Region.wanted] at hn
theorem Yy {j : Nat} {b c : Bool} (hw : yielded ops l.toArray j = some c) (hbc : (c == b) = false) (h : dV P ops S Q rest (Fr (l.set d undef) ds) w) : dV P ops S Q ((Oper.mk (some d) op ty pos after (some (j,b)),true) :: rest) (Fr l ds) w:=by
 refine ⟨undef,.inr ⟨by simp [Region.wanted,hw]; simpa using hbc,rfl⟩,?_⟩;show dV P ops S Q rest ((Fr l ds).put (some d) undef) w
 rw [iP];exact h
theorem tT {j : Nat} (hw : yielded ops l.toArray j = some true) (h : dV P ops S Q rest (Fr (l.set d undef) ds) w) : dV P ops S Q ((Oper.mk (some d) op ty pos after (some (j,false)),true) :: rest) (Fr l ds) w:=Yy hw rfl h
theorem bA (h : Q .normal (Fr l ds) w) : dV P ops S Q [] (Fr l ds) w:=h
theorem cZ {o : Oper} (h : wpList P ops (Exit.then (fun a w=>S w ∧ dV P ops S Q rest a w) Q) [o] (Fr l ds) w) : dV P ops S Q ((o,false) :: rest) (Fr l ds) w:=h
end
end Go.Lith
namespace Go.Lith
open Go.RowKit
def rV (P : Program) (d : Nat) (T : TypeId) (x y : Value) (p : Prop) : Prop:=∀ w,∃ b : Bool,(Op.equalIn d T x y).run P w = .ok b w ∧ (b = true ↔ p)
section
variable {P : Program} {d : Nat} {T : TypeId}
theorem rV.int {k k' : IntKind} {m n : Int} (hu : P.underlying T = some (.int k')) : rV P (d + 1) T (.int k m) (.int k n) (m = n):=fun w=>⟨m == n,by unfold Op.equalIn; simp [run_underlying hu],by simp⟩
theorem rV.bool {a b : Bool} (hu : P.underlying T = some .bool) : rV P (d + 1) T (.bool a) (.bool b) (a = b):=fun w=>⟨a == b,by unfold Op.equalIn; simp [run_underlying hu],by simp⟩
theorem Au {a b : ByteArray} (h : a.toList = b.toList) : a = b:=by
 rw [ByteArray.toList_eq,ByteArray.toList_eq] at h;cases a; cases b;simp at h;rw [h]
theorem Ft (a b : ByteArray) : (a.toList == b.toList) = decide (a = b):=by
 by_cases h : a = b
 · subst h; simp
 · rw [decide_eq_false h]; exact beq_eq_false_iff_ne.2 fun e=>h (Au e)
theorem rV.str {a b : ByteArray} (hu : P.underlying T = some .string) : rV P (d + 1) T (.string a) (.string b) (a = b):=fun w=>⟨a == b,by unfold Op.equalIn; simp [run_underlying hu],by rw [beq_toListBytes,Ft]; simp⟩
def uK (P : Program) (d : Nat) (xs ys : Array Value) (fs : List Field) (p : Prop) : Prop:=∀ w,∃ b : Bool,(Op.eqFields d xs ys fs).run P w = .ok b w ∧ (b = true ↔ p)
theorem uK.nil {xs ys : Array Value} : uK P d xs ys [] True:=fun w=>⟨true,by simp [Op.eqFields],by simp⟩
theorem uK.cons {xs ys : Array Value} {f : Field} {fs : List Field} {x y : Value} {p q : Prop} (hn : f.name ≠ "_") (hx : ∀ w,(part f.type xs f.offset).run P w = .ok x w) (hy : ∀ w,(part f.type ys f.offset).run P w = .ok y w)
 (h : rV P d f.type x y p) (k : uK P d xs ys fs q) : uK P d xs ys (f :: fs) (p ∧ q):=fun w=>by
 obtain ⟨b,hb,hp⟩:=h w;obtain ⟨c,hc,hq⟩:=k w;cases b
 · exact ⟨false,by simp [Op.eqFields,hn,hx,hy,hb],by simp at hp ⊢; intro h; exact absurd h hp⟩
 · exact ⟨c,by simp [Op.eqFields,hn,hx,hy,hb,hc],by simp at hp; simp [hp,hq]⟩
def Df (P : Program) (d : Nat) (E : TypeId) (n : Nat) (xs ys : Array Value) (is : List Nat) (p : Prop) : Prop:=∀ w,∃ b : Bool,(Op.eqItems d E n xs ys is).run P w = .ok b w ∧ (b = true ↔ p)
theorem Df.nil {E : TypeId} {n : Nat} {xs ys : Array Value} : Df P d E n xs ys [] True:=fun w=>⟨true,by simp [Op.eqItems],by simp⟩
theorem Df.cons {E : TypeId} {n i : Nat} {is : List Nat} {xs ys : Array Value} {x y : Value} {p q : Prop} (hx : ∀ w,(part E xs (i * n)).run P w = .ok x w) (hy : ∀ w,(part E ys (i * n)).run P w = .ok y w)
 (h : rV P d E x y p) (k : Df P d E n xs ys is q) : Df P d E n xs ys (i :: is) (p ∧ q):=fun w=>by
 obtain ⟨b,hb,hp⟩:=h w;obtain ⟨c,hc,hq⟩:=k w;cases b
 · exact ⟨false,by simp [Op.eqItems,hx,hy,hb],by simp at hp ⊢; intro h; exact absurd h hp⟩
 · exact ⟨c,by simp [Op.eqItems,hx,hy,hb,hc],by simp at hp; simp [hp,hq]⟩
theorem rV.struct {fs : Array Field} {xs ys : Array Value} {p : Prop} (hu : P.underlying T = some (.struct fs)) (hs : P.stoodInHeld T = false) (h : uK P d xs ys fs.toList p) : rV P (d + 1) T (.agg xs) (.agg ys) p:=fun w=>by
 have hf : P.fieldsOf T = fs:=by simp [Program.fieldsOf,hu]
 rw [run_equalIn_struct w d T xs ys (by rw [hf]; exact hu) hs,hf];exact h w
theorem rV.array {n c : Nat} {E : TypeId} {xs ys : Array Value} {p : Prop} (hu : P.underlying T = some (.array n E)) (hc : fG P E c) (h : Df P d E c xs ys (List.range n) p) : rV P (d + 1) T (.agg xs) (.agg ys) p:=fun w=>by
 obtain ⟨i,hi,rfl⟩:=hc;have hE : P.cellsOf E = i.size:=by simp [Program.cellsOf,hi]
 rw [run_equalIn_array w d xs ys hu hi,hE];exact h w
theorem rV.iff {x y : Value} {p q : Prop} (h : rV P d T x y p) (hpq : p ↔ q) : rV P d T x y q:=fun w=>let ⟨b,hb,hp⟩:=h w; ⟨b,hb,hp.trans hpq⟩
theorem iH {xs : Array Value} {off : Nat} {v : Value} (hA : iA P T false) (hv : xs[off]? = some v) (w : World) : (part T xs off).run P w = .ok v w:=by simp [part,vR hA,hv]
theorem vT {xs us : Array Value} {off c : Nat} (hA : iA P T true) (hc : fG P T c) (hv : xs.extract off (off + c) = us) (w : World) : (part T xs off).run P w = .ok (.agg us) w:=by
 subst hv;simp [part,vR hA,fP hc]
variable {l : List Value} {x y : Operand} {T' ty : TypeId}
theorem rW {u v : Value} {p : Prop} [Decidable p] (h : rV P 10000 T u v p) (w : World) : (Op.equal T u v).run P w = .ok (decide p) w:=by
 obtain ⟨b,hb,hp⟩:=h w;rw [Op.equal,show Op.maxDepth = 10000 from rfl,hb]
 congr 1
 cases b
 · exact (decide_eq_false (by simpa using hp)).symm
 · exact (decide_eq_true (by simpa using hp)).symm
theorem Qt {xs ys : Array Value} {p : Prop} [Decidable p] (hg : P.eqGuardType P.depth T = false) (hx : ev l x = .agg xs) (hy : ev l y = .agg ys) (h : rV P 10000 T (.agg xs) (.agg ys) p) : gQ P l (.binOp .eql T x y T') ty (.bool (decide p)):=fun w o ho _=>by
 simp [execOp,ho,dH,hx,hy,eqGuard,binOp,hg,rW h]
theorem Qu {xs ys : Array Value} {p : Prop} [Decidable p] (hg : P.eqGuardType P.depth T = false) (hx : ev l x = .agg xs) (hy : ev l y = .agg ys) (h : rV P 10000 T (.agg xs) (.agg ys) p) : gQ P l (.binOp .neq T x y T') ty (.bool (decide (¬ p))):=fun w o ho _=>by
 simp [execOp,ho,dH,hx,hy,eqGuard,binOp,hg,rW h]
theorem Av {a b : Bool} (hu : P.underlying T = some .bool) (hx : ev l x = .bool a) (hy : ev l y = .bool b) : gQ P l (.binOp .eql T x y T') ty (.bool (decide (a = b))):=fun w o ho _=>by
 have h:=rW (rV.bool (d:=9999) (a:=a) (b:=b) hu) w;simp [execOp,ho,dH,hx,hy,eqGuard,binOp,h]
theorem Aw {a b : Bool} (hu : P.underlying T = some .bool) (hx : ev l x = .bool a) (hy : ev l y = .bool b) : gQ P l (.binOp .neq T x y T') ty (.bool (decide (¬ a = b))):=fun w o ho _=>by
 have h:=rW (rV.bool (d:=9999) (a:=a) (b:=b) hu) w;simp [execOp,ho,dH,hx,hy,eqGuard,binOp,h]
theorem Ko {a b : ByteArray} (hu : P.underlying T = some .string) (hx : ev l x = .string a) (hy : ev l y = .string b) : gQ P l (.binOp .eql T x y T') ty (.bool (decide (a = b))):=fun w o ho _=>by
 have h:=rW (rV.str (d:=9999) (a:=a) (b:=b) hu) w;simp [execOp,ho,dH,hx,hy,eqGuard,binOp,h,Op.stringOp,Ft]
theorem Yz {a b : ByteArray} (hu : P.underlying T = some .string) (hx : ev l x = .string a) (hy : ev l y = .string b) : gQ P l (.binOp .neq T x y T') ty (.bool (decide (¬ a = b))):=fun w o ho _=>by
 have h:=rW (rV.str (d:=9999) (a:=a) (b:=b) hu) w;simp [execOp,ho,dH,hx,hy,eqGuard,binOp,h,Op.stringOp,Ft]
end
end Go.Lith
namespace Go.Proofs.YtimjandkmfcmiaaGreatDoor
open Tryz
open Go.RowKit Go.Lith
abbrev gM:=@underlying101
abbrev dT:=@underlying107
abbrev eN:=@underlying108
abbrev nE:=@underlying110
abbrev iZ:=@underlying125
abbrev lV:=@underlying139
abbrev jA:=@underlying152
abbrev jU:=@underlying176
abbrev bN:=@underlying22
abbrev eU:=@underlying23
abbrev fC:=@underlying25
abbrev jB:=@underlying3
abbrev gU:=@underlying35
abbrev kU:=@underlying37
abbrev cP:=@underlying39
abbrev xF:=@underlying4
abbrev qX:=@underlying43
abbrev nC:=@underlying48
abbrev bZ:=@underlying56
abbrev jS:=@underlying58
abbrev mH:=@underlying9
set_option maxRecDepth 100000
theorem aN : prog.follows .mixedOrders = true:=by kernel_rfl
theorem abA : bH prog 10:=⟨_,func10,by kernel_rfl,by kernel_rfl⟩
theorem abB : bH prog 11:=⟨_,func11,by kernel_rfl,by kernel_rfl⟩
theorem abC : bH prog 14:=⟨_,func14,by kernel_rfl,by kernel_rfl⟩
theorem abD : bH prog 15:=⟨_,func15,by kernel_rfl,by kernel_rfl⟩
theorem abE : bH prog 16:=⟨_,func16,by kernel_rfl,by kernel_rfl⟩
theorem abF : bH prog 20:=⟨_,func20,by kernel_rfl,by kernel_rfl⟩
theorem abG : bH prog 22:=⟨_,func22,by kernel_rfl,by kernel_rfl⟩
theorem abH : bH prog 23:=⟨_,func23,by kernel_rfl,by kernel_rfl⟩
theorem abI : bH prog 25:=⟨_,func25,by kernel_rfl,by kernel_rfl⟩
theorem abJ : bH prog 26:=⟨_,func26,by kernel_rfl,by kernel_rfl⟩
theorem abK : bH prog 27:=⟨_,func27,by kernel_rfl,by kernel_rfl⟩
theorem abL : bH prog 28:=⟨_,func28,by kernel_rfl,by kernel_rfl⟩
theorem abM : bH prog 29:=⟨_,func29,by kernel_rfl,by kernel_rfl⟩
theorem abN : bH prog 30:=⟨_,func30,by kernel_rfl,by kernel_rfl⟩
theorem abO : bH prog 31:=⟨_,func31,by kernel_rfl,by kernel_rfl⟩
theorem abP : bH prog 32:=⟨_,func32,by kernel_rfl,by kernel_rfl⟩
theorem abQ : bH prog 33:=⟨_,func33,by kernel_rfl,by kernel_rfl⟩
theorem abR : bH prog 34:=⟨_,func34,by kernel_rfl,by kernel_rfl⟩
theorem abS : bH prog 36:=⟨_,func36,by kernel_rfl,by kernel_rfl⟩
theorem abT : bH prog 37:=⟨_,func37,by kernel_rfl,by kernel_rfl⟩
theorem abU : bH prog 38:=⟨_,func38,by kernel_rfl,by kernel_rfl⟩
theorem abV : bH prog 39:=⟨_,func39,by kernel_rfl,by kernel_rfl⟩
theorem abW : bH prog 40:=⟨_,func40,by kernel_rfl,by kernel_rfl⟩
theorem abX : bH prog 41:=⟨_,func41,by kernel_rfl,by kernel_rfl⟩
theorem abY : bH prog 42:=⟨_,func42,by kernel_rfl,by kernel_rfl⟩
theorem abZ : bH prog 43:=⟨_,func43,by kernel_rfl,by kernel_rfl⟩
theorem ab0 : bH prog 44:=⟨_,func44,by kernel_rfl,by kernel_rfl⟩
theorem ab1 : bH prog 45:=⟨_,func45,by kernel_rfl,by kernel_rfl⟩
theorem ab2 : bH prog 46:=⟨_,func46,by kernel_rfl,by kernel_rfl⟩
theorem ab3 : bH prog 47:=⟨_,func47,by kernel_rfl,by kernel_rfl⟩
theorem ab4 : bH prog 48:=⟨_,func48,by kernel_rfl,by kernel_rfl⟩
theorem ab5 : bH prog 49:=⟨_,func49,by kernel_rfl,by kernel_rfl⟩
theorem ab6 : bH prog 50:=⟨_,func50,by kernel_rfl,by kernel_rfl⟩
theorem ab7 : bH prog 51:=⟨_,func51,by kernel_rfl,by kernel_rfl⟩
theorem ab8 : bH prog 52:=⟨_,func52,by kernel_rfl,by kernel_rfl⟩
theorem ab9 : bH prog 55:=⟨_,func55,by kernel_rfl,by kernel_rfl⟩
theorem aca : bH prog 56:=⟨_,func56,by kernel_rfl,by kernel_rfl⟩
theorem acb : bH prog 57:=⟨_,func57,by kernel_rfl,by kernel_rfl⟩
theorem acc : bH prog 58:=⟨_,func58,by kernel_rfl,by kernel_rfl⟩
theorem acd : bH prog 59:=⟨_,func59,by kernel_rfl,by kernel_rfl⟩
theorem ace : bH prog 60:=⟨_,func60,by kernel_rfl,by kernel_rfl⟩
theorem acf : bH prog 61:=⟨_,func61,by kernel_rfl,by kernel_rfl⟩
theorem acg : bH prog 62:=⟨_,func62,by kernel_rfl,by kernel_rfl⟩
theorem ach : bH prog 63:=⟨_,func63,by kernel_rfl,by kernel_rfl⟩
theorem aci : bH prog 64:=⟨_,func64,by kernel_rfl,by kernel_rfl⟩
theorem acj : bH prog 65:=⟨_,func65,by kernel_rfl,by kernel_rfl⟩
theorem ack : bH prog 66:=⟨_,func66,by kernel_rfl,by kernel_rfl⟩
theorem acl : bH prog 67:=⟨_,func67,by kernel_rfl,by kernel_rfl⟩
theorem acm : bH prog 68:=⟨_,func68,by kernel_rfl,by kernel_rfl⟩
theorem acn : bH prog 69:=⟨_,func69,by kernel_rfl,by kernel_rfl⟩
theorem aco : bH prog 70:=⟨_,func70,by kernel_rfl,by kernel_rfl⟩
theorem acp : bH prog 71:=⟨_,func71,by kernel_rfl,by kernel_rfl⟩
theorem acq : bH prog 72:=⟨_,func72,by kernel_rfl,by kernel_rfl⟩
theorem Yc : bH prog 73:=⟨_,func73,by kernel_rfl,by kernel_rfl⟩
theorem acr : bH prog 74:=⟨_,func74,by kernel_rfl,by kernel_rfl⟩
theorem acs : bH prog 75:=⟨_,func75,by kernel_rfl,by kernel_rfl⟩
theorem acu : bH prog 76:=⟨_,func76,by kernel_rfl,by kernel_rfl⟩
theorem acv : bH prog 77:=⟨_,func77,by kernel_rfl,by kernel_rfl⟩
theorem acw : bH prog 78:=⟨_,func78,by kernel_rfl,by kernel_rfl⟩
theorem acx : bH prog 79:=⟨_,func79,by kernel_rfl,by kernel_rfl⟩
theorem acy : bH prog 80:=⟨_,func80,by kernel_rfl,by kernel_rfl⟩
theorem acz : bH prog 81:=⟨_,func81,by kernel_rfl,by kernel_rfl⟩
theorem Yd : bH prog 82:=⟨_,func82,by kernel_rfl,by kernel_rfl⟩
theorem acA : bH prog 83:=⟨_,func83,by kernel_rfl,by kernel_rfl⟩
theorem acB : bH prog 84:=⟨_,func84,by kernel_rfl,by kernel_rfl⟩
theorem acC : bH prog 85:=⟨_,func85,by kernel_rfl,by kernel_rfl⟩
theorem acD : bH prog 86:=⟨_,func86,by kernel_rfl,by kernel_rfl⟩
theorem acE : bH prog 87:=⟨_,func87,by kernel_rfl,by kernel_rfl⟩
theorem acF : bH prog 88:=⟨_,func88,by kernel_rfl,by kernel_rfl⟩
theorem acG : bH prog 89:=⟨_,func89,by kernel_rfl,by kernel_rfl⟩
theorem acH : bH prog 94:=⟨_,func94,by kernel_rfl,by kernel_rfl⟩
theorem acI : bH prog 95:=⟨_,func95,by kernel_rfl,by kernel_rfl⟩
theorem acJ : bH prog 96:=⟨_,func96,by kernel_rfl,by kernel_rfl⟩
theorem acK : bH prog 97:=⟨_,func97,by kernel_rfl,by kernel_rfl⟩
theorem acL : bH prog 98:=⟨_,func98,by kernel_rfl,by kernel_rfl⟩
theorem acM : bH prog 99:=⟨_,func99,by kernel_rfl,by kernel_rfl⟩
theorem Kp : bH prog 100:=⟨_,func100,by kernel_rfl,by kernel_rfl⟩
theorem Za : bH prog 101:=⟨_,func101,by kernel_rfl,by kernel_rfl⟩
theorem Zb : bH prog 102:=⟨_,func102,by kernel_rfl,by kernel_rfl⟩
theorem Zc : bH prog 103:=⟨_,func103,by kernel_rfl,by kernel_rfl⟩
theorem Zd : bH prog 104:=⟨_,func104,by kernel_rfl,by kernel_rfl⟩
theorem Ze : bH prog 105:=⟨_,func105,by kernel_rfl,by kernel_rfl⟩
theorem Zf : bH prog 106:=⟨_,func106,by kernel_rfl,by kernel_rfl⟩
theorem Zg : bH prog 107:=⟨_,func107,by kernel_rfl,by kernel_rfl⟩
theorem Zh : bH prog 108:=⟨_,func108,by kernel_rfl,by kernel_rfl⟩
theorem Zi : bH prog 109:=⟨_,func109,by kernel_rfl,by kernel_rfl⟩
theorem Zj : bH prog 110:=⟨_,func110,by kernel_rfl,by kernel_rfl⟩
theorem Zk : bH prog 111:=⟨_,func111,by kernel_rfl,by kernel_rfl⟩
theorem Zl : bH prog 112:=⟨_,func112,by kernel_rfl,by kernel_rfl⟩
theorem Zm : bH prog 113:=⟨_,func113,by kernel_rfl,by kernel_rfl⟩
theorem Zn : bH prog 114:=⟨_,func114,by kernel_rfl,by kernel_rfl⟩
theorem Zo : bH prog 115:=⟨_,func115,by kernel_rfl,by kernel_rfl⟩
theorem Zp : bH prog 116:=⟨_,func116,by kernel_rfl,by kernel_rfl⟩
theorem Zq : bH prog 117:=⟨_,func117,by kernel_rfl,by kernel_rfl⟩
theorem Zr : bH prog 118:=⟨_,func118,by kernel_rfl,by kernel_rfl⟩
theorem Zs : bH prog 119:=⟨_,func119,by kernel_rfl,by kernel_rfl⟩
theorem Zt : bH prog 120:=⟨_,func120,by kernel_rfl,by kernel_rfl⟩
theorem Zu : bH prog 121:=⟨_,func121,by kernel_rfl,by kernel_rfl⟩
theorem Zv : bH prog 122:=⟨_,func122,by kernel_rfl,by kernel_rfl⟩
theorem Zw : bH prog 123:=⟨_,func123,by kernel_rfl,by kernel_rfl⟩
theorem Zx : bH prog 125:=⟨_,func125,by kernel_rfl,by kernel_rfl⟩
theorem Zy : bH prog 129:=⟨_,func129,by kernel_rfl,by kernel_rfl⟩
theorem Zz : bH prog 130:=⟨_,func130,by kernel_rfl,by kernel_rfl⟩
theorem aaa : bH prog 131:=⟨_,func131,by kernel_rfl,by kernel_rfl⟩
theorem aab : bH prog 132:=⟨_,func132,by kernel_rfl,by kernel_rfl⟩
theorem aac : bH prog 133:=⟨_,func133,by kernel_rfl,by kernel_rfl⟩
theorem aad : bH prog 134:=⟨_,func134,by kernel_rfl,by kernel_rfl⟩
theorem aae : bH prog 135:=⟨_,func135,by kernel_rfl,by kernel_rfl⟩
theorem aaf : bH prog 136:=⟨_,func136,by kernel_rfl,by kernel_rfl⟩
theorem Qv : bH prog 137:=⟨_,func137,by kernel_rfl,by kernel_rfl⟩
theorem Kq : bH prog 138:=⟨_,func138,by kernel_rfl,by kernel_rfl⟩
theorem aag : bH prog 139:=⟨_,func139,by kernel_rfl,by kernel_rfl⟩
theorem Kr : bH prog 140:=⟨_,func140,by kernel_rfl,by kernel_rfl⟩
theorem aah : bH prog 141:=⟨_,func141,by kernel_rfl,by kernel_rfl⟩
theorem aai : bH prog 142:=⟨_,func142,by kernel_rfl,by kernel_rfl⟩
theorem aaj : bH prog 148:=⟨_,func148,by kernel_rfl,by kernel_rfl⟩
theorem aak : bH prog 149:=⟨_,func149,by kernel_rfl,by kernel_rfl⟩
theorem Qw : bH prog 150:=⟨_,func150,by kernel_rfl,by kernel_rfl⟩
theorem Qx : bH prog 151:=⟨_,func151,by kernel_rfl,by kernel_rfl⟩
theorem Qy : bH prog 152:=⟨_,func152,by kernel_rfl,by kernel_rfl⟩
theorem aal : bH prog 153:=⟨_,func153,by kernel_rfl,by kernel_rfl⟩
theorem aam : bH prog 154:=⟨_,func154,by kernel_rfl,by kernel_rfl⟩
theorem aan : bH prog 155:=⟨_,func155,by kernel_rfl,by kernel_rfl⟩
theorem aao : bH prog 156:=⟨_,func156,by kernel_rfl,by kernel_rfl⟩
theorem aap : bH prog 157:=⟨_,func157,by kernel_rfl,by kernel_rfl⟩
theorem aaq : bH prog 169:=⟨_,func169,by kernel_rfl,by kernel_rfl⟩
theorem aar : bH prog 170:=⟨_,func170,by kernel_rfl,by kernel_rfl⟩
theorem aas : bH prog 171:=⟨_,func171,by kernel_rfl,by kernel_rfl⟩
theorem aat : bH prog 172:=⟨_,func172,by kernel_rfl,by kernel_rfl⟩
theorem aau : bH prog 173:=⟨_,func173,by kernel_rfl,by kernel_rfl⟩
theorem aav : bH prog 183:=⟨_,func183,by kernel_rfl,by kernel_rfl⟩
theorem aaw : bH prog 202:=⟨_,func202,by kernel_rfl,by kernel_rfl⟩
theorem aM : fG prog 3 1:=eP (by kernel_rfl)
theorem aZ : iA prog 3 false:=fO _ jB rfl
theorem gV : (prog.info? 3).map (fun i=>(i.size,i.bytes,i.zero)) = some (1,8,some (.int .i64 0)):=by kernel_rfl
theorem eJ : fG prog 4 1:=eP (by kernel_rfl)
theorem iV : iA prog 4 false:=fO _ xF rfl
theorem aax : lT prog 4 (.bool false):=iM (by kernel_rfl)
theorem Dx : (prog.info? 5).map (fun i=>(i.size,i.bytes,i.zero)) = some (1,1,some (.int .u8 0)):=by kernel_rfl
theorem pU : fG prog 9 1:=eP (by kernel_rfl)
theorem vU : iA prog 9 false:=fO _ mH rfl
theorem bT : fG prog 22 1:=eP (by kernel_rfl)
theorem fH : iA prog 22 false:=fO _ bN rfl
theorem cS : fG prog 23 3:=eP (by kernel_rfl)
theorem lW : iA prog 23 true:=fO _ eU rfl
theorem kP : lT prog 23 (.agg #[.int .i64 0,.int .i64 0,.int .i64 0]):=iM (by kernel_rfl)
theorem dJ : fG prog 25 7:=eP (by kernel_rfl)
theorem fB : iA prog 25 true:=fO _ fC rfl
theorem Mn : lT prog 25 (.agg #[.int .i64 0,.int .i64 0,.int .i64 0,.int .i64 0,.int .i64 0,.int .i64 0,.int .i64 0]):=iM (by kernel_rfl)
theorem aG : fG prog 35 2:=eP (by kernel_rfl)
theorem aR : iA prog 35 true:=fO _ gU rfl
theorem cI : lT prog 35 (.agg #[.bool false,.string ⟨#[]⟩]):=iM (by kernel_rfl)
theorem aK : fG prog 37 4:=eP (by kernel_rfl)
theorem bB : iA prog 37 true:=fO _ kU rfl
theorem cD : lT prog 37 (.agg #[.bool false,.string ⟨#[]⟩,.bool false,.string ⟨#[]⟩]):=iM (by kernel_rfl)
theorem aay : (prog.info? 37).map (fun i=>(i.size,i.bytes,i.zero)) = some (4,48,some (.agg #[.bool false,.string ⟨#[]⟩,.bool false,.string ⟨#[]⟩])):=by kernel_rfl
theorem dF : fG prog 39 11:=eP (by kernel_rfl)
theorem iQ : iA prog 39 true:=fO _ cP rfl
theorem nM : lT prog 39 (.agg #[.int .i64 0,.bool false,.string ⟨#[]⟩,.bool false,.string ⟨#[]⟩,.bool false,.string ⟨#[]⟩,.bool false,.string ⟨#[]⟩,.bool false,.slice none 0 0]):=iM (by kernel_rfl)
theorem jE : fG prog 43 5:=eP (by kernel_rfl)
theorem Fu : iA prog 43 true:=fO _ qX rfl
theorem pV : lT prog 43 (.agg #[.bool false,.string ⟨#[]⟩,.bool false,.string ⟨#[]⟩,.int .i64 0]):=iM (by kernel_rfl)
theorem Ax : fG prog 48 1:=eP (by kernel_rfl)
theorem Ks : iA prog 48 false:=fO _ nC rfl
theorem aO : fG prog 56 3:=eP (by kernel_rfl)
theorem bK : iA prog 56 true:=fO _ bZ rfl
theorem eH : lT prog 56 (.agg #[.int .i64 0,.int .i64 0,.int .i64 0]):=iM (by kernel_rfl)
theorem aaz : (prog.info? 56).map (fun i=>(i.size,i.bytes,i.zero)) = some (3,24,some (.agg #[.int .i64 0,.int .i64 0,.int .i64 0])):=by kernel_rfl
theorem fQ : fG prog 58 9:=eP (by kernel_rfl)
theorem mM : iA prog 58 true:=fO _ jS rfl
theorem Fv : lT prog 58 (.agg #[.int .i64 0,.int .i64 0,.int .i64 0,.int .i64 0,.int .i64 0,.int .i64 0,.int .i64 0,.int .i64 0,.int .i64 0]):=iM (by kernel_rfl)
theorem Qz : (prog.info? 58).map (fun i=>(i.size,i.bytes,i.zero)) = some (9,72,some (.agg #[.int .i64 0,.int .i64 0,.int .i64 0,.int .i64 0,.int .i64 0,.int .i64 0,.int .i64 0,.int .i64 0,.int .i64 0])):=by kernel_rfl
theorem Ay : fG prog 67 1:=eP (by kernel_rfl)
theorem Ra : fG prog 69 1:=eP (by kernel_rfl)
theorem yY : lT prog 69 (.agg #[.int .i64 0]):=iM (by kernel_rfl)
theorem Rb : fG prog 83 1:=eP (by kernel_rfl)
theorem Fw : lT prog 83 (.agg #[.int .i64 0]):=iM (by kernel_rfl)
theorem Rc : fG prog 88 7:=eP (by kernel_rfl)
theorem Mo : lT prog 88 (.agg #[.int .i64 0,.int .i64 0,.int .i64 0,.int .i64 0,.int .i64 0,.int .i64 0,.int .i64 0]):=iM (by kernel_rfl)
theorem bJ : fG prog 101 1:=eP (by kernel_rfl)
theorem fM : iA prog 101 false:=fO _ gM rfl
theorem nN : (prog.info? 101).map (fun i=>(i.size,i.bytes,i.zero)) = some (1,8,some (.int .u64 0)):=by kernel_rfl
theorem cJ : fG prog 107 6:=eP (by kernel_rfl)
theorem eK : iA prog 107 true:=fO _ dT rfl
theorem iB : lT prog 107 (.agg #[.bool false,.string ⟨#[]⟩,.bool false,.string ⟨#[]⟩,.bool false,.string ⟨#[]⟩]):=iM (by kernel_rfl)
theorem bW : fG prog 108 6:=eP (by kernel_rfl)
theorem eW : iA prog 108 true:=fO _ eN rfl
theorem jF : lT prog 108 (.agg #[.bool false,.string ⟨#[]⟩,.bool false,.string ⟨#[]⟩,.bool false,.string ⟨#[]⟩]):=iM (by kernel_rfl)
theorem Nw : fG prog 110 18:=eP (by kernel_rfl)
theorem Vc : iA prog 110 true:=fO _ nE rfl
theorem Re : lT prog 110 (.agg #[.bool false,.string ⟨#[]⟩,.bool false,.string ⟨#[]⟩,.bool false,.string ⟨#[]⟩,.bool false,.string ⟨#[]⟩,.bool false,.string ⟨#[]⟩,.bool false,.string ⟨#[]⟩,.bool false,.string ⟨#[]⟩,.bool false,.string ⟨#[]⟩,.bool false,.string ⟨#[]⟩]):=iM (by kernel_rfl)
theorem Nx : fG prog 125 6:=eP (by kernel_rfl)
theorem Ie : lT prog 125 (.agg #[.int .i64 0,.int .i64 0,.int .i64 0,.int .i64 0,.int .i64 0,.int .i64 0]):=iM (by kernel_rfl)
theorem Ny : fG prog 139 1:=eP (by kernel_rfl)
theorem Vd : iA prog 139 false:=fO _ lV rfl
theorem Rf : lT prog 139 (.slice none 0 0):=iM (by kernel_rfl)
theorem oT : fG prog 152 6:=eP (by kernel_rfl)
theorem yZ : iA prog 152 true:=fO _ jA rfl
theorem vV : lT prog 152 (.agg #[.bool false,.string ⟨#[]⟩,.bool false,.string ⟨#[]⟩,.bool false,.string ⟨#[]⟩]):=iM (by kernel_rfl)
theorem qY : fG prog 176 3:=eP (by kernel_rfl)
theorem Fx : iA prog 176 true:=fO _ jU rfl
theorem vW : lT prog 176 (.agg #[.int .i64 0,.int .i64 0,.int .i64 0]):=iM (by kernel_rfl)
theorem tU : fG prog 180 1:=eP (by kernel_rfl)
theorem Fy : iA prog 180 false:=fO _ underlying180 rfl
theorem tV : fG prog 181 3:=eP (by kernel_rfl)
theorem Mp : iA prog 181 true:=fO _ underlying181 rfl
theorem Az : lT prog 181 (.agg #[.nilFunc,.nilFunc,.nilFunc]):=iM (by kernel_rfl)
theorem acN  (w : World) : (Instr.build 23 #[]).run prog w = .ok (.agg #[(.int .i64 0),(.int .i64 0),(.int .i64 0)]) w:=gI eU kP aM (by simp [Instr.fill,eB]) w
theorem kV {l : List Value} {ty : TypeId}  : gQ prog l (.build 23 #[]) ty (.agg #[(.int .i64 0),(.int .i64 0),(.int .i64 0)]):=fL (vs:=#[]) (by simp) fun w=>acN  w
theorem Kt {v0 v1 v2 : Value} {c0_0 : Value} (h0 : v0.cells = #[c0_0]) {c1_0 : Value} (h1 : v1.cells = #[c1_0]) {c2_0 : Value} (h2 : v2.cells = #[c2_0])  (w : World) : (Instr.build 23 #[(0,v0),(1,v1),(2,v2)]).run prog w = .ok (.agg #[c0_0,c1_0,c2_0]) w:=gI eU kP aM (by simp [Instr.fill,eB,h0,h1,h2]) w
theorem dY {l : List Value} {ty : TypeId} {x0 x1 x2 : Operand} {c0_0 : Value} (h0 : (ev l x0).cells = #[c0_0]) {c1_0 : Value} (h1 : (ev l x1).cells = #[c1_0]) {c2_0 : Value} (h2 : (ev l x2).cells = #[c2_0]) : gQ prog l (.build 23 #[(0,x0),(1,x1),(2,x2)]) ty (.agg #[c0_0,c1_0,c2_0]):=fL (vs:=#[(0,ev l x0),(1,ev l x1),(2,ev l x2)]) (by simp) fun w=>Kt h0 h1 h2 w
theorem Nz (w : World) : ((#[{ name := "X", type:=3,offset:=0,embedded:=false,tag := "", pkgPath := "", byteOffset:=0 },{ name := "Y", type:=3,offset:=1,embedded:=false,tag := "", pkgPath := "", byteOffset:=8 },{ name := "Z", type:=3,offset:=2,embedded:=false,tag := "", pkgPath := "", byteOffset:=16 },{ name := "W", type:=3,offset:=3,embedded:=false,tag := "", pkgPath := "", byteOffset:=24 },{ name := "Dir", type:=23,offset:=4,embedded:=false,tag := "", pkgPath := "", byteOffset:=32 }] : Array Field).mapM fun f=>do pure (f.offset,← sizeOf f.type) : Sem (Array (Nat × Nat))).run prog w = .ok #[(0,1),(1,1),(2,1),(3,1),(4,3)] w:=by
 simp [Array.mapM_eq_mapM_toList,fP cS,fP aM]
theorem Fz {v0 v1 v3 v4 : Value} {c0_0 : Value} (h0 : v0.cells = #[c0_0]) {c1_0 : Value} (h1 : v1.cells = #[c1_0]) {c3_0 : Value} (h3 : v3.cells = #[c3_0]) {c4_0 c4_1 c4_2 : Value} (h4 : v4.cells = #[c4_0,c4_1,c4_2])  (w : World) : (Instr.build 25 #[(0,v0),(1,v1),(3,v3),(4,v4)]).run prog w = .ok (.agg #[c0_0,c1_0,(.int .i64 0),c3_0,c4_0,c4_1,c4_2]) w:=cV fC Mn Nz (by simp [Instr.fill,eB,h0,h1,h3,h4]) w
theorem uY {l : List Value} {ty : TypeId} {x0 x1 x3 x4 : Operand} {c0_0 : Value} (h0 : (ev l x0).cells = #[c0_0]) {c1_0 : Value} (h1 : (ev l x1).cells = #[c1_0]) {c3_0 : Value} (h3 : (ev l x3).cells = #[c3_0]) {c4_0 c4_1 c4_2 : Value} (h4 : (ev l x4).cells = #[c4_0,c4_1,c4_2]) : gQ prog l (.build 25 #[(0,x0),(1,x1),(3,x3),(4,x4)]) ty (.agg #[c0_0,c1_0,(.int .i64 0),c3_0,c4_0,c4_1,c4_2]):=fL (vs:=#[(0,ev l x0),(1,ev l x1),(3,ev l x3),(4,ev l x4)]) (by simp) fun w=>Fz h0 h1 h3 h4 w
theorem Dy (w : World) : ((#[{ name := "Neg", type:=4,offset:=0,embedded:=false,tag := "", pkgPath := "", byteOffset:=0 },{ name := "Mag", type:=9,offset:=1,embedded:=false,tag := "", pkgPath := "", byteOffset:=8 }] : Array Field).mapM fun f=>do pure (f.offset,← sizeOf f.type) : Sem (Array (Nat × Nat))).run prog w = .ok #[(0,1),(1,1)] w:=by
 simp [Array.mapM_eq_mapM_toList,fP eJ,fP pU]
theorem acO  (w : World) : (Instr.build 35 #[]).run prog w = .ok (.agg #[(.bool false),(.string ⟨#[]⟩)]) w:=cV gU cI Dy (by simp [Instr.fill,eB]) w
theorem yH {l : List Value} {ty : TypeId}  : gQ prog l (.build 35 #[]) ty (.agg #[(.bool false),(.string ⟨#[]⟩)]):=fL (vs:=#[]) (by simp) fun w=>acO  w
theorem Rg {v0 v1 : Value} {c0_0 : Value} (h0 : v0.cells = #[c0_0]) {c1_0 : Value} (h1 : v1.cells = #[c1_0])  (w : World) : (Instr.build 35 #[(0,v0),(1,v1)]).run prog w = .ok (.agg #[c0_0,c1_0]) w:=cV gU cI Dy (by simp [Instr.fill,eB,h0,h1]) w
theorem pB {l : List Value} {ty : TypeId} {x0 x1 : Operand} {c0_0 : Value} (h0 : (ev l x0).cells = #[c0_0]) {c1_0 : Value} (h1 : (ev l x1).cells = #[c1_0]) : gQ prog l (.build 35 #[(0,x0),(1,x1)]) ty (.agg #[c0_0,c1_0]):=fL (vs:=#[(0,ev l x0),(1,ev l x1)]) (by simp) fun w=>Rg h0 h1 w
theorem xG (w : World) : ((#[{ name := "N", type:=35,offset:=0,embedded:=false,tag := "", pkgPath := "", byteOffset:=0 },{ name := "D", type:=35,offset:=2,embedded:=false,tag := "", pkgPath := "", byteOffset:=24 }] : Array Field).mapM fun f=>do pure (f.offset,← sizeOf f.type) : Sem (Array (Nat × Nat))).run prog w = .ok #[(0,2),(2,2)] w:=by
 simp [Array.mapM_eq_mapM_toList,fP aG]
theorem acP  (w : World) : (Instr.build 37 #[]).run prog w = .ok (.agg #[(.bool false),(.string ⟨#[]⟩),(.bool false),(.string ⟨#[]⟩)]) w:=cV kU cD xG (by simp [Instr.fill,eB]) w
theorem If {l : List Value} {ty : TypeId}  : gQ prog l (.build 37 #[]) ty (.agg #[(.bool false),(.string ⟨#[]⟩),(.bool false),(.string ⟨#[]⟩)]):=fL (vs:=#[]) (by simp) fun w=>acP  w
theorem Rh {v0 v1 : Value} {c0_0 c0_1 : Value} (h0 : v0.cells = #[c0_0,c0_1]) {c1_0 c1_1 : Value} (h1 : v1.cells = #[c1_0,c1_1])  (w : World) : (Instr.build 37 #[(0,v0),(1,v1)]).run prog w = .ok (.agg #[c0_0,c0_1,c1_0,c1_1]) w:=cV kU cD xG (by simp [Instr.fill,eB,h0,h1]) w
theorem gG {l : List Value} {ty : TypeId} {x0 x1 : Operand} {c0_0 c0_1 : Value} (h0 : (ev l x0).cells = #[c0_0,c0_1]) {c1_0 c1_1 : Value} (h1 : (ev l x1).cells = #[c1_0,c1_1]) : gQ prog l (.build 37 #[(0,x0),(1,x1)]) ty (.agg #[c0_0,c0_1,c1_0,c1_1]):=fL (vs:=#[(0,ev l x0),(1,ev l x1)]) (by simp) fun w=>Rh h0 h1 w
theorem aaA {v1 : Value} {c1_0 c1_1 : Value} (h1 : v1.cells = #[c1_0,c1_1])  (w : World) : (Instr.build 37 #[(1,v1)]).run prog w = .ok (.agg #[(.bool false),(.string ⟨#[]⟩),c1_0,c1_1]) w:=cV kU cD xG (by simp [Instr.fill,eB,h1]) w
theorem Ga {l : List Value} {ty : TypeId} {x1 : Operand} {c1_0 c1_1 : Value} (h1 : (ev l x1).cells = #[c1_0,c1_1]) : gQ prog l (.build 37 #[(1,x1)]) ty (.agg #[(.bool false),(.string ⟨#[]⟩),c1_0,c1_1]):=fL (vs:=#[(1,ev l x1)]) (by simp) fun w=>aaA h1 w
theorem xH (w : World) : ((#[{ name := "Kind", type:=3,offset:=0,embedded:=false,tag := "", pkgPath := "", byteOffset:=0 },{ name := "Lo", type:=37,offset:=1,embedded:=false,tag := "", pkgPath := "", byteOffset:=8 },{ name := "Hi", type:=37,offset:=5,embedded:=false,tag := "", pkgPath := "", byteOffset:=56 },{ name := "Sure", type:=4,offset:=9,embedded:=false,tag := "", pkgPath := "", byteOffset:=104 },{ name := "Open", type:=22,offset:=10,embedded:=false,tag := "", pkgPath := "", byteOffset:=112 }] : Array Field).mapM fun f=>do pure (f.offset,← sizeOf f.type) : Sem (Array (Nat × Nat))).run prog w = .ok #[(0,1),(1,4),(5,4),(9,1),(10,1)] w:=by
 simp [Array.mapM_eq_mapM_toList,fP bT,fP aM,fP aK,fP eJ]
theorem Ku {v0 v1 v2 : Value} {c0_0 : Value} (h0 : v0.cells = #[c0_0]) {c1_0 c1_1 c1_2 c1_3 : Value} (h1 : v1.cells = #[c1_0,c1_1,c1_2,c1_3]) {c2_0 c2_1 c2_2 c2_3 : Value} (h2 : v2.cells = #[c2_0,c2_1,c2_2,c2_3])  (w : World) : (Instr.build 39 #[(0,v0),(1,v1),(2,v2)]).run prog w = .ok (.agg #[c0_0,c1_0,c1_1,c1_2,c1_3,c2_0,c2_1,c2_2,c2_3,(.bool false),(.slice none 0 0)]) w:=cV cP nM xH (by simp [Instr.fill,eB,h0,h1,h2]) w
theorem kY {l : List Value} {ty : TypeId} {x0 x1 x2 : Operand} {c0_0 : Value} (h0 : (ev l x0).cells = #[c0_0]) {c1_0 c1_1 c1_2 c1_3 : Value} (h1 : (ev l x1).cells = #[c1_0,c1_1,c1_2,c1_3]) {c2_0 c2_1 c2_2 c2_3 : Value} (h2 : (ev l x2).cells = #[c2_0,c2_1,c2_2,c2_3]) : gQ prog l (.build 39 #[(0,x0),(1,x1),(2,x2)]) ty (.agg #[c0_0,c1_0,c1_1,c1_2,c1_3,c2_0,c2_1,c2_2,c2_3,(.bool false),(.slice none 0 0)]):=fL (vs:=#[(0,ev l x0),(1,ev l x1),(2,ev l x2)]) (by simp) fun w=>Ku h0 h1 h2 w
theorem Ba {v0 v1 v2 v3 v4 : Value} {c0_0 : Value} (h0 : v0.cells = #[c0_0]) {c1_0 c1_1 c1_2 c1_3 : Value} (h1 : v1.cells = #[c1_0,c1_1,c1_2,c1_3]) {c2_0 c2_1 c2_2 c2_3 : Value} (h2 : v2.cells = #[c2_0,c2_1,c2_2,c2_3]) {c3_0 : Value} (h3 : v3.cells = #[c3_0]) {c4_0 : Value} (h4 : v4.cells = #[c4_0])  (w : World) : (Instr.build 39 #[(0,v0),(1,v1),(2,v2),(3,v3),(4,v4)]).run prog w = .ok (.agg #[c0_0,c1_0,c1_1,c1_2,c1_3,c2_0,c2_1,c2_2,c2_3,c3_0,c4_0]) w:=cV cP nM xH (by simp [Instr.fill,eB,h0,h1,h2,h3,h4]) w
theorem nR {l : List Value} {ty : TypeId} {x0 x1 x2 x3 x4 : Operand} {c0_0 : Value} (h0 : (ev l x0).cells = #[c0_0]) {c1_0 c1_1 c1_2 c1_3 : Value} (h1 : (ev l x1).cells = #[c1_0,c1_1,c1_2,c1_3]) {c2_0 c2_1 c2_2 c2_3 : Value} (h2 : (ev l x2).cells = #[c2_0,c2_1,c2_2,c2_3]) {c3_0 : Value} (h3 : (ev l x3).cells = #[c3_0]) {c4_0 : Value} (h4 : (ev l x4).cells = #[c4_0]) : gQ prog l (.build 39 #[(0,x0),(1,x1),(2,x2),(3,x3),(4,x4)]) ty (.agg #[c0_0,c1_0,c1_1,c1_2,c1_3,c2_0,c2_1,c2_2,c2_3,c3_0,c4_0]):=fL (vs:=#[(0,ev l x0),(1,ev l x1),(2,ev l x2),(3,ev l x3),(4,ev l x4)]) (by simp) fun w=>Ba h0 h1 h2 h3 h4 w
theorem Gb {v0 v1 v2 v4 : Value} {c0_0 : Value} (h0 : v0.cells = #[c0_0]) {c1_0 c1_1 c1_2 c1_3 : Value} (h1 : v1.cells = #[c1_0,c1_1,c1_2,c1_3]) {c2_0 c2_1 c2_2 c2_3 : Value} (h2 : v2.cells = #[c2_0,c2_1,c2_2,c2_3]) {c4_0 : Value} (h4 : v4.cells = #[c4_0])  (w : World) : (Instr.build 39 #[(0,v0),(1,v1),(2,v2),(4,v4)]).run prog w = .ok (.agg #[c0_0,c1_0,c1_1,c1_2,c1_3,c2_0,c2_1,c2_2,c2_3,(.bool false),c4_0]) w:=cV cP nM xH (by simp [Instr.fill,eB,h0,h1,h2,h4]) w
theorem uZ {l : List Value} {ty : TypeId} {x0 x1 x2 x4 : Operand} {c0_0 : Value} (h0 : (ev l x0).cells = #[c0_0]) {c1_0 c1_1 c1_2 c1_3 : Value} (h1 : (ev l x1).cells = #[c1_0,c1_1,c1_2,c1_3]) {c2_0 c2_1 c2_2 c2_3 : Value} (h2 : (ev l x2).cells = #[c2_0,c2_1,c2_2,c2_3]) {c4_0 : Value} (h4 : (ev l x4).cells = #[c4_0]) : gQ prog l (.build 39 #[(0,x0),(1,x1),(2,x2),(4,x4)]) ty (.agg #[c0_0,c1_0,c1_1,c1_2,c1_3,c2_0,c2_1,c2_2,c2_3,(.bool false),c4_0]):=fL (vs:=#[(0,ev l x0),(1,ev l x1),(2,ev l x2),(4,ev l x4)]) (by simp) fun w=>Gb h0 h1 h2 h4 w
theorem Dz (w : World) : ((#[{ name := "T", type:=37,offset:=0,embedded:=false,tag := "", pkgPath := "", byteOffset:=0 },{ name := "Tri", type:=3,offset:=4,embedded:=false,tag := "", pkgPath := "", byteOffset:=48 }] : Array Field).mapM fun f=>do pure (f.offset,← sizeOf f.type) : Sem (Array (Nat × Nat))).run prog w = .ok #[(0,4),(4,1)] w:=by
 simp [Array.mapM_eq_mapM_toList,fP aM,fP aK]
theorem aaB {v0 : Value} {c0_0 c0_1 c0_2 c0_3 : Value} (h0 : v0.cells = #[c0_0,c0_1,c0_2,c0_3])  (w : World) : (Instr.build 43 #[(0,v0)]).run prog w = .ok (.agg #[c0_0,c0_1,c0_2,c0_3,(.int .i64 0)]) w:=cV qX pV Dz (by simp [Instr.fill,eB,h0]) w
theorem vX {l : List Value} {ty : TypeId} {x0 : Operand} {c0_0 c0_1 c0_2 c0_3 : Value} (h0 : (ev l x0).cells = #[c0_0,c0_1,c0_2,c0_3]) : gQ prog l (.build 43 #[(0,x0)]) ty (.agg #[c0_0,c0_1,c0_2,c0_3,(.int .i64 0)]):=fL (vs:=#[(0,ev l x0)]) (by simp) fun w=>aaB h0 w
theorem Ri {v0 v1 : Value} {c0_0 c0_1 c0_2 c0_3 : Value} (h0 : v0.cells = #[c0_0,c0_1,c0_2,c0_3]) {c1_0 : Value} (h1 : v1.cells = #[c1_0])  (w : World) : (Instr.build 43 #[(0,v0),(1,v1)]).run prog w = .ok (.agg #[c0_0,c0_1,c0_2,c0_3,c1_0]) w:=cV qX pV Dz (by simp [Instr.fill,eB,h0,h1]) w
theorem mN {l : List Value} {ty : TypeId} {x0 x1 : Operand} {c0_0 c0_1 c0_2 c0_3 : Value} (h0 : (ev l x0).cells = #[c0_0,c0_1,c0_2,c0_3]) {c1_0 : Value} (h1 : (ev l x1).cells = #[c1_0]) : gQ prog l (.build 43 #[(0,x0),(1,x1)]) ty (.agg #[c0_0,c0_1,c0_2,c0_3,c1_0]):=fL (vs:=#[(0,ev l x0),(1,ev l x1)]) (by simp) fun w=>Ri h0 h1 w
theorem qZ (w : World) : ((#[{ name := "X", type:=3,offset:=0,embedded:=false,tag := "", pkgPath := "", byteOffset:=0 },{ name := "Y", type:=3,offset:=1,embedded:=false,tag := "", pkgPath := "", byteOffset:=8 },{ name := "Z", type:=3,offset:=2,embedded:=false,tag := "", pkgPath := "", byteOffset:=16 }] : Array Field).mapM fun f=>do pure (f.offset,← sizeOf f.type) : Sem (Array (Nat × Nat))).run prog w = .ok #[(0,1),(1,1),(2,1)] w:=by
 simp [Array.mapM_eq_mapM_toList,fP aM]
theorem acQ  (w : World) : (Instr.build 56 #[]).run prog w = .ok (.agg #[(.int .i64 0),(.int .i64 0),(.int .i64 0)]) w:=cV bZ eH qZ (by simp [Instr.fill,eB]) w
theorem gB {l : List Value} {ty : TypeId}  : gQ prog l (.build 56 #[]) ty (.agg #[(.int .i64 0),(.int .i64 0),(.int .i64 0)]):=fL (vs:=#[]) (by simp) fun w=>acQ  w
theorem aaC {v0 : Value} {c0_0 : Value} (h0 : v0.cells = #[c0_0])  (w : World) : (Instr.build 56 #[(0,v0)]).run prog w = .ok (.agg #[c0_0,(.int .i64 0),(.int .i64 0)]) w:=cV bZ eH qZ (by simp [Instr.fill,eB,h0]) w
theorem Gc {l : List Value} {ty : TypeId} {x0 : Operand} {c0_0 : Value} (h0 : (ev l x0).cells = #[c0_0]) : gQ prog l (.build 56 #[(0,x0)]) ty (.agg #[c0_0,(.int .i64 0),(.int .i64 0)]):=fL (vs:=#[(0,ev l x0)]) (by simp) fun w=>aaC h0 w
theorem Kv {v0 v1 v2 : Value} {c0_0 : Value} (h0 : v0.cells = #[c0_0]) {c1_0 : Value} (h1 : v1.cells = #[c1_0]) {c2_0 : Value} (h2 : v2.cells = #[c2_0])  (w : World) : (Instr.build 56 #[(0,v0),(1,v1),(2,v2)]).run prog w = .ok (.agg #[c0_0,c1_0,c2_0]) w:=cV bZ eH qZ (by simp [Instr.fill,eB,h0,h1,h2]) w
theorem dB {l : List Value} {ty : TypeId} {x0 x1 x2 : Operand} {c0_0 : Value} (h0 : (ev l x0).cells = #[c0_0]) {c1_0 : Value} (h1 : (ev l x1).cells = #[c1_0]) {c2_0 : Value} (h2 : (ev l x2).cells = #[c2_0]) : gQ prog l (.build 56 #[(0,x0),(1,x1),(2,x2)]) ty (.agg #[c0_0,c1_0,c2_0]):=fL (vs:=#[(0,ev l x0),(1,ev l x1),(2,ev l x2)]) (by simp) fun w=>Kv h0 h1 h2 w
theorem aaD {v1 : Value} {c1_0 : Value} (h1 : v1.cells = #[c1_0])  (w : World) : (Instr.build 56 #[(1,v1)]).run prog w = .ok (.agg #[(.int .i64 0),c1_0,(.int .i64 0)]) w:=cV bZ eH qZ (by simp [Instr.fill,eB,h1]) w
theorem Gd {l : List Value} {ty : TypeId} {x1 : Operand} {c1_0 : Value} (h1 : (ev l x1).cells = #[c1_0]) : gQ prog l (.build 56 #[(1,x1)]) ty (.agg #[(.int .i64 0),c1_0,(.int .i64 0)]):=fL (vs:=#[(1,ev l x1)]) (by simp) fun w=>aaD h1 w
theorem aaE {v2 : Value} {c2_0 : Value} (h2 : v2.cells = #[c2_0])  (w : World) : (Instr.build 56 #[(2,v2)]).run prog w = .ok (.agg #[(.int .i64 0),(.int .i64 0),c2_0]) w:=cV bZ eH qZ (by simp [Instr.fill,eB,h2]) w
theorem Ge {l : List Value} {ty : TypeId} {x2 : Operand} {c2_0 : Value} (h2 : (ev l x2).cells = #[c2_0]) : gQ prog l (.build 56 #[(2,x2)]) ty (.agg #[(.int .i64 0),(.int .i64 0),c2_0]):=fL (vs:=#[(2,ev l x2)]) (by simp) fun w=>aaE h2 w
theorem Kw {v0 v1 v2 : Value} {c0_0 c0_1 c0_2 : Value} (h0 : v0.cells = #[c0_0,c0_1,c0_2]) {c1_0 c1_1 c1_2 : Value} (h1 : v1.cells = #[c1_0,c1_1,c1_2]) {c2_0 c2_1 c2_2 : Value} (h2 : v2.cells = #[c2_0,c2_1,c2_2])  (w : World) : (Instr.build 58 #[(0,v0),(1,v1),(2,v2)]).run prog w = .ok (.agg #[c0_0,c0_1,c0_2,c1_0,c1_1,c1_2,c2_0,c2_1,c2_2]) w:=gI jS Fv aO (by simp [Instr.fill,eB,h0,h1,h2]) w
theorem rA {l : List Value} {ty : TypeId} {x0 x1 x2 : Operand} {c0_0 c0_1 c0_2 : Value} (h0 : (ev l x0).cells = #[c0_0,c0_1,c0_2]) {c1_0 c1_1 c1_2 : Value} (h1 : (ev l x1).cells = #[c1_0,c1_1,c1_2]) {c2_0 c2_1 c2_2 : Value} (h2 : (ev l x2).cells = #[c2_0,c2_1,c2_2]) : gQ prog l (.build 58 #[(0,x0),(1,x1),(2,x2)]) ty (.agg #[c0_0,c0_1,c0_2,c1_0,c1_1,c1_2,c2_0,c2_1,c2_2]):=fL (vs:=#[(0,ev l x0),(1,ev l x1),(2,ev l x2)]) (by simp) fun w=>Kw h0 h1 h2 w
theorem Oa (w : World) : ((#[{ name := "base", type:=67,offset:=0,embedded:=true,tag := "", pkgPath := "lithophane/trace", byteOffset:=0 }] : Array Field).mapM fun f=>do pure (f.offset,← sizeOf f.type) : Sem (Array (Nat × Nat))).run prog w = .ok #[(0,1)] w:=by
 simp [Array.mapM_eq_mapM_toList,fP Ay]
theorem aaF {v0 : Value} {c0_0 : Value} (h0 : v0.cells = #[c0_0])  (w : World) : (Instr.build 69 #[(0,v0)]).run prog w = .ok (.agg #[c0_0]) w:=cV underlying69 yY Oa (by simp [Instr.fill,eB,h0]) w
theorem Gf {l : List Value} {ty : TypeId} {x0 : Operand} {c0_0 : Value} (h0 : (ev l x0).cells = #[c0_0]) : gQ prog l (.build 69 #[(0,x0)]) ty (.agg #[c0_0]):=fL (vs:=#[(0,ev l x0)]) (by simp) fun w=>aaF h0 w
theorem Ob (w : World) : ((#[{ name := "base", type:=67,offset:=0,embedded:=true,tag := "", pkgPath := "lithophane/trace", byteOffset:=0 }] : Array Field).mapM fun f=>do pure (f.offset,← sizeOf f.type) : Sem (Array (Nat × Nat))).run prog w = .ok #[(0,1)] w:=by
 simp [Array.mapM_eq_mapM_toList,fP Ay]
theorem aaG {v0 : Value} {c0_0 : Value} (h0 : v0.cells = #[c0_0])  (w : World) : (Instr.build 83 #[(0,v0)]).run prog w = .ok (.agg #[c0_0]) w:=cV underlying83 Fw Ob (by simp [Instr.fill,eB,h0]) w
theorem rX {l : List Value} {ty : TypeId} {x0 : Operand} {c0_0 : Value} (h0 : (ev l x0).cells = #[c0_0]) : gQ prog l (.build 83 #[(0,x0)]) ty (.agg #[c0_0]):=fL (vs:=#[(0,ev l x0)]) (by simp) fun w=>aaG h0 w
theorem Oc (w : World) : ((#[{ name := "base", type:=67,offset:=0,embedded:=true,tag := "", pkgPath := "lithophane/trace", byteOffset:=0 },{ name := "lo", type:=56,offset:=1,embedded:=false,tag := "", pkgPath := "lithophane/trace", byteOffset:=8 },{ name := "hi", type:=56,offset:=4,embedded:=false,tag := "", pkgPath := "lithophane/trace", byteOffset:=32 }] : Array Field).mapM fun f=>do pure (f.offset,← sizeOf f.type) : Sem (Array (Nat × Nat))).run prog w = .ok #[(0,1),(1,3),(4,3)] w:=by
 simp [Array.mapM_eq_mapM_toList,fP aO,fP Ay]
theorem Kx {v0 v1 v2 : Value} {c0_0 : Value} (h0 : v0.cells = #[c0_0]) {c1_0 c1_1 c1_2 : Value} (h1 : v1.cells = #[c1_0,c1_1,c1_2]) {c2_0 c2_1 c2_2 : Value} (h2 : v2.cells = #[c2_0,c2_1,c2_2])  (w : World) : (Instr.build 88 #[(0,v0),(1,v1),(2,v2)]).run prog w = .ok (.agg #[c0_0,c1_0,c1_1,c1_2,c2_0,c2_1,c2_2]) w:=cV underlying88 Mo Oc (by simp [Instr.fill,eB,h0,h1,h2]) w
theorem xI {l : List Value} {ty : TypeId} {x0 x1 x2 : Operand} {c0_0 : Value} (h0 : (ev l x0).cells = #[c0_0]) {c1_0 c1_1 c1_2 : Value} (h1 : (ev l x1).cells = #[c1_0,c1_1,c1_2]) {c2_0 c2_1 c2_2 : Value} (h2 : (ev l x2).cells = #[c2_0,c2_1,c2_2]) : gQ prog l (.build 88 #[(0,x0),(1,x1),(2,x2)]) ty (.agg #[c0_0,c1_0,c1_1,c1_2,c2_0,c2_1,c2_2]):=fL (vs:=#[(0,ev l x0),(1,ev l x1),(2,ev l x2)]) (by simp) fun w=>Kx h0 h1 h2 w
theorem Ig {v0 v1 v2 : Value} {c0_0 c0_1 : Value} (h0 : v0.cells = #[c0_0,c0_1]) {c1_0 c1_1 : Value} (h1 : v1.cells = #[c1_0,c1_1]) {c2_0 c2_1 : Value} (h2 : v2.cells = #[c2_0,c2_1])  (w : World) : (Instr.build 107 #[(0,v0),(1,v1),(2,v2)]).run prog w = .ok (.agg #[c0_0,c0_1,c1_0,c1_1,c2_0,c2_1]) w:=gI dT iB aG (by simp [Instr.fill,eB,h0,h1,h2]) w
theorem kQ {l : List Value} {ty : TypeId} {x0 x1 x2 : Operand} {c0_0 c0_1 : Value} (h0 : (ev l x0).cells = #[c0_0,c0_1]) {c1_0 c1_1 : Value} (h1 : (ev l x1).cells = #[c1_0,c1_1]) {c2_0 c2_1 : Value} (h2 : (ev l x2).cells = #[c2_0,c2_1]) : gQ prog l (.build 107 #[(0,x0),(1,x1),(2,x2)]) ty (.agg #[c0_0,c0_1,c1_0,c1_1,c2_0,c2_1]):=fL (vs:=#[(0,ev l x0),(1,ev l x1),(2,ev l x2)]) (by simp) fun w=>Ig h0 h1 h2 w
theorem aaH  (w : World) : (Instr.build 108 #[]).run prog w = .ok (.agg #[(.bool false),(.string ⟨#[]⟩),(.bool false),(.string ⟨#[]⟩),(.bool false),(.string ⟨#[]⟩)]) w:=gI eN jF aG (by simp [Instr.fill,eB]) w
theorem Gg {l : List Value} {ty : TypeId}  : gQ prog l (.build 108 #[]) ty (.agg #[(.bool false),(.string ⟨#[]⟩),(.bool false),(.string ⟨#[]⟩),(.bool false),(.string ⟨#[]⟩)]):=fL (vs:=#[]) (by simp) fun w=>aaH  w
theorem Ih {v0 v1 v2 : Value} {c0_0 c0_1 : Value} (h0 : v0.cells = #[c0_0,c0_1]) {c1_0 c1_1 : Value} (h1 : v1.cells = #[c1_0,c1_1]) {c2_0 c2_1 : Value} (h2 : v2.cells = #[c2_0,c2_1])  (w : World) : (Instr.build 108 #[(0,v0),(1,v1),(2,v2)]).run prog w = .ok (.agg #[c0_0,c0_1,c1_0,c1_1,c2_0,c2_1]) w:=gI eN jF aG (by simp [Instr.fill,eB,h0,h1,h2]) w
theorem vY {l : List Value} {ty : TypeId} {x0 x1 x2 : Operand} {c0_0 c0_1 : Value} (h0 : (ev l x0).cells = #[c0_0,c0_1]) {c1_0 c1_1 : Value} (h1 : (ev l x1).cells = #[c1_0,c1_1]) {c2_0 c2_1 : Value} (h2 : (ev l x2).cells = #[c2_0,c2_1]) : gQ prog l (.build 108 #[(0,x0),(1,x1),(2,x2)]) ty (.agg #[c0_0,c0_1,c1_0,c1_1,c2_0,c2_1]):=fL (vs:=#[(0,ev l x0),(1,ev l x1),(2,ev l x2)]) (by simp) fun w=>Ih h0 h1 h2 w
theorem vZ {v0 v1 v2 v3 v4 v5 : Value} {c0_0 : Value} (h0 : v0.cells = #[c0_0]) {c1_0 : Value} (h1 : v1.cells = #[c1_0]) {c2_0 : Value} (h2 : v2.cells = #[c2_0]) {c3_0 : Value} (h3 : v3.cells = #[c3_0]) {c4_0 : Value} (h4 : v4.cells = #[c4_0]) {c5_0 : Value} (h5 : v5.cells = #[c5_0])  (w : World) : (Instr.build 125 #[(0,v0),(1,v1),(2,v2),(3,v3),(4,v4),(5,v5)]).run prog w = .ok (.agg #[c0_0,c1_0,c2_0,c3_0,c4_0,c5_0]) w:=gI iZ Ie aM (by simp [Instr.fill,eB,h0,h1,h2,h3,h4,h5]) w
theorem rB {l : List Value} {ty : TypeId} {x0 x1 x2 x3 x4 x5 : Operand} {c0_0 : Value} (h0 : (ev l x0).cells = #[c0_0]) {c1_0 : Value} (h1 : (ev l x1).cells = #[c1_0]) {c2_0 : Value} (h2 : (ev l x2).cells = #[c2_0]) {c3_0 : Value} (h3 : (ev l x3).cells = #[c3_0]) {c4_0 : Value} (h4 : (ev l x4).cells = #[c4_0]) {c5_0 : Value} (h5 : (ev l x5).cells = #[c5_0]) : gQ prog l (.build 125 #[(0,x0),(1,x1),(2,x2),(3,x3),(4,x4),(5,x5)]) ty (.agg #[c0_0,c1_0,c2_0,c3_0,c4_0,c5_0]):=fL (vs:=#[(0,ev l x0),(1,ev l x1),(2,ev l x2),(3,ev l x3),(4,ev l x4),(5,ev l x5)]) (by simp) fun w=>vZ h0 h1 h2 h3 h4 h5 w
theorem Ii {v0 v1 v2 : Value} {c0_0 : Value} (h0 : v0.cells = #[c0_0]) {c1_0 : Value} (h1 : v1.cells = #[c1_0]) {c2_0 : Value} (h2 : v2.cells = #[c2_0])  (w : World) : (Instr.build 176 #[(0,v0),(1,v1),(2,v2)]).run prog w = .ok (.agg #[c0_0,c1_0,c2_0]) w:=gI jU vW aM (by simp [Instr.fill,eB,h0,h1,h2]) w
theorem wA {l : List Value} {ty : TypeId} {x0 x1 x2 : Operand} {c0_0 : Value} (h0 : (ev l x0).cells = #[c0_0]) {c1_0 : Value} (h1 : (ev l x1).cells = #[c1_0]) {c2_0 : Value} (h2 : (ev l x2).cells = #[c2_0]) : gQ prog l (.build 176 #[(0,x0),(1,x1),(2,x2)]) ty (.agg #[c0_0,c1_0,c2_0]):=fL (vs:=#[(0,ev l x0),(1,ev l x1),(2,ev l x2)]) (by simp) fun w=>Ii h0 h1 h2 w
theorem Ij {v0 v1 v2 : Value} {c0_0 : Value} (h0 : v0.cells = #[c0_0]) {c1_0 : Value} (h1 : v1.cells = #[c1_0]) {c2_0 : Value} (h2 : v2.cells = #[c2_0])  (w : World) : (Instr.build 181 #[(0,v0),(1,v1),(2,v2)]).run prog w = .ok (.agg #[c0_0,c1_0,c2_0]) w:=gI underlying181 Az tU (by simp [Instr.fill,eB,h0,h1,h2]) w
theorem pW {l : List Value} {ty : TypeId} {x0 x1 x2 : Operand} {c0_0 : Value} (h0 : (ev l x0).cells = #[c0_0]) {c1_0 : Value} (h1 : (ev l x1).cells = #[c1_0]) {c2_0 : Value} (h2 : (ev l x2).cells = #[c2_0]) : gQ prog l (.build 181 #[(0,x0),(1,x1),(2,x2)]) ty (.agg #[c0_0,c1_0,c2_0]):=fL (vs:=#[(0,ev l x0),(1,ev l x1),(2,ev l x2)]) (by simp) fun w=>Ij h0 h1 h2 w
theorem Rj (d : Nat) {x0 y0 : Int} {x1 y1 : Int} {x2 y2 : Int} : rV prog (d + 2) 23 (.agg #[.int .i64 x0,.int .i64 x1,.int .i64 x2]) (.agg #[.int .i64 y0,.int .i64 y1,.int .i64 y2]) (x0 = y0 ∧ x1 = y1 ∧ x2 = y2):=(rV.array eU aM (Df.cons (iH aZ rfl) (iH aZ rfl) (rV.int (d:=d + 0) jB) (Df.cons (iH aZ rfl) (iH aZ rfl) (rV.int (d:=d + 0) jB) (Df.cons (iH aZ rfl) (iH aZ rfl) (rV.int (d:=d + 0) jB) Df.nil)))).iff (by simp only[and_assoc,and_true])
theorem tW {l : List Value} {ty T' : TypeId} {x y : Operand} {x0 y0 : Int} {x1 y1 : Int} {x2 y2 : Int} (hx : ev l x = (.agg #[.int .i64 x0,.int .i64 x1,.int .i64 x2])) (hy : ev l y = (.agg #[.int .i64 y0,.int .i64 y1,.int .i64 y2])) : gQ prog l (.binOp .eql 23 x y T') ty (.bool (decide (x0 = y0 ∧ x1 = y1 ∧ x2 = y2))):=Qt (by kernel_rfl) hx hy (Rj 9998)
theorem xJ {l : List Value} {ty T' : TypeId} {x y : Operand} {x0 y0 : Int} {x1 y1 : Int} {x2 y2 : Int} (hx : ev l x = (.agg #[.int .i64 x0,.int .i64 x1,.int .i64 x2])) (hy : ev l y = (.agg #[.int .i64 y0,.int .i64 y1,.int .i64 y2])) : gQ prog l (.binOp .neq 23 x y T') ty (.bool (decide (¬ (x0 = y0 ∧ x1 = y1 ∧ x2 = y2)))):=Qu (by kernel_rfl) hx hy (Rj 9998)
theorem Rk (d : Nat) {x0 y0 : Bool} {x1 y1 : ByteArray} : rV prog (d + 2) 35 (.agg #[.bool x0,.string x1]) (.agg #[.bool y0,.string y1]) (x0 = y0 ∧ x1 = y1):=(rV.struct gU (by kernel_rfl) (uK.cons (by decide) (iH iV rfl) (iH iV rfl) (rV.bool (d:=d + 0) xF) (uK.cons (by decide) (iH vU rfl) (iH vU rfl) (rV.str (d:=d + 0) mH) uK.nil))).iff (by simp only[and_assoc,and_true])
theorem Rl (d : Nat) {x0 y0 : Bool} {x1 y1 : ByteArray} {x2 y2 : Bool} {x3 y3 : ByteArray} : rV prog (d + 3) 37 (.agg #[.bool x0,.string x1,.bool x2,.string x3]) (.agg #[.bool y0,.string y1,.bool y2,.string y3]) (x0 = y0 ∧ x1 = y1 ∧ x2 = y2 ∧ x3 = y3):=(rV.struct kU (by kernel_rfl) (uK.cons (by decide) (vT aR aG rfl) (vT aR aG rfl) (Rk (d + 0)) (uK.cons (by decide) (vT aR aG rfl) (vT aR aG rfl) (Rk (d + 0)) uK.nil))).iff (by simp only[and_assoc,and_true])
theorem Od {l : List Value} {ty T' : TypeId} {x y : Operand} {x0 y0 : Bool} {x1 y1 : ByteArray} {x2 y2 : Bool} {x3 y3 : ByteArray} (hx : ev l x = (.agg #[.bool x0,.string x1,.bool x2,.string x3])) (hy : ev l y = (.agg #[.bool y0,.string y1,.bool y2,.string y3])) : gQ prog l (.binOp .eql 37 x y T') ty (.bool (decide (x0 = y0 ∧ x1 = y1 ∧ x2 = y2 ∧ x3 = y3))):=Qt (by kernel_rfl) hx hy (Rl 9997)
theorem Ea {l : List Value} {ty T' : TypeId} {x y : Operand} {x0 y0 : Bool} {x1 y1 : ByteArray} {x2 y2 : Bool} {x3 y3 : ByteArray} (hx : ev l x = (.agg #[.bool x0,.string x1,.bool x2,.string x3])) (hy : ev l y = (.agg #[.bool y0,.string y1,.bool y2,.string y3])) : gQ prog l (.binOp .neq 37 x y T') ty (.bool (decide (¬ (x0 = y0 ∧ x1 = y1 ∧ x2 = y2 ∧ x3 = y3)))):=Qu (by kernel_rfl) hx hy (Rl 9997)
theorem aaI (d : Nat) {x0 y0 : Int} {x1 y1 : Int} {x2 y2 : Int} : rV prog (d + 2) 56 (.agg #[.int .i64 x0,.int .i64 x1,.int .i64 x2]) (.agg #[.int .i64 y0,.int .i64 y1,.int .i64 y2]) (x0 = y0 ∧ x1 = y1 ∧ x2 = y2):=(rV.struct bZ (by kernel_rfl) (uK.cons (by decide) (iH aZ rfl) (iH aZ rfl) (rV.int (d:=d + 0) jB) (uK.cons (by decide) (iH aZ rfl) (iH aZ rfl) (rV.int (d:=d + 0) jB) (uK.cons (by decide) (iH aZ rfl) (iH aZ rfl) (rV.int (d:=d + 0) jB) uK.nil)))).iff (by simp only[and_assoc,and_true])
end Go.Proofs.YtimjandkmfcmiaaGreatDoor
namespace Go.Lith
/-! ### Digits -/
def val (B : Nat) : List Nat → Nat
 | []=>0
 | x :: xs=>x + B * val B xs
def trim : List Nat → List Nat
 | []=>[]
 | x :: xs=>if trim xs = [] ∧ x = 0 then [] else x :: trim xs
def dD (B : Nat) (xs : List Nat) : Prop:=∀ x ∈ xs,x < B
theorem fI (B : Nat) : ∀ xs ys : List Nat,val B (xs ++ ys) = val B xs + B ^ xs.length * val B ys
 | [],ys=>by simp [val]
 | x :: xs,ys=>by simp only[List.cons_append,val,fI B xs ys,List.length_cons,Nat.pow_succ]; grind
theorem jC {B : Nat} : ∀ {xs : List Nat},dD B xs → val B xs < B ^ xs.length
 | [],_=>by simp [val]
 | x :: xs,h=>by
  have h1 : x < B:=h x (by simp);have h2:=jC (xs:=xs) fun y hy=>h y (by simp [hy]);simp only[val,List.length_cons,Nat.pow_succ];have h3 : val B xs + 1 ≤ B ^ xs.length:=h2;have:=Nat.mul_le_mul_left B h3
  grind
theorem rC (B : Nat) : ∀ xs : List Nat,val B (trim xs) = val B xs
 | []=>rfl
 | x :: xs=>by
  have ih:=rC B xs;simp only[trim];split
  · rename_i h; rw [h.1] at ih; simp only[val] at ih ⊢; rw [← ih,h.2]; simp
  · simp only[val,ih]
theorem iE : ∀ xs : List Nat,trim xs = xs.take (trim xs).length
 | []=>rfl
 | x :: xs=>by
  simp only[trim];split
  · rfl
  · simp only[List.length_cons,List.take_succ_cons]; rw [← iE xs]
theorem dD.take {B : Nat} {xs : List Nat} (h : dD B xs) (n : Nat) : dD B (xs.take n):=fun x hx=>h x (List.mem_of_mem_take hx)
theorem dD.drop {B : Nat} {xs : List Nat} (h : dD B xs) (n : Nat) : dD B (xs.drop n):=fun x hx=>h x (List.mem_of_mem_drop hx)
theorem dD.trim {B : Nat} {xs : List Nat} (h : dD B xs) : dD B (trim xs):=by rw [iE]; exact h.take _
theorem dD.append {B : Nat} {xs ys : List Nat} (h : dD B xs) (k : dD B ys) : dD B (xs ++ ys):=fun x hx=>by
 rcases List.mem_append.1 hx with h' | h'
 · exact h x h'
 · exact k x h'
theorem kE (B : Nat) : dD B []:=fun _ h=>by cases h
theorem nF {B x : Nat} {xs : List Nat} (hx : x < B) (h : dD B xs) : dD B (x :: xs):=fun y hy=>by
 rcases List.mem_cons.1 hy with rfl | h'
 · exact hx
 · exact h y h'
theorem dD.set {B : Nat} {xs : List Nat} (h : dD B xs) {i x : Nat} (hx : x < B) : dD B (xs.set i x):=fun y hy=>by
 rcases List.mem_or_eq_of_mem_set hy with h' | rfl
 · exact h y h'
 · exact hx
theorem dD.get {B : Nat} {xs : List Nat} (h : dD B xs) {i x : Nat} (hi : xs[i]? = some x) : x < B:=h x (List.mem_of_getElem? hi)
def gC (xs : List Nat) : Prop:=trim xs = xs
theorem Eb : ∀ xs : List Nat,trim (trim xs) = trim xs
 | []=>rfl
 | x :: xs=>by
  have ih:=Eb xs;simp only[trim];split
  · rfl
  · rename_i h; simp only[trim,ih]; rw [if_neg h]
theorem rY (xs : List Nat) : gC (trim xs):=Eb xs
theorem gC.tail {x : Nat} {xs : List Nat} (h : gC (x :: xs)) : gC xs:=by
 unfold gC at *
 simp only[trim] at h;split at h
 · cases h
 · simpa using h
theorem wB {B : Nat} (hB : 0 < B) : ∀ {xs : List Nat},gC xs → xs ≠ [] → 0 < val B xs
 | [],_,h=>absurd rfl h
 | x :: xs,ht,_=>by
  simp only[val];by_cases hx : xs = []
  · subst hx
    have : x ≠ 0:=by
     rintro rfl;simp [gC,trim] at ht
    omega
  · have:=Nat.mul_pos hB (wB hB ht.tail hx)
    omega
theorem sZ {B : Nat} (hB : 1 < B) : ∀ {xs ys : List Nat},dD B xs → dD B ys → gC xs → gC ys → val B xs = val B ys → xs = ys
 | [],[],_,_,_,_,_=>rfl
 | [],y :: ys,_,_,_,hy,h=>by have:=wB (B:=B) (by omega) hy (by simp); rw [← h] at this; simp [val] at this
 | x :: xs,[],_,_,hx,_,h=>by have:=wB (B:=B) (by omega) hx (by simp); rw [h] at this; simp [val] at this
 | x :: xs,y :: ys,hx,hy,tx,ty,h=>by
  simp only[val] at h;have h1 : x < B:=hx x (by simp);have h2 : y < B:=hy y (by simp);have e1 : x = y:=by
   have:=congrArg (· % B) h;simpa [Nat.add_mul_mod_self_left,Nat.mod_eq_of_lt h1,Nat.mod_eq_of_lt h2] using this
  subst e1;have e2 : val B xs = val B ys:=by
   have : B * val B xs = B * val B ys:=by omega
   exact Nat.eq_of_mul_eq_mul_left (by omega) this
  rw [sZ hB (fun z hz=>hx z (by simp [hz])) (fun z hz=>hy z (by simp [hz])) tx.tail ty.tail e2]
def Ec (B : Nat) : Nat → Nat → List Nat
 | 0,_=>[]
 | f + 1,n=>if n = 0 then [] else (n % B) :: Ec B f (n / B)
def digs (B n : Nat) : List Nat:=Ec B n n
theorem rZ {B : Nat} (hB : 1 < B) : ∀ (f n : Nat),n ≤ f → val B (Ec B f n) = n ∧ dD B (Ec B f n) ∧ gC (Ec B f n)
 | 0, n, h => by
  obtain rfl : n = 0 := by omega
  exact ⟨rfl,kE B,rfl⟩
 | f + 1,n,h=>by
  simp only[Ec];split
  · rename_i h0; exact ⟨by simp [val,h0],kE B,rfl⟩
  · rename_i h0
    have hlt : n / B ≤ f:=by
     have:=Nat.div_lt_self (Nat.pos_of_ne_zero h0) hB;omega
    obtain ⟨h1,h2,h3⟩:=rZ hB f (n / B) hlt;refine ⟨by simp only[val,h1]; exact Nat.mod_add_div n B,nF (Nat.mod_lt _ (by omega)) h2,?_⟩;unfold gC at *
    simp only[trim,h3];rw [if_neg];rintro ⟨h4,h5⟩;rw [h4] at h1;simp only[val] at h1;have:=Nat.mod_add_div n B;rw [h5,← h1] at this;omega
theorem pC {B : Nat} (hB : 1 < B) (n : Nat) : val B (digs B n) = n:=(rZ hB n n (Nat.le_refl _)).1
theorem rD {B : Nat} (hB : 1 < B) (n : Nat) : dD B (digs B n):=(rZ hB n n (Nat.le_refl _)).2.1
theorem mO {B : Nat} (hB : 1 < B) (n : Nat) : gC (digs B n):=(rZ hB n n (Nat.le_refl _)).2.2
theorem kA {B : Nat} (hB : 1 < B) {xs : List Nat} (h : dD B xs) {n : Nat} (hv : val B xs = n) : trim xs = digs B n :=
 sZ hB h.trim (rD hB n) (rY xs) (mO hB n) (by rw [rC,pC hB,hv])
theorem mA {B n : Nat} (hB : 1 < B) : digs B n = [] ↔ n = 0:=by
 constructor
 · intro h; rw [← pC hB n,h]; rfl
 · rintro rfl; rfl
theorem eO {B n k : Nat} (hB : 1 < B) (h : n < B ^ k) : (digs B n).length ≤ k:=by
 rcases Nat.lt_or_ge k (digs B n).length with hlt | hge
 · exfalso
   have hne : (digs B n) ≠ []:=by intro h'; rw [h'] at hlt; simp at hlt
   -- the greatest digit is not 0
   have key : ∀ xs : List Nat,gC xs → xs ≠ [] → B ^ (xs.length - 1) ≤ val B xs:=by
    intro xs
    induction xs with
    | nil=>intro _ h; exact absurd rfl h
    | cons x xs ih =>
     intro ht _;by_cases hx : xs = []
     · subst hx
       have:=wB (B:=B) (by omega) ht (by simp);simp [val] at this ⊢; omega
     · have:=ih ht.tail hx
       have h2 : xs.length ≠ 0:=by simpa using hx
       simp only[List.length_cons,val,Nat.add_sub_cancel];have e : xs.length = (xs.length - 1) + 1:=by omega
       rw [e,Nat.pow_succ];have:=Nat.mul_le_mul_left B this
       grind
   have:=key _ (mO hB n) hne;rw [pC hB] at this;have h3 : B ^ k ≤ B ^ ((digs B n).length - 1):=Nat.pow_le_pow_right (by omega) (by omega);omega
 · exact hge
/-! ### Numbers as values -/
def cN (n : Int) : Bool:=decide (n < 0)
def sA (n : Nat) : List UInt8:=(digs 256 n).reverse.map UInt8.ofNat
def cX (n : Int) : ByteArray:=⟨(sA n.natAbs).toArray⟩
def W (n : Int) : Value:=.agg #[.bool (cN n),.string (cX n)]
def Bd (k : Nat) (n : Int) : Prop:=n.natAbs < 2 ^ k
theorem Bd.mono {a b : Nat} {n : Int} (h : Bd a n) (hab : a ≤ b) : Bd b n:=Nat.lt_of_lt_of_le h (Nat.pow_le_pow_right (by omega) hab)
theorem Bd.neg {a : Nat} {n : Int} (h : Bd a n) : Bd a (-n):=by unfold Bd at *; rwa [Int.natAbs_neg]
theorem Bd.add {a b : Nat} {m n : Int} (h : Bd a m) (k : Bd b n) : Bd (max a b + 1) (m + n):=by
 unfold Bd at *
 have h1 : (m + n).natAbs ≤ m.natAbs + n.natAbs:=Int.natAbs_add_le m n;have h2 : 2 ^ a ≤ 2 ^ max a b:=Nat.pow_le_pow_right (by omega) (Nat.le_max_left a b);have h3 : 2 ^ b ≤ 2 ^ max a b:=Nat.pow_le_pow_right (by omega) (Nat.le_max_right a b);rw [Nat.pow_succ];omega
theorem Bd.sub {a b : Nat} {m n : Int} (h : Bd a m) (k : Bd b n) : Bd (max a b + 1) (m - n):=by rw [Int.sub_eq_add_neg]; exact h.add k.neg
theorem Bd.mul {a b : Nat} {m n : Int} (h : Bd a m) (k : Bd b n) : Bd (a + b) (m * n):=by
 unfold Bd at *
 rw [Int.natAbs_mul,Nat.pow_add];exact Nat.mul_lt_mul_of_lt_of_lt h k
theorem Bd.of_i64 {n : Int} (h0 : -9223372036854775808 ≤ n) (h1 : n ≤ 9223372036854775807) : Bd 64 n:=by
 unfold Bd;omega
theorem iY (k : Nat) : Bd k 0:=by unfold Bd; exact Nat.two_pow_pos k
theorem Bd.of_le {a : Nat} {m n : Int} (h : Bd a n) (hle : m.natAbs ≤ n.natAbs) : Bd a m:=Nat.lt_of_le_of_lt hle h
theorem Ed (n : Int) : (cX n).size = (digs 256 n.natAbs).length:=by simp [cX,ByteArray.size,sA]
theorem Gh {k : Nat} {n : Int} (h : Bd k n) : (cX n).size ≤ k:=by
 rw [Ed];refine eO (by omega) (Nat.lt_of_lt_of_le h ?_);rw [show 256 = 2 ^ 8 from rfl,← Nat.pow_mul];exact Nat.pow_le_pow_right (by omega) (by omega)
end Go.Lith
namespace Go.Lith
structure eC (w : World) (A : Option Addr) (n cap : Nat) (xs : List Nat) : Prop where
 eq : n = xs.length
 row : ∀ (i x : Nat),xs[i]? = some x → ∃ a,A = some a ∧ w.cell? (a.add i) = some (.int .u64 (x : Int))
 le : xs.length ≤ cap
 cap : cap ≤ 9223372036854775807
 len : xs.length ≤ 17592186044416
 digs : dD 4294967296 xs
section
variable {w : World} {A : Option Addr} {n cap : Nat} {xs : List Nat}
theorem eC.ext {w' : World} (h : eC w A n cap xs) (hE : dL w w') : eC w' A n cap xs :=
 ⟨h.eq,fun i x hi=>let ⟨a,e,hc⟩:=h.row i x hi; ⟨a,e,hE.cell hc⟩,h.le,h.cap,h.len,h.digs⟩
theorem eC.take (h : eC w A n cap xs) (k : Nat) : eC w A (xs.take k).length cap (xs.take k) :=
 ⟨rfl,fun i x hi=>h.row i x (by rw [List.getElem?_take] at hi; split at hi; exact hi; cases hi),Nat.le_trans (by simp; omega) h.le,h.cap,Nat.le_trans (by simp; omega) h.len,h.digs.take k⟩
theorem eC.get (h : eC w A n cap xs) {i : Nat} (hi : i < xs.length) : ∃ a,A = some a ∧ w.cell? (a.add i) = some (.int .u64 ((xs[i] : Nat) : Int)) ∧ xs[i] < 4294967296 :=
 let ⟨a,e,hc⟩:=h.row i xs[i] (List.getElem?_eq_getElem hi); ⟨a,e,hc,h.digs _ (List.getElem_mem hi)⟩
theorem eC.as (h : eC w A n cap xs) {ys : List Nat} (e : xs = ys) : eC w A n cap ys:=e ▸ h
end
theorem mP : ∀ ys : List Nat,trim (ys ++ [0]) = trim ys
 | []=>by simp [trim]
 | y :: ys=>by simp only[List.cons_append,trim,mP ys]
theorem qI {x : Nat} (hx : x ≠ 0) : ∀ ys : List Nat,trim (ys ++ [x]) = ys ++ [x]
 | []=>by simp [trim,hx]
 | y :: ys=>by simp only[List.cons_append,trim,qI hx ys]; rw [if_neg (by simp)]
theorem xK {xs : List Nat} {k : Nat} (hk : 0 < k) (h : k - 1 < xs.length) : xs.take k = xs.take (k - 1) ++ [xs[k - 1]]:=by
 have e : k = (k - 1) + 1:=by omega
 conv=>lhs; rw [e]
 rw [List.take_succ_eq_append_getElem h]
theorem Ee {xs : List Nat} {k : Nat} (hk : 0 < k) (h : k - 1 < xs.length) (h0 : ((xs[k-1] : Nat) : Int) = 0) (ht : trim (xs.take k) = trim xs) : trim (xs.take (k - 1)) = trim xs:=by
 rw [← ht,xK hk h,show xs[k-1] = 0 by omega,mP]
theorem Ik {xs : List Nat} {k : Nat} (hk : 0 < k) (h : k - 1 < xs.length) (h0 : ¬ ((xs[k-1] : Nat) : Int) = 0) (ht : trim (xs.take k) = trim xs) : k = (trim xs).length:=by
 rw [← ht,xK hk h,qI (by omega)];simp; omega
theorem Il {xs : List Nat} (ht : trim (xs.take 0) = trim xs) : 0 = (trim xs).length:=by rw [← ht]; rfl
/-! ### Words in a block -/
abbrev kO (x : Nat) : Value:=.int .u64 (x : Int)
theorem gN {os : List Nat} {i d : Nat} (hi : i < os.length) : aX (os.map kO) i [kO d] = (os.set i d).map kO:=by
 unfold aX;rw [List.set_eq_take_append_cons_drop,if_pos hi];simp [List.map_take,List.map_drop]
theorem iF (n : Nat) : List.replicate n (Value.int .u64 0) = (List.replicate n 0).map kO:=by simp [kO]
theorem fW.word {w : World} {g : Nat} {os : List Nat} {t : TypeId} (h : fW w g (os.map kO) t) {i : Nat} (hi : i < os.length) : w.cell? ⟨g,i,none⟩ = some (.int .u64 ((os[i] : Nat) : Int)) :=
 h.cell (by simp [hi])
theorem fW.nat {w : World} {g : Nat} {os : List Nat} {t : TypeId} (h : fW w g (os.map kO) t) (hd : dD 4294967296 os) {n : Nat} (hn : n = os.length) (hl : n ≤ 17592186044416) : eC w (some ⟨g,0,none⟩) n n os :=
 ⟨hn,fun i x hi=>⟨_,rfl,by rw [fN,Nat.zero_add]; exact h.cell (by simp [hi])⟩,by omega,by omega,by omega,hd⟩
def gZ (n : Nat) (v : Value) (w : World) : Prop:=∃ A cap,v = .slice A (digs 4294967296 n).length cap ∧ eC w A (digs 4294967296 n).length cap (digs 4294967296 n)
theorem gZ.of_trim {w : World} {A : Option Addr} {xs : List Nat} {k cap n : Nat} (h : eC w A k cap xs) (hv : val 4294967296 xs = n) : gZ n (.slice A (trim xs).length cap) w:=by
 have e : trim xs = digs 4294967296 n:=kA (by omega) h.digs hv;refine ⟨A,cap,by rw [e],?_⟩;have h':=h.take (trim xs).length;rw [← iE,e] at h';exact h'
def pD (w : World) (v : Value) : Prop:=∀ a n c,v = .slice (some a) n c → w.heap.size ≤ a.block
theorem pD.of_blk {w : World} {g off n c : Nat} (h : w.heap.size ≤ g) : pD w (.slice (some ⟨g,off,none⟩) n c):=fun a n' c' e=>by cases e; exact h
theorem mB (a : Addr) (i : Nat) : (a.add i).block = a.block:=by unfold Addr.add; split <;> rfl
theorem Mm.cell {w w' : World} {g : Nat} (h : Mm w w' g) {a : Addr} (hne : a.block ≠ g) : w'.cell? a = w.cell? a:=by
 unfold World.cell?;rw [h.block _ hne]
theorem eC.chg {w w' : World} {g n cap : Nat} {A : Option Addr} {xs : List Nat} (h : eC w A n cap xs) (hC : Mm w w' g) (hne : ∀ a,A = some a → a.block ≠ g) : eC w' A n cap xs :=
 ⟨h.eq,fun i x hi=>let ⟨a,e,hc⟩:=h.row i x hi; ⟨a,e,by rw [hC.cell (by rw [mB]; exact hne a e)]; exact hc⟩,h.le,h.cap,h.len,h.digs⟩
/-! ### Sums of digits -/
theorem kR {B : Nat} : ∀ {os : List Nat} {j d : Nat} (hj : j < os.length),val B (os.set j d) + B ^ j * os[j] = val B os + B ^ j * d
 | x :: xs,0,d,_=>by simp [val]; omega
 | x :: xs,j + 1,d,h=>by
  have ih:=kR (B:=B) (os:=xs) (j:=j) (d:=d) (by simpa using h);simp only[List.set_cons_succ,val,List.getElem_cons_succ,Nat.pow_succ];have:=congrArg (B * ·) ih;simp only[Nat.mul_add] at this
  grind
theorem gH (B n : Nat) : val B (List.replicate n 0) = 0:=by
 induction n with
 | zero=>rfl
 | succ n ih=>simp [List.replicate_succ,val,ih]
theorem cY {B : Nat} {xs : List Nat} {i : Nat} (hi : i < xs.length) : val B (xs.take (i + 1)) = val B (xs.take i) + B ^ i * xs[i]:=by
 rw [List.take_succ_eq_append_getElem hi,fI,List.length_take,Nat.min_eq_left (by omega)];simp [val]
theorem mC {B : Nat} {xs : List Nat} {i : Nat} (hi : xs.length ≤ i) : val B (xs.take i) = val B xs:=by rw [List.take_of_length_le hi]
theorem jN {os : List Nat} {i d : Nat} : (os.set i d).drop (i + 1) = os.drop (i + 1):=by
 apply List.ext_getElem?;intro j;simp only[List.getElem?_drop];rw [List.getElem?_set_ne (by omega)]
theorem iG {os : List Nat} {i n : Nat} (h : os.drop i = List.replicate n 0) (hi : i < os.length) : os[i] = 0 ∧ os.drop (i + 1) = List.replicate (n - 1) 0:=by
 rw [List.drop_eq_getElem_cons hi] at h;cases n with
 | zero=>cases h
 | succ n=>simp only[List.replicate_succ,List.cons.injEq] at h; exact ⟨h.1,by simpa using h.2⟩
theorem Im {B : Nat} {os : List Nat} {i d c c' s t T : Nat} (hi : i < os.length) (hs : os[i] + s + c = d + B * c') (hT : val B os + B ^ i * c = T) (ht : T + B ^ i * s = t) :
 val B (os.set i d) + B ^ (i + 1) * c' = t:=by
 have h1:=kR (B:=B) (d:=d) hi;have h2:=congrArg (B ^ i * ·) hs;simp only[Nat.mul_add] at h2;rw [Nat.pow_succ]
 grind
/-! ### Order -/
def Gi (a b : Nat) : Int:=if a < b then -1 else if b < a then 1 else 0
theorem uO {B : Nat} (hB : 1 < B) {xs ys : List Nat} {k : Nat} (hx : dD B xs) (hlx : k < xs.length) (hly : k < ys.length) (hd : xs.drop (k + 1) = ys.drop (k + 1)) (h : xs[k] < ys[k]) : val B xs < val B ys:=by
 have e1 : val B xs = val B (xs.take (k + 1)) + B ^ (k + 1) * val B (xs.drop (k + 1)):=by
  conv=>lhs; rw [← List.take_append_drop (k + 1) xs]
  rw [fI,List.length_take,Nat.min_eq_left (by omega)]
 have e2 : val B ys = val B (ys.take (k + 1)) + B ^ (k + 1) * val B (ys.drop (k + 1)):=by
  conv=>lhs; rw [← List.take_append_drop (k + 1) ys]
  rw [fI,List.length_take,Nat.min_eq_left (by omega)]
 rw [e1,e2,hd,cY hlx,cY hly];have h1:=jC (hx.take k);rw [List.length_take,Nat.min_eq_left (by omega)] at h1;have h2 : B ^ k * (xs[k] + 1) ≤ B ^ k * ys[k]:=Nat.mul_le_mul_left _ h;rw [Nat.mul_add] at h2;omega
theorem jV {B : Nat} (hB : 1 < B) {xs ys : List Nat} (hx : dD B xs) (hy : dD B ys) (ty : gC ys) (h : xs.length < ys.length) : val B xs < val B ys:=by
 rcases Nat.lt_or_ge (val B xs) (val B ys) with hlt | hge
 · exact hlt
 · exfalso
   have e : ys = digs B (val B ys):=sZ hB hy (rD hB _) ty (mO hB _) (by rw [pC hB]);have h1 : val B ys < B ^ xs.length:=Nat.lt_of_le_of_lt hge (jC hx);have h2:=eO hB h1;rw [← e] at h2;omega
/-! ### The machine's numbers -/
theorem jO (x : Int) : IntKind.u64.wrap x = x % 18446744073709551616:=by simp [IntKind.wrap,IntKind.bits,IntKind.signed]
theorem nS {s : Int} (h0 : 0 ≤ s) (h1 : s < 18446744073709551616) : IntKind.u64.wrap ((BitVec.ofInt IntKind.u64.bits s &&& BitVec.ofInt IntKind.u64.bits 4294967295).toNat : Int) = s % 4294967296:=by
 obtain ⟨n,rfl⟩:=Int.eq_ofNat_of_zero_le h0;have hn : n < 18446744073709551616:=by omega
 have e : (BitVec.ofInt 64 (n : Int) &&& BitVec.ofInt 64 4294967295).toNat = n % 4294967296:=by
  rw [BitVec.toNat_and];have e1 : (BitVec.ofInt 64 (n : Int)).toNat = n:=by simp [BitVec.toNat_ofInt]; omega
  have e2 : (BitVec.ofInt 64 4294967295).toNat = 2 ^ 32 - 1:=by decide
  rw [e1,e2,Nat.and_two_pow_sub_one_eq_mod]
 show IntKind.u64.wrap ((BitVec.ofInt 64 (n : Int) &&& BitVec.ofInt 64 4294967295).toNat : Int) = _
 rw [e,fX (by omega) (by omega)];omega
theorem Ef {s : Int} (h0 : 0 ≤ s) : s.fdiv (2 ^ (min (32 : Int).toNat IntKind.u64.bits)) = s / 4294967296:=by
 show s.fdiv (2 ^ 32) = _
 rw [Int.fdiv_eq_ediv_of_nonneg _ (by decide)];rfl
theorem Ye {s : Int} (h0 : 0 ≤ s) : s.fdiv (2 ^ (min (63 : Int).toNat IntKind.u64.bits)) = s / 9223372036854775808:=by
 show s.fdiv (2 ^ 63) = _
 rw [Int.fdiv_eq_ediv_of_nonneg _ (by decide)];rfl
/-! ### Addresses of words -/
theorem fT {a : Addr} {m : Int} {q : Nat} (h : m.toNat = q) : a.add (m.toNat * 1) = a.add q:=by rw [h,Nat.mul_one]
theorem wC {a : Addr} {m : Int} {c q : Nat} (h : m.toNat = q) : a.add (m.toNat * c) = a.add (q * c):=by rw [h]
theorem fK {g : Nat} {m : Int} {q : Nat} (h : m.toNat = q) : (⟨g,0,none⟩ : Addr).add (m.toNat * 1) = ⟨g,q,none⟩:=by rw [h,Nat.mul_one,fN,Nat.zero_add]
theorem xL {g : Nat} {m : Int} {c q : Nat} (h : m.toNat = q) : (⟨g,0,none⟩ : Addr).add (m.toNat * c) = ⟨g,q * c,none⟩:=by rw [h,fN,Nat.zero_add]
theorem eC.at {w : World} {a : Addr} {xs : List Nat} {n cap : Nat} (h : eC w (some a) n cap xs) {i : Nat} (hi : i < xs.length) : w.cell? (a.add i) = some (.int .u64 ((xs[i] : Nat) : Int)):=by
 obtain ⟨a',e,hc⟩:=h.row i xs[i] (List.getElem?_eq_getElem hi);cases e;exact hc
/-! ### Rounds -/
theorem Rm {xs ys : List Nat} {k : Nat} (hx : dD 4294967296 xs) (hk : 0 < k) (hlx : k - 1 < xs.length) (hly : k - 1 < ys.length) (hd : xs.drop k = ys.drop k) (h : ((xs[k-1] : Nat) : Int) < ((ys[k-1] : Nat) : Int)) : val 4294967296 xs < val 4294967296 ys :=
 uO (by omega) hx hlx hly (by rw [show k - 1 + 1 = k by omega]; exact hd) (by omega)
theorem Oe {xs ys : List Nat} {k : Nat} (hk : 0 < k) (hlx : k - 1 < xs.length) (hly : k - 1 < ys.length) (hd : xs.drop k = ys.drop k) (h1 : ¬ ((xs[k-1] : Nat) : Int) < ((ys[k-1] : Nat) : Int)) (h2 : ¬ ((ys[k-1] : Nat) : Int) < ((xs[k-1] : Nat) : Int)) : xs.drop (k - 1) = ys.drop (k - 1):=by
 rw [List.drop_eq_getElem_cons hlx,List.drop_eq_getElem_cons hly,show k - 1 + 1 = k by omega,hd,show xs[k-1] = ys[k-1] by omega]
theorem tX {os xs ys : List Nat} {i c s : Nat} (hi : i < xs.length) (hlo : os.length = xs.length + 1) (hv : val 4294967296 os + 4294967296 ^ i * c = val 4294967296 (xs.take i) + val 4294967296 (ys.take i)) (hz : os.drop i = List.replicate (xs.length + 1 - i) 0) (hd : dD 4294967296 os) (hc : c ≤ 1)
 (hs : s = xs[i] + c + ys[i]?.getD 0) (hx : xs[i] < 4294967296) (hy : ys[i]?.getD 0 < 4294967296) :
 val 4294967296 (os.set i (s % 4294967296)) + 4294967296 ^ (i + 1) * (s / 4294967296) = val 4294967296 (xs.take (i + 1)) + val 4294967296 (ys.take (i + 1)) ∧ (os.set i (s % 4294967296)).drop (i + 1) = List.replicate (xs.length + 1 - (i + 1)) 0 ∧ dD 4294967296 (os.set i (s % 4294967296)) ∧ s / 4294967296 ≤ 1:=by
 obtain ⟨z1,z2⟩:=iG hz (by omega);refine ⟨?_,?_,hd.set (Nat.mod_lt _ (by omega)),by omega⟩
 · refine Im (s:=xs[i] + ys[i]?.getD 0) (by omega) (by rw [z1]; omega) hv ?_
   rw [cY hi];by_cases hy' : i < ys.length
   · rw [cY hy',List.getElem?_eq_getElem hy']
     simp only[Option.getD_some,Nat.mul_add];omega
   · rw [List.getElem?_eq_none (by omega),mC (xs:=ys) (i:=i + 1) (by omega),mC (xs:=ys) (i:=i) (by omega)]
     simp;omega
 · rw [jN,z2]
   congr 1
theorem zW {os xs ys : List Nat} {c : Nat} (hle : ys.length ≤ xs.length) (hlo : os.length = xs.length + 1) (hv : val 4294967296 os + 4294967296 ^ xs.length * c = val 4294967296 (xs.take xs.length) + val 4294967296 (ys.take xs.length)) (hz : os.drop xs.length = List.replicate (xs.length + 1 - xs.length) 0) :
 val 4294967296 (os.set xs.length c) = val 4294967296 xs + val 4294967296 ys:=by
 obtain ⟨z1,_⟩:=iG hz (by omega);have h:=kR (B:=4294967296) (d:=c) (show xs.length < os.length by omega);rw [z1] at h;rw [List.take_length,mC hle] at hv;omega
theorem Eg {os xs ys : List Nat} {i c s : Nat} (hi : i < xs.length) (hlo : os.length = xs.length) (hv : val 4294967296 os + val 4294967296 (ys.take i) = val 4294967296 (xs.take i) + 4294967296 ^ i * c) (hz : os.drop i = List.replicate (xs.length - i) 0) (hd : dD 4294967296 os) (hc : c ≤ 1)
 (hs : (s : Int) = ((xs[i] : Nat) - (c : Nat) - (ys[i]?.getD 0 : Nat) : Int) % 18446744073709551616) (hx : xs[i] < 4294967296) (hy : ys[i]?.getD 0 < 4294967296) :
 val 4294967296 (os.set i (s % 4294967296)) + val 4294967296 (ys.take (i + 1)) = val 4294967296 (xs.take (i + 1)) + 4294967296 ^ (i + 1) * (s / 9223372036854775808) ∧ (os.set i (s % 4294967296)).drop (i + 1) = List.replicate (xs.length - (i + 1)) 0 ∧ dD 4294967296 (os.set i (s % 4294967296)) ∧ s / 9223372036854775808 ≤ 1:=by
 obtain ⟨z1,z2⟩:=iG hz (by omega);have key : xs[i] + 4294967296 * (s / 9223372036854775808) = s % 4294967296 + c + ys[i]?.getD 0:=by omega
 refine ⟨?_,?_,hd.set (Nat.mod_lt _ (by omega)),by omega⟩
 · have h1:=kR (B:=4294967296) (d:=s % 4294967296) (show i < os.length by omega)
   rw [z1] at h1;have h2:=congrArg (4294967296 ^ i * ·) key;simp only[Nat.mul_add] at h2;rw [cY hi,Nat.pow_succ];have h3 : val 4294967296 (ys.take (i + 1)) = val 4294967296 (ys.take i) + 4294967296 ^ i * ys[i]?.getD 0:=by
    by_cases hy' : i < ys.length
    · rw [cY hy',List.getElem?_eq_getElem hy']; rfl
    · rw [List.getElem?_eq_none (by omega),mC (xs:=ys) (i:=i + 1) (by omega),mC (xs:=ys) (i:=i) (by omega)]; rfl
   rw [h3]
   grind
 · rw [jN,z2]
   congr 1
theorem Ve {os xs ys : List Nat} {c : Nat} (hle : ys.length ≤ xs.length) (hlo : os.length = xs.length) (hd : dD 4294967296 os) (hv : val 4294967296 os + val 4294967296 (ys.take xs.length) = val 4294967296 (xs.take xs.length) + 4294967296 ^ xs.length * c) (hge : val 4294967296 ys ≤ val 4294967296 xs) :
 val 4294967296 os = val 4294967296 xs - val 4294967296 ys:=by
 rw [List.take_length,mC hle] at hv;have h:=jC hd;rw [hlo] at h;have hc : c = 0:=by
  rcases Nat.eq_zero_or_pos c with h0 | h0
  · exact h0
  · have:=Nat.mul_le_mul_left (4294967296 ^ xs.length) h0
    omega
 subst hc;omega
theorem Of {os xs ys : List Nat} {i k c s : Nat} (hi : i < xs.length) (hk : k < ys.length) (hlo : os.length = xs.length + ys.length) (hv : val 4294967296 os + 4294967296 ^ (i + k) * c = val 4294967296 (xs.take i) * val 4294967296 ys + 4294967296 ^ i * (xs[i] * val 4294967296 (ys.take k)))
 (hs : s = os[i + k] + xs[i] * ys[k] + c) : val 4294967296 (os.set (i + k) (s % 4294967296)) + 4294967296 ^ (i + (k + 1)) * (s / 4294967296) = val 4294967296 (xs.take i) * val 4294967296 ys + 4294967296 ^ i * (xs[i] * val 4294967296 (ys.take (k + 1))):=by
 refine Im (s:=xs[i] * ys[k]) (i:=i + k) (by omega) (by omega) hv ?_;rw [cY hk,Nat.pow_add]
 grind
theorem mD {os : List Nat} {i j d : Nat} (h : i < j) : (os.set i d).drop j = os.drop j:=by
 apply List.ext_getElem?;intro m;simp only[List.getElem?_drop];rw [List.getElem?_set_ne (by omega)]
theorem Vf {os xs ys : List Nat} {i c : Nat} (hi : i < xs.length) (hlo : os.length = xs.length + ys.length) (hv : val 4294967296 os + 4294967296 ^ (i + ys.length) * c = val 4294967296 (xs.take i) * val 4294967296 ys + 4294967296 ^ i * (xs[i] * val 4294967296 (ys.take ys.length))) (hz : os.drop (i + ys.length) = List.replicate (xs.length - i) 0) :
 val 4294967296 (os.set (i + ys.length) c) = val 4294967296 (xs.take (i + 1)) * val 4294967296 ys ∧ (os.set (i + ys.length) c).drop (i + 1 + ys.length) = List.replicate (xs.length - (i + 1)) 0:=by
 obtain ⟨z1,z2⟩:=iG hz (by omega);have h:=kR (B:=4294967296) (d:=c) (show i + ys.length < os.length by omega);rw [z1] at h;rw [List.take_length] at hv;refine ⟨?_,?_⟩
 · rw [cY hi]
   grind
 · rw [show i + 1 + ys.length = i + ys.length + 1 by omega,jN,z2]
   congr 1
theorem Rn {x y : Nat} (hx : x < 4294967296) (hy : y < 4294967296) : x * y ≤ 18446744065119617025:=by
 have:=Nat.mul_le_mul (Nat.le_sub_one_of_lt hx) (Nat.le_sub_one_of_lt hy);omega
theorem Vg {x y : Nat} (hx : x < 4294967296) (hy : y < 4294967296) : (0 : Int) ≤ (x : Int) * (y : Int) ∧ (x : Int) * (y : Int) ≤ 18446744065119617025:=by
 have h:=Rn hx hy;have e : ((x * y : Nat) : Int) = (x : Int) * (y : Int):=Int.natCast_mul x y;rw [← e];omega
/-! ### Shifts,divisions by a word -/
theorem sB {m n : Nat} (hn : n < 64) (h : m * 2 ^ n < 18446744073709551616) : IntKind.u64.wrap ((m : Int) * 2 ^ (min (n : Int).toNat IntKind.u64.bits)) = ((m * 2 ^ n : Nat) : Int):=by
 have e : min (n : Int).toNat IntKind.u64.bits = n:=by
  show min (n : Int).toNat 64 = n
  rw [Int.toNat_natCast]; omega
 rw [e];have e2 : ((m : Int) * 2 ^ n) = ((m * 2 ^ n : Nat) : Int):=by simp
 rw [e2];exact fX (by omega) (by omega)
theorem Vh {m n : Nat} (hn : n < 64) : (m : Int).fdiv (2 ^ (min (n : Int).toNat IntKind.u64.bits)) = ((m / 2 ^ n : Nat) : Int):=by
 have e : min (n : Int).toNat IntKind.u64.bits = n:=by
  show min (n : Int).toNat 64 = n
  rw [Int.toNat_natCast]; omega
 rw [e,Int.fdiv_eq_ediv_of_nonneg _ (by exact Int.le_of_lt (Int.pow_pos (by decide)))];simp
theorem Gj {a b s c : Nat} (ha : a < 2 ^ s) (hb : b = 2 ^ s * c) (h : a + b < 18446744073709551616) : IntKind.u64.wrap ((BitVec.ofInt IntKind.u64.bits (a : Int) ||| BitVec.ofInt IntKind.u64.bits (b : Int)).toNat : Int) = ((a + b : Nat) : Int):=by
 have e : (BitVec.ofInt 64 (a : Int) ||| BitVec.ofInt 64 (b : Int)).toNat = a + b:=by
  rw [BitVec.toNat_or];have e1 : (BitVec.ofInt 64 (a : Int)).toNat = a:=by simp [BitVec.toNat_ofInt]; omega
  have e2 : (BitVec.ofInt 64 (b : Int)).toNat = b:=by simp [BitVec.toNat_ofInt]; omega
  rw [e1,e2,Nat.or_comm,hb,← Nat.two_pow_add_eq_or_of_lt ha];omega
 show IntKind.u64.wrap ((BitVec.ofInt 64 (a : Int) ||| BitVec.ofInt 64 (b : Int)).toNat : Int) = _
 rw [e];exact fX (by omega) (by omega)
theorem zX {a b s c : Nat} (ha : a < 2 ^ s) (hb : b = 2 ^ s * c) (h : a + b < 18446744073709551616) : IntKind.u64.wrap ((BitVec.ofInt IntKind.u64.bits (b : Int) ||| BitVec.ofInt IntKind.u64.bits (a : Int)).toNat : Int) = ((a + b : Nat) : Int):=by
 have:=Gj ha hb h;rwa [BitVec.or_comm] at this
theorem zY {s : Nat} (h : s < 18446744073709551616) : IntKind.u64.wrap ((BitVec.ofInt IntKind.u64.bits (s : Int) &&& BitVec.ofInt IntKind.u64.bits 4294967295).toNat : Int) = ((s % 4294967296 : Nat) : Int):=by
 rw [nS (by omega) (by omega)];omega
theorem zZ {m n : Nat} (h : m < 18446744073709551616) : IntKind.u64.wrap ((m : Int).tdiv (n : Int)) = ((m / n : Nat) : Int):=by
 rw [← Int.ofNat_tdiv];have : m / n ≤ m:=Nat.div_le_self m n;generalize m / n = q at *
 exact fX (by omega) (by omega)
theorem kZ {m n : Nat} : (m : Int).tmod (n : Int) = ((m % n : Nat) : Int):=(Int.ofNat_tmod m n).symm
theorem jP {B : Nat} {xs : List Nat} {k : Nat} (hk : 0 < k) (h : k - 1 < xs.length) : val B (xs.drop (k - 1)) = xs[k - 1] + B * val B (xs.drop k):=by
 rw [List.drop_eq_getElem_cons h,show k - 1 + 1 = k by omega];rfl
theorem Io {os xs : List Nat} {k d r : Nat} (hk : 0 < k) (hkl : k ≤ xs.length) (hlo : os.length = xs.length) (hv : val 4294967296 (xs.drop k) = d * val 4294967296 (os.drop k) + r) (hr : r < d) (hdg : dD 4294967296 os) (hx : xs[k - 1] < 4294967296) :
 val 4294967296 (xs.drop (k - 1)) = d * val 4294967296 ((os.set (k - 1) ((xs[k - 1] + r * 4294967296) / d)).drop (k - 1)) + (xs[k - 1] + r * 4294967296) % d ∧ dD 4294967296 (os.set (k - 1) ((xs[k - 1] + r * 4294967296) / d)) ∧ (xs[k - 1] + r * 4294967296) % d < d:=by
 refine ⟨?_,hdg.set ?_,Nat.mod_lt _ (by omega)⟩
 · have e1:=jP (B:=4294967296) hk (show k - 1 < xs.length by omega)
   have e2:=jP (B:=4294967296) (xs:=os.set (k - 1) ((xs[k - 1] + r * 4294967296) / d)) hk (by simp; omega);have e3 : (os.set (k - 1) ((xs[k - 1] + r * 4294967296) / d)).drop k = os.drop k:=mD (by omega);rw [e1,e2,e3,List.getElem_set_self,hv];have:=Nat.div_add_mod (xs[k - 1] + r * 4294967296) d
   grind
 · have : (xs[k - 1] + r * 4294967296) / d < 4294967296:=by
    rw [Nat.div_lt_iff_lt_mul (by omega)];have : (r + 1) * 4294967296 ≤ d * 4294967296:=Nat.mul_le_mul_right _ hr;omega
   exact this
theorem vA {a d q r : Nat} (h0 : 0 < d) (hr : r < d) (h : a = d * q + r) : q = a / d ∧ r = a % d:=by
 subst h;constructor
 · rw [Nat.mul_add_div h0,Nat.div_eq_of_lt hr,Nat.add_zero]
 · rw [Nat.mul_add_mod,Nat.mod_eq_of_lt hr]
end Go.Lith
namespace Go.Lith
theorem Gk {m : Nat} : (m : Int).fdiv (2 ^ (min (32 : Int).toNat IntKind.u64.bits)) = ((m / 4294967296 : Nat) : Int):=by
 rw [Ef (by omega)];omega
theorem aaJ {m : Nat} : (m : Int).fdiv (2 ^ (min (31 : Int).toNat IntKind.u64.bits)) = ((m / 2147483648 : Nat) : Int):=by
 show (m : Int).fdiv (2 ^ 31) = _
 rw [Int.fdiv_eq_ediv_of_nonneg _ (by decide)];omega
theorem Aa {x n : Nat} (hn : n ≤ 32) : x * 2 ^ n % 4294967296 = 2 ^ n * (x % 2 ^ (32 - n)):=by
 have e : (4294967296 : Nat) = 2 ^ n * 2 ^ (32 - n):=by rw [← Nat.pow_add,show n + (32 - n) = 32 by omega]
 rw [Nat.mul_comm,e,Nat.mul_mod_mul_left]
theorem rF {n : Nat} (hn : n ≤ 32) : (4294967296 : Nat) = 2 ^ n * 2 ^ (32 - n):=by rw [← Nat.pow_add,show n + (32 - n) = 32 by omega]
theorem Ky {x n : Nat} (hn : n ≤ 32) (hx : x < 4294967296) : x * 2 ^ n < 18446744073709551616:=by
 have h1 : 2 ^ n ≤ 2 ^ 32:=Nat.pow_le_pow_right (by omega) hn;have h2 : x * 2 ^ n ≤ x * 2 ^ 32:=Nat.mul_le_mul_left _ h1;omega
theorem Ab {a x n : Nat} (hn : n ≤ 32) (ha : a < 2 ^ n) : a + x * 2 ^ n % 4294967296 < 4294967296:=by
 rw [Aa hn];have h1 : x % 2 ^ (32 - n) < 2 ^ (32 - n):=Nat.mod_lt _ (Nat.pow_pos (by omega));have h2 : 2 ^ n * (x % 2 ^ (32 - n) + 1) ≤ 2 ^ n * 2 ^ (32 - n):=Nat.mul_le_mul_left _ h1;rw [← rF hn,Nat.mul_add] at h2;omega
theorem Vi {x n : Nat} (hx : x < 4294967296) : x * 2 ^ n / 4294967296 < 2 ^ n:=by
 rw [Nat.div_lt_iff_lt_mul (by omega),Nat.mul_comm (2 ^ n)];exact Nat.mul_lt_mul_of_pos_right hx (Nat.pow_pos (by omega))
theorem Ip {os xs : List Nat} {i n : Nat} (hn : n ≤ 31) (hi : i < xs.length) (hlo : os.length = xs.length + 1) (hv : val 4294967296 os = 2 ^ n * val 4294967296 (xs.take i)) (hz : os.drop (i + 1) = List.replicate (xs.length - i) 0) (hd : dD 4294967296 os) (h1 : i < os.length) (hc : os[i] < 2 ^ n) (hx : xs[i] < 4294967296) :
 val 4294967296 ((os.set i (os[i] + xs[i] * 2 ^ n % 4294967296)).set (i + 1) (xs[i] * 2 ^ n / 4294967296)) = 2 ^ n * val 4294967296 (xs.take (i + 1)) ∧ ((os.set i (os[i] + xs[i] * 2 ^ n % 4294967296)).set (i + 1) (xs[i] * 2 ^ n / 4294967296)).drop (i + 1 + 1) = List.replicate (xs.length - (i + 1)) 0 ∧ dD 4294967296 ((os.set i (os[i] + xs[i] * 2 ^ n % 4294967296)).set (i + 1) (xs[i] * 2 ^ n / 4294967296)) ∧ (∀ h : i + 1 < ((os.set i (os[i] + xs[i] * 2 ^ n % 4294967296)).set (i + 1) (xs[i] * 2 ^ n / 4294967296)).length,((os.set i (os[i] + xs[i] * 2 ^ n % 4294967296)).set (i + 1) (xs[i] * 2 ^ n / 4294967296))[i + 1] < 2 ^ n):=by
 obtain ⟨z1,z2⟩:=iG hz (by omega);have ht:=Vi (n:=n) hx;have hf:=Ab (x:=xs[i]) (by omega) hc;have hp : 2 ^ n ≤ 2 ^ 32:=Nat.pow_le_pow_right (by omega) (by omega);refine ⟨?_,?_,(hd.set hf).set (by omega),?_⟩
 · have e1:=kR (B:=4294967296) (d:=os[i] + xs[i] * 2 ^ n % 4294967296) h1
   have e2:=kR (B:=4294967296) (os:=os.set i (os[i] + xs[i] * 2 ^ n % 4294967296)) (d:=xs[i] * 2 ^ n / 4294967296) (show i + 1 < _ by simp; omega);rw [List.getElem_set_ne (by omega),z1] at e2;rw [cY hi];have e3:=Nat.div_add_mod (xs[i] * 2 ^ n) 4294967296;generalize xs[i] * 2 ^ n / 4294967296 = t at *
   generalize hg : xs[i] * 2 ^ n % 4294967296 = r at *
   rw [Nat.pow_succ] at e2;have e4:=congrArg (4294967296 ^ i * ·) e3;simp only[Nat.mul_add] at e4 e1
   grind
 · rw [jN,mD (by omega),z2]
   congr 1
 · intro h
   rw [List.getElem_set_self];exact ht
theorem Ro {x n : Nat} (hn : n ≤ 32) (hx : x < 4294967296) : x / 2 ^ n < 2 ^ (32 - n):=by
 rw [Nat.div_lt_iff_lt_mul (Nat.pow_pos (by omega)),Nat.mul_comm,← rF hn];exact hx
theorem Dg {os xs : List Nat} {n : Nat} (hn : n ≤ 32) (hi : 0 < xs.length) (hlo : os.length = xs.length) (hv : val 4294967296 os = val 4294967296 (xs.take 0) / 2 ^ n) (hz : os.drop 0 = List.replicate (xs.length - 0) 0) (hd : dD 4294967296 os) (hx : xs[0] < 4294967296) :
 val 4294967296 (os.set 0 (xs[0] / 2 ^ n)) = val 4294967296 (xs.take (0 + 1)) / 2 ^ n ∧ (os.set 0 (xs[0] / 2 ^ n)).drop (0 + 1) = List.replicate (xs.length - (0 + 1)) 0 ∧ dD 4294967296 (os.set 0 (xs[0] / 2 ^ n)):=by
 obtain ⟨z1,z2⟩:=iG hz (by omega);refine ⟨?_,?_,hd.set (Nat.lt_of_le_of_lt (Nat.div_le_self _ _) hx)⟩
 · have e1:=kR (B:=4294967296) (d:=xs[0] / 2 ^ n) (show 0 < os.length by omega)
   rw [z1] at e1;rw [cY hi];simp only[List.take_zero,val,Nat.pow_zero,Nat.one_mul,Nat.zero_add] at hv e1 ⊢;rw [Nat.zero_div] at hv;omega
 · rw [jN,z2]
   congr 1
theorem Dh {V x i n : Nat} (hV : V < 4294967296 ^ (i + 1)) (hn : n ≤ 32) : (V + 4294967296 ^ (i + 1) * x) / 2 ^ n = V / 2 ^ n + 4294967296 ^ i * (2 ^ (32 - n) * x):=by
 have e : 4294967296 ^ (i + 1) * x = 2 ^ n * (4294967296 ^ i * (2 ^ (32 - n) * x)):=by
  rw [Nat.pow_succ];have:=rF hn;generalize 2 ^ n = p at *
  generalize 2 ^ (32 - n) = q at *
  rw [this]
  grind
 rw [e,Nat.add_mul_div_left _ _ (Nat.pow_pos (by omega))]
theorem Di {os xs : List Nat} {j n : Nat} (hn : n ≤ 32) (hi : j + 1 < xs.length) (hlo : os.length = xs.length) (hv : val 4294967296 os = val 4294967296 (xs.take (j + 1)) / 2 ^ n) (hz : os.drop (j + 1) = List.replicate (xs.length - (j + 1)) 0) (hd : dD 4294967296 os) (hdx : dD 4294967296 xs) (h1 : j < os.length) (hc : os[j] < 2 ^ (32 - n)) :
 val 4294967296 ((os.set (j + 1) (xs[j + 1] / 2 ^ n)).set j (os[j] + xs[j + 1] * 2 ^ (32 - n) % 4294967296)) = val 4294967296 (xs.take (j + 1 + 1)) / 2 ^ n ∧ ((os.set (j + 1) (xs[j + 1] / 2 ^ n)).set j (os[j] + xs[j + 1] * 2 ^ (32 - n) % 4294967296)).drop (j + 1 + 1) = List.replicate (xs.length - (j + 1 + 1)) 0 ∧ dD 4294967296 ((os.set (j + 1) (xs[j + 1] / 2 ^ n)).set j (os[j] + xs[j + 1] * 2 ^ (32 - n) % 4294967296)):=by
 obtain ⟨z1,z2⟩:=iG hz (by omega);have hx : xs[j + 1] < 4294967296:=hdx _ (List.getElem_mem hi);have hf:=Ab (x:=xs[j + 1]) (n:=32 - n) (by omega) hc;refine ⟨?_,?_,(hd.set (Nat.lt_of_le_of_lt (Nat.div_le_self _ _) hx)).set hf⟩
 · have e1:=kR (B:=4294967296) (d:=xs[j + 1] / 2 ^ n) (show j + 1 < os.length by omega)
   have e2:=kR (B:=4294967296) (os:=os.set (j + 1) (xs[j + 1] / 2 ^ n)) (j:=j) (d:=os[j] + xs[j + 1] * 2 ^ (32 - n) % 4294967296) (by simp; omega);rw [List.getElem_set_ne (by omega)] at e2;rw [z1] at e1;have hV:=jC (hdx.take (j + 1));rw [List.length_take,Nat.min_eq_left (by omega)] at hV;rw [cY hi,Dh hV hn,← hv];have e3 : 2 ^ (32 - n) * xs[j + 1] = 4294967296 * (xs[j + 1] / 2 ^ n) + xs[j + 1] * 2 ^ (32 - n) % 4294967296:=by
    rw [Aa (by omega),show 32 - (32 - n) = n by omega];have h3:=Nat.div_add_mod xs[j + 1] (2 ^ n);have:=rF hn;generalize 2 ^ n = p at *
    generalize 2 ^ (32 - n) = q at *
    conv=>lhs; rw [← h3]
    rw [this]
    grind
   rw [e3,Nat.mul_add];generalize xs[j + 1] * 2 ^ (32 - n) % 4294967296 = r at *
   generalize xs[j + 1] / 2 ^ n = t at *
   rw [Nat.pow_succ] at e1;simp only[Nat.mul_add] at e2
   grind
 · rw [mD (by omega),jN,z2]
   congr 1
/-! ### Slices of words -/
theorem eC.nil (w : World) : eC w none 0 0 []:=⟨rfl,fun i x hi=>by simp at hi,Nat.le_refl _,by omega,by simp,fun x hx=>by cases hx⟩
theorem eC.drop {w : World} {a : Addr} {n cap : Nat} {xs : List Nat} (h : eC w (some a) n cap xs) {k : Nat} (hk : k ≤ xs.length) {m : Nat} (hm : m = n - k) : eC w (some (a.add k)) m (cap - k) (xs.drop k):=by
 have hl:=h.len;have hc:=h.cap;have he:=h.eq;have hle:=h.le;refine ⟨by rw [hm,he]; simp,fun i x hi=>⟨_,rfl,?_⟩,by simp; omega,by omega,by simp; omega,fun x hx=>h.digs x (List.mem_of_mem_drop hx)⟩;obtain ⟨a',e,hcell⟩:=h.row (k + i) x (by rw [List.getElem?_drop] at hi; exact hi);cases e;rw [show (a.add k).add i = a.add (k + i) from ?_]
 · exact hcell
 · obtain ⟨g,off,ln⟩:=a
   by_cases hk0 : k = 0 <;> by_cases hi0 : i = 0 <;> simp [Addr.add,hk0,hi0,Nat.add_assoc]
theorem eC.head {w : World} {A : Option Addr} {n cap : Nat} {xs : List Nat} (h : eC w A n cap xs) {k : Nat} (hk : k ≤ xs.length) : eC w A k cap (xs.take k):=by
 have:=h.take k;rwa [List.length_take,Nat.min_eq_left hk] at this
theorem eC.words {w : World} {a : Addr} {n cap : Nat} {xs : List Nat} (h : eC w (some a) n cap xs) : qS w a (xs.map kO):=by
 intro j u hj;rw [List.getElem?_map] at hj;cases hq : xs[j]? with
 | none=>rw [hq] at hj; cases hj
 | some x =>
  rw [hq] at hj;cases hj;obtain ⟨a',e,hc⟩:=h.row j x hq;cases e;exact hc
theorem eC.of_owns {w : World} {base n : Nat} {v : Value} {xs : List Nat} {E : TypeId} (h : jT w base E 1 v n (xs.map kO)) (hn : n = xs.length) (hd : dD 4294967296 xs) (hl : n ≤ 17592186044416) : ∃ A c,v = .slice A n c ∧ eC w A n c xs:=by
 rcases h.row with ⟨rfl,h0,h1⟩ | ⟨g,cap,rfl,_,hc,hm,_,hr⟩
 · subst h0
   have : xs = []:=by simpa using h1
   subst this;exact ⟨_,_,rfl,eC.nil w⟩
 · refine ⟨_,_,rfl,hn,fun i x hi=>⟨_,rfl,hr i (kO x) (by rw [List.getElem?_map,hi]; rfl)⟩,by omega,hm,by omega,hd⟩
theorem eC.none {w : World} {n cap : Nat} {xs : List Nat} (h : eC w none n cap xs) : xs = []:=by
 cases xs with
 | nil=>rfl
 | cons x xs=>obtain ⟨a,e,_⟩:=h.row 0 x rfl; cases e
def Vj (xs : List Nat) (v : Value) (w : World) : Prop:=∃ A c,v = .slice A xs.length c ∧ eC w A xs.length c xs
end Go.Lith
namespace Go.Lith
theorem Rp {a b : Nat} : decide (Gi a b < 0) = decide (a < b):=by
 unfold Gi;split
 · simp [*]
 · split <;> simp [*]
theorem eC.src {w : World} {A : Option Addr} {n cap : Nat} {xs : List Nat} (h : eC w A n cap xs) : ∀ (j : Nat) (v : Value),(xs.map kO)[j]? = some v → ∃ a,A = some a ∧ w.cell? (a.add j) = some v:=by
 intro j v hj;rw [List.getElem?_map] at hj;cases hq : xs[j]? with
 | none=>rw [hq] at hj; cases hj
 | some x =>
  rw [hq] at hj;cases hj;exact h.row j x hq
theorem Rq {xs : List Nat} : ∀ u ∈ xs.map kO,u.oneCell' = true:=fun u hu=>by obtain ⟨x,_,rfl⟩:=List.mem_map.1 hu; rfl
theorem dR (n : Nat) : val 4294967296 (digs 4294967296 n) = n:=pC (by omega) n
theorem iJ (n : Nat) : gC (digs 4294967296 n):=mO (by omega) n
theorem yI (n : Nat) : dD 4294967296 (digs 4294967296 n):=rD (by omega) n
theorem mQ (d : Nat) : val 4294967296 [d] = d:=by simp [val]
theorem rG {d : Nat} (h : d < 4294967296) : dD 4294967296 [d]:=fun x hx=>by simp at hx; omega
theorem pF (xs : List Nat) : (trim xs).length ≤ xs.length:=by rw [iE]; simp; omega
theorem oA {xs : List Nat} (h : dD 4294967296 xs) : (digs 4294967296 (val 4294967296 xs)).length ≤ xs.length:=eO (by omega) (jC h)
theorem yV {xs : List Nat} {d : Nat} (h : dD 4294967296 xs) (hd : d < 4294967296) : (digs 4294967296 (val 4294967296 xs * d)).length ≤ xs.length + 1:=by
 refine eO (by omega) ?_;rw [Nat.pow_succ];exact Nat.mul_lt_mul'' (jC h) hd
def laid (os : List Nat) (off n m : Nat) : List Nat:=os.take off ++ (digs 4294967296 m ++ List.replicate (n - (digs 4294967296 m).length) 0) ++ os.drop (off + n)
theorem Iq {os : List Nat} {off n m : Nat} (h : off + n ≤ os.length) (hm : (digs 4294967296 m).length ≤ n) : (laid os off n m).length = os.length:=by
 simp [laid];omega
theorem tY {os : List Nat} {off n m : Nat} (hd : dD 4294967296 os) : dD 4294967296 (laid os off n m) :=
 ((hd.take _).append ((yI m).append fun x hx=>by rw [List.eq_of_mem_replicate hx]; decide)).append (hd.drop _)
theorem Rr {os : List Nat} {off n m : Nat} (h : off + n ≤ os.length) (hm : (digs 4294967296 m).length ≤ n) :
 val 4294967296 (laid os off n m) + 4294967296 ^ off * val 4294967296 ((os.drop off).take n) = val 4294967296 os + 4294967296 ^ off * m:=by
 have e1 : val 4294967296 os = val 4294967296 (os.take off) + 4294967296 ^ off * (val 4294967296 ((os.drop off).take n) + 4294967296 ^ n * val 4294967296 (os.drop (off + n))):=by
  have e : os = os.take off ++ ((os.drop off).take n ++ os.drop (off + n)):=by
   rw [← List.drop_drop,List.take_append_drop,List.take_append_drop]
  conv=>lhs; rw [e]
  rw [fI,fI];simp only[List.length_take,List.length_drop];rw [Nat.min_eq_left (by omega),Nat.min_eq_left (by omega)]
 have e2 : val 4294967296 (laid os off n m) = val 4294967296 (os.take off) + 4294967296 ^ off * (m + 4294967296 ^ n * val 4294967296 (os.drop (off + n))):=by
  unfold laid;rw [List.append_assoc,fI,fI,fI,gH,dR];simp only[List.length_take,List.length_append,List.length_replicate];rw [Nat.min_eq_left (by omega),show (digs 4294967296 m).length + (n - (digs 4294967296 m).length) = n by omega];simp
 rw [e1,e2]
 grind
theorem Og {cs us vs : List Value} {off : Nat} (h : off + us.length ≤ cs.length) (hm : vs.length ≤ us.length) : aX (aX cs off us) off vs = cs.take off ++ (vs ++ us.drop vs.length) ++ cs.drop (off + us.length):=by
 have hA : (cs.take off).length = off:=by simp; omega
 unfold aX;generalize cs.take off = A at *
 generalize cs.drop (off + us.length) = C at *
 subst hA;rw [List.append_assoc A us C,List.take_left' rfl,List.drop_append,List.drop_eq_nil_of_le (by omega),Nat.add_sub_cancel_left,List.drop_append_of_le_length hm];simp
theorem Oh {os : List Nat} {off n m : Nat} (h : off + n ≤ os.length) (hm : (digs 4294967296 m).length ≤ n) :
 aX (aX (os.map kO) off (List.replicate n (.int .u64 0))) off ((digs 4294967296 m).map kO) = (laid os off n m).map kO:=by
 rw [Og (by simpa using h) (by simpa using hm)];simp [laid,List.drop_replicate,kO,List.map_take,List.map_drop]
end Go.Lith
namespace Go.Lith
theorem qJ {B : Nat} (xs : List Nat) {k : Nat} (hk : k ≤ xs.length) : val B xs = val B (xs.take k) + B ^ k * val B (xs.drop k):=by
 conv=>lhs; rw [← List.take_append_drop k xs]
 rw [fI,List.length_take,Nat.min_eq_left hk]
theorem Rs {P U V two top q : Nat} (hP : 0 < P) (hU : U < (two + 1) * P) (hV : top * P ≤ V) (hq : q * V ≤ U) (ht : 0 < top) : q ≤ two / top:=by
 rw [Nat.le_div_iff_mul_le ht];have h1 : q * (top * P) ≤ q * V:=Nat.mul_le_mul_left _ hV;have h2 : (q * top) * P < (two + 1) * P:=by rw [Nat.mul_assoc]; omega
 have:=Nat.lt_of_mul_lt_mul_right h2;omega
theorem Rt {P U V two3 v2 q g : Nat} (hP : 0 < P) (hU : U < (two3 + 1) * P) (hV : v2 * P ≤ V) (hq : q * V ≤ U) (h : two3 < g * v2) : q < g:=by
 rcases Nat.lt_or_ge q g with hlt | hge
 · exact hlt
 · exfalso
   have h1 : g * (v2 * P) ≤ q * V:=Nat.mul_le_mul hge hV;have h2 : (g * v2) * P < (two3 + 1) * P:=by rw [Nat.mul_assoc]; omega
   have:=Nat.lt_of_mul_lt_mul_right h2;omega
theorem Ir {P U V two3 v2 q g : Nat} (hU : two3 * P ≤ U) (hV : V < (v2 + 1) * P) (hq : U < (q + 1) * V) (h : g * v2 ≤ two3) (hg : g ≤ v2) : g ≤ q + 1:=by
 rcases Nat.lt_or_ge (q + 1) g with hlt | hge
 · exfalso
   obtain ⟨e,rfl⟩ : ∃ e,g = e + 1:=⟨g - 1,by omega⟩
   have h1 : (q + 1) * V ≤ e * V:=Nat.mul_le_mul_right _ (by omega);have h2 : e * V ≤ e * ((v2 + 1) * P):=Nat.mul_le_mul_left _ (Nat.le_of_lt hV);have h3 : two3 * P < (e * (v2 + 1)) * P:=by rw [Nat.mul_assoc]; omega
   have h4:=Nat.lt_of_mul_lt_mul_right h3;rw [Nat.mul_add] at h4;rw [Nat.add_mul] at h;omega
 · exact hge
theorem Eh {U V q g : Nat} (hq : q * V ≤ U) (hq2 : U < (q + 1) * V) (h1 : q ≤ g) (h2 : g ≤ q + 1) : (U < V * g → g - 1 = q) ∧ (¬ U < V * g → g = q):=by
 constructor
 · intro h
   rcases Nat.lt_or_ge q g with hlt | hge
   · omega
   · have : V * g ≤ V * q:=Nat.mul_le_mul_left _ hge
     rw [Nat.mul_comm V q] at this;omega
 · intro h
   rcases Nat.lt_or_ge q g with hlt | hge
   · have : (q + 1) * V ≤ g * V:=Nat.mul_le_mul_right _ hlt
     rw [Nat.mul_comm V g] at h;omega
   · omega
theorem Dj {os : List Nat} {off n m : Nat} (h : off + n ≤ os.length) (hm : (digs 4294967296 m).length ≤ n) : val 4294967296 ((laid os off n m).drop off) = m + 4294967296 ^ n * val 4294967296 (os.drop (off + n)):=by
 have hA : (os.take off).length = off:=by simp; omega
 unfold laid;rw [List.append_assoc,List.drop_append,List.drop_eq_nil_of_le (by omega),hA,Nat.sub_self,List.drop_zero,List.nil_append,fI,fI,gH,dR];simp only[List.length_append,List.length_replicate];rw [show (digs 4294967296 m).length + (n - (digs 4294967296 m).length) = n by omega];simp
theorem Ei {us vs : List Nat} {i : Nat} (hd : dD 4294967296 vs) (hi : i + vs.length + 1 ≤ us.length) (hH : val 4294967296 (us.drop (i + 1)) < val 4294967296 vs) : val 4294967296 (us.drop (i + (vs.length + 1))) = 0:=by
 have h1:=jC hd;have h2:=qJ (B:=4294967296) (us.drop (i + 1)) (k:=vs.length) (by simp; omega);rw [List.drop_drop,show i + 1 + vs.length = i + (vs.length + 1) by omega] at h2;rcases Nat.eq_zero_or_pos (val 4294967296 (us.drop (i + (vs.length + 1)))) with h | h
 · exact h
 · have:=Nat.mul_le_mul_left (4294967296 ^ vs.length) h
   omega
theorem wD {us vs : List Nat} {i : Nat} (hd : dD 4294967296 vs) (hi : i + vs.length + 1 ≤ us.length) (hH : val 4294967296 (us.drop (i + 1)) < val 4294967296 vs) : val 4294967296 (us.drop i) = val 4294967296 ((us.drop i).take (vs.length + 1)):=by
 have h2:=qJ (B:=4294967296) (us.drop i) (k:=vs.length + 1) (by simp; omega);rw [List.drop_drop,Ei hd hi hH,Nat.mul_zero,Nat.add_zero] at h2;exact h2
theorem Vk {us vs : List Nat} {i : Nat} (hdu : dD 4294967296 us) (hi : i < us.length) (hH : val 4294967296 (us.drop (i + 1)) < val 4294967296 vs) : val 4294967296 (us.drop i) < 4294967296 * val 4294967296 vs:=by
 have e:=jP (B:=4294967296) (xs:=us) (k:=i + 1) (by omega) (by simpa using hi);simp only[Nat.add_sub_cancel] at e;have:=hdu us[i] (List.getElem_mem hi);omega
theorem Ru {us : List Nat} {j n : Nat} (hdu : dD 4294967296 us) (hn : 2 ≤ n) (h0 : j + n < us.length) :
 val 4294967296 ((us.drop j).take (n + 1)) = (us[j + n] * 4294967296 + us[j + n - 1]) * 4294967296 ^ (n - 1) + us[j + n - 2] * 4294967296 ^ (n - 2) + val 4294967296 ((us.drop j).take (n - 2)) ∧ val 4294967296 ((us.drop j).take (n - 2)) < 4294967296 ^ (n - 2):=by
 have hL : (us.drop j).length = us.length - j:=by simp
 have e1:=cY (B:=4294967296) (xs:=us.drop j) (i:=n) (by omega);have e2:=cY (B:=4294967296) (xs:=us.drop j) (i:=n - 1) (by omega);have e3:=cY (B:=4294967296) (xs:=us.drop j) (i:=n - 2) (by omega);rw [show n - 1 + 1 = n by omega] at e2;rw [show n - 2 + 1 = n - 1 by omega] at e3;simp only[List.getElem_drop] at e1 e2 e3;have x2 : us[j + (n - 1)] = us[j + n - 1]:=getElem_congr rfl (by omega) _;have x3 : us[j + (n - 2)] = us[j + n - 2]:=getElem_congr rfl (by omega) _;rw [x2] at e2;rw [x3] at e3;have hp : (4294967296 : Nat) ^ n = 4294967296 * 4294967296 ^ (n - 1):=by rw [← Nat.pow_succ']; congr 1; omega
 have hl:=jC ((hdu.drop j).take (n - 2));rw [List.length_take,Nat.min_eq_left (by omega)] at hl;refine ⟨?_,hl⟩;rw [e1,e2,e3,hp]
 grind
theorem pG {a b : Nat} : Gi a b < 0 ↔ a < b:=by
 have:=@Rp a b;simpa using this
theorem gZ.self {w : World} {A : Option Addr} {n c : Nat} {xs : List Nat} (h : eC w A n c xs) (t : gC xs) : gZ (val 4294967296 xs) (.slice A n c) w:=by
 have:=gZ.of_trim h rfl;rw [t] at this;rw [h.eq];exact this
theorem gZ.zero (w : World) : gZ 0 (.slice none 0 0) w:=⟨none,0,rfl,eC.nil w⟩
theorem tA {xs : List Nat} (t : gC xs) (h : 0 < xs.length) : 0 < xs[xs.length - 1]:=by
 rcases Nat.eq_zero_or_pos (xs[xs.length - 1]) with h0 | h0
 · exfalso
   have e:=xK (xs:=xs) (k:=xs.length) h (by omega);rw [List.take_length,h0] at e;have t2 : trim xs = trim (xs.take (xs.length - 1)):=by conv=>lhs; rw [e,mP]
   have t3 : (trim xs).length = xs.length:=by rw [t]
   have t4:=pF (xs.take (xs.length - 1));rw [← t2,t3] at t4;simp at t4;omega
 · exact h0
theorem pH {w : World} {g : Nat} {os : List Nat} (h : fW w g (os.map kO) 101) (hd : dD 4294967296 os) (hl : os.length ≤ 17592186044416) : eC w (some ⟨g,0,none⟩) (trim os).length os.length (trim os):=by
 have:=(h.nat hd rfl hl).take (trim os).length;rwa [← iE] at this
theorem Gl {ys : List Nat} (h : 0 < ys.length) : val 4294967296 ys = val 4294967296 (ys.take (ys.length - 1)) + 4294967296 ^ (ys.length - 1) * ys[ys.length - 1]:=by
 have e:=cY (B:=4294967296) (xs:=ys) (i:=ys.length - 1) (by omega);rw [show ys.length - 1 + 1 = ys.length by omega,List.take_length] at e;exact e
theorem Oi {vs ys : List Nat} {sh : Nat} (hdv : dD 4294967296 vs) (hvv : val 4294967296 vs = 2 ^ sh * val 4294967296 ys) (hdy : dD 4294967296 ys) (h : 0 < ys.length) (hsh : ys[ys.length - 1] * 2 ^ sh < 4294967296) (ht : 0 < ys[ys.length - 1]) (hs : sh ≤ 31) : (trim vs).length = ys.length:=by
 have e : trim vs = digs 4294967296 (2 ^ sh * val 4294967296 ys):=kA (by omega) hdv hvv;have hv:=Gl h;have hl:=jC (hdy.take (ys.length - 1));rw [List.length_take,Nat.min_eq_left (by omega)] at hl;have hp : 0 < 2 ^ sh:=Nat.pow_pos (by omega);have hsp:=rF (n:=sh) (by omega);have hB : (4294967296 : Nat) ^ ys.length = 4294967296 ^ (ys.length - 1) * 4294967296:=by rw [← Nat.pow_succ]; congr 1; omega
 have hQ : (trim vs).length < ys.length → (4294967296 : Nat) ^ (trim vs).length ≤ 4294967296 ^ (ys.length - 1):=fun h=>Nat.pow_le_pow_right (by omega) (by omega);generalize 4294967296 ^ (ys.length - 1) = Q at *
 generalize ys[ys.length - 1] = t at *
 generalize val 4294967296 (ys.take (ys.length - 1)) = l at *
 have h1 : t + 1 ≤ 2 ^ (32 - sh):=by
  rw [hsp,Nat.mul_comm] at hsh;exact Nat.lt_of_mul_lt_mul_left hsh
 have h2 : 2 ^ sh * (t + 1) ≤ 4294967296:=by rw [hsp]; exact Nat.mul_le_mul_left _ h1
 have h3 : val 4294967296 ys < Q * (t + 1):=by rw [hv,Nat.mul_add]; omega
 have h4 : 2 ^ sh * val 4294967296 ys < 4294967296 ^ ys.length:=by
  rw [hB]
  calc 2 ^ sh * val 4294967296 ys < 2 ^ sh * (Q * (t + 1)):=Nat.mul_lt_mul_of_pos_left h3 hp
   _ = Q * (2 ^ sh * (t + 1)):=by grind
   _ ≤ Q * 4294967296:=Nat.mul_le_mul_left _ h2
 have h5:=eO (by omega) h4;rw [← e] at h5;rcases Nat.lt_or_ge (trim vs).length ys.length with hlt | hge
 · exfalso
   have h6:=jC hdv.trim;rw [rC,hvv] at h6;have h7:=hQ hlt;have h8 : Q * 1 ≤ Q * t:=Nat.mul_le_mul_left _ ht;have h9 : 1 * val 4294967296 ys ≤ 2 ^ sh * val 4294967296 ys:=Nat.mul_le_mul_right _ hp;omega
 · omega
theorem Oj {ys : List Nat} {sh : Nat} (h : 0 < ys.length) (h31 : 2147483648 ≤ ys[ys.length - 1] * 2 ^ sh) : 2147483648 * 4294967296 ^ (ys.length - 1) ≤ 2 ^ sh * val 4294967296 ys:=by
 rw [Gl h];generalize 4294967296 ^ (ys.length - 1) = Q at *
 generalize ys[ys.length - 1] = t at *
 have h1 : 2147483648 * Q ≤ t * 2 ^ sh * Q:=Nat.mul_le_mul_right _ h31;rw [Nat.mul_add];have h2 : 2 ^ sh * (Q * t) = t * 2 ^ sh * Q:=by grind
 rw [h2];exact Nat.le_trans h1 (Nat.le_add_left _ _)
theorem Rv {us xs : List Nat} {sh l V : Nat} (hdx : dD 4294967296 xs) (hlu : us.length = xs.length + 1) (hvu : val 4294967296 us = 2 ^ sh * val 4294967296 xs) (hl : l ≤ xs.length) (h0 : 0 < l) (hs : sh ≤ 31) (hV : 2147483648 * 4294967296 ^ (l - 1) ≤ V) : val 4294967296 (us.drop (xs.length + 1 - l)) < V:=by
 have e:=qJ (B:=4294967296) us (k:=xs.length + 1 - l) (by omega);have hx:=jC hdx;have hp : (4294967296 : Nat) ^ xs.length = 4294967296 ^ (xs.length + 1 - l) * 4294967296 ^ (l - 1):=by rw [← Nat.pow_add]; congr 1; omega
 have hs2 : 2 ^ sh ≤ 2 ^ 31:=Nat.pow_le_pow_right (by omega) hs;rcases Nat.lt_or_ge (val 4294967296 (us.drop (xs.length + 1 - l))) V with h | h
 · exact h
 · exfalso
   generalize val 4294967296 (us.drop (xs.length + 1 - l)) = D at *
   generalize val 4294967296 (us.take (xs.length + 1 - l)) = T at *
   have h1 : 4294967296 ^ (xs.length + 1 - l) * (2147483648 * 4294967296 ^ (l - 1)) ≤ 4294967296 ^ (xs.length + 1 - l) * D:=Nat.mul_le_mul_left _ (Nat.le_trans hV h);have h2 : 4294967296 ^ (xs.length + 1 - l) * (2147483648 * 4294967296 ^ (l - 1)) = 2147483648 * 4294967296 ^ xs.length:=by rw [hp]; grind
   have h3 : 2 ^ sh * val 4294967296 xs ≤ 2147483648 * val 4294967296 xs:=Nat.mul_le_mul_right _ hs2;generalize 4294967296 ^ (xs.length + 1 - l) * D = Z at *
   rw [h2] at h1;generalize (4294967296 : Nat) ^ xs.length = W' at *
   omega
theorem Rw {X Y p u q : Nat} (hp : 0 < p) (h : u + q * (p * Y) = p * X) (hu : u < p * Y) : q = X / Y ∧ u / p = X % Y:=by
 have hY : 0 < Y:=by
  rcases Nat.eq_zero_or_pos Y with h0 | h0
  · subst h0; omega
  · exact h0
 have hd : p ∣ u:=by
  have h1 : p ∣ u + q * (p * Y):=h ▸ Nat.dvd_mul_right p X;have h2 : p ∣ q * (p * Y):=⟨q * Y,by grind⟩
  exact (Nat.dvd_add_iff_left h2).2 h1
 obtain ⟨r,rfl⟩:=hd;have h3 : p * (r + q * Y) = p * X:=by rw [← h]; grind
 have h4:=Nat.eq_of_mul_eq_mul_left hp h3;have h5:=Nat.lt_of_mul_lt_mul_left hu;rw [Nat.mul_div_cancel_left _ hp];have:=vA (a:=X) (q:=q) (r:=r) hY h5 (by rw [← h4]; grind);exact this
theorem aaK {vs : List Nat} (hd : dD 4294967296 vs) (h : 2 ≤ vs.length) : val 4294967296 vs = (vs[vs.length - 1] * 4294967296 + vs[vs.length - 2]) * 4294967296 ^ (vs.length - 2) + val 4294967296 (vs.take (vs.length - 2)) ∧ val 4294967296 (vs.take (vs.length - 2)) < 4294967296 ^ (vs.length - 2):=by
 have e1:=Gl (ys:=vs) (by omega);have e2:=cY (B:=4294967296) (xs:=vs) (i:=vs.length - 2) (by omega);rw [show vs.length - 2 + 1 = vs.length - 1 by omega] at e2;have hl:=jC (hd.take (vs.length - 2));rw [List.length_take,Nat.min_eq_left (by omega)] at hl;refine ⟨?_,hl⟩;have hp : (4294967296 : Nat) ^ (vs.length - 1) = 4294967296 * 4294967296 ^ (vs.length - 2):=by rw [← Nat.pow_succ']; congr 1; omega
 rw [e1,e2,hp]
 grind
theorem Ol {us ds : List Nat} {i two top sec a3 U : Nat} (hdu : dD 4294967296 us) (hdd : dD 4294967296 ds) (h2 : 2 ≤ ds.length) (hi : i + ds.length < us.length) (hH : val 4294967296 (us.drop (i + 1)) < val 4294967296 ds)
 (htwo : two = us[i + ds.length - 1] + us[i + ds.length] * 4294967296) (htop : top = ds[ds.length - 1]) (hsec : sec = ds[ds.length - 2]) (ha3 : a3 = us[i + ds.length - 2]) (hU : U = val 4294967296 (us.drop i)) :
 ∃ P,0 < P ∧ U < (two + 1) * (4294967296 * P) ∧ top * (4294967296 * P) ≤ val 4294967296 ds ∧ U < (two * 4294967296 + a3 + 1) * P ∧ (two * 4294967296 + a3) * P ≤ U ∧ (top * 4294967296 + sec) * P ≤ val 4294967296 ds ∧ val 4294967296 ds < (top * 4294967296 + sec + 1) * P ∧ U < 4294967296 * val 4294967296 ds:=by
 obtain ⟨hpt,hpl⟩:=Ru hdu h2 hi;obtain ⟨hvt,hvl⟩:=aaK hdd h2;have hUB:=Vk hdu (by omega) hH;rw [← wD hdd (by omega) hH,← hU] at hpt;rw [← hU] at hUB;have hp : (4294967296 : Nat) ^ (ds.length - 1) = 4294967296 * 4294967296 ^ (ds.length - 2):=by rw [← Nat.pow_succ']; congr 1; omega
 have ha : us[i + ds.length - 2] < 4294967296:=hdu _ (List.getElem_mem _);rw [hp,← ha3] at hpt;rw [← ha3] at ha;rw [← htop,← hsec] at hvt;rw [Nat.add_comm (us[i + ds.length] * 4294967296),← htwo] at hpt;refine ⟨4294967296 ^ (ds.length - 2),Nat.pow_pos (by decide),?_⟩;generalize (4294967296 : Nat) ^ (ds.length - 2) = P at *
 generalize val 4294967296 ((us.drop i).take (ds.length - 2)) = lu at *
 generalize val 4294967296 (ds.take (ds.length - 2)) = ld at *
 generalize val 4294967296 ds = V at *
 have h3 : (a3 + 1) * P ≤ 4294967296 * P:=Nat.mul_le_mul_right _ ha;have e1 : (two * 4294967296 + a3) * P = two * (4294967296 * P) + a3 * P:=by grind
 have e2 : (top * 4294967296 + sec) * P = top * (4294967296 * P) + sec * P:=by grind
 rw [Nat.add_mul,Nat.one_mul] at h3;refine ⟨?_,?_,?_,?_,?_,?_,hUB⟩
 · rw [Nat.add_mul,Nat.one_mul]; omega
 · rw [hvt,e2]; omega
 · rw [Nat.add_mul,e1]; omega
 · rw [e1]; omega
 · rw [hvt]; omega
 · rw [hvt,Nat.add_mul (top * 4294967296 + sec)]; omega
theorem Vl {a b : Nat} (h : a * b < 18446744073709551616) : IntKind.u64.wrap ((a : Int) * (b : Int)) = ((a * b : Nat) : Int):=by
 rw [← Int.natCast_mul];generalize a * b = c at *
 exact fX (by omega) (by omega)
theorem Kz {g r top sec two a3 : Nat} (h : g * top + r = two) (hx : a3 + r * 4294967296 < g * sec) : two * 4294967296 + a3 < g * (top * 4294967296 + sec):=by
 subst h;have : g * (top * 4294967296 + sec) = g * top * 4294967296 + g * sec:=by grind
 rw [this,Nat.add_mul];omega
theorem Bb {g r top sec two a3 : Nat} (h : g * top + r = two) (hx : g * sec ≤ a3 + r * 4294967296) : g * (top * 4294967296 + sec) ≤ two * 4294967296 + a3:=by
 subst h;have : g * (top * 4294967296 + sec) = g * top * 4294967296 + g * sec:=by grind
 rw [this,Nat.add_mul];omega
theorem Rx {g s r a : Nat} (hg : g < 4294967296) (hs : s < 4294967296) (hr : 4294967296 ≤ r) : g * s ≤ a + r * 4294967296:=by
 have h1 : g * s ≤ 4294967296 * 4294967296:=Nat.mul_le_mul (by omega) (by omega);omega
theorem tZ {g q cap : Nat} (h : ¬ cap = q) : (if cap = q then some (⟨g,0,none⟩ : Addr) else (some (⟨g,0,none⟩ : Addr)).map (·.add (q * 1))) = some ⟨g,q,none⟩:=by
 rw [if_neg h];simp [fN]
theorem uA {us qs ds : List Nat} {i q U S : Nat} (hdd : dD 4294967296 ds) (hdu : dD 4294967296 us) (hi : i + ds.length < us.length) (hH : val 4294967296 (us.drop (i + 1)) < val 4294967296 ds) (hU : U = val 4294967296 (us.drop i)) (hq1 : q * val 4294967296 ds ≤ U) (hq2 : U < (q + 1) * val 4294967296 ds) (hI : val 4294967296 us + val 4294967296 qs * val 4294967296 ds = S) (hz : qs.take (i + 1) = List.replicate (i + 1) 0) (hiq : i < qs.length) :
 val 4294967296 (laid us i (ds.length + 1) (val 4294967296 ((us.drop i).take (ds.length + 1)) - val 4294967296 ds * q)) + val 4294967296 (qs.set i q) * val 4294967296 ds = S ∧ val 4294967296 ((laid us i (ds.length + 1) (val 4294967296 ((us.drop i).take (ds.length + 1)) - val 4294967296 ds * q)).drop i) < val 4294967296 ds ∧ (qs.set i q).take i = List.replicate i 0 ∧ (laid us i (ds.length + 1) (val 4294967296 ((us.drop i).take (ds.length + 1)) - val 4294967296 ds * q)).length = us.length:=by
 have hp:=wD hdd (by omega) hH;rw [← hp,← hU];have hm : (digs 4294967296 (U - val 4294967296 ds * q)).length ≤ ds.length + 1:=by
  refine eO (by omega) (Nat.lt_of_le_of_lt (Nat.sub_le _ _) ?_);have h:=jC ((hdu.drop i).take (ds.length + 1));rw [List.length_take,Nat.min_eq_left (by simp; omega),← hp,← hU] at h;exact h
 have hqc : q * val 4294967296 ds = val 4294967296 ds * q:=Nat.mul_comm _ _;refine ⟨?_,?_,?_,Iq (by omega) hm⟩
 · have e1:=Rr (os:=us) (off:=i) (n:=ds.length + 1) (m:=U - val 4294967296 ds * q) (by omega) hm
   rw [← hp,← hU] at e1;have e2:=kR (B:=4294967296) (os:=qs) (j:=i) (d:=q) hiq;have e3 : qs[i] = 0:=by
    have h:=congrArg (fun l=>l[i]?) hz;simp only[List.getElem?_take] at h;rw [if_pos (by omega),List.getElem?_eq_getElem hiq,List.getElem?_replicate,if_pos (by omega)] at h;exact Option.some.inj h
   rw [e3,Nat.mul_zero,Nat.add_zero] at e2;rw [e2,← hI];obtain ⟨r,hr⟩ : ∃ r,U = val 4294967296 ds * q + r:=⟨U - val 4294967296 ds * q,by omega⟩
   rw [hr] at e1 ⊢;rw [Nat.add_sub_cancel_left] at e1 ⊢;generalize val 4294967296 (laid us i (ds.length + 1) r) = L at *
   generalize (4294967296 : Nat) ^ i = Q at *
   generalize val 4294967296 ds = V at *
   generalize val 4294967296 us = W' at *
   generalize val 4294967296 qs = Z at *
   grind
 · rw [Dj (by omega) hm,Ei hdd (by omega) hH,Nat.mul_zero,Nat.add_zero]
   rw [Nat.add_mul,Nat.one_mul] at hq2;omega
 · rw [List.take_set_of_le (Nat.le_refl i)]
   have h:=congrArg (List.take i) hz;rw [List.take_take,Nat.min_eq_left (by omega),List.take_replicate,Nat.min_eq_left (by omega)] at h;exact h
end Go.Lith
namespace Go.Lith
theorem Gm {r : Nat} (h : r ≤ 4) : (4294967296 : Nat) = 256 ^ r * 256 ^ (4 - r):=by rw [← Nat.pow_add,show r + (4 - r) = 4 by omega]
theorem Bc (r : Nat) : (256 : Nat) ^ r = 2 ^ (8 * r):=by rw [show 256 = 2 ^ 8 from rfl,← Nat.pow_mul]
theorem Ry {x b r : Nat} (hr : r < 4) (hx : x < 4294967296) (hd : 256 ^ (r + 1) ∣ x) (hb : b < 256) : x + b * 256 ^ r < 4294967296:=by
 obtain ⟨c,rfl⟩:=hd;have e:=Gm (r:=r + 1) (by omega);rw [e] at hx ⊢;have h1:=Nat.lt_of_mul_lt_mul_left hx;have h2 : 256 ^ (r + 1) * (c + 1) ≤ 256 ^ (r + 1) * 256 ^ (4 - (r + 1)):=Nat.mul_le_mul_left _ h1;rw [Nat.mul_add,Nat.mul_one] at h2;have h3 : (b + 1) * 256 ^ r ≤ 256 * 256 ^ r:=Nat.mul_le_mul_right _ hb;have h4 : (256 : Nat) ^ (r + 1) = 256 * 256 ^ r:=Nat.pow_succ';have h5 : 0 < (256 : Nat) ^ r:=Nat.pow_pos (by omega);rw [Nat.add_mul,Nat.one_mul] at h3;generalize 256 ^ (r + 1) * 256 ^ (4 - (r + 1)) = Z at *
 generalize 256 ^ (r + 1) * c = Y at *
 omega
theorem Om {os bs : List Nat} {p j r : Nat} (hp : p < bs.length) (hpj : p = 4 * j + r) (hr : r < 4) (hj : j < os.length) (hd : dD 4294967296 os) (hb : dD 256 bs) (hdv : ∀ (i : Nat) (h : i < os.length),256 ^ (p + 1 - 4 * i) ∣ os[i]) (hv : val 4294967296 os = 256 ^ (p + 1) * val 256 (bs.drop (p + 1))) :
 os[j] + bs[p] * 256 ^ r < 4294967296 ∧ 256 ^ (r + 1) ∣ os[j] ∧ (∀ (i : Nat) (h : i < (os.set j (os[j] + bs[p] * 256 ^ r)).length),256 ^ (p - 4 * i) ∣ (os.set j (os[j] + bs[p] * 256 ^ r))[i]) ∧ val 4294967296 (os.set j (os[j] + bs[p] * 256 ^ r)) = 256 ^ p * val 256 (bs.drop p):=by
 have h1:=hdv j hj;rw [show p + 1 - 4 * j = r + 1 by omega] at h1;have hx:=hd _ (List.getElem_mem hj);have hby:=hb _ (List.getElem_mem hp);refine ⟨Ry hr hx h1 hby,h1,?_,?_⟩
 · intro i h
   by_cases e : i = j
   · subst e
     rw [List.getElem_set_self,show p - 4 * i = r by omega];exact Nat.dvd_add (Nat.dvd_trans (Nat.pow_dvd_pow 256 (by omega)) h1) (Nat.dvd_mul_left _ _)
   · rw [List.getElem_set_ne (by omega)]
     exact Nat.dvd_trans (Nat.pow_dvd_pow 256 (by omega)) (hdv i (by simpa using h))
 · have e1:=kR (B:=4294967296) (os:=os) (j:=j) (d:=os[j] + bs[p] * 256 ^ r) hj
   have e2:=jP (B:=256) (xs:=bs) (k:=p + 1) (by omega) (by simpa using hp);simp only[Nat.add_sub_cancel] at e2;have e3 : (4294967296 : Nat) ^ j * 256 ^ r = 256 ^ p:=by
    rw [show (4294967296 : Nat) = 256 ^ 4 from rfl,← Nat.pow_mul,← Nat.pow_add,hpj]
   rw [e2,← e3];rw [Nat.pow_succ,← e3] at hv;generalize (4294967296 : Nat) ^ j = Q at *
   generalize (256 : Nat) ^ r = R at *
   generalize val 256 (bs.drop (p + 1)) = D at *
   generalize val 4294967296 (os.set j (os[j] + bs[p] * R)) = L at *
   generalize val 4294967296 os = M at *
   subst hv
   grind
end Go.Lith
namespace Go.Lith
def lX (s : ByteArray) : List Nat:=s.data.toList.reverse.map UInt8.toNat
def Vm (s : ByteArray) : Nat:=val 256 (lX s)
theorem tB (s : ByteArray) : s.data.toList.length = s.size:=Array.length_toList
theorem qK (s : ByteArray) : (lX s).length = s.size:=by simp only[lX,List.length_map,List.length_reverse,tB]
theorem yJ (s : ByteArray) : dD 256 (lX s):=fun x hx=>by
 obtain ⟨b,_,rfl⟩:=List.mem_map.1 hx;exact b.toNat_lt
theorem uP (s : ByteArray) (i : Nat) : s[i]? = s.data.toList[i]?:=by
 by_cases h : i < s.size
 · rw [getElem?_pos s i h,List.getElem?_eq_getElem (by rw [tB]; omega)]
   rfl
 · rw [getElem?_neg s i h,List.getElem?_eq_none (by rw [tB]; omega)]
theorem vB {s : ByteArray} {i p : Nat} (h : p + 1 + i = s.size) : ∃ b,s[i]? = some b ∧ ∃ hp : p < (lX s).length,(lX s)[p] = b.toNat:=by
 have hs:=tB s;have hi : i < s.data.toList.length:=by omega
 refine ⟨s.data.toList[i],by rw [uP]; exact List.getElem?_eq_getElem hi,by rw [qK]; omega,?_⟩;simp only[lX,List.getElem_map,List.getElem_reverse]
 congr 2
 omega
theorem fE (n : Int) : Vm (cX n) = n.natAbs:=by
 have e : lX (cX n) = digs 256 n.natAbs:=by
  simp only[lX,cX,sA,List.reverse_reverse,← List.map_reverse,List.map_map];have hd : dD 256 (digs 256 n.natAbs):=rD (by omega) _;have : ∀ l : List Nat,dD 256 l → l.map (UInt8.toNat ∘ UInt8.ofNat) = l:=by
   intro l hl;refine (List.map_congr_left fun x hx=>?_).trans (List.map_id l);simp only[Function.comp_apply,id_eq,UInt8.toNat_ofNat'];exact Nat.mod_eq_of_lt (hl x hx)
  exact this _ hd
 rw [Vm,e,pC (by omega)]
theorem mR {m n : Nat} (h : m < 9223372036854775808) : IntKind.i64.wrap ((m : Int).tdiv (n : Int)) = ((m / n : Nat) : Int):=by
 rw [← Int.ofNat_tdiv];have : m / n ≤ m:=Nat.div_le_self m n;exact aQ (by have:=Int.natCast_nonneg (m / n); omega) (by omega)
theorem Rz {xs : List Nat} {n : Nat} (h : xs.length ≤ n) : val 256 (xs.drop n) = 0:=by rw [List.drop_of_length_le h]; rfl
end Go.Lith
namespace Go.Lith
def lD (l : List UInt8) : ByteArray:=⟨l.toArray⟩
theorem mS (l : List UInt8) : (lD l).data.toList = l:=by simp [lD]
theorem On {l k : List UInt8} (h : lD l = lD k) : l = k:=by rw [← mS l,h,mS]
theorem vC (l : List UInt8) : (lD l).size = l.length:=by rw [← tB,mS]
theorem Oo (l : List UInt8) (i : Nat) : (lD l)[i]? = l[i]?:=by rw [uP,mS]
theorem La (l : List UInt8) (n : Nat) : (lD l).extract n (lD l).size = lD (l.drop n):=by
 apply ByteArray.ext;rw [ByteArray.data_extract];apply Array.ext';rw [Array.toList_extract,mS,vC];simp only[lD,List.extract_eq_take_drop,List.toList_toArray];exact List.take_of_length_le (by simp)
theorem Is (l : List UInt8) : (lD l = ⟨#[]⟩) = (l = []):=by
 apply propext;constructor
 · intro h
   exact On (k:=[]) h
 · rintro rfl; rfl
def iN (l : List UInt8) : List UInt8:=l.dropWhile (· == 0)
theorem Lb {l : List UInt8} {b : UInt8} (h : l[0]? = some b) (hb : b.toNat = 0) : iN (l.drop 1) = iN l:=by
 cases l with
 | nil=>cases h
 | cons c l =>
  simp at h;subst h;have : c = 0:=UInt8.toNat_inj.1 hb;subst this;simp [iN]
theorem Lc {l : List UInt8} {b : UInt8} (h : l[0]? = some b) (hb : ¬ b.toNat = 0) : iN l = l:=by
 cases l with
 | nil=>rfl
 | cons c l =>
  simp at h;subst h;have : ¬ c = 0:=fun e=>hb (by rw [e]; rfl);simp [iN,this]
theorem Oq : iN [] = []:=rfl
end Go.Lith
namespace Go.Lith
open Go.RowKit
section
variable {P : Program} {ds : List Deferred} {l : List Value} {x y z0 : Operand} {T T' ty : TypeId}
abbrev Vn (b : UInt8) : Value:=.int .u8 (b.toNat : Int)
theorem Be {w : World} {base n : Nat} {E : TypeId} {v : Value} {bs : List UInt8} (hs : P.underlying T = some (.slice E)) (he : P.underlying E = some (.int .u8)) (hd : P.underlying T' = some .string) (hx : ev l x = v) (hown : jT w base E 1 v n (bs.map Vn)) :
 Am P l (.convert T T' x) ty (.string (lD bs)) w:=fun o ho _=>by
 have hn : bs.length = n:=by have:=hown.1; simpa using this
 rcases hown.row with ⟨rfl,rfl,h⟩ | ⟨g,cap,rfl,_,_,_,_,hr⟩
 · obtain rfl : bs = []:=by simpa using h
   simp only[execOp,ho,dH,hx];rw [Sem.run_bind,run_convert_bytes_nil w T E hs he 0 0 T' hd];rfl
 · subst hn
   have:=run_convert_bytes_back (P:=P) w T T' E ⟨g,0,none⟩ cap bs hs he hd (fun j hj=>hr j _ (by simp [hj]));simp only[execOp,ho,dH,hx];rw [Sem.run_bind,this];rfl
end
structure Sa (w : World) (D : Nat) : Prop where
 h : w.heap[D]? = some (.deferred (some []))
theorem Sa.ext {w w' : World} {D : Nat} (h : Sa w D) (hE : dL w w') : Sa w' D:=⟨hE.block h.h⟩
theorem Sa.ne {w : World} {D g : Nat} {cs : List Value} {t : TypeId} (h : Sa w D) (hB : fW w g cs t) : D ≠ g:=fun e=>by
 subst e;have:=h.h;rw [hB] at this;cases this
theorem Sa.chg {w w' : World} {D g : Nat} (h : Sa w D) (hC : Mm w w' g) (hne : D ≠ g) : Sa w' D:=⟨(hC.block D hne).trans h.h⟩
theorem fW.putD {w : World} {D g : Nat} {cs : List Value} {t : TypeId} (hB : fW w g cs t) (h : Sa w D) {o : Obj} : fW (w.putObj D o) g cs t:=(World.putObj_heap_other (Ne.symm (h.ne hB))).trans hB
theorem dL.putD {w0 w : World} {D : Nat} (hX : dL w0 w) (hD : w0.heap.size ≤ D) {o : Obj} : dL w0 (w.putObj D o) :=
 ⟨hX.os,hX.tape,hX.output,by rw [World.putObj_size]; exact hX.size,fun k hk=>(World.putObj_heap_other (by omega)).trans (Below.block hX k hk)⟩
theorem acR {P : Program} {l : List Value} {n : Nat} {fn : Func} {R : Ending → World → Prop} {D : Nat} {w : World} (hK : Sa w D) (h : bodyPost P fn R .ret (Fr l) (w.putObj D (.deferred none))) :
 bodyPostM Fence.wide n P fn R .ret (Fr l [{ target:=.collected D,args:=#[] }]) w:=by
 refine ⟨by simp,.inl ⟨D,_,rfl,run_takeDeferred hK.h,?_⟩⟩;obtain ⟨_,v,hv,hR⟩:=h;exact ⟨v,hv,hR⟩
end Go.Lith
namespace Go.Lith
def wb (x : Nat) : List UInt8:=[UInt8.ofNat (x / 16777216),UInt8.ofNat (x / 65536),UInt8.ofNat (x / 256),UInt8.ofNat x]
def Iu (l : List (Nat × Nat)) : List UInt8:=l.flatMap fun x=>wb x.2
theorem Sb (l : List (Nat × Nat)) (x : Nat × Nat) : Iu (l ++ [x]) = Iu l ++ wb x.2:=by simp [Iu]
theorem Bf (l : List (Nat × Nat)) : (Iu l).length = 4 * l.length:=by
 induction l with
 | nil=>rfl
 | cons x l ih=>rw [Iu,List.flatMap_cons,List.length_append]; rw [Iu] at ih; rw [ih]; simp [wb]; omega
def Bg (neg : Bool) (n : Nat) : Int:=if neg then -(n : Int) else n
theorem vD (neg : Bool) (n : Nat) : (Bg neg n).natAbs = n:=by cases neg <;> simp [Bg]
theorem Gn (neg : Bool) (n : Nat) : cN (Bg neg n) = (neg && decide (n ≠ 0)):=by
 cases neg
 · simp [Bg,cN]
 · rcases Nat.eq_zero_or_pos n with h | h
   · subst h; rfl
   · have h2 : n ≠ 0:=by omega
     simp [Bg,cN,h,h2]
theorem Dk (ys : List Nat) (h : dD 4294967296 ys) : val 256 (((ys.reverse.flatMap wb).reverse).map UInt8.toNat) = val 4294967296 ys ∧ dD 256 (((ys.reverse.flatMap wb).reverse).map UInt8.toNat):=by
 induction ys with
 | nil=>exact ⟨rfl,fun _ h=>by cases h⟩
 | cons y ys ih =>
  have hy:=h y (by simp);obtain ⟨i1,i2⟩:=ih (fun x hx=>h x (by simp [hx]));have e : (((y :: ys).reverse.flatMap wb).reverse).map UInt8.toNat = [y % 256,y / 256 % 256,y / 65536 % 256,y / 16777216 % 256] ++ (((ys.reverse.flatMap wb).reverse).map UInt8.toNat):=by
   simp [List.flatMap_append,wb,UInt8.toNat_ofNat']
  rw [e];refine ⟨?_,?_⟩
  · rw [fI,i1]
    simp only[val,List.length_cons,List.length_nil];omega
  · refine dD.append ?_ i2
    intro x hx;simp at hx;omega
theorem yK {l : List UInt8} : iN l = ((trim ((l.reverse).map UInt8.toNat)).reverse).map UInt8.ofNat:=by
 induction l with
 | nil=>rfl
 | cons b l ih =>
  have hk : ∀ k : List Nat,∀ x : Nat,trim (k ++ [x]) = if x = 0 then trim k else k ++ [x]:=fun k x=>by
   split
   · rename_i h; subst h; exact mP k
   · rename_i h; exact qI h k
  rw [List.reverse_cons,List.map_append,List.map_cons,List.map_nil,hk];by_cases hb : b = 0
  · subst hb
    rw [if_pos (show UInt8.toNat 0 = 0 from rfl),← ih];simp [iN]
  · have hb' : ¬ b.toNat = 0:=fun e=>hb (UInt8.toNat_inj.1 e)
    rw [if_neg hb'];simp [iN,hb,Function.comp_def]
theorem Ld {ys : List Nat} (h : dD 4294967296 ys) (neg : Bool) : lD (iN (ys.reverse.flatMap wb)) = cX (Bg neg (val 4294967296 ys)):=by
 obtain ⟨h1,h2⟩:=Dk ys h;rw [yK,kA (by omega) h2 h1,cX,vD,sA];rfl
theorem Bh {neg : Bool} {n : Nat} : (cX (Bg neg n) = ⟨#[]⟩) ↔ n = 0:=by
 constructor
 · intro h
   have:=Ed (Bg neg n);rw [h,vD] at this;have h0 : digs 256 n = []:=List.eq_nil_of_length_eq_zero this.symm;exact (mA (by omega)).1 h0
 · rintro rfl
   cases neg <;> rfl
end Go.Lith
namespace Go.Lith
class Bw (k : outParam Nat) (n : Int) : Prop where
 h : Bd k n
instance {a b : Nat} {m n : Int} [x : Bw a m] [y : Bw b n] : Bw (max a b + 1) (m + n):=⟨x.h.add y.h⟩
instance {a b : Nat} {m n : Int} [x : Bw a m] [y : Bw b n] : Bw (max a b + 1) (m - n):=⟨x.h.sub y.h⟩
instance {a b : Nat} {m n : Int} [x : Bw a m] [y : Bw b n] : Bw (a + b) (m * n):=⟨x.h.mul y.h⟩
instance : Bw 1 0:=⟨iY 1⟩
theorem xM {n : Int} (h : cN n = true) : n < 0:=of_decide_eq_true h
theorem vE {n : Int} (h : cN n = false) : 0 ≤ n:=Int.not_lt.1 (of_decide_eq_false h)
theorem natAbs_neg {n : Int} (h : cN n = true) : (n.natAbs : Int) = -n:=by have:=xM h; omega
theorem gP {n : Int} (h : cN n = false) : (n.natAbs : Int) = n:=by have:=vE h; omega
theorem rH (n : Nat) : Bg true n = -(n : Int):=rfl
theorem mE (n : Nat) : Bg false n = (n : Int):=rfl
theorem wE (a : Int) : Bg (cN a) a.natAbs = a:=by
 cases h : cN a
 · rw [mE,gP h]
 · rw [rH,natAbs_neg h]; omega
theorem Mq (a : Int) : Bg (!cN a) a.natAbs = -a:=by
 cases h : cN a
 · rw [Bool.not_false,rH,gP h]
 · rw [Bool.not_true,mE,natAbs_neg h]
theorem Mr {a b : Int} (h : cN a = cN b) : Bg (cN a) (a.natAbs + b.natAbs) = a + b:=by
 cases ha : cN a <;> rw [ha] at h
 · have h1:=gP ha; have h2:=gP h.symm; rw [mE]; omega
 · have h1:=natAbs_neg ha; have h2:=natAbs_neg h.symm; rw [rH]; omega
theorem Sc {a b : Int} (h : ¬ cN a = cN b) (hl : a.natAbs < b.natAbs) : Bg (cN b) (b.natAbs - a.natAbs) = a + b:=by
 cases ha : cN a <;> cases hb : cN b <;> rw [ha,hb] at h
 · exact absurd rfl h
 · have h1:=gP ha; have h2:=natAbs_neg hb; rw [rH]; omega
 · have h1:=natAbs_neg ha; have h2:=gP hb; rw [mE]; omega
 · exact absurd rfl h
theorem Sd {a b : Int} (h : ¬ cN a = cN b) (hl : b.natAbs ≤ a.natAbs) : Bg (cN a) (a.natAbs - b.natAbs) = a + b:=by
 cases ha : cN a <;> cases hb : cN b <;> rw [ha,hb] at h
 · exact absurd rfl h
 · have h1:=gP ha; have h2:=natAbs_neg hb; rw [mE]; omega
 · have h1:=natAbs_neg ha; have h2:=gP hb; rw [rH]; omega
 · exact absurd rfl h
theorem Ms {a b : Int} : Bg (decide (¬ cN a = cN b)) (a.natAbs * b.natAbs) = a * b:=by
 cases ha : cN a <;> cases hb : cN b
 · have h1:=gP ha; have h2:=gP hb
   show ((a.natAbs * b.natAbs : Nat) : Int) = _
   rw [Int.natCast_mul,h1,h2]
 · have h1:=gP ha; have h2:=natAbs_neg hb
   show -((a.natAbs * b.natAbs : Nat) : Int) = _
   rw [Int.natCast_mul,h1,h2,Int.mul_neg,Int.neg_neg]
 · have h1:=natAbs_neg ha; have h2:=gP hb
   show -((a.natAbs * b.natAbs : Nat) : Int) = _
   rw [Int.natCast_mul,h1,h2,Int.neg_mul,Int.neg_neg]
 · have h1:=natAbs_neg ha; have h2:=natAbs_neg hb
   show ((a.natAbs * b.natAbs : Nat) : Int) = _
   rw [Int.natCast_mul,h1,h2,Int.neg_mul_neg]
theorem Mt {a b : Int} : Bg (decide (¬ cN a = cN b)) (a.natAbs / b.natAbs) = a.tdiv b:=by
 cases ha : cN a <;> cases hb : cN b
 · have h1:=gP ha; have h2:=gP hb
   show ((a.natAbs / b.natAbs : Nat) : Int) = _
   rw [Int.ofNat_tdiv,h1,h2]
 · have h1:=gP ha; have h2:=natAbs_neg hb
   show -((a.natAbs / b.natAbs : Nat) : Int) = _
   rw [Int.ofNat_tdiv,h1,h2,Int.tdiv_neg,Int.neg_neg]
 · have h1:=natAbs_neg ha; have h2:=gP hb
   show -((a.natAbs / b.natAbs : Nat) : Int) = _
   rw [Int.ofNat_tdiv,h1,h2,Int.neg_tdiv,Int.neg_neg]
 · have h1:=natAbs_neg ha; have h2:=natAbs_neg hb
   show ((a.natAbs / b.natAbs : Nat) : Int) = _
   rw [Int.ofNat_tdiv,h1,h2,Int.neg_tdiv,Int.tdiv_neg,Int.neg_neg]
theorem Mu {a b : Int} : Bg (cN a) (a.natAbs % b.natAbs) = a.tmod b:=by
 have hb : a.tmod b = a.tmod (b.natAbs : Int):=by
  rcases Int.natAbs_eq b with h | h
  · rw [← h]
  · have : (b.natAbs : Int) = -b:=by omega
    rw [this,Int.tmod_neg]
 rw [hb];cases ha : cN a
 · have h1:=gP ha
   rw [mE,Int.ofNat_tmod,h1]
 · have h1:=natAbs_neg ha
   rw [rH,Int.ofNat_tmod,h1,Int.neg_tmod,Int.neg_neg]
def dG (n : Int) : Int:=if n < 0 then -1 else if 0 < n then 1 else 0
theorem mF {n : Int} (h : n < 0) : dG n = -1:=by rw [dG,if_pos h]
theorem lA {n : Int} (h : 0 < n) : dG n = 1:=by rw [dG,if_neg (by omega),if_pos h]
theorem pI {k V : Nat} (h : V < 2 ^ k) : (digs 4294967296 V).length ≤ k:=by
 refine eO (by omega) (Nat.lt_of_lt_of_le h ?_);rw [show (4294967296 : Nat) = 2 ^ 32 from rfl,← Nat.pow_mul];exact Nat.pow_le_pow_right (by omega) (by omega)
theorem fF {n : Int} (h : Bd 1000000 n) : (cX n).size ≤ 1000000000000:=Nat.le_trans (Gh h) (by decide)
theorem Ot {k : Nat} {a b : Int} (ha : Bd k a) (hb : Bd k b) : (digs 4294967296 (a.natAbs + b.natAbs)).length ≤ k + 1:=pI (by unfold Bd at ha hb; rw [Nat.pow_succ]; omega)
theorem pJ {k : Nat} {n : Int} (h : Bd k n) : (digs 4294967296 n.natAbs).length ≤ k:=pI h
theorem Gp {m n : Nat} (h : m ≤ n) : (digs 4294967296 m).length ≤ (digs 4294967296 n).length:=by
 refine eO (by omega) (Nat.lt_of_le_of_lt h ?_);have:=jC (yI n);rwa [dR] at this
theorem Gq {a : Int} : (((digs 4294967296 a.natAbs).length : Int) = 0) ↔ a = 0:=by
 constructor
 · intro h
   have h0 : digs 4294967296 a.natAbs = []:=List.eq_nil_of_length_eq_zero (by omega);have:=(mA (by omega)).1 h0;omega
 · rintro rfl; rfl
end Go.Lith
namespace Go.Lith
def jG (n : Int) : Prop:=-9223372036854775808 ≤ n ∧ n < 9223372036854775808
theorem jG.bd {n : Int} (h : jG n) : Bd 64 n:=Bd.of_i64 h.1 (by have:=h.2; omega)
theorem Se {n : Int} (h : jG n) (h0 : 0 ≤ n) : IntKind.u64.wrap n = (n.natAbs : Int):=by
 rw [jO]; have:=h.2; omega
theorem Mv {n : Int} (h : jG n) (h0 : n < 0) : IntKind.u64.wrap n = ((18446744073709551616 - n.natAbs : Nat) : Int):=by
 rw [jO]; have:=h.1; omega
theorem Ej {m : Nat} (h : m ≤ 9223372036854775808) (h0 : 0 < m) : IntKind.u64.wrap (0 - ((18446744073709551616 - m : Nat) : Int)) = (m : Int):=by
 rw [jO]; omega
theorem Ek {m : Nat} : val 4294967296 [m % 4294967296,m / 4294967296] = m:=by simp [val]; omega
theorem Bi {m : Nat} (h : m < 18446744073709551616) : dD 4294967296 [m % 4294967296,m / 4294967296]:=fun x hx=>by simp at hx; omega
theorem jG.natAbs {n : Int} (h : jG n) : n.natAbs ≤ 9223372036854775808:=by have:=h.1; have:=h.2; omega
theorem Iv {X Y : Nat} : Nat.gcd Y (X % Y) = Nat.gcd X Y:=by rw [Nat.gcd_comm X Y,Nat.gcd_rec Y X,Nat.gcd_comm]
def Qc (n d : Int) : Go.Value:=.agg #[.bool (cN n),.string (cX n),.bool (cN d),.string (cX d)]
def Q (q : Rat) : Go.Value:=Qc q.num q.den
theorem Bj {n d : Int} (h : d ≠ 0) : d.tdiv ((Int.gcd n d : Int) * dG d) = ((Rat.divInt n d).den : Int) ∧ (Int.gcd n d : Int) * dG d ≠ 0:=by
 have hg : (Int.gcd n d : Int) ≠ 0:=by
  intro e;have:=Int.gcd_eq_zero_iff.1 (show Int.gcd n d = 0 by omega);exact h this.2
 have hgd : (Int.gcd n d : Int) ∣ d:=Int.gcd_dvd_right ..;rw [Rat.den_divInt,if_neg h,Int.gcd_comm d n];obtain ⟨c,hc⟩:=hgd;generalize (Int.gcd n d) = g at *
 rcases Int.lt_trichotomy d 0 with h0 | h0 | h0
 · rw [mF h0]
   refine ⟨?_,by omega⟩;rw [show (g : Int) * -1 = -(g : Int) by omega,Int.tdiv_neg,← Int.neg_tdiv];rw [Int.natCast_ediv,show (d.natAbs : Int) = -d by omega];exact Int.tdiv_eq_ediv_of_nonneg (by omega)
 · exact absurd h0 h
 · rw [lA h0,Int.mul_one]
   refine ⟨?_,hg⟩;rw [Int.natCast_ediv,show (d.natAbs : Int) = d by omega];exact Int.tdiv_eq_ediv_of_nonneg (by omega)
theorem Bk {n d : Int} (h : d ≠ 0) : n.tdiv ((Int.gcd n d : Int) * dG d) = (Rat.divInt n d).num:=by
 rw [Rat.num_divInt,Int.gcd_comm d n];have hgn : (Int.gcd n d : Int) ∣ n:=Int.gcd_dvd_left ..;obtain ⟨c,hc⟩:=hgn;have hg : (Int.gcd n d : Int) ≠ 0:=by
  intro e;have:=Int.gcd_eq_zero_iff.1 (show Int.gcd n d = 0 by omega);exact h this.2
 generalize (Int.gcd n d) = g at *
 subst hc;rcases Int.lt_trichotomy d 0 with h0 | h0 | h0
 · rw [mF h0,Int.sign_eq_neg_one_of_neg h0,show (g : Int) * -1 = -(g : Int) by omega,Int.tdiv_neg,Int.mul_tdiv_cancel_left _ hg,Int.neg_one_mul,Int.neg_ediv_of_dvd (Int.dvd_mul_right ..),Int.mul_ediv_cancel_left _ hg]
 · exact absurd h0 h
 · rw [lA h0,Int.sign_eq_one_of_pos h0,Int.mul_one,Int.mul_tdiv_cancel_left _ hg,Int.one_mul,Int.mul_ediv_cancel_left _ hg]
theorem aaL {n d : Int} (h : d ≠ 0) : (Rat.divInt n d).num.natAbs ≤ n.natAbs:=by
 rw [← Bk h,Int.natAbs_tdiv]; exact Nat.div_le_self ..
theorem aaM {n d : Int} (h : d ≠ 0) : (Rat.divInt n d).den ≤ d.natAbs:=by
 have:=(Bj (n:=n) h).1;have e : ((Rat.divInt n d).den : Int).natAbs ≤ d.natAbs:=by rw [← this,Int.natAbs_tdiv]; exact Nat.div_le_self ..
 simpa using e
class Bq (k : outParam Nat) (q : Rat) : Prop where
 n : Bd k q.num
 d : Bd k (q.den : Int)
theorem Bq.mk' {a b : Nat} {n d : Int} (x : Bd a n) (y : Bd b d) (h : d ≠ 0) : Bq (max a b) (Rat.divInt n d) :=
 ⟨(x.of_le (aaL h)).mono (Nat.le_max_left ..),(y.of_le (by have:=aaM (n:=n) h; simpa using this)).mono (Nat.le_max_right ..)⟩
def Gr (p q : Rat) : Int:=dG (p.num * q.den - q.num * p.den)
theorem gD {p q : Rat} : Gr p q < 0 ↔ p < q:=by
 rw [Rat.lt_iff,Gr];generalize p.num * q.den = a; generalize q.num * p.den = b;simp only[dG];split
 · simp; omega
 · split <;> simp <;> omega
theorem mT {p q : Rat} : 0 < Gr p q ↔ q < p:=by
 rw [Rat.lt_iff,Gr];generalize p.num * q.den = a; generalize q.num * p.den = b;simp only[dG];split
 · simp; omega
 · split <;> simp <;> omega
end Go.Lith
namespace Go.Lith
open Go.RowKit
theorem jT.full {w : World} {base g n : Nat} {E : TypeId} {cs : List Value} (hB : fW w g cs E) (hb : base ≤ g) (hn : cs.length = n) (hl : n ≤ 9223372036854775807) : jT w base E 1 (.slice (some ⟨g,0,none⟩) n n) n cs:=by
 refine ⟨by simpa using hn,.inr ⟨g,n,cs.toArray,rfl,hb,hB,Nat.le_refl _,hl,by simpa using hn,?_⟩⟩;simp [← hn]
theorem Bm {a b : Nat} : 0 ≤ Gi a b ↔ b ≤ a:=by
 unfold Gi;split
 · omega
 · split <;> omega
end Go.Lith
