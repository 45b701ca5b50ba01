/-
 Texts of one claim, laid together: Ext, Ops, Nat, Nat2, Ops2, Nat3, Upd, Nat4, Nat5, Nat6, Held, Eq, Nat7, Nat8, Ops3, Nat9, Nat10, Nat11, Nat12, Geo, Tree, Fresh, Fresh2, Ops4, Geo2, Geo3, Geo4, Geo5.
-/
import Derived.WalkKit
import Derived.StillTail
import Derived.Deep.Quiet
import Derived.BigQuiet
import Derived.Laws.Rows
import Derived.Laws.IdiomCopy
import Derived.Laws.CopyRow
import Derived.OrdersHeld
import Derived.Laws.StructEq
import Derived.ChangeKeysEq
import Derived.Laws.IdiomStrings
import Derived.Laws.BytesArg
import Derived.RangeFuncBox
import Derived.RangeFuncLeaves
import Derived.LoopN
set_option linter.unusedSimpArgs false
set_option linter.unusedVariables false
set_option linter.unusedSectionVars false
namespace Go.Lith
open Go.RowKit
def dK (w w' : World) : Prop:=Below w.heap.size w w'
theorem dK.refl (w : World) : dK w w:=Below.refl _ _
theorem dK.size {w w' : World} (h : dK w w') : w.heap.size ≤ w'.heap.size:=Below.size h
theorem dK.trans {a b c : World} (h : dK a b) (k : dK b c) : dK a c:=Below.trans h (Below.mono k h.size)
theorem dK.drawn {w w' : World} (h : dK w w') : dK w { w' with drawn:=w'.drawn + 1 }:=Below.drew h
theorem dK.alloc {w w' : World} (h : dK w w') (o : Obj) : dK w (w'.alloc o):=Below.alloc h h.size o
theorem dK.block {w w' : World} (h : dK w w') {k : Nat} {o : Obj} (hk : w.heap[k]? = some o) : w'.heap[k]? = some o :=
 (Below.block h k (Array.getElem?_eq_some_iff.1 hk).1).trans hk
theorem dK.cell {w w' : World} (h : dK w w') {p : Addr} {v : Value} (hp : w.cell? p = some v) : w'.cell? p = some v :=
 (Below.cell h (World.block_lt_of_cell? _ _ hp)).trans hp
section
variable {P : Program} {ops : Array Oper} {md : Region.Mode} {C : World → Prop}
def Cl (P : Program) (md : Region.Mode) (ops : Array Oper) (C : World → Prop) (n : Nat) (L : Array Bool → Act → Prop) : Nat → Array Bool → Act → Prop
 | 0,listed,a=>L listed a
 | f + 1,listed,a =>
  Region.ready md ops listed ≠ [] ∧ ∀ i ∈ Region.ready md ops listed,i < n ∧ qOp P ops C i (Cl P md ops C n L f (listed.setIfInBounds i true)) a
theorem tO {n g : Nat} {L : Array Bool → Act → Prop} {Q' : Exit → Act → World → Prop} (hL : ∀ listed a,L listed a → ∀ w,C w → wpAny P md ops Q' g listed a w) :
 ∀ (f : Nat) (listed : Array Bool) (a : Act) (w : World),C w → Cl P md ops C n L f listed a → wpAny P md ops Q' (f + g) listed a w
 | 0,listed,a,w,hw,h=>by rw [Nat.zero_add];exact hL _ _ h w hw
 | f + 1,listed,a,w,hw,h=>by
  rw [show f + 1 + g = (f + g) + 1 by omega];exact ⟨fun h0=>absurd h0 h.1,fun i hi=>wpOp_of_qOp hw (fun a' w' hw' h'=>tO hL f _ a' w' hw' h') (h.2 i hi).2⟩
theorem Ie {n i : Nat} {oi : Oper} {v : Value} {L : Array Bool → Act → Prop} (hi : ops[i]? = some oi) (hsel : ∀ (j : Nat) (o : Oper) cs b,ops[j]? = some o → o.op ≠ .select cs b)
 (hs : Region.sinkB md ops n = true) (hc : Region.chainB md ops n = true) (hn : n < ops.size) (hin : i < n)
 (hdone : ∀ listed a,L listed a → ∀ j ∈ Region.ready md ops listed,n ≤ j) :
 ∀ (f : Nat) (listed : Array Bool) (a : Act),HeadInv md ops n listed →
  (∀ j oj,ops[j]? = some oj → j ≠ i → listed.getD j true = false → (∀ e ∈ oj.after,Region.binds md e = true → e.on ≠ i) → oi.apart ops oj = true) →
  i ∈ Region.ready md ops listed → YieldsIn P ops C oi v a →
  Cl P md ops C n L f (listed.setIfInBounds i true) (a.put oi.dst v) → Cl P md ops C n L (f + 1) listed a:=by
 intro f
 induction f with
 | zero =>
  intro listed a inv _ hr hy H;have hun:=(mem_ready.1 hr).1;refine ⟨fun h=>(by rw [h] at hr;cases hr),fun j hj=>?_⟩;have hjn : j < n:=by
   rcases Nat.lt_or_ge j n with h | h
   · exact h
   · exact absurd hj (tail_waits hs hc hn inv _ i rfl hin hun j h)
  refine ⟨hjn,?_⟩;by_cases hji : j = i
  · subst hji;exact hy.qOp hi H
  · have:=hdone _ _ H j (ready_mono hj hji)
    omega
 | succ f ih =>
  intro listed a inv hfree hr hy H;have hun:=(mem_ready.1 hr).1;refine ⟨fun h=>(by rw [h] at hr;cases hr),fun j hj=>?_⟩;have hjn : j < n:=by
   rcases Nat.lt_or_ge j n with h | h
   · exact h
   · exact absurd hj (tail_waits hs hc hn inv _ i rfl hin hun j h)
  refine ⟨hjn,?_⟩;by_cases hji : j = i
  · subst hji;exact hy.qOp hi H
  · have h1:=(H.2 j (ready_mono hj hji)).2
    obtain ⟨hjun,oj,hoj,hall⟩:=mem_ready.1 hj;have hnot : ∀ e ∈ oj.after,Region.binds md e = true → e.on ≠ i:=fun e he hb heq=>by
     have h1:=hall e he hb;rw [heq,getD_both hun] at h1;cases h1
    have h2:=qOp_put hoj (hfree j oj hoj hji hjun hnot) (fun cs b=>hsel i oi cs b hi) (fun cs b=>hsel j oj cs b hoj) hy h1;have hfree' : ∀ k ok,ops[k]? = some ok → k ≠ i → (listed.setIfInBounds j true).getD k true = false →
     (∀ e ∈ ok.after,Region.binds md e = true → e.on ≠ i) → oi.apart ops ok = true:=fun k ok hk hki hun hno=>by
     refine hfree k ok hk hki ?_ hno;by_cases hjk : j = k
     · subst hjk;exact hjun
     · rw [getD_set_ne true hjk] at hun;exact hun
    refine qOp_mono (fun a' h3=>ih (listed.setIfInBounds j true) a' (inv.set hj hjn) hfree' (ready_mono hr (Ne.symm hji)) h3.1 ?_) h2;rw [Array.setIfInBounds_comm _ _ hji];exact h3.2
theorem Cm {n g : Nat} {Lq : Act → Prop} (hsel : Region.noSelect ops = true) (hs : Region.sinkB md ops n = true) (hc : Region.chainB md ops n = true) (hn : n < ops.size) :
 ∀ (l : List Oper) (k : Nat) (listed : Array Bool) (a : Act),(∀ j,j < l.length → l[j]? = ops[k + j]?) → k + l.length = n → HeadInv md ops n listed →
 Region.lexHead md ops g l.length k listed = true → wpQuiet P ops C Lq l a →
 Cl P md ops C n (fun listed' a'=>Region.seqB md ops g n listed' = true ∧ Lq a') l.length listed a
 | [],k,listed,a,_,hk,_,hB,h=>by
  have : k = n:=by simpa using hk
  subst this;exact ⟨by simpa [Region.lexHead] using hB,h⟩
 | o :: l,k,listed,a,hl,hk,inv,hB,h=>by
  have h0 : ops[k]? = some o:=by simpa using (hl 0 (by simp)).symm
  simp only[List.length_cons,Region.lexHead,Bool.and_eq_true] at hB;obtain ⟨⟨hr,hf⟩,hB'⟩:=hB;have hkn : k < n:=by simp only[List.length_cons] at hk;omega
  have hr' : k ∈ Region.ready md ops listed:=by simpa using hr
  have hst : qOp P ops C k (wpQuiet P ops C Lq l) a:=by unfold qOp;simp only[h0];exact h
  obtain ⟨v,hy,hK⟩:=yieldsIn_of_qOp h0 hst;exact Ie h0 (Region.noSelect_spec hsel) hs hc hn hkn (fun listed' a' hL=>seqB_ready hL.1) l.length listed a inv (Region.free_spec h0 hf) hr' hy
   (Cm hsel hs hc hn l (k + 1) _ _ (fun j hj=>by have:=hl (j + 1) (by simp;omega);simpa [Nat.add_assoc,Nat.add_comm 1 j] using this) (by simp only[List.length_cons] at hk;omega) (inv.set hr' hkn) hB' hK)
theorem kV {id : Nat} {Q : Exit → Act → World → Prop} {a : Act} {w : World} {l : List Oper} (n : Nat) (hm : P.follows .mixedOrders = true) (hB : Region.lexTailB .any l.toArray n = true)
 (hC : C { w with drawn:=w.drawn + 1 })
 (h : wpQuiet P l.toArray C (fun a'=>∀ w',C w' → wpList P l.toArray Q (l.drop n) a' w') (l.take n) a) : (Code.region id l.toArray true).wp P Q a w:=by
 simp only[Region.lexTailB,Bool.and_eq_true,decide_eq_true_eq] at hB;obtain ⟨⟨⟨⟨hsel,hn⟩,hs⟩,hc⟩,hlex⟩:=hB;have hn' : n < l.length:=by simpa using hn
 have htl : (l.take n).length = n:=by simp;omega
 have hdl : (l.drop n).length = l.toArray.size - n:=by simp
 have inv0 : HeadInv .any l.toArray n (Array.replicate l.toArray.size false) :=
  ⟨by simp,fun j oj _ hl=>(by rw [getD_replicate_false] at hl;cases hl),fun t _ ht=>getD_in (by simpa using ht) (getD_replicate_false _ _)⟩
 have H:=Cm (md:=.any) (g:=l.toArray.size - n) hsel hs hc hn (l.take n) 0 _ a (fun j hj=>by
  have hj' : j < n:=by rw [htl] at hj;exact hj
  simp [hj']) (by simpa using htl) inv0 (by rw [htl];exact hlex) h
 refine wp_region_any hm ?_;have:=tO (Q':=Q) (g:=l.toArray.size - n) (fun listed a' hL w' hw'=>by
  have:=wpAny_of_seq (md:=.any) (Q':=Q) (l.drop n) n listed a' w' (fun j=>by simp [List.getElem?_drop]) (by rw [hdl];exact hL.1) (hL.2 w' hw');rwa [hdl] at this) _ _ _ _ hC H
 rw [htl,show n + (l.toArray.size - n) = l.toArray.size by omega] at this;exact this
theorem iP {id : Nat} {Q : Exit → Act → World → Prop} {a : Act} {w : World} {l : List Oper} (n : Nat) (hm : P.follows .mixedOrders = true) (hB : Region.lexTailB .any l.toArray n = true)
 (h : wpQuiet P l.toArray (dK w) (fun a'=>∀ w',dK w w' → wpList P l.toArray Q (l.drop n) a' w') (l.take n) a) : (Code.region id l.toArray true).wp P Q a w :=
 kV (C:=dK w) n hm hB (dK.refl w).drawn h
theorem iM {id : Nat} {Q : Exit → Act → World → Prop} {a : Act} {w : World} {l : List Oper} (hm : P.follows .mixedOrders = true) (hB : Region.lexB .any l.toArray = true)
 (h : wpQuiet P l.toArray (dK w) (fun a'=>∀ w',dK w w' → Q .normal a' w') l a) : (Code.region id l.toArray true).wp P Q a w :=
 wp_region_quiet (C:=dK w) hm hB (dK.refl w).drawn (by simpa using h)
def yL (md : Region.Mode) (ops : Array Oper) : List (Nat × Bool) → Array Bool → Bool
 | [],listed=>(Region.ready md ops listed).isEmpty
 | (i,true) :: r,listed=>(ops[i]?).isSome && Region.free md ops listed i && (Region.ready md ops listed).contains i && yL md ops r (listed.setIfInBounds i true)
 | (i,false) :: r,listed=>(ops[i]?).isSome && decide (Region.ready md ops listed = [i]) && yL md ops r (listed.setIfInBounds i true)
def dY (P : Program) (ops : Array Oper) (Q : Exit → Act → World → Prop) : List (Oper × Bool) → Act → World → Prop
 | [],a,w=>Q .normal a w
 | (o,true) :: r,a,w=>∃ v,Yields P ops o v a ∧ dY P ops Q r (a.put o.dst v) w
 | (o,false) :: r,a,w=>wpList P ops (Exit.then (dY P ops Q r) Q) [o] a w
theorem sI {Q : Exit → Act → World → Prop} (hs : Region.noSelect ops = true) (hQ : ∀ c d v a w,Q (.panic c) (Act.put a d v) w → Q (.panic c) a w) : ∀ (l : List (Nat × Bool)) (listed : Array Bool) (a : Act) (w : World),
 yL md ops l listed = true → dY P ops Q (l.map fun x=>((ops[x.1]?).getD default,x.2)) a w → wpAny P md ops Q l.length listed a w
 | [],listed,a,w,hB,h=>⟨by simpa [yL] using hB,h⟩
 | (i,true) :: r,listed,a,w,hB,h=>by
  simp only[yL,Bool.and_eq_true] at hB;obtain ⟨⟨⟨h1,h2⟩,h3⟩,h4⟩:=hB;obtain ⟨o,ho⟩:=Option.isSome_iff_exists.1 h1;simp only[List.map_cons,dY,ho,Option.getD_some] at h;obtain ⟨v,hy,hr⟩:=h;exact wpAny_take ho hs h2 h3 (fun c a w=>hQ c _ v a w) hy (sI hs hQ r _ _ _ h4 hr)
 | (i,false) :: r,listed,a,w,hB,h=>by
  simp only[yL,Bool.and_eq_true,decide_eq_true_eq] at hB;obtain ⟨⟨h1,h2⟩,h4⟩:=hB;obtain ⟨o,ho⟩:=Option.isSome_iff_exists.1 h1;refine wpAny_all h2 (by simp) fun j hj=>?_;obtain rfl : j = i:=by simpa using hj
  simp only[List.map_cons,dY,ho,Option.getD_some] at h;have key : ∀ a' w',Exit.then (dY P ops Q (r.map fun x=>((ops[x.1]?).getD default,x.2))) Q .normal a' w' → wpAny P md ops Q r.length (listed.setIfInBounds j true) a' w':=fun a' w' hh=>sI hs hQ r _ a' w' h4 hh
  unfold wpOp;simp only[ho];simp only[wpList] at h;split
  · rename_i hw
    rw [if_pos hw] at h;rcases h with h | ⟨ha,x,y,hl⟩
    · refine .inl ?_
      unfold Oper.wp at h ⊢;generalize (execOp a.eval o).run P w = res at *
      cases res with
      | ok n w' =>
       cases n <;> simp only[Oper.upon] at h ⊢ <;>
        first
         | exact key _ _ h
         | exact Calls.mono h (fun e w'' he=>by cases e <;> first | exact key _ _ he | exact he)
         | exact Rows.mono h (fun _ _ he=>key _ _ he)
      | halt x w'=>cases x <;> simp only[Oper.upon] at h ⊢ <;> exact h
    · exact .inr ⟨ha,x,y,hl⟩
  · rename_i hw
    rw [if_neg hw] at h;exact key _ _ h
theorem Fq {id : Nat} {Q : Exit → Act → World → Prop} {a : Act} {w : World} {l : List Oper} (o : List (Nat × Bool)) (hm : P.follows .mixedOrders = true) (hB : (Region.noSelect l.toArray && decide (o.length = l.length) && yL .any l.toArray o (Array.replicate l.toArray.size false)) = true)
 (hQ : ∀ c d v a w,Q (.panic c) (Act.put a d v) w → Q (.panic c) a w) {ol : List (Oper × Bool)} (hol : (o.map fun x=>((l.toArray[x.1]?).getD default,x.2)) = ol)
 (h : ∀ w',dK w w' → dY P l.toArray Q ol a w') : (Code.region id l.toArray true).wp P Q a w:=by
 simp only[Bool.and_eq_true,decide_eq_true_eq] at hB;subst hol;refine wp_region_any hm ?_;have:=sI (md:=.any) hB.1.1 hQ o _ a { w with drawn:=w.drawn + 1 } hB.2 (h _ (dK.refl w).drawn);rwa [hB.1.2] at this
end
end Go.Lith
namespace Go.Lith
open Go.RowKit
abbrev Fr (l : List Value) (ds : List Deferred:=[]) : Act:={ tmps:=l.toArray,defers:=ds }
def gD (w : World) (g : Nat) (cs : List Value) (t : TypeId) : Prop:=w.heap[g]? = some (.cells cs.toArray t (0,0))
structure Sj (w w' : World) (g : Nat) : Prop where
 os : w'.os = w.os
 tape : w'.tape = w.tape
 output : w'.output = w.output
 size : w'.heap.size = w.heap.size
 block : ∀ k,k ≠ g → w'.heap[k]? = w.heap[k]?
def jL (w : World) (a : Addr) (cs : List Value) : Prop:=∀ j u,cs[j]? = some u → w.cell? (a.add j) = some u
theorem gD.lt {w : World} {g : Nat} {cs : List Value} {t : TypeId} (h : gD w g cs t) : g < w.heap.size:=(Array.getElem?_eq_some_iff.1 h).1
theorem gD.ext {w w' : World} {g : Nat} {cs : List Value} {t : TypeId} (h : gD w g cs t) (hE : dK w w') : gD w' g cs t:=hE.block h
theorem gD.chg {w w' : World} {g g' : Nat} {cs : List Value} {t : TypeId} (h : gD w g cs t) (hC : Sj w w' g') (hne : g ≠ g') : gD w' g cs t:=(hC.block g hne).trans h
theorem dK.chg {w0 w w' : World} {g : Nat} (h : dK w0 w) (hC : Sj w w' g) (hg : w0.heap.size ≤ g) : dK w0 w' :=
 ⟨hC.os.trans h.os,hC.tape.trans h.tape,hC.output.trans h.output,by rw [hC.size];exact h.size,fun k hk=>(hC.block k (by omega)).trans (Below.block h k hk)⟩
theorem jL.ext {w w' : World} {a : Addr} {cs : List Value} (h : jL w a cs) (hE : dK w w') : jL w' a cs:=fun j u hj=>hE.cell (h j u hj)
theorem gE (g off j : Nat) : (⟨g,off,none⟩ : Addr).add j = ⟨g,off + j,none⟩:=by unfold Addr.add;split <;> simp_all
theorem jV (a : Addr) (i j : Nat) : (a.add i).add j = a.add (i + j):=by
 unfold Addr.add;by_cases hi : i = 0 <;> by_cases hj : j = 0 <;> simp [hi,hj,Nat.add_assoc]
theorem gD.row {w : World} {g : Nat} {cs : List Value} {t : TypeId} (h : gD w g cs t) (off : Nat) : jL w ⟨g,off,none⟩ (cs.drop off):=by
 intro j u hj;rw [gE,cell_of_row w g (off + j) cs.toArray t (0,0) h];simpa [List.getElem?_drop] using hj
theorem jL.sub {w : World} {a : Addr} {cs : List Value} (h : jL w a cs) (i : Nat) : jL w (a.add i) (cs.drop i):=by
 intro j u hj;rw [jV];exact h (i + j) u (by simpa [List.getElem?_drop] using hj)
theorem jL.take {w : World} {a : Addr} {cs : List Value} (h : jL w a cs) (n : Nat) : jL w a (cs.take n):=by
 intro j u hj;refine h j u ?_;rw [List.getElem?_take] at hj;split at hj
 · exact hj
 · cases hj
section
variable {P : Program} {ds : List Deferred} {l : List Value}
theorem aco (t : Nat) : (Fr l).eval (.tmp t) = l.getD t undef:=by
 show l.toArray.getD t undef = _
 simp [Array.getD,List.getD];split <;> simp_all
theorem iF {ds : List Deferred} : (Fr l ds).eval = (Fr l).eval:=rfl
theorem jA {ds : List Deferred} (d : Nat) (v : Value) : (Fr l ds).put (some d) v = Fr (l.set d v) ds:=by simp [Act.put,Fr]
def fB (P : Program) (T : TypeId) (n : Nat) : Prop:=∃ inf,P.info? T = some inf ∧ inf.size = n
def mT (P : Program) (T : TypeId) (z : Value) : Prop:=∃ inf,P.info? T = some inf ∧ inf.zero = some z
def wS : TypeDesc → Bool
 | .struct _ | .array _ _=>true
 | _=>false
def gW (P : Program) (T : TypeId) (b : Bool) : Prop:=∃ dd,P.underlying T = some dd ∧ wS dd = b
theorem eV {T : TypeId} {n : Nat} (h : (P.info? T).map (·.size) = some n) : fB P T n:=by
 cases hi : P.info? T with
 | none=>rw [hi] at h;cases h
 | some i=>rw [hi] at h;exact ⟨i,hi,by simpa using h⟩
theorem iW {T : TypeId} {z : Value} (h : (P.info? T).bind (·.zero) = some z) : mT P T z:=by
 cases hi : P.info? T with
 | none=>rw [hi] at h;cases h
 | some i=>rw [hi] at h;exact ⟨i,hi,by simpa using h⟩
theorem fH {T : TypeId} {b : Bool} (dd : TypeDesc) (h : P.underlying T = some dd) (hb : wS dd = b) : gW P T b:=⟨dd,h,hb⟩
def ev (l : List Value) : Operand → Value
 | .tmp t=>l.getD t undef
 | .const v=>v
 | .global g=>.pointer (some ⟨g,0,none⟩)
 | .func f=>.func (.func f) #[] #[]
theorem cI (t : Nat) : ev l (.tmp t) = l.getD t undef:=rfl
theorem bL (v : Value) : ev l (.const v) = v:=rfl
theorem bT (f : Nat) : ev l (.func f) = .func (.func f) #[] #[]:=rfl
theorem dD (x : Operand) : (Fr l).eval x = ev l x:=by
 cases x with
 | tmp t=>exact aco t
 | const=>rfl
 | global=>rfl
 | func=>rfl
def vZ (P : Program) (l : List Value) (op : Op) (ty : TypeId) (v : Value) (w : World) : Prop :=
 ∀ o : Oper,o.op = op → o.type = ty → (execOp (Fr l).eval o).run P w = .ok (.value v) w
def gX (P : Program) (l : List Value) (op : Op) (ty : TypeId) (v : Value) : Prop:=∀ w,vZ P l op ty v w
section
variable {ops : Array Oper} {Q : Exit → Act → World → Prop} {w : World} {rest : List Oper} {d : Nat} {op : Op} {ty : TypeId} {pos : String} {after : Array Edge} {v : Value}
theorem fL (hr : vZ P l op ty v w) (h : wpList P ops Q rest (Fr (l.set d v) ds) w) : wpList P ops Q (Oper.mk (some d) op ty pos after none :: rest) (Fr l ds) w:=by
 refine wpList_plain rfl fun K hK=>?_;unfold Oper.wp;rw [iF,hr _ rfl rfl];show K ((Fr l ds).put (some d) v) w
 rw [jA];exact hK _ _ h
theorem aA (hr : gX P l op ty v) (h : wpList P ops Q rest (Fr (l.set d v) ds) w) : wpList P ops Q (Oper.mk (some d) op ty pos after none :: rest) (Fr l ds) w:=fL (hr w) h
theorem aG (h : Q .normal (Fr l ds) w) : wpList P ops Q [] (Fr l ds) w:=h
theorem bN {j : Nat} {b : Bool} (hw : yielded ops l.toArray j = some b) (h : wpList P ops Q (Oper.mk (some d) op ty pos after none :: rest) (Fr l ds) w) : wpList P ops Q (Oper.mk (some d) op ty pos after (some (j,b)) :: rest) (Fr l ds) w:=by
 unfold wpList at h ⊢;rw [if_pos (by simp [Region.wanted])] at h;rw [if_pos (by simp [Region.wanted,hw])];exact h
theorem Wc {j : Nat} {b c : Bool} (hw : yielded ops l.toArray j = some c) (hbc : (c == b) = false) (h : wpList P ops Q rest (Fr (l.set d undef) ds) w) : wpList P ops Q (Oper.mk (some d) op ty pos after (some (j,b)) :: rest) (Fr l ds) w:=by
 unfold wpList;rw [if_neg (by simp [Region.wanted,hw];simpa using hbc)];show wpList P ops Q rest ((Fr l ds).put (some d) undef) w
 rw [jA];exact h
theorem cN {j : Nat} (hw : yielded ops l.toArray j = some false) (h : wpList P ops Q rest (Fr (l.set d undef) ds) w) : wpList P ops Q (Oper.mk (some d) op ty pos after (some (j,true)) :: rest) (Fr l ds) w:=Wc hw rfl h
theorem fM {j : Nat} (hw : yielded ops l.toArray j = some true) (h : wpList P ops Q rest (Fr (l.set d undef) ds) w) : wpList P ops Q (Oper.mk (some d) op ty pos after (some (j,false)) :: rest) (Fr l ds) w:=Wc hw rfl h
theorem kQ {j : Nat} {b : Bool} (hw : yielded ops l.toArray j = none) (h : wpList P ops Q rest (Fr (l.set d undef) ds) w) : wpList P ops Q (Oper.mk (some d) op ty pos after (some (j,b)) :: rest) (Fr l ds) w:=by
 unfold wpList;rw [if_neg (by simp [Region.wanted,hw])];show wpList P ops Q rest ((Fr l ds).put (some d) undef) w
 rw [jA];exact h
end
section
variable {ops : Array Oper} {Q : Act → Prop} {C : World → Prop} {rest : List Oper} {d : Nat} {op : Op} {ty : TypeId} {pos : String} {after : Array Edge} {v : Value}
theorem wA (hr : ∀ w,C w → vZ P l op ty v w) (h : wpQuiet P ops C Q rest (Fr (l.set d v) ds)) : wpQuiet P ops C Q (Oper.mk (some d) op ty pos after none :: rest) (Fr l ds):=by
 refine wpQuiet_step fun K hK=>?_;rw [if_pos (by simp [Region.wanted])];refine ⟨v,fun w hw=>?_,?_⟩
 · unfold Oper.quietAt
   rw [iF,hr w hw _ rfl rfl];exact ⟨rfl,rfl⟩
 · show K ((Fr l ds).put (some d) v)
   rw [jA];exact hK _ h
theorem aI (hr : gX P l op ty v) (h : wpQuiet P ops C Q rest (Fr (l.set d v) ds)) : wpQuiet P ops C Q (Oper.mk (some d) op ty pos after none :: rest) (Fr l ds):=wA (fun w _=>hr w) h
theorem cP (h : Q (Fr l ds)) : wpQuiet P ops C Q [] (Fr l ds):=h
theorem aN {j : Nat} {b : Bool} (hw : yielded ops l.toArray j = some b) (h : wpQuiet P ops C Q (Oper.mk (some d) op ty pos after none :: rest) (Fr l ds)) : wpQuiet P ops C Q (Oper.mk (some d) op ty pos after (some (j,b)) :: rest) (Fr l ds):=by
 unfold wpQuiet at h ⊢;rw [if_pos (by simp [Region.wanted])] at h;rw [if_pos (by simp [Region.wanted,hw])];exact h
theorem Wd {j : Nat} {b c : Bool} (hw : yielded ops l.toArray j = some c) (hbc : (c == b) = false) (h : wpQuiet P ops C Q rest (Fr (l.set d undef) ds)) : wpQuiet P ops C Q (Oper.mk (some d) op ty pos after (some (j,b)) :: rest) (Fr l ds):=by
 unfold wpQuiet;rw [if_neg (by simp [Region.wanted,hw];simpa using hbc)];show wpQuiet P ops C Q rest ((Fr l ds).put (some d) undef)
 rw [jA];exact h
theorem aV {j : Nat} (hw : yielded ops l.toArray j = some false) (h : wpQuiet P ops C Q rest (Fr (l.set d undef) ds)) : wpQuiet P ops C Q (Oper.mk (some d) op ty pos after (some (j,true)) :: rest) (Fr l ds):=Wd hw rfl h
theorem dV {j : Nat} (hw : yielded ops l.toArray j = some true) (h : wpQuiet P ops C Q rest (Fr (l.set d undef) ds)) : wpQuiet P ops C Q (Oper.mk (some d) op ty pos after (some (j,false)) :: rest) (Fr l ds):=Wd hw rfl h
theorem fX {j : Nat} {b : Bool} (hw : yielded ops l.toArray j = none) (h : wpQuiet P ops C Q rest (Fr (l.set d undef) ds)) : wpQuiet P ops C Q (Oper.mk (some d) op ty pos after (some (j,b)) :: rest) (Fr l ds):=by
 unfold wpQuiet;rw [if_neg (by simp [Region.wanted,hw])];show wpQuiet P ops C Q rest ((Fr l ds).put (some d) undef)
 rw [jA];exact h
end
/-! ### Values -/
section
variable {x y : Operand} {T T' ty : TypeId} {k : IntKind} {m n r : Int}
theorem aB : gX P l (.move x) ty (ev l x):=fun w o ho _=>by simp [execOp,ho,dD]
theorem aD : gX P l (.assign x) ty (ev l x):=fun w o ho _=>by simp [execOp,ho,dD]
theorem If {c : Operand} {b : Bool} (hc : ev l c = .bool b) : gX P l (.pick c x y) ty (if b then ev l x else ev l y):=fun w o ho _=>by
 simp [execOp,ho,dD,hc,asBool]
theorem aQ (hx : ev l x = .int k m) (hy : ev l y = .int k n) (hr : k.wrap (m + n) = r) : gX P l (.binOp .add T x y T') ty (.int k r):=fun w o ho _=>by
 simp [execOp,ho,dD,hx,hy,eqGuard,binOp,Op.intArith,hr]
theorem eO (hx : ev l x = .int k m) (hy : ev l y = .int k n) (hr : k.wrap (m - n) = r) : gX P l (.binOp .sub T x y T') ty (.int k r):=fun w o ho _=>by
 simp [execOp,ho,dD,hx,hy,eqGuard,binOp,Op.intArith,hr]
theorem fF (hx : ev l x = .int k m) (hy : ev l y = .int k n) (hr : k.wrap (m * n) = r) : gX P l (.binOp .mul T x y T') ty (.int k r):=fun w o ho _=>by
 simp [execOp,ho,dD,hx,hy,eqGuard,binOp,Op.intArith,hr]
theorem cO (hx : ev l x = .int k m) (hy : ev l y = .int k n) : gX P l (.binOp .lss T x y T') ty (.bool (decide (m < n))):=fun w o ho _=>by
 simp [execOp,ho,dD,hx,hy,eqGuard,binOp,Op.intCmp]
theorem Cn (hx : ev l x = .int k m) (hy : ev l y = .int k n) : gX P l (.binOp .leq T x y T') ty (.bool (decide (m ≤ n))):=fun w o ho _=>by
 simp [execOp,ho,dD,hx,hy,eqGuard,binOp,Op.intCmp]
theorem oE (hx : ev l x = .int k m) (hy : ev l y = .int k n) : gX P l (.binOp .gtr T x y T') ty (.bool (decide (n < m))):=fun w o ho _=>by
 simp [execOp,ho,dD,hx,hy,eqGuard,binOp,Op.intCmp]
theorem pP (hx : ev l x = .int k m) (hy : ev l y = .int k n) : gX P l (.binOp .geq T x y T') ty (.bool (decide (n ≤ m))):=fun w o ho _=>by
 simp [execOp,ho,dD,hx,hy,eqGuard,binOp,Op.intCmp]
theorem rJ (hx : ev l x = .int k m) (hy : ev l y = .int k n) : gX P l (.binOp .eql T x y T') ty (.bool (decide (m = n))):=fun w o ho _=>by
 simp [execOp,ho,dD,hx,hy,eqGuard,binOp,Op.intCmp];cases h : (m == n) <;> simp_all
theorem kW (hx : ev l x = .int k m) (hy : ev l y = .int k n) : gX P l (.binOp .neq T x y T') ty (.bool (decide (m ≠ n))):=fun w o ho _=>by
 simp [execOp,ho,dD,hx,hy,eqGuard,binOp,Op.intCmp];cases h : (m != n) <;> simp_all
theorem gY (hx : ev l x = .int k m) (hy : ev l y = .int k n) (h0 : n ≠ 0) (hr : k.wrap (m.tdiv n) = r) : gX P l (.binOp .quo T x y T') ty (.int k r):=fun w o ho _=>by
 simp [execOp,ho,dD,hx,hy,eqGuard,binOp,Op.intDiv,h0,hr]
theorem cE (hx : ev l x = .int k m) (hy : ev l y = .int k n) (h0 : n ≠ 0) (hr : m.tmod n = r) : gX P l (.binOp .rem T x y T') ty (.int k r):=fun w o ho _=>by
 simp [execOp,ho,dD,hx,hy,eqGuard,binOp,Op.intDiv,h0,hr]
theorem rK (hx : ev l x = .int k m) (hy : ev l y = .int k n) (hr : k.wrap ((BitVec.ofInt k.bits m &&& BitVec.ofInt k.bits n).toNat : Int) = r) : gX P l (.binOp .and T x y T') ty (.int k r):=fun w o ho _=>by
 subst hr;simp [execOp,ho,dD,hx,hy,eqGuard,binOp,Op.intBits]
theorem Ke (hx : ev l x = .int k m) (hy : ev l y = .int k n) (hr : k.wrap ((BitVec.ofInt k.bits m ||| BitVec.ofInt k.bits n).toNat : Int) = r) : gX P l (.binOp .or T x y T') ty (.int k r):=fun w o ho _=>by
 subst hr;simp [execOp,ho,dD,hx,hy,eqGuard,binOp,Op.intBits]
theorem Ah {k' : IntKind} (hx : ev l x = .int k m) (hy : ev l y = .int k' n) (h0 : 0 ≤ n) (hr : k.wrap (m * 2 ^ (min n.toNat k.bits)) = r) : gX P l (.binOp .shl T x y T') ty (.int k r):=fun w o ho _=>by
 subst hr;simp [execOp,ho,dD,hx,hy,eqGuard,binOp,Op.shift,Int.not_lt.2 h0]
theorem qJ {k' : IntKind} (hx : ev l x = .int k m) (hy : ev l y = .int k' n) (h0 : 0 ≤ n) (hr : m.fdiv (2 ^ (min n.toNat k.bits)) = r) : gX P l (.binOp .shr T x y T') ty (.int k r):=fun w o ho _=>by
 subst hr;simp [execOp,ho,dD,hx,hy,eqGuard,binOp,Op.shift,Int.not_lt.2 h0]
theorem fN {b : Bool} (hx : ev l x = .bool b) : gX P l (.unOp .not T x) ty (.bool (!b)):=fun w o ho _=>by
 simp [execOp,ho,dD,hx,Op.unary]
theorem Qq (hx : ev l x = .int k m) (hr : k.wrap (0 - m) = r) : gX P l (.unOp .neg T x) ty (.int k r):=fun w o ho _=>by
 subst hr;simp [execOp,ho,dD,hx,Op.unary,Op.intArith]
theorem jI (hd : P.underlying T' = some (.int k)) {k' : IntKind} {dd : TypeDesc} (hs : P.underlying T = some dd) (hx : ev l x = .int k' m) (hr : k.wrap m = r) : gX P l (.convert T T' x) ty (.int k r):=fun w o ho _=>by
 subst hr;simp [execOp,ho,dD,hx,convert,run_underlying hs,run_underlying hd,Conv.intToInt]
theorem bM {vs : Array Value} {i : Nat} {v : Value} (hx : ev l x = .tuple vs) (hi : vs[i]? = some v) : gX P l (.extract x i) ty v:=fun w o ho _=>by
 simp [execOp,ho,dD,hx,Instr.extract,hi]
theorem pQ {fn : Fn} {first captured : Array Operand} : gX P l (.makeFunc fn first captured) ty (.func fn (first.map (ev l)) (captured.map (ev l))):=fun w o ho _=>by
 have e : (Fr l).eval = ev l:=funext dD;simp [execOp,ho,e,Instr.makeFunc]
theorem bA {E : TypeId} {A : Option Addr} {n c : Nat} {a0 : Array TypeId} (ha : a0 = #[T]) (hu : P.underlying T = some (.slice E)) (hx : ev l x = .slice A n c) : gX P l (.call { callee:=.builtin .len,args:=#[x],argTypes:=a0 }) ty (.int .i64 n):=fun w o ho _=>by
 subst ha;simp [execOp,ho,resolve,invoke,builtin,Builtin.len_,dD,hx,run_underlying hu,goInt]
theorem pR {s : ByteArray} {a0 : Array TypeId} (ha : a0 = #[T]) (hu : P.underlying T = some .string) (hx : ev l x = .string s) : gX P l (.call { callee:=.builtin .len,args:=#[x],argTypes:=a0 }) ty (.int .i64 s.size):=fun w o ho _=>by
 subst ha;simp [execOp,ho,resolve,invoke,builtin,Builtin.len_,dD,hx,run_underlying hu,goInt]
theorem ab0 {a0 : Array TypeId} (hx : ev l x = .int k m) (hy : ev l y = .int k n) (hr : (if m < n then n else m) = r) : gX P l (.call { callee:=.builtin .max,args:=#[x,y],argTypes:=a0 }) ty (.int k r):=fun w o ho _=>by
 subst hr;simp [execOp,ho,resolve,invoke,builtin,Builtin.max_,Builtin.max2,dD,hx,hy]
end
/-! ### Addresses -/
section
variable {x y : Operand} {T T' ty : TypeId} {k : IntKind} {m n r : Int}
theorem aO {fs : Array Field} {i c : Nat} {f : Field} {a b : Addr} (hu : P.underlying T = some (.struct fs)) (hf : fs[i]? = some f) (hc : fB P f.type (c + 1)) (hx : ev l x = .pointer (some a)) (hb : a.add f.offset = b) :
 gX P l (.fieldAddr T x i) ty (.pointer (some b)):=fun w o ho _=>by
 subst hb;obtain ⟨inf,hi,hz⟩:=hc;have hz' : ¬ inf.size = 0:=by omega
 simp [execOp,ho,dD,hx,Instr.fieldAt,run_underlying hu,hf,Instr.sureAddr,fieldPlace,sizeOf,typeInfo,hi,hz']
theorem aH {E : TypeId} {len : Nat} {c : Nat} {a b : Addr} (hu : P.underlying T = some (.array len E)) (hc : fB P E c) (hx : ev l x = .pointer (some a)) (hy : ev l y = .int k m) (h0 : 0 ≤ m) (h1 : m < len) (hb : a.add (m.toNat * c) = b) :
 gX P l (.indexAddr T x y) ty (.pointer (some b)):=fun w o ho _=>by
 subst hb;obtain ⟨inf,hi,rfl⟩:=hc;simp [execOp,ho,dD,hx,hy,Instr.indexAt,asIntOf,run_underlying hu,Instr.sureAddr,sizeOf,typeInfo,hi,h0,h1]
theorem aK {E : TypeId} {len cap : Nat} {c : Nat} {a b : Addr} (hu : P.underlying T = some (.slice E)) (hc : fB P E c) (hx : ev l x = .slice (some a) len cap) (hy : ev l y = .int k m) (h0 : 0 ≤ m) (h1 : m < len) (hb : a.add (m.toNat * c) = b) :
 gX P l (.indexAddr T x y) ty (.pointer (some b)):=fun w o ho _=>by
 subst hb;obtain ⟨inf,hi,rfl⟩:=hc;simp [execOp,ho,dD,hx,hy,Instr.indexAt,asIntOf,run_underlying hu,sizeOf,typeInfo,hi,h0,h1]
end
/-! ### Memory -/
section
variable {x y : Operand} {T T' ty : TypeId} {w : World}
def vL (P : Program) (w : World) (T : TypeId) (a : Addr) (v : Value) : Prop:=(loadVar T a).run P w = .ok v w
theorem jL.lies {a : Addr} {cs : List Value} (h : jL w a cs) (hA : gW P T true) (hc : fB P T cs.length) : vL P w T a (.agg cs.toArray):=by
 obtain ⟨dd,hu,hd⟩:=hA;obtain ⟨inf,hi,hn⟩:=hc;have hl:=run_loadCells_list (P:=P) w a cs (fun j v hv=>h j v hv);have hagg : (isAgg T).run P w = .ok true w:=by
  unfold isAgg;rw [Sem.run_bind,run_underlying hu w];cases dd <;> simp_all [wS]
 unfold vL;simp [loadVar,Sem.run_bind,hagg,sizeOf,typeInfo,hi,hn,hl]
theorem lies1 {a : Addr} {v : Value} (h : w.cell? a = some v) (hA : gW P T false) : vL P w T a v:=by
 obtain ⟨dd,hu,hd⟩:=hA;have hagg : (isAgg T).run P w = .ok false w:=by
  unfold isAgg;rw [Sem.run_bind,run_underlying hu w];cases dd <;> simp_all [wS]
 unfold vL;simp [loadVar,Sem.run_bind,hagg,load,Sem.run,h]
theorem gD.cell {g : Nat} {cs : List Value} {t : TypeId} (h : gD w g cs t) {i : Nat} {v : Value} (hi : cs[i]? = some v) : w.cell? ⟨g,i,none⟩ = some v:=by
 rw [cell_of_row w g i cs.toArray t (0,0) h];simpa using hi
theorem gD.lies1 {g i : Nat} {cs : List Value} {t : TypeId} {v : Value} (h : gD w g cs t) (hA : gW P T false) (hi : cs[i]? = some v) : vL P w T ⟨g,i,none⟩ v:=Lith.lies1 (h.cell hi) hA
theorem gD.lies {g i n : Nat} {cs us : List Value} {t : TypeId} (h : gD w g cs t) (hA : gW P T true) (hc : fB P T n) (hu : (cs.drop i).take n = us) (hn : us.length = n) : vL P w T ⟨g,i,none⟩ (.agg us.toArray):=by
 subst hu;exact ((h.row i).take n).lies hA (by rw [hn];exact hc)
theorem cM {a : Addr} {v : Value} (hx : ev l x = .pointer (some a)) (hv : vL P w T a v) : vZ P l (.load T x) ty v w:=fun o ho _=>by
 unfold vL at hv;simp [execOp,ho,dD,hx,Instr.loadAt,Instr.sureAddr,hv]
variable {ops : Array Oper} {Q : Exit → Act → World → Prop} {rest : List Oper} {d : Nat} {op : Op} {pos : String} {after : Array Edge} {v : Value}
theorem aL {a : Addr} (hx : ev l x = .pointer (some a)) (hv : vL P w T a v) (h : wpList P ops Q rest (Fr (l.set d v) ds) w) : wpList P ops Q (Oper.mk (some d) (.load T x) ty pos after none :: rest) (Fr l ds) w :=
 fL (cM hx hv) h
theorem Bm {w' : World} (hr : ∀ o : Oper,o.op = op → (execOp (Fr l).eval o).run P w = .ok .skip w') (h : wpList P ops Q rest (Fr l ds) w') : wpList P ops Q (Oper.mk none op ty pos after none :: rest) (Fr l ds) w:=by
 refine wpList_plain rfl fun K hK=>?_;unfold Oper.wp;rw [iF,hr _ rfl];exact hK _ _ h
theorem kN {w' : World} (hr : ∀ o : Oper,o.op = op → o.type = ty → (execOp (Fr l).eval o).run P w = .ok (.value v) w') (h : wpList P ops Q rest (Fr (l.set d v) ds) w') : wpList P ops Q (Oper.mk (some d) op ty pos after none :: rest) (Fr l ds) w:=by
 refine wpList_plain rfl fun K hK=>?_;unfold Oper.wp;rw [iF,hr _ rfl rfl];show K ((Fr l ds).put (some d) v) w'
 rw [jA];exact hK _ _ h
theorem iN (w : World) (cs : List Value) (t : TypeId) : gD (w.alloc (.cells cs.toArray t)) w.heap.size cs t:=heap_alloc_new w _
theorem kR {cs : List Value} (hv : (ev l x).cells = cs.toArray) (h : ∀ w' g,dK w w' → w.heap.size ≤ g → gD w' g cs T → wpList P ops Q rest (Fr (l.set d (.pointer (some ⟨g,0,none⟩))) ds) w') :
 wpList P ops Q (Oper.mk (some d) (.box T x) ty pos after none :: rest) (Fr l ds) w :=
 kN (w':=w.alloc (.cells cs.toArray T)) (v:=.pointer (some ⟨w.heap.size,0,none⟩)) (fun o ho _=>by simp [execOp,ho,dD,Instr.box,newVar,newRow,hv,newObj,Sem.run]) (h _ _ ((dK.refl w).alloc _) (Nat.le_refl _) (iN w cs T))
theorem jM {cs : List Value} {z : Value} (hZ : mT P T z) (hv : z.cells = cs.toArray) (h : ∀ w' g,dK w w' → w.heap.size ≤ g → gD w' g cs T → wpList P ops Q rest (Fr (l.set d (.pointer (some ⟨g,0,none⟩))) ds) w') :
 wpList P ops Q (Oper.mk (some d) (.alloc T) ty pos after none :: rest) (Fr l ds) w:=by
 obtain ⟨inf,hi,hz⟩:=hZ;exact kN (w':=w.alloc (.cells cs.toArray T)) (v:=.pointer (some ⟨w.heap.size,0,none⟩)) (fun o ho _=>by simp [execOp,ho,Instr.alloc,zeroValue,typeInfo,hi,hz,newVar,newRow,hv,newObj,Sem.run]) (h _ _ ((dK.refl w).alloc _) (Nat.le_refl _) (iN w cs T))
def bK (cs : List Value) (off : Nat) (us : List Value) : List Value:=cs.take off ++ us ++ cs.drop (off + us.length)
theorem Kf {cs us : List Value} {off : Nat} (h : off + us.length ≤ cs.length) : (bK cs off us).length = cs.length:=by simp [bK];omega
theorem sJ (w : World) (g : Nat) (cs : Array Value) : Sj w (w.setRow g cs) g:=⟨rfl,rfl,rfl,by simp,fun k hk=>setRow_other w g k cs hk⟩
theorem wT {g off : Nat} {cs us : List Value} {t : TypeId} (hc : fB P T us.length) (hv : v.cells = us.toArray) (hB : gD w g cs t) (hfit : off + us.length ≤ cs.length) (h1 : ∀ u ∈ us,u.oneCell' = true) :
 (storeVar T ⟨g,off,none⟩ v).run P w = .ok () (w.setRow g (bK cs off us).toArray):=by
 obtain ⟨inf,hi,hn⟩:=hc;have hst:=run_storeCells_at P g off t us 0 cs.toArray w hB (by simpa using hfit) h1;simp only[Nat.add_zero,List.toList_toArray] at hst;simp [storeVar,hv,sizeOf,typeInfo,hi,hn,hst,bK]
theorem dA {g off : Nat} {cs us : List Value} {t : TypeId} (hx : ev l x = .pointer (some ⟨g,off,none⟩)) (hv : (ev l y).cells = us.toArray) (hc : fB P T us.length) (hB : gD w g cs t) (hfit : off + us.length ≤ cs.length) (h1 : ∀ u ∈ us,u.oneCell' = true)
 (h : ∀ w',Sj w w' g → gD w' g (bK cs off us) t → wpList P ops Q rest (Fr l ds) w') : wpList P ops Q (Oper.mk none (.store T x y) ty pos after none :: rest) (Fr l ds) w :=
 Bm (w':=w.setRow g (bK cs off us).toArray) (fun o ho=>by simp [execOp,ho,dD,hx,Instr.storeAt,Instr.sureAddr,wT hc hv hB hfit h1]) (h _ (sJ w g _) (setRow_heap w g cs.toArray _ t _ hB))
/-! ### Calls -/
def bF (P : Program) (f : FuncId) : Prop:=∃ fn,P.funcs[f]? = some fn ∧ (fn.name == "runtime.NumGoroutine") = false ∧ fn.body.isNone = false
def eL (P : Program) (f : FuncId) (args : List Value) (w : World) (R : Value → World → Prop) : Prop :=
 bF P f ∧ Calls P f args.toArray w fun e w'=>∃ v,e = .returned v ∧ dK w w' ∧ R v w'
def iX (P : Program) (f : FuncId) (args : List Value) (v : Value) : Prop:=∀ w,eL P f args w fun u _=>u = v
theorem eL.mono {f : FuncId} {args : List Value} {R R' : Value → World → Prop} (h : eL P f args w R) (hr : ∀ v w',dK w w' → R v w' → R' v w') : eL P f args w R' :=
 ⟨h.1,h.2.mono fun _ _ ⟨v,he,hE,hR⟩=>⟨v,he,hE,hr _ _ hE hR⟩⟩
theorem wU {f : FuncId} {args : Array Value} (h : bF P f) : (callFunc f args).run P w = .ok (.enter f args) w:=by
 obtain ⟨fn,hf,hn,hb⟩:=h;have hn' : ¬ fn.name = "runtime.NumGoroutine" := by simpa using hn
 have hb' : ¬ fn.body = none:=by intro h;rw [h] at hb;cases hb
 simp [callFunc,hf,hn',hb']
theorem lM {f : FuncId} {fo : Operand} {xs : Array Operand} {args : List Value} {first cap : Array Value} {a0 : Array TypeId} (h : bF P f) (hf : ev l fo = .func (.func f) first cap) (hxs : first.toList ++ xs.toList.map (ev l) ++ cap.toList = args) (o : Oper) (ho : o.op = .call { callee:=.value fo,args:=xs,argTypes:=a0 }) :
 (execOp (Fr l).eval o).run P w = .ok (.enter f args.toArray) w:=by
 have e : (Fr l).eval = ev l:=funext dD;have ea : args.toArray = first ++ xs.map (ev l) ++ cap:=by
  rw [← hxs];apply Array.ext';simp
 simp [execOp,ho,resolve,e,hf,Deferred.ofValue,invoke,wU h,ea]
theorem bE {f : FuncId} {fo : Operand} {xs : Array Operand} {args : List Value} {first cap : Array Value} {a0 : Array TypeId} {R : Value → World → Prop} (hf : ev l fo = .func (.func f) first cap) (hxs : first.toList ++ xs.toList.map (ev l) ++ cap.toList = args) (hc : eL P f args w R)
 (h : ∀ v w',dK w w' → R v w' → wpList P ops Q rest (Fr (l.set d v) ds) w') : wpList P ops Q (Oper.mk (some d) (.call { callee:=.value fo,args:=xs,argTypes:=a0 }) ty pos after none :: rest) (Fr l ds) w:=by
 refine wpList_plain rfl fun K hK=>?_;unfold Oper.wp;rw [iF,lM hc.1 hf hxs _ rfl];refine hc.2.mono ?_;rintro e w' ⟨v,rfl,hE,hR⟩;show K ((Fr l ds).put (some d) v) w'
 rw [jA];exact hK _ _ (h v w' hE hR)
theorem uT {f : FuncId} {fo : Operand} {xs : Array Operand} {args : List Value} {first cap : Array Value} {a0 : Array TypeId} (hf : ev l fo = .func (.func f) first cap) (hxs : first.toList ++ xs.toList.map (ev l) ++ cap.toList = args) (hc : iX P f args v)
 (h : ∀ w',dK w w' → wpList P ops Q rest (Fr (l.set d v) ds) w') : wpList P ops Q (Oper.mk (some d) (.call { callee:=.value fo,args:=xs,argTypes:=a0 }) ty pos after none :: rest) (Fr l ds) w :=
 bE hf hxs (hc w) fun _ w' hE hR=>hR ▸ h w' hE
end
section
variable {x y : Operand} {T T' ty : TypeId} {w : World}
variable {ops : Array Oper} {Q : Act → Prop} {rest : List Oper} {d : Nat} {op : Op} {pos : String} {after : Array Edge} {v : Value}
theorem iQ {a : Addr} (hx : ev l x = .pointer (some a)) (hv : ∀ w',dK w w' → vL P w' T a v) (h : wpQuiet P ops (dK w) Q rest (Fr (l.set d v) ds)) : wpQuiet P ops (dK w) Q (Oper.mk (some d) (.load T x) ty pos after none :: rest) (Fr l ds) :=
 wA (fun _ hE=>cM hx (hv _ hE)) h
theorem aaI {f : FuncId} {fo : Operand} {xs : Array Operand} {args : List Value} {first cap : Array Value} {a0 : Array TypeId} (hf : ev l fo = .func (.func f) first cap) (hxs : first.toList ++ xs.toList.map (ev l) ++ cap.toList = args) (hc : ∀ w',dK w w' → eL P f args w' fun u _=>u = v)
 (h : wpQuiet P ops (dK w) Q rest (Fr (l.set d v) ds)) : wpQuiet P ops (dK w) Q (Oper.mk (some d) (.call { callee:=.value fo,args:=xs,argTypes:=a0 }) ty pos after none :: rest) (Fr l ds):=by
 refine wpQuiet_step fun K hK=>?_;rw [if_pos (by simp [Region.wanted])];refine ⟨v,fun w' hw=>?_,?_⟩
 · unfold Oper.quietAt
   rw [iF,lM (hc w' hw).1 hf hxs _ rfl];refine ⟨rfl,(hc w' hw).2.mono ?_⟩;rintro e w'' ⟨u,rfl,hE,rfl⟩;exact ⟨rfl,hw.trans hE⟩
 · show K ((Fr l ds).put (some d) v)
   rw [jA];exact hK _ h
theorem Bn {f : FuncId} {fo : Operand} {xs : Array Operand} {args : List Value} {first cap : Array Value} {a0 : Array TypeId} (hf : ev l fo = .func (.func f) first cap) (hxs : first.toList ++ xs.toList.map (ev l) ++ cap.toList = args) (hc : iX P f args v)
 (h : wpQuiet P ops (dK w) Q rest (Fr (l.set d v) ds)) : wpQuiet P ops (dK w) Q (Oper.mk (some d) (.call { callee:=.value fo,args:=xs,argTypes:=a0 }) ty pos after none :: rest) (Fr l ds) :=
 aaI hf hxs (fun w' _=>hc w') h
end
/-! ### Code -/
section
variable {Q : Exit → Act → World → Prop} {w : World} {c c1 c2 : Code}
theorem aF {a : Act} (h : ∀ K : Act → World → Prop,(∀ a w,c2.wp P Q a w → K a w) → c1.wp P (Exit.then K Q) a w) : (Code.seq c1 c2).wp P Q a w:=wp_seq_k h
theorem lI {x : Operand} {b : Bool} (hx : ev l x = .bool b) (ht : b = true → c1.wp P Q (Fr l ds) w) (hf : b = false → c2.wp P Q (Fr l ds) w) : (Code.cond x c1 c2).wp P Q (Fr l ds) w :=
 wp_cond_split (by rw [iF,dD];exact hx) ht hf
theorem cC {x : Operand} {p : Prop} [Decidable p] (hx : ev l x = .bool (decide p)) (ht : p → c1.wp P Q (Fr l ds) w) (hf : ¬ p → c2.wp P Q (Fr l ds) w) : (Code.cond x c1 c2).wp P Q (Fr l ds) w :=
 lI hx (fun h=>ht (of_decide_eq_true h)) (fun h=>hf (of_decide_eq_false h))
theorem cQ {x : Operand} (hx : ev l x = .bool true) (ht : c1.wp P Q (Fr l ds) w) : (Code.cond x c1 c2).wp P Q (Fr l ds) w:=lI hx (fun _=>ht) (fun h=>by cases h)
theorem iD {x : Operand} (hx : ev l x = .bool false) (hf : c2.wp P Q (Fr l ds) w) : (Code.cond x c1 c2).wp P Q (Fr l ds) w:=lI hx (fun h=>by cases h) (fun _=>hf)
def Res (P : Program) (l : List Value) (w : World) : ResultVar → Value → Prop
 | .tmp t,v=>l.getD t undef = v
 | .cell t T,v=>∃ a,l.getD t undef = .pointer (some a) ∧ vL P w T a v
theorem yM {r : ResultVar} {v : Value} (h : Res P l w r v) : (∃ t,r = .tmp t ∧ l[t]?.getD undef = v) ∨ (∃ t T a,r = .cell t T ∧ l[t]?.getD undef = .pointer (some a) ∧ (loadVar T a).run P w = .ok v w):=by
 cases r with
 | tmp t=>exact .inl ⟨t,rfl,by simpa [Res] using h⟩
 | cell t T =>
  obtain ⟨a,ha,hl⟩:=h;exact .inr ⟨t,T,a,rfl,by simpa using ha,hl⟩
theorem bS {fn : Func} {R : Ending → World → Prop} {r : ResultVar} {v : Value} (hr : fn.results = #[r]) (h : Res P l w r v) (hR : R (.returned v) w) : bodyPost P fn R .ret (Fr l) w:=by
 refine ⟨rfl,v,?_,hR⟩;unfold results;rw [hr];rcases yM h with ⟨t,rfl,h1⟩ | ⟨t,T,a,rfl,h1,h2⟩ <;> simp [*,asAddr]
theorem jW {fn : Func} {R : Ending → World → Prop} {r r' : ResultVar} {v v' : Value} (hr : fn.results = #[r,r']) (h : Res P l w r v) (h' : Res P l w r' v') (hR : R (.returned (.tuple #[v,v'])) w) : bodyPost P fn R .ret (Fr l) w:=by
 refine ⟨rfl,_,?_,hR⟩;unfold results;rw [hr];rcases yM h with ⟨t,rfl,h1⟩ | ⟨t,T,a,rfl,h1,h2⟩ <;> rcases yM h' with ⟨t',rfl,h1'⟩ | ⟨t',T',a',rfl,h1',h2'⟩ <;> simp [*,asAddr]
end
end
/-! ### Numbers,loops,further values -/
theorem aM {x : Int} (h0 : -9223372036854775808 ≤ x) (h1 : x < 9223372036854775808) : IntKind.i64.wrap x = x:=by
 simp [IntKind.wrap,IntKind.bits,IntKind.signed];split <;> omega
theorem eW {x : Int} (h0 : 0 ≤ x) (h1 : x < 18446744073709551616) : IntKind.u64.wrap x = x:=by
 simp [IntKind.wrap,IntKind.bits,IntKind.signed];omega
theorem aaJ {x : Int} (h0 : 0 ≤ x) (h1 : x < 256) : IntKind.u8.wrap x = x:=by
 simp [IntKind.wrap,IntKind.bits,IntKind.signed];omega
def gM : List Value → List Nat → List Value → List Value
 | l,t :: ts,v :: vs=>gM (l.set t v) ts vs
 | l,_,_=>l
theorem Ig {l : List Value} {t : Nat} {ts : List Nat} {v : Value} {vs : List Value} : gM l (t :: ts) (v :: vs) = gM (l.set t v) ts vs:=rfl
theorem tP {l : List Value} {vs : List Value} : gM l [] vs = l:=by cases vs <;> rfl
theorem Kg {l : List Value} {t : Nat} : l.set t (l.getD t undef) = l:=by
 apply List.ext_getElem?;intro i;rw [List.getElem?_set];split
 · rename_i h;subst h
   split
   · rename_i h;simp [h]
   · rename_i h;simp at h;simp [h]
 · rfl
theorem wV : ∀ (ts : List Nat) (l : List Value),gM l ts (ts.map (l.getD · undef)) = l
 | [],l=>tP
 | t :: ts,l=>by
  simp only[List.map_cons,Ig,Kg];exact wV ts l
theorem sK {p : Nat → Prop} (h : ∃ n,p n) : ∃ n,p n ∧ ∀ m,p m → n ≤ m:=by
 obtain ⟨n,hn⟩:=h
 induction n using Nat.strongRecOn with
 | _ n ih =>
  by_cases hx : ∃ m,m < n ∧ p m
  · obtain ⟨m,hm,hp⟩:=hx;exact ih m hm hp
  · exact ⟨n,hn,fun m hm=>Nat.le_of_not_lt fun hlt=>hx ⟨m,hlt,hm⟩⟩
noncomputable def Co (p : Nat → Prop) (h : ∃ n,p n) : Nat:=(sK h).choose
theorem Kh {p : Nat → Prop} (h : ∃ n,p n) : p (Co p h):=(sK h).choose_spec.1
theorem Sk {p : Nat → Prop} (h : ∃ n,p n) {m : Nat} (hm : p m) : Co p h ≤ m:=(sK h).choose_spec.2 m hm
section
variable {P : Program} {ds : List Deferred} {l : List Value}
end
/-! ### Parts of values,slices,new slices -/
section
variable {P : Program} {ds : List Deferred} {l : List Value} {x y : Operand} {T T' ty : TypeId} {k : IntKind} {m n r : Int}
theorem uU {b : Bool} (h : gW P T b) (w : World) : (isAgg T).run P w = .ok b w:=by
 obtain ⟨dd,hu,hd⟩:=h;unfold isAgg;rw [Sem.run_bind,run_underlying hu w];cases dd <;> simp_all [wS]
theorem fO {c : Nat} (h : fB P T c) (w : World) : (sizeOf T).run P w = .ok c w:=by
 obtain ⟨inf,hi,rfl⟩:=h;simp [sizeOf,typeInfo,hi]
theorem fG (cs : Array Value) : (Value.agg cs).cells = cs:=rfl
theorem iL {parts : Array (Nat × Operand)} {vs : Array (Nat × Value)} {v : Value} (hp : (parts.map fun (i,x)=>(i,ev l x)) = vs) (h : ∀ w,(Instr.build T vs).run P w = .ok v w) : gX P l (.build T parts) ty v:=fun w o ho _=>by
 have e : (Fr l).eval = ev l:=funext dD;subst hp;simp only[execOp,ho,e];rw [Sem.run_bind,h w];rfl
theorem eA {fs : Array Field} {places : Array (Nat × Nat)} {z : Value} {cells : Array Value} {vs : Array (Nat × Value)} (hu : P.underlying T = some (.struct fs)) (hz : mT P T z)
 (hpl : ∀ w,(fs.mapM fun f=>do pure (f.offset,← sizeOf f.type) : Sem (Array (Nat × Nat))).run P w = .ok places w) (hf : Instr.fill (places[·]?) z.cells vs.toList = some cells) (w : World) : (Instr.build T vs).run P w = .ok (.agg cells) w:=by
 obtain ⟨inf,hi,h0⟩:=hz;simp only[Instr.build,zeroValue,typeInfo];simp [hi,h0,run_underlying hu];have:=hpl w;simp at this;simp [this,hf]
theorem iH {E : TypeId} {n c : Nat} {z : Value} {cells : Array Value} {vs : Array (Nat × Value)} (hu : P.underlying T = some (.array n E)) (hz : mT P T z) (hc : fB P E c)
 (hf : Instr.fill (fun i=>some (i * c,c)) z.cells vs.toList = some cells) (w : World) : (Instr.build T vs).run P w = .ok (.agg cells) w:=by
 obtain ⟨inf,hi,h0⟩:=hz;simp only[Instr.build,zeroValue,typeInfo];simp [hi,h0,run_underlying hu,fO hc,hf]
theorem Cp {E : TypeId} {len c : Nat} {cs : Array Value} {v : Value} (hu : P.underlying T = some (.array len E)) (hA : gW P E false) (hc : fB P E c) (hx : ev l x = .agg cs) (hy : ev l y = .int k m) (h0 : 0 ≤ m) (h1 : m < len) (hv : cs[m.toNat * c]? = some v) :
 gX P l (.index T x y) ty v:=fun w o ho _=>by
 simp [execOp,ho,dD,hx,hy,Instr.index,asIntOf,run_underlying hu,h0,h1,part,uU hA,fO hc,hv]
theorem rL {E : TypeId} {len c : Nat} {cs us : Array Value} (hu : P.underlying T = some (.array len E)) (hA : gW P E true) (hc : fB P E c) (hx : ev l x = .agg cs) (hy : ev l y = .int k m) (h0 : 0 ≤ m) (h1 : m < len) (hv : cs.extract (m.toNat * c) (m.toNat * c + c) = us) :
 gX P l (.index T x y) ty (.agg us):=fun w o ho _=>by
 subst hv;simp [execOp,ho,dD,hx,hy,Instr.index,asIntOf,run_underlying hu,h0,h1,part,uU hA,fO hc]
theorem nN {s : ByteArray} {b : UInt8} (hu : P.underlying T = some .string) (hx : ev l x = .string s) (hy : ev l y = .int k m) (h0 : 0 ≤ m) (hb : s[m.toNat]? = some b) :
 gX P l (.index T x y) ty (.int .u8 b.toNat):=fun w o ho _=>by
 simp [execOp,ho,dD,hx,hy,Instr.index,asIntOf,run_underlying hu,h0,hb]
theorem kZ {E : TypeId} {A : Option Addr} {len cap c : Nat} (hu : P.underlying T = some (.slice E)) (hc : fB P E c) {q : Nat} (hx : ev l x = .slice A len cap) (hy : ev l y = .int k m) (hq : m.toNat = q) (h0 : 0 ≤ m) (h1 : m ≤ cap) :
 gX P l (.slice T x none (some y) none) ty (.slice A q cap):=fun w o ho _=>by
 subst hq;have e : (if cap = 0 then A else Option.map (fun a=>a.add 0) A) = A:=by
  split
  · rfl
  · cases A <;> simp [Addr.add]
 have h1' : ¬ (m.toNat : Int) > cap:=by omega
 simp [execOp,ho,dD,hx,hy,Instr.sliceAt,Instr.slice,Instr.sliceBounds,Instr.sliceBound,asIntOf,run_underlying hu,h0,h1,fO hc];intro _;cases A <;> simp [Addr.add]
theorem kM {E : TypeId} {A A' : Option Addr} {len cap c : Nat} (hu : P.underlying T = some (.slice E)) (hc : fB P E c) {q : Nat} (hx : ev l x = .slice A len cap) (hy : ev l y = .int k m) (hq : m.toNat = q) (h0 : 0 ≤ m) (h1 : m ≤ len) (hA : (if cap = q then A else A.map (·.add (q * c))) = A') :
 gX P l (.slice T x (some y) none none) ty (.slice A' (len - q) (cap - q)):=fun w o ho _=>by
 subst hq;subst hA;simp [execOp,ho,dD,hx,hy,Instr.sliceAt,Instr.slice,Instr.sliceBounds,Instr.sliceBound,asIntOf,run_underlying hu,h0,h1,fO hc]
theorem Ai {z : Operand} {k' : IntKind} {E : TypeId} {A A' : Option Addr} {len cap c : Nat} (hu : P.underlying T = some (.slice E)) (hc : fB P E c) {q q' : Nat} (hx : ev l x = .slice A len cap) (hy : ev l y = .int k m) (hz : ev l z = .int k' n) (hq : m.toNat = q) (hq' : n.toNat = q') (h0 : 0 ≤ m) (h1 : m ≤ n) (h2 : n ≤ cap) (hA : (if cap = q then A else A.map (·.add (q * c))) = A') :
 gX P l (.slice T x (some y) (some z) none) ty (.slice A' (q' - q) (cap - q)):=fun w o ho _=>by
 subst hq;subst hq';subst hA;have e1 : (0:Int) ≤ n:=by omega
 have e2 : m ≤ max n 0:=by omega
 simp [execOp,ho,dD,hx,hy,hz,Instr.sliceAt,Instr.slice,Instr.sliceBounds,Instr.sliceBound,asIntOf,run_underlying hu,h0,h1,h2,e1,e2,fO hc]
theorem We {s : ByteArray} (hu : P.underlying T = some .string) (hx : ev l x = .string s) (hy : ev l y = .int k m) (h0 : 0 ≤ m) (h1 : m ≤ s.size) :
 gX P l (.slice T x (some y) none none) ty (.string (s.extract m.toNat s.size)):=fun w o ho _=>by
 simp [execOp,ho,dD,hx,hy,Instr.sliceAt,Instr.slice,Instr.sliceBounds,Instr.sliceBound,asIntOf,run_underlying hu,h0,h1]
variable {ops : Array Oper} {Q : Exit → Act → World → Prop} {rest : List Oper} {d : Nat} {pos : String} {after : Array Edge} {w : World}
theorem jE {E : TypeId} {b : Nat} {kc : IntKind} {z : Value} (hu : P.underlying T = some (.slice E)) (hi : (P.info? E).map (fun i=>(i.size,i.bytes,i.zero)) = some (1,b,some z)) (hzc : z.cells = #[z]) {q q' : Nat} (hx : ev l x = .int k m) (hy : ev l y = .int kc n) (hq : m.toNat = q) (hq' : n.toNat = q') (h0 : 0 ≤ m) (h1 : m ≤ n) (hn : n ≤ 9223372036854775807) (hb : (b : Int) * n ≤ 281474976710656)
 (h : ∀ w' g,dK w w' → w.heap.size ≤ g → gD w' g (List.replicate q' z) E → wpList P ops Q rest (Fr (l.set d (.slice (some ⟨g,0,none⟩) q q')) ds) w') :
 wpList P ops Q (Oper.mk (some d) (.makeSlice T x y) ty pos after none :: rest) (Fr l ds) w:=by
 subst hq;subst hq';cases hq : P.info? E with
 | none=>rw [hq] at hi;cases hi
 | some i =>
  rw [hq] at hi;simp only[Option.map_some,Option.some.injEq,Prod.mk.injEq] at hi;obtain ⟨e1,e2,e3⟩:=hi;subst e2;have hr:=run_make (P:=P) w T E i z hu hq e3 k kc m n h0 h1 hb hn;have hc : madeCells z.cells (n.toNat * i.size) = (List.replicate n.toNat z).toArray:=by
   rw [e1,hzc,Nat.mul_one];apply Array.ext';rw [toList_madeCells_one]
  rw [hc] at hr;exact kN (fun o ho _=>by simp [execOp,ho,dD,hx,hy,hr]) (h _ _ ((dK.refl w).alloc _) (Nat.le_refl _) (iN w _ E))
def iR (w : World) (base : Nat) (e : TypeId) (size : Nat) (v : Value) (n : Nat) (xs : List Value) : Prop:=w.ownsRow base e size v n xs
structure Bg (w w' : World) (base : Nat) : Prop where
 os : w'.os = w.os
 tape : w'.tape = w.tape
 output : w'.output = w.output
 size : w.heap.size ≤ w'.heap.size
 block : ∀ k,k < base → w'.heap[k]? = w.heap[k]?
theorem iR.nil (w : World) (base : Nat) (e : TypeId) (size : Nat) : iR w base e size (.slice none 0 0) 0 []:=World.ownsRow_nil w base e size
theorem Bg.refl (w : World) (base : Nat) : Bg w w base:=⟨rfl,rfl,rfl,Nat.le_refl _,fun _ _=>rfl⟩
theorem dK.grew {w w' : World} (h : dK w w') {base : Nat} (hb : base ≤ w.heap.size) : Bg w w' base:=⟨h.os,h.tape,h.output,h.size,fun k hk=>Below.block h k (by omega)⟩
theorem gD.grew {w w' : World} {g base : Nat} {cs : List Value} {t : TypeId} (h : gD w g cs t) (hG : Bg w w' base) (hg : g < base) : gD w' g cs t:=(hG.block g hg).trans h
theorem dK.grown {w0 w w' : World} {base : Nat} (h : dK w0 w) (hG : Bg w w' base) (hb : w0.heap.size ≤ base) : dK w0 w' :=
 ⟨hG.os.trans h.os,hG.tape.trans h.tape,hG.output.trans h.output,Nat.le_trans h.size hG.size,fun k hk=>(hG.block k (by omega)).trans (Below.block h k hk)⟩
theorem Nu {w : World} {base : Nat} {e : TypeId} {size : Nat} {v : Value} {n : Nat} {xs : List Value} (h : w.ownsRow base e size v n xs) {w' : World} (hg : w.grownBy w' v.ownBlock) (hb : base ≤ w.heap.size) : Bg w w' base:=by
 refine ⟨hg.os,hg.tape,hg.output,hg.size,fun k hk=>hg.block k (by omega) fun hc=>?_⟩;rcases h.2 with ⟨rfl,_⟩ | ⟨g,cap,cur,rfl,hbg,_⟩
 · cases hc
 · simp [Value.ownBlock] at hc
   omega
theorem iR.ext {w w' : World} {base : Nat} {e : TypeId} {size : Nat} {v : Value} {n : Nat} {xs : List Value} (h : iR w base e size v n xs) (hE : dK w w') : iR w' base e size v n xs:=by
 refine ⟨h.1,?_⟩;rcases h.2 with h | ⟨g,cap,cur,rfl,hbg,hg,h1,h2,h3,h4⟩
 · exact .inl h
 · exact .inr ⟨g,cap,cur,rfl,hbg,hE.block hg,h1,h2,h3,h4⟩
theorem iR.row {w : World} {base : Nat} {e : TypeId} {size : Nat} {v : Value} {n : Nat} {xs : List Value} (h : iR w base e size v n xs) : (v = .slice none 0 0 ∧ n = 0 ∧ xs = []) ∨ ∃ g cap,v = .slice (some ⟨g,0,none⟩) n cap ∧ base ≤ g ∧ n ≤ cap ∧ cap ≤ maxLen ∧ g < w.heap.size ∧ jL w ⟨g,0,none⟩ xs:=by
 rcases h.2 with ⟨rfl,rfl⟩ | ⟨g,cap,cur,rfl,hbg,hg,h1,h2,h3,h4⟩
 · exact .inl ⟨rfl,rfl,List.eq_nil_of_length_eq_zero (by simpa using h.1)⟩
 · refine .inr ⟨g,cap,rfl,hbg,h1,h2,(Array.getElem?_eq_some_iff.1 hg).1,fun j u hj=>?_⟩
   rw [gE,Nat.zero_add,cell_of_row w g j cur e (0,0) hg];rw [← h4,List.getElem?_take] at hj;split at hj
   · simpa using hj
   · cases hj
theorem fU {s0 x0 : Operand} {base c b nn mm cap : Nat} {E : TypeId} {z v : Value} {xs news : List Value} {ad : Addr} {a0 : Array TypeId} (ha : a0 = #[T,T]) (hu : P.underlying T = some (.slice E)) (hi : (P.info? E).map (fun i=>(i.size,i.bytes,i.zero)) = some (c,b,some z)) (hz : z.cells.size = c) (hc : 0 < c)
 (hs : ev l s0 = v) (hown : iR w base E c v nn xs) (hx : ev l x0 = .slice (some ad) mm cap) (hl : news.length = mm * c) (hrow : jL w ad news) (h1 : ∀ u ∈ news,u.oneCell' = true) (h63 : nn + mm ≤ 9223372036854775807) (hbytes : (nn + mm) * b ≤ 140737488355328) (hbase : base ≤ w.heap.size)
 (h : ∀ v' w',iR w' base E c v' (nn + mm) (xs ++ news) → Bg w w' base → (v' = .slice none 0 0 ↔ v = .slice none 0 0 ∧ mm = 0) → wpList P ops Q rest (Fr (l.set d v') ds) w') :
 wpList P ops Q (Oper.mk (some d) (.call { callee:=.builtin .append,args:=#[s0,x0],argTypes:=a0 }) ty pos after none :: rest) (Fr l ds) w:=by
 subst ha;cases hq : P.info? E with
 | none=>rw [hq] at hi;cases hi
 | some i =>
  rw [hq] at hi;simp only[Option.map_some,Option.some.injEq,Prod.mk.injEq] at hi;obtain ⟨e1,e2,e3⟩:=hi;refine wpList_append_own w rfl s0 x0 T rfl base E i z c b hu hq e3 e1 e2 hz hc v nn xs (by rw [iF,dD];exact hs) hown ad mm cap news (by rw [iF,dD];exact hx) hl hrow h1 (by simpa [maxLen] using h63) hbytes hbase ?_;intro v' w' ho hg hn;show wpList P ops Q rest ((Fr l ds).put (some d) v') w'
  rw [jA];exact h v' w' ho (Nu hown hg hbase) hn
theorem Sl {s0 x0 : Operand} {base c b nn cap : Nat} {E : TypeId} {z v : Value} {xs : List Value} {a0 : Array TypeId} (ha : a0 = #[T,T]) (hu : P.underlying T = some (.slice E)) (hi : (P.info? E).map (fun i=>(i.size,i.bytes,i.zero)) = some (c,b,some z))
 (hs : ev l s0 = v) (hown : iR w base E c v nn xs) (hx : ev l x0 = .slice none 0 cap)
 (h : wpList P ops Q rest (Fr (l.set d v) ds) w) :
 wpList P ops Q (Oper.mk (some d) (.call { callee:=.builtin .append,args:=#[s0,x0],argTypes:=a0 }) ty pos after none :: rest) (Fr l ds) w:=by
 subst ha;cases hq : P.info? E with
 | none=>rw [hq] at hi;cases hi
 | some i =>
  refine kN (w':=w) (fun o ho _=>?_) h;rcases hown.2 with ⟨rfl,rfl⟩ | ⟨g,cp,cur,rfl,hbg,hg,h1,h2,h3,h4⟩
  · simp [execOp,ho,resolve,invoke,builtin,dD,hs,hx,Builtin.append_,run_underlying hu,sizeOf,typeInfo,hq,Builtin.lenOf,Builtin.firstCells]
  · simp [execOp,ho,resolve,invoke,builtin,dD,hs,hx,Builtin.append_,run_underlying hu,sizeOf,typeInfo,hq,Builtin.lenOf,Builtin.firstCells,h1,storeCells]
end
section
variable {P : Program} {ds : List Deferred} {l : List Value} {x y : Operand} {T T' ty : TypeId} {k : IntKind} {m n r : Int}
theorem bW (hx : ev l x = .int k m) (hy : ev l y = .int k n) (h : m < n) : gX P l (.binOp .lss T x y T') ty (.bool true):=by
 have:=cO (P:=P) (T:=T) (T':=T') (ty:=ty) hx hy;rwa [decide_eq_true h] at this
theorem eM (hx : ev l x = .int k m) (hy : ev l y = .int k n) (h : ¬ m < n) : gX P l (.binOp .lss T x y T') ty (.bool false):=by
 have:=cO (P:=P) (T:=T) (T':=T') (ty:=ty) hx hy;rwa [decide_eq_false h] at this
theorem Nv (hx : ev l x = .int k m) (hy : ev l y = .int k n) (h : m ≤ n) : gX P l (.binOp .leq T x y T') ty (.bool true):=by
 have:=Cn (P:=P) (T:=T) (T':=T') (ty:=ty) hx hy;rwa [decide_eq_true h] at this
theorem Nw (hx : ev l x = .int k m) (hy : ev l y = .int k n) (h : ¬ m ≤ n) : gX P l (.binOp .leq T x y T') ty (.bool false):=by
 have:=Cn (P:=P) (T:=T) (T':=T') (ty:=ty) hx hy;rwa [decide_eq_false h] at this
theorem wB (hx : ev l x = .int k m) (hy : ev l y = .int k n) (h : n < m) : gX P l (.binOp .gtr T x y T') ty (.bool true):=by
 have:=oE (P:=P) (T:=T) (T':=T') (ty:=ty) hx hy;rwa [decide_eq_true h] at this
theorem tQ (hx : ev l x = .int k m) (hy : ev l y = .int k n) (h : ¬ n < m) : gX P l (.binOp .gtr T x y T') ty (.bool false):=by
 have:=oE (P:=P) (T:=T) (T':=T') (ty:=ty) hx hy;rwa [decide_eq_false h] at this
theorem Ih (hx : ev l x = .int k m) (hy : ev l y = .int k n) (h : n ≤ m) : gX P l (.binOp .geq T x y T') ty (.bool true):=by
 have:=pP (P:=P) (T:=T) (T':=T') (ty:=ty) hx hy;rwa [decide_eq_true h] at this
theorem Wf (hx : ev l x = .int k m) (hy : ev l y = .int k n) (h : ¬ n ≤ m) : gX P l (.binOp .geq T x y T') ty (.bool false):=by
 have:=pP (P:=P) (T:=T) (T':=T') (ty:=ty) hx hy;rwa [decide_eq_false h] at this
theorem qT (hx : ev l x = .int k m) (hy : ev l y = .int k n) (h : m = n) : gX P l (.binOp .eql T x y T') ty (.bool true):=by
 have:=rJ (P:=P) (T:=T) (T':=T') (ty:=ty) hx hy;rwa [decide_eq_true h] at this
theorem Nx (hx : ev l x = .int k m) (hy : ev l y = .int k n) (h : ¬ m = n) : gX P l (.binOp .eql T x y T') ty (.bool false):=by
 have:=rJ (P:=P) (T:=T) (T':=T') (ty:=ty) hx hy;rwa [decide_eq_false h] at this
theorem acp (hx : ev l x = .int k m) (hy : ev l y = .int k n) (h : m ≠ n) : gX P l (.binOp .neq T x y T') ty (.bool true):=by
 have:=kW (P:=P) (T:=T) (T':=T') (ty:=ty) hx hy;rwa [decide_eq_true h] at this
theorem acq (hx : ev l x = .int k m) (hy : ev l y = .int k n) (h : ¬ m ≠ n) : gX P l (.binOp .neq T x y T') ty (.bool false):=by
 have:=kW (P:=P) (T:=T) (T':=T') (ty:=ty) hx hy;rwa [decide_eq_false h] at this
theorem cJ {c : Operand} (hc : ev l c = .bool true) : gX P l (.pick c x y) ty (ev l x):=If hc
theorem cG {c : Operand} (hc : ev l c = .bool false) : gX P l (.pick c x y) ty (ev l y):=If hc
theorem fI {op : Op} {v u : Value} (h : gX P l op ty v) (e : v = u) : gX P l op ty u:=e ▸ h
theorem cD {b c : Bool} (h : b = c) : Value.bool b = Value.bool c:=by rw [h]
theorem Wg {k : IntKind} {a b : Int} (h : a = b) : Value.int k a = Value.int k b:=by rw [h]
end
def pS : List Value → List Nat → (Nat → Value) → List Value
 | l,t :: ts,g=>pS (l.set t (g t)) ts g
 | l,[],_=>l
theorem Sn {l : List Value} {t : Nat} {ts : List Nat} {g : Nat → Value} : pS l (t :: ts) g = pS (l.set t (g t)) ts g:=rfl
theorem adZ {l : List Value} {g : Nat → Value} : pS l [] g = l:=rfl
theorem So : ∀ (ts : List Nat) (l : List Value),pS l ts (l.getD · undef) = l:=by
 intro ts;have key : ∀ (ts : List Nat) (l : List Value) (g : Nat → Value),(∀ t,l.set t (g t) = l) → pS l ts g = l:=by
  intro ts
  induction ts with
  | nil=>intro l g _;rfl
  | cons t ts ih=>intro l g h;rw [Sn,h t];exact ih l g h
 exact fun l=>key ts l _ fun t=>Kg
section
variable {P : Program} {ds : List Deferred} {l : List Value}
theorem bJ {c : Code} {Q : Exit → Act → World → Prop} {w : World} (ts ss : List Nat) (I : Nat → List Value → World → Prop) (h0 : ∃ n,I n (ts.map (l.getD · undef)) w)
 (hr : ∀ n vs w,I n vs w → ∀ g : Nat → Value,c.wp P (Exit.then (fun a' w'=>∃ n' l',n' < n ∧ a' = Fr l' ∧ pS (gM l ts (ts.map (l'.getD · undef))) ss (l'.getD · undef) = l' ∧ I n' (ts.map (l'.getD · undef)) w') Q) (Fr (pS (gM l ts vs) ss g)) w) : (Code.loop c).wp P Q (Fr l) w:=by
 obtain ⟨n0,h0⟩:=h0
 let J : Nat → Act → World → Prop:=fun n a w=>∃ vs g,a = Fr (pS (gM l ts vs) ss g) ∧ I n vs w
 have hJ0 : ∃ n,J n (Fr l) w:=⟨n0,_,(l.getD · undef),by rw [wV,So],h0⟩
 let μ : Act → World → Nat:=fun a w=>@dite _ (∃ n,J n a w) (Classical.propDecidable _) (fun h=>Co (fun n=>J n a w) h) (fun _=>0)
 refine wp_loop (fun a w=>∃ n,J n a w) μ hJ0 ?_;intro a w hI;obtain ⟨vs,g,rfl,hIv⟩:=Kh hI;refine Code.wp_mono ?_ (hr _ vs w hIv g);intro e a' w' hq;cases e with
 | normal =>
  obtain ⟨n',l',hlt,rfl,he,hI'⟩:=hq;have hJ : J n' (Fr l') w':=⟨_,(l'.getD · undef),by rw [he],hI'⟩
  refine ⟨⟨n',hJ⟩,?_⟩;have e1 : μ (Fr l') w' = Co (fun n=>J n (Fr l') w') ⟨n',hJ⟩:=by simp only[μ];rw [dif_pos ⟨n',hJ⟩]
  have e2 : μ (Fr (pS (gM l ts vs) ss g)) w = Co (fun n=>J n (Fr (pS (gM l ts vs) ss g)) w) hI:=by simp only[μ];rw [dif_pos hI]
  rw [e1,e2];exact Nat.lt_of_le_of_lt (Sk _ hJ) hlt
 | exit id=>exact hq
 | goto id=>exact hq
 | ret=>exact hq
 | panic ch=>exact hq
 | outgrown=>exact hq
end
section
variable {P : Program} {ds : List Deferred} {l : List Value} {ops : Array Oper} {Q : Exit → Act → World → Prop} {w : World} {rest : List (Oper × Bool)} {d : Nat} {op : Op} {ty : TypeId} {pos : String} {after : Array Edge} {v : Value}
theorem vN (hr : gX P l op ty v) (h : dY P ops Q rest (Fr (l.set d v) ds) w) : dY P ops Q ((Oper.mk (some d) op ty pos after none,true) :: rest) (Fr l ds) w:=by
 refine ⟨v,.inl ⟨by simp [Region.wanted],fun w=>hr w _ rfl rfl⟩,?_⟩;show dY P ops Q rest ((Fr l ds).put (some d) v) w
 rw [jA];exact h
theorem ad0 (h : Q .normal (Fr l ds) w) : dY P ops Q [] (Fr l ds) w:=h
theorem acr {o : Oper} (h : wpList P ops (Exit.then (dY P ops Q rest) Q) [o] (Fr l ds) w) : dY P ops Q ((o,false) :: rest) (Fr l ds) w:=h
theorem dL {Q : Exit → Act → World → Prop} (h : ∀ c (t : Array Value) ds (t' : Array Value) w,Q (.panic c) { tmps:=t,defers:=ds } w → Q (.panic c) { tmps:=t',defers:=ds } w) : ∀ c d v a w,Q (.panic c) (Act.put a d v) w → Q (.panic c) a w:=by
 intro c d v a w hq;cases d with
 | none=>exact hq
 | some d=>exact h c _ _ _ w hq
end
end Go.Lith
namespace Go.Lith
/-! ### Digits -/
def val (B : Nat) : List Nat → Nat
 | []=>0
 | x :: xs=>x + B * val B xs
def trim : List Nat → List Nat
 | []=>[]
 | x :: xs=>if trim xs = [] ∧ x = 0 then [] else x :: trim xs
def cZ (B : Nat) (xs : List Nat) : Prop:=∀ x ∈ xs,x < B
theorem eI (B : Nat) : ∀ xs ys : List Nat,val B (xs ++ ys) = val B xs + B ^ xs.length * val B ys
 | [],ys=>by simp [val]
 | x :: xs,ys=>by simp only[List.cons_append,val,eI B xs ys,List.length_cons,Nat.pow_succ];grind
theorem gZ {B : Nat} : ∀ {xs : List Nat},cZ B xs → val B xs < B ^ xs.length
 | [],_=>by simp [val]
 | x :: xs,h=>by
  have h1 : x < B:=h x (by simp);have h2:=gZ (xs:=xs) fun y hy=>h y (by simp [hy]);simp only[val,List.length_cons,Nat.pow_succ];have h3 : val B xs + 1 ≤ B ^ xs.length:=h2;have:=Nat.mul_le_mul_left B h3
  grind
theorem jF (B : Nat) : ∀ xs : List Nat,val B (trim xs) = val B xs
 | []=>rfl
 | x :: xs=>by
  have ih:=jF B xs;simp only[trim];split
  · rename_i h;rw [h.1] at ih;simp only[val] at ih ⊢;rw [← ih,h.2];simp
  · simp only[val,ih]
theorem gS : ∀ xs : List Nat,trim xs = xs.take (trim xs).length
 | []=>rfl
 | x :: xs=>by
  simp only[trim];split
  · rfl
  · simp only[List.length_cons,List.take_succ_cons];rw [← gS xs]
theorem cZ.take {B : Nat} {xs : List Nat} (h : cZ B xs) (n : Nat) : cZ B (xs.take n):=fun x hx=>h x (List.mem_of_mem_take hx)
theorem cZ.drop {B : Nat} {xs : List Nat} (h : cZ B xs) (n : Nat) : cZ B (xs.drop n):=fun x hx=>h x (List.mem_of_mem_drop hx)
theorem cZ.trim {B : Nat} {xs : List Nat} (h : cZ B xs) : cZ B (trim xs):=by rw [gS];exact h.take _
theorem cZ.append {B : Nat} {xs ys : List Nat} (h : cZ B xs) (k : cZ B ys) : cZ B (xs ++ ys):=fun x hx=>by
 rcases List.mem_append.1 hx with h' | h'
 · exact h x h'
 · exact k x h'
theorem kG (B : Nat) : cZ B []:=fun _ h=>by cases h
theorem lA {B x : Nat} {xs : List Nat} (hx : x < B) (h : cZ B xs) : cZ B (x :: xs):=fun y hy=>by
 rcases List.mem_cons.1 hy with rfl | h'
 · exact hx
 · exact h y h'
theorem cZ.set {B : Nat} {xs : List Nat} (h : cZ B xs) {i x : Nat} (hx : x < B) : cZ B (xs.set i x):=fun y hy=>by
 rcases List.mem_or_eq_of_mem_set hy with h' | rfl
 · exact h y h'
 · exact hx
theorem cZ.get {B : Nat} {xs : List Nat} (h : cZ B xs) {i x : Nat} (hi : xs[i]? = some x) : x < B:=h x (List.mem_of_getElem? hi)
def fS (xs : List Nat) : Prop:=trim xs = xs
theorem Gg : ∀ xs : List Nat,trim (trim xs) = trim xs
 | []=>rfl
 | x :: xs=>by
  have ih:=Gg xs;simp only[trim];split
  · rfl
  · rename_i h;simp only[trim,ih];rw [if_neg h]
theorem jX (xs : List Nat) : fS (trim xs):=Gg xs
theorem fS.tail {x : Nat} {xs : List Nat} (h : fS (x :: xs)) : fS xs:=by
 unfold fS at *
 simp only[trim] at h;split at h
 · cases h
 · simpa using h
theorem wW {B : Nat} (hB : 0 < B) : ∀ {xs : List Nat},fS xs → xs ≠ [] → 0 < val B xs
 | [],_,h=>absurd rfl h
 | x :: xs,ht,_=>by
  simp only[val];by_cases hx : xs = []
  · subst hx
    have : x ≠ 0:=by
     rintro rfl;simp [fS,trim] at ht
    omega
  · have:=Nat.mul_pos hB (wW hB ht.tail hx)
    omega
theorem qK {B : Nat} (hB : 1 < B) : ∀ {xs ys : List Nat},cZ B xs → cZ B ys → fS xs → fS ys → val B xs = val B ys → xs = ys
 | [],[],_,_,_,_,_=>rfl
 | [],y :: ys,_,_,_,hy,h=>by have:=wW (B:=B) (by omega) hy (by simp);rw [← h] at this;simp [val] at this
 | x :: xs,[],_,_,hx,_,h=>by have:=wW (B:=B) (by omega) hx (by simp);rw [h] at this;simp [val] at this
 | x :: xs,y :: ys,hx,hy,tx,ty,h=>by
  simp only[val] at h;have h1 : x < B:=hx x (by simp);have h2 : y < B:=hy y (by simp);have e1 : x = y:=by
   have:=congrArg (· % B) h;simpa [Nat.add_mul_mod_self_left,Nat.mod_eq_of_lt h1,Nat.mod_eq_of_lt h2] using this
  subst e1;have e2 : val B xs = val B ys:=by
   have : B * val B xs = B * val B ys:=by omega
   exact Nat.eq_of_mul_eq_mul_left (by omega) this
  rw [qK hB (fun z hz=>hx z (by simp [hz])) (fun z hz=>hy z (by simp [hz])) tx.tail ty.tail e2]
def Gh (B : Nat) : Nat → Nat → List Nat
 | 0,_=>[]
 | f + 1,n=>if n = 0 then [] else (n % B) :: Gh B f (n / B)
def digs (B n : Nat) : List Nat:=Gh B n n
theorem sL {B : Nat} (hB : 1 < B) : ∀ (f n : Nat),n ≤ f → val B (Gh B f n) = n ∧ cZ B (Gh B f n) ∧ fS (Gh B f n)
 | 0, n, h => by
  obtain rfl : n = 0 := by omega
  exact ⟨rfl,kG B,rfl⟩
 | f + 1,n,h=>by
  simp only[Gh];split
  · rename_i h0;exact ⟨by simp [val,h0],kG B,rfl⟩
  · rename_i h0
    have hlt : n / B ≤ f:=by
     have:=Nat.div_lt_self (Nat.pos_of_ne_zero h0) hB;omega
    obtain ⟨h1,h2,h3⟩:=sL hB f (n / B) hlt;refine ⟨by simp only[val,h1];exact Nat.mod_add_div n B,lA (Nat.mod_lt _ (by omega)) h2,?_⟩;unfold fS at *
    simp only[trim,h3];rw [if_neg];rintro ⟨h4,h5⟩;rw [h4] at h1;simp only[val] at h1;have:=Nat.mod_add_div n B;rw [h5,← h1] at this;omega
theorem oF {B : Nat} (hB : 1 < B) (n : Nat) : val B (digs B n) = n:=(sL hB n n (Nat.le_refl _)).1
theorem pK {B : Nat} (hB : 1 < B) (n : Nat) : cZ B (digs B n):=(sL hB n n (Nat.le_refl _)).2.1
theorem mW {B : Nat} (hB : 1 < B) (n : Nat) : fS (digs B n):=(sL hB n n (Nat.le_refl _)).2.2
theorem lB {B : Nat} (hB : 1 < B) {xs : List Nat} (h : cZ B xs) {n : Nat} (hv : val B xs = n) : trim xs = digs B n :=
 qK hB h.trim (pK hB n) (jX xs) (mW hB n) (by rw [jF,oF hB,hv])
theorem qL {B n : Nat} (hB : 1 < B) : digs B n = [] ↔ n = 0:=by
 constructor
 · intro h;rw [← oF hB n,h];rfl
 · rintro rfl;rfl
theorem dQ {B n k : Nat} (hB : 1 < B) (h : n < B ^ k) : (digs B n).length ≤ k:=by
 rcases Nat.lt_or_ge k (digs B n).length with hlt | hge
 · exfalso
   have hne : (digs B n) ≠ []:=by intro h';rw [h'] at hlt;simp at hlt
   -- the greatest digit is not 0
   have key : ∀ xs : List Nat,fS xs → xs ≠ [] → B ^ (xs.length - 1) ≤ val B xs:=by
    intro xs
    induction xs with
    | nil=>intro _ h;exact absurd rfl h
    | cons x xs ih =>
     intro ht _;by_cases hx : xs = []
     · subst hx
       have:=wW (B:=B) (by omega) ht (by simp);simp [val] at this ⊢;omega
     · have:=ih ht.tail hx
       have h2 : xs.length ≠ 0:=by simpa using hx
       simp only[List.length_cons,val,Nat.add_sub_cancel];have e : xs.length = (xs.length - 1) + 1:=by omega
       rw [e,Nat.pow_succ];have:=Nat.mul_le_mul_left B this
       grind
   have:=key _ (mW hB n) hne;rw [oF hB] at this;have h3 : B ^ k ≤ B ^ ((digs B n).length - 1):=Nat.pow_le_pow_right (by omega) (by omega);omega
 · exact hge
/-! ### Numbers as values -/
def iE (n : Int) : Bool:=decide (n < 0)
def kS (n : Nat) : List UInt8:=(digs 256 n).reverse.map UInt8.ofNat
def mX (n : Int) : ByteArray:=⟨(kS n.natAbs).toArray⟩
def W (n : Int) : Value:=.agg #[.bool (iE n),.string (mX n)]
def Bd (k : Nat) (n : Int) : Prop:=n.natAbs < 2 ^ k
theorem Bd.mono {a b : Nat} {n : Int} (h : Bd a n) (hab : a ≤ b) : Bd b n:=Nat.lt_of_lt_of_le h (Nat.pow_le_pow_right (by omega) hab)
theorem Bd.neg {a : Nat} {n : Int} (h : Bd a n) : Bd a (-n):=by unfold Bd at *;rwa [Int.natAbs_neg]
theorem Bd.add {a b : Nat} {m n : Int} (h : Bd a m) (k : Bd b n) : Bd (max a b + 1) (m + n):=by
 unfold Bd at *
 have h1 : (m + n).natAbs ≤ m.natAbs + n.natAbs:=Int.natAbs_add_le m n;have h2 : 2 ^ a ≤ 2 ^ max a b:=Nat.pow_le_pow_right (by omega) (Nat.le_max_left a b);have h3 : 2 ^ b ≤ 2 ^ max a b:=Nat.pow_le_pow_right (by omega) (Nat.le_max_right a b);rw [Nat.pow_succ];omega
theorem Bd.sub {a b : Nat} {m n : Int} (h : Bd a m) (k : Bd b n) : Bd (max a b + 1) (m - n):=by rw [Int.sub_eq_add_neg];exact h.add k.neg
theorem Bd.mul {a b : Nat} {m n : Int} (h : Bd a m) (k : Bd b n) : Bd (a + b) (m * n):=by
 unfold Bd at *
 rw [Int.natAbs_mul,Nat.pow_add];exact Nat.mul_lt_mul_of_lt_of_lt h k
theorem Bd.of_i64 {n : Int} (h0 : -9223372036854775808 ≤ n) (h1 : n ≤ 9223372036854775807) : Bd 64 n:=by
 unfold Bd;omega
theorem Qr (k : Nat) : Bd k 0:=by unfold Bd;exact Nat.two_pow_pos k
theorem Gi (n : Int) : (mX n).size = (digs 256 n.natAbs).length:=by simp [mX,ByteArray.size,kS]
theorem Ii {k : Nat} {n : Int} (h : Bd k n) : (mX n).size ≤ k:=by
 rw [Gi];refine dQ (by omega) (Nat.lt_of_lt_of_le h ?_);rw [show 256 = 2 ^ 8 from rfl,← Nat.pow_mul];exact Nat.pow_le_pow_right (by omega) (by omega)
theorem Ki {m n : Nat} (h : kS m = kS n) : m = n:=by
 have key : ∀ k,val 256 (((kS k).map UInt8.toNat).reverse) = k:=by
  intro k;have e : ((kS k).map UInt8.toNat).reverse = digs 256 k:=by
   unfold kS;rw [List.map_map,← List.map_reverse,List.reverse_reverse];have : ∀ x ∈ digs 256 k,(UInt8.toNat ∘ UInt8.ofNat) x = x:=by
    intro x hx;have:=pK (B:=256) (by omega) k x hx;simp;omega
   exact (List.map_congr_left this).trans (List.map_id' _)
  rw [e,oF (by omega)]
 rw [← key m,← key n,h]
theorem ad1 {m n : Int} (h : W m = W n) : m = n:=by
 simp only[W,Value.agg.injEq,Array.mk.injEq,List.cons.injEq,Value.bool.injEq,Value.string.injEq,and_true] at h;obtain ⟨h1,h2⟩:=h;have h3 : m.natAbs = n.natAbs:=by
  have : kS m.natAbs = kS n.natAbs:=by simpa [mX] using h2
  exact Ki this
 unfold iE at h1;have : (m < 0) ↔ (n < 0):=by simpa using h1
 omega
end Go.Lith
namespace Go.Lith
structure dM (w : World) (A : Option Addr) (n cap : Nat) (xs : List Nat) : Prop where
 eq : n = xs.length
 row : ∀ (i x : Nat),xs[i]? = some x → ∃ a,A = some a ∧ w.cell? (a.add i) = some (.int .u64 (x : Int))
 le : xs.length ≤ cap
 cap : cap ≤ 9223372036854775807
 len : xs.length ≤ 17592186044416
 digs : cZ 4294967296 xs
section
variable {w : World} {A : Option Addr} {n cap : Nat} {xs : List Nat}
theorem dM.ext {w' : World} (h : dM w A n cap xs) (hE : dK w w') : dM w' A n cap xs :=
 ⟨h.eq,fun i x hi=>let ⟨a,e,hc⟩:=h.row i x hi;⟨a,e,hE.cell hc⟩,h.le,h.cap,h.len,h.digs⟩
theorem dM.take (h : dM w A n cap xs) (k : Nat) : dM w A (xs.take k).length cap (xs.take k) :=
 ⟨rfl,fun i x hi=>h.row i x (by rw [List.getElem?_take] at hi;split at hi;exact hi;cases hi),Nat.le_trans (by simp;omega) h.le,h.cap,Nat.le_trans (by simp;omega) h.len,h.digs.take k⟩
theorem dM.get (h : dM w A n cap xs) {i : Nat} (hi : i < xs.length) : ∃ a,A = some a ∧ w.cell? (a.add i) = some (.int .u64 ((xs[i] : Nat) : Int)) ∧ xs[i] < 4294967296 :=
 let ⟨a,e,hc⟩:=h.row i xs[i] (List.getElem?_eq_getElem hi);⟨a,e,hc,h.digs _ (List.getElem_mem hi)⟩
theorem dM.as (h : dM w A n cap xs) {ys : List Nat} (e : xs = ys) : dM w A n cap ys:=e ▸ h
end
theorem mY : ∀ ys : List Nat,trim (ys ++ [0]) = trim ys
 | []=>by simp [trim]
 | y :: ys=>by simp only[List.cons_append,trim,mY ys]
theorem oC {x : Nat} (hx : x ≠ 0) : ∀ ys : List Nat,trim (ys ++ [x]) = ys ++ [x]
 | []=>by simp [trim,hx]
 | y :: ys=>by simp only[List.cons_append,trim,oC hx ys];rw [if_neg (by simp)]
theorem yN {xs : List Nat} {k : Nat} (hk : 0 < k) (h : k - 1 < xs.length) : xs.take k = xs.take (k - 1) ++ [xs[k - 1]]:=by
 have e : k = (k - 1) + 1:=by omega
 conv=>lhs;rw [e]
 rw [List.take_succ_eq_append_getElem h]
theorem Gj {xs : List Nat} {k : Nat} (hk : 0 < k) (h : k - 1 < xs.length) (h0 : ((xs[k-1] : Nat) : Int) = 0) (ht : trim (xs.take k) = trim xs) : trim (xs.take (k - 1)) = trim xs:=by
 rw [← ht,yN hk h,show xs[k-1] = 0 by omega,mY]
theorem Kj {xs : List Nat} {k : Nat} (hk : 0 < k) (h : k - 1 < xs.length) (h0 : ¬ ((xs[k-1] : Nat) : Int) = 0) (ht : trim (xs.take k) = trim xs) : k = (trim xs).length:=by
 rw [← ht,yN hk h,oC (by omega)];simp;omega
theorem Kk {xs : List Nat} (ht : trim (xs.take 0) = trim xs) : 0 = (trim xs).length:=by rw [← ht];rfl
/-! ### Words in a block -/
abbrev kH (x : Nat) : Value:=.int .u64 (x : Int)
theorem fV {os : List Nat} {i d : Nat} (hi : i < os.length) : bK (os.map kH) i [kH d] = (os.set i d).map kH:=by
 unfold bK;rw [List.set_eq_take_append_cons_drop,if_pos hi];simp [List.map_take,List.map_drop]
theorem fY (n : Nat) : List.replicate n (Value.int .u64 0) = (List.replicate n 0).map kH:=by simp [kH]
theorem gD.word {w : World} {g : Nat} {os : List Nat} {t : TypeId} (h : gD w g (os.map kH) t) {i : Nat} (hi : i < os.length) : w.cell? ⟨g,i,none⟩ = some (.int .u64 ((os[i] : Nat) : Int)) :=
 h.cell (by simp [hi])
theorem gD.nat {w : World} {g : Nat} {os : List Nat} {t : TypeId} (h : gD w g (os.map kH) t) (hd : cZ 4294967296 os) {n : Nat} (hn : n = os.length) (hl : n ≤ 17592186044416) : dM w (some ⟨g,0,none⟩) n n os :=
 ⟨hn,fun i x hi=>⟨_,rfl,by rw [gE,Nat.zero_add];exact h.cell (by simp [hi])⟩,by omega,by omega,by omega,hd⟩
def gI (n : Nat) (v : Value) (w : World) : Prop:=∃ A cap,v = .slice A (digs 4294967296 n).length cap ∧ dM w A (digs 4294967296 n).length cap (digs 4294967296 n)
theorem gI.of_trim {w : World} {A : Option Addr} {xs : List Nat} {k cap n : Nat} (h : dM w A k cap xs) (hv : val 4294967296 xs = n) : gI n (.slice A (trim xs).length cap) w:=by
 have e : trim xs = digs 4294967296 n:=lB (by omega) h.digs hv;refine ⟨A,cap,by rw [e],?_⟩;have h':=h.take (trim xs).length;rw [← gS,e] at h';exact h'
def rM (w : World) (v : Value) : Prop:=∀ a n c,v = .slice (some a) n c → w.heap.size ≤ a.block
theorem rM.of_blk {w : World} {g off n c : Nat} (h : w.heap.size ≤ g) : rM w (.slice (some ⟨g,off,none⟩) n c):=fun a n' c' e=>by cases e;exact h
theorem nO (a : Addr) (i : Nat) : (a.add i).block = a.block:=by unfold Addr.add;split <;> rfl
theorem Sj.cell {w w' : World} {g : Nat} (h : Sj w w' g) {a : Addr} (hne : a.block ≠ g) : w'.cell? a = w.cell? a:=by
 unfold World.cell?;rw [h.block _ hne]
theorem dM.chg {w w' : World} {g n cap : Nat} {A : Option Addr} {xs : List Nat} (h : dM w A n cap xs) (hC : Sj w w' g) (hne : ∀ a,A = some a → a.block ≠ g) : dM w' A n cap xs :=
 ⟨h.eq,fun i x hi=>let ⟨a,e,hc⟩:=h.row i x hi;⟨a,e,by rw [hC.cell (by rw [nO];exact hne a e)];exact hc⟩,h.le,h.cap,h.len,h.digs⟩
/-! ### Sums of digits -/
theorem kT {B : Nat} : ∀ {os : List Nat} {j d : Nat} (hj : j < os.length),val B (os.set j d) + B ^ j * os[j] = val B os + B ^ j * d
 | x :: xs,0,d,_=>by simp [val];omega
 | x :: xs,j + 1,d,h=>by
  have ih:=kT (B:=B) (os:=xs) (j:=j) (d:=d) (by simpa using h);simp only[List.set_cons_succ,val,List.getElem_cons_succ,Nat.pow_succ];have:=congrArg (B * ·) ih;simp only[Nat.mul_add] at this
  grind
theorem eT (B n : Nat) : val B (List.replicate n 0) = 0:=by
 induction n with
 | zero=>rfl
 | succ n ih=>simp [List.replicate_succ,val,ih]
theorem cR {B : Nat} {xs : List Nat} {i : Nat} (hi : i < xs.length) : val B (xs.take (i + 1)) = val B (xs.take i) + B ^ i * xs[i]:=by
 rw [List.take_succ_eq_append_getElem hi,eI,List.length_take,Nat.min_eq_left (by omega)];simp [val]
theorem mN {B : Nat} {xs : List Nat} {i : Nat} (hi : xs.length ≤ i) : val B (xs.take i) = val B xs:=by rw [List.take_of_length_le hi]
theorem jJ {os : List Nat} {i d : Nat} : (os.set i d).drop (i + 1) = os.drop (i + 1):=by
 apply List.ext_getElem?;intro j;simp only[List.getElem?_drop];rw [List.getElem?_set_ne (by omega)]
theorem gT {os : List Nat} {i n : Nat} (h : os.drop i = List.replicate n 0) (hi : i < os.length) : os[i] = 0 ∧ os.drop (i + 1) = List.replicate (n - 1) 0:=by
 rw [List.drop_eq_getElem_cons hi] at h;cases n with
 | zero=>cases h
 | succ n=>simp only[List.replicate_succ,List.cons.injEq] at h;exact ⟨h.1,by simpa using h.2⟩
theorem Kl {B : Nat} {os : List Nat} {i d c c' s t T : Nat} (hi : i < os.length) (hs : os[i] + s + c = d + B * c') (hT : val B os + B ^ i * c = T) (ht : T + B ^ i * s = t) :
 val B (os.set i d) + B ^ (i + 1) * c' = t:=by
 have h1:=kT (B:=B) (d:=d) hi;have h2:=congrArg (B ^ i * ·) hs;simp only[Nat.mul_add] at h2;rw [Nat.pow_succ]
 grind
/-! ### Order -/
def Ij (a b : Nat) : Int:=if a < b then -1 else if b < a then 1 else 0
theorem vO {B : Nat} (hB : 1 < B) {xs ys : List Nat} {k : Nat} (hx : cZ B xs) (hlx : k < xs.length) (hly : k < ys.length) (hd : xs.drop (k + 1) = ys.drop (k + 1)) (h : xs[k] < ys[k]) : val B xs < val B ys:=by
 have e1 : val B xs = val B (xs.take (k + 1)) + B ^ (k + 1) * val B (xs.drop (k + 1)):=by
  conv=>lhs;rw [← List.take_append_drop (k + 1) xs]
  rw [eI,List.length_take,Nat.min_eq_left (by omega)]
 have e2 : val B ys = val B (ys.take (k + 1)) + B ^ (k + 1) * val B (ys.drop (k + 1)):=by
  conv=>lhs;rw [← List.take_append_drop (k + 1) ys]
  rw [eI,List.length_take,Nat.min_eq_left (by omega)]
 rw [e1,e2,hd,cR hlx,cR hly];have h1:=gZ (hx.take k);rw [List.length_take,Nat.min_eq_left (by omega)] at h1;have h2 : B ^ k * (xs[k] + 1) ≤ B ^ k * ys[k]:=Nat.mul_le_mul_left _ h;rw [Nat.mul_add] at h2;omega
theorem jN {B : Nat} (hB : 1 < B) {xs ys : List Nat} (hx : cZ B xs) (hy : cZ B ys) (ty : fS ys) (h : xs.length < ys.length) : val B xs < val B ys:=by
 rcases Nat.lt_or_ge (val B xs) (val B ys) with hlt | hge
 · exact hlt
 · exfalso
   have e : ys = digs B (val B ys):=qK hB hy (pK hB _) ty (mW hB _) (by rw [oF hB]);have h1 : val B ys < B ^ xs.length:=Nat.lt_of_le_of_lt hge (gZ hx);have h2:=dQ hB h1;rw [← e] at h2;omega
/-! ### The machine's numbers -/
theorem gU (x : Int) : IntKind.u64.wrap x = x % 18446744073709551616:=by simp [IntKind.wrap,IntKind.bits,IntKind.signed]
theorem oG {s : Int} (h0 : 0 ≤ s) (h1 : s < 18446744073709551616) : IntKind.u64.wrap ((BitVec.ofInt IntKind.u64.bits s &&& BitVec.ofInt IntKind.u64.bits 4294967295).toNat : Int) = s % 4294967296:=by
 obtain ⟨n,rfl⟩:=Int.eq_ofNat_of_zero_le h0;have hn : n < 18446744073709551616:=by omega
 have e : (BitVec.ofInt 64 (n : Int) &&& BitVec.ofInt 64 4294967295).toNat = n % 4294967296:=by
  rw [BitVec.toNat_and];have e1 : (BitVec.ofInt 64 (n : Int)).toNat = n:=by simp [BitVec.toNat_ofInt];omega
  have e2 : (BitVec.ofInt 64 4294967295).toNat = 2 ^ 32 - 1:=by decide
  rw [e1,e2,Nat.and_two_pow_sub_one_eq_mod]
 show IntKind.u64.wrap ((BitVec.ofInt 64 (n : Int) &&& BitVec.ofInt 64 4294967295).toNat : Int) = _
 rw [e,eW (by omega) (by omega)];omega
theorem Gk {s : Int} (h0 : 0 ≤ s) : s.fdiv (2 ^ (min (32 : Int).toNat IntKind.u64.bits)) = s / 4294967296:=by
 show s.fdiv (2 ^ 32) = _
 rw [Int.fdiv_eq_ediv_of_nonneg _ (by decide)];rfl
theorem ab1 {s : Int} (h0 : 0 ≤ s) : s.fdiv (2 ^ (min (63 : Int).toNat IntKind.u64.bits)) = s / 9223372036854775808:=by
 show s.fdiv (2 ^ 63) = _
 rw [Int.fdiv_eq_ediv_of_nonneg _ (by decide)];rfl
/-! ### Addresses of words -/
theorem gF {a : Addr} {m : Int} {q : Nat} (h : m.toNat = q) : a.add (m.toNat * 1) = a.add q:=by rw [h,Nat.mul_one]
theorem bY {a : Addr} {m : Int} {c q : Nat} (h : m.toNat = q) : a.add (m.toNat * c) = a.add (q * c):=by rw [h]
theorem eZ {g : Nat} {m : Int} {q : Nat} (h : m.toNat = q) : (⟨g,0,none⟩ : Addr).add (m.toNat * 1) = ⟨g,q,none⟩:=by rw [h,Nat.mul_one,gE,Nat.zero_add]
theorem Ny {g : Nat} {m : Int} {c q : Nat} (h : m.toNat = q) : (⟨g,0,none⟩ : Addr).add (m.toNat * c) = ⟨g,q * c,none⟩:=by rw [h,gE,Nat.zero_add]
theorem dM.at {w : World} {a : Addr} {xs : List Nat} {n cap : Nat} (h : dM w (some a) n cap xs) {i : Nat} (hi : i < xs.length) : w.cell? (a.add i) = some (.int .u64 ((xs[i] : Nat) : Int)):=by
 obtain ⟨a',e,hc⟩:=h.row i xs[i] (List.getElem?_eq_getElem hi);cases e;exact hc
/-! ### Rounds -/
theorem Wh {xs ys : List Nat} {k : Nat} (hx : cZ 4294967296 xs) (hk : 0 < k) (hlx : k - 1 < xs.length) (hly : k - 1 < ys.length) (hd : xs.drop k = ys.drop k) (h : ((xs[k-1] : Nat) : Int) < ((ys[k-1] : Nat) : Int)) : val 4294967296 xs < val 4294967296 ys :=
 vO (by omega) hx hlx hly (by rw [show k - 1 + 1 = k by omega];exact hd) (by omega)
theorem Sp {xs ys : List Nat} {k : Nat} (hk : 0 < k) (hlx : k - 1 < xs.length) (hly : k - 1 < ys.length) (hd : xs.drop k = ys.drop k) (h1 : ¬ ((xs[k-1] : Nat) : Int) < ((ys[k-1] : Nat) : Int)) (h2 : ¬ ((ys[k-1] : Nat) : Int) < ((xs[k-1] : Nat) : Int)) : xs.drop (k - 1) = ys.drop (k - 1):=by
 rw [List.drop_eq_getElem_cons hlx,List.drop_eq_getElem_cons hly,show k - 1 + 1 = k by omega,hd,show xs[k-1] = ys[k-1] by omega]
theorem uV {os xs ys : List Nat} {i c s : Nat} (hi : i < xs.length) (hlo : os.length = xs.length + 1) (hv : val 4294967296 os + 4294967296 ^ i * c = val 4294967296 (xs.take i) + val 4294967296 (ys.take i)) (hz : os.drop i = List.replicate (xs.length + 1 - i) 0) (hd : cZ 4294967296 os) (hc : c ≤ 1)
 (hs : s = xs[i] + c + ys[i]?.getD 0) (hx : xs[i] < 4294967296) (hy : ys[i]?.getD 0 < 4294967296) :
 val 4294967296 (os.set i (s % 4294967296)) + 4294967296 ^ (i + 1) * (s / 4294967296) = val 4294967296 (xs.take (i + 1)) + val 4294967296 (ys.take (i + 1)) ∧ (os.set i (s % 4294967296)).drop (i + 1) = List.replicate (xs.length + 1 - (i + 1)) 0 ∧ cZ 4294967296 (os.set i (s % 4294967296)) ∧ s / 4294967296 ≤ 1:=by
 obtain ⟨z1,z2⟩:=gT hz (by omega);refine ⟨?_,?_,hd.set (Nat.mod_lt _ (by omega)),by omega⟩
 · refine Kl (s:=xs[i] + ys[i]?.getD 0) (by omega) (by rw [z1];omega) hv ?_
   rw [cR hi];by_cases hy' : i < ys.length
   · rw [cR hy',List.getElem?_eq_getElem hy']
     simp only[Option.getD_some,Nat.mul_add];omega
   · rw [List.getElem?_eq_none (by omega),mN (xs:=ys) (i:=i + 1) (by omega),mN (xs:=ys) (i:=i) (by omega)]
     simp;omega
 · rw [jJ,z2]
   congr 1
theorem Bo {os xs ys : List Nat} {c : Nat} (hle : ys.length ≤ xs.length) (hlo : os.length = xs.length + 1) (hv : val 4294967296 os + 4294967296 ^ xs.length * c = val 4294967296 (xs.take xs.length) + val 4294967296 (ys.take xs.length)) (hz : os.drop xs.length = List.replicate (xs.length + 1 - xs.length) 0) :
 val 4294967296 (os.set xs.length c) = val 4294967296 xs + val 4294967296 ys:=by
 obtain ⟨z1,_⟩:=gT hz (by omega);have h:=kT (B:=4294967296) (d:=c) (show xs.length < os.length by omega);rw [z1] at h;rw [List.take_length,mN hle] at hv;omega
theorem Gl {os xs ys : List Nat} {i c s : Nat} (hi : i < xs.length) (hlo : os.length = xs.length) (hv : val 4294967296 os + val 4294967296 (ys.take i) = val 4294967296 (xs.take i) + 4294967296 ^ i * c) (hz : os.drop i = List.replicate (xs.length - i) 0) (hd : cZ 4294967296 os) (hc : c ≤ 1)
 (hs : (s : Int) = ((xs[i] : Nat) - (c : Nat) - (ys[i]?.getD 0 : Nat) : Int) % 18446744073709551616) (hx : xs[i] < 4294967296) (hy : ys[i]?.getD 0 < 4294967296) :
 val 4294967296 (os.set i (s % 4294967296)) + val 4294967296 (ys.take (i + 1)) = val 4294967296 (xs.take (i + 1)) + 4294967296 ^ (i + 1) * (s / 9223372036854775808) ∧ (os.set i (s % 4294967296)).drop (i + 1) = List.replicate (xs.length - (i + 1)) 0 ∧ cZ 4294967296 (os.set i (s % 4294967296)) ∧ s / 9223372036854775808 ≤ 1:=by
 obtain ⟨z1,z2⟩:=gT hz (by omega);have key : xs[i] + 4294967296 * (s / 9223372036854775808) = s % 4294967296 + c + ys[i]?.getD 0:=by omega
 refine ⟨?_,?_,hd.set (Nat.mod_lt _ (by omega)),by omega⟩
 · have h1:=kT (B:=4294967296) (d:=s % 4294967296) (show i < os.length by omega)
   rw [z1] at h1;have h2:=congrArg (4294967296 ^ i * ·) key;simp only[Nat.mul_add] at h2;rw [cR hi,Nat.pow_succ];have h3 : val 4294967296 (ys.take (i + 1)) = val 4294967296 (ys.take i) + 4294967296 ^ i * ys[i]?.getD 0:=by
    by_cases hy' : i < ys.length
    · rw [cR hy',List.getElem?_eq_getElem hy'];rfl
    · rw [List.getElem?_eq_none (by omega),mN (xs:=ys) (i:=i + 1) (by omega),mN (xs:=ys) (i:=i) (by omega)];rfl
   rw [h3]
   grind
 · rw [jJ,z2]
   congr 1
theorem aaK {os xs ys : List Nat} {c : Nat} (hle : ys.length ≤ xs.length) (hlo : os.length = xs.length) (hd : cZ 4294967296 os) (hv : val 4294967296 os + val 4294967296 (ys.take xs.length) = val 4294967296 (xs.take xs.length) + 4294967296 ^ xs.length * c) (hge : val 4294967296 ys ≤ val 4294967296 xs) :
 val 4294967296 os = val 4294967296 xs - val 4294967296 ys:=by
 rw [List.take_length,mN hle] at hv;have h:=gZ hd;rw [hlo] at h;have hc : c = 0:=by
  rcases Nat.eq_zero_or_pos c with h0 | h0
  · exact h0
  · have:=Nat.mul_le_mul_left (4294967296 ^ xs.length) h0
    omega
 subst hc;omega
theorem Sq {os xs ys : List Nat} {i k c s : Nat} (hi : i < xs.length) (hk : k < ys.length) (hlo : os.length = xs.length + ys.length) (hv : val 4294967296 os + 4294967296 ^ (i + k) * c = val 4294967296 (xs.take i) * val 4294967296 ys + 4294967296 ^ i * (xs[i] * val 4294967296 (ys.take k)))
 (hs : s = os[i + k] + xs[i] * ys[k] + c) : val 4294967296 (os.set (i + k) (s % 4294967296)) + 4294967296 ^ (i + (k + 1)) * (s / 4294967296) = val 4294967296 (xs.take i) * val 4294967296 ys + 4294967296 ^ i * (xs[i] * val 4294967296 (ys.take (k + 1))):=by
 refine Kl (s:=xs[i] * ys[k]) (i:=i + k) (by omega) (by omega) hv ?_;rw [cR hk,Nat.pow_add]
 grind
theorem oH {os : List Nat} {i j d : Nat} (h : i < j) : (os.set i d).drop j = os.drop j:=by
 apply List.ext_getElem?;intro m;simp only[List.getElem?_drop];rw [List.getElem?_set_ne (by omega)]
theorem aaL {os xs ys : List Nat} {i c : Nat} (hi : i < xs.length) (hlo : os.length = xs.length + ys.length) (hv : val 4294967296 os + 4294967296 ^ (i + ys.length) * c = val 4294967296 (xs.take i) * val 4294967296 ys + 4294967296 ^ i * (xs[i] * val 4294967296 (ys.take ys.length))) (hz : os.drop (i + ys.length) = List.replicate (xs.length - i) 0) :
 val 4294967296 (os.set (i + ys.length) c) = val 4294967296 (xs.take (i + 1)) * val 4294967296 ys ∧ (os.set (i + ys.length) c).drop (i + 1 + ys.length) = List.replicate (xs.length - (i + 1)) 0:=by
 obtain ⟨z1,z2⟩:=gT hz (by omega);have h:=kT (B:=4294967296) (d:=c) (show i + ys.length < os.length by omega);rw [z1] at h;rw [List.take_length] at hv;refine ⟨?_,?_⟩
 · rw [cR hi]
   grind
 · rw [show i + 1 + ys.length = i + ys.length + 1 by omega,jJ,z2]
   congr 1
theorem Wi {x y : Nat} (hx : x < 4294967296) (hy : y < 4294967296) : x * y ≤ 18446744065119617025:=by
 have:=Nat.mul_le_mul (Nat.le_sub_one_of_lt hx) (Nat.le_sub_one_of_lt hy);omega
theorem aaM {x y : Nat} (hx : x < 4294967296) (hy : y < 4294967296) : (0 : Int) ≤ (x : Int) * (y : Int) ∧ (x : Int) * (y : Int) ≤ 18446744065119617025:=by
 have h:=Wi hx hy;have e : ((x * y : Nat) : Int) = (x : Int) * (y : Int):=Int.natCast_mul x y;rw [← e];omega
/-! ### Shifts,divisions by a word -/
theorem sM {m n : Nat} (hn : n < 64) (h : m * 2 ^ n < 18446744073709551616) : IntKind.u64.wrap ((m : Int) * 2 ^ (min (n : Int).toNat IntKind.u64.bits)) = ((m * 2 ^ n : Nat) : Int):=by
 have e : min (n : Int).toNat IntKind.u64.bits = n:=by
  show min (n : Int).toNat 64 = n
  rw [Int.toNat_natCast];omega
 rw [e];have e2 : ((m : Int) * 2 ^ n) = ((m * 2 ^ n : Nat) : Int):=by simp
 rw [e2];exact eW (by omega) (by omega)
theorem aaN {m n : Nat} (hn : n < 64) : (m : Int).fdiv (2 ^ (min (n : Int).toNat IntKind.u64.bits)) = ((m / 2 ^ n : Nat) : Int):=by
 have e : min (n : Int).toNat IntKind.u64.bits = n:=by
  show min (n : Int).toNat 64 = n
  rw [Int.toNat_natCast];omega
 rw [e,Int.fdiv_eq_ediv_of_nonneg _ (by exact Int.le_of_lt (Int.pow_pos (by decide)))];simp
theorem Ik {a b s c : Nat} (ha : a < 2 ^ s) (hb : b = 2 ^ s * c) (h : a + b < 18446744073709551616) : IntKind.u64.wrap ((BitVec.ofInt IntKind.u64.bits (a : Int) ||| BitVec.ofInt IntKind.u64.bits (b : Int)).toNat : Int) = ((a + b : Nat) : Int):=by
 have e : (BitVec.ofInt 64 (a : Int) ||| BitVec.ofInt 64 (b : Int)).toNat = a + b:=by
  rw [BitVec.toNat_or];have e1 : (BitVec.ofInt 64 (a : Int)).toNat = a:=by simp [BitVec.toNat_ofInt];omega
  have e2 : (BitVec.ofInt 64 (b : Int)).toNat = b:=by simp [BitVec.toNat_ofInt];omega
  rw [e1,e2,Nat.or_comm,hb,← Nat.two_pow_add_eq_or_of_lt ha];omega
 show IntKind.u64.wrap ((BitVec.ofInt 64 (a : Int) ||| BitVec.ofInt 64 (b : Int)).toNat : Int) = _
 rw [e];exact eW (by omega) (by omega)
theorem Bp {a b s c : Nat} (ha : a < 2 ^ s) (hb : b = 2 ^ s * c) (h : a + b < 18446744073709551616) : IntKind.u64.wrap ((BitVec.ofInt IntKind.u64.bits (b : Int) ||| BitVec.ofInt IntKind.u64.bits (a : Int)).toNat : Int) = ((a + b : Nat) : Int):=by
 have:=Ik ha hb h;rwa [BitVec.or_comm] at this
theorem Bq {s : Nat} (h : s < 18446744073709551616) : IntKind.u64.wrap ((BitVec.ofInt IntKind.u64.bits (s : Int) &&& BitVec.ofInt IntKind.u64.bits 4294967295).toNat : Int) = ((s % 4294967296 : Nat) : Int):=by
 rw [oG (by omega) (by omega)];omega
theorem Br {m n : Nat} (h : m < 18446744073709551616) : IntKind.u64.wrap ((m : Int).tdiv (n : Int)) = ((m / n : Nat) : Int):=by
 rw [← Int.ofNat_tdiv];have : m / n ≤ m:=Nat.div_le_self m n;generalize m / n = q at *
 exact eW (by omega) (by omega)
theorem lC {m n : Nat} : (m : Int).tmod (n : Int) = ((m % n : Nat) : Int):=(Int.ofNat_tmod m n).symm
theorem lN {B : Nat} {xs : List Nat} {k : Nat} (hk : 0 < k) (h : k - 1 < xs.length) : val B (xs.drop (k - 1)) = xs[k - 1] + B * val B (xs.drop k):=by
 rw [List.drop_eq_getElem_cons h,show k - 1 + 1 = k by omega];rfl
theorem Km {os xs : List Nat} {k d r : Nat} (hk : 0 < k) (hkl : k ≤ xs.length) (hlo : os.length = xs.length) (hv : val 4294967296 (xs.drop k) = d * val 4294967296 (os.drop k) + r) (hr : r < d) (hdg : cZ 4294967296 os) (hx : xs[k - 1] < 4294967296) :
 val 4294967296 (xs.drop (k - 1)) = d * val 4294967296 ((os.set (k - 1) ((xs[k - 1] + r * 4294967296) / d)).drop (k - 1)) + (xs[k - 1] + r * 4294967296) % d ∧ cZ 4294967296 (os.set (k - 1) ((xs[k - 1] + r * 4294967296) / d)) ∧ (xs[k - 1] + r * 4294967296) % d < d:=by
 refine ⟨?_,hdg.set ?_,Nat.mod_lt _ (by omega)⟩
 · have e1:=lN (B:=4294967296) hk (show k - 1 < xs.length by omega)
   have e2:=lN (B:=4294967296) (xs:=os.set (k - 1) ((xs[k - 1] + r * 4294967296) / d)) hk (by simp;omega);have e3 : (os.set (k - 1) ((xs[k - 1] + r * 4294967296) / d)).drop k = os.drop k:=oH (by omega);rw [e1,e2,e3,List.getElem_set_self,hv];have:=Nat.div_add_mod (xs[k - 1] + r * 4294967296) d
   grind
 · have : (xs[k - 1] + r * 4294967296) / d < 4294967296:=by
    rw [Nat.div_lt_iff_lt_mul (by omega)];have : (r + 1) * 4294967296 ≤ d * 4294967296:=Nat.mul_le_mul_right _ hr;omega
   exact this
theorem Cq {a d q r : Nat} (h0 : 0 < d) (hr : r < d) (h : a = d * q + r) : q = a / d ∧ r = a % d:=by
 subst h;constructor
 · rw [Nat.mul_add_div h0,Nat.div_eq_of_lt hr,Nat.add_zero]
 · rw [Nat.mul_add_mod,Nat.mod_eq_of_lt hr]
end Go.Lith
namespace Go.Lith
open Go.RowKit
section
variable {P : Program} {ds : List Deferred} {l : List Value} {x y z0 : Operand} {T T' ty : TypeId}
theorem Kn {A : Option Addr} {n c : Nat} {E : TypeId} (hu : P.underlying T = some (.slice E)) (hx : ev l x = .slice A n c) (hy : ev l y = .slice none 0 0) : gX P l (.binOp .eql T x y T') ty (.bool A.isNone):=fun w o ho _=>by
 obtain ⟨D,hD⟩ : ∃ D,Op.maxDepth = D + 1:=⟨9999,rfl⟩
 cases A <;> simp [execOp,ho,dD,hx,hy,eqGuard,binOp,Op.equal,hD,Op.equalIn,run_underlying hu]
variable {ops : Array Oper} {Q : Exit → Act → World → Prop} {rest : List Oper} {d : Nat} {pos : String} {after : Array Edge} {w : World}
theorem aaO {op : Op} {v : Value} {w' : World} (hr : ∀ o : Oper,o.op = op → (execOp (Fr l).eval o).run P w = .ok (.value v) w') (h : wpList P ops Q rest (Fr l ds) w') : wpList P ops Q (Oper.mk none op ty pos after none :: rest) (Fr l ds) w:=by
 refine wpList_plain rfl fun K hK=>?_;unfold Oper.wp;rw [iF,hr _ rfl];exact hK _ _ h
theorem Il : Array.map (fun (_ : Nat)=>(default : Value)) (Array.range 0) = #[]:=Array.eq_empty_of_size_eq_zero (by simp)
theorem Im (z v : Value) : (Array.map (fun x=>[z][x % 1]?.getD default) (Array.range 1)).setIfInBounds 0 v = #[v]:=by
 apply Array.ext (by simp);intro i h1 h2;obtain rfl : i = 0:=by simpa using h2
 simp
theorem wX (z v v2 : Value) : ((Array.map (fun x=>[z][x % 1]?.getD default) (Array.range 2)).setIfInBounds 0 v).setIfInBounds 1 v2 = #[v,v2]:=by
 apply Array.ext (by simp);intro i h1 h2;have h3 : i < 2:=by simpa using h2
 rcases Nat.lt_or_ge i 1 with h | h
 · obtain rfl : i = 0:=by omega
   simp
 · obtain rfl : i = 1:=by omega
   simp
theorem Wj {E : TypeId} {c : Nat} (hu : P.underlying T = some (.slice E)) (hi : (P.info? E).map (fun i=>i.size) = some c)
 (h : ∀ w' g,dK w w' → w.heap.size ≤ g → gD w' g [] E → wpList P ops Q rest (Fr (l.set d (.slice (some ⟨g,0,none⟩) 0 0)) ds) w') :
 wpList P ops Q (Oper.mk (some d) (.buildSlice T 0 #[]) ty pos after none :: rest) (Fr l ds) w:=by
 cases hq : P.info? E with
 | none=>rw [hq] at hi;cases hi
 | some i =>
  exact kN (w':=w.alloc (.cells #[] E)) (v:=.slice (some ⟨w.heap.size,0,none⟩) 0 0) (fun o ho _=>by simp [execOp,ho,Instr.buildSlice,run_underlying hu,sizeOf,typeInfo,hq,Instr.fill,newRow,newObj,Sem.run,Il]) (h _ _ ((dK.refl w).alloc _) (Nat.le_refl _) (iN w [] E))
theorem fD {E : TypeId} {z : Value} (hu : P.underlying T = some (.slice E)) (hi : (P.info? E).map (fun i=>(i.size,i.zero)) = some (1,some z)) (hz : z.cells = #[z]) {v : Value} (hx : ev l x = v) (hv : v.cells = #[v])
 (h : ∀ w' g,dK w w' → w.heap.size ≤ g → gD w' g [v] E → wpList P ops Q rest (Fr (l.set d (.slice (some ⟨g,0,none⟩) 1 1)) ds) w') :
 wpList P ops Q (Oper.mk (some d) (.buildSlice T 1 #[(0,x)]) ty pos after none :: rest) (Fr l ds) w:=by
 cases hq : P.info? E with
 | none=>rw [hq] at hi;cases hi
 | some i =>
  rw [hq] at hi;simp only[Option.map_some,Option.some.injEq,Prod.mk.injEq] at hi;obtain ⟨e1,e2⟩:=hi;exact kN (w':=w.alloc (.cells #[v] E)) (v:=.slice (some ⟨w.heap.size,0,none⟩) 1 1) (fun o ho _=>by simp [execOp,ho,Instr.buildSlice,run_underlying hu,sizeOf,typeInfo,zeroValue,hq,e1,e2,hz,dD,hx,hv,Instr.fill,newRow,newObj,Sem.run,Im]) (h _ _ ((dK.refl w).alloc _) (Nat.le_refl _) (iN w [v] E))
theorem Ko {E : TypeId} {z : Value} (hu : P.underlying T = some (.slice E)) (hi : (P.info? E).map (fun i=>(i.size,i.zero)) = some (1,some z)) (hz : z.cells = #[z]) {v v2 : Value} (hx : ev l x = v) (hv : v.cells = #[v]) (hy : ev l y = v2) (hv2 : v2.cells = #[v2])
 (h : ∀ w' g,dK w w' → w.heap.size ≤ g → gD w' g [v,v2] E → wpList P ops Q rest (Fr (l.set d (.slice (some ⟨g,0,none⟩) 2 2)) ds) w') :
 wpList P ops Q (Oper.mk (some d) (.buildSlice T 2 #[(0,x),(1,y)]) ty pos after none :: rest) (Fr l ds) w:=by
 cases hq : P.info? E with
 | none=>rw [hq] at hi;cases hi
 | some i =>
  rw [hq] at hi;simp only[Option.map_some,Option.some.injEq,Prod.mk.injEq] at hi;obtain ⟨e1,e2⟩:=hi;exact kN (w':=w.alloc (.cells #[v,v2] E)) (v:=.slice (some ⟨w.heap.size,0,none⟩) 2 2) (fun o ho _=>by simp [execOp,ho,Instr.buildSlice,run_underlying hu,sizeOf,typeInfo,zeroValue,hq,e1,e2,hz,dD,hx,hv,hy,hv2,Instr.fill,newRow,newObj,Sem.run,wX]) (h _ _ ((dK.refl w).alloc _) (Nat.le_refl _) (iN w [v,v2] E))
theorem iR.build0 {base g : Nat} {E : TypeId} {c : Nat} (hB : gD w g [] E) (hb : base ≤ g) : iR w base E c (.slice (some ⟨g,0,none⟩) 0 0) 0 []:=by
 refine ⟨(Nat.zero_mul c).symm,.inr ⟨g,0,#[],rfl,hb,hB,Nat.le_refl _,by decide,by simp,by simp⟩⟩
theorem aaP {E : TypeId} {z : Value} {g o n cap : Nat} {cs : List Value} {t : TypeId} {a0 : Array TypeId} (ha : a0 = #[T]) (hu : P.underlying T = some (.slice E)) (hi : (P.info? E).map (fun i=>(i.size,i.zero)) = some (1,some z)) (hz : z.cells = #[z]) (hx : ev l x = .slice (some ⟨g,o,none⟩) n cap) (hn : 0 < n) (hB : gD w g cs t) (hfit : o + n ≤ cs.length) (h1 : z.oneCell' = true)
 (h : ∀ w',Sj w w' g → gD w' g (bK cs o (List.replicate n z)) t → wpList P ops Q rest (Fr l ds) w') :
 wpList P ops Q (Oper.mk none (.call { callee:=.builtin .clear,args:=#[x],argTypes:=a0 }) ty pos after none :: rest) (Fr l ds) w:=by
 subst ha;cases hq : P.info? E with
 | none=>rw [hq] at hi;cases hi
 | some i =>
  rw [hq] at hi;simp only[Option.map_some,Option.some.injEq,Prod.mk.injEq] at hi;obtain ⟨e1,e2⟩:=hi;have hzc : (Builtin.zeroCells z.cells n).toList = List.replicate n z:=by
   rw [hz];apply List.ext_getElem
   · simp [Builtin.zeroCells]
   · intro j h1 h2
     simp [Builtin.zeroCells,Nat.mod_one]
  have hst:=run_storeCells_at P g o t (List.replicate n z) 0 cs.toArray w hB (by simpa using hfit) (fun u hu=>by rw [List.eq_of_mem_replicate hu];exact h1);simp only[Nat.add_zero,List.toList_toArray] at hst;obtain ⟨n,rfl⟩ : ∃ m,n = m + 1:=⟨n - 1,by omega⟩
  refine aaO (v:=.tuple #[]) (w':=w.setRow g (bK cs o (List.replicate (n + 1) z)).toArray) (fun o' ho=>?_) (h _ (sJ w g _) (setRow_heap w g cs.toArray _ t _ hB));simp [execOp,ho,resolve,invoke,builtin,dD,hx,Builtin.clear_,run_underlying hu,zeroValue,typeInfo,hq,e2,hzc,hst,bK]
theorem Wk {cs : List Value} {off : Nat} : bK cs off [] = cs:=by simp [bK]
end
end Go.Lith
namespace Go.Lith
theorem Nz {m : Nat} : (m : Int).fdiv (2 ^ (min (32 : Int).toNat IntKind.u64.bits)) = ((m / 4294967296 : Nat) : Int):=by
 rw [Gk (by omega)];omega
theorem acs {m : Nat} : (m : Int).fdiv (2 ^ (min (31 : Int).toNat IntKind.u64.bits)) = ((m / 2147483648 : Nat) : Int):=by
 show (m : Int).fdiv (2 ^ 31) = _
 rw [Int.fdiv_eq_ediv_of_nonneg _ (by decide)];omega
theorem Bt {x n : Nat} (hn : n ≤ 32) : x * 2 ^ n % 4294967296 = 2 ^ n * (x % 2 ^ (32 - n)):=by
 have e : (4294967296 : Nat) = 2 ^ n * 2 ^ (32 - n):=by rw [← Nat.pow_add,show n + (32 - n) = 32 by omega]
 rw [Nat.mul_comm,e,Nat.mul_mod_mul_left]
theorem rN {n : Nat} (hn : n ≤ 32) : (4294967296 : Nat) = 2 ^ n * 2 ^ (32 - n):=by rw [← Nat.pow_add,show n + (32 - n) = 32 by omega]
theorem Oa {x n : Nat} (hn : n ≤ 32) (hx : x < 4294967296) : x * 2 ^ n < 18446744073709551616:=by
 have h1 : 2 ^ n ≤ 2 ^ 32:=Nat.pow_le_pow_right (by omega) hn;have h2 : x * 2 ^ n ≤ x * 2 ^ 32:=Nat.mul_le_mul_left _ h1;omega
theorem Bu {a x n : Nat} (hn : n ≤ 32) (ha : a < 2 ^ n) : a + x * 2 ^ n % 4294967296 < 4294967296:=by
 rw [Bt hn];have h1 : x % 2 ^ (32 - n) < 2 ^ (32 - n):=Nat.mod_lt _ (Nat.pow_pos (by omega));have h2 : 2 ^ n * (x % 2 ^ (32 - n) + 1) ≤ 2 ^ n * 2 ^ (32 - n):=Nat.mul_le_mul_left _ h1;rw [← rN hn,Nat.mul_add] at h2;omega
theorem aaQ {x n : Nat} (hx : x < 4294967296) : x * 2 ^ n / 4294967296 < 2 ^ n:=by
 rw [Nat.div_lt_iff_lt_mul (by omega),Nat.mul_comm (2 ^ n)];exact Nat.mul_lt_mul_of_pos_right hx (Nat.pow_pos (by omega))
theorem Kp {os xs : List Nat} {i n : Nat} (hn : n ≤ 31) (hi : i < xs.length) (hlo : os.length = xs.length + 1) (hv : val 4294967296 os = 2 ^ n * val 4294967296 (xs.take i)) (hz : os.drop (i + 1) = List.replicate (xs.length - i) 0) (hd : cZ 4294967296 os) (h1 : i < os.length) (hc : os[i] < 2 ^ n) (hx : xs[i] < 4294967296) :
 val 4294967296 ((os.set i (os[i] + xs[i] * 2 ^ n % 4294967296)).set (i + 1) (xs[i] * 2 ^ n / 4294967296)) = 2 ^ n * val 4294967296 (xs.take (i + 1)) ∧ ((os.set i (os[i] + xs[i] * 2 ^ n % 4294967296)).set (i + 1) (xs[i] * 2 ^ n / 4294967296)).drop (i + 1 + 1) = List.replicate (xs.length - (i + 1)) 0 ∧ cZ 4294967296 ((os.set i (os[i] + xs[i] * 2 ^ n % 4294967296)).set (i + 1) (xs[i] * 2 ^ n / 4294967296)) ∧ (∀ h : i + 1 < ((os.set i (os[i] + xs[i] * 2 ^ n % 4294967296)).set (i + 1) (xs[i] * 2 ^ n / 4294967296)).length,((os.set i (os[i] + xs[i] * 2 ^ n % 4294967296)).set (i + 1) (xs[i] * 2 ^ n / 4294967296))[i + 1] < 2 ^ n):=by
 obtain ⟨z1,z2⟩:=gT hz (by omega);have ht:=aaQ (n:=n) hx;have hf:=Bu (x:=xs[i]) (by omega) hc;have hp : 2 ^ n ≤ 2 ^ 32:=Nat.pow_le_pow_right (by omega) (by omega);refine ⟨?_,?_,(hd.set hf).set (by omega),?_⟩
 · have e1:=kT (B:=4294967296) (d:=os[i] + xs[i] * 2 ^ n % 4294967296) h1
   have e2:=kT (B:=4294967296) (os:=os.set i (os[i] + xs[i] * 2 ^ n % 4294967296)) (d:=xs[i] * 2 ^ n / 4294967296) (show i + 1 < _ by simp;omega);rw [List.getElem_set_ne (by omega),z1] at e2;rw [cR hi];have e3:=Nat.div_add_mod (xs[i] * 2 ^ n) 4294967296;generalize xs[i] * 2 ^ n / 4294967296 = t at *
   generalize hg : xs[i] * 2 ^ n % 4294967296 = r at *
   rw [Nat.pow_succ] at e2;have e4:=congrArg (4294967296 ^ i * ·) e3;simp only[Nat.mul_add] at e4 e1
   grind
 · rw [jJ,oH (by omega),z2]
   congr 1
 · intro h
   rw [List.getElem_set_self];exact ht
theorem Wl {x n : Nat} (hn : n ≤ 32) (hx : x < 4294967296) : x / 2 ^ n < 2 ^ (32 - n):=by
 rw [Nat.div_lt_iff_lt_mul (Nat.pow_pos (by omega)),Nat.mul_comm,← rN hn];exact hx
theorem Fs {os xs : List Nat} {n : Nat} (hn : n ≤ 32) (hi : 0 < xs.length) (hlo : os.length = xs.length) (hv : val 4294967296 os = val 4294967296 (xs.take 0) / 2 ^ n) (hz : os.drop 0 = List.replicate (xs.length - 0) 0) (hd : cZ 4294967296 os) (hx : xs[0] < 4294967296) :
 val 4294967296 (os.set 0 (xs[0] / 2 ^ n)) = val 4294967296 (xs.take (0 + 1)) / 2 ^ n ∧ (os.set 0 (xs[0] / 2 ^ n)).drop (0 + 1) = List.replicate (xs.length - (0 + 1)) 0 ∧ cZ 4294967296 (os.set 0 (xs[0] / 2 ^ n)):=by
 obtain ⟨z1,z2⟩:=gT hz (by omega);refine ⟨?_,?_,hd.set (Nat.lt_of_le_of_lt (Nat.div_le_self _ _) hx)⟩
 · have e1:=kT (B:=4294967296) (d:=xs[0] / 2 ^ n) (show 0 < os.length by omega)
   rw [z1] at e1;rw [cR hi];simp only[List.take_zero,val,Nat.pow_zero,Nat.one_mul,Nat.zero_add] at hv e1 ⊢;rw [Nat.zero_div] at hv;omega
 · rw [jJ,z2]
   congr 1
theorem Ft {V x i n : Nat} (hV : V < 4294967296 ^ (i + 1)) (hn : n ≤ 32) : (V + 4294967296 ^ (i + 1) * x) / 2 ^ n = V / 2 ^ n + 4294967296 ^ i * (2 ^ (32 - n) * x):=by
 have e : 4294967296 ^ (i + 1) * x = 2 ^ n * (4294967296 ^ i * (2 ^ (32 - n) * x)):=by
  rw [Nat.pow_succ];have:=rN hn;generalize 2 ^ n = p at *
  generalize 2 ^ (32 - n) = q at *
  rw [this]
  grind
 rw [e,Nat.add_mul_div_left _ _ (Nat.pow_pos (by omega))]
theorem Fu {os xs : List Nat} {j n : Nat} (hn : n ≤ 32) (hi : j + 1 < xs.length) (hlo : os.length = xs.length) (hv : val 4294967296 os = val 4294967296 (xs.take (j + 1)) / 2 ^ n) (hz : os.drop (j + 1) = List.replicate (xs.length - (j + 1)) 0) (hd : cZ 4294967296 os) (hdx : cZ 4294967296 xs) (h1 : j < os.length) (hc : os[j] < 2 ^ (32 - n)) :
 val 4294967296 ((os.set (j + 1) (xs[j + 1] / 2 ^ n)).set j (os[j] + xs[j + 1] * 2 ^ (32 - n) % 4294967296)) = val 4294967296 (xs.take (j + 1 + 1)) / 2 ^ n ∧ ((os.set (j + 1) (xs[j + 1] / 2 ^ n)).set j (os[j] + xs[j + 1] * 2 ^ (32 - n) % 4294967296)).drop (j + 1 + 1) = List.replicate (xs.length - (j + 1 + 1)) 0 ∧ cZ 4294967296 ((os.set (j + 1) (xs[j + 1] / 2 ^ n)).set j (os[j] + xs[j + 1] * 2 ^ (32 - n) % 4294967296)):=by
 obtain ⟨z1,z2⟩:=gT hz (by omega);have hx : xs[j + 1] < 4294967296:=hdx _ (List.getElem_mem hi);have hf:=Bu (x:=xs[j + 1]) (n:=32 - n) (by omega) hc;refine ⟨?_,?_,(hd.set (Nat.lt_of_le_of_lt (Nat.div_le_self _ _) hx)).set hf⟩
 · have e1:=kT (B:=4294967296) (d:=xs[j + 1] / 2 ^ n) (show j + 1 < os.length by omega)
   have e2:=kT (B:=4294967296) (os:=os.set (j + 1) (xs[j + 1] / 2 ^ n)) (j:=j) (d:=os[j] + xs[j + 1] * 2 ^ (32 - n) % 4294967296) (by simp;omega);rw [List.getElem_set_ne (by omega)] at e2;rw [z1] at e1;have hV:=gZ (hdx.take (j + 1));rw [List.length_take,Nat.min_eq_left (by omega)] at hV;rw [cR hi,Ft hV hn,← hv];have e3 : 2 ^ (32 - n) * xs[j + 1] = 4294967296 * (xs[j + 1] / 2 ^ n) + xs[j + 1] * 2 ^ (32 - n) % 4294967296:=by
    rw [Bt (by omega),show 32 - (32 - n) = n by omega];have h3:=Nat.div_add_mod xs[j + 1] (2 ^ n);have:=rN hn;generalize 2 ^ n = p at *
    generalize 2 ^ (32 - n) = q at *
    conv=>lhs;rw [← h3]
    rw [this]
    grind
   rw [e3,Nat.mul_add];generalize xs[j + 1] * 2 ^ (32 - n) % 4294967296 = r at *
   generalize xs[j + 1] / 2 ^ n = t at *
   rw [Nat.pow_succ] at e1;simp only[Nat.mul_add] at e2
   grind
 · rw [oH (by omega),jJ,z2]
   congr 1
/-! ### Slices of words -/
theorem dM.nil (w : World) : dM w none 0 0 []:=⟨rfl,fun i x hi=>by simp at hi,Nat.le_refl _,by omega,by simp,fun x hx=>by cases hx⟩
theorem dM.drop {w : World} {a : Addr} {n cap : Nat} {xs : List Nat} (h : dM w (some a) n cap xs) {k : Nat} (hk : k ≤ xs.length) {m : Nat} (hm : m = n - k) : dM w (some (a.add k)) m (cap - k) (xs.drop k):=by
 have hl:=h.len;have hc:=h.cap;have he:=h.eq;have hle:=h.le;refine ⟨by rw [hm,he];simp,fun i x hi=>⟨_,rfl,?_⟩,by simp;omega,by omega,by simp;omega,fun x hx=>h.digs x (List.mem_of_mem_drop hx)⟩;obtain ⟨a',e,hcell⟩:=h.row (k + i) x (by rw [List.getElem?_drop] at hi;exact hi);cases e;rw [show (a.add k).add i = a.add (k + i) from ?_]
 · exact hcell
 · obtain ⟨g,off,ln⟩:=a
   by_cases hk0 : k = 0 <;> by_cases hi0 : i = 0 <;> simp [Addr.add,hk0,hi0,Nat.add_assoc]
theorem dM.head {w : World} {A : Option Addr} {n cap : Nat} {xs : List Nat} (h : dM w A n cap xs) {k : Nat} (hk : k ≤ xs.length) : dM w A k cap (xs.take k):=by
 have:=h.take k;rwa [List.length_take,Nat.min_eq_left hk] at this
theorem dM.words {w : World} {a : Addr} {n cap : Nat} {xs : List Nat} (h : dM w (some a) n cap xs) : jL w a (xs.map kH):=by
 intro j u hj;rw [List.getElem?_map] at hj;cases hq : xs[j]? with
 | none=>rw [hq] at hj;cases hj
 | some x =>
  rw [hq] at hj;cases hj;obtain ⟨a',e,hc⟩:=h.row j x hq;cases e;exact hc
theorem dM.of_owns {w : World} {base n : Nat} {v : Value} {xs : List Nat} {E : TypeId} (h : iR w base E 1 v n (xs.map kH)) (hn : n = xs.length) (hd : cZ 4294967296 xs) (hl : n ≤ 17592186044416) : ∃ A c,v = .slice A n c ∧ dM w A n c xs:=by
 rcases h.row with ⟨rfl,h0,h1⟩ | ⟨g,cap,rfl,_,hc,hm,_,hr⟩
 · subst h0
   have : xs = []:=by simpa using h1
   subst this;exact ⟨_,_,rfl,dM.nil w⟩
 · refine ⟨_,_,rfl,hn,fun i x hi=>⟨_,rfl,hr i (kH x) (by rw [List.getElem?_map,hi];rfl)⟩,by omega,hm,by omega,hd⟩
theorem dM.none {w : World} {n cap : Nat} {xs : List Nat} (h : dM w none n cap xs) : xs = []:=by
 cases xs with
 | nil=>rfl
 | cons x xs=>obtain ⟨a,e,_⟩:=h.row 0 x rfl;cases e
def aaR (xs : List Nat) (v : Value) (w : World) : Prop:=∃ A c,v = .slice A xs.length c ∧ dM w A xs.length c xs
end Go.Lith
namespace Go.Lith
open Go.RowKit
theorem agf {P : Program} {l : List Value} {w : World} {fn : Func} {R : Ending → World → Prop} (hr : fn.results = #[]) (hR : R (.returned (.tuple #[])) w) : bodyPost P fn R .ret (Fr l) w:=by
 refine ⟨rfl,_,?_,hR⟩;unfold results;rw [hr];simp
theorem ad2 {P : Program} {l : List Value} {w : World} {fn : Func} {R : Ending → World → Prop} (hr : fn.results = #[]) (hR : R (.returned (.tuple #[])) w) : bodyPost P fn R .normal (Fr l) w:=agf hr hR
structure Upd (w w' : World) (g : Nat) : Prop where
 os : w'.os = w.os
 tape : w'.tape = w.tape
 output : w'.output = w.output
 size : w.heap.size ≤ w'.heap.size
 block : ∀ k,k < w.heap.size → k ≠ g → w'.heap[k]? = w.heap[k]?
theorem dK.upd {w w' : World} (h : dK w w') (g : Nat) : Upd w w' g:=⟨h.os,h.tape,h.output,h.size,fun k hk _=>Below.block h k hk⟩
theorem Upd.chg {w w' w'' : World} {g k : Nat} (h : Upd w w' g) (hC : Sj w' w'' k) (hk : w.heap.size ≤ k ∨ k = g) : Upd w w'' g :=
 ⟨hC.os.trans h.os,hC.tape.trans h.tape,hC.output.trans h.output,by rw [hC.size];exact h.size,fun j hj hne=>(hC.block j (by omega)).trans (h.block j hj hne)⟩
theorem dK.grownUpd {w0 w w' : World} {g : Nat} (h : dK w0 w) (hU : Upd w w' g) (hg : w0.heap.size ≤ g) : dK w0 w' :=
 ⟨hU.os.trans h.os,hU.tape.trans h.tape,hU.output.trans h.output,Nat.le_trans h.size hU.size,fun k hk=>(hU.block k (Nat.lt_of_lt_of_le hk h.size) (by omega)).trans (Below.block h k hk)⟩
theorem gD.upd {w w' : World} {g g' : Nat} {cs : List Value} {t : TypeId} (h : gD w g cs t) (hU : Upd w w' g') (hne : g ≠ g') : gD w' g cs t:=(hU.block g h.lt hne).trans h
def Wm (P : Program) (f : FuncId) (args : List Value) (w : World) (g : Nat) (R : Value → World → Prop) : Prop :=
 bF P f ∧ Calls P f args.toArray w fun e w'=>∃ v,e = .returned v ∧ Upd w w' g ∧ R v w'
section
variable {P : Program} {ds : List Deferred} {l : List Value} {x y : Operand} {ty : TypeId} {w : World}
variable {ops : Array Oper} {Q : Exit → Act → World → Prop} {rest : List Oper} {d : Nat} {pos : String} {after : Array Edge}
theorem wY {f : FuncId} {fo : Operand} {xs : Array Operand} {args : List Value} {first cap : Array Value} {a0 : Array TypeId} {g : Nat} {R : Value → World → Prop} (hf : ev l fo = .func (.func f) first cap) (hxs : first.toList ++ xs.toList.map (ev l) ++ cap.toList = args) (hc : Wm P f args w g R)
 (h : ∀ v w',Upd w w' g → R v w' → wpList P ops Q rest (Fr (l.set d v) ds) w') : wpList P ops Q (Oper.mk (some d) (.call { callee:=.value fo,args:=xs,argTypes:=a0 }) ty pos after none :: rest) (Fr l ds) w:=by
 refine wpList_plain rfl fun K hK=>?_;unfold Oper.wp;rw [iF,lM hc.1 hf hxs _ rfl];refine hc.2.mono ?_;rintro e w' ⟨v,rfl,hE,hR⟩;show K ((Fr l ds).put (some d) v) w'
 rw [jA];exact hK _ _ (h v w' hE hR)
theorem aaS {T : TypeId} {E : TypeId} {g o n cap m cap2 : Nat} {A : Option Addr} {cs us : List Value} {t : TypeId} {T' : TypeId} {a0 : Array TypeId} (ha : a0 = #[T,T']) (hu : P.underlying T = some (.slice E)) (hi : (P.info? E).map (·.size) = some 1) (hx : ev l x = .slice (some ⟨g,o,none⟩) n cap) (hy : ev l y = .slice A m cap2) (hl : us.length = Nat.min m n)
 (hsrc : ∀ j v,us[j]? = some v → ∃ a,A = some a ∧ w.cell? (a.add j) = some v) (hB : gD w g cs t) (hfit : o + us.length ≤ cs.length) (h1 : ∀ v ∈ us,v.oneCell' = true)
 (h : ∀ w',Sj w w' g → gD w' g (bK cs o us) t → wpList P ops Q rest (Fr (l.set d (.int .i64 (us.length : Int))) ds) w') :
 wpList P ops Q (Oper.mk (some d) (.call { callee:=.builtin .copy,args:=#[x,y],argTypes:=a0 }) ty pos after none :: rest) (Fr l ds) w:=by
 subst ha;cases us with
 | nil =>
  refine kN (v:=.int .i64 0) (w':=w) (fun o' ho _=>?_) (h w ⟨rfl,rfl,rfl,rfl,fun _ _=>rfl⟩ (by rw [Wk];exact hB));have hrun:=run_copy_none (P:=P) w T T' o'.type E (some ⟨g,o,none⟩) A n cap m cap2 hu hi hl.symm;simp [execOp,ho,resolve,invoke,builtin,dD,hx,hy,hrun,goInt]
 | cons u us =>
  obtain ⟨a,rfl,_⟩:=hsrc 0 u rfl;refine kN (v:=.int .i64 ((u :: us).length : Int)) (w':=w.setRow g (bK cs o (u :: us)).toArray) (fun o' ho _=>?_) (h _ (sJ w g _) (setRow_heap w g cs.toArray _ t _ hB));have hrun:=run_copy_row (P:=P) w T T' o'.type E g o n cap a m cap2 cs.toArray t (u :: us) hu hi hB hl (fun j v hj=>let ⟨a',e,hc⟩:=hsrc j v hj;by cases e;exact hc) (by simpa using hfit) h1;simp only[List.toList_toArray] at hrun;simp [execOp,ho,resolve,invoke,builtin,dD,hx,hy,hrun,bK,goInt]
end
end Go.Lith
namespace Go.Lith
theorem Wn {a b : Nat} : decide (Ij a b < 0) = decide (a < b):=by
 unfold Ij;split
 · simp [*]
 · split <;> simp [*]
theorem dM.src {w : World} {A : Option Addr} {n cap : Nat} {xs : List Nat} (h : dM w A n cap xs) : ∀ (j : Nat) (v : Value),(xs.map kH)[j]? = some v → ∃ a,A = some a ∧ w.cell? (a.add j) = some v:=by
 intro j v hj;rw [List.getElem?_map] at hj;cases hq : xs[j]? with
 | none=>rw [hq] at hj;cases hj
 | some x =>
  rw [hq] at hj;cases hj;exact h.row j x hq
theorem Wo {xs : List Nat} : ∀ u ∈ xs.map kH,u.oneCell' = true:=fun u hu=>by obtain ⟨x,_,rfl⟩:=List.mem_map.1 hu;rfl
theorem cT (n : Nat) : val 4294967296 (digs 4294967296 n) = n:=oF (by omega) n
theorem fZ (n : Nat) : fS (digs 4294967296 n):=mW (by omega) n
theorem jT (n : Nat) : cZ 4294967296 (digs 4294967296 n):=pK (by omega) n
theorem mZ (d : Nat) : val 4294967296 [d] = d:=by simp [val]
theorem rO {d : Nat} (h : d < 4294967296) : cZ 4294967296 [d]:=fun x hx=>by simp at hx;omega
theorem iS (xs : List Nat) : (trim xs).length ≤ xs.length:=by rw [gS];simp;omega
theorem oV {xs : List Nat} (h : cZ 4294967296 xs) : (digs 4294967296 (val 4294967296 xs)).length ≤ xs.length:=dQ (by omega) (gZ h)
theorem Bh {xs : List Nat} {d : Nat} (h : cZ 4294967296 xs) (hd : d < 4294967296) : (digs 4294967296 (val 4294967296 xs * d)).length ≤ xs.length + 1:=by
 refine dQ (by omega) ?_;rw [Nat.pow_succ];exact Nat.mul_lt_mul'' (gZ h) hd
def laid (os : List Nat) (off n m : Nat) : List Nat:=os.take off ++ (digs 4294967296 m ++ List.replicate (n - (digs 4294967296 m).length) 0) ++ os.drop (off + n)
theorem Kq {os : List Nat} {off n m : Nat} (h : off + n ≤ os.length) (hm : (digs 4294967296 m).length ≤ n) : (laid os off n m).length = os.length:=by
 simp [laid];omega
theorem uW {os : List Nat} {off n m : Nat} (hd : cZ 4294967296 os) : cZ 4294967296 (laid os off n m) :=
 ((hd.take _).append ((jT m).append fun x hx=>by rw [List.eq_of_mem_replicate hx];decide)).append (hd.drop _)
theorem Wp {os : List Nat} {off n m : Nat} (h : off + n ≤ os.length) (hm : (digs 4294967296 m).length ≤ n) :
 val 4294967296 (laid os off n m) + 4294967296 ^ off * val 4294967296 ((os.drop off).take n) = val 4294967296 os + 4294967296 ^ off * m:=by
 have e1 : val 4294967296 os = val 4294967296 (os.take off) + 4294967296 ^ off * (val 4294967296 ((os.drop off).take n) + 4294967296 ^ n * val 4294967296 (os.drop (off + n))):=by
  have e : os = os.take off ++ ((os.drop off).take n ++ os.drop (off + n)):=by
   rw [← List.drop_drop,List.take_append_drop,List.take_append_drop]
  conv=>lhs;rw [e]
  rw [eI,eI];simp only[List.length_take,List.length_drop];rw [Nat.min_eq_left (by omega),Nat.min_eq_left (by omega)]
 have e2 : val 4294967296 (laid os off n m) = val 4294967296 (os.take off) + 4294967296 ^ off * (m + 4294967296 ^ n * val 4294967296 (os.drop (off + n))):=by
  unfold laid;rw [List.append_assoc,eI,eI,eI,eT,cT];simp only[List.length_take,List.length_append,List.length_replicate];rw [Nat.min_eq_left (by omega),show (digs 4294967296 m).length + (n - (digs 4294967296 m).length) = n by omega];simp
 rw [e1,e2]
 grind
theorem Sr {cs us vs : List Value} {off : Nat} (h : off + us.length ≤ cs.length) (hm : vs.length ≤ us.length) : bK (bK cs off us) off vs = cs.take off ++ (vs ++ us.drop vs.length) ++ cs.drop (off + us.length):=by
 have hA : (cs.take off).length = off:=by simp;omega
 unfold bK;generalize cs.take off = A at *
 generalize cs.drop (off + us.length) = C at *
 subst hA;rw [List.append_assoc A us C,List.take_left' rfl,List.drop_append,List.drop_eq_nil_of_le (by omega),Nat.add_sub_cancel_left,List.drop_append_of_le_length hm];simp
theorem Ss {os : List Nat} {off n m : Nat} (h : off + n ≤ os.length) (hm : (digs 4294967296 m).length ≤ n) :
 bK (bK (os.map kH) off (List.replicate n (.int .u64 0))) off ((digs 4294967296 m).map kH) = (laid os off n m).map kH:=by
 rw [Sr (by simpa using h) (by simpa using hm)];simp [laid,List.drop_replicate,kH,List.map_take,List.map_drop]
end Go.Lith
namespace Go.Lith
theorem qU {B : Nat} (xs : List Nat) {k : Nat} (hk : k ≤ xs.length) : val B xs = val B (xs.take k) + B ^ k * val B (xs.drop k):=by
 conv=>lhs;rw [← List.take_append_drop k xs]
 rw [eI,List.length_take,Nat.min_eq_left hk]
theorem Wq {P U V two top q : Nat} (hP : 0 < P) (hU : U < (two + 1) * P) (hV : top * P ≤ V) (hq : q * V ≤ U) (ht : 0 < top) : q ≤ two / top:=by
 rw [Nat.le_div_iff_mul_le ht];have h1 : q * (top * P) ≤ q * V:=Nat.mul_le_mul_left _ hV;have h2 : (q * top) * P < (two + 1) * P:=by rw [Nat.mul_assoc];omega
 have:=Nat.lt_of_mul_lt_mul_right h2;omega
theorem Ws {P U V two3 v2 q g : Nat} (hP : 0 < P) (hU : U < (two3 + 1) * P) (hV : v2 * P ≤ V) (hq : q * V ≤ U) (h : two3 < g * v2) : q < g:=by
 rcases Nat.lt_or_ge q g with hlt | hge
 · exact hlt
 · exfalso
   have h1 : g * (v2 * P) ≤ q * V:=Nat.mul_le_mul hge hV;have h2 : (g * v2) * P < (two3 + 1) * P:=by rw [Nat.mul_assoc];omega
   have:=Nat.lt_of_mul_lt_mul_right h2;omega
theorem Kr {P U V two3 v2 q g : Nat} (hU : two3 * P ≤ U) (hV : V < (v2 + 1) * P) (hq : U < (q + 1) * V) (h : g * v2 ≤ two3) (hg : g ≤ v2) : g ≤ q + 1:=by
 rcases Nat.lt_or_ge (q + 1) g with hlt | hge
 · exfalso
   obtain ⟨e,rfl⟩ : ∃ e,g = e + 1:=⟨g - 1,by omega⟩
   have h1 : (q + 1) * V ≤ e * V:=Nat.mul_le_mul_right _ (by omega);have h2 : e * V ≤ e * ((v2 + 1) * P):=Nat.mul_le_mul_left _ (Nat.le_of_lt hV);have h3 : two3 * P < (e * (v2 + 1)) * P:=by rw [Nat.mul_assoc];omega
   have h4:=Nat.lt_of_mul_lt_mul_right h3;rw [Nat.mul_add] at h4;rw [Nat.add_mul] at h;omega
 · exact hge
theorem Gm {U V q g : Nat} (hq : q * V ≤ U) (hq2 : U < (q + 1) * V) (h1 : q ≤ g) (h2 : g ≤ q + 1) : (U < V * g → g - 1 = q) ∧ (¬ U < V * g → g = q):=by
 constructor
 · intro h
   rcases Nat.lt_or_ge q g with hlt | hge
   · omega
   · have : V * g ≤ V * q:=Nat.mul_le_mul_left _ hge
     rw [Nat.mul_comm V q] at this;omega
 · intro h
   rcases Nat.lt_or_ge q g with hlt | hge
   · have : (q + 1) * V ≤ g * V:=Nat.mul_le_mul_right _ hlt
     rw [Nat.mul_comm V g] at h;omega
   · omega
theorem Fv {os : List Nat} {off n m : Nat} (h : off + n ≤ os.length) (hm : (digs 4294967296 m).length ≤ n) : val 4294967296 ((laid os off n m).drop off) = m + 4294967296 ^ n * val 4294967296 (os.drop (off + n)):=by
 have hA : (os.take off).length = off:=by simp;omega
 unfold laid;rw [List.append_assoc,List.drop_append,List.drop_eq_nil_of_le (by omega),hA,Nat.sub_self,List.drop_zero,List.nil_append,eI,eI,eT,cT];simp only[List.length_append,List.length_replicate];rw [show (digs 4294967296 m).length + (n - (digs 4294967296 m).length) = n by omega];simp
theorem Gn {us vs : List Nat} {i : Nat} (hd : cZ 4294967296 vs) (hi : i + vs.length + 1 ≤ us.length) (hH : val 4294967296 (us.drop (i + 1)) < val 4294967296 vs) : val 4294967296 (us.drop (i + (vs.length + 1))) = 0:=by
 have h1:=gZ hd;have h2:=qU (B:=4294967296) (us.drop (i + 1)) (k:=vs.length) (by simp;omega);rw [List.drop_drop,show i + 1 + vs.length = i + (vs.length + 1) by omega] at h2;rcases Nat.eq_zero_or_pos (val 4294967296 (us.drop (i + (vs.length + 1)))) with h | h
 · exact h
 · have:=Nat.mul_le_mul_left (4294967296 ^ vs.length) h
   omega
theorem wZ {us vs : List Nat} {i : Nat} (hd : cZ 4294967296 vs) (hi : i + vs.length + 1 ≤ us.length) (hH : val 4294967296 (us.drop (i + 1)) < val 4294967296 vs) : val 4294967296 (us.drop i) = val 4294967296 ((us.drop i).take (vs.length + 1)):=by
 have h2:=qU (B:=4294967296) (us.drop i) (k:=vs.length + 1) (by simp;omega);rw [List.drop_drop,Gn hd hi hH,Nat.mul_zero,Nat.add_zero] at h2;exact h2
theorem aaT {us vs : List Nat} {i : Nat} (hdu : cZ 4294967296 us) (hi : i < us.length) (hH : val 4294967296 (us.drop (i + 1)) < val 4294967296 vs) : val 4294967296 (us.drop i) < 4294967296 * val 4294967296 vs:=by
 have e:=lN (B:=4294967296) (xs:=us) (k:=i + 1) (by omega) (by simpa using hi);simp only[Nat.add_sub_cancel] at e;have:=hdu us[i] (List.getElem_mem hi);omega
theorem Wt {us : List Nat} {j n : Nat} (hdu : cZ 4294967296 us) (hn : 2 ≤ n) (h0 : j + n < us.length) :
 val 4294967296 ((us.drop j).take (n + 1)) = (us[j + n] * 4294967296 + us[j + n - 1]) * 4294967296 ^ (n - 1) + us[j + n - 2] * 4294967296 ^ (n - 2) + val 4294967296 ((us.drop j).take (n - 2)) ∧ val 4294967296 ((us.drop j).take (n - 2)) < 4294967296 ^ (n - 2):=by
 have hL : (us.drop j).length = us.length - j:=by simp
 have e1:=cR (B:=4294967296) (xs:=us.drop j) (i:=n) (by omega);have e2:=cR (B:=4294967296) (xs:=us.drop j) (i:=n - 1) (by omega);have e3:=cR (B:=4294967296) (xs:=us.drop j) (i:=n - 2) (by omega);rw [show n - 1 + 1 = n by omega] at e2;rw [show n - 2 + 1 = n - 1 by omega] at e3;simp only[List.getElem_drop] at e1 e2 e3;have x2 : us[j + (n - 1)] = us[j + n - 1]:=getElem_congr rfl (by omega) _;have x3 : us[j + (n - 2)] = us[j + n - 2]:=getElem_congr rfl (by omega) _;rw [x2] at e2;rw [x3] at e3;have hp : (4294967296 : Nat) ^ n = 4294967296 * 4294967296 ^ (n - 1):=by rw [← Nat.pow_succ'];congr 1;omega
 have hl:=gZ ((hdu.drop j).take (n - 2));rw [List.length_take,Nat.min_eq_left (by omega)] at hl;refine ⟨?_,hl⟩;rw [e1,e2,e3,hp]
 grind
theorem sN {a b : Nat} : Ij a b < 0 ↔ a < b:=by
 have:=@Wn a b;simpa using this
theorem gI.self {w : World} {A : Option Addr} {n c : Nat} {xs : List Nat} (h : dM w A n c xs) (t : fS xs) : gI (val 4294967296 xs) (.slice A n c) w:=by
 have:=gI.of_trim h rfl;rw [t] at this;rw [h.eq];exact this
theorem gI.zero (w : World) : gI 0 (.slice none 0 0) w:=⟨none,0,rfl,dM.nil w⟩
theorem tR {xs : List Nat} (t : fS xs) (h : 0 < xs.length) : 0 < xs[xs.length - 1]:=by
 rcases Nat.eq_zero_or_pos (xs[xs.length - 1]) with h0 | h0
 · exfalso
   have e:=yN (xs:=xs) (k:=xs.length) h (by omega);rw [List.take_length,h0] at e;have t2 : trim xs = trim (xs.take (xs.length - 1)):=by conv=>lhs;rw [e,mY]
   have t3 : (trim xs).length = xs.length:=by rw [t]
   have t4:=iS (xs.take (xs.length - 1));rw [← t2,t3] at t4;simp at t4;omega
 · exact h0
theorem pT {w : World} {g : Nat} {os : List Nat} (h : gD w g (os.map kH) 126) (hd : cZ 4294967296 os) (hl : os.length ≤ 17592186044416) : dM w (some ⟨g,0,none⟩) (trim os).length os.length (trim os):=by
 have:=(h.nat hd rfl hl).take (trim os).length;rwa [← gS] at this
theorem Io {ys : List Nat} (h : 0 < ys.length) : val 4294967296 ys = val 4294967296 (ys.take (ys.length - 1)) + 4294967296 ^ (ys.length - 1) * ys[ys.length - 1]:=by
 have e:=cR (B:=4294967296) (xs:=ys) (i:=ys.length - 1) (by omega);rw [show ys.length - 1 + 1 = ys.length by omega,List.take_length] at e;exact e
theorem St {vs ys : List Nat} {sh : Nat} (hdv : cZ 4294967296 vs) (hvv : val 4294967296 vs = 2 ^ sh * val 4294967296 ys) (hdy : cZ 4294967296 ys) (h : 0 < ys.length) (hsh : ys[ys.length - 1] * 2 ^ sh < 4294967296) (ht : 0 < ys[ys.length - 1]) (hs : sh ≤ 31) : (trim vs).length = ys.length:=by
 have e : trim vs = digs 4294967296 (2 ^ sh * val 4294967296 ys):=lB (by omega) hdv hvv;have hv:=Io h;have hl:=gZ (hdy.take (ys.length - 1));rw [List.length_take,Nat.min_eq_left (by omega)] at hl;have hp : 0 < 2 ^ sh:=Nat.pow_pos (by omega);have hsp:=rN (n:=sh) (by omega);have hB : (4294967296 : Nat) ^ ys.length = 4294967296 ^ (ys.length - 1) * 4294967296:=by rw [← Nat.pow_succ];congr 1;omega
 have hQ : (trim vs).length < ys.length → (4294967296 : Nat) ^ (trim vs).length ≤ 4294967296 ^ (ys.length - 1):=fun h=>Nat.pow_le_pow_right (by omega) (by omega);generalize 4294967296 ^ (ys.length - 1) = Q at *
 generalize ys[ys.length - 1] = t at *
 generalize val 4294967296 (ys.take (ys.length - 1)) = l at *
 have h1 : t + 1 ≤ 2 ^ (32 - sh):=by
  rw [hsp,Nat.mul_comm] at hsh;exact Nat.lt_of_mul_lt_mul_left hsh
 have h2 : 2 ^ sh * (t + 1) ≤ 4294967296:=by rw [hsp];exact Nat.mul_le_mul_left _ h1
 have h3 : val 4294967296 ys < Q * (t + 1):=by rw [hv,Nat.mul_add];omega
 have h4 : 2 ^ sh * val 4294967296 ys < 4294967296 ^ ys.length:=by
  rw [hB]
  calc 2 ^ sh * val 4294967296 ys < 2 ^ sh * (Q * (t + 1)):=Nat.mul_lt_mul_of_pos_left h3 hp
   _ = Q * (2 ^ sh * (t + 1)):=by grind
   _ ≤ Q * 4294967296:=Nat.mul_le_mul_left _ h2
 have h5:=dQ (by omega) h4;rw [← e] at h5;rcases Nat.lt_or_ge (trim vs).length ys.length with hlt | hge
 · exfalso
   have h6:=gZ hdv.trim;rw [jF,hvv] at h6;have h7:=hQ hlt;have h8 : Q * 1 ≤ Q * t:=Nat.mul_le_mul_left _ ht;have h9 : 1 * val 4294967296 ys ≤ 2 ^ sh * val 4294967296 ys:=Nat.mul_le_mul_right _ hp;omega
 · omega
theorem Su {ys : List Nat} {sh : Nat} (h : 0 < ys.length) (h31 : 2147483648 ≤ ys[ys.length - 1] * 2 ^ sh) : 2147483648 * 4294967296 ^ (ys.length - 1) ≤ 2 ^ sh * val 4294967296 ys:=by
 rw [Io h];generalize 4294967296 ^ (ys.length - 1) = Q at *
 generalize ys[ys.length - 1] = t at *
 have h1 : 2147483648 * Q ≤ t * 2 ^ sh * Q:=Nat.mul_le_mul_right _ h31;rw [Nat.mul_add];have h2 : 2 ^ sh * (Q * t) = t * 2 ^ sh * Q:=by grind
 rw [h2];exact Nat.le_trans h1 (Nat.le_add_left _ _)
theorem Wu {us xs : List Nat} {sh l V : Nat} (hdx : cZ 4294967296 xs) (hlu : us.length = xs.length + 1) (hvu : val 4294967296 us = 2 ^ sh * val 4294967296 xs) (hl : l ≤ xs.length) (h0 : 0 < l) (hs : sh ≤ 31) (hV : 2147483648 * 4294967296 ^ (l - 1) ≤ V) : val 4294967296 (us.drop (xs.length + 1 - l)) < V:=by
 have e:=qU (B:=4294967296) us (k:=xs.length + 1 - l) (by omega);have hx:=gZ hdx;have hp : (4294967296 : Nat) ^ xs.length = 4294967296 ^ (xs.length + 1 - l) * 4294967296 ^ (l - 1):=by rw [← Nat.pow_add];congr 1;omega
 have hs2 : 2 ^ sh ≤ 2 ^ 31:=Nat.pow_le_pow_right (by omega) hs;rcases Nat.lt_or_ge (val 4294967296 (us.drop (xs.length + 1 - l))) V with h | h
 · exact h
 · exfalso
   generalize val 4294967296 (us.drop (xs.length + 1 - l)) = D at *
   generalize val 4294967296 (us.take (xs.length + 1 - l)) = T at *
   have h1 : 4294967296 ^ (xs.length + 1 - l) * (2147483648 * 4294967296 ^ (l - 1)) ≤ 4294967296 ^ (xs.length + 1 - l) * D:=Nat.mul_le_mul_left _ (Nat.le_trans hV h);have h2 : 4294967296 ^ (xs.length + 1 - l) * (2147483648 * 4294967296 ^ (l - 1)) = 2147483648 * 4294967296 ^ xs.length:=by rw [hp];grind
   have h3 : 2 ^ sh * val 4294967296 xs ≤ 2147483648 * val 4294967296 xs:=Nat.mul_le_mul_right _ hs2;generalize 4294967296 ^ (xs.length + 1 - l) * D = Z at *
   rw [h2] at h1;generalize (4294967296 : Nat) ^ xs.length = W' at *
   omega
theorem Wv {X Y p u q : Nat} (hp : 0 < p) (h : u + q * (p * Y) = p * X) (hu : u < p * Y) : q = X / Y ∧ u / p = X % Y:=by
 have hY : 0 < Y:=by
  rcases Nat.eq_zero_or_pos Y with h0 | h0
  · subst h0;omega
  · exact h0
 have hd : p ∣ u:=by
  have h1 : p ∣ u + q * (p * Y):=h ▸ Nat.dvd_mul_right p X;have h2 : p ∣ q * (p * Y):=⟨q * Y,by grind⟩
  exact (Nat.dvd_add_iff_left h2).2 h1
 obtain ⟨r,rfl⟩:=hd;have h3 : p * (r + q * Y) = p * X:=by rw [← h];grind
 have h4:=Nat.eq_of_mul_eq_mul_left hp h3;have h5:=Nat.lt_of_mul_lt_mul_left hu;rw [Nat.mul_div_cancel_left _ hp];have:=Cq (a:=X) (q:=q) (r:=r) hY h5 (by rw [← h4];grind);exact this
theorem acu {vs : List Nat} (hd : cZ 4294967296 vs) (h : 2 ≤ vs.length) : val 4294967296 vs = (vs[vs.length - 1] * 4294967296 + vs[vs.length - 2]) * 4294967296 ^ (vs.length - 2) + val 4294967296 (vs.take (vs.length - 2)) ∧ val 4294967296 (vs.take (vs.length - 2)) < 4294967296 ^ (vs.length - 2):=by
 have e1:=Io (ys:=vs) (by omega);have e2:=cR (B:=4294967296) (xs:=vs) (i:=vs.length - 2) (by omega);rw [show vs.length - 2 + 1 = vs.length - 1 by omega] at e2;have hl:=gZ (hd.take (vs.length - 2));rw [List.length_take,Nat.min_eq_left (by omega)] at hl;refine ⟨?_,hl⟩;have hp : (4294967296 : Nat) ^ (vs.length - 1) = 4294967296 * 4294967296 ^ (vs.length - 2):=by rw [← Nat.pow_succ'];congr 1;omega
 rw [e1,e2,hp]
 grind
theorem Sv {us ds : List Nat} {i two top sec a3 U : Nat} (hdu : cZ 4294967296 us) (hdd : cZ 4294967296 ds) (h2 : 2 ≤ ds.length) (hi : i + ds.length < us.length) (hH : val 4294967296 (us.drop (i + 1)) < val 4294967296 ds)
 (htwo : two = us[i + ds.length - 1] + us[i + ds.length] * 4294967296) (htop : top = ds[ds.length - 1]) (hsec : sec = ds[ds.length - 2]) (ha3 : a3 = us[i + ds.length - 2]) (hU : U = val 4294967296 (us.drop i)) :
 ∃ P,0 < P ∧ U < (two + 1) * (4294967296 * P) ∧ top * (4294967296 * P) ≤ val 4294967296 ds ∧ U < (two * 4294967296 + a3 + 1) * P ∧ (two * 4294967296 + a3) * P ≤ U ∧ (top * 4294967296 + sec) * P ≤ val 4294967296 ds ∧ val 4294967296 ds < (top * 4294967296 + sec + 1) * P ∧ U < 4294967296 * val 4294967296 ds:=by
 obtain ⟨hpt,hpl⟩:=Wt hdu h2 hi;obtain ⟨hvt,hvl⟩:=acu hdd h2;have hUB:=aaT hdu (by omega) hH;rw [← wZ hdd (by omega) hH,← hU] at hpt;rw [← hU] at hUB;have hp : (4294967296 : Nat) ^ (ds.length - 1) = 4294967296 * 4294967296 ^ (ds.length - 2):=by rw [← Nat.pow_succ'];congr 1;omega
 have ha : us[i + ds.length - 2] < 4294967296:=hdu _ (List.getElem_mem _);rw [hp,← ha3] at hpt;rw [← ha3] at ha;rw [← htop,← hsec] at hvt;rw [Nat.add_comm (us[i + ds.length] * 4294967296),← htwo] at hpt;refine ⟨4294967296 ^ (ds.length - 2),Nat.pow_pos (by decide),?_⟩;generalize (4294967296 : Nat) ^ (ds.length - 2) = P at *
 generalize val 4294967296 ((us.drop i).take (ds.length - 2)) = lu at *
 generalize val 4294967296 (ds.take (ds.length - 2)) = ld at *
 generalize val 4294967296 ds = V at *
 have h3 : (a3 + 1) * P ≤ 4294967296 * P:=Nat.mul_le_mul_right _ ha;have e1 : (two * 4294967296 + a3) * P = two * (4294967296 * P) + a3 * P:=by grind
 have e2 : (top * 4294967296 + sec) * P = top * (4294967296 * P) + sec * P:=by grind
 rw [Nat.add_mul,Nat.one_mul] at h3;refine ⟨?_,?_,?_,?_,?_,?_,hUB⟩
 · rw [Nat.add_mul,Nat.one_mul];omega
 · rw [hvt,e2];omega
 · rw [Nat.add_mul,e1];omega
 · rw [e1];omega
 · rw [hvt];omega
 · rw [hvt,Nat.add_mul (top * 4294967296 + sec)];omega
theorem aaU {a b : Nat} (h : a * b < 18446744073709551616) : IntKind.u64.wrap ((a : Int) * (b : Int)) = ((a * b : Nat) : Int):=by
 rw [← Int.natCast_mul];generalize a * b = c at *
 exact eW (by omega) (by omega)
theorem Ob {g r top sec two a3 : Nat} (h : g * top + r = two) (hx : a3 + r * 4294967296 < g * sec) : two * 4294967296 + a3 < g * (top * 4294967296 + sec):=by
 subst h;have : g * (top * 4294967296 + sec) = g * top * 4294967296 + g * sec:=by grind
 rw [this,Nat.add_mul];omega
theorem Cr {g r top sec two a3 : Nat} (h : g * top + r = two) (hx : g * sec ≤ a3 + r * 4294967296) : g * (top * 4294967296 + sec) ≤ two * 4294967296 + a3:=by
 subst h;have : g * (top * 4294967296 + sec) = g * top * 4294967296 + g * sec:=by grind
 rw [this,Nat.add_mul];omega
theorem Ww {g s r a : Nat} (hg : g < 4294967296) (hs : s < 4294967296) (hr : 4294967296 ≤ r) : g * s ≤ a + r * 4294967296:=by
 have h1 : g * s ≤ 4294967296 * 4294967296:=Nat.mul_le_mul (by omega) (by omega);omega
theorem uX {g q cap : Nat} (h : ¬ cap = q) : (if cap = q then some (⟨g,0,none⟩ : Addr) else (some (⟨g,0,none⟩ : Addr)).map (·.add (q * 1))) = some ⟨g,q,none⟩:=by
 rw [if_neg h];simp [gE]
theorem uY {us qs ds : List Nat} {i q U S : Nat} (hdd : cZ 4294967296 ds) (hdu : cZ 4294967296 us) (hi : i + ds.length < us.length) (hH : val 4294967296 (us.drop (i + 1)) < val 4294967296 ds) (hU : U = val 4294967296 (us.drop i)) (hq1 : q * val 4294967296 ds ≤ U) (hq2 : U < (q + 1) * val 4294967296 ds) (hI : val 4294967296 us + val 4294967296 qs * val 4294967296 ds = S) (hz : qs.take (i + 1) = List.replicate (i + 1) 0) (hiq : i < qs.length) :
 val 4294967296 (laid us i (ds.length + 1) (val 4294967296 ((us.drop i).take (ds.length + 1)) - val 4294967296 ds * q)) + val 4294967296 (qs.set i q) * val 4294967296 ds = S ∧ val 4294967296 ((laid us i (ds.length + 1) (val 4294967296 ((us.drop i).take (ds.length + 1)) - val 4294967296 ds * q)).drop i) < val 4294967296 ds ∧ (qs.set i q).take i = List.replicate i 0 ∧ (laid us i (ds.length + 1) (val 4294967296 ((us.drop i).take (ds.length + 1)) - val 4294967296 ds * q)).length = us.length:=by
 have hp:=wZ hdd (by omega) hH;rw [← hp,← hU];have hm : (digs 4294967296 (U - val 4294967296 ds * q)).length ≤ ds.length + 1:=by
  refine dQ (by omega) (Nat.lt_of_le_of_lt (Nat.sub_le _ _) ?_);have h:=gZ ((hdu.drop i).take (ds.length + 1));rw [List.length_take,Nat.min_eq_left (by simp;omega),← hp,← hU] at h;exact h
 have hqc : q * val 4294967296 ds = val 4294967296 ds * q:=Nat.mul_comm _ _;refine ⟨?_,?_,?_,Kq (by omega) hm⟩
 · have e1:=Wp (os:=us) (off:=i) (n:=ds.length + 1) (m:=U - val 4294967296 ds * q) (by omega) hm
   rw [← hp,← hU] at e1;have e2:=kT (B:=4294967296) (os:=qs) (j:=i) (d:=q) hiq;have e3 : qs[i] = 0:=by
    have h:=congrArg (fun l=>l[i]?) hz;simp only[List.getElem?_take] at h;rw [if_pos (by omega),List.getElem?_eq_getElem hiq,List.getElem?_replicate,if_pos (by omega)] at h;exact Option.some.inj h
   rw [e3,Nat.mul_zero,Nat.add_zero] at e2;rw [e2,← hI];obtain ⟨r,hr⟩ : ∃ r,U = val 4294967296 ds * q + r:=⟨U - val 4294967296 ds * q,by omega⟩
   rw [hr] at e1 ⊢;rw [Nat.add_sub_cancel_left] at e1 ⊢;generalize val 4294967296 (laid us i (ds.length + 1) r) = L at *
   generalize (4294967296 : Nat) ^ i = Q at *
   generalize val 4294967296 ds = V at *
   generalize val 4294967296 us = W' at *
   generalize val 4294967296 qs = Z at *
   grind
 · rw [Fv (by omega) hm,Gn hdd (by omega) hH,Nat.mul_zero,Nat.add_zero]
   rw [Nat.add_mul,Nat.one_mul] at hq2;omega
 · rw [List.take_set_of_le (Nat.le_refl i)]
   have h:=congrArg (List.take i) hz;rw [List.take_take,Nat.min_eq_left (by omega),List.take_replicate,Nat.min_eq_left (by omega)] at h;exact h
end Go.Lith
namespace Go.Lith
theorem Ip {r : Nat} (h : r ≤ 4) : (4294967296 : Nat) = 256 ^ r * 256 ^ (4 - r):=by rw [← Nat.pow_add,show r + (4 - r) = 4 by omega]
theorem Cs (r : Nat) : (256 : Nat) ^ r = 2 ^ (8 * r):=by rw [show 256 = 2 ^ 8 from rfl,← Nat.pow_mul]
theorem Wx {x b r : Nat} (hr : r < 4) (hx : x < 4294967296) (hd : 256 ^ (r + 1) ∣ x) (hb : b < 256) : x + b * 256 ^ r < 4294967296:=by
 obtain ⟨c,rfl⟩:=hd;have e:=Ip (r:=r + 1) (by omega);rw [e] at hx ⊢;have h1:=Nat.lt_of_mul_lt_mul_left hx;have h2 : 256 ^ (r + 1) * (c + 1) ≤ 256 ^ (r + 1) * 256 ^ (4 - (r + 1)):=Nat.mul_le_mul_left _ h1;rw [Nat.mul_add,Nat.mul_one] at h2;have h3 : (b + 1) * 256 ^ r ≤ 256 * 256 ^ r:=Nat.mul_le_mul_right _ hb;have h4 : (256 : Nat) ^ (r + 1) = 256 * 256 ^ r:=Nat.pow_succ';have h5 : 0 < (256 : Nat) ^ r:=Nat.pow_pos (by omega);rw [Nat.add_mul,Nat.one_mul] at h3;generalize 256 ^ (r + 1) * 256 ^ (4 - (r + 1)) = Z at *
 generalize 256 ^ (r + 1) * c = Y at *
 omega
theorem Sw {os bs : List Nat} {p j r : Nat} (hp : p < bs.length) (hpj : p = 4 * j + r) (hr : r < 4) (hj : j < os.length) (hd : cZ 4294967296 os) (hb : cZ 256 bs) (hdv : ∀ (i : Nat) (h : i < os.length),256 ^ (p + 1 - 4 * i) ∣ os[i]) (hv : val 4294967296 os = 256 ^ (p + 1) * val 256 (bs.drop (p + 1))) :
 os[j] + bs[p] * 256 ^ r < 4294967296 ∧ 256 ^ (r + 1) ∣ os[j] ∧ (∀ (i : Nat) (h : i < (os.set j (os[j] + bs[p] * 256 ^ r)).length),256 ^ (p - 4 * i) ∣ (os.set j (os[j] + bs[p] * 256 ^ r))[i]) ∧ val 4294967296 (os.set j (os[j] + bs[p] * 256 ^ r)) = 256 ^ p * val 256 (bs.drop p):=by
 have h1:=hdv j hj;rw [show p + 1 - 4 * j = r + 1 by omega] at h1;have hx:=hd _ (List.getElem_mem hj);have hby:=hb _ (List.getElem_mem hp);refine ⟨Wx hr hx h1 hby,h1,?_,?_⟩
 · intro i h
   by_cases e : i = j
   · subst e
     rw [List.getElem_set_self,show p - 4 * i = r by omega];exact Nat.dvd_add (Nat.dvd_trans (Nat.pow_dvd_pow 256 (by omega)) h1) (Nat.dvd_mul_left _ _)
   · rw [List.getElem_set_ne (by omega)]
     exact Nat.dvd_trans (Nat.pow_dvd_pow 256 (by omega)) (hdv i (by simpa using h))
 · have e1:=kT (B:=4294967296) (os:=os) (j:=j) (d:=os[j] + bs[p] * 256 ^ r) hj
   have e2:=lN (B:=256) (xs:=bs) (k:=p + 1) (by omega) (by simpa using hp);simp only[Nat.add_sub_cancel] at e2;have e3 : (4294967296 : Nat) ^ j * 256 ^ r = 256 ^ p:=by
    rw [show (4294967296 : Nat) = 256 ^ 4 from rfl,← Nat.pow_mul,← Nat.pow_add,hpj]
   rw [e2,← e3];rw [Nat.pow_succ,← e3] at hv;generalize (4294967296 : Nat) ^ j = Q at *
   generalize (256 : Nat) ^ r = R at *
   generalize val 256 (bs.drop (p + 1)) = D at *
   generalize val 4294967296 (os.set j (os[j] + bs[p] * R)) = L at *
   generalize val 4294967296 os = M at *
   subst hv
   grind
end Go.Lith
namespace Go.Lith
open Go.RowKit
def lJ (w : World) (S : World → Prop) : Prop:=S w
theorem lJ.nil {w : World} : lJ w (fun _=>True):=trivial
theorem lJ.blk {w : World} {g : Nat} {cs : List Value} {t : TypeId} {S : World → Prop} (h : gD w g cs t) (k : lJ w S) : lJ w (fun w=>gD w g cs t ∧ S w):=⟨h,k⟩
section
variable {P : Program} {ops : Array Oper} {md : Region.Mode} {S : World → Prop}
def dO (P : Program) (ops : Array Oper) (S : World → Prop) (Q : Exit → Act → World → Prop) : List (Oper × Bool) → Act → World → Prop
 | [],a,w=>Q .normal a w
 | (o,true) :: r,a,w=>∃ v,YieldsIf P ops S o v a ∧ dO P ops S Q r (a.put o.dst v) w
 | (o,false) :: r,a,w=>wpList P ops (Exit.then (fun a w=>S w ∧ dO P ops S Q r a w) Q) [o] a w
theorem qV {Q : Exit → Act → World → Prop} (hs : Region.noSelect ops = true) (hQ : ∀ c d v a w,Q (.panic c) (Act.put a d v) w → Q (.panic c) a w) : ∀ (l : List (Nat × Bool)) (listed : Array Bool) (a : Act) (w : World),
 yL md ops l listed = true → S w → dO P ops S Q (l.map fun x=>((ops[x.1]?).getD default,x.2)) a w → wpAnyH P md ops Q S l.length listed a w
 | [],listed,a,w,hB,_,h=>⟨by simpa [yL] using hB,h⟩
 | (i,true) :: r,listed,a,w,hB,hS,h=>by
  simp only[yL,Bool.and_eq_true] at hB;obtain ⟨⟨⟨h1,h2⟩,h3⟩,h4⟩:=hB;obtain ⟨o,ho⟩:=Option.isSome_iff_exists.1 h1;simp only[List.map_cons,dO,ho,Option.getD_some] at h;obtain ⟨v,hy,hr⟩:=h;exact wpAnyH_take ho hs h2 h3 (fun c a w=>hQ c _ v a w) hy hS (qV hs hQ r _ _ _ h4 hS hr)
 | (i,false) :: r,listed,a,w,hB,hS,h=>by
  simp only[yL,Bool.and_eq_true,decide_eq_true_eq] at hB;obtain ⟨⟨h1,h2⟩,h4⟩:=hB;obtain ⟨o,ho⟩:=Option.isSome_iff_exists.1 h1;refine wpAnyH_all h2 (by simp) fun j hj=>?_;obtain rfl : j = i:=by simpa using hj
  simp only[List.map_cons,dO,ho,Option.getD_some] at h;have key : ∀ a' w',Exit.then (fun a w=>S w ∧ dO P ops S Q (r.map fun x=>((ops[x.1]?).getD default,x.2)) a w) Q .normal a' w' → S w' ∧ wpAnyH P md ops Q S r.length (listed.setIfInBounds j true) a' w':=fun a' w' hh=>⟨hh.1,qV hs hQ r _ a' w' h4 hh.1 hh.2⟩
  unfold wpOp;simp only[ho];simp only[wpList] at h;split
  · rename_i hw
    rw [if_pos hw] at h;rcases h with h | ⟨ha,x,y,hl⟩
    · refine .inl ?_
      unfold Oper.wp at h ⊢;generalize (execOp a.eval o).run P w = res at *
      cases res with
      | ok n w' =>
       cases n <;> simp only[Oper.upon] at h ⊢ <;>
        first
         | exact key _ _ h
         | exact Calls.mono h (fun e w'' he=>by cases e <;> first | exact key _ _ he | exact he)
         | exact Rows.mono h (fun _ _ he=>key _ _ he)
      | halt x w'=>cases x <;> simp only[Oper.upon] at h ⊢ <;> exact h
    · exact .inr ⟨ha,x,y,hl⟩
  · rename_i hw
    rw [if_neg hw] at h;exact key _ _ h
theorem eH {id : Nat} {Q : Exit → Act → World → Prop} {a : Act} {w : World} {l : List Oper} (o : List (Nat × Bool)) (hm : P.follows .mixedOrders = true) (hB : (Region.noSelect l.toArray && decide (o.length = l.length) && yL .any l.toArray o (Array.replicate l.toArray.size false)) = true)
 (hQ : ∀ c d v a w,Q (.panic c) (Act.put a d v) w → Q (.panic c) a w) {ol : List (Oper × Bool)} (hol : (o.map fun x=>((l.toArray[x.1]?).getD default,x.2)) = ol)
 (h : ∀ w',dK w w' → ∃ S,lJ w' S ∧ dO P l.toArray S Q ol a w') : (Code.region id l.toArray true).wp P Q a w:=by
 simp only[Bool.and_eq_true,decide_eq_true_eq] at hB;subst hol;obtain ⟨S,hS,h⟩:=h _ (dK.refl w).drawn;refine wp_region_held (S:=S) hm ?_;have:=qV (md:=.any) hB.1.1 hQ o _ a { w with drawn:=w.drawn + 1 } hB.2 hS h;rwa [hB.1.2] at this
variable {ds : List Deferred} {l : List Value} {Q : Exit → Act → World → Prop} {w : World} {rest : List (Oper × Bool)} {d : Nat} {op : Op} {ty : TypeId} {pos : String} {after : Array Edge} {v : Value}
theorem Wy (hr : ∀ w,S w → vZ P l op ty v w) (h : dO P ops S Q rest (Fr (l.set d v) ds) w) : dO P ops S Q ((Oper.mk (some d) op ty pos after none,true) :: rest) (Fr l ds) w:=by
 refine ⟨v,.inl ⟨by simp [Region.wanted],fun w hw=>hr w hw _ rfl rfl⟩,?_⟩;show dO P ops S Q rest ((Fr l ds).put (some d) v) w
 rw [jA];exact h
theorem aZ (hr : gX P l op ty v) (h : dO P ops S Q rest (Fr (l.set d v) ds) w) : dO P ops S Q ((Oper.mk (some d) op ty pos after none,true) :: rest) (Fr l ds) w:=Wy (fun w _=>hr w) h
theorem cU {T : TypeId} {x : Operand} {a : Addr} (hx : ev l x = .pointer (some a)) (hv : ∀ w',S w' → vL P w' T a v) (h : dO P ops S Q rest (Fr (l.set d v) ds) w) : dO P ops S Q ((Oper.mk (some d) (.load T x) ty pos after none,true) :: rest) (Fr l ds) w :=
 Wy (fun _ hS=>cM hx (hv _ hS)) h
theorem dU (h : Q .normal (Fr l ds) w) : dO P ops S Q [] (Fr l ds) w:=h
theorem cW {o : Oper} (h : wpList P ops (Exit.then (fun a w=>S w ∧ dO P ops S Q rest a w) Q) [o] (Fr l ds) w) : dO P ops S Q ((o,false) :: rest) (Fr l ds) w:=h
end
end Go.Lith
namespace Go.Lith
open Go.RowKit
def tJ (P : Program) (d : Nat) (T : TypeId) (x y : Value) (p : Prop) : Prop:=∀ w,∃ b : Bool,(Op.equalIn d T x y).run P w = .ok b w ∧ (b = true ↔ p)
section
variable {P : Program} {d : Nat} {T : TypeId}
theorem tJ.int {k k' : IntKind} {m n : Int} (hu : P.underlying T = some (.int k')) : tJ P (d + 1) T (.int k m) (.int k n) (m = n):=fun w=>⟨m == n,by unfold Op.equalIn;simp [run_underlying hu],by simp⟩
theorem tJ.bool {a b : Bool} (hu : P.underlying T = some .bool) : tJ P (d + 1) T (.bool a) (.bool b) (a = b):=fun w=>⟨a == b,by unfold Op.equalIn;simp [run_underlying hu],by simp⟩
theorem Ct {a b : ByteArray} (h : a.toList = b.toList) : a = b:=by
 rw [ByteArray.toList_eq,ByteArray.toList_eq] at h;cases a;cases b;simp at h;rw [h]
theorem Iq (a b : ByteArray) : (a.toList == b.toList) = decide (a = b):=by
 by_cases h : a = b
 · subst h;simp
 · rw [decide_eq_false h];exact beq_eq_false_iff_ne.2 fun e=>h (Ct e)
theorem tJ.str {a b : ByteArray} (hu : P.underlying T = some .string) : tJ P (d + 1) T (.string a) (.string b) (a = b):=fun w=>⟨a == b,by unfold Op.equalIn;simp [run_underlying hu],by rw [beq_toListBytes,Iq];simp⟩
def vM (P : Program) (d : Nat) (xs ys : Array Value) (fs : List Field) (p : Prop) : Prop:=∀ w,∃ b : Bool,(Op.eqFields d xs ys fs).run P w = .ok b w ∧ (b = true ↔ p)
theorem vM.nil {xs ys : Array Value} : vM P d xs ys [] True:=fun w=>⟨true,by simp [Op.eqFields],by simp⟩
theorem vM.cons {xs ys : Array Value} {f : Field} {fs : List Field} {x y : Value} {p q : Prop} (hn : f.name ≠ "_") (hx : ∀ w,(part f.type xs f.offset).run P w = .ok x w) (hy : ∀ w,(part f.type ys f.offset).run P w = .ok y w)
 (h : tJ P d f.type x y p) (k : vM P d xs ys fs q) : vM P d xs ys (f :: fs) (p ∧ q):=fun w=>by
 obtain ⟨b,hb,hp⟩:=h w;obtain ⟨c,hc,hq⟩:=k w;cases b
 · exact ⟨false,by simp [Op.eqFields,hn,hx,hy,hb],by simp at hp ⊢;intro h;exact absurd h hp⟩
 · exact ⟨c,by simp [Op.eqFields,hn,hx,hy,hb,hc],by simp at hp;simp [hp,hq]⟩
def yO (P : Program) (d : Nat) (E : TypeId) (n : Nat) (xs ys : Array Value) (is : List Nat) (p : Prop) : Prop:=∀ w,∃ b : Bool,(Op.eqItems d E n xs ys is).run P w = .ok b w ∧ (b = true ↔ p)
theorem yO.nil {E : TypeId} {n : Nat} {xs ys : Array Value} : yO P d E n xs ys [] True:=fun w=>⟨true,by simp [Op.eqItems],by simp⟩
theorem yO.cons {E : TypeId} {n i : Nat} {is : List Nat} {xs ys : Array Value} {x y : Value} {p q : Prop} (hx : ∀ w,(part E xs (i * n)).run P w = .ok x w) (hy : ∀ w,(part E ys (i * n)).run P w = .ok y w)
 (h : tJ P d E x y p) (k : yO P d E n xs ys is q) : yO P d E n xs ys (i :: is) (p ∧ q):=fun w=>by
 obtain ⟨b,hb,hp⟩:=h w;obtain ⟨c,hc,hq⟩:=k w;cases b
 · exact ⟨false,by simp [Op.eqItems,hx,hy,hb],by simp at hp ⊢;intro h;exact absurd h hp⟩
 · exact ⟨c,by simp [Op.eqItems,hx,hy,hb,hc],by simp at hp;simp [hp,hq]⟩
theorem tJ.struct {fs : Array Field} {xs ys : Array Value} {p : Prop} (hu : P.underlying T = some (.struct fs)) (hs : P.stoodInHeld T = false) (h : vM P d xs ys fs.toList p) : tJ P (d + 1) T (.agg xs) (.agg ys) p:=fun w=>by
 have hf : P.fieldsOf T = fs:=by simp [Program.fieldsOf,hu]
 rw [run_equalIn_struct w d T xs ys (by rw [hf];exact hu) hs,hf];exact h w
theorem tJ.array {n c : Nat} {E : TypeId} {xs ys : Array Value} {p : Prop} (hu : P.underlying T = some (.array n E)) (hc : fB P E c) (h : yO P d E c xs ys (List.range n) p) : tJ P (d + 1) T (.agg xs) (.agg ys) p:=fun w=>by
 obtain ⟨i,hi,rfl⟩:=hc;have hE : P.cellsOf E = i.size:=by simp [Program.cellsOf,hi]
 rw [run_equalIn_array w d xs ys hu hi,hE];exact h w
theorem tJ.iff {x y : Value} {p q : Prop} (h : tJ P d T x y p) (hpq : p ↔ q) : tJ P d T x y q:=fun w=>let ⟨b,hb,hp⟩:=h w;⟨b,hb,hp.trans hpq⟩
theorem dR {xs : Array Value} {off : Nat} {v : Value} (hA : gW P T false) (hv : xs[off]? = some v) (w : World) : (part T xs off).run P w = .ok v w:=by simp [part,uU hA,hv]
theorem fP {xs us : Array Value} {off c : Nat} (hA : gW P T true) (hc : fB P T c) (hv : xs.extract off (off + c) = us) (w : World) : (part T xs off).run P w = .ok (.agg us) w:=by
 subst hv;simp [part,uU hA,fO hc]
variable {l : List Value} {x y : Operand} {T' ty : TypeId}
theorem sO {u v : Value} {p : Prop} [Decidable p] (h : tJ P 10000 T u v p) (w : World) : (Op.equal T u v).run P w = .ok (decide p) w:=by
 obtain ⟨b,hb,hp⟩:=h w;rw [Op.equal,show Op.maxDepth = 10000 from rfl,hb]
 congr 1
 cases b
 · exact (decide_eq_false (by simpa using hp)).symm
 · exact (decide_eq_true (by simpa using hp)).symm
theorem Oc {xs ys : Array Value} {p : Prop} [Decidable p] (hg : P.eqGuardType P.depth T = false) (hx : ev l x = .agg xs) (hy : ev l y = .agg ys) (h : tJ P 10000 T (.agg xs) (.agg ys) p) : gX P l (.binOp .eql T x y T') ty (.bool (decide p)):=fun w o ho _=>by
 simp [execOp,ho,dD,hx,hy,eqGuard,binOp,hg,sO h]
theorem Od {xs ys : Array Value} {p : Prop} [Decidable p] (hg : P.eqGuardType P.depth T = false) (hx : ev l x = .agg xs) (hy : ev l y = .agg ys) (h : tJ P 10000 T (.agg xs) (.agg ys) p) : gX P l (.binOp .neq T x y T') ty (.bool (decide (¬ p))):=fun w o ho _=>by
 simp [execOp,ho,dD,hx,hy,eqGuard,binOp,hg,sO h]
theorem Wz {a b : Bool} (hu : P.underlying T = some .bool) (hx : ev l x = .bool a) (hy : ev l y = .bool b) : gX P l (.binOp .eql T x y T') ty (.bool (decide (a = b))):=fun w o ho _=>by
 have h:=sO (tJ.bool (d:=9999) (a:=a) (b:=b) hu) w;simp [execOp,ho,dD,hx,hy,eqGuard,binOp,h]
theorem Xa {a b : Bool} (hu : P.underlying T = some .bool) (hx : ev l x = .bool a) (hy : ev l y = .bool b) : gX P l (.binOp .neq T x y T') ty (.bool (decide (¬ a = b))):=fun w o ho _=>by
 have h:=sO (tJ.bool (d:=9999) (a:=a) (b:=b) hu) w;simp [execOp,ho,dD,hx,hy,eqGuard,binOp,h]
theorem Oe {a b : ByteArray} (hu : P.underlying T = some .string) (hx : ev l x = .string a) (hy : ev l y = .string b) : gX P l (.binOp .eql T x y T') ty (.bool (decide (a = b))):=fun w o ho _=>by
 have h:=sO (tJ.str (d:=9999) (a:=a) (b:=b) hu) w;simp [execOp,ho,dD,hx,hy,eqGuard,binOp,h,Op.stringOp,Iq]
theorem acv {a b : ByteArray} (hu : P.underlying T = some .string) (hx : ev l x = .string a) (hy : ev l y = .string b) : gX P l (.binOp .neq T x y T') ty (.bool (decide (¬ a = b))):=fun w o ho _=>by
 have h:=sO (tJ.str (d:=9999) (a:=a) (b:=b) hu) w;simp [execOp,ho,dD,hx,hy,eqGuard,binOp,h,Op.stringOp,Iq]
end
end Go.Lith
namespace Go.Lith
def mA (s : ByteArray) : List Nat:=s.data.toList.reverse.map UInt8.toNat
def aaV (s : ByteArray) : Nat:=val 256 (mA s)
theorem tS (s : ByteArray) : s.data.toList.length = s.size:=Array.length_toList
theorem qW (s : ByteArray) : (mA s).length = s.size:=by simp only[mA,List.length_map,List.length_reverse,tS]
theorem Aj (s : ByteArray) : cZ 256 (mA s):=fun x hx=>by
 obtain ⟨b,_,rfl⟩:=List.mem_map.1 hx;exact b.toNat_lt
theorem vQ (s : ByteArray) (i : Nat) : s[i]? = s.data.toList[i]?:=by
 by_cases h : i < s.size
 · rw [getElem?_pos s i h,List.getElem?_eq_getElem (by rw [tS];omega)]
   rfl
 · rw [getElem?_neg s i h,List.getElem?_eq_none (by rw [tS];omega)]
theorem wC {s : ByteArray} {i p : Nat} (h : p + 1 + i = s.size) : ∃ b,s[i]? = some b ∧ ∃ hp : p < (mA s).length,(mA s)[p] = b.toNat:=by
 have hs:=tS s;have hi : i < s.data.toList.length:=by omega
 refine ⟨s.data.toList[i],by rw [vQ];exact List.getElem?_eq_getElem hi,by rw [qW];omega,?_⟩;simp only[mA,List.getElem_map,List.getElem_reverse]
 congr 2
 omega
theorem gC (n : Int) : aaV (mX n) = n.natAbs:=by
 have e : mA (mX n) = digs 256 n.natAbs:=by
  simp only[mA,mX,kS,List.reverse_reverse,← List.map_reverse,List.map_map];have hd : cZ 256 (digs 256 n.natAbs):=pK (by omega) _;have : ∀ l : List Nat,cZ 256 l → l.map (UInt8.toNat ∘ UInt8.ofNat) = l:=by
   intro l hl;refine (List.map_congr_left fun x hx=>?_).trans (List.map_id l);simp only[Function.comp_apply,id_eq,UInt8.toNat_ofNat'];exact Nat.mod_eq_of_lt (hl x hx)
  exact this _ hd
 rw [aaV,e,oF (by omega)]
theorem lD {m n : Nat} (h : m < 9223372036854775808) : IntKind.i64.wrap ((m : Int).tdiv (n : Int)) = ((m / n : Nat) : Int):=by
 rw [← Int.ofNat_tdiv];have : m / n ≤ m:=Nat.div_le_self m n;exact aM (by have:=Int.natCast_nonneg (m / n);omega) (by omega)
theorem Xb {xs : List Nat} {n : Nat} (h : xs.length ≤ n) : val 256 (xs.drop n) = 0:=by rw [List.drop_of_length_le h];rfl
end Go.Lith
namespace Go.Lith
def lG (l : List UInt8) : ByteArray:=⟨l.toArray⟩
theorem nA (l : List UInt8) : (lG l).data.toList = l:=by simp [lG]
theorem Sx {l k : List UInt8} (h : lG l = lG k) : l = k:=by rw [← nA l,h,nA]
theorem wD (l : List UInt8) : (lG l).size = l.length:=by rw [← tS,nA]
theorem Sy (l : List UInt8) (i : Nat) : (lG l)[i]? = l[i]?:=by rw [vQ,nA]
theorem Of (l : List UInt8) (n : Nat) : (lG l).extract n (lG l).size = lG (l.drop n):=by
 apply ByteArray.ext;rw [ByteArray.data_extract];apply Array.ext';rw [Array.toList_extract,nA,wD];simp only[lG,List.extract_eq_take_drop,List.toList_toArray];exact List.take_of_length_le (by simp)
theorem Ks (l : List UInt8) : (lG l = ⟨#[]⟩) = (l = []):=by
 apply propext;constructor
 · intro h
   exact Sx (k:=[]) h
 · rintro rfl;rfl
def iG (l : List UInt8) : List UInt8:=l.dropWhile (· == 0)
theorem Og {l : List UInt8} {b : UInt8} (h : l[0]? = some b) (hb : b.toNat = 0) : iG (l.drop 1) = iG l:=by
 cases l with
 | nil=>cases h
 | cons c l =>
  simp at h;subst h;have : c = 0:=UInt8.toNat_inj.1 hb;subst this;simp [iG]
theorem Oh {l : List UInt8} {b : UInt8} (h : l[0]? = some b) (hb : ¬ b.toNat = 0) : iG l = l:=by
 cases l with
 | nil=>rfl
 | cons c l =>
  simp at h;subst h;have : ¬ c = 0:=fun e=>hb (by rw [e];rfl);simp [iG,this]
theorem Sz : iG [] = []:=rfl
end Go.Lith
namespace Go.Lith
open Go.RowKit
section
variable {P : Program} {ds : List Deferred} {l : List Value} {x y z0 : Operand} {T T' ty : TypeId}
abbrev u8v (b : UInt8) : Value:=.int .u8 (b.toNat : Int)
theorem Cu {w : World} {base n : Nat} {E : TypeId} {v : Value} {bs : List UInt8} (hs : P.underlying T = some (.slice E)) (he : P.underlying E = some (.int .u8)) (hd : P.underlying T' = some .string) (hx : ev l x = v) (hown : iR w base E 1 v n (bs.map u8v)) :
 vZ P l (.convert T T' x) ty (.string (lG bs)) w:=fun o ho _=>by
 have hn : bs.length = n:=by have:=hown.1;simpa using this
 rcases hown.row with ⟨rfl,rfl,h⟩ | ⟨g,cap,rfl,_,_,_,_,hr⟩
 · obtain rfl : bs = []:=by simpa using h
   simp only[execOp,ho,dD,hx];rw [Sem.run_bind,run_convert_bytes_nil w T E hs he 0 0 T' hd];rfl
 · subst hn
   have:=run_convert_bytes_back (P:=P) w T T' E ⟨g,0,none⟩ cap bs hs he hd (fun j hj=>hr j _ (by simp [hj]));simp only[execOp,ho,dD,hx];rw [Sem.run_bind,this];rfl
end
structure Xc (w : World) (D : Nat) : Prop where
 h : w.heap[D]? = some (.deferred (some []))
theorem Xc.ext {w w' : World} {D : Nat} (h : Xc w D) (hE : dK w w') : Xc w' D:=⟨hE.block h.h⟩
theorem Xc.ne {w : World} {D g : Nat} {cs : List Value} {t : TypeId} (h : Xc w D) (hB : gD w g cs t) : D ≠ g:=fun e=>by
 subst e;have:=h.h;rw [hB] at this;cases this
theorem Xc.chg {w w' : World} {D g : Nat} (h : Xc w D) (hC : Sj w w' g) (hne : D ≠ g) : Xc w' D:=⟨(hC.block D hne).trans h.h⟩
theorem gD.putD {w : World} {D g : Nat} {cs : List Value} {t : TypeId} (hB : gD w g cs t) (h : Xc w D) {o : Obj} : gD (w.putObj D o) g cs t:=(World.putObj_heap_other (Ne.symm (h.ne hB))).trans hB
theorem dK.putD {w0 w : World} {D : Nat} (hX : dK w0 w) (hD : w0.heap.size ≤ D) {o : Obj} : dK w0 (w.putObj D o) :=
 ⟨hX.os,hX.tape,hX.output,by rw [World.putObj_size];exact hX.size,fun k hk=>(World.putObj_heap_other (by omega)).trans (Below.block hX k hk)⟩
theorem ad3 {P : Program} {l : List Value} {n : Nat} {fn : Func} {R : Ending → World → Prop} {D : Nat} {w : World} (hK : Xc w D) (h : bodyPost P fn R .ret (Fr l) (w.putObj D (.deferred none))) :
 bodyPostM Fence.wide n P fn R .ret (Fr l [{ target:=.collected D,args:=#[] }]) w:=by
 refine ⟨by simp,.inl ⟨D,_,rfl,run_takeDeferred hK.h,?_⟩⟩;obtain ⟨_,v,hv,hR⟩:=h;exact ⟨v,hv,hR⟩
end Go.Lith
namespace Go.Lith
def wb (x : Nat) : List UInt8:=[UInt8.ofNat (x / 16777216),UInt8.ofNat (x / 65536),UInt8.ofNat (x / 256),UInt8.ofNat x]
def Kt (l : List (Nat × Nat)) : List UInt8:=l.flatMap fun x=>wb x.2
theorem Xd (l : List (Nat × Nat)) (x : Nat × Nat) : Kt (l ++ [x]) = Kt l ++ wb x.2:=by simp [Kt]
theorem Cv (l : List (Nat × Nat)) : (Kt l).length = 4 * l.length:=by
 induction l with
 | nil=>rfl
 | cons x l ih=>rw [Kt,List.flatMap_cons,List.length_append];rw [Kt] at ih;rw [ih];simp [wb];omega
def Fw (neg : Bool) (n : Nat) : Int:=if neg then -(n : Int) else n
theorem wE (neg : Bool) (n : Nat) : (Fw neg n).natAbs = n:=by cases neg <;> simp [Fw]
theorem Ir (neg : Bool) (n : Nat) : iE (Fw neg n) = (neg && decide (n ≠ 0)):=by
 cases neg
 · simp [Fw,iE]
 · rcases Nat.eq_zero_or_pos n with h | h
   · subst h;rfl
   · have h2 : n ≠ 0:=by omega
     simp [Fw,iE,h,h2]
theorem Fx (ys : List Nat) (h : cZ 4294967296 ys) : val 256 (((ys.reverse.flatMap wb).reverse).map UInt8.toNat) = val 4294967296 ys ∧ cZ 256 (((ys.reverse.flatMap wb).reverse).map UInt8.toNat):=by
 induction ys with
 | nil=>exact ⟨rfl,fun _ h=>by cases h⟩
 | cons y ys ih =>
  have hy:=h y (by simp);obtain ⟨i1,i2⟩:=ih (fun x hx=>h x (by simp [hx]));have e : (((y :: ys).reverse.flatMap wb).reverse).map UInt8.toNat = [y % 256,y / 256 % 256,y / 65536 % 256,y / 16777216 % 256] ++ (((ys.reverse.flatMap wb).reverse).map UInt8.toNat):=by
   simp [List.flatMap_append,wb,UInt8.toNat_ofNat']
  rw [e];refine ⟨?_,?_⟩
  · rw [eI,i1]
    simp only[val,List.length_cons,List.length_nil];omega
  · refine cZ.append ?_ i2
    intro x hx;simp at hx;omega
theorem Ak {l : List UInt8} : iG l = ((trim ((l.reverse).map UInt8.toNat)).reverse).map UInt8.ofNat:=by
 induction l with
 | nil=>rfl
 | cons b l ih =>
  have hk : ∀ k : List Nat,∀ x : Nat,trim (k ++ [x]) = if x = 0 then trim k else k ++ [x]:=fun k x=>by
   split
   · rename_i h;subst h;exact mY k
   · rename_i h;exact oC h k
  rw [List.reverse_cons,List.map_append,List.map_cons,List.map_nil,hk];by_cases hb : b = 0
  · subst hb
    rw [if_pos (show UInt8.toNat 0 = 0 from rfl),← ih];simp [iG]
  · have hb' : ¬ b.toNat = 0:=fun e=>hb (UInt8.toNat_inj.1 e)
    rw [if_neg hb'];simp [iG,hb,Function.comp_def]
theorem Oi {ys : List Nat} (h : cZ 4294967296 ys) (neg : Bool) : lG (iG (ys.reverse.flatMap wb)) = mX (Fw neg (val 4294967296 ys)):=by
 obtain ⟨h1,h2⟩:=Fx ys h;rw [Ak,lB (by omega) h2 h1,mX,wE,kS];rfl
theorem Cw {neg : Bool} {n : Nat} : (mX (Fw neg n) = ⟨#[]⟩) ↔ n = 0:=by
 constructor
 · intro h
   have:=Gi (Fw neg n);rw [h,wE] at this;have h0 : digs 256 n = []:=List.eq_nil_of_length_eq_zero this.symm;exact (qL (by omega)).1 h0
 · rintro rfl
   cases neg <;> rfl
end Go.Lith
namespace Go.Lith
class Bw (k : outParam Nat) (n : Int) : Prop where
 h : Bd k n
instance {a b : Nat} {m n : Int} [x : Bw a m] [y : Bw b n] : Bw (max a b + 1) (m + n):=⟨x.h.add y.h⟩
instance {a b : Nat} {m n : Int} [x : Bw a m] [y : Bw b n] : Bw (a + b) (m * n):=⟨x.h.mul y.h⟩
instance : Bw 1 0:=⟨Qr 1⟩
theorem yP {n : Int} (h : iE n = true) : n < 0:=of_decide_eq_true h
theorem Cx {n : Int} (h : iE n = false) : 0 ≤ n:=Int.not_lt.1 (of_decide_eq_false h)
theorem natAbs_neg {n : Int} (h : iE n = true) : (n.natAbs : Int) = -n:=by have:=yP h;omega
theorem jB {n : Int} (h : iE n = false) : (n.natAbs : Int) = n:=by have:=Cx h;omega
theorem tT (n : Nat) : Fw true n = -(n : Int):=rfl
theorem nP (n : Nat) : Fw false n = (n : Int):=rfl
theorem xA (a : Int) : Fw (iE a) a.natAbs = a:=by
 cases h : iE a
 · rw [nP,jB h]
 · rw [tT,natAbs_neg h];omega
theorem Qs (a : Int) : Fw (!iE a) a.natAbs = -a:=by
 cases h : iE a
 · rw [Bool.not_false,tT,jB h]
 · rw [Bool.not_true,nP,natAbs_neg h]
theorem Qt {a b : Int} (h : iE a = iE b) : Fw (iE a) (a.natAbs + b.natAbs) = a + b:=by
 cases ha : iE a <;> rw [ha] at h
 · have h1:=jB ha;have h2:=jB h.symm;rw [nP];omega
 · have h1:=natAbs_neg ha;have h2:=natAbs_neg h.symm;rw [tT];omega
theorem Xe {a b : Int} (h : ¬ iE a = iE b) (hl : a.natAbs < b.natAbs) : Fw (iE b) (b.natAbs - a.natAbs) = a + b:=by
 cases ha : iE a <;> cases hb : iE b <;> rw [ha,hb] at h
 · exact absurd rfl h
 · have h1:=jB ha;have h2:=natAbs_neg hb;rw [tT];omega
 · have h1:=natAbs_neg ha;have h2:=jB hb;rw [nP];omega
 · exact absurd rfl h
theorem Xf {a b : Int} (h : ¬ iE a = iE b) (hl : b.natAbs ≤ a.natAbs) : Fw (iE a) (a.natAbs - b.natAbs) = a + b:=by
 cases ha : iE a <;> cases hb : iE b <;> rw [ha,hb] at h
 · exact absurd rfl h
 · have h1:=jB ha;have h2:=natAbs_neg hb;rw [nP];omega
 · have h1:=natAbs_neg ha;have h2:=jB hb;rw [tT];omega
 · exact absurd rfl h
theorem Qu {a b : Int} : Fw (decide (¬ iE a = iE b)) (a.natAbs * b.natAbs) = a * b:=by
 cases ha : iE a <;> cases hb : iE b
 · have h1:=jB ha;have h2:=jB hb
   show ((a.natAbs * b.natAbs : Nat) : Int) = _
   rw [Int.natCast_mul,h1,h2]
 · have h1:=jB ha;have h2:=natAbs_neg hb
   show -((a.natAbs * b.natAbs : Nat) : Int) = _
   rw [Int.natCast_mul,h1,h2,Int.mul_neg,Int.neg_neg]
 · have h1:=natAbs_neg ha;have h2:=jB hb
   show -((a.natAbs * b.natAbs : Nat) : Int) = _
   rw [Int.natCast_mul,h1,h2,Int.neg_mul,Int.neg_neg]
 · have h1:=natAbs_neg ha;have h2:=natAbs_neg hb
   show ((a.natAbs * b.natAbs : Nat) : Int) = _
   rw [Int.natCast_mul,h1,h2,Int.neg_mul_neg]
def Am (n : Int) : Int:=if n < 0 then -1 else if 0 < n then 1 else 0
theorem Ta {n : Int} (h : n < 0) : Am n = -1:=by rw [Am,if_pos h]
theorem Tb {n : Int} (h : 0 < n) : Am n = 1:=by rw [Am,if_neg (by omega),if_pos h]
def eE : Nat → Nat
 | 0=>0
 | n + 1=>if (eE n + 1) * (eE n + 1) ≤ n + 1 then eE n + 1 else eE n
theorem sP : ∀ n,eE n * eE n ≤ n ∧ n < (eE n + 1) * (eE n + 1)
 | 0=>by simp [eE]
 | n + 1=>by
  obtain ⟨h1,h2⟩:=sP n;simp only[eE];split
  · rename_i h
    refine ⟨h,?_⟩;have : (eE n + 1 + 1) * (eE n + 1 + 1) = (eE n + 1) * (eE n + 1) + 2 * eE n + 3:=by grind
    omega
  · rename_i h
    exact ⟨by omega,by omega⟩
theorem xB {n r : Nat} (h1 : r * r ≤ n) (h2 : n < (r + 1) * (r + 1)) : r = eE n:=by
 obtain ⟨g1,g2⟩:=sP n;rcases Nat.lt_trichotomy r (eE n) with h | h | h
 · have:=Nat.mul_le_mul (show r + 1 ≤ eE n from h) (show r + 1 ≤ eE n from h);omega
 · exact h
 · have:=Nat.mul_le_mul (show eE n + 1 ≤ r from h) (show eE n + 1 ≤ r from h);omega
theorem tU {k V : Nat} (h : V < 2 ^ k) : (digs 4294967296 V).length ≤ k:=by
 refine dQ (by omega) (Nat.lt_of_lt_of_le h ?_);rw [show (4294967296 : Nat) = 2 ^ 32 from rfl,← Nat.pow_mul];exact Nat.pow_le_pow_right (by omega) (by omega)
theorem gQ {n : Int} (h : Bd 1000000 n) : (mX n).size ≤ 1000000000000:=Nat.le_trans (Ii h) (by decide)
theorem Tc {k : Nat} {a b : Int} (ha : Bd k a) (hb : Bd k b) : (digs 4294967296 (a.natAbs + b.natAbs)).length ≤ k + 1:=tU (by unfold Bd at ha hb;rw [Nat.pow_succ];omega)
theorem tV {k : Nat} {n : Int} (h : Bd k n) : (digs 4294967296 n.natAbs).length ≤ k:=tU h
theorem Cy {m n : Nat} (h : m ≤ n) : (digs 4294967296 m).length ≤ (digs 4294967296 n).length:=by
 refine dQ (by omega) (Nat.lt_of_le_of_lt h ?_);have:=gZ (jT n);rwa [cT] at this
end Go.Lith
namespace Go.Lith
def oJ (n : Int) : Prop:=-9223372036854775808 ≤ n ∧ n < 9223372036854775808
theorem oJ.bd {n : Int} (h : oJ n) : Bd 64 n:=Bd.of_i64 h.1 (by have:=h.2;omega)
theorem Xg {n : Int} (h : oJ n) (h0 : 0 ≤ n) : IntKind.u64.wrap n = (n.natAbs : Int):=by
 rw [gU];have:=h.2;omega
theorem Qv {n : Int} (h : oJ n) (h0 : n < 0) : IntKind.u64.wrap n = ((18446744073709551616 - n.natAbs : Nat) : Int):=by
 rw [gU];have:=h.1;omega
theorem Gp {m : Nat} (h : m ≤ 9223372036854775808) (h0 : 0 < m) : IntKind.u64.wrap (0 - ((18446744073709551616 - m : Nat) : Int)) = (m : Int):=by
 rw [gU];omega
theorem Gq {m : Nat} : val 4294967296 [m % 4294967296,m / 4294967296] = m:=by simp [val];omega
theorem Cz {m : Nat} (h : m < 18446744073709551616) : cZ 4294967296 [m % 4294967296,m / 4294967296]:=fun x hx=>by simp at hx;omega
theorem oJ.natAbs {n : Int} (h : oJ n) : n.natAbs ≤ 9223372036854775808:=by have:=h.1;have:=h.2;omega
theorem Td {X r : Nat} (h0 : 0 < r) : X < ((r + X / r) / 2 + 1) * ((r + X / r) / 2 + 1):=by
 generalize hq : X / r = q;have h1 : X < r * (q + 1):=by
  have:=Nat.lt_mul_div_succ X h0;rw [hq] at this;exact this
 generalize hs : (r + q) / 2 = s;have h2 : r + q + 1 ≤ 2 * (s + 1):=by omega
 have h3 : (r + (q + 1)) * (r + (q + 1)) ≤ (2 * (s + 1)) * (2 * (s + 1)):=Nat.mul_le_mul (by omega) (by omega);have h4 : 4 * (r * (q + 1)) ≤ (r + (q + 1)) * (r + (q + 1)):=by
  generalize q + 1 = p;rcases Nat.le_total r p with h | h
  · obtain ⟨d,rfl⟩:=Nat.exists_eq_add_of_le h
    have e : (r + (r + d)) * (r + (r + d)) = 4 * (r * (r + d)) + d * d:=by grind
    omega
  · obtain ⟨d,rfl⟩:=Nat.exists_eq_add_of_le h
    have e : (p + d + p) * (p + d + p) = 4 * ((p + d) * p) + d * d:=by grind
    omega
 have h5 : (2 * (s + 1)) * (2 * (s + 1)) = 4 * ((s + 1) * (s + 1)):=by grind
 omega
theorem Te {X r : Nat} (h0 : 0 < r) (hx : X < (r + 1) * (r + 1)) (h : r ≤ (r + X / r) / 2) : r = eE X:=by
 refine xB ?_ hx;have h1 : r ≤ X / r:=by omega
 exact (Nat.le_div_iff_mul_le h0).1 h1
theorem Gr {X r : Nat} (h : ¬ r ≤ (r + X / r) / 2) : (r + X / r) / 2 < r:=by omega
theorem Oj {X n : Nat} (h : X < 4294967296 ^ n) : X < (4294967296 ^ ((n + 1) / 2) + 1) * (4294967296 ^ ((n + 1) / 2) + 1):=by
 have h1 : 4294967296 ^ n ≤ 4294967296 ^ ((n + 1) / 2) * 4294967296 ^ ((n + 1) / 2):=by
  rw [← Nat.pow_add];exact Nat.pow_le_pow_right (by omega) (by omega)
 generalize 4294967296 ^ ((n + 1) / 2) = p at *
 generalize 4294967296 ^ n = m at *
 have : (p + 1) * (p + 1) = p * p + 2 * p + 1:=by grind
 omega
end Go.Lith
namespace Go.Lith
open Go.RowKit
theorem iR.full {w : World} {base g n : Nat} {E : TypeId} {cs : List Value} (hB : gD w g cs E) (hb : base ≤ g) (hn : cs.length = n) (hl : n ≤ 9223372036854775807) : iR w base E 1 (.slice (some ⟨g,0,none⟩) n n) n cs:=by
 refine ⟨by simpa using hn,.inr ⟨g,n,cs.toArray,rfl,hb,hB,Nat.le_refl _,hl,by simpa using hn,?_⟩⟩;simp [← hn]
theorem dK.refl_of {w : World} {g : Nat} {cs : List Value} {t : TypeId} (_ : gD w g cs t) : dK w w:=dK.refl w
theorem dK.ext {a b c : World} (h : dK a b) (k : dK b c) : dK a c:=h.trans k
theorem dM.grew {w0 w w' : World} {A : Option Addr} {n cap base : Nat} {xs : List Nat} (h : dM w0 A n cap xs) (hE : dK w0 w) (hG : Bg w w' base) (hb : w0.heap.size ≤ base) : dM w' A n cap xs :=
 ⟨h.eq,fun i x hi=>by
  obtain ⟨a,e,hc⟩:=h.row i x hi;have h1:=World.block_lt_of_cell? _ _ hc;have h2:=hE.cell hc;exact ⟨a,e,(World.cell?_of_block (hG.block _ (Nat.lt_of_lt_of_le h1 hb))).trans h2⟩,h.le,h.cap,h.len,h.digs⟩
theorem Gs (n : Nat) : List.replicate n 0 ++ [1] = digs 4294967296 (4294967296 ^ n):=by
 refine qK (B:=4294967296) (by omega) ?_ (jT _) (oC (by omega) _) (fZ _) ?_
 · intro x hx
   simp at hx;omega
 · rw [eI,eT,cT,List.length_replicate]
   simp [val]
theorem acw {a b i j : Nat} (ha : a < 4294967296 ^ i) (hb : b < 4294967296 ^ j) : a + b < 4294967296 ^ (i + j + 1):=by
 rw [Nat.pow_succ,Nat.pow_add];have h1 : 0 < 4294967296 ^ i:=Nat.pow_pos (by omega);have h2 : 0 < 4294967296 ^ j:=Nat.pow_pos (by omega);generalize 4294967296 ^ i = p at *
 generalize 4294967296 ^ j = q at *
 have h3 : p ≤ p * q:=Nat.le_mul_of_pos_right _ h2;have h4 : q ≤ p * q:=Nat.le_mul_of_pos_left _ h1;generalize p * q = m at *
 omega
theorem sQ {a b : Nat} : 0 ≤ Ij a b ↔ b ≤ a:=by
 unfold Ij;split
 · omega
 · split <;> omega
theorem Xh {X r : Nat} (h0 : 0 < r) (hx : X < (r + 1) * (r + 1)) (hX : 0 < X) : 0 < (r + X / r) / 2:=by
 rcases Nat.lt_or_ge r 2 with h | h
 · obtain rfl : r = 1:=by omega
   rw [Nat.div_one];omega
 · generalize X / r = q;omega
end Go.Lith
namespace Go.Lith
open Go.RowKit
structure P3 where
 x : Int
 y : Int
 z : Int
structure T3 where
 a : P3
 b : P3
 c : P3
namespace P3
def sub (p q : P3) : P3:=⟨p.x - q.x,p.y - q.y,p.z - q.z⟩
def dot (p q : P3) : Int:=p.x * q.x + p.y * q.y + p.z * q.z
end P3
def pt (p : P3) : Go.Value:=.agg #[.int .i64 p.x,.int .i64 p.y,.int .i64 p.z]
def tr (t : T3) : Go.Value:=.agg #[.int .i64 t.a.x,.int .i64 t.a.y,.int .i64 t.a.z,.int .i64 t.b.x,.int .i64 t.b.y,.int .i64 t.b.z,.int .i64 t.c.x,.int .i64 t.c.y,.int .i64 t.c.z]
def wv (v : P3) : Go.Value:=.agg #[.bool (iE v.x),.string (mX v.x),.bool (iE v.y),.string (mX v.y),.bool (iE v.z),.string (mX v.z)]
theorem Bw.up {k m : Nat} {n : Int} [x : Bw k n] (h : k ≤ m:=by decide) : Bd m n:=x.h.mono h
theorem Tf : mX 0 = ⟨#[]⟩:=by
 have : kS 0 = []:=by
  unfold kS;rw [(qL (B:=256) (by omega)).2 rfl];rfl
 simp only[mX,Int.natAbs_zero,this]
theorem acx : W 0 = .agg #[.bool false,.string ⟨#[]⟩]:=by simp only[W,Tf];rfl
class Iw (n : Int) : Prop where
 h : oJ n
class I3 (p : P3) : Prop where
 x : oJ p.x
 y : oJ p.y
 z : oJ p.z
class IT (t : T3) : Prop where
 a : I3 t.a
 b : I3 t.b
 c : I3 t.c
instance {p : P3} [h : I3 p] : Iw p.x:=⟨h.x⟩
instance {p : P3} [h : I3 p] : Iw p.y:=⟨h.y⟩
instance {p : P3} [h : I3 p] : Iw p.z:=⟨h.z⟩
instance {n : Int} [h : Iw n] : Bw 64 n:=⟨h.h.bd⟩
class Bv (k : outParam Nat) (v : P3) : Prop where
 x : Bd k v.x
 y : Bd k v.y
 z : Bd k v.z
instance {k : Nat} {v : P3} [h : Bv k v] : Bw k v.x:=⟨h.x⟩
instance {k : Nat} {v : P3} [h : Bv k v] : Bw k v.y:=⟨h.y⟩
instance {k : Nat} {v : P3} [h : Bv k v] : Bw k v.z:=⟨h.z⟩
theorem Bv.mono {k m : Nat} {v : P3} (h : Bv k v) (hk : k ≤ m) : Bv m v:=⟨h.x.mono hk,h.y.mono hk,h.z.mono hk⟩
theorem Bv.of {k m : Nat} {v : P3} [h : Bv k v] (hk : k ≤ m:=by decide) : Bv m v:=h.mono hk
instance {p q : P3} [a : I3 p] [b : I3 q] : Bv 65 (p.sub q):=⟨a.x.bd.sub b.x.bd,a.y.bd.sub b.y.bd,a.z.bd.sub b.z.bd⟩
theorem agc {k l : Nat} {a b c d : Int} (ha : Bd k a) (hb : Bd l b) (hc : Bd k c) (hd : Bd l d) : Bd (k + l + 1) (a * b - c * d):=by
 have:=(ha.mul hb).sub (hc.mul hd);exact this.mono (by omega)
theorem Xi {k l : Nat} {a b c d : Int} (ha : Bd k a) (hb : Bd l b) (hc : Bd k c) (hd : Bd l d) : Bd (k + l + 1) (a * b + c * d):=by
 have:=(ha.mul hb).add (hc.mul hd);exact this.mono (by omega)
instance {k l : Nat} {u v : P3} [a : Bv k u] [b : Bv l v] : Bw (k + l + 2) (u.dot v):=⟨((Xi a.x b.x a.y b.y).add (a.z.mul b.z)).mono (by omega)⟩
theorem P3.dot0 {u v : P3} : 0 + u.x * v.x + u.y * v.y + u.z * v.z = u.dot v:=by simp only[P3.dot,Int.zero_add]
section
variable {P : Program} {Q : Exit → Act → World → Prop} {a : Act} {w : World} {c : Code} {n : Nat}
theorem dP (h : c.wp P (Exit.then (Code.rounds P c Q n) Q) a w) : Code.rounds P c Q (n + 1) a w:=h
theorem aX (h : c.wp P (Exit.then (Code.rounds P c Q n) Q) a w) : Exit.then (Code.rounds P c Q (n + 1)) Q .normal a w:=h
end
end Go.Lith
namespace Go.Lith
open Go.RowKit
inductive pB where
 | nil : pB
 | take : Nat → pB → pB
 | one : Nat → pB → pB
 | two : Nat → pB → Nat → pB → pB
 | three : Nat → pB → Nat → pB → Nat → pB → pB
section
variable {P : Program} {ops : Array Oper} {md : Region.Mode} {S : World → Prop}
def pB.ok (md : Region.Mode) (ops : Array Oper) : pB → Nat → Array Bool → Bool
 | .nil,f,listed=>f == 0 && (Region.ready md ops listed).isEmpty
 | .take i t,f,listed=>decide (0 < f) && (ops[i]?).isSome && Region.free md ops listed i && (Region.ready md ops listed).contains i && t.ok md ops (f - 1) (listed.setIfInBounds i true)
 | .one i t,f,listed=>decide (0 < f) && (ops[i]?).isSome && decide (Region.ready md ops listed = [i]) && t.ok md ops (f - 1) (listed.setIfInBounds i true)
 | .two i t j u,f,listed=>decide (0 < f) && (ops[i]?).isSome && (ops[j]?).isSome && decide (Region.ready md ops listed = [i,j]) && t.ok md ops (f - 1) (listed.setIfInBounds i true) && u.ok md ops (f - 1) (listed.setIfInBounds j true)
 | .three i t j u k v,f,listed=>decide (0 < f) && (ops[i]?).isSome && (ops[j]?).isSome && (ops[k]?).isSome && decide (Region.ready md ops listed = [i,j,k]) && t.ok md ops (f - 1) (listed.setIfInBounds i true) && u.ok md ops (f - 1) (listed.setIfInBounds j true) && v.ok md ops (f - 1) (listed.setIfInBounds k true)
def dN (P : Program) (ops : Array Oper) (S : World → Prop) (Q : Exit → Act → World → Prop) : pB → Act → World → Prop
 | .nil,a,w=>Q .normal a w
 | .take i t,a,w=>dO P ops S (fun _ a w=>dN P ops S Q t a w) [((ops[i]?).getD default,true)] a w
 | .one i t,a,w=>wpList P ops (Exit.then (fun a w=>S w ∧ dN P ops S Q t a w) Q) [(ops[i]?).getD default] a w
 | .two i t j u,a,w=>wpList P ops (Exit.then (fun a w=>S w ∧ dN P ops S Q t a w) Q) [(ops[i]?).getD default] a w ∧ wpList P ops (Exit.then (fun a w=>S w ∧ dN P ops S Q u a w) Q) [(ops[j]?).getD default] a w
 | .three i t j u k v,a,w=>wpList P ops (Exit.then (fun a w=>S w ∧ dN P ops S Q t a w) Q) [(ops[i]?).getD default] a w ∧ wpList P ops (Exit.then (fun a w=>S w ∧ dN P ops S Q u a w) Q) [(ops[j]?).getD default] a w ∧ wpList P ops (Exit.then (fun a w=>S w ∧ dN P ops S Q v a w) Q) [(ops[k]?).getD default] a w
theorem lE {Q : Exit → Act → World → Prop} {K : Act → World → Prop} {i : Nat} {o : Oper} (ho : ops[i]? = some o) {a : Act} {w : World} (h : wpList P ops (Exit.then K Q) [o] a w) : wpOp P ops Q i K a w:=by
 unfold wpOp;simp only[ho];simp only[wpList] at h;split
 · rename_i hw
   rw [if_pos hw] at h;rcases h with h | ⟨ha,x,y,hl⟩
   · refine .inl ?_
     unfold Oper.wp at h ⊢;generalize (execOp a.eval o).run P w = res at *
     cases res with
     | ok n w' =>
      cases n <;> simp only[Oper.upon] at h ⊢ <;>
       first
        | exact h
        | exact Calls.mono h (fun e w'' he=>by cases e <;> exact he)
        | exact Rows.mono h (fun _ _ he=>he)
     | halt x w'=>cases x <;> simp only[Oper.upon] at h ⊢ <;> exact h
   · exact .inr ⟨ha,x,y,hl⟩
 · rename_i hw
   rw [if_neg hw] at h;exact h
theorem iA {Q : Exit → Act → World → Prop} (hs : Region.noSelect ops = true) (hQ : ∀ c d v a w,Q (.panic c) (Act.put a d v) w → Q (.panic c) a w) : ∀ (t : pB) (f : Nat) (listed : Array Bool) (a : Act) (w : World),
 t.ok md ops f listed = true → S w → dN P ops S Q t a w → wpAnyH P md ops Q S f listed a w
 | .nil,f,listed,a,w,hB,_,h=>by
  simp only[pB.ok,Bool.and_eq_true,beq_iff_eq] at hB;obtain ⟨rfl,h2⟩:=hB;exact ⟨by simpa using h2,h⟩
 | .take i t,f,listed,a,w,hB,hS,h=>by
  simp only[pB.ok,Bool.and_eq_true,decide_eq_true_eq] at hB;obtain ⟨⟨⟨⟨h0,h1⟩,h2⟩,h3⟩,h4⟩:=hB;obtain ⟨o,ho⟩:=Option.isSome_iff_exists.1 h1;simp only[dN,dO,ho,Option.getD_some] at h;obtain ⟨v,hy,hr⟩:=h;obtain ⟨f,rfl⟩ : ∃ g,f = g + 1:=⟨f - 1,by omega⟩
  exact wpAnyH_take ho hs h2 h3 (fun c a w=>hQ c _ v a w) hy hS (iA hs hQ t f _ _ _ h4 hS hr)
 | .one i t,f,listed,a,w,hB,hS,h=>by
  simp only[pB.ok,Bool.and_eq_true,decide_eq_true_eq] at hB;obtain ⟨⟨⟨h0,h1⟩,h2⟩,h4⟩:=hB;obtain ⟨o,ho⟩:=Option.isSome_iff_exists.1 h1;obtain ⟨f,rfl⟩ : ∃ g,f = g + 1:=⟨f - 1,by omega⟩
  refine wpAnyH_all h2 (by simp) fun j hj=>?_;obtain rfl : j = i:=by simpa using hj
  simp only[dN,ho,Option.getD_some] at h;exact wpOp_mono (fun a' w' hh=>⟨hh.1,iA hs hQ t f _ a' w' h4 hh.1 hh.2⟩) (lE ho h)
 | .two i t j u,f,listed,a,w,hB,hS,h=>by
  simp only[pB.ok,Bool.and_eq_true,decide_eq_true_eq] at hB;obtain ⟨⟨⟨⟨⟨h0,h1⟩,h1'⟩,h2⟩,h4⟩,h5⟩:=hB;obtain ⟨o,ho⟩:=Option.isSome_iff_exists.1 h1;obtain ⟨o',ho'⟩:=Option.isSome_iff_exists.1 h1';obtain ⟨f,rfl⟩ : ∃ g,f = g + 1:=⟨f - 1,by omega⟩
  simp only[dN,ho,ho',Option.getD_some] at h;refine wpAnyH_all h2 (by simp) fun k hk=>?_;have hk' : k = i ∨ k = j:=by simpa using hk
  rcases hk' with rfl | rfl
  · exact wpOp_mono (fun a' w' hh=>⟨hh.1,iA hs hQ t f _ a' w' h4 hh.1 hh.2⟩) (lE ho h.1)
  · exact wpOp_mono (fun a' w' hh=>⟨hh.1,iA hs hQ u f _ a' w' h5 hh.1 hh.2⟩) (lE ho' h.2)
 | .three i t j u k v,f,listed,a,w,hB,hS,h=>by
  simp only[pB.ok,Bool.and_eq_true,decide_eq_true_eq] at hB;obtain ⟨⟨⟨⟨⟨⟨⟨h0,h1⟩,h1'⟩,h1''⟩,h2⟩,h4⟩,h5⟩,h6⟩:=hB;obtain ⟨o,ho⟩:=Option.isSome_iff_exists.1 h1;obtain ⟨o',ho'⟩:=Option.isSome_iff_exists.1 h1';obtain ⟨o'',ho''⟩:=Option.isSome_iff_exists.1 h1'';obtain ⟨f,rfl⟩ : ∃ g,f = g + 1:=⟨f - 1,by omega⟩
  simp only[dN,ho,ho',ho'',Option.getD_some] at h;refine wpAnyH_all h2 (by simp) fun m hm=>?_;have hm' : m = i ∨ m = j ∨ m = k:=by simpa using hm
  rcases hm' with rfl | rfl | rfl
  · exact wpOp_mono (fun a' w' hh=>⟨hh.1,iA hs hQ t f _ a' w' h4 hh.1 hh.2⟩) (lE ho h.1)
  · exact wpOp_mono (fun a' w' hh=>⟨hh.1,iA hs hQ u f _ a' w' h5 hh.1 hh.2⟩) (lE ho' h.2.1)
  · exact wpOp_mono (fun a' w' hh=>⟨hh.1,iA hs hQ v f _ a' w' h6 hh.1 hh.2⟩) (lE ho'' h.2.2)
theorem tW {id : Nat} {Q : Exit → Act → World → Prop} {a : Act} {w : World} {l : List Oper} (t : pB) (hm : P.follows .mixedOrders = true) (hB : (Region.noSelect l.toArray && t.ok .any l.toArray l.toArray.size (Array.replicate l.toArray.size false)) = true)
 (hQ : ∀ c d v a w,Q (.panic c) (Act.put a d v) w → Q (.panic c) a w)
 (h : ∀ w',dK w w' → ∃ S,lJ w' S ∧ dN P l.toArray S Q t a w') : (Code.region id l.toArray true).wp P Q a w:=by
 simp only[Bool.and_eq_true] at hB;obtain ⟨S,hS,h⟩:=h _ (dK.refl w).drawn;exact wp_region_held (S:=S) hm (iA (md:=.any) hB.1 hQ t _ _ a _ hB.2 hS h)
variable {Q : Exit → Act → World → Prop} {a : Act} {w : World} {o o' : Oper} {i j : Nat} {t u : pB}
theorem tK (h : Q .normal a w) : dN P ops S Q .nil a w:=h
theorem eN (ho : (ops[i]?).getD default = o) (h : dO P ops S (fun _ a w=>dN P ops S Q t a w) [(o,true)] a w) : dN P ops S Q (.take i t) a w:=by subst ho;exact h
theorem jO (ho : (ops[i]?).getD default = o) (h : wpList P ops (Exit.then (fun a w=>S w ∧ dN P ops S Q t a w) Q) [o] a w) : dN P ops S Q (.one i t) a w:=by subst ho;exact h
theorem Da (ho : (ops[i]?).getD default = o) (ho' : (ops[j]?).getD default = o') (h : wpList P ops (Exit.then (fun a w=>S w ∧ dN P ops S Q t a w) Q) [o] a w) (h' : wpList P ops (Exit.then (fun a w=>S w ∧ dN P ops S Q u a w) Q) [o'] a w) : dN P ops S Q (.two i t j u) a w:=by
 subst ho;subst ho';exact ⟨h,h'⟩
end
end Go.Lith
namespace Go.Lith
open Go.RowKit
section
variable {P : Program} {ops : Array Oper} {md : Region.Mode} {w0 : World}
def YE (P : Program) (ops : Array Oper) (w0 : World) (o : Oper) (v : Value) (a : Act) : Prop :=
 (Region.wanted o (yielded ops a.tmps) = true ∧ ∀ w,dK w0 w → o.quietAt P a (dK w) w v) ∨ (Region.wanted o (yielded ops a.tmps) = false ∧ v = undef)
theorem YE.of_same {o : Oper} {v : Value} {a a' : Act} (hy : YE P ops w0 o v a) (he : execOp a'.eval o = execOp a.eval o)
 (hw : Region.wanted o (yielded ops a'.tmps) = Region.wanted o (yielded ops a.tmps)) : YE P ops w0 o v a':=by
 unfold YE Oper.quietAt at *
 rw [he,hw];exact hy
def qE (P : Program) (ops : Array Oper) (w0 : World) (i : Nat) (K : Act → Prop) (a : Act) : Prop:=∃ o v,ops[i]? = some o ∧ YE P ops w0 o v a ∧ K (a.put o.dst v)
theorem aaX {i : Nat} {a : Act} {K K' : Act → Prop} (h : ∀ a,K a → K' a) (hh : qE P ops w0 i K a) : qE P ops w0 i K' a :=
 let ⟨o,v,h1,h2,h3⟩:=hh;⟨o,v,h1,h2,h _ h3⟩
theorem acy {j : Nat} {oi oj : Oper} {v : Value} (hj : ops[j]? = some oj) (hap : oi.apart ops oj = true) (hsi : ∀ cs b,oi.op ≠ .select cs b) (hsj : ∀ cs b,oj.op ≠ .select cs b) {K : Act → Prop} {a : Act}
 (hy : YE P ops w0 oi v a) (h : qE P ops w0 j K (a.put oi.dst v)) : qE P ops w0 j (fun a'=>YE P ops w0 oi v a' ∧ K (a'.put oi.dst v)) a:=by
 obtain ⟨h1,h2,h3⟩:=Oper.apart_spec hap;obtain ⟨o,u,ho,hu,hk⟩:=h;rw [hj] at ho;cases ho;refine ⟨oj,u,hj,hu.of_same (execOp_put oj hsj a oi.dst v h1).symm (wanted_put oj a oi.dst v h1).symm,hy.of_same (execOp_put oi hsi a oj.dst u h3) (wanted_put oi a oj.dst u h3),?_⟩;rw [← Act.put_comm a v u h2];exact hk
def Db (P : Program) (md : Region.Mode) (ops : Array Oper) (w0 : World) (n : Nat) (L : Array Bool → Act → Prop) : Nat → Array Bool → Act → Prop
 | 0,listed,a=>L listed a
 | f + 1,listed,a=>Region.ready md ops listed ≠ [] ∧ ∀ i ∈ Region.ready md ops listed,i < n ∧ qE P ops w0 i (Db P md ops w0 n L f (listed.setIfInBounds i true)) a
theorem Is {n i : Nat} {oi : Oper} {v : Value} {L : Array Bool → Act → Prop} (hi : ops[i]? = some oi) (hsel : ∀ (j : Nat) (o : Oper) cs b,ops[j]? = some o → o.op ≠ .select cs b)
 (hs : Region.sinkB md ops n = true) (hc : Region.chainB md ops n = true) (hn : n < ops.size) (hin : i < n)
 (hdone : ∀ listed a,L listed a → ∀ j ∈ Region.ready md ops listed,n ≤ j) :
 ∀ (f : Nat) (listed : Array Bool) (a : Act),HeadInv md ops n listed →
  (∀ j oj,ops[j]? = some oj → j ≠ i → listed.getD j true = false → (∀ e ∈ oj.after,Region.binds md e = true → e.on ≠ i) → oi.apart ops oj = true) →
  i ∈ Region.ready md ops listed → YE P ops w0 oi v a →
  Db P md ops w0 n L f (listed.setIfInBounds i true) (a.put oi.dst v) → Db P md ops w0 n L (f + 1) listed a:=by
 intro f
 induction f with
 | zero =>
  intro listed a inv _ hr hy H;have hun:=(mem_ready.1 hr).1;refine ⟨fun h=>(by rw [h] at hr;cases hr),fun j hj=>?_⟩;have hjn : j < n:=by
   rcases Nat.lt_or_ge j n with h | h
   · exact h
   · exact absurd hj (tail_waits hs hc hn inv _ i rfl hin hun j h)
  refine ⟨hjn,?_⟩;by_cases hji : j = i
  · subst hji;exact ⟨oi,v,hi,hy,H⟩
  · have:=hdone _ _ H j (ready_mono hj hji)
    omega
 | succ f ih =>
  intro listed a inv hfree hr hy H;have hun:=(mem_ready.1 hr).1;refine ⟨fun h=>(by rw [h] at hr;cases hr),fun j hj=>?_⟩;have hjn : j < n:=by
   rcases Nat.lt_or_ge j n with h | h
   · exact h
   · exact absurd hj (tail_waits hs hc hn inv _ i rfl hin hun j h)
  refine ⟨hjn,?_⟩;by_cases hji : j = i
  · subst hji;exact ⟨oi,v,hi,hy,H⟩
  · have h1:=(H.2 j (ready_mono hj hji)).2
    obtain ⟨hjun,oj,hoj,hall⟩:=mem_ready.1 hj;have hnot : ∀ e ∈ oj.after,Region.binds md e = true → e.on ≠ i:=fun e he hb heq=>by
     have h1:=hall e he hb;rw [heq,getD_both hun] at h1;cases h1
    have h2:=acy hoj (hfree j oj hoj hji hjun hnot) (fun cs b=>hsel i oi cs b hi) (fun cs b=>hsel j oj cs b hoj) hy h1;have hfree' : ∀ k ok,ops[k]? = some ok → k ≠ i → (listed.setIfInBounds j true).getD k true = false →
     (∀ e ∈ ok.after,Region.binds md e = true → e.on ≠ i) → oi.apart ops ok = true:=fun k ok hk hki hun hno=>by
     refine hfree k ok hk hki ?_ hno;by_cases hjk : j = k
     · subst hjk;exact hjun
     · rw [getD_set_ne true hjk] at hun;exact hun
    refine aaX (fun a' h3=>ih (listed.setIfInBounds j true) a' (inv.set hj hjn) hfree' (ready_mono hr (Ne.symm hji)) h3.1 ?_) h2;rw [Array.setIfInBounds_comm _ _ hji];exact h3.2
def tX (P : Program) (ops : Array Oper) (w0 : World) (L : Act → Prop) : List Oper → Act → Prop
 | [],a=>L a
 | o :: r,a=>∃ v,YE P ops w0 o v a ∧ tX P ops w0 L r (a.put o.dst v)
def Xj (md : Region.Mode) (ops : Array Oper) (g n : Nat) : List Nat → Array Bool → Bool
 | [],listed=>Region.seqB md ops g n listed
 | i :: r,listed=>(ops[i]?).isSome && decide (i < n) && (Region.ready md ops listed).contains i && Region.free md ops listed i && Xj md ops g n r (listed.setIfInBounds i true)
theorem Dc {n g : Nat} {L : Act → Prop} (hsel : Region.noSelect ops = true) (hs : Region.sinkB md ops n = true) (hc : Region.chainB md ops n = true) (hn : n < ops.size) :
 ∀ (l : List Nat) (listed : Array Bool) (a : Act),HeadInv md ops n listed → Xj md ops g n l listed = true → tX P ops w0 L (l.map fun i=>(ops[i]?).getD default) a →
 Db P md ops w0 n (fun listed' a'=>Region.seqB md ops g n listed' = true ∧ L a') l.length listed a
 | [],listed,a,_,hB,h=>⟨by simpa [Xj] using hB,h⟩
 | i :: l,listed,a,inv,hB,h=>by
  simp only[Xj,Bool.and_eq_true,decide_eq_true_eq] at hB;obtain ⟨⟨⟨⟨h1,h2⟩,h3⟩,h4⟩,h5⟩:=hB;obtain ⟨o,ho⟩:=Option.isSome_iff_exists.1 h1;simp only[List.map_cons,tX,ho,Option.getD_some] at h;obtain ⟨v,hy,hr⟩:=h;have hi' : i ∈ Region.ready md ops listed:=by simpa using h3
  exact Is ho (Region.noSelect_spec hsel) hs hc hn h2 (fun listed' a' hL=>seqB_ready hL.1) l.length listed a inv (Region.free_spec ho h4) hi' hy (Dc hsel hs hc hn l _ _ (inv.set hi' h2) h5 hr)
structure Al where
 i : Nat
 d : Nat
 T : TypeId
 cs : List Value
def Bx (P : Program) (md : Region.Mode) (ops : Array Oper) (x : Al) : Prop :=
 ∃ ty pos after,ops[x.i]? = some (Oper.mk (some x.d) (.alloc x.T) ty pos after none) ∧ (after.all fun e=>!Region.binds md e) = true ∧ ∃ z,mT P x.T z ∧ z.cells = x.cs.toArray
def gA (E : Nat → Option Value) : List Al → Act → Act
 | [],a=>a
 | x :: r,a=>match E x.i with
  | some v=>gA E r (a.put (some x.d) v)
  | none=>gA E r a
def sR (ops : Array Oper) (o : Oper) (al : List Al) : Bool:=al.all fun x=>!(o.looksAt ops).contains x.d && o.dst != some x.d
theorem tY {E : Nat → Option Value} {o : Oper} (hs : ∀ cs b,o.op ≠ .select cs b) : ∀ {al : List Al},sR ops o al = true → ∀ a,execOp (gA E al a).eval o = execOp a.eval o ∧ Region.wanted o (yielded ops (gA E al a).tmps) = Region.wanted o (yielded ops a.tmps)
 | [],_,a=>⟨rfl,rfl⟩
 | x :: r,hc,a=>by
  simp only[sR,List.all_cons,Bool.and_eq_true,Bool.not_eq_true'] at hc;have hr : sR ops o r = true:=by simp only[sR,Bool.and_eq_true,Bool.not_eq_true'] ;simpa using hc.2
  have hd : x.d ∉ o.looksAt ops:=by simpa using hc.1.1
  unfold gA;split
  · obtain ⟨h1,h2⟩:=tY (E:=E) hs hr (a.put (some x.d) _)
    rename_i v _;exact ⟨h1.trans (execOp_put o hs a (some x.d) v (fun d e=>by cases e;exact hd)),h2.trans (wanted_put o a (some x.d) v (fun d e=>by cases e;exact hd))⟩
  · exact tY hs hr a
theorem wF {E : Nat → Option Value} {o : Oper} {v : Value} : ∀ {al : List Al},sR ops o al = true → ∀ a,(gA E al a).put o.dst v = gA E al (a.put o.dst v)
 | [],_,a=>rfl
 | x :: r,hc,a=>by
  simp only[sR,List.all_cons,Bool.and_eq_true,Bool.not_eq_true',bne_iff_ne,ne_eq] at hc;have hr : sR ops o r = true:=by simp only[sR,Bool.and_eq_true,Bool.not_eq_true'] ;simpa using hc.2
  unfold gA;split
  · rename_i u _
    rw [wF hr,Act.put_comm a u v (fun d e=>by cases e;exact hc.1.2)]
  · exact wF hr a
theorem Dd {E : Nat → Option Value} {x : Al} {v : Value} : ∀ {al : List Al},(al.map (·.i)).Nodup → (al.map (·.d)).Nodup → x ∈ al → E x.i = none → ∀ a,(gA E al a).put (some x.d) v = gA (fun j=>if j = x.i then some v else E j) al a
 | [],_,_,hx,_,_=>by cases hx
 | y :: r,hi,hd,hx,he,a=>by
  simp only[List.map_cons,List.nodup_cons] at hi hd;have same : ∀ (l : List Al),x.i ∉ l.map (·.i) → ∀ a,gA (fun j=>if j = x.i then some v else E j) l a = gA E l a:=by
   intro l
   induction l with
   | nil=>intro _ a;rfl
   | cons z l ih =>
    intro hn a;simp only[List.map_cons,List.mem_cons,not_or] at hn;unfold gA;simp only[Ne.symm hn.1,if_false];split <;> exact ih hn.2 _
  have push : ∀ (l : List Al),x.d ∉ l.map (·.d) → ∀ a,(gA E l a).put (some x.d) v = gA E l (a.put (some x.d) v):=by
   intro l
   induction l with
   | nil=>intro _ a;rfl
   | cons z l ih =>
    intro hn a;simp only[List.map_cons,List.mem_cons,not_or] at hn;unfold gA;split
    · rename_i u _
      rw [ih hn.2,Act.put_comm a u v (fun d e=>by cases e;simp;exact hn.1)]
    · exact ih hn.2 _
  rcases List.mem_cons.1 hx with rfl | hx
  · unfold gA
    simp only[he,if_true];rw [push r hd.1,same r hi.1]
  · have hne : y.i ≠ x.i:=fun e=>hi.1 (by rw [e];exact List.mem_map_of_mem hx)
    unfold gA;simp only[hne,if_false];split <;> exact Dd hi.2 hd.2 hx he _
def Nt (E : Nat → Option Value) (al : List Al) : Nat:=(al.filter fun x=>(E x.i).isNone).length
theorem Qw {E : Nat → Option Value} {x : Al} {v : Value} : ∀ {al : List Al},(al.map (·.i)).Nodup → x ∈ al → E x.i = none → Nt E al = Nt (fun j=>if j = x.i then some v else E j) al + 1
 | [],_,hx,_=>by cases hx
 | y :: r,hi,hx,he=>by
  simp only[List.map_cons,List.nodup_cons] at hi;have same : ∀ (l : List Al),x.i ∉ l.map (·.i) → Nt (fun j=>if j = x.i then some v else E j) l = Nt E l:=by
   intro l
   induction l with
   | nil=>intro _;rfl
   | cons z l ih =>
    intro hn;simp only[List.map_cons,List.mem_cons,not_or] at hn;have:=ih hn.2;unfold Nt at *
    rw [List.filter_cons,List.filter_cons];simp only[Ne.symm hn.1,if_false];split <;> simp [this]
  rcases List.mem_cons.1 hx with rfl | hx
  · have:=same r hi.1
    unfold Nt at *
    rw [List.filter_cons,List.filter_cons];simp [he,this]
  · have hne : y.i ≠ x.i:=fun e=>hi.1 (by rw [e];exact List.mem_map_of_mem hx)
    have:=Qw (v:=v) hi.2 hx he;unfold Nt at *
    rw [List.filter_cons,List.filter_cons];simp only[hne,if_false];split <;> simp [this]
theorem Ku {E : Nat → Option Value} {al : List Al} (h : Nt E al = 0) : ∀ x ∈ al,∃ v,E x.i = some v:=fun x hx=>by
 unfold Nt at h;have:=List.filter_eq_nil_iff.1 (List.eq_nil_of_length_eq_zero h) x hx;cases he : E x.i with
 | none=>simp [he] at this
 | some v=>exact ⟨v,rfl⟩
theorem aaY {E : Nat → Option Value} {al : List Al} (h : 0 < Nt E al) : ∃ x ∈ al,E x.i = none:=by
 unfold Nt at h;obtain ⟨x,hx⟩:=List.length_pos_iff_exists_mem.1 h;obtain ⟨h1,h2⟩:=List.mem_filter.1 hx;exact ⟨x,h1,by simpa using h2⟩
def De (base : Nat) (E : Nat → Option Value) (al : List Al) (w : World) : Prop :=
 (∀ x ∈ al,∀ v,E x.i = some v → ∃ g,v = .pointer (some ⟨g,0,none⟩) ∧ base ≤ g ∧ gD w g x.cs x.T) ∧
 (∀ x ∈ al,∀ y ∈ al,x.i ≠ y.i → ∀ g g',E x.i = some (.pointer (some ⟨g,0,none⟩)) → E y.i = some (.pointer (some ⟨g',0,none⟩)) → g ≠ g')
theorem De.ext {base : Nat} {E : Nat → Option Value} {al : List Al} {w w' : World} (h : De base E al w) (hE : dK w w') : De base E al w' :=
 ⟨fun x hx v hv=>let ⟨g,e,hb,hB⟩:=h.1 x hx v hv;⟨g,e,hb,hB.ext hE⟩,h.2⟩
theorem De.new {base : Nat} {E : Nat → Option Value} {al : List Al} {w : World} (h : De base E al w) {x : Al} (hx : x ∈ al) (hi : (al.map (·.i)).Nodup) (he : E x.i = none) (hb : base ≤ w.heap.size) :
 De base (fun j=>if j = x.i then some (.pointer (some ⟨w.heap.size,0,none⟩)) else E j) al (w.alloc (.cells x.cs.toArray x.T)):=by
 have huniq : ∀ y ∈ al,y.i = x.i → y = x:=by
  intro y hy e;clear h
  induction al with
  | nil=>cases hx
  | cons z r ih =>
   simp only[List.map_cons,List.nodup_cons] at hi;rcases List.mem_cons.1 hx with rfl | hx'
   · rcases List.mem_cons.1 hy with rfl | hy'
     · rfl
     · exact absurd (by rw [← e];exact List.mem_map_of_mem hy') hi.1
   · rcases List.mem_cons.1 hy with rfl | hy'
     · exact absurd (by rw [e];exact List.mem_map_of_mem hx') hi.1
     · exact ih hx' hi.2 hy'
 refine ⟨fun y hy v hv=>?_,fun y hy z hz hne g g' h1 h2=>?_⟩
 · by_cases e : y.i = x.i
   · obtain rfl:=huniq y hy e
     simp only[if_true] at hv;cases hv;exact ⟨_,rfl,hb,iN w _ _⟩
   · simp only[e,if_false] at hv
     obtain ⟨g,e1,e2,e3⟩:=h.1 y hy v hv;exact ⟨g,e1,e2,e3.ext ((dK.refl w).alloc _)⟩
 · by_cases e : y.i = x.i
   · have e' : z.i ≠ x.i:=fun e2=>hne (e.trans e2.symm)
     simp only[e,if_true] at h1;simp only[e',if_false] at h2;cases h1;obtain ⟨g2,e1,_,e3⟩:=h.1 z hz _ h2;cases e1;exact Nat.ne_of_gt e3.lt
   · by_cases e' : z.i = x.i
     · simp only[e,if_false] at h1
       simp only[e',if_true] at h2;cases h2;obtain ⟨g2,e1,_,e3⟩:=h.1 y hy _ h1;cases e1;exact Nat.ne_of_lt e3.lt
     · simp only[e,if_false] at h1
       simp only[e',if_false] at h2;exact h.2 y hy z hz hne g g' h1 h2
def Iu (md : Region.Mode) (ops : Array Oper) (n : Nat) (al : List Al) : Bool :=
 decide ((al.map (·.i)).Nodup) && decide ((al.map (·.d)).Nodup) && (al.all fun x=>decide (x.i < n)) &&
 ((List.range n).all fun j=>(al.any fun x=>x.i == j) || match ops[j]? with
  | some o=>sR ops o al && o.after.all fun e=>!Region.binds md e || !(al.any fun x=>x.i == e.on)
  | none=>true)
theorem sim {n g : Nat} {al : List Al} {L : Act → Prop} {Q' : Exit → Act → World → Prop} {tl : List Oper} (hsel : Region.noSelect ops = true) (hs : Region.sinkB md ops n = true) (hc : Region.chainB md ops n = true) (hn : n < ops.size)
 (hal : ∀ x ∈ al,Bx P md ops x) (hB : Iu md ops n al = true) (htl : ∀ j,tl[j]? = ops[n + j]?) (hgl : tl.length = g)
 (hL : ∀ a E w,dK w0 w → De w0.heap.size E al w → (∀ x ∈ al,∃ v,E x.i = some v) → L a → wpList P ops Q' tl (gA E al a) w) :
 ∀ (k f : Nat) (E : Nat → Option Value) (lr lm : Array Bool) (a : Act) (w : World),k = f + Nt E al → HeadInv md ops n lr → lm.size = lr.size → (∀ j,lm.getD j false = (lr.getD j false || al.any fun x=>x.i == j)) →
  (∀ x ∈ al,(E x.i = none ↔ lr.getD x.i false = false)) → dK w0 w → De w0.heap.size E al w →
  Db P md ops w0 n (fun listed' a'=>Region.seqB md ops g n listed' = true ∧ L a') f lm a → wpAny P md ops Q' (k + g) lr (gA E al a) w:=by
 simp only[Iu,Bool.and_eq_true,decide_eq_true_eq,List.all_eq_true,List.mem_range] at hB;obtain ⟨⟨⟨hni,hnd⟩,hlt⟩,hcl⟩:=hB;intro k
 induction k with
 | zero =>
  intro f E lr lm a w hk inv hsz hlm hE hx hla H;obtain rfl : f = 0:=by omega
  have h0 : Nt E al = 0:=by omega
  have hall:=Ku h0;have heq : lm = lr:=by
   apply Array.ext hsz;intro j h1 h2;have h3:=hlm j;simp only[Array.getD_eq_getD_getElem?,Array.getElem?_eq_getElem h1,Array.getElem?_eq_getElem h2,Option.getD_some] at h3;rw [h3];cases hlr : lr[j] with
   | true=>rfl
   | false =>
    rw [Bool.false_or];cases hany : al.any fun x=>x.i == j with
    | false=>rfl
    | true =>
     obtain ⟨x,hx1,hx2⟩:=List.any_eq_true.1 hany;have hx3 : x.i = j:=by simpa using hx2
     obtain ⟨v,hv⟩:=hall x hx1;have : lr.getD x.i false = false:=by
      rw [hx3,Array.getD_eq_getD_getElem?,Array.getElem?_eq_getElem h2];simpa using hlr
     rw [(hE x hx1).2 this] at hv;cases hv
  subst heq;obtain ⟨H1,H2⟩:=H;rw [Nat.zero_add,← hgl];exact wpAny_of_seq (md:=md) tl n lm _ w htl (by rw [hgl];exact H1) (hL a E w hx hla hall H2)
 | succ k ih =>
  intro f E lr lm a w hk inv hsz hlm hE hx hla H;have getT : ∀ j,j < ops.size → lr.getD j false = false → lr.getD j true = false:=fun j hj h=>getD_in (by rw [inv.size];exact hj) h
  -- some head operation is not listed
  have hsome : ∃ j,j ∈ Region.ready md ops lr ∧ j < n:=by
   rcases Nat.eq_zero_or_pos (Nt E al) with h0 | h0
   · obtain ⟨f,rfl⟩ : ∃ q,f = q + 1:=⟨f - 1,by omega⟩
     obtain ⟨hne,hr⟩:=H;obtain ⟨j,hj⟩:=List.exists_mem_of_ne_nil _ hne;have hjn:=(hr j hj).1;refine ⟨j,?_,hjn⟩;have hall:=Ku h0;obtain ⟨hju,oj,hoj,hpre⟩:=mem_ready.1 hj;refine mem_ready.2 ⟨?_,oj,hoj,fun e he hb=>?_⟩
     · have h1:=hlm j
       rw [getD_both hju] at h1;have h2 : lr.getD j false = false:=by
        cases h : lr.getD j false with
        | false=>rfl
        | true=>rw [h] at h1;simp at h1
       exact getT j (by omega) h2
     · have h1:=hlm e.on
       rw [hpre e he hb] at h1;cases h : lr.getD e.on false with
       | true=>rfl
       | false =>
        rw [h,Bool.false_or] at h1;obtain ⟨x,hx1,hx2⟩:=List.any_eq_true.1 h1.symm;have hx3 : x.i = e.on:=by simpa using hx2
        obtain ⟨v,hv⟩:=hall x hx1;rw [(hE x hx1).2 (by rw [hx3];exact h)] at hv;cases hv
   · obtain ⟨x,hx1,hx2⟩:=aaY h0
     obtain ⟨ty,pos,after,hop,haf,_⟩:=hal x hx1;have hxn : x.i < n:=by simpa using hlt x hx1
     refine ⟨x.i,mem_ready.2 ⟨getT _ (by omega) ((hE x hx1).1 hx2),_,hop,fun e he hb=>?_⟩,hxn⟩;have:=Array.all_eq_true_iff_forall_mem.1 haf e he;simp [hb] at this
  obtain ⟨j0,hj0,hj0n⟩:=hsome;have hj0u:=(mem_ready.1 hj0).1;rw [show k + 1 + g = (k + g) + 1 by omega];refine ⟨fun h=>(by rw [h] at hj0;cases hj0),fun i hi=>?_⟩;have hin : i < n:=by
   rcases Nat.lt_or_ge i n with h | h
   · exact h
   · exact absurd hi (tail_waits hs hc hn inv _ j0 rfl hj0n hj0u i h)
  obtain ⟨hiu,oi,hoi,hpre⟩:=mem_ready.1 hi;by_cases hia : al.any (fun x=>x.i == i) = true
  · -- an allocation
    obtain ⟨x,hx1,hx2⟩:=List.any_eq_true.1 hia;obtain rfl : x.i = i:=by simpa using hx2
    obtain ⟨ty,pos,after,hop,haf,z,hz,hzc⟩:=hal x hx1;have hex : E x.i = none:=(hE x hx1).2 (getD_both hiu);obtain ⟨inf,hinf,hinz⟩:=hz;unfold wpOp;simp only[hop];rw [if_pos (by simp [Region.wanted])];refine .inl ?_;have hrun : ∀ ρ : Operand → Value,(execOp ρ (Oper.mk (some x.d) (.alloc x.T) ty pos after none)).run P w = .ok (.value (.pointer (some ⟨w.heap.size,0,none⟩))) (w.alloc (.cells x.cs.toArray x.T)):=fun ρ=>by
     simp [execOp,Instr.alloc,zeroValue,typeInfo,hinf,hinz,newVar,newRow,hzc,newObj,Sem.run]
    unfold Oper.wp;rw [hrun];show wpAny P md ops Q' (k + g) (lr.setIfInBounds x.i true) ((gA E al a).put (some x.d) (.pointer (some ⟨w.heap.size,0,none⟩))) _
    rw [Dd hni hnd hx1 hex];have hc1:=Qw (v:=.pointer (some ⟨w.heap.size,0,none⟩)) hni hx1 hex;have hxs : x.i < lr.size:=by rw [inv.size];omega
    refine ih f _ _ lm a _ (by omega) (inv.set hi hin) (by simp [hsz]) (fun j=>?_) (fun y hy=>?_) (hx.alloc _) (hla.new hx1 hni hex hx.size) H
    · rw [hlm j]
      by_cases e : x.i = j
      · subst e
        rw [hia];simp
      · rw [getD_set_ne false e]
    · by_cases e : x.i = y.i
      · rw [← e]
        simp [hxs]
      · rw [getD_set_ne false e]
        simp only[Ne.symm e,if_false];exact hE y hy
  · -- an operation that computes
    have hia' : al.any (fun x=>x.i == i) = false:=by simpa using hia
    have hci:=hcl i hin;rw [hia',Bool.false_or,hoi] at hci;simp only[Bool.and_eq_true] at hci;have hready : i ∈ Region.ready md ops lm:=by
     refine mem_ready.2 ⟨?_,oi,hoi,fun e he hb=>by rw [hlm,hpre e he hb];rfl⟩;have h1:=hlm i;rw [getD_both hiu,hia'] at h1;exact getD_in (by rw [hsz,inv.size];omega) (by simpa using h1)
    cases f with
    | zero =>
     obtain ⟨H1,H2⟩:=H;have:=seqB_ready H1 i hready;omega
    | succ f =>
     obtain ⟨_,o,v,ho,hy,hK⟩:=H.2 i hready;rw [hoi] at ho;cases ho;have hse : ∀ cs b,oi.op ≠ .select cs b:=fun cs b=>Region.noSelect_spec hsel i oi cs b hoi;obtain ⟨e1,e2⟩:=tY (E:=E) hse hci.1 a;have hy':=hy.of_same e1 e2;have key : ∀ w',dK w w' → wpAny P md ops Q' (k + g) (lr.setIfInBounds i true) ((gA E al a).put oi.dst v) w':=fun w' hw'=>by
      rw [wF hci.1];refine ih f E _ _ _ w' (by omega) (inv.set hi hin) (by simp [hsz]) (fun j=>?_) (fun y hy=>?_) (hx.trans hw') (hla.ext hw') hK
      · by_cases e : i = j
        · subst e
          have h1 : i < lr.size:=by rw [inv.size];omega
          simp [h1,hsz]
        · rw [getD_set_ne false e,getD_set_ne false e,hlm j]
      · have e : i ≠ y.i:=fun e=>by
         have : al.any (fun x=>x.i == i) = true:=List.any_eq_true.2 ⟨y,hy,by simp [e]⟩;rw [hia'] at this;cases this
        rw [getD_set_ne false e];exact hE y hy
     unfold wpOp;simp only[hoi];rcases hy' with ⟨hw,hv⟩ | ⟨hw,rfl⟩
     · rw [if_pos hw]
       refine .inl ?_;have h3:=hv w hx;unfold Oper.quietAt at h3;unfold Oper.wp;generalize (execOp (gA E al a).eval oi).run P w = r at *
       cases r with
       | ok nx w' =>
        cases nx <;> simp only[Oper.quietUpon] at h3 <;> simp only[Oper.upon]
        case value u =>
         obtain ⟨e1,e2⟩:=h3;rw [e1,e2];exact key w (dK.refl w)
        case skip =>
         obtain ⟨e1,e2⟩:=h3;rw [e1,← e2];exact key w (dK.refl w)
        case enter f' args =>
         obtain ⟨e1,hcl⟩:=h3;rw [e1];exact hcl.mono fun e w'' ⟨he,hw''⟩=>by subst he;exact key w'' hw''
       | halt x w'=>simp only[Oper.quietUpon] at h3
     · rw [if_neg (by rw [hw];simp)]
       exact key w (dK.refl w)
theorem kI {id : Nat} {Q : Exit → Act → World → Prop} {a : Act} {w : World} {l : List Oper} (n : Nat) (idx : List Nat) (al : List Al) (hm : P.follows .mixedOrders = true)
 (hB : (Region.noSelect l.toArray && decide (n < l.length) && Region.sinkB .any l.toArray n && Region.chainB .any l.toArray n && Iu .any l.toArray n al && decide (n = idx.length + al.length) &&
  Xj .any l.toArray (l.length - n) n idx (al.foldl (fun s x=>s.setIfInBounds x.i true) (Array.replicate l.toArray.size false))) = true)
 (hal : ∀ x ∈ al,Bx P .any l.toArray x) {ol : List Oper} (hol : (idx.map fun i=>(l.toArray[i]?).getD default) = ol)
 (h : ∀ w1,dK w w1 → tX P l.toArray w1 (fun a'=>∀ E w',dK w1 w' → De w1.heap.size E al w' → (∀ x ∈ al,∃ v,E x.i = some v) → wpList P l.toArray Q (l.drop n) (gA E al a') w') ol a) : (Code.region id l.toArray true).wp P Q a w:=by
 simp only[Bool.and_eq_true,decide_eq_true_eq] at hB;obtain ⟨⟨⟨⟨⟨⟨hsel,hn⟩,hs⟩,hc⟩,hf⟩,hlen⟩,hlex⟩:=hB;subst hol;have hn' : n < l.toArray.size:=by simpa using hn
 have hf':=hf;simp only[Iu,Bool.and_eq_true,decide_eq_true_eq,List.all_eq_true,List.mem_range] at hf';obtain ⟨⟨⟨hni,hnd⟩,hlt⟩,hcl⟩:=hf';generalize hlm : al.foldl (fun s x=>s.setIfInBounds x.i true) (Array.replicate l.toArray.size false) = lm at hlex;have hfold : ∀ (r : List Al) (s : Array Bool),(r.foldl (fun s x=>s.setIfInBounds x.i true) s).size = s.size ∧ ∀ j,j < s.size → (r.foldl (fun s x=>s.setIfInBounds x.i true) s).getD j false = (s.getD j false || r.any fun x=>x.i == j):=by
  intro r
  induction r with
  | nil=>intro s;exact ⟨rfl,fun j _=>by simp⟩
  | cons x r ih =>
   intro s;obtain ⟨h1,h2⟩:=ih (s.setIfInBounds x.i true);refine ⟨by rw [List.foldl_cons,h1];simp,fun j hj=>?_⟩;rw [List.foldl_cons,h2 j (by simpa using hj),List.any_cons];by_cases e : x.i = j
   · subst e
     simp [hj]
   · have e2 : (x.i == j) = false:=by simpa using e
     rw [getD_set_ne false e,e2,Bool.false_or]
 obtain ⟨hsz,hget⟩:=hfold al (Array.replicate l.toArray.size false);rw [hlm] at hsz hget;have hsz' : lm.size = l.toArray.size:=by rw [hsz];simp
 have hlmj : ∀ j,lm.getD j false = al.any fun x=>x.i == j:=fun j=>by
  rcases Nat.lt_or_ge j l.toArray.size with hj | hj
  · rw [hget j (by simpa using hj),getD_replicate_false,Bool.false_or]
  · have h1 : lm.getD j false = false:=by rw [Array.getD_eq_getD_getElem?,Array.getElem?_eq_none (by omega)];rfl
    rw [h1]
    symm
    rw [Bool.eq_false_iff];intro h2;obtain ⟨x,hx1,hx2⟩:=List.any_eq_true.1 h2;have hx3 : x.i = j:=by simpa using hx2
    have : x.i < n:=by simpa using hlt x hx1
    omega
 have inv0 : HeadInv .any l.toArray n (Array.replicate l.toArray.size false) :=
  ⟨by simp,fun j oj _ hl=>(by rw [getD_replicate_false] at hl;cases hl),fun t _ ht=>getD_in (by simpa using ht) (getD_replicate_false _ _)⟩
 have invm : HeadInv .any l.toArray n lm:=by
  refine ⟨hsz',fun j oj hoj hl e he hb=>?_,fun t ht ht'=>getD_in (by rw [hsz'];exact ht') ?_⟩
  · rw [hlmj] at hl
    obtain ⟨x,hx1,hx2⟩:=List.any_eq_true.1 hl;have hx3 : x.i = j:=by simpa using hx2
    obtain ⟨ty,pos,after,hop,haf,_⟩:=hal x hx1;rw [hx3,hoj] at hop;cases hop;have:=Array.all_eq_true_iff_forall_mem.1 haf e he;simp [hb] at this
  · rw [hlmj,Bool.eq_false_iff]
    intro h2;obtain ⟨x,hx1,hx2⟩:=List.any_eq_true.1 h2;have hx3 : x.i = t:=by simpa using hx2
    have : x.i < n:=by simpa using hlt x hx1
    omega
 refine wp_region_any hm ?_;obtain ⟨w1,hw1⟩ : ∃ w1,w1 = ({ w with drawn:=w.drawn + 1 } : World):=⟨_,rfl⟩
 rw [← hw1];have hx1 : dK w w1:=by rw [hw1];exact (dK.refl w).drawn
 have H:=Dc (md:=.any) (g:=l.length - n) hsel hs hc hn' idx lm a invm hlex (h w1 hx1);have hcnt : Nt (fun _=>none) al = al.length:=by
  unfold Nt;simp
 have key:=sim (md:=.any) (P:=P) (ops:=l.toArray) (w0:=w1) (Q':=Q) (tl:=l.drop n) (g:=l.length - n) (al:=al) hsel hs hc hn' hal hf (fun j=>by simp [List.getElem?_drop]) (by simp) (fun a E w' hw' hla hall hL=>hL E w' hw' hla hall)
  (idx.length + al.length) idx.length (fun _=>none) (Array.replicate l.toArray.size false) lm a w1 (by rw [hcnt]) inv0 (by rw [hsz'];simp) (fun j=>by rw [getD_replicate_false,Bool.false_or];exact hlmj j)
  (fun x _=>⟨fun _=>getD_replicate_false _ _,fun _=>rfl⟩) (dK.refl w1) ⟨fun x _ v hv=>(by cases hv),fun x _ y _ _ g g' h1 _=>(by cases h1)⟩ H
 have hap : ∀ r : List Al,gA (fun _=>none) r a = a:=by
  intro r
  induction r with
  | nil=>rfl
  | cons x r ih=>exact ih
 rw [hap,← hlen] at key;have e : n + (l.length - n) = l.toArray.size:=by rw [List.size_toArray];omega
 rwa [e] at key
end
section
variable {P : Program} {ops : Array Oper} {w0 : World} {L : Act → Prop} {ds : List Deferred} {l : List Value} {rest : List Oper} {d : Nat} {op : Op} {ty : TypeId} {pos : String} {after : Array Edge} {v : Value} {x y : Operand} {T : TypeId}
theorem Xk (hr : ∀ w,dK w0 w → vZ P l op ty v w) (h : tX P ops w0 L rest (Fr (l.set d v) ds)) : tX P ops w0 L (Oper.mk (some d) op ty pos after none :: rest) (Fr l ds):=by
 refine ⟨v,.inl ⟨by simp [Region.wanted],fun w hw=>?_⟩,?_⟩
 · unfold Oper.quietAt
   rw [iF,hr w hw _ rfl rfl];exact ⟨rfl,rfl⟩
 · show tX P ops w0 L rest ((Fr l ds).put (some d) v)
   rw [jA];exact h
theorem oK (hr : gX P l op ty v) (h : tX P ops w0 L rest (Fr (l.set d v) ds)) : tX P ops w0 L (Oper.mk (some d) op ty pos after none :: rest) (Fr l ds):=Xk (fun w _=>hr w) h
theorem nQ {a : Addr} (hx : ev l x = .pointer (some a)) (hv : ∀ w',dK w0 w' → vL P w' T a v) (h : tX P ops w0 L rest (Fr (l.set d v) ds)) : tX P ops w0 L (Oper.mk (some d) (.load T x) ty pos after none :: rest) (Fr l ds) :=
 Xk (fun _ hE=>cM hx (hv _ hE)) h
theorem By {f : FuncId} {fo : Operand} {xs : Array Operand} {args : List Value} {first cap : Array Value} {a0 : Array TypeId} (hf : ev l fo = .func (.func f) first cap) (hxs : first.toList ++ xs.toList.map (ev l) ++ cap.toList = args) (hc : ∀ w',dK w0 w' → eL P f args w' fun u _=>u = v)
 (h : tX P ops w0 L rest (Fr (l.set d v) ds)) : tX P ops w0 L (Oper.mk (some d) (.call { callee:=.value fo,args:=xs,argTypes:=a0 }) ty pos after none :: rest) (Fr l ds):=by
 refine ⟨v,.inl ⟨by simp [Region.wanted],fun w hw=>?_⟩,?_⟩
 · unfold Oper.quietAt
   rw [iF,lM (hc w hw).1 hf hxs _ rfl];refine ⟨rfl,(hc w hw).2.mono ?_⟩;rintro e w'' ⟨u,rfl,hE,rfl⟩;exact ⟨rfl,hE⟩
 · show tX P ops w0 L rest ((Fr l ds).put (some d) v)
   rw [jA];exact h
theorem lW {f : FuncId} {fo : Operand} {xs : Array Operand} {args : List Value} {first cap : Array Value} {a0 : Array TypeId} (hf : ev l fo = .func (.func f) first cap) (hxs : first.toList ++ xs.toList.map (ev l) ++ cap.toList = args) (hc : iX P f args v)
 (h : tX P ops w0 L rest (Fr (l.set d v) ds)) : tX P ops w0 L (Oper.mk (some d) (.call { callee:=.value fo,args:=xs,argTypes:=a0 }) ty pos after none :: rest) (Fr l ds) :=
 By hf hxs (fun w' _=>hc w') h
theorem Kv (h : L (Fr l ds)) : tX P ops w0 L [] (Fr l ds):=h
theorem al1 {md : Region.Mode} {x : Al} (h : Bx P md ops x) : ∀ y ∈ [x],Bx P md ops y:=fun y hy=>by
 rcases List.mem_cons.1 hy with rfl | hy
 · exact h
 · cases hy
variable {Q : Exit → Act → World → Prop} {tl : List Oper}
theorem acz {i d : Nat} {T : TypeId} {cs : List Value} (h : ∀ w' g,dK w0 w' → w0.heap.size ≤ g → gD w' g cs T → wpList P ops Q tl (Fr (l.set d (.pointer (some ⟨g,0,none⟩))) ds) w') :
 ∀ E w',dK w0 w' → De w0.heap.size E [⟨i,d,T,cs⟩] w' → (∀ x ∈ [(⟨i,d,T,cs⟩ : Al)],∃ v,E x.i = some v) → wpList P ops Q tl (gA E [⟨i,d,T,cs⟩] (Fr l ds)) w':=fun E w' hE hL hv=>by
 obtain ⟨v,hv⟩:=hv ⟨i,d,T,cs⟩ (by simp);obtain ⟨g,rfl,hg,hB⟩:=hL.1 ⟨i,d,T,cs⟩ (by simp) v hv;have e : gA E [⟨i,d,T,cs⟩] (Fr l ds) = Fr (l.set d (.pointer (some ⟨g,0,none⟩))) ds:=by
  simp only[gA,hv];exact jA _ _
 rw [e];exact h w' g hE hg hB
end
end Go.Lith
namespace Go.Lith
section
variable {P : Program} {ops : Array Oper} {w0 : World} {ds : List Deferred} {l : List Value} {Q : Exit → Act → World → Prop} {tl : List Oper}
end
end Go.Lith
namespace Go.Lith
open Go.RowKit
section
variable {P : Program} {ds : List Deferred} {l : List Value} {T ty : TypeId} {ops : Array Oper} {Q : Exit → Act → World → Prop} {rest : List Oper} {d : Nat} {pos : String} {after : Array Edge} {w : World}
theorem lO {E : TypeId} {c n : Nat} {z : Value} {parts : Array (Nat × Operand)} {vs : Array (Nat × Value)} {base : Array Value} {cs : List Value} (hu : P.underlying T = some (.slice E)) (hi : (P.info? E).map (fun i=>(i.size,i.zero)) = some (c,some z)) (h0 : n * c ≠ 0) (h24 : n * c ≤ 16777216)
 (hb : ((Array.range (n * c)).map fun i=>z.cells[i % z.cells.size]!) = base) (hp : (parts.map fun (i,x)=>(i,ev l x)) = vs) (hf : Instr.fill (fun i=>some (i * c,c)) base vs.toList = some cs.toArray)
 (h : ∀ w' g,dK w w' → w.heap.size ≤ g → gD w' g cs E → wpList P ops Q rest (Fr (l.set d (.slice (some ⟨g,0,none⟩) n n)) ds) w') :
 wpList P ops Q (Oper.mk (some d) (.buildSlice T n parts) ty pos after none :: rest) (Fr l ds) w:=by
 subst hb;subst hp;cases hq : P.info? E with
 | none=>rw [hq] at hi;cases hi
 | some i =>
  rw [hq] at hi;simp only[Option.map_some,Option.some.injEq,Prod.mk.injEq] at hi;obtain ⟨e1,e2⟩:=hi;have e : (Fr l).eval = ev l:=funext dD;have h24' : ¬ 16777216 < n * c:=by omega
  refine kN (w':=w.alloc (.cells cs.toArray E)) (v:=.slice (some ⟨w.heap.size,0,none⟩) n n) (fun o ho _=>?_) (h _ _ ((dK.refl w).alloc _) (Nat.le_refl _) (iN w cs E));simp only[execOp,ho,e];simp [Instr.buildSlice,run_underlying hu,sizeOf,typeInfo,zeroValue,hq,e1,e2,h24',newRow,newObj,Sem.run] at hf ⊢;rw [if_neg h0];simp [hf];rfl
end
end Go.Lith
namespace Go.Lith
open Go.RowKit
section
variable {P : Program} {ds : List Deferred} {l : List Value} {x y : Operand} {T ty : TypeId} {ops : Array Oper} {Q : Exit → Act → World → Prop} {rest : List Oper} {d : Nat} {pos : String} {after : Array Edge} {w : World} {k : IntKind}
end
end Go.Lith
namespace Go.Lith
open Go.RowKit
theorem Xl (a : Int) : 0 ≤ a * a:=by
 rcases Int.le_total 0 a with h | h
 · exact Int.mul_nonneg h h
 · exact Int.mul_nonneg_of_nonpos_of_nonpos h h
theorem acA (u : P3) : 0 ≤ u.dot u:=by
 have:=Xl u.x;have:=Xl u.y;have:=Xl u.z;simp only[P3.dot];omega
theorem ad5 : Bd 1 1:=by
 show Int.natAbs 1 < 2 ^ 1
 decide
instance : Bw 1 1:=⟨ad5⟩
structure fA (w : World) (A : Option Addr) (n : Nat) (ts : List T3) : Prop where
 len : ts.length = n
 it : ∀ t ∈ ts,IT t
 row : ∀ i t,ts[i]? = some t → ∃ a,A = some a ∧ jL w (a.add (i * 9)) [.int .i64 t.a.x,.int .i64 t.a.y,.int .i64 t.a.z,.int .i64 t.b.x,.int .i64 t.b.y,.int .i64 t.b.z,.int .i64 t.c.x,.int .i64 t.c.y,.int .i64 t.c.z]
theorem fA.ext {w w' : World} {A : Option Addr} {n : Nat} {ts : List T3} (h : fA w A n ts) (hE : dK w w') : fA w' A n ts :=
 ⟨h.len,h.it,fun i t hi=>let ⟨a,e,hr⟩:=h.row i t hi;⟨a,e,hr.ext hE⟩⟩
theorem fA.get {w : World} {A : Option Addr} {n : Nat} {ts : List T3} (h : fA w A n ts) {i : Nat} (hi : i < n) : ∃ t,ts[i]? = some t ∧ IT t ∧ ∃ a,A = some a ∧ jL w (a.add (i * 9)) [.int .i64 t.a.x,.int .i64 t.a.y,.int .i64 t.a.z,.int .i64 t.b.x,.int .i64 t.b.y,.int .i64 t.b.z,.int .i64 t.c.x,.int .i64 t.c.y,.int .i64 t.c.z]:=by
 have hl : i < ts.length:=by rw [h.len];exact hi
 refine ⟨ts[i],List.getElem?_eq_getElem hl,h.it _ (List.getElem_mem hl),h.row i _ (List.getElem?_eq_getElem hl)⟩
end Go.Lith
namespace Go.Lith
open Go.RowKit
theorem Xm {a b : Int} : (iE a = iE b ∧ mX a = mX b) ↔ a = b:=by
 constructor
 · rintro ⟨h1,h2⟩
   exact ad1 (by simp only[W,h1,h2])
 · rintro rfl;exact ⟨rfl,rfl⟩
end Go.Lith
namespace Go.Lith
open Go.RowKit
def bQ (t : T3) : List Go.Value:=[.int .i64 t.a.x,.int .i64 t.a.y,.int .i64 t.a.z,.int .i64 t.b.x,.int .i64 t.b.y,.int .i64 t.b.z,.int .i64 t.c.x,.int .i64 t.c.y,.int .i64 t.c.z]
theorem tL (t : T3) : (bQ t).length = 9:=rfl
theorem yQ : ∀ (ts : List T3) (i : Nat) (t : T3),ts[i]? = some t → (ts.flatMap bQ).drop (i * 9) = bQ t ++ (ts.drop (i + 1)).flatMap bQ
 | [],i,t,h=>by cases h
 | u :: ts,0,t,h=>by
  cases h;rfl
 | u :: ts,i + 1,t,h=>by
  rw [List.flatMap_cons,show (i + 1) * 9 = (bQ u).length + i * 9 by rw [tL];omega,List.drop_append,List.drop_of_length_le (by omega),List.nil_append];rw [show (bQ u).length + i * 9 - (bQ u).length = i * 9 by omega];exact yQ ts i t h
end Go.Lith
