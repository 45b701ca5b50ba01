/-
 Texts of one claim, laid together: Ext, Ops, Nat, Nat2, Ops2, Nat3, Upd, Nat4, Nat5, Nat6, Held, Eq, Nat7, Nat8, Ops3, Nat9, Nat10, Nat11, Nat12, Geo, Tree, Fresh, Fresh2, Ops4, Geo2, Geo3, Geo4, Geo5.
-/
import Derived.WalkKit
import Derived.StillTail
import Derived.Deep.Quiet
import Derived.BigQuiet
import Derived.Laws.Rows
import Derived.Laws.IdiomCopy
import Derived.Laws.CopyRow
import Derived.OrdersHeld
import Derived.Laws.StructEq
import Derived.ChangeKeysEq
import Derived.Laws.IdiomStrings
import Derived.Laws.BytesArg
import Derived.RangeFuncBox
import Derived.RangeFuncLeaves
import Derived.LoopN
set_option linter.unusedSimpArgs false
set_option linter.unusedVariables false
set_option linter.unusedSectionVars false
namespace Go.Lith
open Go.RowKit
def dD (w w' : World) : Prop:=Below w.heap.size w w'
theorem dD.refl (w : World) : dD w w:=Below.refl _ _
theorem dD.size {w w' : World} (h : dD w w') : w.heap.size ≤ w'.heap.size:=Below.size h
theorem dD.trans {a b c : World} (h : dD a b) (k : dD b c) : dD a c:=Below.trans h (Below.mono k h.size)
theorem dD.drawn {w w' : World} (h : dD w w') : dD w { w' with drawn:=w'.drawn + 1 }:=Below.drew h
theorem dD.alloc {w w' : World} (h : dD w w') (o : Obj) : dD w (w'.alloc o):=Below.alloc h h.size o
theorem dD.block {w w' : World} (h : dD w w') {k : Nat} {o : Obj} (hk : w.heap[k]? = some o) : w'.heap[k]? = some o :=
 (Below.block h k (Array.getElem?_eq_some_iff.1 hk).1).trans hk
theorem dD.cell {w w' : World} (h : dD w w') {p : Addr} {v : Value} (hp : w.cell? p = some v) : w'.cell? p = some v :=
 (Below.cell h (World.block_lt_of_cell? _ _ hp)).trans hp
section
variable {P : Program} {ops : Array Oper} {md : Region.Mode} {C : World → Prop}
def Ck (P : Program) (md : Region.Mode) (ops : Array Oper) (C : World → Prop) (n : Nat) (L : Array Bool → Act → Prop) : Nat → Array Bool → Act → Prop
 | 0,listed,a=>L listed a
 | f + 1,listed,a =>
  Region.ready md ops listed ≠ [] ∧ ∀ i ∈ Region.ready md ops listed,i < n ∧ qOp P ops C i (Ck P md ops C n L f (listed.setIfInBounds i true)) a
theorem sT {n g : Nat} {L : Array Bool → Act → Prop} {Q' : Exit → Act → World → Prop} (hL : ∀ listed a,L listed a → ∀ w,C w → wpAny P md ops Q' g listed a w) :
 ∀ (f : Nat) (listed : Array Bool) (a : Act) (w : World),C w → Ck P md ops C n L f listed a → wpAny P md ops Q' (f + g) listed a w
 | 0,listed,a,w,hw,h=>by rw [Nat.zero_add];exact hL _ _ h w hw
 | f + 1,listed,a,w,hw,h=>by
  rw [show f + 1 + g = (f + g) + 1 by omega];exact ⟨fun h0=>absurd h0 h.1,fun i hi=>wpOp_of_qOp hw (fun a' w' hw' h'=>sT hL f _ a' w' hw' h') (h.2 i hi).2⟩
theorem Im {n i : Nat} {oi : Oper} {v : Value} {L : Array Bool → Act → Prop} (hi : ops[i]? = some oi) (hsel : ∀ (j : Nat) (o : Oper) cs b,ops[j]? = some o → o.op ≠ .select cs b)
 (hs : Region.sinkB md ops n = true) (hc : Region.chainB md ops n = true) (hn : n < ops.size) (hin : i < n)
 (hdone : ∀ listed a,L listed a → ∀ j ∈ Region.ready md ops listed,n ≤ j) :
 ∀ (f : Nat) (listed : Array Bool) (a : Act),HeadInv md ops n listed →
  (∀ j oj,ops[j]? = some oj → j ≠ i → listed.getD j true = false → (∀ e ∈ oj.after,Region.binds md e = true → e.on ≠ i) → oi.apart ops oj = true) →
  i ∈ Region.ready md ops listed → YieldsIn P ops C oi v a →
  Ck P md ops C n L f (listed.setIfInBounds i true) (a.put oi.dst v) → Ck P md ops C n L (f + 1) listed a:=by
 intro f
 induction f with
 | zero =>
  intro listed a inv _ hr hy H;have hun:=(mem_ready.1 hr).1;refine ⟨fun h=>(by rw [h] at hr;cases hr),fun j hj=>?_⟩;have hjn : j < n:=by
   rcases Nat.lt_or_ge j n with h | h
   · exact h
   · exact absurd hj (tail_waits hs hc hn inv _ i rfl hin hun j h)
  refine ⟨hjn,?_⟩;by_cases hji : j = i
  · subst hji;exact hy.qOp hi H
  · have:=hdone _ _ H j (ready_mono hj hji)
    omega
 | succ f ih =>
  intro listed a inv hfree hr hy H;have hun:=(mem_ready.1 hr).1;refine ⟨fun h=>(by rw [h] at hr;cases hr),fun j hj=>?_⟩;have hjn : j < n:=by
   rcases Nat.lt_or_ge j n with h | h
   · exact h
   · exact absurd hj (tail_waits hs hc hn inv _ i rfl hin hun j h)
  refine ⟨hjn,?_⟩;by_cases hji : j = i
  · subst hji;exact hy.qOp hi H
  · have h1:=(H.2 j (ready_mono hj hji)).2
    obtain ⟨hjun,oj,hoj,hall⟩:=mem_ready.1 hj;have hnot : ∀ e ∈ oj.after,Region.binds md e = true → e.on ≠ i:=fun e he hb heq=>by
     have h1:=hall e he hb;rw [heq,getD_both hun] at h1;cases h1
    have h2:=qOp_put hoj (hfree j oj hoj hji hjun hnot) (fun cs b=>hsel i oi cs b hi) (fun cs b=>hsel j oj cs b hoj) hy h1;have hfree' : ∀ k ok,ops[k]? = some ok → k ≠ i → (listed.setIfInBounds j true).getD k true = false →
     (∀ e ∈ ok.after,Region.binds md e = true → e.on ≠ i) → oi.apart ops ok = true:=fun k ok hk hki hun hno=>by
     refine hfree k ok hk hki ?_ hno;by_cases hjk : j = k
     · subst hjk;exact hjun
     · rw [getD_set_ne true hjk] at hun;exact hun
    refine qOp_mono (fun a' h3=>ih (listed.setIfInBounds j true) a' (inv.set hj hjn) hfree' (ready_mono hr (Ne.symm hji)) h3.1 ?_) h2;rw [Array.setIfInBounds_comm _ _ hji];exact h3.2
theorem Cl {n g : Nat} {Lq : Act → Prop} (hsel : Region.noSelect ops = true) (hs : Region.sinkB md ops n = true) (hc : Region.chainB md ops n = true) (hn : n < ops.size) :
 ∀ (l : List Oper) (k : Nat) (listed : Array Bool) (a : Act),(∀ j,j < l.length → l[j]? = ops[k + j]?) → k + l.length = n → HeadInv md ops n listed →
 Region.lexHead md ops g l.length k listed = true → wpQuiet P ops C Lq l a →
 Ck P md ops C n (fun listed' a'=>Region.seqB md ops g n listed' = true ∧ Lq a') l.length listed a
 | [],k,listed,a,_,hk,_,hB,h=>by
  have : k = n:=by simpa using hk
  subst this;exact ⟨by simpa [Region.lexHead] using hB,h⟩
 | o :: l,k,listed,a,hl,hk,inv,hB,h=>by
  have h0 : ops[k]? = some o:=by simpa using (hl 0 (by simp)).symm
  simp only[List.length_cons,Region.lexHead,Bool.and_eq_true] at hB;obtain ⟨⟨hr,hf⟩,hB'⟩:=hB;have hkn : k < n:=by simp only[List.length_cons] at hk;omega
  have hr' : k ∈ Region.ready md ops listed:=by simpa using hr
  have hst : qOp P ops C k (wpQuiet P ops C Lq l) a:=by unfold qOp;simp only[h0];exact h
  obtain ⟨v,hy,hK⟩:=yieldsIn_of_qOp h0 hst;exact Im h0 (Region.noSelect_spec hsel) hs hc hn hkn (fun listed' a' hL=>seqB_ready hL.1) l.length listed a inv (Region.free_spec h0 hf) hr' hy
   (Cl hsel hs hc hn l (k + 1) _ _ (fun j hj=>by have:=hl (j + 1) (by simp;omega);simpa [Nat.add_assoc,Nat.add_comm 1 j] using this) (by simp only[List.length_cons] at hk;omega) (inv.set hr' hkn) hB' hK)
theorem jT {id : Nat} {Q : Exit → Act → World → Prop} {a : Act} {w : World} {l : List Oper} (n : Nat) (hm : P.follows .mixedOrders = true) (hB : Region.lexTailB .any l.toArray n = true)
 (hC : C { w with drawn:=w.drawn + 1 })
 (h : wpQuiet P l.toArray C (fun a'=>∀ w',C w' → wpList P l.toArray Q (l.drop n) a' w') (l.take n) a) : (Code.region id l.toArray true).wp P Q a w:=by
 simp only[Region.lexTailB,Bool.and_eq_true,decide_eq_true_eq] at hB;obtain ⟨⟨⟨⟨hsel,hn⟩,hs⟩,hc⟩,hlex⟩:=hB;have hn' : n < l.length:=by simpa using hn
 have htl : (l.take n).length = n:=by simp;omega
 have hdl : (l.drop n).length = l.toArray.size - n:=by simp
 have inv0 : HeadInv .any l.toArray n (Array.replicate l.toArray.size false) :=
  ⟨by simp,fun j oj _ hl=>(by rw [getD_replicate_false] at hl;cases hl),fun t _ ht=>getD_in (by simpa using ht) (getD_replicate_false _ _)⟩
 have H:=Cl (md:=.any) (g:=l.toArray.size - n) hsel hs hc hn (l.take n) 0 _ a (fun j hj=>by
  have hj' : j < n:=by rw [htl] at hj;exact hj
  simp [hj']) (by simpa using htl) inv0 (by rw [htl];exact hlex) h
 refine wp_region_any hm ?_;have:=sT (Q':=Q) (g:=l.toArray.size - n) (fun listed a' hL w' hw'=>by
  have:=wpAny_of_seq (md:=.any) (Q':=Q) (l.drop n) n listed a' w' (fun j=>by simp [List.getElem?_drop]) (by rw [hdl];exact hL.1) (hL.2 w' hw');rwa [hdl] at this) _ _ _ _ hC H
 rw [htl,show n + (l.toArray.size - n) = l.toArray.size by omega] at this;exact this
theorem iS {id : Nat} {Q : Exit → Act → World → Prop} {a : Act} {w : World} {l : List Oper} (n : Nat) (hm : P.follows .mixedOrders = true) (hB : Region.lexTailB .any l.toArray n = true)
 (h : wpQuiet P l.toArray (dD w) (fun a'=>∀ w',dD w w' → wpList P l.toArray Q (l.drop n) a' w') (l.take n) a) : (Code.region id l.toArray true).wp P Q a w :=
 jT (C:=dD w) n hm hB (dD.refl w).drawn h
theorem kC {id : Nat} {Q : Exit → Act → World → Prop} {a : Act} {w : World} {l : List Oper} (hm : P.follows .mixedOrders = true) (hB : Region.lexB .any l.toArray = true)
 (h : wpQuiet P l.toArray (dD w) (fun a'=>∀ w',dD w w' → Q .normal a' w') l a) : (Code.region id l.toArray true).wp P Q a w :=
 wp_region_quiet (C:=dD w) hm hB (dD.refl w).drawn (by simpa using h)
def yO (md : Region.Mode) (ops : Array Oper) : List (Nat × Bool) → Array Bool → Bool
 | [],listed=>(Region.ready md ops listed).isEmpty
 | (i,true) :: r,listed=>(ops[i]?).isSome && Region.free md ops listed i && (Region.ready md ops listed).contains i && yO md ops r (listed.setIfInBounds i true)
 | (i,false) :: r,listed=>(ops[i]?).isSome && decide (Region.ready md ops listed = [i]) && yO md ops r (listed.setIfInBounds i true)
def dC (P : Program) (ops : Array Oper) (Q : Exit → Act → World → Prop) : List (Oper × Bool) → Act → World → Prop
 | [],a,w=>Q .normal a w
 | (o,true) :: r,a,w=>∃ v,Yields P ops o v a ∧ dC P ops Q r (a.put o.dst v) w
 | (o,false) :: r,a,w=>wpList P ops (Exit.then (dC P ops Q r) Q) [o] a w
theorem rF {Q : Exit → Act → World → Prop} (hs : Region.noSelect ops = true) (hQ : ∀ c d v a w,Q (.panic c) (Act.put a d v) w → Q (.panic c) a w) : ∀ (l : List (Nat × Bool)) (listed : Array Bool) (a : Act) (w : World),
 yO md ops l listed = true → dC P ops Q (l.map fun x=>((ops[x.1]?).getD default,x.2)) a w → wpAny P md ops Q l.length listed a w
 | [],listed,a,w,hB,h=>⟨by simpa [yO] using hB,h⟩
 | (i,true) :: r,listed,a,w,hB,h=>by
  simp only[yO,Bool.and_eq_true] at hB;obtain ⟨⟨⟨h1,h2⟩,h3⟩,h4⟩:=hB;obtain ⟨o,ho⟩:=Option.isSome_iff_exists.1 h1;simp only[List.map_cons,dC,ho,Option.getD_some] at h;obtain ⟨v,hy,hr⟩:=h;exact wpAny_take ho hs h2 h3 (fun c a w=>hQ c _ v a w) hy (rF hs hQ r _ _ _ h4 hr)
 | (i,false) :: r,listed,a,w,hB,h=>by
  simp only[yO,Bool.and_eq_true,decide_eq_true_eq] at hB;obtain ⟨⟨h1,h2⟩,h4⟩:=hB;obtain ⟨o,ho⟩:=Option.isSome_iff_exists.1 h1;refine wpAny_all h2 (by simp) fun j hj=>?_;obtain rfl : j = i:=by simpa using hj
  simp only[List.map_cons,dC,ho,Option.getD_some] at h;have key : ∀ a' w',Exit.then (dC P ops Q (r.map fun x=>((ops[x.1]?).getD default,x.2))) Q .normal a' w' → wpAny P md ops Q r.length (listed.setIfInBounds j true) a' w':=fun a' w' hh=>rF hs hQ r _ a' w' h4 hh
  unfold wpOp;simp only[ho];simp only[wpList] at h;split
  · rename_i hw
    rw [if_pos hw] at h;rcases h with h | ⟨ha,x,y,hl⟩
    · refine .inl ?_
      unfold Oper.wp at h ⊢;generalize (execOp a.eval o).run P w = res at *
      cases res with
      | ok n w' =>
       cases n <;> simp only[Oper.upon] at h ⊢ <;>
        first
         | exact key _ _ h
         | exact Calls.mono h (fun e w'' he=>by cases e <;> first | exact key _ _ he | exact he)
         | exact Rows.mono h (fun _ _ he=>key _ _ he)
      | halt x w'=>cases x <;> simp only[Oper.upon] at h ⊢ <;> exact h
    · exact .inr ⟨ha,x,y,hl⟩
  · rename_i hw
    rw [if_neg hw] at h;exact key _ _ h
theorem Ft {id : Nat} {Q : Exit → Act → World → Prop} {a : Act} {w : World} {l : List Oper} (o : List (Nat × Bool)) (hm : P.follows .mixedOrders = true) (hB : (Region.noSelect l.toArray && decide (o.length = l.length) && yO .any l.toArray o (Array.replicate l.toArray.size false)) = true)
 (hQ : ∀ c d v a w,Q (.panic c) (Act.put a d v) w → Q (.panic c) a w) {ol : List (Oper × Bool)} (hol : (o.map fun x=>((l.toArray[x.1]?).getD default,x.2)) = ol)
 (h : ∀ w',dD w w' → dC P l.toArray Q ol a w') : (Code.region id l.toArray true).wp P Q a w:=by
 simp only[Bool.and_eq_true,decide_eq_true_eq] at hB;subst hol;refine wp_region_any hm ?_;have:=rF (md:=.any) hB.1.1 hQ o _ a { w with drawn:=w.drawn + 1 } hB.2 (h _ (dD.refl w).drawn);rwa [hB.1.2] at this
end
end Go.Lith
namespace Go.Lith
open Go.RowKit
abbrev Fr (l : List Value) (ds : List Deferred:=[]) : Act:={ tmps:=l.toArray,defers:=ds }
def fX (w : World) (g : Nat) (cs : List Value) (t : TypeId) : Prop:=w.heap[g]? = some (.cells cs.toArray t (0,0))
structure Wz (w w' : World) (g : Nat) : Prop where
 os : w'.os = w.os
 tape : w'.tape = w.tape
 output : w'.output = w.output
 size : w'.heap.size = w.heap.size
 block : ∀ k,k ≠ g → w'.heap[k]? = w.heap[k]?
def jP (w : World) (a : Addr) (cs : List Value) : Prop:=∀ j u,cs[j]? = some u → w.cell? (a.add j) = some u
theorem fX.lt {w : World} {g : Nat} {cs : List Value} {t : TypeId} (h : fX w g cs t) : g < w.heap.size:=(Array.getElem?_eq_some_iff.1 h).1
theorem fX.ext {w w' : World} {g : Nat} {cs : List Value} {t : TypeId} (h : fX w g cs t) (hE : dD w w') : fX w' g cs t:=hE.block h
theorem fX.chg {w w' : World} {g g' : Nat} {cs : List Value} {t : TypeId} (h : fX w g cs t) (hC : Wz w w' g') (hne : g ≠ g') : fX w' g cs t:=(hC.block g hne).trans h
theorem dD.chg {w0 w w' : World} {g : Nat} (h : dD w0 w) (hC : Wz w w' g) (hg : w0.heap.size ≤ g) : dD w0 w' :=
 ⟨hC.os.trans h.os,hC.tape.trans h.tape,hC.output.trans h.output,by rw [hC.size];exact h.size,fun k hk=>(hC.block k (by omega)).trans (Below.block h k hk)⟩
theorem jP.ext {w w' : World} {a : Addr} {cs : List Value} (h : jP w a cs) (hE : dD w w') : jP w' a cs:=fun j u hj=>hE.cell (h j u hj)
theorem fQ (g off j : Nat) : (⟨g,off,none⟩ : Addr).add j = ⟨g,off + j,none⟩:=by unfold Addr.add;split <;> simp_all
theorem iE (a : Addr) (i j : Nat) : (a.add i).add j = a.add (i + j):=by
 unfold Addr.add;by_cases hi : i = 0 <;> by_cases hj : j = 0 <;> simp [hi,hj,Nat.add_assoc]
theorem fX.row {w : World} {g : Nat} {cs : List Value} {t : TypeId} (h : fX w g cs t) (off : Nat) : jP w ⟨g,off,none⟩ (cs.drop off):=by
 intro j u hj;rw [fQ,cell_of_row w g (off + j) cs.toArray t (0,0) h];simpa [List.getElem?_drop] using hj
theorem jP.sub {w : World} {a : Addr} {cs : List Value} (h : jP w a cs) (i : Nat) : jP w (a.add i) (cs.drop i):=by
 intro j u hj;rw [iE];exact h (i + j) u (by simpa [List.getElem?_drop] using hj)
theorem jP.take {w : World} {a : Addr} {cs : List Value} (h : jP w a cs) (n : Nat) : jP w a (cs.take n):=by
 intro j u hj;refine h j u ?_;rw [List.getElem?_take] at hj;split at hj
 · exact hj
 · cases hj
section
variable {P : Program} {ds : List Deferred} {l : List Value}
theorem acW (t : Nat) : (Fr l).eval (.tmp t) = l.getD t undef:=by
 show l.toArray.getD t undef = _
 simp [Array.getD,List.getD];split <;> simp_all
theorem fY {ds : List Deferred} : (Fr l ds).eval = (Fr l).eval:=rfl
theorem iJ {ds : List Deferred} (d : Nat) (v : Value) : (Fr l ds).put (some d) v = Fr (l.set d v) ds:=by simp [Act.put,Fr]
def dW (P : Program) (T : TypeId) (n : Nat) : Prop:=∃ inf,P.info? T = some inf ∧ inf.size = n
def lO (P : Program) (T : TypeId) (z : Value) : Prop:=∃ inf,P.info? T = some inf ∧ inf.zero = some z
def wV : TypeDesc → Bool
 | .struct _ | .array _ _=>true
 | _=>false
def fR (P : Program) (T : TypeId) (b : Bool) : Prop:=∃ dd,P.underlying T = some dd ∧ wV dd = b
theorem dQ {T : TypeId} {n : Nat} (h : (P.info? T).map (·.size) = some n) : dW P T n:=by
 cases hi : P.info? T with
 | none=>rw [hi] at h;cases h
 | some i=>rw [hi] at h;exact ⟨i,hi,by simpa using h⟩
theorem iF {T : TypeId} {z : Value} (h : (P.info? T).bind (·.zero) = some z) : lO P T z:=by
 cases hi : P.info? T with
 | none=>rw [hi] at h;cases h
 | some i=>rw [hi] at h;exact ⟨i,hi,by simpa using h⟩
theorem eB {T : TypeId} {b : Bool} (dd : TypeDesc) (h : P.underlying T = some dd) (hb : wV dd = b) : fR P T b:=⟨dd,h,hb⟩
def ev (l : List Value) : Operand → Value
 | .tmp t=>l.getD t undef
 | .const v=>v
 | .global g=>.pointer (some ⟨g,0,none⟩)
 | .func f=>.func (.func f) #[] #[]
theorem cL (x : Operand) : (Fr l).eval x = ev l x:=by
 cases x with
 | tmp t=>exact acW t
 | const=>rfl
 | global=>rfl
 | func=>rfl
def vX (P : Program) (l : List Value) (op : Op) (ty : TypeId) (v : Value) (w : World) : Prop :=
 ∀ o : Oper,o.op = op → o.type = ty → (execOp (Fr l).eval o).run P w = .ok (.value v) w
def gE (P : Program) (l : List Value) (op : Op) (ty : TypeId) (v : Value) : Prop:=∀ w,vX P l op ty v w
section
variable {ops : Array Oper} {Q : Exit → Act → World → Prop} {w : World} {rest : List Oper} {d : Nat} {op : Op} {ty : TypeId} {pos : String} {after : Array Edge} {v : Value}
theorem eL (hr : vX P l op ty v w) (h : wpList P ops Q rest (Fr (l.set d v) ds) w) : wpList P ops Q (Oper.mk (some d) op ty pos after none :: rest) (Fr l ds) w:=by
 refine wpList_plain rfl fun K hK=>?_;unfold Oper.wp;rw [fY,hr _ rfl rfl];show K ((Fr l ds).put (some d) v) w
 rw [iJ];exact hK _ _ h
theorem aA (hr : gE P l op ty v) (h : wpList P ops Q rest (Fr (l.set d v) ds) w) : wpList P ops Q (Oper.mk (some d) op ty pos after none :: rest) (Fr l ds) w:=eL (hr w) h
theorem aG (h : Q .normal (Fr l ds) w) : wpList P ops Q [] (Fr l ds) w:=h
theorem bU {j : Nat} {b : Bool} (hw : yielded ops l.toArray j = some b) (h : wpList P ops Q (Oper.mk (some d) op ty pos after none :: rest) (Fr l ds) w) : wpList P ops Q (Oper.mk (some d) op ty pos after (some (j,b)) :: rest) (Fr l ds) w:=by
 unfold wpList at h ⊢;rw [if_pos (by simp [Region.wanted])] at h;rw [if_pos (by simp [Region.wanted,hw])];exact h
theorem Xa {j : Nat} {b c : Bool} (hw : yielded ops l.toArray j = some c) (hbc : (c == b) = false) (h : wpList P ops Q rest (Fr (l.set d undef) ds) w) : wpList P ops Q (Oper.mk (some d) op ty pos after (some (j,b)) :: rest) (Fr l ds) w:=by
 unfold wpList;rw [if_neg (by simp [Region.wanted,hw];simpa using hbc)];show wpList P ops Q rest ((Fr l ds).put (some d) undef) w
 rw [iJ];exact h
theorem cU {j : Nat} (hw : yielded ops l.toArray j = some false) (h : wpList P ops Q rest (Fr (l.set d undef) ds) w) : wpList P ops Q (Oper.mk (some d) op ty pos after (some (j,true)) :: rest) (Fr l ds) w:=Xa hw rfl h
theorem lP {j : Nat} (hw : yielded ops l.toArray j = some true) (h : wpList P ops Q rest (Fr (l.set d undef) ds) w) : wpList P ops Q (Oper.mk (some d) op ty pos after (some (j,false)) :: rest) (Fr l ds) w:=Xa hw rfl h
theorem kR {j : Nat} {b : Bool} (hw : yielded ops l.toArray j = none) (h : wpList P ops Q rest (Fr (l.set d undef) ds) w) : wpList P ops Q (Oper.mk (some d) op ty pos after (some (j,b)) :: rest) (Fr l ds) w:=by
 unfold wpList;rw [if_neg (by simp [Region.wanted,hw])];show wpList P ops Q rest ((Fr l ds).put (some d) undef) w
 rw [iJ];exact h
end
section
variable {ops : Array Oper} {Q : Act → Prop} {C : World → Prop} {rest : List Oper} {d : Nat} {op : Op} {ty : TypeId} {pos : String} {after : Array Edge} {v : Value}
theorem vY (hr : ∀ w,C w → vX P l op ty v w) (h : wpQuiet P ops C Q rest (Fr (l.set d v) ds)) : wpQuiet P ops C Q (Oper.mk (some d) op ty pos after none :: rest) (Fr l ds):=by
 refine wpQuiet_step fun K hK=>?_;rw [if_pos (by simp [Region.wanted])];refine ⟨v,fun w hw=>?_,?_⟩
 · unfold Oper.quietAt
   rw [fY,hr w hw _ rfl rfl];exact ⟨rfl,rfl⟩
 · show K ((Fr l ds).put (some d) v)
   rw [iJ];exact hK _ h
theorem aL (hr : gE P l op ty v) (h : wpQuiet P ops C Q rest (Fr (l.set d v) ds)) : wpQuiet P ops C Q (Oper.mk (some d) op ty pos after none :: rest) (Fr l ds):=vY (fun w _=>hr w) h
theorem dF (h : Q (Fr l ds)) : wpQuiet P ops C Q [] (Fr l ds):=h
theorem fS {j : Nat} {b : Bool} (hw : yielded ops l.toArray j = some b) (h : wpQuiet P ops C Q (Oper.mk (some d) op ty pos after none :: rest) (Fr l ds)) : wpQuiet P ops C Q (Oper.mk (some d) op ty pos after (some (j,b)) :: rest) (Fr l ds):=by
 unfold wpQuiet at h ⊢;rw [if_pos (by simp [Region.wanted])] at h;rw [if_pos (by simp [Region.wanted,hw])];exact h
theorem Xb {j : Nat} {b c : Bool} (hw : yielded ops l.toArray j = some c) (hbc : (c == b) = false) (h : wpQuiet P ops C Q rest (Fr (l.set d undef) ds)) : wpQuiet P ops C Q (Oper.mk (some d) op ty pos after (some (j,b)) :: rest) (Fr l ds):=by
 unfold wpQuiet;rw [if_neg (by simp [Region.wanted,hw];simpa using hbc)];show wpQuiet P ops C Q rest ((Fr l ds).put (some d) undef)
 rw [iJ];exact h
theorem fZ {j : Nat} (hw : yielded ops l.toArray j = some false) (h : wpQuiet P ops C Q rest (Fr (l.set d undef) ds)) : wpQuiet P ops C Q (Oper.mk (some d) op ty pos after (some (j,true)) :: rest) (Fr l ds):=Xb hw rfl h
theorem aa9 {j : Nat} (hw : yielded ops l.toArray j = some true) (h : wpQuiet P ops C Q rest (Fr (l.set d undef) ds)) : wpQuiet P ops C Q (Oper.mk (some d) op ty pos after (some (j,false)) :: rest) (Fr l ds):=Xb hw rfl h
end
/-! ### Values -/
section
variable {x y : Operand} {T T' ty : TypeId} {k : IntKind} {m n r : Int}
theorem aB : gE P l (.move x) ty (ev l x):=fun w o ho _=>by simp [execOp,ho,cL]
theorem aF : gE P l (.assign x) ty (ev l x):=fun w o ho _=>by simp [execOp,ho,cL]
theorem Io {c : Operand} {b : Bool} (hc : ev l c = .bool b) : gE P l (.pick c x y) ty (if b then ev l x else ev l y):=fun w o ho _=>by
 simp [execOp,ho,cL,hc,asBool]
theorem aQ (hx : ev l x = .int k m) (hy : ev l y = .int k n) (hr : k.wrap (m + n) = r) : gE P l (.binOp .add T x y T') ty (.int k r):=fun w o ho _=>by
 simp [execOp,ho,cL,hx,hy,eqGuard,binOp,Op.intArith,hr]
theorem gL (hx : ev l x = .int k m) (hy : ev l y = .int k n) (hr : k.wrap (m - n) = r) : gE P l (.binOp .sub T x y T') ty (.int k r):=fun w o ho _=>by
 simp [execOp,ho,cL,hx,hy,eqGuard,binOp,Op.intArith,hr]
theorem eT (hx : ev l x = .int k m) (hy : ev l y = .int k n) (hr : k.wrap (m * n) = r) : gE P l (.binOp .mul T x y T') ty (.int k r):=fun w o ho _=>by
 simp [execOp,ho,cL,hx,hy,eqGuard,binOp,Op.intArith,hr]
theorem cJ (hx : ev l x = .int k m) (hy : ev l y = .int k n) : gE P l (.binOp .lss T x y T') ty (.bool (decide (m < n))):=fun w o ho _=>by
 simp [execOp,ho,cL,hx,hy,eqGuard,binOp,Op.intCmp]
theorem Xc (hx : ev l x = .int k m) (hy : ev l y = .int k n) : gE P l (.binOp .leq T x y T') ty (.bool (decide (m ≤ n))):=fun w o ho _=>by
 simp [execOp,ho,cL,hx,hy,eqGuard,binOp,Op.intCmp]
theorem sU (hx : ev l x = .int k m) (hy : ev l y = .int k n) : gE P l (.binOp .gtr T x y T') ty (.bool (decide (n < m))):=fun w o ho _=>by
 simp [execOp,ho,cL,hx,hy,eqGuard,binOp,Op.intCmp]
theorem vI (hx : ev l x = .int k m) (hy : ev l y = .int k n) : gE P l (.binOp .geq T x y T') ty (.bool (decide (n ≤ m))):=fun w o ho _=>by
 simp [execOp,ho,cL,hx,hy,eqGuard,binOp,Op.intCmp]
theorem vJ (hx : ev l x = .int k m) (hy : ev l y = .int k n) : gE P l (.binOp .eql T x y T') ty (.bool (decide (m = n))):=fun w o ho _=>by
 simp [execOp,ho,cL,hx,hy,eqGuard,binOp,Op.intCmp];cases h : (m == n) <;> simp_all
theorem nS (hx : ev l x = .int k m) (hy : ev l y = .int k n) : gE P l (.binOp .neq T x y T') ty (.bool (decide (m ≠ n))):=fun w o ho _=>by
 simp [execOp,ho,cL,hx,hy,eqGuard,binOp,Op.intCmp];cases h : (m != n) <;> simp_all
theorem jE (hx : ev l x = .int k m) (hy : ev l y = .int k n) (h0 : n ≠ 0) (hr : k.wrap (m.tdiv n) = r) : gE P l (.binOp .quo T x y T') ty (.int k r):=fun w o ho _=>by
 simp [execOp,ho,cL,hx,hy,eqGuard,binOp,Op.intDiv,h0,hr]
theorem dK (hx : ev l x = .int k m) (hy : ev l y = .int k n) (h0 : n ≠ 0) (hr : m.tmod n = r) : gE P l (.binOp .rem T x y T') ty (.int k r):=fun w o ho _=>by
 simp [execOp,ho,cL,hx,hy,eqGuard,binOp,Op.intDiv,h0,hr]
theorem qC (hx : ev l x = .int k m) (hy : ev l y = .int k n) (hr : k.wrap ((BitVec.ofInt k.bits m &&& BitVec.ofInt k.bits n).toNat : Int) = r) : gE P l (.binOp .and T x y T') ty (.int k r):=fun w o ho _=>by
 subst hr;simp [execOp,ho,cL,hx,hy,eqGuard,binOp,Op.intBits]
theorem Ko (hx : ev l x = .int k m) (hy : ev l y = .int k n) (hr : k.wrap ((BitVec.ofInt k.bits m ||| BitVec.ofInt k.bits n).toNat : Int) = r) : gE P l (.binOp .or T x y T') ty (.int k r):=fun w o ho _=>by
 subst hr;simp [execOp,ho,cL,hx,hy,eqGuard,binOp,Op.intBits]
theorem Ao {k' : IntKind} (hx : ev l x = .int k m) (hy : ev l y = .int k' n) (h0 : 0 ≤ n) (hr : k.wrap (m * 2 ^ (min n.toNat k.bits)) = r) : gE P l (.binOp .shl T x y T') ty (.int k r):=fun w o ho _=>by
 subst hr;simp [execOp,ho,cL,hx,hy,eqGuard,binOp,Op.shift,Int.not_lt.2 h0]
theorem pE {k' : IntKind} (hx : ev l x = .int k m) (hy : ev l y = .int k' n) (h0 : 0 ≤ n) (hr : m.fdiv (2 ^ (min n.toNat k.bits)) = r) : gE P l (.binOp .shr T x y T') ty (.int k r):=fun w o ho _=>by
 subst hr;simp [execOp,ho,cL,hx,hy,eqGuard,binOp,Op.shift,Int.not_lt.2 h0]
theorem gX {b : Bool} (hx : ev l x = .bool b) : gE P l (.unOp .not T x) ty (.bool (!b)):=fun w o ho _=>by
 simp [execOp,ho,cL,hx,Op.unary]
theorem acv (hx : ev l x = .int k m) (hr : k.wrap (0 - m) = r) : gE P l (.unOp .neg T x) ty (.int k r):=fun w o ho _=>by
 subst hr;simp [execOp,ho,cL,hx,Op.unary,Op.intArith]
theorem vZ (hd : P.underlying T' = some (.int k)) {k' : IntKind} {dd : TypeDesc} (hs : P.underlying T = some dd) (hx : ev l x = .int k' m) (hr : k.wrap m = r) : gE P l (.convert T T' x) ty (.int k r):=fun w o ho _=>by
 subst hr;simp [execOp,ho,cL,hx,convert,run_underlying hs,run_underlying hd,Conv.intToInt]
theorem aZ {vs : Array Value} {i : Nat} {v : Value} (hx : ev l x = .tuple vs) (hi : vs[i]? = some v) : gE P l (.extract x i) ty v:=fun w o ho _=>by
 simp [execOp,ho,cL,hx,Instr.extract,hi]
theorem oK {fn : Fn} {first captured : Array Operand} : gE P l (.makeFunc fn first captured) ty (.func fn (first.map (ev l)) (captured.map (ev l))):=fun w o ho _=>by
 have e : (Fr l).eval = ev l:=funext cL;simp [execOp,ho,e,Instr.makeFunc]
theorem bF {E : TypeId} {A : Option Addr} {n c : Nat} {a0 : Array TypeId} (ha : a0 = #[T]) (hu : P.underlying T = some (.slice E)) (hx : ev l x = .slice A n c) : gE P l (.call { callee:=.builtin .len,args:=#[x],argTypes:=a0 }) ty (.int .i64 n):=fun w o ho _=>by
 subst ha;simp [execOp,ho,resolve,invoke,builtin,Builtin.len_,cL,hx,run_underlying hu,goInt]
theorem qD {s : ByteArray} {a0 : Array TypeId} (ha : a0 = #[T]) (hu : P.underlying T = some .string) (hx : ev l x = .string s) : gE P l (.call { callee:=.builtin .len,args:=#[x],argTypes:=a0 }) ty (.int .i64 s.size):=fun w o ho _=>by
 subst ha;simp [execOp,ho,resolve,invoke,builtin,Builtin.len_,cL,hx,run_underlying hu,goInt]
theorem aeB {a0 : Array TypeId} (hx : ev l x = .int k m) (hy : ev l y = .int k n) (hr : (if m < n then n else m) = r) : gE P l (.call { callee:=.builtin .max,args:=#[x,y],argTypes:=a0 }) ty (.int k r):=fun w o ho _=>by
 subst hr;simp [execOp,ho,resolve,invoke,builtin,Builtin.max_,Builtin.max2,cL,hx,hy]
end
/-! ### Addresses -/
section
variable {x y : Operand} {T T' ty : TypeId} {k : IntKind} {m n r : Int}
theorem aK {fs : Array Field} {i c : Nat} {f : Field} {a b : Addr} (hu : P.underlying T = some (.struct fs)) (hf : fs[i]? = some f) (hc : dW P f.type (c + 1)) (hx : ev l x = .pointer (some a)) (hb : a.add f.offset = b) :
 gE P l (.fieldAddr T x i) ty (.pointer (some b)):=fun w o ho _=>by
 subst hb;obtain ⟨inf,hi,hz⟩:=hc;have hz' : ¬ inf.size = 0:=by omega
 simp [execOp,ho,cL,hx,Instr.fieldAt,run_underlying hu,hf,Instr.sureAddr,fieldPlace,sizeOf,typeInfo,hi,hz']
theorem aH {E : TypeId} {len : Nat} {c : Nat} {a b : Addr} (hu : P.underlying T = some (.array len E)) (hc : dW P E c) (hx : ev l x = .pointer (some a)) (hy : ev l y = .int k m) (h0 : 0 ≤ m) (h1 : m < len) (hb : a.add (m.toNat * c) = b) :
 gE P l (.indexAddr T x y) ty (.pointer (some b)):=fun w o ho _=>by
 subst hb;obtain ⟨inf,hi,rfl⟩:=hc;simp [execOp,ho,cL,hx,hy,Instr.indexAt,asIntOf,run_underlying hu,Instr.sureAddr,sizeOf,typeInfo,hi,h0,h1]
theorem aM {E : TypeId} {len cap : Nat} {c : Nat} {a b : Addr} (hu : P.underlying T = some (.slice E)) (hc : dW P E c) (hx : ev l x = .slice (some a) len cap) (hy : ev l y = .int k m) (h0 : 0 ≤ m) (h1 : m < len) (hb : a.add (m.toNat * c) = b) :
 gE P l (.indexAddr T x y) ty (.pointer (some b)):=fun w o ho _=>by
 subst hb;obtain ⟨inf,hi,rfl⟩:=hc;simp [execOp,ho,cL,hx,hy,Instr.indexAt,asIntOf,run_underlying hu,sizeOf,typeInfo,hi,h0,h1]
end
/-! ### Memory -/
section
variable {x y : Operand} {T T' ty : TypeId} {w : World}
def vF (P : Program) (w : World) (T : TypeId) (a : Addr) (v : Value) : Prop:=(loadVar T a).run P w = .ok v w
theorem jP.lies {a : Addr} {cs : List Value} (h : jP w a cs) (hA : fR P T true) (hc : dW P T cs.length) : vF P w T a (.agg cs.toArray):=by
 obtain ⟨dd,hu,hd⟩:=hA;obtain ⟨inf,hi,hn⟩:=hc;have hl:=run_loadCells_list (P:=P) w a cs (fun j v hv=>h j v hv);have hagg : (isAgg T).run P w = .ok true w:=by
  unfold isAgg;rw [Sem.run_bind,run_underlying hu w];cases dd <;> simp_all [wV]
 unfold vF;simp [loadVar,Sem.run_bind,hagg,sizeOf,typeInfo,hi,hn,hl]
theorem lies1 {a : Addr} {v : Value} (h : w.cell? a = some v) (hA : fR P T false) : vF P w T a v:=by
 obtain ⟨dd,hu,hd⟩:=hA;have hagg : (isAgg T).run P w = .ok false w:=by
  unfold isAgg;rw [Sem.run_bind,run_underlying hu w];cases dd <;> simp_all [wV]
 unfold vF;simp [loadVar,Sem.run_bind,hagg,load,Sem.run,h]
theorem fX.cell {g : Nat} {cs : List Value} {t : TypeId} (h : fX w g cs t) {i : Nat} {v : Value} (hi : cs[i]? = some v) : w.cell? ⟨g,i,none⟩ = some v:=by
 rw [cell_of_row w g i cs.toArray t (0,0) h];simpa using hi
theorem fX.lies1 {g i : Nat} {cs : List Value} {t : TypeId} {v : Value} (h : fX w g cs t) (hA : fR P T false) (hi : cs[i]? = some v) : vF P w T ⟨g,i,none⟩ v:=Lith.lies1 (h.cell hi) hA
theorem fX.lies {g i n : Nat} {cs us : List Value} {t : TypeId} (h : fX w g cs t) (hA : fR P T true) (hc : dW P T n) (hu : (cs.drop i).take n = us) (hn : us.length = n) : vF P w T ⟨g,i,none⟩ (.agg us.toArray):=by
 subst hu;exact ((h.row i).take n).lies hA (by rw [hn];exact hc)
theorem cF {a : Addr} {v : Value} (hx : ev l x = .pointer (some a)) (hv : vF P w T a v) : vX P l (.load T x) ty v w:=fun o ho _=>by
 unfold vF at hv;simp [execOp,ho,cL,hx,Instr.loadAt,Instr.sureAddr,hv]
variable {ops : Array Oper} {Q : Exit → Act → World → Prop} {rest : List Oper} {d : Nat} {op : Op} {pos : String} {after : Array Edge} {v : Value}
theorem aJ {a : Addr} (hx : ev l x = .pointer (some a)) (hv : vF P w T a v) (h : wpList P ops Q rest (Fr (l.set d v) ds) w) : wpList P ops Q (Oper.mk (some d) (.load T x) ty pos after none :: rest) (Fr l ds) w :=
 eL (cF hx hv) h
theorem Bl {w' : World} (hr : ∀ o : Oper,o.op = op → (execOp (Fr l).eval o).run P w = .ok .skip w') (h : wpList P ops Q rest (Fr l ds) w') : wpList P ops Q (Oper.mk none op ty pos after none :: rest) (Fr l ds) w:=by
 refine wpList_plain rfl fun K hK=>?_;unfold Oper.wp;rw [fY,hr _ rfl];exact hK _ _ h
theorem jU {w' : World} (hr : ∀ o : Oper,o.op = op → o.type = ty → (execOp (Fr l).eval o).run P w = .ok (.value v) w') (h : wpList P ops Q rest (Fr (l.set d v) ds) w') : wpList P ops Q (Oper.mk (some d) op ty pos after none :: rest) (Fr l ds) w:=by
 refine wpList_plain rfl fun K hK=>?_;unfold Oper.wp;rw [fY,hr _ rfl rfl];show K ((Fr l ds).put (some d) v) w'
 rw [iJ];exact hK _ _ h
theorem gQ (w : World) (cs : List Value) (t : TypeId) : fX (w.alloc (.cells cs.toArray t)) w.heap.size cs t:=heap_alloc_new w _
theorem vK {cs : List Value} (hv : (ev l x).cells = cs.toArray) (h : ∀ w' g,dD w w' → w.heap.size ≤ g → fX w' g cs T → wpList P ops Q rest (Fr (l.set d (.pointer (some ⟨g,0,none⟩))) ds) w') :
 wpList P ops Q (Oper.mk (some d) (.box T x) ty pos after none :: rest) (Fr l ds) w :=
 jU (w':=w.alloc (.cells cs.toArray T)) (v:=.pointer (some ⟨w.heap.size,0,none⟩)) (fun o ho _=>by simp [execOp,ho,cL,Instr.box,newVar,newRow,hv,newObj,Sem.run]) (h _ _ ((dD.refl w).alloc _) (Nat.le_refl _) (gQ w cs T))
theorem nU {cs : List Value} {z : Value} (hZ : lO P T z) (hv : z.cells = cs.toArray) (h : ∀ w' g,dD w w' → w.heap.size ≤ g → fX w' g cs T → wpList P ops Q rest (Fr (l.set d (.pointer (some ⟨g,0,none⟩))) ds) w') :
 wpList P ops Q (Oper.mk (some d) (.alloc T) ty pos after none :: rest) (Fr l ds) w:=by
 obtain ⟨inf,hi,hz⟩:=hZ;exact jU (w':=w.alloc (.cells cs.toArray T)) (v:=.pointer (some ⟨w.heap.size,0,none⟩)) (fun o ho _=>by simp [execOp,ho,Instr.alloc,zeroValue,typeInfo,hi,hz,newVar,newRow,hv,newObj,Sem.run]) (h _ _ ((dD.refl w).alloc _) (Nat.le_refl _) (gQ w cs T))
def bG (cs : List Value) (off : Nat) (us : List Value) : List Value:=cs.take off ++ us ++ cs.drop (off + us.length)
theorem sV {cs us : List Value} {off : Nat} (h : off + us.length ≤ cs.length) : (bG cs off us).length = cs.length:=by simp [bG];omega
theorem rG (w : World) (g : Nat) (cs : Array Value) : Wz w (w.setRow g cs) g:=⟨rfl,rfl,rfl,by simp,fun k hk=>setRow_other w g k cs hk⟩
theorem wW {g off : Nat} {cs us : List Value} {t : TypeId} (hc : dW P T us.length) (hv : v.cells = us.toArray) (hB : fX w g cs t) (hfit : off + us.length ≤ cs.length) (h1 : ∀ u ∈ us,u.oneCell' = true) :
 (storeVar T ⟨g,off,none⟩ v).run P w = .ok () (w.setRow g (bG cs off us).toArray):=by
 obtain ⟨inf,hi,hn⟩:=hc;have hst:=run_storeCells_at P g off t us 0 cs.toArray w hB (by simpa using hfit) h1;simp only[Nat.add_zero,List.toList_toArray] at hst;simp [storeVar,hv,sizeOf,typeInfo,hi,hn,hst,bG]
theorem dL {g off : Nat} {cs us : List Value} {t : TypeId} (hx : ev l x = .pointer (some ⟨g,off,none⟩)) (hv : (ev l y).cells = us.toArray) (hc : dW P T us.length) (hB : fX w g cs t) (hfit : off + us.length ≤ cs.length) (h1 : ∀ u ∈ us,u.oneCell' = true)
 (h : ∀ w',Wz w w' g → fX w' g (bG cs off us) t → wpList P ops Q rest (Fr l ds) w') : wpList P ops Q (Oper.mk none (.store T x y) ty pos after none :: rest) (Fr l ds) w :=
 Bl (w':=w.setRow g (bG cs off us).toArray) (fun o ho=>by simp [execOp,ho,cL,hx,Instr.storeAt,Instr.sureAddr,wW hc hv hB hfit h1]) (h _ (rG w g _) (setRow_heap w g cs.toArray _ t _ hB))
/-! ### Calls -/
def bE (P : Program) (f : FuncId) : Prop:=∃ fn,P.funcs[f]? = some fn ∧ (fn.name == "runtime.NumGoroutine") = false ∧ fn.body.isNone = false
def eI (P : Program) (f : FuncId) (args : List Value) (w : World) (R : Value → World → Prop) : Prop :=
 bE P f ∧ Calls P f args.toArray w fun e w'=>∃ v,e = .returned v ∧ dD w w' ∧ R v w'
def kV (P : Program) (f : FuncId) (args : List Value) (v : Value) : Prop:=∀ w,eI P f args w fun u _=>u = v
theorem eI.mono {f : FuncId} {args : List Value} {R R' : Value → World → Prop} (h : eI P f args w R) (hr : ∀ v w',dD w w' → R v w' → R' v w') : eI P f args w R' :=
 ⟨h.1,h.2.mono fun _ _ ⟨v,he,hE,hR⟩=>⟨v,he,hE,hr _ _ hE hR⟩⟩
theorem wX {f : FuncId} {args : Array Value} (h : bE P f) : (callFunc f args).run P w = .ok (.enter f args) w:=by
 obtain ⟨fn,hf,hn,hb⟩:=h;have hn' : ¬ fn.name = "runtime.NumGoroutine" := by simpa using hn
 have hb' : ¬ fn.body = none:=by intro h;rw [h] at hb;cases hb
 simp [callFunc,hf,hn',hb']
theorem kD {f : FuncId} {fo : Operand} {xs : Array Operand} {args : List Value} {first cap : Array Value} {a0 : Array TypeId} (h : bE P f) (hf : ev l fo = .func (.func f) first cap) (hxs : first.toList ++ xs.toList.map (ev l) ++ cap.toList = args) (o : Oper) (ho : o.op = .call { callee:=.value fo,args:=xs,argTypes:=a0 }) :
 (execOp (Fr l).eval o).run P w = .ok (.enter f args.toArray) w:=by
 have e : (Fr l).eval = ev l:=funext cL;have ea : args.toArray = first ++ xs.map (ev l) ++ cap:=by
  rw [← hxs];apply Array.ext';simp
 simp [execOp,ho,resolve,e,hf,Deferred.ofValue,invoke,wX h,ea]
theorem bK {f : FuncId} {fo : Operand} {xs : Array Operand} {args : List Value} {first cap : Array Value} {a0 : Array TypeId} {R : Value → World → Prop} (hf : ev l fo = .func (.func f) first cap) (hxs : first.toList ++ xs.toList.map (ev l) ++ cap.toList = args) (hc : eI P f args w R)
 (h : ∀ v w',dD w w' → R v w' → wpList P ops Q rest (Fr (l.set d v) ds) w') : wpList P ops Q (Oper.mk (some d) (.call { callee:=.value fo,args:=xs,argTypes:=a0 }) ty pos after none :: rest) (Fr l ds) w:=by
 refine wpList_plain rfl fun K hK=>?_;unfold Oper.wp;rw [fY,kD hc.1 hf hxs _ rfl];refine hc.2.mono ?_;rintro e w' ⟨v,rfl,hE,hR⟩;show K ((Fr l ds).put (some d) v) w'
 rw [iJ];exact hK _ _ (h v w' hE hR)
theorem Ip {f : FuncId} {fo : Operand} {xs : Array Operand} {args : List Value} {first cap : Array Value} {a0 : Array TypeId} (hf : ev l fo = .func (.func f) first cap) (hxs : first.toList ++ xs.toList.map (ev l) ++ cap.toList = args) (hc : kV P f args v)
 (h : ∀ w',dD w w' → wpList P ops Q rest (Fr (l.set d v) ds) w') : wpList P ops Q (Oper.mk (some d) (.call { callee:=.value fo,args:=xs,argTypes:=a0 }) ty pos after none :: rest) (Fr l ds) w :=
 bK hf hxs (hc w) fun _ w' hE hR=>hR ▸ h w' hE
end
section
variable {x y : Operand} {T T' ty : TypeId} {w : World}
variable {ops : Array Oper} {Q : Act → Prop} {rest : List Oper} {d : Nat} {op : Op} {pos : String} {after : Array Edge} {v : Value}
theorem lQ {a : Addr} (hx : ev l x = .pointer (some a)) (hv : ∀ w',dD w w' → vF P w' T a v) (h : wpQuiet P ops (dD w) Q rest (Fr (l.set d v) ds)) : wpQuiet P ops (dD w) Q (Oper.mk (some d) (.load T x) ty pos after none :: rest) (Fr l ds) :=
 vY (fun _ hE=>cF hx (hv _ hE)) h
theorem aba {f : FuncId} {fo : Operand} {xs : Array Operand} {args : List Value} {first cap : Array Value} {a0 : Array TypeId} (hf : ev l fo = .func (.func f) first cap) (hxs : first.toList ++ xs.toList.map (ev l) ++ cap.toList = args) (hc : ∀ w',dD w w' → eI P f args w' fun u _=>u = v)
 (h : wpQuiet P ops (dD w) Q rest (Fr (l.set d v) ds)) : wpQuiet P ops (dD w) Q (Oper.mk (some d) (.call { callee:=.value fo,args:=xs,argTypes:=a0 }) ty pos after none :: rest) (Fr l ds):=by
 refine wpQuiet_step fun K hK=>?_;rw [if_pos (by simp [Region.wanted])];refine ⟨v,fun w' hw=>?_,?_⟩
 · unfold Oper.quietAt
   rw [fY,kD (hc w' hw).1 hf hxs _ rfl];refine ⟨rfl,(hc w' hw).2.mono ?_⟩;rintro e w'' ⟨u,rfl,hE,rfl⟩;exact ⟨rfl,hw.trans hE⟩
 · show K ((Fr l ds).put (some d) v)
   rw [iJ];exact hK _ h
theorem Rl {f : FuncId} {fo : Operand} {xs : Array Operand} {args : List Value} {first cap : Array Value} {a0 : Array TypeId} (hf : ev l fo = .func (.func f) first cap) (hxs : first.toList ++ xs.toList.map (ev l) ++ cap.toList = args) (hc : kV P f args v)
 (h : wpQuiet P ops (dD w) Q rest (Fr (l.set d v) ds)) : wpQuiet P ops (dD w) Q (Oper.mk (some d) (.call { callee:=.value fo,args:=xs,argTypes:=a0 }) ty pos after none :: rest) (Fr l ds) :=
 aba hf hxs (fun w' _=>hc w') h
end
/-! ### Code -/
section
variable {Q : Exit → Act → World → Prop} {w : World} {c c1 c2 : Code}
theorem aD {a : Act} (h : ∀ K : Act → World → Prop,(∀ a w,c2.wp P Q a w → K a w) → c1.wp P (Exit.then K Q) a w) : (Code.seq c1 c2).wp P Q a w:=wp_seq_k h
theorem kW {x : Operand} {b : Bool} (hx : ev l x = .bool b) (ht : b = true → c1.wp P Q (Fr l ds) w) (hf : b = false → c2.wp P Q (Fr l ds) w) : (Code.cond x c1 c2).wp P Q (Fr l ds) w :=
 wp_cond_split (by rw [fY,cL];exact hx) ht hf
theorem cO {x : Operand} {p : Prop} [Decidable p] (hx : ev l x = .bool (decide p)) (ht : p → c1.wp P Q (Fr l ds) w) (hf : ¬ p → c2.wp P Q (Fr l ds) w) : (Code.cond x c1 c2).wp P Q (Fr l ds) w :=
 kW hx (fun h=>ht (of_decide_eq_true h)) (fun h=>hf (of_decide_eq_false h))
theorem cK {x : Operand} (hx : ev l x = .bool true) (ht : c1.wp P Q (Fr l ds) w) : (Code.cond x c1 c2).wp P Q (Fr l ds) w:=kW hx (fun _=>ht) (fun h=>by cases h)
theorem jM {x : Operand} (hx : ev l x = .bool false) (hf : c2.wp P Q (Fr l ds) w) : (Code.cond x c1 c2).wp P Q (Fr l ds) w:=kW hx (fun h=>by cases h) (fun _=>hf)
def Res (P : Program) (l : List Value) (w : World) : ResultVar → Value → Prop
 | .tmp t,v=>l.getD t undef = v
 | .cell t T,v=>∃ a,l.getD t undef = .pointer (some a) ∧ vF P w T a v
theorem oF {r : ResultVar} {v : Value} (h : Res P l w r v) : (∃ t,r = .tmp t ∧ l[t]?.getD undef = v) ∨ (∃ t T a,r = .cell t T ∧ l[t]?.getD undef = .pointer (some a) ∧ (loadVar T a).run P w = .ok v w):=by
 cases r with
 | tmp t=>exact .inl ⟨t,rfl,by simpa [Res] using h⟩
 | cell t T =>
  obtain ⟨a,ha,hl⟩:=h;exact .inr ⟨t,T,a,rfl,by simpa using ha,hl⟩
theorem bS {fn : Func} {R : Ending → World → Prop} {r : ResultVar} {v : Value} (hr : fn.results = #[r]) (h : Res P l w r v) (hR : R (.returned v) w) : bodyPost P fn R .ret (Fr l) w:=by
 refine ⟨rfl,v,?_,hR⟩;unfold results;rw [hr];rcases oF h with ⟨t,rfl,h1⟩ | ⟨t,T,a,rfl,h1,h2⟩ <;> simp [*,asAddr]
theorem nV {fn : Func} {R : Ending → World → Prop} {r r' : ResultVar} {v v' : Value} (hr : fn.results = #[r,r']) (h : Res P l w r v) (h' : Res P l w r' v') (hR : R (.returned (.tuple #[v,v'])) w) : bodyPost P fn R .ret (Fr l) w:=by
 refine ⟨rfl,_,?_,hR⟩;unfold results;rw [hr];rcases oF h with ⟨t,rfl,h1⟩ | ⟨t,T,a,rfl,h1,h2⟩ <;> rcases oF h' with ⟨t',rfl,h1'⟩ | ⟨t',T',a',rfl,h1',h2'⟩ <;> simp [*,asAddr]
theorem agl {fn : Func} {R : Ending → World → Prop} {r r' r'' : ResultVar} {v v' v'' : Value} (hr : fn.results = #[r,r',r'']) (h : Res P l w r v) (h' : Res P l w r' v') (h'' : Res P l w r'' v'') (hR : R (.returned (.tuple #[v,v',v''])) w) : bodyPost P fn R .ret (Fr l) w:=by
 refine ⟨rfl,_,?_,hR⟩;unfold results;rw [hr];rcases oF h with ⟨t,rfl,h1⟩ | ⟨t,T,a,rfl,h1,h2⟩ <;> rcases oF h' with ⟨t',rfl,h1'⟩ | ⟨t',T',a',rfl,h1',h2'⟩ <;> rcases oF h'' with ⟨t'',rfl,h1''⟩ | ⟨t'',T'',a'',rfl,h1'',h2''⟩ <;> simp [*,asAddr]
end
end
/-! ### Numbers,loops,further values -/
theorem aN {x : Int} (h0 : -9223372036854775808 ≤ x) (h1 : x < 9223372036854775808) : IntKind.i64.wrap x = x:=by
 simp [IntKind.wrap,IntKind.bits,IntKind.signed];split <;> omega
theorem eM {x : Int} (h0 : 0 ≤ x) (h1 : x < 18446744073709551616) : IntKind.u64.wrap x = x:=by
 simp [IntKind.wrap,IntKind.bits,IntKind.signed];omega
def fK : List Value → List Nat → List Value → List Value
 | l,t :: ts,v :: vs=>fK (l.set t v) ts vs
 | l,_,_=>l
theorem Iq {l : List Value} {t : Nat} {ts : List Nat} {v : Value} {vs : List Value} : fK l (t :: ts) (v :: vs) = fK (l.set t v) ts vs:=rfl
theorem sW {l : List Value} {vs : List Value} : fK l [] vs = l:=by cases vs <;> rfl
theorem Kp {l : List Value} {t : Nat} : l.set t (l.getD t undef) = l:=by
 apply List.ext_getElem?;intro i;rw [List.getElem?_set];split
 · rename_i h;subst h
   split
   · rename_i h;simp [h]
   · rename_i h;simp at h;simp [h]
 · rfl
theorem wY : ∀ (ts : List Nat) (l : List Value),fK l ts (ts.map (l.getD · undef)) = l
 | [],l=>sW
 | t :: ts,l=>by
  simp only[List.map_cons,Iq,Kp];exact wY ts l
theorem rH {p : Nat → Prop} (h : ∃ n,p n) : ∃ n,p n ∧ ∀ m,p m → n ≤ m:=by
 obtain ⟨n,hn⟩:=h
 induction n using Nat.strongRecOn with
 | _ n ih =>
  by_cases hx : ∃ m,m < n ∧ p m
  · obtain ⟨m,hm,hp⟩:=hx;exact ih m hm hp
  · exact ⟨n,hn,fun m hm=>Nat.le_of_not_lt fun hlt=>hx ⟨m,hlt,hm⟩⟩
noncomputable def Cm (p : Nat → Prop) (h : ∃ n,p n) : Nat:=(rH h).choose
theorem Kq {p : Nat → Prop} (h : ∃ n,p n) : p (Cm p h):=(rH h).choose_spec.1
theorem Tp {p : Nat → Prop} (h : ∃ n,p n) {m : Nat} (hm : p m) : Cm p h ≤ m:=(rH h).choose_spec.2 m hm
section
variable {P : Program} {ds : List Deferred} {l : List Value}
end
/-! ### Parts of values,slices,new slices -/
section
variable {P : Program} {ds : List Deferred} {l : List Value} {x y : Operand} {T T' ty : TypeId} {k : IntKind} {m n r : Int}
theorem uM {b : Bool} (h : fR P T b) (w : World) : (isAgg T).run P w = .ok b w:=by
 obtain ⟨dd,hu,hd⟩:=h;unfold isAgg;rw [Sem.run_bind,run_underlying hu w];cases dd <;> simp_all [wV]
theorem eW {c : Nat} (h : dW P T c) (w : World) : (sizeOf T).run P w = .ok c w:=by
 obtain ⟨inf,hi,rfl⟩:=h;simp [sizeOf,typeInfo,hi]
theorem eK (cs : Array Value) : (Value.agg cs).cells = cs:=rfl
theorem gW {parts : Array (Nat × Operand)} {vs : Array (Nat × Value)} {v : Value} (hp : (parts.map fun (i,x)=>(i,ev l x)) = vs) (h : ∀ w,(Instr.build T vs).run P w = .ok v w) : gE P l (.build T parts) ty v:=fun w o ho _=>by
 have e : (Fr l).eval = ev l:=funext cL;subst hp;simp only[execOp,ho,e];rw [Sem.run_bind,h w];rfl
theorem dH {fs : Array Field} {places : Array (Nat × Nat)} {z : Value} {cells : Array Value} {vs : Array (Nat × Value)} (hu : P.underlying T = some (.struct fs)) (hz : lO P T z)
 (hpl : ∀ w,(fs.mapM fun f=>do pure (f.offset,← sizeOf f.type) : Sem (Array (Nat × Nat))).run P w = .ok places w) (hf : Instr.fill (places[·]?) z.cells vs.toList = some cells) (w : World) : (Instr.build T vs).run P w = .ok (.agg cells) w:=by
 obtain ⟨inf,hi,h0⟩:=hz;simp only[Instr.build,zeroValue,typeInfo];simp [hi,h0,run_underlying hu];have:=hpl w;simp at this;simp [this,hf]
theorem iA {E : TypeId} {n c : Nat} {z : Value} {cells : Array Value} {vs : Array (Nat × Value)} (hu : P.underlying T = some (.array n E)) (hz : lO P T z) (hc : dW P E c)
 (hf : Instr.fill (fun i=>some (i * c,c)) z.cells vs.toList = some cells) (w : World) : (Instr.build T vs).run P w = .ok (.agg cells) w:=by
 obtain ⟨inf,hi,h0⟩:=hz;simp only[Instr.build,zeroValue,typeInfo];simp [hi,h0,run_underlying hu,eW hc,hf]
theorem Cn {E : TypeId} {len c : Nat} {cs : Array Value} {v : Value} (hu : P.underlying T = some (.array len E)) (hA : fR P E false) (hc : dW P E c) (hx : ev l x = .agg cs) (hy : ev l y = .int k m) (h0 : 0 ≤ m) (h1 : m < len) (hv : cs[m.toNat * c]? = some v) :
 gE P l (.index T x y) ty v:=fun w o ho _=>by
 simp [execOp,ho,cL,hx,hy,Instr.index,asIntOf,run_underlying hu,h0,h1,part,uM hA,eW hc,hv]
theorem qF {E : TypeId} {len c : Nat} {cs us : Array Value} (hu : P.underlying T = some (.array len E)) (hA : fR P E true) (hc : dW P E c) (hx : ev l x = .agg cs) (hy : ev l y = .int k m) (h0 : 0 ≤ m) (h1 : m < len) (hv : cs.extract (m.toNat * c) (m.toNat * c + c) = us) :
 gE P l (.index T x y) ty (.agg us):=fun w o ho _=>by
 subst hv;simp [execOp,ho,cL,hx,hy,Instr.index,asIntOf,run_underlying hu,h0,h1,part,uM hA,eW hc]
theorem rI {s : ByteArray} {b : UInt8} (hu : P.underlying T = some .string) (hx : ev l x = .string s) (hy : ev l y = .int k m) (h0 : 0 ≤ m) (hb : s[m.toNat]? = some b) :
 gE P l (.index T x y) ty (.int .u8 b.toNat):=fun w o ho _=>by
 simp [execOp,ho,cL,hx,hy,Instr.index,asIntOf,run_underlying hu,h0,hb]
theorem lC {E : TypeId} {A : Option Addr} {len cap c : Nat} (hu : P.underlying T = some (.slice E)) (hc : dW P E c) {q : Nat} (hx : ev l x = .slice A len cap) (hy : ev l y = .int k m) (hq : m.toNat = q) (h0 : 0 ≤ m) (h1 : m ≤ cap) :
 gE P l (.slice T x none (some y) none) ty (.slice A q cap):=fun w o ho _=>by
 subst hq;have e : (if cap = 0 then A else Option.map (fun a=>a.add 0) A) = A:=by
  split
  · rfl
  · cases A <;> simp [Addr.add]
 have h1' : ¬ (m.toNat : Int) > cap:=by omega
 simp [execOp,ho,cL,hx,hy,Instr.sliceAt,Instr.slice,Instr.sliceBounds,Instr.sliceBound,asIntOf,run_underlying hu,h0,h1,eW hc];intro _;cases A <;> simp [Addr.add]
theorem jK {E : TypeId} {A A' : Option Addr} {len cap c : Nat} (hu : P.underlying T = some (.slice E)) (hc : dW P E c) {q : Nat} (hx : ev l x = .slice A len cap) (hy : ev l y = .int k m) (hq : m.toNat = q) (h0 : 0 ≤ m) (h1 : m ≤ len) (hA : (if cap = q then A else A.map (·.add (q * c))) = A') :
 gE P l (.slice T x (some y) none none) ty (.slice A' (len - q) (cap - q)):=fun w o ho _=>by
 subst hq;subst hA;simp [execOp,ho,cL,hx,hy,Instr.sliceAt,Instr.slice,Instr.sliceBounds,Instr.sliceBound,asIntOf,run_underlying hu,h0,h1,eW hc]
theorem Xd {s : ByteArray} (hu : P.underlying T = some .string) (hx : ev l x = .string s) (hy : ev l y = .int k m) (h0 : 0 ≤ m) (h1 : m ≤ s.size) :
 gE P l (.slice T x (some y) none none) ty (.string (s.extract m.toNat s.size)):=fun w o ho _=>by
 simp [execOp,ho,cL,hx,hy,Instr.sliceAt,Instr.slice,Instr.sliceBounds,Instr.sliceBound,asIntOf,run_underlying hu,h0,h1]
variable {ops : Array Oper} {Q : Exit → Act → World → Prop} {rest : List Oper} {d : Nat} {pos : String} {after : Array Edge} {w : World}
theorem lR {E : TypeId} {b : Nat} {kc : IntKind} {z : Value} (hu : P.underlying T = some (.slice E)) (hi : (P.info? E).map (fun i=>(i.size,i.bytes,i.zero)) = some (1,b,some z)) (hzc : z.cells = #[z]) {q q' : Nat} (hx : ev l x = .int k m) (hy : ev l y = .int kc n) (hq : m.toNat = q) (hq' : n.toNat = q') (h0 : 0 ≤ m) (h1 : m ≤ n) (hn : n ≤ 9223372036854775807) (hb : (b : Int) * n ≤ 281474976710656)
 (h : ∀ w' g,dD w w' → w.heap.size ≤ g → fX w' g (List.replicate q' z) E → wpList P ops Q rest (Fr (l.set d (.slice (some ⟨g,0,none⟩) q q')) ds) w') :
 wpList P ops Q (Oper.mk (some d) (.makeSlice T x y) ty pos after none :: rest) (Fr l ds) w:=by
 subst hq;subst hq';cases hq : P.info? E with
 | none=>rw [hq] at hi;cases hi
 | some i =>
  rw [hq] at hi;simp only[Option.map_some,Option.some.injEq,Prod.mk.injEq] at hi;obtain ⟨e1,e2,e3⟩:=hi;subst e2;have hr:=run_make (P:=P) w T E i z hu hq e3 k kc m n h0 h1 hb hn;have hc : madeCells z.cells (n.toNat * i.size) = (List.replicate n.toNat z).toArray:=by
   rw [e1,hzc,Nat.mul_one];apply Array.ext';rw [toList_madeCells_one]
  rw [hc] at hr;exact jU (fun o ho _=>by simp [execOp,ho,cL,hx,hy,hr]) (h _ _ ((dD.refl w).alloc _) (Nat.le_refl _) (gQ w _ E))
def Bh (w : World) (base : Nat) (e : TypeId) (size : Nat) (v : Value) (n : Nat) (xs : List Value) : Prop:=w.ownsRow base e size v n xs
structure Tq (w w' : World) (base : Nat) : Prop where
 os : w'.os = w.os
 tape : w'.tape = w.tape
 output : w'.output = w.output
 size : w.heap.size ≤ w'.heap.size
 block : ∀ k,k < base → w'.heap[k]? = w.heap[k]?
theorem dD.grew {w w' : World} (h : dD w w') {base : Nat} (hb : base ≤ w.heap.size) : Tq w w' base:=⟨h.os,h.tape,h.output,h.size,fun k hk=>Below.block h k (by omega)⟩
theorem fX.grew {w w' : World} {g base : Nat} {cs : List Value} {t : TypeId} (h : fX w g cs t) (hG : Tq w w' base) (hg : g < base) : fX w' g cs t:=(hG.block g hg).trans h
theorem dD.grown {w0 w w' : World} {base : Nat} (h : dD w0 w) (hG : Tq w w' base) (hb : w0.heap.size ≤ base) : dD w0 w' :=
 ⟨hG.os.trans h.os,hG.tape.trans h.tape,hG.output.trans h.output,Nat.le_trans h.size hG.size,fun k hk=>(hG.block k (by omega)).trans (Below.block h k hk)⟩
theorem Oj {w : World} {base : Nat} {e : TypeId} {size : Nat} {v : Value} {n : Nat} {xs : List Value} (h : w.ownsRow base e size v n xs) {w' : World} (hg : w.grownBy w' v.ownBlock) (hb : base ≤ w.heap.size) : Tq w w' base:=by
 refine ⟨hg.os,hg.tape,hg.output,hg.size,fun k hk=>hg.block k (by omega) fun hc=>?_⟩;rcases h.2 with ⟨rfl,_⟩ | ⟨g,cap,cur,rfl,hbg,_⟩
 · cases hc
 · simp [Value.ownBlock] at hc
   omega
theorem Bh.row {w : World} {base : Nat} {e : TypeId} {size : Nat} {v : Value} {n : Nat} {xs : List Value} (h : Bh w base e size v n xs) : (v = .slice none 0 0 ∧ n = 0 ∧ xs = []) ∨ ∃ g cap,v = .slice (some ⟨g,0,none⟩) n cap ∧ base ≤ g ∧ n ≤ cap ∧ cap ≤ maxLen ∧ g < w.heap.size ∧ jP w ⟨g,0,none⟩ xs:=by
 rcases h.2 with ⟨rfl,rfl⟩ | ⟨g,cap,cur,rfl,hbg,hg,h1,h2,h3,h4⟩
 · exact .inl ⟨rfl,rfl,List.eq_nil_of_length_eq_zero (by simpa using h.1)⟩
 · refine .inr ⟨g,cap,rfl,hbg,h1,h2,(Array.getElem?_eq_some_iff.1 hg).1,fun j u hj=>?_⟩
   rw [fQ,Nat.zero_add,cell_of_row w g j cur e (0,0) hg];rw [← h4,List.getElem?_take] at hj;split at hj
   · simpa using hj
   · cases hj
theorem Kr {s0 x0 : Operand} {base c b nn mm cap : Nat} {E : TypeId} {z v : Value} {xs news : List Value} {ad : Addr} {a0 : Array TypeId} (ha : a0 = #[T,T]) (hu : P.underlying T = some (.slice E)) (hi : (P.info? E).map (fun i=>(i.size,i.bytes,i.zero)) = some (c,b,some z)) (hz : z.cells.size = c) (hc : 0 < c)
 (hs : ev l s0 = v) (hown : Bh w base E c v nn xs) (hx : ev l x0 = .slice (some ad) mm cap) (hl : news.length = mm * c) (hrow : jP w ad news) (h1 : ∀ u ∈ news,u.oneCell' = true) (h63 : nn + mm ≤ 9223372036854775807) (hbytes : (nn + mm) * b ≤ 140737488355328) (hbase : base ≤ w.heap.size)
 (h : ∀ v' w',Bh w' base E c v' (nn + mm) (xs ++ news) → Tq w w' base → (v' = .slice none 0 0 ↔ v = .slice none 0 0 ∧ mm = 0) → wpList P ops Q rest (Fr (l.set d v') ds) w') :
 wpList P ops Q (Oper.mk (some d) (.call { callee:=.builtin .append,args:=#[s0,x0],argTypes:=a0 }) ty pos after none :: rest) (Fr l ds) w:=by
 subst ha;cases hq : P.info? E with
 | none=>rw [hq] at hi;cases hi
 | some i =>
  rw [hq] at hi;simp only[Option.map_some,Option.some.injEq,Prod.mk.injEq] at hi;obtain ⟨e1,e2,e3⟩:=hi;refine wpList_append_own w rfl s0 x0 T rfl base E i z c b hu hq e3 e1 e2 hz hc v nn xs (by rw [fY,cL];exact hs) hown ad mm cap news (by rw [fY,cL];exact hx) hl hrow h1 (by simpa [maxLen] using h63) hbytes hbase ?_;intro v' w' ho hg hn;show wpList P ops Q rest ((Fr l ds).put (some d) v') w'
  rw [iJ];exact h v' w' ho (Oj hown hg hbase) hn
end
section
variable {P : Program} {ds : List Deferred} {l : List Value} {x y : Operand} {T T' ty : TypeId} {k : IntKind} {m n r : Int}
theorem bT (hx : ev l x = .int k m) (hy : ev l y = .int k n) (h : m < n) : gE P l (.binOp .lss T x y T') ty (.bool true):=by
 have:=cJ (P:=P) (T:=T) (T':=T') (ty:=ty) hx hy;rwa [decide_eq_true h] at this
theorem fT (hx : ev l x = .int k m) (hy : ev l y = .int k n) (h : ¬ m < n) : gE P l (.binOp .lss T x y T') ty (.bool false):=by
 have:=cJ (P:=P) (T:=T) (T':=T') (ty:=ty) hx hy;rwa [decide_eq_false h] at this
theorem Ol (hx : ev l x = .int k m) (hy : ev l y = .int k n) (h : m ≤ n) : gE P l (.binOp .leq T x y T') ty (.bool true):=by
 have:=Xc (P:=P) (T:=T) (T':=T') (ty:=ty) hx hy;rwa [decide_eq_true h] at this
theorem Xe (hx : ev l x = .int k m) (hy : ev l y = .int k n) (h : ¬ m ≤ n) : gE P l (.binOp .leq T x y T') ty (.bool false):=by
 have:=Xc (P:=P) (T:=T) (T':=T') (ty:=ty) hx hy;rwa [decide_eq_false h] at this
theorem Co (hx : ev l x = .int k m) (hy : ev l y = .int k n) (h : n < m) : gE P l (.binOp .gtr T x y T') ty (.bool true):=by
 have:=sU (P:=P) (T:=T) (T':=T') (ty:=ty) hx hy;rwa [decide_eq_true h] at this
theorem yP (hx : ev l x = .int k m) (hy : ev l y = .int k n) (h : ¬ n < m) : gE P l (.binOp .gtr T x y T') ty (.bool false):=by
 have:=sU (P:=P) (T:=T) (T':=T') (ty:=ty) hx hy;rwa [decide_eq_false h] at this
theorem Xf (hx : ev l x = .int k m) (hy : ev l y = .int k n) (h : n ≤ m) : gE P l (.binOp .geq T x y T') ty (.bool true):=by
 have:=vI (P:=P) (T:=T) (T':=T') (ty:=ty) hx hy;rwa [decide_eq_true h] at this
theorem acX (hx : ev l x = .int k m) (hy : ev l y = .int k n) (h : ¬ n ≤ m) : gE P l (.binOp .geq T x y T') ty (.bool false):=by
 have:=vI (P:=P) (T:=T) (T':=T') (ty:=ty) hx hy;rwa [decide_eq_false h] at this
theorem pM (hx : ev l x = .int k m) (hy : ev l y = .int k n) (h : m = n) : gE P l (.binOp .eql T x y T') ty (.bool true):=by
 have:=vJ (P:=P) (T:=T) (T':=T') (ty:=ty) hx hy;rwa [decide_eq_true h] at this
theorem acY (hx : ev l x = .int k m) (hy : ev l y = .int k n) (h : ¬ m = n) : gE P l (.binOp .eql T x y T') ty (.bool false):=by
 have:=vJ (P:=P) (T:=T) (T':=T') (ty:=ty) hx hy;rwa [decide_eq_false h] at this
theorem gA {c : Operand} (hc : ev l c = .bool true) : gE P l (.pick c x y) ty (ev l x):=Io hc
theorem iT {c : Operand} (hc : ev l c = .bool false) : gE P l (.pick c x y) ty (ev l y):=Io hc
theorem acZ {op : Op} {v u : Value} (h : gE P l op ty v) (e : v = u) : gE P l op ty u:=e ▸ h
end
def oL : List Value → List Nat → (Nat → Value) → List Value
 | l,t :: ts,g=>oL (l.set t (g t)) ts g
 | l,[],_=>l
theorem Tr {l : List Value} {t : Nat} {ts : List Nat} {g : Nat → Value} : oL l (t :: ts) g = oL (l.set t (g t)) ts g:=rfl
theorem aeC {l : List Value} {g : Nat → Value} : oL l [] g = l:=rfl
theorem Ts : ∀ (ts : List Nat) (l : List Value),oL l ts (l.getD · undef) = l:=by
 intro ts;have key : ∀ (ts : List Nat) (l : List Value) (g : Nat → Value),(∀ t,l.set t (g t) = l) → oL l ts g = l:=by
  intro ts
  induction ts with
  | nil=>intro l g _;rfl
  | cons t ts ih=>intro l g h;rw [Tr,h t];exact ih l g h
 exact fun l=>key ts l _ fun t=>Kp
section
variable {P : Program} {ds : List Deferred} {l : List Value}
theorem bM {c : Code} {Q : Exit → Act → World → Prop} {w : World} (ts ss : List Nat) (I : Nat → List Value → World → Prop) (h0 : ∃ n,I n (ts.map (l.getD · undef)) w)
 (hr : ∀ n vs w,I n vs w → ∀ g : Nat → Value,c.wp P (Exit.then (fun a' w'=>∃ n' l',n' < n ∧ a' = Fr l' ∧ oL (fK l ts (ts.map (l'.getD · undef))) ss (l'.getD · undef) = l' ∧ I n' (ts.map (l'.getD · undef)) w') Q) (Fr (oL (fK l ts vs) ss g)) w) : (Code.loop c).wp P Q (Fr l) w:=by
 obtain ⟨n0,h0⟩:=h0
 let J : Nat → Act → World → Prop:=fun n a w=>∃ vs g,a = Fr (oL (fK l ts vs) ss g) ∧ I n vs w
 have hJ0 : ∃ n,J n (Fr l) w:=⟨n0,_,(l.getD · undef),by rw [wY,Ts],h0⟩
 let μ : Act → World → Nat:=fun a w=>@dite _ (∃ n,J n a w) (Classical.propDecidable _) (fun h=>Cm (fun n=>J n a w) h) (fun _=>0)
 refine wp_loop (fun a w=>∃ n,J n a w) μ hJ0 ?_;intro a w hI;obtain ⟨vs,g,rfl,hIv⟩:=Kq hI;refine Code.wp_mono ?_ (hr _ vs w hIv g);intro e a' w' hq;cases e with
 | normal =>
  obtain ⟨n',l',hlt,rfl,he,hI'⟩:=hq;have hJ : J n' (Fr l') w':=⟨_,(l'.getD · undef),by rw [he],hI'⟩
  refine ⟨⟨n',hJ⟩,?_⟩;have e1 : μ (Fr l') w' = Cm (fun n=>J n (Fr l') w') ⟨n',hJ⟩:=by simp only[μ];rw [dif_pos ⟨n',hJ⟩]
  have e2 : μ (Fr (oL (fK l ts vs) ss g)) w = Cm (fun n=>J n (Fr (oL (fK l ts vs) ss g)) w) hI:=by simp only[μ];rw [dif_pos hI]
  rw [e1,e2];exact Nat.lt_of_le_of_lt (Tp _ hJ) hlt
 | exit id=>exact hq
 | goto id=>exact hq
 | ret=>exact hq
 | panic ch=>exact hq
 | outgrown=>exact hq
end
section
variable {P : Program} {ds : List Deferred} {l : List Value} {ops : Array Oper} {Q : Exit → Act → World → Prop} {w : World} {rest : List (Oper × Bool)} {d : Nat} {op : Op} {ty : TypeId} {pos : String} {after : Array Edge} {v : Value}
theorem vL (hr : gE P l op ty v) (h : dC P ops Q rest (Fr (l.set d v) ds) w) : dC P ops Q ((Oper.mk (some d) op ty pos after none,true) :: rest) (Fr l ds) w:=by
 refine ⟨v,.inl ⟨by simp [Region.wanted],fun w=>hr w _ rfl rfl⟩,?_⟩;show dC P ops Q rest ((Fr l ds).put (some d) v) w
 rw [iJ];exact h
theorem aeD (h : Q .normal (Fr l ds) w) : dC P ops Q [] (Fr l ds) w:=h
theorem ac0 {o : Oper} (h : wpList P ops (Exit.then (dC P ops Q rest) Q) [o] (Fr l ds) w) : dC P ops Q ((o,false) :: rest) (Fr l ds) w:=h
theorem eE {Q : Exit → Act → World → Prop} (h : ∀ c (t : Array Value) ds (t' : Array Value) w,Q (.panic c) { tmps:=t,defers:=ds } w → Q (.panic c) { tmps:=t',defers:=ds } w) : ∀ c d v a w,Q (.panic c) (Act.put a d v) w → Q (.panic c) a w:=by
 intro c d v a w hq;cases d with
 | none=>exact hq
 | some d=>exact h c _ _ _ w hq
end
end Go.Lith
namespace Go.Lith
/-! ### Digits -/
def val (B : Nat) : List Nat → Nat
 | []=>0
 | x :: xs=>x + B * val B xs
def trim : List Nat → List Nat
 | []=>[]
 | x :: xs=>if trim xs = [] ∧ x = 0 then [] else x :: trim xs
def dB (B : Nat) (xs : List Nat) : Prop:=∀ x ∈ xs,x < B
theorem fD (B : Nat) : ∀ xs ys : List Nat,val B (xs ++ ys) = val B xs + B ^ xs.length * val B ys
 | [],ys=>by simp [val]
 | x :: xs,ys=>by simp only[List.cons_append,val,fD B xs ys,List.length_cons,Nat.pow_succ];grind
theorem iN {B : Nat} : ∀ {xs : List Nat},dB B xs → val B xs < B ^ xs.length
 | [],_=>by simp [val]
 | x :: xs,h=>by
  have h1 : x < B:=h x (by simp);have h2:=iN (xs:=xs) fun y hy=>h y (by simp [hy]);simp only[val,List.length_cons,Nat.pow_succ];have h3 : val B xs + 1 ≤ B ^ xs.length:=h2;have:=Nat.mul_le_mul_left B h3
  grind
theorem sX (B : Nat) : ∀ xs : List Nat,val B (trim xs) = val B xs
 | []=>rfl
 | x :: xs=>by
  have ih:=sX B xs;simp only[trim];split
  · rename_i h;rw [h.1] at ih;simp only[val] at ih ⊢;rw [← ih,h.2];simp
  · simp only[val,ih]
theorem iU : ∀ xs : List Nat,trim xs = xs.take (trim xs).length
 | []=>rfl
 | x :: xs=>by
  simp only[trim];split
  · rfl
  · simp only[List.length_cons,List.take_succ_cons];rw [← iU xs]
theorem dB.take {B : Nat} {xs : List Nat} (h : dB B xs) (n : Nat) : dB B (xs.take n):=fun x hx=>h x (List.mem_of_mem_take hx)
theorem dB.drop {B : Nat} {xs : List Nat} (h : dB B xs) (n : Nat) : dB B (xs.drop n):=fun x hx=>h x (List.mem_of_mem_drop hx)
theorem dB.trim {B : Nat} {xs : List Nat} (h : dB B xs) : dB B (trim xs):=by rw [iU];exact h.take _
theorem dB.append {B : Nat} {xs ys : List Nat} (h : dB B xs) (k : dB B ys) : dB B (xs ++ ys):=fun x hx=>by
 rcases List.mem_append.1 hx with h' | h'
 · exact h x h'
 · exact k x h'
theorem Ks (B : Nat) : dB B []:=fun _ h=>by cases h
theorem Tt {B x : Nat} {xs : List Nat} (hx : x < B) (h : dB B xs) : dB B (x :: xs):=fun y hy=>by
 rcases List.mem_cons.1 hy with rfl | h'
 · exact hx
 · exact h y h'
theorem dB.set {B : Nat} {xs : List Nat} (h : dB B xs) {i x : Nat} (hx : x < B) : dB B (xs.set i x):=fun y hy=>by
 rcases List.mem_or_eq_of_mem_set hy with h' | rfl
 · exact h y h'
 · exact hx
theorem dB.get {B : Nat} {xs : List Nat} (h : dB B xs) {i x : Nat} (hi : xs[i]? = some x) : x < B:=h x (List.mem_of_getElem? hi)
def fN (xs : List Nat) : Prop:=trim xs = xs
theorem Gk : ∀ xs : List Nat,trim (trim xs) = trim xs
 | []=>rfl
 | x :: xs=>by
  have ih:=Gk xs;simp only[trim];split
  · rfl
  · rename_i h;simp only[trim,ih];rw [if_neg h]
theorem wZ (xs : List Nat) : fN (trim xs):=Gk xs
theorem fN.tail {x : Nat} {xs : List Nat} (h : fN (x :: xs)) : fN xs:=by
 unfold fN at *
 simp only[trim] at h;split at h
 · cases h
 · simpa using h
theorem Bm {B : Nat} (hB : 0 < B) : ∀ {xs : List Nat},fN xs → xs ≠ [] → 0 < val B xs
 | [],_,h=>absurd rfl h
 | x :: xs,ht,_=>by
  simp only[val];by_cases hx : xs = []
  · subst hx
    have : x ≠ 0:=by
     rintro rfl;simp [fN,trim] at ht
    omega
  · have:=Nat.mul_pos hB (Bm hB ht.tail hx)
    omega
theorem pF {B : Nat} (hB : 1 < B) : ∀ {xs ys : List Nat},dB B xs → dB B ys → fN xs → fN ys → val B xs = val B ys → xs = ys
 | [],[],_,_,_,_,_=>rfl
 | [],y :: ys,_,_,_,hy,h=>by have:=Bm (B:=B) (by omega) hy (by simp);rw [← h] at this;simp [val] at this
 | x :: xs,[],_,_,hx,_,h=>by have:=Bm (B:=B) (by omega) hx (by simp);rw [h] at this;simp [val] at this
 | x :: xs,y :: ys,hx,hy,tx,ty,h=>by
  simp only[val] at h;have h1 : x < B:=hx x (by simp);have h2 : y < B:=hy y (by simp);have e1 : x = y:=by
   have:=congrArg (· % B) h;simpa [Nat.add_mul_mod_self_left,Nat.mod_eq_of_lt h1,Nat.mod_eq_of_lt h2] using this
  subst e1;have e2 : val B xs = val B ys:=by
   have : B * val B xs = B * val B ys:=by omega
   exact Nat.eq_of_mul_eq_mul_left (by omega) this
  rw [pF hB (fun z hz=>hx z (by simp [hz])) (fun z hz=>hy z (by simp [hz])) tx.tail ty.tail e2]
def Gl (B : Nat) : Nat → Nat → List Nat
 | 0,_=>[]
 | f + 1,n=>if n = 0 then [] else (n % B) :: Gl B f (n / B)
def digs (B n : Nat) : List Nat:=Gl B n n
theorem rJ {B : Nat} (hB : 1 < B) : ∀ (f n : Nat),n ≤ f → val B (Gl B f n) = n ∧ dB B (Gl B f n) ∧ fN (Gl B f n)
 | 0, n, h => by
  obtain rfl : n = 0 := by omega
  exact ⟨rfl,Ks B,rfl⟩
 | f + 1,n,h=>by
  simp only[Gl];split
  · rename_i h0;exact ⟨by simp [val,h0],Ks B,rfl⟩
  · rename_i h0
    have hlt : n / B ≤ f:=by
     have:=Nat.div_lt_self (Nat.pos_of_ne_zero h0) hB;omega
    obtain ⟨h1,h2,h3⟩:=rJ hB f (n / B) hlt;refine ⟨by simp only[val,h1];exact Nat.mod_add_div n B,Tt (Nat.mod_lt _ (by omega)) h2,?_⟩;unfold fN at *
    simp only[trim,h3];rw [if_neg];rintro ⟨h4,h5⟩;rw [h4] at h1;simp only[val] at h1;have:=Nat.mod_add_div n B;rw [h5,← h1] at this;omega
theorem oM {B : Nat} (hB : 1 < B) (n : Nat) : val B (digs B n) = n:=(rJ hB n n (Nat.le_refl _)).1
theorem qG {B : Nat} (hB : 1 < B) (n : Nat) : dB B (digs B n):=(rJ hB n n (Nat.le_refl _)).2.1
theorem nW {B : Nat} (hB : 1 < B) (n : Nat) : fN (digs B n):=(rJ hB n n (Nat.le_refl _)).2.2
theorem rK {B : Nat} (hB : 1 < B) {xs : List Nat} (h : dB B xs) {n : Nat} (hv : val B xs = n) : trim xs = digs B n :=
 pF hB h.trim (qG hB n) (wZ xs) (nW hB n) (by rw [sX,oM hB,hv])
theorem sY {B n : Nat} (hB : 1 < B) : digs B n = [] ↔ n = 0:=by
 constructor
 · intro h;rw [← oM hB n,h];rfl
 · rintro rfl;rfl
theorem dY {B n k : Nat} (hB : 1 < B) (h : n < B ^ k) : (digs B n).length ≤ k:=by
 rcases Nat.lt_or_ge k (digs B n).length with hlt | hge
 · exfalso
   have hne : (digs B n) ≠ []:=by intro h';rw [h'] at hlt;simp at hlt
   -- the greatest digit is not 0
   have key : ∀ xs : List Nat,fN xs → xs ≠ [] → B ^ (xs.length - 1) ≤ val B xs:=by
    intro xs
    induction xs with
    | nil=>intro _ h;exact absurd rfl h
    | cons x xs ih =>
     intro ht _;by_cases hx : xs = []
     · subst hx
       have:=Bm (B:=B) (by omega) ht (by simp);simp [val] at this ⊢;omega
     · have:=ih ht.tail hx
       have h2 : xs.length ≠ 0:=by simpa using hx
       simp only[List.length_cons,val,Nat.add_sub_cancel];have e : xs.length = (xs.length - 1) + 1:=by omega
       rw [e,Nat.pow_succ];have:=Nat.mul_le_mul_left B this
       grind
   have:=key _ (nW hB n) hne;rw [oM hB] at this;have h3 : B ^ k ≤ B ^ ((digs B n).length - 1):=Nat.pow_le_pow_right (by omega) (by omega);omega
 · exact hge
/-! ### Numbers as values -/
def gT (n : Int) : Bool:=decide (n < 0)
def jY (n : Nat) : List UInt8:=(digs 256 n).reverse.map UInt8.ofNat
def nX (n : Int) : ByteArray:=⟨(jY n.natAbs).toArray⟩
def W (n : Int) : Value:=.agg #[.bool (gT n),.string (nX n)]
def Bd (k : Nat) (n : Int) : Prop:=n.natAbs < 2 ^ k
theorem Bd.mono {a b : Nat} {n : Int} (h : Bd a n) (hab : a ≤ b) : Bd b n:=Nat.lt_of_lt_of_le h (Nat.pow_le_pow_right (by omega) hab)
theorem Bd.neg {a : Nat} {n : Int} (h : Bd a n) : Bd a (-n):=by unfold Bd at *;rwa [Int.natAbs_neg]
theorem Bd.add {a b : Nat} {m n : Int} (h : Bd a m) (k : Bd b n) : Bd (max a b + 1) (m + n):=by
 unfold Bd at *
 have h1 : (m + n).natAbs ≤ m.natAbs + n.natAbs:=Int.natAbs_add_le m n;have h2 : 2 ^ a ≤ 2 ^ max a b:=Nat.pow_le_pow_right (by omega) (Nat.le_max_left a b);have h3 : 2 ^ b ≤ 2 ^ max a b:=Nat.pow_le_pow_right (by omega) (Nat.le_max_right a b);rw [Nat.pow_succ];omega
theorem Bd.sub {a b : Nat} {m n : Int} (h : Bd a m) (k : Bd b n) : Bd (max a b + 1) (m - n):=by rw [Int.sub_eq_add_neg];exact h.add k.neg
theorem Bd.mul {a b : Nat} {m n : Int} (h : Bd a m) (k : Bd b n) : Bd (a + b) (m * n):=by
 unfold Bd at *
 rw [Int.natAbs_mul,Nat.pow_add];exact Nat.mul_lt_mul_of_lt_of_lt h k
theorem Bd.of_i64 {n : Int} (h0 : -9223372036854775808 ≤ n) (h1 : n ≤ 9223372036854775807) : Bd 64 n:=by
 unfold Bd;omega
theorem Rm (k : Nat) : Bd k 0:=by unfold Bd;exact Nat.two_pow_pos k
theorem Gm (n : Int) : (nX n).size = (digs 256 n.natAbs).length:=by simp [nX,ByteArray.size,jY]
theorem Ir {k : Nat} {n : Int} (h : Bd k n) : (nX n).size ≤ k:=by
 rw [Gm];refine dY (by omega) (Nat.lt_of_lt_of_le h ?_);rw [show 256 = 2 ^ 8 from rfl,← Nat.pow_mul];exact Nat.pow_le_pow_right (by omega) (by omega)
theorem Kt {m n : Nat} (h : jY m = jY n) : m = n:=by
 have key : ∀ k,val 256 (((jY k).map UInt8.toNat).reverse) = k:=by
  intro k;have e : ((jY k).map UInt8.toNat).reverse = digs 256 k:=by
   unfold jY;rw [List.map_map,← List.map_reverse,List.reverse_reverse];have : ∀ x ∈ digs 256 k,(UInt8.toNat ∘ UInt8.ofNat) x = x:=by
    intro x hx;have:=qG (B:=256) (by omega) k x hx;simp;omega
   exact (List.map_congr_left this).trans (List.map_id' _)
  rw [e,oM (by omega)]
 rw [← key m,← key n,h]
theorem aeE {m n : Int} (h : W m = W n) : m = n:=by
 simp only[W,Value.agg.injEq,Array.mk.injEq,List.cons.injEq,Value.bool.injEq,Value.string.injEq,and_true] at h;obtain ⟨h1,h2⟩:=h;have h3 : m.natAbs = n.natAbs:=by
  have : jY m.natAbs = jY n.natAbs:=by simpa [nX] using h2
  exact Kt this
 unfold gT at h1;have : (m < 0) ↔ (n < 0):=by simpa using h1
 omega
end Go.Lith
namespace Go.Lith
structure cQ (w : World) (A : Option Addr) (n cap : Nat) (xs : List Nat) : Prop where
 eq : n = xs.length
 row : ∀ (i x : Nat),xs[i]? = some x → ∃ a,A = some a ∧ w.cell? (a.add i) = some (.int .u64 (x : Int))
 le : xs.length ≤ cap
 cap : cap ≤ 9223372036854775807
 len : xs.length ≤ 17592186044416
 digs : dB 4294967296 xs
section
variable {w : World} {A : Option Addr} {n cap : Nat} {xs : List Nat}
theorem cQ.ext {w' : World} (h : cQ w A n cap xs) (hE : dD w w') : cQ w' A n cap xs :=
 ⟨h.eq,fun i x hi=>let ⟨a,e,hc⟩:=h.row i x hi;⟨a,e,hE.cell hc⟩,h.le,h.cap,h.len,h.digs⟩
theorem cQ.take (h : cQ w A n cap xs) (k : Nat) : cQ w A (xs.take k).length cap (xs.take k) :=
 ⟨rfl,fun i x hi=>h.row i x (by rw [List.getElem?_take] at hi;split at hi;exact hi;cases hi),Nat.le_trans (by simp;omega) h.le,h.cap,Nat.le_trans (by simp;omega) h.len,h.digs.take k⟩
theorem cQ.get (h : cQ w A n cap xs) {i : Nat} (hi : i < xs.length) : ∃ a,A = some a ∧ w.cell? (a.add i) = some (.int .u64 ((xs[i] : Nat) : Int)) ∧ xs[i] < 4294967296 :=
 let ⟨a,e,hc⟩:=h.row i xs[i] (List.getElem?_eq_getElem hi);⟨a,e,hc,h.digs _ (List.getElem_mem hi)⟩
theorem cQ.as (h : cQ w A n cap xs) {ys : List Nat} (e : xs = ys) : cQ w A n cap ys:=e ▸ h
end
theorem lS : ∀ ys : List Nat,trim (ys ++ [0]) = trim ys
 | []=>by simp [trim]
 | y :: ys=>by simp only[List.cons_append,trim,lS ys]
theorem mS {x : Nat} (hx : x ≠ 0) : ∀ ys : List Nat,trim (ys ++ [x]) = ys ++ [x]
 | []=>by simp [trim,hx]
 | y :: ys=>by simp only[List.cons_append,trim,mS hx ys];rw [if_neg (by simp)]
theorem yQ {xs : List Nat} {k : Nat} (hk : 0 < k) (h : k - 1 < xs.length) : xs.take k = xs.take (k - 1) ++ [xs[k - 1]]:=by
 have e : k = (k - 1) + 1:=by omega
 conv=>lhs;rw [e]
 rw [List.take_succ_eq_append_getElem h]
theorem Tu {xs : List Nat} {k : Nat} (hk : 0 < k) (h : k - 1 < xs.length) (h0 : ((xs[k-1] : Nat) : Int) = 0) (ht : trim (xs.take k) = trim xs) : trim (xs.take (k - 1)) = trim xs:=by
 rw [← ht,yQ hk h,show xs[k-1] = 0 by omega,lS]
theorem Xg {xs : List Nat} {k : Nat} (hk : 0 < k) (h : k - 1 < xs.length) (h0 : ¬ ((xs[k-1] : Nat) : Int) = 0) (ht : trim (xs.take k) = trim xs) : k = (trim xs).length:=by
 rw [← ht,yQ hk h,mS (by omega)];simp;omega
theorem Xh {xs : List Nat} (ht : trim (xs.take 0) = trim xs) : 0 = (trim xs).length:=by rw [← ht];rfl
/-! ### Words in a block -/
abbrev jF (x : Nat) : Value:=.int .u64 (x : Int)
theorem eX {os : List Nat} {i d : Nat} (hi : i < os.length) : bG (os.map jF) i [jF d] = (os.set i d).map jF:=by
 unfold bG;rw [List.set_eq_take_append_cons_drop,if_pos hi];simp [List.map_take,List.map_drop]
theorem fC (n : Nat) : List.replicate n (Value.int .u64 0) = (List.replicate n 0).map jF:=by simp [jF]
theorem fX.word {w : World} {g : Nat} {os : List Nat} {t : TypeId} (h : fX w g (os.map jF) t) {i : Nat} (hi : i < os.length) : w.cell? ⟨g,i,none⟩ = some (.int .u64 ((os[i] : Nat) : Int)) :=
 h.cell (by simp [hi])
theorem fX.nat {w : World} {g : Nat} {os : List Nat} {t : TypeId} (h : fX w g (os.map jF) t) (hd : dB 4294967296 os) {n : Nat} (hn : n = os.length) (hl : n ≤ 17592186044416) : cQ w (some ⟨g,0,none⟩) n n os :=
 ⟨hn,fun i x hi=>⟨_,rfl,by rw [fQ,Nat.zero_add];exact h.cell (by simp [hi])⟩,by omega,by omega,by omega,hd⟩
def fI (n : Nat) (v : Value) (w : World) : Prop:=∃ A cap,v = .slice A (digs 4294967296 n).length cap ∧ cQ w A (digs 4294967296 n).length cap (digs 4294967296 n)
theorem fI.of_trim {w : World} {A : Option Addr} {xs : List Nat} {k cap n : Nat} (h : cQ w A k cap xs) (hv : val 4294967296 xs = n) : fI n (.slice A (trim xs).length cap) w:=by
 have e : trim xs = digs 4294967296 n:=rK (by omega) h.digs hv;refine ⟨A,cap,by rw [e],?_⟩;have h':=h.take (trim xs).length;rw [← iU,e] at h';exact h'
def xA (w : World) (v : Value) : Prop:=∀ a n c,v = .slice (some a) n c → w.heap.size ≤ a.block
theorem xA.of_blk {w : World} {g off n c : Nat} (h : w.heap.size ≤ g) : xA w (.slice (some ⟨g,off,none⟩) n c):=fun a n' c' e=>by cases e;exact h
theorem uN (a : Addr) (i : Nat) : (a.add i).block = a.block:=by unfold Addr.add;split <;> rfl
theorem Wz.cell {w w' : World} {g : Nat} (h : Wz w w' g) {a : Addr} (hne : a.block ≠ g) : w'.cell? a = w.cell? a:=by
 unfold World.cell?;rw [h.block _ hne]
theorem cQ.chg {w w' : World} {g n cap : Nat} {A : Option Addr} {xs : List Nat} (h : cQ w A n cap xs) (hC : Wz w w' g) (hne : ∀ a,A = some a → a.block ≠ g) : cQ w' A n cap xs :=
 ⟨h.eq,fun i x hi=>let ⟨a,e,hc⟩:=h.row i x hi;⟨a,e,by rw [hC.cell (by rw [uN];exact hne a e)];exact hc⟩,h.le,h.cap,h.len,h.digs⟩
/-! ### Sums of digits -/
theorem kS {B : Nat} : ∀ {os : List Nat} {j d : Nat} (hj : j < os.length),val B (os.set j d) + B ^ j * os[j] = val B os + B ^ j * d
 | x :: xs,0,d,_=>by simp [val];omega
 | x :: xs,j + 1,d,h=>by
  have ih:=kS (B:=B) (os:=xs) (j:=j) (d:=d) (by simpa using h);simp only[List.set_cons_succ,val,List.getElem_cons_succ,Nat.pow_succ];have:=congrArg (B * ·) ih;simp only[Nat.mul_add] at this
  grind
theorem eO (B n : Nat) : val B (List.replicate n 0) = 0:=by
 induction n with
 | zero=>rfl
 | succ n ih=>simp [List.replicate_succ,val,ih]
theorem cW {B : Nat} {xs : List Nat} {i : Nat} (hi : i < xs.length) : val B (xs.take (i + 1)) = val B (xs.take i) + B ^ i * xs[i]:=by
 rw [List.take_succ_eq_append_getElem hi,fD,List.length_take,Nat.min_eq_left (by omega)];simp [val]
theorem lD {B : Nat} {xs : List Nat} {i : Nat} (hi : xs.length ≤ i) : val B (xs.take i) = val B xs:=by rw [List.take_of_length_le hi]
theorem jL {os : List Nat} {i d : Nat} : (os.set i d).drop (i + 1) = os.drop (i + 1):=by
 apply List.ext_getElem?;intro j;simp only[List.getElem?_drop];rw [List.getElem?_set_ne (by omega)]
theorem gN {os : List Nat} {i n : Nat} (h : os.drop i = List.replicate n 0) (hi : i < os.length) : os[i] = 0 ∧ os.drop (i + 1) = List.replicate (n - 1) 0:=by
 rw [List.drop_eq_getElem_cons hi] at h;cases n with
 | zero=>cases h
 | succ n=>simp only[List.replicate_succ,List.cons.injEq] at h;exact ⟨h.1,by simpa using h.2⟩
theorem Ku {B : Nat} {os : List Nat} {i d c c' s t T : Nat} (hi : i < os.length) (hs : os[i] + s + c = d + B * c') (hT : val B os + B ^ i * c = T) (ht : T + B ^ i * s = t) :
 val B (os.set i d) + B ^ (i + 1) * c' = t:=by
 have h1:=kS (B:=B) (d:=d) hi;have h2:=congrArg (B ^ i * ·) hs;simp only[Nat.mul_add] at h2;rw [Nat.pow_succ]
 grind
/-! ### Order -/
def Xi (a b : Nat) : Int:=if a < b then -1 else if b < a then 1 else 0
theorem Fu {B : Nat} (hB : 1 < B) {xs ys : List Nat} {k : Nat} (hx : dB B xs) (hlx : k < xs.length) (hly : k < ys.length) (hd : xs.drop (k + 1) = ys.drop (k + 1)) (h : xs[k] < ys[k]) : val B xs < val B ys:=by
 have e1 : val B xs = val B (xs.take (k + 1)) + B ^ (k + 1) * val B (xs.drop (k + 1)):=by
  conv=>lhs;rw [← List.take_append_drop (k + 1) xs]
  rw [fD,List.length_take,Nat.min_eq_left (by omega)]
 have e2 : val B ys = val B (ys.take (k + 1)) + B ^ (k + 1) * val B (ys.drop (k + 1)):=by
  conv=>lhs;rw [← List.take_append_drop (k + 1) ys]
  rw [fD,List.length_take,Nat.min_eq_left (by omega)]
 rw [e1,e2,hd,cW hlx,cW hly];have h1:=iN (hx.take k);rw [List.length_take,Nat.min_eq_left (by omega)] at h1;have h2 : B ^ k * (xs[k] + 1) ≤ B ^ k * ys[k]:=Nat.mul_le_mul_left _ h;rw [Nat.mul_add] at h2;omega
theorem mH {B : Nat} (hB : 1 < B) {xs ys : List Nat} (hx : dB B xs) (hy : dB B ys) (ty : fN ys) (h : xs.length < ys.length) : val B xs < val B ys:=by
 rcases Nat.lt_or_ge (val B xs) (val B ys) with hlt | hge
 · exact hlt
 · exfalso
   have e : ys = digs B (val B ys):=pF hB hy (qG hB _) ty (nW hB _) (by rw [oM hB]);have h1 : val B ys < B ^ xs.length:=Nat.lt_of_le_of_lt hge (iN hx);have h2:=dY hB h1;rw [← e] at h2;omega
/-! ### The machine's numbers -/
theorem fO (x : Int) : IntKind.u64.wrap x = x % 18446744073709551616:=by simp [IntKind.wrap,IntKind.bits,IntKind.signed]
theorem mX {s : Int} (h0 : 0 ≤ s) (h1 : s < 18446744073709551616) : IntKind.u64.wrap ((BitVec.ofInt IntKind.u64.bits s &&& BitVec.ofInt IntKind.u64.bits 4294967295).toNat : Int) = s % 4294967296:=by
 obtain ⟨n,rfl⟩:=Int.eq_ofNat_of_zero_le h0;have hn : n < 18446744073709551616:=by omega
 have e : (BitVec.ofInt 64 (n : Int) &&& BitVec.ofInt 64 4294967295).toNat = n % 4294967296:=by
  rw [BitVec.toNat_and];have e1 : (BitVec.ofInt 64 (n : Int)).toNat = n:=by simp [BitVec.toNat_ofInt];omega
  have e2 : (BitVec.ofInt 64 4294967295).toNat = 2 ^ 32 - 1:=by decide
  rw [e1,e2,Nat.and_two_pow_sub_one_eq_mod]
 show IntKind.u64.wrap ((BitVec.ofInt 64 (n : Int) &&& BitVec.ofInt 64 4294967295).toNat : Int) = _
 rw [e,eM (by omega) (by omega)];omega
theorem Gn {s : Int} (h0 : 0 ≤ s) : s.fdiv (2 ^ (min (32 : Int).toNat IntKind.u64.bits)) = s / 4294967296:=by
 show s.fdiv (2 ^ 32) = _
 rw [Int.fdiv_eq_ediv_of_nonneg _ (by decide)];rfl
theorem acx {s : Int} (h0 : 0 ≤ s) : s.fdiv (2 ^ (min (63 : Int).toNat IntKind.u64.bits)) = s / 9223372036854775808:=by
 show s.fdiv (2 ^ 63) = _
 rw [Int.fdiv_eq_ediv_of_nonneg _ (by decide)];rfl
/-! ### Addresses of words -/
theorem lT {a : Addr} {m : Int} {q : Nat} (h : m.toNat = q) : a.add (m.toNat * 1) = a.add q:=by rw [h,Nat.mul_one]
theorem cA {a : Addr} {m : Int} {c q : Nat} (h : m.toNat = q) : a.add (m.toNat * c) = a.add (q * c):=by rw [h]
theorem fA {g : Nat} {m : Int} {q : Nat} (h : m.toNat = q) : (⟨g,0,none⟩ : Addr).add (m.toNat * 1) = ⟨g,q,none⟩:=by rw [h,Nat.mul_one,fQ,Nat.zero_add]
theorem yR {g : Nat} {m : Int} {c q : Nat} (h : m.toNat = q) : (⟨g,0,none⟩ : Addr).add (m.toNat * c) = ⟨g,q * c,none⟩:=by rw [h,fQ,Nat.zero_add]
theorem cQ.at {w : World} {a : Addr} {xs : List Nat} {n cap : Nat} (h : cQ w (some a) n cap xs) {i : Nat} (hi : i < xs.length) : w.cell? (a.add i) = some (.int .u64 ((xs[i] : Nat) : Int)):=by
 obtain ⟨a',e,hc⟩:=h.row i xs[i] (List.getElem?_eq_getElem hi);cases e;exact hc
/-! ### Rounds -/
theorem Xj {xs ys : List Nat} {k : Nat} (hx : dB 4294967296 xs) (hk : 0 < k) (hlx : k - 1 < xs.length) (hly : k - 1 < ys.length) (hd : xs.drop k = ys.drop k) (h : ((xs[k-1] : Nat) : Int) < ((ys[k-1] : Nat) : Int)) : val 4294967296 xs < val 4294967296 ys :=
 Fu (by omega) hx hlx hly (by rw [show k - 1 + 1 = k by omega];exact hd) (by omega)
theorem Tv {xs ys : List Nat} {k : Nat} (hk : 0 < k) (hlx : k - 1 < xs.length) (hly : k - 1 < ys.length) (hd : xs.drop k = ys.drop k) (h1 : ¬ ((xs[k-1] : Nat) : Int) < ((ys[k-1] : Nat) : Int)) (h2 : ¬ ((ys[k-1] : Nat) : Int) < ((xs[k-1] : Nat) : Int)) : xs.drop (k - 1) = ys.drop (k - 1):=by
 rw [List.drop_eq_getElem_cons hlx,List.drop_eq_getElem_cons hly,show k - 1 + 1 = k by omega,hd,show xs[k-1] = ys[k-1] by omega]
theorem uO {os xs ys : List Nat} {i c s : Nat} (hi : i < xs.length) (hlo : os.length = xs.length + 1) (hv : val 4294967296 os + 4294967296 ^ i * c = val 4294967296 (xs.take i) + val 4294967296 (ys.take i)) (hz : os.drop i = List.replicate (xs.length + 1 - i) 0) (hd : dB 4294967296 os) (hc : c ≤ 1)
 (hs : s = xs[i] + c + ys[i]?.getD 0) (hx : xs[i] < 4294967296) (hy : ys[i]?.getD 0 < 4294967296) :
 val 4294967296 (os.set i (s % 4294967296)) + 4294967296 ^ (i + 1) * (s / 4294967296) = val 4294967296 (xs.take (i + 1)) + val 4294967296 (ys.take (i + 1)) ∧ (os.set i (s % 4294967296)).drop (i + 1) = List.replicate (xs.length + 1 - (i + 1)) 0 ∧ dB 4294967296 (os.set i (s % 4294967296)) ∧ s / 4294967296 ≤ 1:=by
 obtain ⟨z1,z2⟩:=gN hz (by omega);refine ⟨?_,?_,hd.set (Nat.mod_lt _ (by omega)),by omega⟩
 · refine Ku (s:=xs[i] + ys[i]?.getD 0) (by omega) (by rw [z1];omega) hv ?_
   rw [cW hi];by_cases hy' : i < ys.length
   · rw [cW hy',List.getElem?_eq_getElem hy']
     simp only[Option.getD_some,Nat.mul_add];omega
   · rw [List.getElem?_eq_none (by omega),lD (xs:=ys) (i:=i + 1) (by omega),lD (xs:=ys) (i:=i) (by omega)]
     simp;omega
 · rw [jL,z2]
   congr 1
theorem Bn {os xs ys : List Nat} {c : Nat} (hle : ys.length ≤ xs.length) (hlo : os.length = xs.length + 1) (hv : val 4294967296 os + 4294967296 ^ xs.length * c = val 4294967296 (xs.take xs.length) + val 4294967296 (ys.take xs.length)) (hz : os.drop xs.length = List.replicate (xs.length + 1 - xs.length) 0) :
 val 4294967296 (os.set xs.length c) = val 4294967296 xs + val 4294967296 ys:=by
 obtain ⟨z1,_⟩:=gN hz (by omega);have h:=kS (B:=4294967296) (d:=c) (show xs.length < os.length by omega);rw [z1] at h;rw [List.take_length,lD hle] at hv;omega
theorem Gp {os xs ys : List Nat} {i c s : Nat} (hi : i < xs.length) (hlo : os.length = xs.length) (hv : val 4294967296 os + val 4294967296 (ys.take i) = val 4294967296 (xs.take i) + 4294967296 ^ i * c) (hz : os.drop i = List.replicate (xs.length - i) 0) (hd : dB 4294967296 os) (hc : c ≤ 1)
 (hs : (s : Int) = ((xs[i] : Nat) - (c : Nat) - (ys[i]?.getD 0 : Nat) : Int) % 18446744073709551616) (hx : xs[i] < 4294967296) (hy : ys[i]?.getD 0 < 4294967296) :
 val 4294967296 (os.set i (s % 4294967296)) + val 4294967296 (ys.take (i + 1)) = val 4294967296 (xs.take (i + 1)) + 4294967296 ^ (i + 1) * (s / 9223372036854775808) ∧ (os.set i (s % 4294967296)).drop (i + 1) = List.replicate (xs.length - (i + 1)) 0 ∧ dB 4294967296 (os.set i (s % 4294967296)) ∧ s / 9223372036854775808 ≤ 1:=by
 obtain ⟨z1,z2⟩:=gN hz (by omega);have key : xs[i] + 4294967296 * (s / 9223372036854775808) = s % 4294967296 + c + ys[i]?.getD 0:=by omega
 refine ⟨?_,?_,hd.set (Nat.mod_lt _ (by omega)),by omega⟩
 · have h1:=kS (B:=4294967296) (d:=s % 4294967296) (show i < os.length by omega)
   rw [z1] at h1;have h2:=congrArg (4294967296 ^ i * ·) key;simp only[Nat.mul_add] at h2;rw [cW hi,Nat.pow_succ];have h3 : val 4294967296 (ys.take (i + 1)) = val 4294967296 (ys.take i) + 4294967296 ^ i * ys[i]?.getD 0:=by
    by_cases hy' : i < ys.length
    · rw [cW hy',List.getElem?_eq_getElem hy'];rfl
    · rw [List.getElem?_eq_none (by omega),lD (xs:=ys) (i:=i + 1) (by omega),lD (xs:=ys) (i:=i) (by omega)];rfl
   rw [h3]
   grind
 · rw [jL,z2]
   congr 1
theorem abb {os xs ys : List Nat} {c : Nat} (hle : ys.length ≤ xs.length) (hlo : os.length = xs.length) (hd : dB 4294967296 os) (hv : val 4294967296 os + val 4294967296 (ys.take xs.length) = val 4294967296 (xs.take xs.length) + 4294967296 ^ xs.length * c) (hge : val 4294967296 ys ≤ val 4294967296 xs) :
 val 4294967296 os = val 4294967296 xs - val 4294967296 ys:=by
 rw [List.take_length,lD hle] at hv;have h:=iN hd;rw [hlo] at h;have hc : c = 0:=by
  rcases Nat.eq_zero_or_pos c with h0 | h0
  · exact h0
  · have:=Nat.mul_le_mul_left (4294967296 ^ xs.length) h0
    omega
 subst hc;omega
theorem Tw {os xs ys : List Nat} {i k c s : Nat} (hi : i < xs.length) (hk : k < ys.length) (hlo : os.length = xs.length + ys.length) (hv : val 4294967296 os + 4294967296 ^ (i + k) * c = val 4294967296 (xs.take i) * val 4294967296 ys + 4294967296 ^ i * (xs[i] * val 4294967296 (ys.take k)))
 (hs : s = os[i + k] + xs[i] * ys[k] + c) : val 4294967296 (os.set (i + k) (s % 4294967296)) + 4294967296 ^ (i + (k + 1)) * (s / 4294967296) = val 4294967296 (xs.take i) * val 4294967296 ys + 4294967296 ^ i * (xs[i] * val 4294967296 (ys.take (k + 1))):=by
 refine Ku (s:=xs[i] * ys[k]) (i:=i + k) (by omega) (by omega) hv ?_;rw [cW hk,Nat.pow_add]
 grind
theorem pG {os : List Nat} {i j d : Nat} (h : i < j) : (os.set i d).drop j = os.drop j:=by
 apply List.ext_getElem?;intro m;simp only[List.getElem?_drop];rw [List.getElem?_set_ne (by omega)]
theorem abc {os xs ys : List Nat} {i c : Nat} (hi : i < xs.length) (hlo : os.length = xs.length + ys.length) (hv : val 4294967296 os + 4294967296 ^ (i + ys.length) * c = val 4294967296 (xs.take i) * val 4294967296 ys + 4294967296 ^ i * (xs[i] * val 4294967296 (ys.take ys.length))) (hz : os.drop (i + ys.length) = List.replicate (xs.length - i) 0) :
 val 4294967296 (os.set (i + ys.length) c) = val 4294967296 (xs.take (i + 1)) * val 4294967296 ys ∧ (os.set (i + ys.length) c).drop (i + 1 + ys.length) = List.replicate (xs.length - (i + 1)) 0:=by
 obtain ⟨z1,z2⟩:=gN hz (by omega);have h:=kS (B:=4294967296) (d:=c) (show i + ys.length < os.length by omega);rw [z1] at h;rw [List.take_length] at hv;refine ⟨?_,?_⟩
 · rw [cW hi]
   grind
 · rw [show i + 1 + ys.length = i + ys.length + 1 by omega,jL,z2]
   congr 1
theorem Xk {x y : Nat} (hx : x < 4294967296) (hy : y < 4294967296) : x * y ≤ 18446744065119617025:=by
 have:=Nat.mul_le_mul (Nat.le_sub_one_of_lt hx) (Nat.le_sub_one_of_lt hy);omega
theorem abd {x y : Nat} (hx : x < 4294967296) (hy : y < 4294967296) : (0 : Int) ≤ (x : Int) * (y : Int) ∧ (x : Int) * (y : Int) ≤ 18446744065119617025:=by
 have h:=Xk hx hy;have e : ((x * y : Nat) : Int) = (x : Int) * (y : Int):=Int.natCast_mul x y;rw [← e];omega
/-! ### Shifts,divisions by a word -/
theorem rL {m n : Nat} (hn : n < 64) (h : m * 2 ^ n < 18446744073709551616) : IntKind.u64.wrap ((m : Int) * 2 ^ (min (n : Int).toNat IntKind.u64.bits)) = ((m * 2 ^ n : Nat) : Int):=by
 have e : min (n : Int).toNat IntKind.u64.bits = n:=by
  show min (n : Int).toNat 64 = n
  rw [Int.toNat_natCast];omega
 rw [e];have e2 : ((m : Int) * 2 ^ n) = ((m * 2 ^ n : Nat) : Int):=by simp
 rw [e2];exact eM (by omega) (by omega)
theorem abe {m n : Nat} (hn : n < 64) : (m : Int).fdiv (2 ^ (min (n : Int).toNat IntKind.u64.bits)) = ((m / 2 ^ n : Nat) : Int):=by
 have e : min (n : Int).toNat IntKind.u64.bits = n:=by
  show min (n : Int).toNat 64 = n
  rw [Int.toNat_natCast];omega
 rw [e,Int.fdiv_eq_ediv_of_nonneg _ (by exact Int.le_of_lt (Int.pow_pos (by decide)))];simp
theorem Is {a b s c : Nat} (ha : a < 2 ^ s) (hb : b = 2 ^ s * c) (h : a + b < 18446744073709551616) : IntKind.u64.wrap ((BitVec.ofInt IntKind.u64.bits (a : Int) ||| BitVec.ofInt IntKind.u64.bits (b : Int)).toNat : Int) = ((a + b : Nat) : Int):=by
 have e : (BitVec.ofInt 64 (a : Int) ||| BitVec.ofInt 64 (b : Int)).toNat = a + b:=by
  rw [BitVec.toNat_or];have e1 : (BitVec.ofInt 64 (a : Int)).toNat = a:=by simp [BitVec.toNat_ofInt];omega
  have e2 : (BitVec.ofInt 64 (b : Int)).toNat = b:=by simp [BitVec.toNat_ofInt];omega
  rw [e1,e2,Nat.or_comm,hb,← Nat.two_pow_add_eq_or_of_lt ha];omega
 show IntKind.u64.wrap ((BitVec.ofInt 64 (a : Int) ||| BitVec.ofInt 64 (b : Int)).toNat : Int) = _
 rw [e];exact eM (by omega) (by omega)
theorem Bo {a b s c : Nat} (ha : a < 2 ^ s) (hb : b = 2 ^ s * c) (h : a + b < 18446744073709551616) : IntKind.u64.wrap ((BitVec.ofInt IntKind.u64.bits (b : Int) ||| BitVec.ofInt IntKind.u64.bits (a : Int)).toNat : Int) = ((a + b : Nat) : Int):=by
 have:=Is ha hb h;rwa [BitVec.or_comm] at this
theorem Bp {s : Nat} (h : s < 18446744073709551616) : IntKind.u64.wrap ((BitVec.ofInt IntKind.u64.bits (s : Int) &&& BitVec.ofInt IntKind.u64.bits 4294967295).toNat : Int) = ((s % 4294967296 : Nat) : Int):=by
 rw [mX (by omega) (by omega)];omega
theorem Rn {m n : Nat} (h : m < 18446744073709551616) : IntKind.u64.wrap ((m : Int).tdiv (n : Int)) = ((m / n : Nat) : Int):=by
 rw [← Int.ofNat_tdiv];have : m / n ≤ m:=Nat.div_le_self m n;generalize m / n = q at *
 exact eM (by omega) (by omega)
theorem Iu {m n : Nat} : (m : Int).tmod (n : Int) = ((m % n : Nat) : Int):=(Int.ofNat_tmod m n).symm
theorem mT {B : Nat} {xs : List Nat} {k : Nat} (hk : 0 < k) (h : k - 1 < xs.length) : val B (xs.drop (k - 1)) = xs[k - 1] + B * val B (xs.drop k):=by
 rw [List.drop_eq_getElem_cons h,show k - 1 + 1 = k by omega];rfl
theorem Kv {os xs : List Nat} {k d r : Nat} (hk : 0 < k) (hkl : k ≤ xs.length) (hlo : os.length = xs.length) (hv : val 4294967296 (xs.drop k) = d * val 4294967296 (os.drop k) + r) (hr : r < d) (hdg : dB 4294967296 os) (hx : xs[k - 1] < 4294967296) :
 val 4294967296 (xs.drop (k - 1)) = d * val 4294967296 ((os.set (k - 1) ((xs[k - 1] + r * 4294967296) / d)).drop (k - 1)) + (xs[k - 1] + r * 4294967296) % d ∧ dB 4294967296 (os.set (k - 1) ((xs[k - 1] + r * 4294967296) / d)) ∧ (xs[k - 1] + r * 4294967296) % d < d:=by
 refine ⟨?_,hdg.set ?_,Nat.mod_lt _ (by omega)⟩
 · have e1:=mT (B:=4294967296) hk (show k - 1 < xs.length by omega)
   have e2:=mT (B:=4294967296) (xs:=os.set (k - 1) ((xs[k - 1] + r * 4294967296) / d)) hk (by simp;omega);have e3 : (os.set (k - 1) ((xs[k - 1] + r * 4294967296) / d)).drop k = os.drop k:=pG (by omega);rw [e1,e2,e3,List.getElem_set_self,hv];have:=Nat.div_add_mod (xs[k - 1] + r * 4294967296) d
   grind
 · have : (xs[k - 1] + r * 4294967296) / d < 4294967296:=by
    rw [Nat.div_lt_iff_lt_mul (by omega)];have : (r + 1) * 4294967296 ≤ d * 4294967296:=Nat.mul_le_mul_right _ hr;omega
   exact this
theorem Cp {a d q r : Nat} (h0 : 0 < d) (hr : r < d) (h : a = d * q + r) : q = a / d ∧ r = a % d:=by
 subst h;constructor
 · rw [Nat.mul_add_div h0,Nat.div_eq_of_lt hr,Nat.add_zero]
 · rw [Nat.mul_add_mod,Nat.mod_eq_of_lt hr]
end Go.Lith
namespace Go.Lith
open Go.RowKit
section
variable {P : Program} {ds : List Deferred} {l : List Value} {x y z0 : Operand} {T T' ty : TypeId}
theorem Kw {A : Option Addr} {n c : Nat} {E : TypeId} (hu : P.underlying T = some (.slice E)) (hx : ev l x = .slice A n c) (hy : ev l y = .slice none 0 0) : gE P l (.binOp .eql T x y T') ty (.bool A.isNone):=fun w o ho _=>by
 obtain ⟨D,hD⟩ : ∃ D,Op.maxDepth = D + 1:=⟨9999,rfl⟩
 cases A <;> simp [execOp,ho,cL,hx,hy,eqGuard,binOp,Op.equal,hD,Op.equalIn,run_underlying hu]
variable {ops : Array Oper} {Q : Exit → Act → World → Prop} {rest : List Oper} {d : Nat} {pos : String} {after : Array Edge} {w : World}
theorem abf {op : Op} {v : Value} {w' : World} (hr : ∀ o : Oper,o.op = op → (execOp (Fr l).eval o).run P w = .ok (.value v) w') (h : wpList P ops Q rest (Fr l ds) w') : wpList P ops Q (Oper.mk none op ty pos after none :: rest) (Fr l ds) w:=by
 refine wpList_plain rfl fun K hK=>?_;unfold Oper.wp;rw [fY,hr _ rfl];exact hK _ _ h
theorem Iv : Array.map (fun (_ : Nat)=>(default : Value)) (Array.range 0) = #[]:=Array.eq_empty_of_size_eq_zero (by simp)
theorem Ix (z v : Value) : (Array.map (fun x=>[z][x % 1]?.getD default) (Array.range 1)).setIfInBounds 0 v = #[v]:=by
 apply Array.ext (by simp);intro i h1 h2;obtain rfl : i = 0:=by simpa using h2
 simp
theorem xB (z v v2 : Value) : ((Array.map (fun x=>[z][x % 1]?.getD default) (Array.range 2)).setIfInBounds 0 v).setIfInBounds 1 v2 = #[v,v2]:=by
 apply Array.ext (by simp);intro i h1 h2;have h3 : i < 2:=by simpa using h2
 rcases Nat.lt_or_ge i 1 with h | h
 · obtain rfl : i = 0:=by omega
   simp
 · obtain rfl : i = 1:=by omega
   simp
theorem Kx {E : TypeId} {c : Nat} (hu : P.underlying T = some (.slice E)) (hi : (P.info? E).map (fun i=>i.size) = some c)
 (h : ∀ w' g,dD w w' → w.heap.size ≤ g → fX w' g [] E → wpList P ops Q rest (Fr (l.set d (.slice (some ⟨g,0,none⟩) 0 0)) ds) w') :
 wpList P ops Q (Oper.mk (some d) (.buildSlice T 0 #[]) ty pos after none :: rest) (Fr l ds) w:=by
 cases hq : P.info? E with
 | none=>rw [hq] at hi;cases hi
 | some i =>
  exact jU (w':=w.alloc (.cells #[] E)) (v:=.slice (some ⟨w.heap.size,0,none⟩) 0 0) (fun o ho _=>by simp [execOp,ho,Instr.buildSlice,run_underlying hu,sizeOf,typeInfo,hq,Instr.fill,newRow,newObj,Sem.run,Iv]) (h _ _ ((dD.refl w).alloc _) (Nat.le_refl _) (gQ w [] E))
theorem xC {E : TypeId} {z : Value} (hu : P.underlying T = some (.slice E)) (hi : (P.info? E).map (fun i=>(i.size,i.zero)) = some (1,some z)) (hz : z.cells = #[z]) {v : Value} (hx : ev l x = v) (hv : v.cells = #[v])
 (h : ∀ w' g,dD w w' → w.heap.size ≤ g → fX w' g [v] E → wpList P ops Q rest (Fr (l.set d (.slice (some ⟨g,0,none⟩) 1 1)) ds) w') :
 wpList P ops Q (Oper.mk (some d) (.buildSlice T 1 #[(0,x)]) ty pos after none :: rest) (Fr l ds) w:=by
 cases hq : P.info? E with
 | none=>rw [hq] at hi;cases hi
 | some i =>
  rw [hq] at hi;simp only[Option.map_some,Option.some.injEq,Prod.mk.injEq] at hi;obtain ⟨e1,e2⟩:=hi;exact jU (w':=w.alloc (.cells #[v] E)) (v:=.slice (some ⟨w.heap.size,0,none⟩) 1 1) (fun o ho _=>by simp [execOp,ho,Instr.buildSlice,run_underlying hu,sizeOf,typeInfo,zeroValue,hq,e1,e2,hz,cL,hx,hv,Instr.fill,newRow,newObj,Sem.run,Ix]) (h _ _ ((dD.refl w).alloc _) (Nat.le_refl _) (gQ w [v] E))
theorem Ky {E : TypeId} {z : Value} (hu : P.underlying T = some (.slice E)) (hi : (P.info? E).map (fun i=>(i.size,i.zero)) = some (1,some z)) (hz : z.cells = #[z]) {v v2 : Value} (hx : ev l x = v) (hv : v.cells = #[v]) (hy : ev l y = v2) (hv2 : v2.cells = #[v2])
 (h : ∀ w' g,dD w w' → w.heap.size ≤ g → fX w' g [v,v2] E → wpList P ops Q rest (Fr (l.set d (.slice (some ⟨g,0,none⟩) 2 2)) ds) w') :
 wpList P ops Q (Oper.mk (some d) (.buildSlice T 2 #[(0,x),(1,y)]) ty pos after none :: rest) (Fr l ds) w:=by
 cases hq : P.info? E with
 | none=>rw [hq] at hi;cases hi
 | some i =>
  rw [hq] at hi;simp only[Option.map_some,Option.some.injEq,Prod.mk.injEq] at hi;obtain ⟨e1,e2⟩:=hi;exact jU (w':=w.alloc (.cells #[v,v2] E)) (v:=.slice (some ⟨w.heap.size,0,none⟩) 2 2) (fun o ho _=>by simp [execOp,ho,Instr.buildSlice,run_underlying hu,sizeOf,typeInfo,zeroValue,hq,e1,e2,hz,cL,hx,hv,hy,hv2,Instr.fill,newRow,newObj,Sem.run,xB]) (h _ _ ((dD.refl w).alloc _) (Nat.le_refl _) (gQ w [v,v2] E))
theorem Bh.build0 {base g : Nat} {E : TypeId} {c : Nat} (hB : fX w g [] E) (hb : base ≤ g) : Bh w base E c (.slice (some ⟨g,0,none⟩) 0 0) 0 []:=by
 refine ⟨(Nat.zero_mul c).symm,.inr ⟨g,0,#[],rfl,hb,hB,Nat.le_refl _,by decide,by simp,by simp⟩⟩
theorem abg {E : TypeId} {z : Value} {g o n cap : Nat} {cs : List Value} {t : TypeId} {a0 : Array TypeId} (ha : a0 = #[T]) (hu : P.underlying T = some (.slice E)) (hi : (P.info? E).map (fun i=>(i.size,i.zero)) = some (1,some z)) (hz : z.cells = #[z]) (hx : ev l x = .slice (some ⟨g,o,none⟩) n cap) (hn : 0 < n) (hB : fX w g cs t) (hfit : o + n ≤ cs.length) (h1 : z.oneCell' = true)
 (h : ∀ w',Wz w w' g → fX w' g (bG cs o (List.replicate n z)) t → wpList P ops Q rest (Fr l ds) w') :
 wpList P ops Q (Oper.mk none (.call { callee:=.builtin .clear,args:=#[x],argTypes:=a0 }) ty pos after none :: rest) (Fr l ds) w:=by
 subst ha;cases hq : P.info? E with
 | none=>rw [hq] at hi;cases hi
 | some i =>
  rw [hq] at hi;simp only[Option.map_some,Option.some.injEq,Prod.mk.injEq] at hi;obtain ⟨e1,e2⟩:=hi;have hzc : (Builtin.zeroCells z.cells n).toList = List.replicate n z:=by
   rw [hz];apply List.ext_getElem
   · simp [Builtin.zeroCells]
   · intro j h1 h2
     simp [Builtin.zeroCells,Nat.mod_one]
  have hst:=run_storeCells_at P g o t (List.replicate n z) 0 cs.toArray w hB (by simpa using hfit) (fun u hu=>by rw [List.eq_of_mem_replicate hu];exact h1);simp only[Nat.add_zero,List.toList_toArray] at hst;obtain ⟨n,rfl⟩ : ∃ m,n = m + 1:=⟨n - 1,by omega⟩
  refine abf (v:=.tuple #[]) (w':=w.setRow g (bG cs o (List.replicate (n + 1) z)).toArray) (fun o' ho=>?_) (h _ (rG w g _) (setRow_heap w g cs.toArray _ t _ hB));simp [execOp,ho,resolve,invoke,builtin,cL,hx,Builtin.clear_,run_underlying hu,zeroValue,typeInfo,hq,e2,hzc,hst,bG]
theorem Xl {cs : List Value} {off : Nat} : bG cs off [] = cs:=by simp [bG]
end
end Go.Lith
namespace Go.Lith
theorem Om {m : Nat} : (m : Int).fdiv (2 ^ (min (32 : Int).toNat IntKind.u64.bits)) = ((m / 4294967296 : Nat) : Int):=by
 rw [Gn (by omega)];omega
theorem ac1 {m : Nat} : (m : Int).fdiv (2 ^ (min (31 : Int).toNat IntKind.u64.bits)) = ((m / 2147483648 : Nat) : Int):=by
 show (m : Int).fdiv (2 ^ 31) = _
 rw [Int.fdiv_eq_ediv_of_nonneg _ (by decide)];omega
theorem Bq {x n : Nat} (hn : n ≤ 32) : x * 2 ^ n % 4294967296 = 2 ^ n * (x % 2 ^ (32 - n)):=by
 have e : (4294967296 : Nat) = 2 ^ n * 2 ^ (32 - n):=by rw [← Nat.pow_add,show n + (32 - n) = 32 by omega]
 rw [Nat.mul_comm,e,Nat.mul_mod_mul_left]
theorem qH {n : Nat} (hn : n ≤ 32) : (4294967296 : Nat) = 2 ^ n * 2 ^ (32 - n):=by rw [← Nat.pow_add,show n + (32 - n) = 32 by omega]
theorem On {x n : Nat} (hn : n ≤ 32) (hx : x < 4294967296) : x * 2 ^ n < 18446744073709551616:=by
 have h1 : 2 ^ n ≤ 2 ^ 32:=Nat.pow_le_pow_right (by omega) hn;have h2 : x * 2 ^ n ≤ x * 2 ^ 32:=Nat.mul_le_mul_left _ h1;omega
theorem Br {a x n : Nat} (hn : n ≤ 32) (ha : a < 2 ^ n) : a + x * 2 ^ n % 4294967296 < 4294967296:=by
 rw [Bq hn];have h1 : x % 2 ^ (32 - n) < 2 ^ (32 - n):=Nat.mod_lt _ (Nat.pow_pos (by omega));have h2 : 2 ^ n * (x % 2 ^ (32 - n) + 1) ≤ 2 ^ n * 2 ^ (32 - n):=Nat.mul_le_mul_left _ h1;rw [← qH hn,Nat.mul_add] at h2;omega
theorem abh {x n : Nat} (hx : x < 4294967296) : x * 2 ^ n / 4294967296 < 2 ^ n:=by
 rw [Nat.div_lt_iff_lt_mul (by omega),Nat.mul_comm (2 ^ n)];exact Nat.mul_lt_mul_of_pos_right hx (Nat.pow_pos (by omega))
theorem Kz {os xs : List Nat} {i n : Nat} (hn : n ≤ 31) (hi : i < xs.length) (hlo : os.length = xs.length + 1) (hv : val 4294967296 os = 2 ^ n * val 4294967296 (xs.take i)) (hz : os.drop (i + 1) = List.replicate (xs.length - i) 0) (hd : dB 4294967296 os) (h1 : i < os.length) (hc : os[i] < 2 ^ n) (hx : xs[i] < 4294967296) :
 val 4294967296 ((os.set i (os[i] + xs[i] * 2 ^ n % 4294967296)).set (i + 1) (xs[i] * 2 ^ n / 4294967296)) = 2 ^ n * val 4294967296 (xs.take (i + 1)) ∧ ((os.set i (os[i] + xs[i] * 2 ^ n % 4294967296)).set (i + 1) (xs[i] * 2 ^ n / 4294967296)).drop (i + 1 + 1) = List.replicate (xs.length - (i + 1)) 0 ∧ dB 4294967296 ((os.set i (os[i] + xs[i] * 2 ^ n % 4294967296)).set (i + 1) (xs[i] * 2 ^ n / 4294967296)) ∧ (∀ h : i + 1 < ((os.set i (os[i] + xs[i] * 2 ^ n % 4294967296)).set (i + 1) (xs[i] * 2 ^ n / 4294967296)).length,((os.set i (os[i] + xs[i] * 2 ^ n % 4294967296)).set (i + 1) (xs[i] * 2 ^ n / 4294967296))[i + 1] < 2 ^ n):=by
 obtain ⟨z1,z2⟩:=gN hz (by omega);have ht:=abh (n:=n) hx;have hf:=Br (x:=xs[i]) (by omega) hc;have hp : 2 ^ n ≤ 2 ^ 32:=Nat.pow_le_pow_right (by omega) (by omega);refine ⟨?_,?_,(hd.set hf).set (by omega),?_⟩
 · have e1:=kS (B:=4294967296) (d:=os[i] + xs[i] * 2 ^ n % 4294967296) h1
   have e2:=kS (B:=4294967296) (os:=os.set i (os[i] + xs[i] * 2 ^ n % 4294967296)) (d:=xs[i] * 2 ^ n / 4294967296) (show i + 1 < _ by simp;omega);rw [List.getElem_set_ne (by omega),z1] at e2;rw [cW hi];have e3:=Nat.div_add_mod (xs[i] * 2 ^ n) 4294967296;generalize xs[i] * 2 ^ n / 4294967296 = t at *
   generalize hg : xs[i] * 2 ^ n % 4294967296 = r at *
   rw [Nat.pow_succ] at e2;have e4:=congrArg (4294967296 ^ i * ·) e3;simp only[Nat.mul_add] at e4 e1
   grind
 · rw [jL,pG (by omega),z2]
   congr 1
 · intro h
   rw [List.getElem_set_self];exact ht
theorem Xm {x n : Nat} (hn : n ≤ 32) (hx : x < 4294967296) : x / 2 ^ n < 2 ^ (32 - n):=by
 rw [Nat.div_lt_iff_lt_mul (Nat.pow_pos (by omega)),Nat.mul_comm,← qH hn];exact hx
theorem Fv {os xs : List Nat} {n : Nat} (hn : n ≤ 32) (hi : 0 < xs.length) (hlo : os.length = xs.length) (hv : val 4294967296 os = val 4294967296 (xs.take 0) / 2 ^ n) (hz : os.drop 0 = List.replicate (xs.length - 0) 0) (hd : dB 4294967296 os) (hx : xs[0] < 4294967296) :
 val 4294967296 (os.set 0 (xs[0] / 2 ^ n)) = val 4294967296 (xs.take (0 + 1)) / 2 ^ n ∧ (os.set 0 (xs[0] / 2 ^ n)).drop (0 + 1) = List.replicate (xs.length - (0 + 1)) 0 ∧ dB 4294967296 (os.set 0 (xs[0] / 2 ^ n)):=by
 obtain ⟨z1,z2⟩:=gN hz (by omega);refine ⟨?_,?_,hd.set (Nat.lt_of_le_of_lt (Nat.div_le_self _ _) hx)⟩
 · have e1:=kS (B:=4294967296) (d:=xs[0] / 2 ^ n) (show 0 < os.length by omega)
   rw [z1] at e1;rw [cW hi];simp only[List.take_zero,val,Nat.pow_zero,Nat.one_mul,Nat.zero_add] at hv e1 ⊢;rw [Nat.zero_div] at hv;omega
 · rw [jL,z2]
   congr 1
theorem Fw {V x i n : Nat} (hV : V < 4294967296 ^ (i + 1)) (hn : n ≤ 32) : (V + 4294967296 ^ (i + 1) * x) / 2 ^ n = V / 2 ^ n + 4294967296 ^ i * (2 ^ (32 - n) * x):=by
 have e : 4294967296 ^ (i + 1) * x = 2 ^ n * (4294967296 ^ i * (2 ^ (32 - n) * x)):=by
  rw [Nat.pow_succ];have:=qH hn;generalize 2 ^ n = p at *
  generalize 2 ^ (32 - n) = q at *
  rw [this]
  grind
 rw [e,Nat.add_mul_div_left _ _ (Nat.pow_pos (by omega))]
theorem Fx {os xs : List Nat} {j n : Nat} (hn : n ≤ 32) (hi : j + 1 < xs.length) (hlo : os.length = xs.length) (hv : val 4294967296 os = val 4294967296 (xs.take (j + 1)) / 2 ^ n) (hz : os.drop (j + 1) = List.replicate (xs.length - (j + 1)) 0) (hd : dB 4294967296 os) (hdx : dB 4294967296 xs) (h1 : j < os.length) (hc : os[j] < 2 ^ (32 - n)) :
 val 4294967296 ((os.set (j + 1) (xs[j + 1] / 2 ^ n)).set j (os[j] + xs[j + 1] * 2 ^ (32 - n) % 4294967296)) = val 4294967296 (xs.take (j + 1 + 1)) / 2 ^ n ∧ ((os.set (j + 1) (xs[j + 1] / 2 ^ n)).set j (os[j] + xs[j + 1] * 2 ^ (32 - n) % 4294967296)).drop (j + 1 + 1) = List.replicate (xs.length - (j + 1 + 1)) 0 ∧ dB 4294967296 ((os.set (j + 1) (xs[j + 1] / 2 ^ n)).set j (os[j] + xs[j + 1] * 2 ^ (32 - n) % 4294967296)):=by
 obtain ⟨z1,z2⟩:=gN hz (by omega);have hx : xs[j + 1] < 4294967296:=hdx _ (List.getElem_mem hi);have hf:=Br (x:=xs[j + 1]) (n:=32 - n) (by omega) hc;refine ⟨?_,?_,(hd.set (Nat.lt_of_le_of_lt (Nat.div_le_self _ _) hx)).set hf⟩
 · have e1:=kS (B:=4294967296) (d:=xs[j + 1] / 2 ^ n) (show j + 1 < os.length by omega)
   have e2:=kS (B:=4294967296) (os:=os.set (j + 1) (xs[j + 1] / 2 ^ n)) (j:=j) (d:=os[j] + xs[j + 1] * 2 ^ (32 - n) % 4294967296) (by simp;omega);rw [List.getElem_set_ne (by omega)] at e2;rw [z1] at e1;have hV:=iN (hdx.take (j + 1));rw [List.length_take,Nat.min_eq_left (by omega)] at hV;rw [cW hi,Fw hV hn,← hv];have e3 : 2 ^ (32 - n) * xs[j + 1] = 4294967296 * (xs[j + 1] / 2 ^ n) + xs[j + 1] * 2 ^ (32 - n) % 4294967296:=by
    rw [Bq (by omega),show 32 - (32 - n) = n by omega];have h3:=Nat.div_add_mod xs[j + 1] (2 ^ n);have:=qH hn;generalize 2 ^ n = p at *
    generalize 2 ^ (32 - n) = q at *
    conv=>lhs;rw [← h3]
    rw [this]
    grind
   rw [e3,Nat.mul_add];generalize xs[j + 1] * 2 ^ (32 - n) % 4294967296 = r at *
   generalize xs[j + 1] / 2 ^ n = t at *
   rw [Nat.pow_succ] at e1;simp only[Nat.mul_add] at e2
   grind
 · rw [pG (by omega),jL,z2]
   congr 1
/-! ### Slices of words -/
theorem cQ.nil (w : World) : cQ w none 0 0 []:=⟨rfl,fun i x hi=>by simp at hi,Nat.le_refl _,by omega,by simp,fun x hx=>by cases hx⟩
theorem cQ.drop {w : World} {a : Addr} {n cap : Nat} {xs : List Nat} (h : cQ w (some a) n cap xs) {k : Nat} (hk : k ≤ xs.length) {m : Nat} (hm : m = n - k) : cQ w (some (a.add k)) m (cap - k) (xs.drop k):=by
 have hl:=h.len;have hc:=h.cap;have he:=h.eq;have hle:=h.le;refine ⟨by rw [hm,he];simp,fun i x hi=>⟨_,rfl,?_⟩,by simp;omega,by omega,by simp;omega,fun x hx=>h.digs x (List.mem_of_mem_drop hx)⟩;obtain ⟨a',e,hcell⟩:=h.row (k + i) x (by rw [List.getElem?_drop] at hi;exact hi);cases e;rw [show (a.add k).add i = a.add (k + i) from ?_]
 · exact hcell
 · obtain ⟨g,off,ln⟩:=a
   by_cases hk0 : k = 0 <;> by_cases hi0 : i = 0 <;> simp [Addr.add,hk0,hi0,Nat.add_assoc]
theorem cQ.head {w : World} {A : Option Addr} {n cap : Nat} {xs : List Nat} (h : cQ w A n cap xs) {k : Nat} (hk : k ≤ xs.length) : cQ w A k cap (xs.take k):=by
 have:=h.take k;rwa [List.length_take,Nat.min_eq_left hk] at this
theorem cQ.words {w : World} {a : Addr} {n cap : Nat} {xs : List Nat} (h : cQ w (some a) n cap xs) : jP w a (xs.map jF):=by
 intro j u hj;rw [List.getElem?_map] at hj;cases hq : xs[j]? with
 | none=>rw [hq] at hj;cases hj
 | some x =>
  rw [hq] at hj;cases hj;obtain ⟨a',e,hc⟩:=h.row j x hq;cases e;exact hc
theorem cQ.of_owns {w : World} {base n : Nat} {v : Value} {xs : List Nat} {E : TypeId} (h : Bh w base E 1 v n (xs.map jF)) (hn : n = xs.length) (hd : dB 4294967296 xs) (hl : n ≤ 17592186044416) : ∃ A c,v = .slice A n c ∧ cQ w A n c xs:=by
 rcases h.row with ⟨rfl,h0,h1⟩ | ⟨g,cap,rfl,_,hc,hm,_,hr⟩
 · subst h0
   have : xs = []:=by simpa using h1
   subst this;exact ⟨_,_,rfl,cQ.nil w⟩
 · refine ⟨_,_,rfl,hn,fun i x hi=>⟨_,rfl,hr i (jF x) (by rw [List.getElem?_map,hi];rfl)⟩,by omega,hm,by omega,hd⟩
theorem cQ.none {w : World} {n cap : Nat} {xs : List Nat} (h : cQ w none n cap xs) : xs = []:=by
 cases xs with
 | nil=>rfl
 | cons x xs=>obtain ⟨a,e,_⟩:=h.row 0 x rfl;cases e
def abi (xs : List Nat) (v : Value) (w : World) : Prop:=∃ A c,v = .slice A xs.length c ∧ cQ w A xs.length c xs
end Go.Lith
namespace Go.Lith
open Go.RowKit
theorem agm {P : Program} {l : List Value} {w : World} {fn : Func} {R : Ending → World → Prop} (hr : fn.results = #[]) (hR : R (.returned (.tuple #[])) w) : bodyPost P fn R .ret (Fr l) w:=by
 refine ⟨rfl,_,?_,hR⟩;unfold results;rw [hr];simp
theorem aeF {P : Program} {l : List Value} {w : World} {fn : Func} {R : Ending → World → Prop} (hr : fn.results = #[]) (hR : R (.returned (.tuple #[])) w) : bodyPost P fn R .normal (Fr l) w:=agm hr hR
structure Upd (w w' : World) (g : Nat) : Prop where
 os : w'.os = w.os
 tape : w'.tape = w.tape
 output : w'.output = w.output
 size : w.heap.size ≤ w'.heap.size
 block : ∀ k,k < w.heap.size → k ≠ g → w'.heap[k]? = w.heap[k]?
theorem dD.upd {w w' : World} (h : dD w w') (g : Nat) : Upd w w' g:=⟨h.os,h.tape,h.output,h.size,fun k hk _=>Below.block h k hk⟩
theorem Upd.chg {w w' w'' : World} {g k : Nat} (h : Upd w w' g) (hC : Wz w' w'' k) (hk : w.heap.size ≤ k ∨ k = g) : Upd w w'' g :=
 ⟨hC.os.trans h.os,hC.tape.trans h.tape,hC.output.trans h.output,by rw [hC.size];exact h.size,fun j hj hne=>(hC.block j (by omega)).trans (h.block j hj hne)⟩
theorem dD.grownUpd {w0 w w' : World} {g : Nat} (h : dD w0 w) (hU : Upd w w' g) (hg : w0.heap.size ≤ g) : dD w0 w' :=
 ⟨hU.os.trans h.os,hU.tape.trans h.tape,hU.output.trans h.output,Nat.le_trans h.size hU.size,fun k hk=>(hU.block k (Nat.lt_of_lt_of_le hk h.size) (by omega)).trans (Below.block h k hk)⟩
theorem fX.upd {w w' : World} {g g' : Nat} {cs : List Value} {t : TypeId} (h : fX w g cs t) (hU : Upd w w' g') (hne : g ≠ g') : fX w' g cs t:=(hU.block g h.lt hne).trans h
def Xn (P : Program) (f : FuncId) (args : List Value) (w : World) (g : Nat) (R : Value → World → Prop) : Prop :=
 bE P f ∧ Calls P f args.toArray w fun e w'=>∃ v,e = .returned v ∧ Upd w w' g ∧ R v w'
section
variable {P : Program} {ds : List Deferred} {l : List Value} {x y : Operand} {ty : TypeId} {w : World}
variable {ops : Array Oper} {Q : Exit → Act → World → Prop} {rest : List Oper} {d : Nat} {pos : String} {after : Array Edge}
theorem xD {f : FuncId} {fo : Operand} {xs : Array Operand} {args : List Value} {first cap : Array Value} {a0 : Array TypeId} {g : Nat} {R : Value → World → Prop} (hf : ev l fo = .func (.func f) first cap) (hxs : first.toList ++ xs.toList.map (ev l) ++ cap.toList = args) (hc : Xn P f args w g R)
 (h : ∀ v w',Upd w w' g → R v w' → wpList P ops Q rest (Fr (l.set d v) ds) w') : wpList P ops Q (Oper.mk (some d) (.call { callee:=.value fo,args:=xs,argTypes:=a0 }) ty pos after none :: rest) (Fr l ds) w:=by
 refine wpList_plain rfl fun K hK=>?_;unfold Oper.wp;rw [fY,kD hc.1 hf hxs _ rfl];refine hc.2.mono ?_;rintro e w' ⟨v,rfl,hE,hR⟩;show K ((Fr l ds).put (some d) v) w'
 rw [iJ];exact hK _ _ (h v w' hE hR)
theorem abj {T : TypeId} {E : TypeId} {g o n cap m cap2 : Nat} {A : Option Addr} {cs us : List Value} {t : TypeId} {T' : TypeId} {a0 : Array TypeId} (ha : a0 = #[T,T']) (hu : P.underlying T = some (.slice E)) (hi : (P.info? E).map (·.size) = some 1) (hx : ev l x = .slice (some ⟨g,o,none⟩) n cap) (hy : ev l y = .slice A m cap2) (hl : us.length = Nat.min m n)
 (hsrc : ∀ j v,us[j]? = some v → ∃ a,A = some a ∧ w.cell? (a.add j) = some v) (hB : fX w g cs t) (hfit : o + us.length ≤ cs.length) (h1 : ∀ v ∈ us,v.oneCell' = true)
 (h : ∀ w',Wz w w' g → fX w' g (bG cs o us) t → wpList P ops Q rest (Fr (l.set d (.int .i64 (us.length : Int))) ds) w') :
 wpList P ops Q (Oper.mk (some d) (.call { callee:=.builtin .copy,args:=#[x,y],argTypes:=a0 }) ty pos after none :: rest) (Fr l ds) w:=by
 subst ha;cases us with
 | nil =>
  refine jU (v:=.int .i64 0) (w':=w) (fun o' ho _=>?_) (h w ⟨rfl,rfl,rfl,rfl,fun _ _=>rfl⟩ (by rw [Xl];exact hB));have hrun:=run_copy_none (P:=P) w T T' o'.type E (some ⟨g,o,none⟩) A n cap m cap2 hu hi hl.symm;simp [execOp,ho,resolve,invoke,builtin,cL,hx,hy,hrun,goInt]
 | cons u us =>
  obtain ⟨a,rfl,_⟩:=hsrc 0 u rfl;refine jU (v:=.int .i64 ((u :: us).length : Int)) (w':=w.setRow g (bG cs o (u :: us)).toArray) (fun o' ho _=>?_) (h _ (rG w g _) (setRow_heap w g cs.toArray _ t _ hB));have hrun:=run_copy_row (P:=P) w T T' o'.type E g o n cap a m cap2 cs.toArray t (u :: us) hu hi hB hl (fun j v hj=>let ⟨a',e,hc⟩:=hsrc j v hj;by cases e;exact hc) (by simpa using hfit) h1;simp only[List.toList_toArray] at hrun;simp [execOp,ho,resolve,invoke,builtin,cL,hx,hy,hrun,bG,goInt]
end
end Go.Lith
namespace Go.Lith
theorem Xo {a b : Nat} : decide (Xi a b < 0) = decide (a < b):=by
 unfold Xi;split
 · simp [*]
 · split <;> simp [*]
theorem cQ.src {w : World} {A : Option Addr} {n cap : Nat} {xs : List Nat} (h : cQ w A n cap xs) : ∀ (j : Nat) (v : Value),(xs.map jF)[j]? = some v → ∃ a,A = some a ∧ w.cell? (a.add j) = some v:=by
 intro j v hj;rw [List.getElem?_map] at hj;cases hq : xs[j]? with
 | none=>rw [hq] at hj;cases hj
 | some x =>
  rw [hq] at hj;cases hj;exact h.row j x hq
theorem Xp {xs : List Nat} : ∀ u ∈ xs.map jF,u.oneCell' = true:=fun u hu=>by obtain ⟨x,_,rfl⟩:=List.mem_map.1 hu;rfl
theorem bX (n : Nat) : val 4294967296 (digs 4294967296 n) = n:=oM (by omega) n
theorem fE (n : Nat) : fN (digs 4294967296 n):=nW (by omega) n
theorem iP (n : Nat) : dB 4294967296 (digs 4294967296 n):=qG (by omega) n
theorem lU (d : Nat) : val 4294967296 [d] = d:=by simp [val]
theorem qI {d : Nat} (h : d < 4294967296) : dB 4294967296 [d]:=fun x hx=>by simp at hx;omega
theorem sZ (xs : List Nat) : (trim xs).length ≤ xs.length:=by rw [iU];simp;omega
theorem nI {xs : List Nat} (h : dB 4294967296 xs) : (digs 4294967296 (val 4294967296 xs)).length ≤ xs.length:=dY (by omega) (iN h)
theorem Bi {xs : List Nat} {d : Nat} (h : dB 4294967296 xs) (hd : d < 4294967296) : (digs 4294967296 (val 4294967296 xs * d)).length ≤ xs.length + 1:=by
 refine dY (by omega) ?_;rw [Nat.pow_succ];exact Nat.mul_lt_mul'' (iN h) hd
def laid (os : List Nat) (off n m : Nat) : List Nat:=os.take off ++ (digs 4294967296 m ++ List.replicate (n - (digs 4294967296 m).length) 0) ++ os.drop (off + n)
theorem La {os : List Nat} {off n m : Nat} (h : off + n ≤ os.length) (hm : (digs 4294967296 m).length ≤ n) : (laid os off n m).length = os.length:=by
 simp [laid];omega
theorem uP {os : List Nat} {off n m : Nat} (hd : dB 4294967296 os) : dB 4294967296 (laid os off n m) :=
 ((hd.take _).append ((iP m).append fun x hx=>by rw [List.eq_of_mem_replicate hx];decide)).append (hd.drop _)
theorem Xq {os : List Nat} {off n m : Nat} (h : off + n ≤ os.length) (hm : (digs 4294967296 m).length ≤ n) :
 val 4294967296 (laid os off n m) + 4294967296 ^ off * val 4294967296 ((os.drop off).take n) = val 4294967296 os + 4294967296 ^ off * m:=by
 have e1 : val 4294967296 os = val 4294967296 (os.take off) + 4294967296 ^ off * (val 4294967296 ((os.drop off).take n) + 4294967296 ^ n * val 4294967296 (os.drop (off + n))):=by
  have e : os = os.take off ++ ((os.drop off).take n ++ os.drop (off + n)):=by
   rw [← List.drop_drop,List.take_append_drop,List.take_append_drop]
  conv=>lhs;rw [e]
  rw [fD,fD];simp only[List.length_take,List.length_drop];rw [Nat.min_eq_left (by omega),Nat.min_eq_left (by omega)]
 have e2 : val 4294967296 (laid os off n m) = val 4294967296 (os.take off) + 4294967296 ^ off * (m + 4294967296 ^ n * val 4294967296 (os.drop (off + n))):=by
  unfold laid;rw [List.append_assoc,fD,fD,fD,eO,bX];simp only[List.length_take,List.length_append,List.length_replicate];rw [Nat.min_eq_left (by omega),show (digs 4294967296 m).length + (n - (digs 4294967296 m).length) = n by omega];simp
 rw [e1,e2]
 grind
theorem Tx {cs us vs : List Value} {off : Nat} (h : off + us.length ≤ cs.length) (hm : vs.length ≤ us.length) : bG (bG cs off us) off vs = cs.take off ++ (vs ++ us.drop vs.length) ++ cs.drop (off + us.length):=by
 have hA : (cs.take off).length = off:=by simp;omega
 unfold bG;generalize cs.take off = A at *
 generalize cs.drop (off + us.length) = C at *
 subst hA;rw [List.append_assoc A us C,List.take_left' rfl,List.drop_append,List.drop_eq_nil_of_le (by omega),Nat.add_sub_cancel_left,List.drop_append_of_le_length hm];simp
theorem Ty {os : List Nat} {off n m : Nat} (h : off + n ≤ os.length) (hm : (digs 4294967296 m).length ≤ n) :
 bG (bG (os.map jF) off (List.replicate n (.int .u64 0))) off ((digs 4294967296 m).map jF) = (laid os off n m).map jF:=by
 rw [Tx (by simpa using h) (by simpa using hm)];simp [laid,List.drop_replicate,jF,List.map_take,List.map_drop]
end Go.Lith
namespace Go.Lith
theorem pN {B : Nat} (xs : List Nat) {k : Nat} (hk : k ≤ xs.length) : val B xs = val B (xs.take k) + B ^ k * val B (xs.drop k):=by
 conv=>lhs;rw [← List.take_append_drop k xs]
 rw [fD,List.length_take,Nat.min_eq_left hk]
theorem Xr {P U V two top q : Nat} (hP : 0 < P) (hU : U < (two + 1) * P) (hV : top * P ≤ V) (hq : q * V ≤ U) (ht : 0 < top) : q ≤ two / top:=by
 rw [Nat.le_div_iff_mul_le ht];have h1 : q * (top * P) ≤ q * V:=Nat.mul_le_mul_left _ hV;have h2 : (q * top) * P < (two + 1) * P:=by rw [Nat.mul_assoc];omega
 have:=Nat.lt_of_mul_lt_mul_right h2;omega
theorem Xs {P U V two3 v2 q g : Nat} (hP : 0 < P) (hU : U < (two3 + 1) * P) (hV : v2 * P ≤ V) (hq : q * V ≤ U) (h : two3 < g * v2) : q < g:=by
 rcases Nat.lt_or_ge q g with hlt | hge
 · exact hlt
 · exfalso
   have h1 : g * (v2 * P) ≤ q * V:=Nat.mul_le_mul hge hV;have h2 : (g * v2) * P < (two3 + 1) * P:=by rw [Nat.mul_assoc];omega
   have:=Nat.lt_of_mul_lt_mul_right h2;omega
theorem Lb {P U V two3 v2 q g : Nat} (hU : two3 * P ≤ U) (hV : V < (v2 + 1) * P) (hq : U < (q + 1) * V) (h : g * v2 ≤ two3) (hg : g ≤ v2) : g ≤ q + 1:=by
 rcases Nat.lt_or_ge (q + 1) g with hlt | hge
 · exfalso
   obtain ⟨e,rfl⟩ : ∃ e,g = e + 1:=⟨g - 1,by omega⟩
   have h1 : (q + 1) * V ≤ e * V:=Nat.mul_le_mul_right _ (by omega);have h2 : e * V ≤ e * ((v2 + 1) * P):=Nat.mul_le_mul_left _ (Nat.le_of_lt hV);have h3 : two3 * P < (e * (v2 + 1)) * P:=by rw [Nat.mul_assoc];omega
   have h4:=Nat.lt_of_mul_lt_mul_right h3;rw [Nat.mul_add] at h4;rw [Nat.add_mul] at h;omega
 · exact hge
theorem Gq {U V q g : Nat} (hq : q * V ≤ U) (hq2 : U < (q + 1) * V) (h1 : q ≤ g) (h2 : g ≤ q + 1) : (U < V * g → g - 1 = q) ∧ (¬ U < V * g → g = q):=by
 constructor
 · intro h
   rcases Nat.lt_or_ge q g with hlt | hge
   · omega
   · have : V * g ≤ V * q:=Nat.mul_le_mul_left _ hge
     rw [Nat.mul_comm V q] at this;omega
 · intro h
   rcases Nat.lt_or_ge q g with hlt | hge
   · have : (q + 1) * V ≤ g * V:=Nat.mul_le_mul_right _ hlt
     rw [Nat.mul_comm V g] at h;omega
   · omega
theorem Fy {os : List Nat} {off n m : Nat} (h : off + n ≤ os.length) (hm : (digs 4294967296 m).length ≤ n) : val 4294967296 ((laid os off n m).drop off) = m + 4294967296 ^ n * val 4294967296 (os.drop (off + n)):=by
 have hA : (os.take off).length = off:=by simp;omega
 unfold laid;rw [List.append_assoc,List.drop_append,List.drop_eq_nil_of_le (by omega),hA,Nat.sub_self,List.drop_zero,List.nil_append,fD,fD,eO,bX];simp only[List.length_append,List.length_replicate];rw [show (digs 4294967296 m).length + (n - (digs 4294967296 m).length) = n by omega];simp
theorem Gr {us vs : List Nat} {i : Nat} (hd : dB 4294967296 vs) (hi : i + vs.length + 1 ≤ us.length) (hH : val 4294967296 (us.drop (i + 1)) < val 4294967296 vs) : val 4294967296 (us.drop (i + (vs.length + 1))) = 0:=by
 have h1:=iN hd;have h2:=pN (B:=4294967296) (us.drop (i + 1)) (k:=vs.length) (by simp;omega);rw [List.drop_drop,show i + 1 + vs.length = i + (vs.length + 1) by omega] at h2;rcases Nat.eq_zero_or_pos (val 4294967296 (us.drop (i + (vs.length + 1)))) with h | h
 · exact h
 · have:=Nat.mul_le_mul_left (4294967296 ^ vs.length) h
   omega
theorem xE {us vs : List Nat} {i : Nat} (hd : dB 4294967296 vs) (hi : i + vs.length + 1 ≤ us.length) (hH : val 4294967296 (us.drop (i + 1)) < val 4294967296 vs) : val 4294967296 (us.drop i) = val 4294967296 ((us.drop i).take (vs.length + 1)):=by
 have h2:=pN (B:=4294967296) (us.drop i) (k:=vs.length + 1) (by simp;omega);rw [List.drop_drop,Gr hd hi hH,Nat.mul_zero,Nat.add_zero] at h2;exact h2
theorem abk {us vs : List Nat} {i : Nat} (hdu : dB 4294967296 us) (hi : i < us.length) (hH : val 4294967296 (us.drop (i + 1)) < val 4294967296 vs) : val 4294967296 (us.drop i) < 4294967296 * val 4294967296 vs:=by
 have e:=mT (B:=4294967296) (xs:=us) (k:=i + 1) (by omega) (by simpa using hi);simp only[Nat.add_sub_cancel] at e;have:=hdu us[i] (List.getElem_mem hi);omega
theorem Xt {us : List Nat} {j n : Nat} (hdu : dB 4294967296 us) (hn : 2 ≤ n) (h0 : j + n < us.length) :
 val 4294967296 ((us.drop j).take (n + 1)) = (us[j + n] * 4294967296 + us[j + n - 1]) * 4294967296 ^ (n - 1) + us[j + n - 2] * 4294967296 ^ (n - 2) + val 4294967296 ((us.drop j).take (n - 2)) ∧ val 4294967296 ((us.drop j).take (n - 2)) < 4294967296 ^ (n - 2):=by
 have hL : (us.drop j).length = us.length - j:=by simp
 have e1:=cW (B:=4294967296) (xs:=us.drop j) (i:=n) (by omega);have e2:=cW (B:=4294967296) (xs:=us.drop j) (i:=n - 1) (by omega);have e3:=cW (B:=4294967296) (xs:=us.drop j) (i:=n - 2) (by omega);rw [show n - 1 + 1 = n by omega] at e2;rw [show n - 2 + 1 = n - 1 by omega] at e3;simp only[List.getElem_drop] at e1 e2 e3;have x2 : us[j + (n - 1)] = us[j + n - 1]:=getElem_congr rfl (by omega) _;have x3 : us[j + (n - 2)] = us[j + n - 2]:=getElem_congr rfl (by omega) _;rw [x2] at e2;rw [x3] at e3;have hp : (4294967296 : Nat) ^ n = 4294967296 * 4294967296 ^ (n - 1):=by rw [← Nat.pow_succ'];congr 1;omega
 have hl:=iN ((hdu.drop j).take (n - 2));rw [List.length_take,Nat.min_eq_left (by omega)] at hl;refine ⟨?_,hl⟩;rw [e1,e2,e3,hp]
 grind
theorem rM {a b : Nat} : Xi a b < 0 ↔ a < b:=by
 have:=@Xo a b;simpa using this
theorem fI.self {w : World} {A : Option Addr} {n c : Nat} {xs : List Nat} (h : cQ w A n c xs) (t : fN xs) : fI (val 4294967296 xs) (.slice A n c) w:=by
 have:=fI.of_trim h rfl;rw [t] at this;rw [h.eq];exact this
theorem fI.zero (w : World) : fI 0 (.slice none 0 0) w:=⟨none,0,rfl,cQ.nil w⟩
theorem Aq {xs : List Nat} (t : fN xs) (h : 0 < xs.length) : 0 < xs[xs.length - 1]:=by
 rcases Nat.eq_zero_or_pos (xs[xs.length - 1]) with h0 | h0
 · exfalso
   have e:=yQ (xs:=xs) (k:=xs.length) h (by omega);rw [List.take_length,h0] at e;have t2 : trim xs = trim (xs.take (xs.length - 1)):=by conv=>lhs;rw [e,lS]
   have t3 : (trim xs).length = xs.length:=by rw [t]
   have t4:=sZ (xs.take (xs.length - 1));rw [← t2,t3] at t4;simp at t4;omega
 · exact h0
theorem oN {w : World} {g : Nat} {os : List Nat} (h : fX w g (os.map jF) 126) (hd : dB 4294967296 os) (hl : os.length ≤ 17592186044416) : cQ w (some ⟨g,0,none⟩) (trim os).length os.length (trim os):=by
 have:=(h.nat hd rfl hl).take (trim os).length;rwa [← iU] at this
theorem Iy {ys : List Nat} (h : 0 < ys.length) : val 4294967296 ys = val 4294967296 (ys.take (ys.length - 1)) + 4294967296 ^ (ys.length - 1) * ys[ys.length - 1]:=by
 have e:=cW (B:=4294967296) (xs:=ys) (i:=ys.length - 1) (by omega);rw [show ys.length - 1 + 1 = ys.length by omega,List.take_length] at e;exact e
theorem Tz {vs ys : List Nat} {sh : Nat} (hdv : dB 4294967296 vs) (hvv : val 4294967296 vs = 2 ^ sh * val 4294967296 ys) (hdy : dB 4294967296 ys) (h : 0 < ys.length) (hsh : ys[ys.length - 1] * 2 ^ sh < 4294967296) (ht : 0 < ys[ys.length - 1]) (hs : sh ≤ 31) : (trim vs).length = ys.length:=by
 have e : trim vs = digs 4294967296 (2 ^ sh * val 4294967296 ys):=rK (by omega) hdv hvv;have hv:=Iy h;have hl:=iN (hdy.take (ys.length - 1));rw [List.length_take,Nat.min_eq_left (by omega)] at hl;have hp : 0 < 2 ^ sh:=Nat.pow_pos (by omega);have hsp:=qH (n:=sh) (by omega);have hB : (4294967296 : Nat) ^ ys.length = 4294967296 ^ (ys.length - 1) * 4294967296:=by rw [← Nat.pow_succ];congr 1;omega
 have hQ : (trim vs).length < ys.length → (4294967296 : Nat) ^ (trim vs).length ≤ 4294967296 ^ (ys.length - 1):=fun h=>Nat.pow_le_pow_right (by omega) (by omega);generalize 4294967296 ^ (ys.length - 1) = Q at *
 generalize ys[ys.length - 1] = t at *
 generalize val 4294967296 (ys.take (ys.length - 1)) = l at *
 have h1 : t + 1 ≤ 2 ^ (32 - sh):=by
  rw [hsp,Nat.mul_comm] at hsh;exact Nat.lt_of_mul_lt_mul_left hsh
 have h2 : 2 ^ sh * (t + 1) ≤ 4294967296:=by rw [hsp];exact Nat.mul_le_mul_left _ h1
 have h3 : val 4294967296 ys < Q * (t + 1):=by rw [hv,Nat.mul_add];omega
 have h4 : 2 ^ sh * val 4294967296 ys < 4294967296 ^ ys.length:=by
  rw [hB]
  calc 2 ^ sh * val 4294967296 ys < 2 ^ sh * (Q * (t + 1)):=Nat.mul_lt_mul_of_pos_left h3 hp
   _ = Q * (2 ^ sh * (t + 1)):=by grind
   _ ≤ Q * 4294967296:=Nat.mul_le_mul_left _ h2
 have h5:=dY (by omega) h4;rw [← e] at h5;rcases Nat.lt_or_ge (trim vs).length ys.length with hlt | hge
 · exfalso
   have h6:=iN hdv.trim;rw [sX,hvv] at h6;have h7:=hQ hlt;have h8 : Q * 1 ≤ Q * t:=Nat.mul_le_mul_left _ ht;have h9 : 1 * val 4294967296 ys ≤ 2 ^ sh * val 4294967296 ys:=Nat.mul_le_mul_right _ hp;omega
 · omega
theorem Ua {ys : List Nat} {sh : Nat} (h : 0 < ys.length) (h31 : 2147483648 ≤ ys[ys.length - 1] * 2 ^ sh) : 2147483648 * 4294967296 ^ (ys.length - 1) ≤ 2 ^ sh * val 4294967296 ys:=by
 rw [Iy h];generalize 4294967296 ^ (ys.length - 1) = Q at *
 generalize ys[ys.length - 1] = t at *
 have h1 : 2147483648 * Q ≤ t * 2 ^ sh * Q:=Nat.mul_le_mul_right _ h31;rw [Nat.mul_add];have h2 : 2 ^ sh * (Q * t) = t * 2 ^ sh * Q:=by grind
 rw [h2];exact Nat.le_trans h1 (Nat.le_add_left _ _)
theorem Xu {us xs : List Nat} {sh l V : Nat} (hdx : dB 4294967296 xs) (hlu : us.length = xs.length + 1) (hvu : val 4294967296 us = 2 ^ sh * val 4294967296 xs) (hl : l ≤ xs.length) (h0 : 0 < l) (hs : sh ≤ 31) (hV : 2147483648 * 4294967296 ^ (l - 1) ≤ V) : val 4294967296 (us.drop (xs.length + 1 - l)) < V:=by
 have e:=pN (B:=4294967296) us (k:=xs.length + 1 - l) (by omega);have hx:=iN hdx;have hp : (4294967296 : Nat) ^ xs.length = 4294967296 ^ (xs.length + 1 - l) * 4294967296 ^ (l - 1):=by rw [← Nat.pow_add];congr 1;omega
 have hs2 : 2 ^ sh ≤ 2 ^ 31:=Nat.pow_le_pow_right (by omega) hs;rcases Nat.lt_or_ge (val 4294967296 (us.drop (xs.length + 1 - l))) V with h | h
 · exact h
 · exfalso
   generalize val 4294967296 (us.drop (xs.length + 1 - l)) = D at *
   generalize val 4294967296 (us.take (xs.length + 1 - l)) = T at *
   have h1 : 4294967296 ^ (xs.length + 1 - l) * (2147483648 * 4294967296 ^ (l - 1)) ≤ 4294967296 ^ (xs.length + 1 - l) * D:=Nat.mul_le_mul_left _ (Nat.le_trans hV h);have h2 : 4294967296 ^ (xs.length + 1 - l) * (2147483648 * 4294967296 ^ (l - 1)) = 2147483648 * 4294967296 ^ xs.length:=by rw [hp];grind
   have h3 : 2 ^ sh * val 4294967296 xs ≤ 2147483648 * val 4294967296 xs:=Nat.mul_le_mul_right _ hs2;generalize 4294967296 ^ (xs.length + 1 - l) * D = Z at *
   rw [h2] at h1;generalize (4294967296 : Nat) ^ xs.length = W' at *
   omega
theorem Xv {X Y p u q : Nat} (hp : 0 < p) (h : u + q * (p * Y) = p * X) (hu : u < p * Y) : q = X / Y ∧ u / p = X % Y:=by
 have hY : 0 < Y:=by
  rcases Nat.eq_zero_or_pos Y with h0 | h0
  · subst h0;omega
  · exact h0
 have hd : p ∣ u:=by
  have h1 : p ∣ u + q * (p * Y):=h ▸ Nat.dvd_mul_right p X;have h2 : p ∣ q * (p * Y):=⟨q * Y,by grind⟩
  exact (Nat.dvd_add_iff_left h2).2 h1
 obtain ⟨r,rfl⟩:=hd;have h3 : p * (r + q * Y) = p * X:=by rw [← h];grind
 have h4:=Nat.eq_of_mul_eq_mul_left hp h3;have h5:=Nat.lt_of_mul_lt_mul_left hu;rw [Nat.mul_div_cancel_left _ hp];have:=Cp (a:=X) (q:=q) (r:=r) hY h5 (by rw [← h4];grind);exact this
theorem ac2 {vs : List Nat} (hd : dB 4294967296 vs) (h : 2 ≤ vs.length) : val 4294967296 vs = (vs[vs.length - 1] * 4294967296 + vs[vs.length - 2]) * 4294967296 ^ (vs.length - 2) + val 4294967296 (vs.take (vs.length - 2)) ∧ val 4294967296 (vs.take (vs.length - 2)) < 4294967296 ^ (vs.length - 2):=by
 have e1:=Iy (ys:=vs) (by omega);have e2:=cW (B:=4294967296) (xs:=vs) (i:=vs.length - 2) (by omega);rw [show vs.length - 2 + 1 = vs.length - 1 by omega] at e2;have hl:=iN (hd.take (vs.length - 2));rw [List.length_take,Nat.min_eq_left (by omega)] at hl;refine ⟨?_,hl⟩;have hp : (4294967296 : Nat) ^ (vs.length - 1) = 4294967296 * 4294967296 ^ (vs.length - 2):=by rw [← Nat.pow_succ'];congr 1;omega
 rw [e1,e2,hp]
 grind
theorem Ub {us ds : List Nat} {i two top sec a3 U : Nat} (hdu : dB 4294967296 us) (hdd : dB 4294967296 ds) (h2 : 2 ≤ ds.length) (hi : i + ds.length < us.length) (hH : val 4294967296 (us.drop (i + 1)) < val 4294967296 ds)
 (htwo : two = us[i + ds.length - 1] + us[i + ds.length] * 4294967296) (htop : top = ds[ds.length - 1]) (hsec : sec = ds[ds.length - 2]) (ha3 : a3 = us[i + ds.length - 2]) (hU : U = val 4294967296 (us.drop i)) :
 ∃ P,0 < P ∧ U < (two + 1) * (4294967296 * P) ∧ top * (4294967296 * P) ≤ val 4294967296 ds ∧ U < (two * 4294967296 + a3 + 1) * P ∧ (two * 4294967296 + a3) * P ≤ U ∧ (top * 4294967296 + sec) * P ≤ val 4294967296 ds ∧ val 4294967296 ds < (top * 4294967296 + sec + 1) * P ∧ U < 4294967296 * val 4294967296 ds:=by
 obtain ⟨hpt,hpl⟩:=Xt hdu h2 hi;obtain ⟨hvt,hvl⟩:=ac2 hdd h2;have hUB:=abk hdu (by omega) hH;rw [← xE hdd (by omega) hH,← hU] at hpt;rw [← hU] at hUB;have hp : (4294967296 : Nat) ^ (ds.length - 1) = 4294967296 * 4294967296 ^ (ds.length - 2):=by rw [← Nat.pow_succ'];congr 1;omega
 have ha : us[i + ds.length - 2] < 4294967296:=hdu _ (List.getElem_mem _);rw [hp,← ha3] at hpt;rw [← ha3] at ha;rw [← htop,← hsec] at hvt;rw [Nat.add_comm (us[i + ds.length] * 4294967296),← htwo] at hpt;refine ⟨4294967296 ^ (ds.length - 2),Nat.pow_pos (by decide),?_⟩;generalize (4294967296 : Nat) ^ (ds.length - 2) = P at *
 generalize val 4294967296 ((us.drop i).take (ds.length - 2)) = lu at *
 generalize val 4294967296 (ds.take (ds.length - 2)) = ld at *
 generalize val 4294967296 ds = V at *
 have h3 : (a3 + 1) * P ≤ 4294967296 * P:=Nat.mul_le_mul_right _ ha;have e1 : (two * 4294967296 + a3) * P = two * (4294967296 * P) + a3 * P:=by grind
 have e2 : (top * 4294967296 + sec) * P = top * (4294967296 * P) + sec * P:=by grind
 rw [Nat.add_mul,Nat.one_mul] at h3;refine ⟨?_,?_,?_,?_,?_,?_,hUB⟩
 · rw [Nat.add_mul,Nat.one_mul];omega
 · rw [hvt,e2];omega
 · rw [Nat.add_mul,e1];omega
 · rw [e1];omega
 · rw [hvt];omega
 · rw [hvt,Nat.add_mul (top * 4294967296 + sec)];omega
theorem abl {a b : Nat} (h : a * b < 18446744073709551616) : IntKind.u64.wrap ((a : Int) * (b : Int)) = ((a * b : Nat) : Int):=by
 rw [← Int.natCast_mul];generalize a * b = c at *
 exact eM (by omega) (by omega)
theorem Oo {g r top sec two a3 : Nat} (h : g * top + r = two) (hx : a3 + r * 4294967296 < g * sec) : two * 4294967296 + a3 < g * (top * 4294967296 + sec):=by
 subst h;have : g * (top * 4294967296 + sec) = g * top * 4294967296 + g * sec:=by grind
 rw [this,Nat.add_mul];omega
theorem Cq {g r top sec two a3 : Nat} (h : g * top + r = two) (hx : g * sec ≤ a3 + r * 4294967296) : g * (top * 4294967296 + sec) ≤ two * 4294967296 + a3:=by
 subst h;have : g * (top * 4294967296 + sec) = g * top * 4294967296 + g * sec:=by grind
 rw [this,Nat.add_mul];omega
theorem Xw {g s r a : Nat} (hg : g < 4294967296) (hs : s < 4294967296) (hr : 4294967296 ≤ r) : g * s ≤ a + r * 4294967296:=by
 have h1 : g * s ≤ 4294967296 * 4294967296:=Nat.mul_le_mul (by omega) (by omega);omega
theorem uQ {g q cap : Nat} (h : ¬ cap = q) : (if cap = q then some (⟨g,0,none⟩ : Addr) else (some (⟨g,0,none⟩ : Addr)).map (·.add (q * 1))) = some ⟨g,q,none⟩:=by
 rw [if_neg h];simp [fQ]
theorem uR {us qs ds : List Nat} {i q U S : Nat} (hdd : dB 4294967296 ds) (hdu : dB 4294967296 us) (hi : i + ds.length < us.length) (hH : val 4294967296 (us.drop (i + 1)) < val 4294967296 ds) (hU : U = val 4294967296 (us.drop i)) (hq1 : q * val 4294967296 ds ≤ U) (hq2 : U < (q + 1) * val 4294967296 ds) (hI : val 4294967296 us + val 4294967296 qs * val 4294967296 ds = S) (hz : qs.take (i + 1) = List.replicate (i + 1) 0) (hiq : i < qs.length) :
 val 4294967296 (laid us i (ds.length + 1) (val 4294967296 ((us.drop i).take (ds.length + 1)) - val 4294967296 ds * q)) + val 4294967296 (qs.set i q) * val 4294967296 ds = S ∧ val 4294967296 ((laid us i (ds.length + 1) (val 4294967296 ((us.drop i).take (ds.length + 1)) - val 4294967296 ds * q)).drop i) < val 4294967296 ds ∧ (qs.set i q).take i = List.replicate i 0 ∧ (laid us i (ds.length + 1) (val 4294967296 ((us.drop i).take (ds.length + 1)) - val 4294967296 ds * q)).length = us.length:=by
 have hp:=xE hdd (by omega) hH;rw [← hp,← hU];have hm : (digs 4294967296 (U - val 4294967296 ds * q)).length ≤ ds.length + 1:=by
  refine dY (by omega) (Nat.lt_of_le_of_lt (Nat.sub_le _ _) ?_);have h:=iN ((hdu.drop i).take (ds.length + 1));rw [List.length_take,Nat.min_eq_left (by simp;omega),← hp,← hU] at h;exact h
 have hqc : q * val 4294967296 ds = val 4294967296 ds * q:=Nat.mul_comm _ _;refine ⟨?_,?_,?_,La (by omega) hm⟩
 · have e1:=Xq (os:=us) (off:=i) (n:=ds.length + 1) (m:=U - val 4294967296 ds * q) (by omega) hm
   rw [← hp,← hU] at e1;have e2:=kS (B:=4294967296) (os:=qs) (j:=i) (d:=q) hiq;have e3 : qs[i] = 0:=by
    have h:=congrArg (fun l=>l[i]?) hz;simp only[List.getElem?_take] at h;rw [if_pos (by omega),List.getElem?_eq_getElem hiq,List.getElem?_replicate,if_pos (by omega)] at h;exact Option.some.inj h
   rw [e3,Nat.mul_zero,Nat.add_zero] at e2;rw [e2,← hI];obtain ⟨r,hr⟩ : ∃ r,U = val 4294967296 ds * q + r:=⟨U - val 4294967296 ds * q,by omega⟩
   rw [hr] at e1 ⊢;rw [Nat.add_sub_cancel_left] at e1 ⊢;generalize val 4294967296 (laid us i (ds.length + 1) r) = L at *
   generalize (4294967296 : Nat) ^ i = Q at *
   generalize val 4294967296 ds = V at *
   generalize val 4294967296 us = W' at *
   generalize val 4294967296 qs = Z at *
   grind
 · rw [Fy (by omega) hm,Gr hdd (by omega) hH,Nat.mul_zero,Nat.add_zero]
   rw [Nat.add_mul,Nat.one_mul] at hq2;omega
 · rw [List.take_set_of_le (Nat.le_refl i)]
   have h:=congrArg (List.take i) hz;rw [List.take_take,Nat.min_eq_left (by omega),List.take_replicate,Nat.min_eq_left (by omega)] at h;exact h
end Go.Lith
namespace Go.Lith
theorem Iz {r : Nat} (h : r ≤ 4) : (4294967296 : Nat) = 256 ^ r * 256 ^ (4 - r):=by rw [← Nat.pow_add,show r + (4 - r) = 4 by omega]
theorem Cr (r : Nat) : (256 : Nat) ^ r = 2 ^ (8 * r):=by rw [show 256 = 2 ^ 8 from rfl,← Nat.pow_mul]
theorem Xx {x b r : Nat} (hr : r < 4) (hx : x < 4294967296) (hd : 256 ^ (r + 1) ∣ x) (hb : b < 256) : x + b * 256 ^ r < 4294967296:=by
 obtain ⟨c,rfl⟩:=hd;have e:=Iz (r:=r + 1) (by omega);rw [e] at hx ⊢;have h1:=Nat.lt_of_mul_lt_mul_left hx;have h2 : 256 ^ (r + 1) * (c + 1) ≤ 256 ^ (r + 1) * 256 ^ (4 - (r + 1)):=Nat.mul_le_mul_left _ h1;rw [Nat.mul_add,Nat.mul_one] at h2;have h3 : (b + 1) * 256 ^ r ≤ 256 * 256 ^ r:=Nat.mul_le_mul_right _ hb;have h4 : (256 : Nat) ^ (r + 1) = 256 * 256 ^ r:=Nat.pow_succ';have h5 : 0 < (256 : Nat) ^ r:=Nat.pow_pos (by omega);rw [Nat.add_mul,Nat.one_mul] at h3;generalize 256 ^ (r + 1) * 256 ^ (4 - (r + 1)) = Z at *
 generalize 256 ^ (r + 1) * c = Y at *
 omega
theorem Uc {os bs : List Nat} {p j r : Nat} (hp : p < bs.length) (hpj : p = 4 * j + r) (hr : r < 4) (hj : j < os.length) (hd : dB 4294967296 os) (hb : dB 256 bs) (hdv : ∀ (i : Nat) (h : i < os.length),256 ^ (p + 1 - 4 * i) ∣ os[i]) (hv : val 4294967296 os = 256 ^ (p + 1) * val 256 (bs.drop (p + 1))) :
 os[j] + bs[p] * 256 ^ r < 4294967296 ∧ 256 ^ (r + 1) ∣ os[j] ∧ (∀ (i : Nat) (h : i < (os.set j (os[j] + bs[p] * 256 ^ r)).length),256 ^ (p - 4 * i) ∣ (os.set j (os[j] + bs[p] * 256 ^ r))[i]) ∧ val 4294967296 (os.set j (os[j] + bs[p] * 256 ^ r)) = 256 ^ p * val 256 (bs.drop p):=by
 have h1:=hdv j hj;rw [show p + 1 - 4 * j = r + 1 by omega] at h1;have hx:=hd _ (List.getElem_mem hj);have hby:=hb _ (List.getElem_mem hp);refine ⟨Xx hr hx h1 hby,h1,?_,?_⟩
 · intro i h
   by_cases e : i = j
   · subst e
     rw [List.getElem_set_self,show p - 4 * i = r by omega];exact Nat.dvd_add (Nat.dvd_trans (Nat.pow_dvd_pow 256 (by omega)) h1) (Nat.dvd_mul_left _ _)
   · rw [List.getElem_set_ne (by omega)]
     exact Nat.dvd_trans (Nat.pow_dvd_pow 256 (by omega)) (hdv i (by simpa using h))
 · have e1:=kS (B:=4294967296) (os:=os) (j:=j) (d:=os[j] + bs[p] * 256 ^ r) hj
   have e2:=mT (B:=256) (xs:=bs) (k:=p + 1) (by omega) (by simpa using hp);simp only[Nat.add_sub_cancel] at e2;have e3 : (4294967296 : Nat) ^ j * 256 ^ r = 256 ^ p:=by
    rw [show (4294967296 : Nat) = 256 ^ 4 from rfl,← Nat.pow_mul,← Nat.pow_add,hpj]
   rw [e2,← e3];rw [Nat.pow_succ,← e3] at hv;generalize (4294967296 : Nat) ^ j = Q at *
   generalize (256 : Nat) ^ r = R at *
   generalize val 256 (bs.drop (p + 1)) = D at *
   generalize val 4294967296 (os.set j (os[j] + bs[p] * R)) = L at *
   generalize val 4294967296 os = M at *
   subst hv
   grind
end Go.Lith
namespace Go.Lith
open Go.RowKit
def pO (w : World) (S : World → Prop) : Prop:=S w
theorem pO.nil {w : World} : pO w (fun _=>True):=trivial
theorem pO.blk {w : World} {g : Nat} {cs : List Value} {t : TypeId} {S : World → Prop} (h : fX w g cs t) (k : pO w S) : pO w (fun w=>fX w g cs t ∧ S w):=⟨h,k⟩
section
variable {P : Program} {ops : Array Oper} {md : Region.Mode} {S : World → Prop}
def cS (P : Program) (ops : Array Oper) (S : World → Prop) (Q : Exit → Act → World → Prop) : List (Oper × Bool) → Act → World → Prop
 | [],a,w=>Q .normal a w
 | (o,true) :: r,a,w=>∃ v,YieldsIf P ops S o v a ∧ cS P ops S Q r (a.put o.dst v) w
 | (o,false) :: r,a,w=>wpList P ops (Exit.then (fun a w=>S w ∧ cS P ops S Q r a w) Q) [o] a w
theorem pP {Q : Exit → Act → World → Prop} (hs : Region.noSelect ops = true) (hQ : ∀ c d v a w,Q (.panic c) (Act.put a d v) w → Q (.panic c) a w) : ∀ (l : List (Nat × Bool)) (listed : Array Bool) (a : Act) (w : World),
 yO md ops l listed = true → S w → cS P ops S Q (l.map fun x=>((ops[x.1]?).getD default,x.2)) a w → wpAnyH P md ops Q S l.length listed a w
 | [],listed,a,w,hB,_,h=>⟨by simpa [yO] using hB,h⟩
 | (i,true) :: r,listed,a,w,hB,hS,h=>by
  simp only[yO,Bool.and_eq_true] at hB;obtain ⟨⟨⟨h1,h2⟩,h3⟩,h4⟩:=hB;obtain ⟨o,ho⟩:=Option.isSome_iff_exists.1 h1;simp only[List.map_cons,cS,ho,Option.getD_some] at h;obtain ⟨v,hy,hr⟩:=h;exact wpAnyH_take ho hs h2 h3 (fun c a w=>hQ c _ v a w) hy hS (pP hs hQ r _ _ _ h4 hS hr)
 | (i,false) :: r,listed,a,w,hB,hS,h=>by
  simp only[yO,Bool.and_eq_true,decide_eq_true_eq] at hB;obtain ⟨⟨h1,h2⟩,h4⟩:=hB;obtain ⟨o,ho⟩:=Option.isSome_iff_exists.1 h1;refine wpAnyH_all h2 (by simp) fun j hj=>?_;obtain rfl : j = i:=by simpa using hj
  simp only[List.map_cons,cS,ho,Option.getD_some] at h;have key : ∀ a' w',Exit.then (fun a w=>S w ∧ cS P ops S Q (r.map fun x=>((ops[x.1]?).getD default,x.2)) a w) Q .normal a' w' → S w' ∧ wpAnyH P md ops Q S r.length (listed.setIfInBounds j true) a' w':=fun a' w' hh=>⟨hh.1,pP hs hQ r _ a' w' h4 hh.1 hh.2⟩
  unfold wpOp;simp only[ho];simp only[wpList] at h;split
  · rename_i hw
    rw [if_pos hw] at h;rcases h with h | ⟨ha,x,y,hl⟩
    · refine .inl ?_
      unfold Oper.wp at h ⊢;generalize (execOp a.eval o).run P w = res at *
      cases res with
      | ok n w' =>
       cases n <;> simp only[Oper.upon] at h ⊢ <;>
        first
         | exact key _ _ h
         | exact Calls.mono h (fun e w'' he=>by cases e <;> first | exact key _ _ he | exact he)
         | exact Rows.mono h (fun _ _ he=>key _ _ he)
      | halt x w'=>cases x <;> simp only[Oper.upon] at h ⊢ <;> exact h
    · exact .inr ⟨ha,x,y,hl⟩
  · rename_i hw
    rw [if_neg hw] at h;exact key _ _ h
theorem gD {id : Nat} {Q : Exit → Act → World → Prop} {a : Act} {w : World} {l : List Oper} (o : List (Nat × Bool)) (hm : P.follows .mixedOrders = true) (hB : (Region.noSelect l.toArray && decide (o.length = l.length) && yO .any l.toArray o (Array.replicate l.toArray.size false)) = true)
 (hQ : ∀ c d v a w,Q (.panic c) (Act.put a d v) w → Q (.panic c) a w) {ol : List (Oper × Bool)} (hol : (o.map fun x=>((l.toArray[x.1]?).getD default,x.2)) = ol)
 (h : ∀ w',dD w w' → ∃ S,pO w' S ∧ cS P l.toArray S Q ol a w') : (Code.region id l.toArray true).wp P Q a w:=by
 simp only[Bool.and_eq_true,decide_eq_true_eq] at hB;subst hol;obtain ⟨S,hS,h⟩:=h _ (dD.refl w).drawn;refine wp_region_held (S:=S) hm ?_;have:=pP (md:=.any) hB.1.1 hQ o _ a { w with drawn:=w.drawn + 1 } hB.2 hS h;rwa [hB.1.2] at this
variable {ds : List Deferred} {l : List Value} {Q : Exit → Act → World → Prop} {w : World} {rest : List (Oper × Bool)} {d : Nat} {op : Op} {ty : TypeId} {pos : String} {after : Array Edge} {v : Value}
theorem Xy (hr : ∀ w,S w → vX P l op ty v w) (h : cS P ops S Q rest (Fr (l.set d v) ds) w) : cS P ops S Q ((Oper.mk (some d) op ty pos after none,true) :: rest) (Fr l ds) w:=by
 refine ⟨v,.inl ⟨by simp [Region.wanted],fun w hw=>hr w hw _ rfl rfl⟩,?_⟩;show cS P ops S Q rest ((Fr l ds).put (some d) v) w
 rw [iJ];exact h
theorem bO (hr : gE P l op ty v) (h : cS P ops S Q rest (Fr (l.set d v) ds) w) : cS P ops S Q ((Oper.mk (some d) op ty pos after none,true) :: rest) (Fr l ds) w:=Xy (fun w _=>hr w) h
theorem dU {T : TypeId} {x : Operand} {a : Addr} (hx : ev l x = .pointer (some a)) (hv : ∀ w',S w' → vF P w' T a v) (h : cS P ops S Q rest (Fr (l.set d v) ds) w) : cS P ops S Q ((Oper.mk (some d) (.load T x) ty pos after none,true) :: rest) (Fr l ds) w :=
 Xy (fun _ hS=>cF hx (hv _ hS)) h
theorem eF (h : Q .normal (Fr l ds) w) : cS P ops S Q [] (Fr l ds) w:=h
theorem dT {o : Oper} (h : wpList P ops (Exit.then (fun a w=>S w ∧ cS P ops S Q rest a w) Q) [o] (Fr l ds) w) : cS P ops S Q ((o,false) :: rest) (Fr l ds) w:=h
end
end Go.Lith
namespace Go.Lith
open Go.RowKit
def sK (P : Program) (d : Nat) (T : TypeId) (x y : Value) (p : Prop) : Prop:=∀ w,∃ b : Bool,(Op.equalIn d T x y).run P w = .ok b w ∧ (b = true ↔ p)
section
variable {P : Program} {d : Nat} {T : TypeId}
theorem sK.int {k k' : IntKind} {m n : Int} (hu : P.underlying T = some (.int k')) : sK P (d + 1) T (.int k m) (.int k n) (m = n):=fun w=>⟨m == n,by unfold Op.equalIn;simp [run_underlying hu],by simp⟩
theorem sK.bool {a b : Bool} (hu : P.underlying T = some .bool) : sK P (d + 1) T (.bool a) (.bool b) (a = b):=fun w=>⟨a == b,by unfold Op.equalIn;simp [run_underlying hu],by simp⟩
theorem Cs {a b : ByteArray} (h : a.toList = b.toList) : a = b:=by
 rw [ByteArray.toList_eq,ByteArray.toList_eq] at h;cases a;cases b;simp at h;rw [h]
theorem Ja (a b : ByteArray) : (a.toList == b.toList) = decide (a = b):=by
 by_cases h : a = b
 · subst h;simp
 · rw [decide_eq_false h];exact beq_eq_false_iff_ne.2 fun e=>h (Cs e)
theorem sK.str {a b : ByteArray} (hu : P.underlying T = some .string) : sK P (d + 1) T (.string a) (.string b) (a = b):=fun w=>⟨a == b,by unfold Op.equalIn;simp [run_underlying hu],by rw [beq_toListBytes,Ja];simp⟩
def vG (P : Program) (d : Nat) (xs ys : Array Value) (fs : List Field) (p : Prop) : Prop:=∀ w,∃ b : Bool,(Op.eqFields d xs ys fs).run P w = .ok b w ∧ (b = true ↔ p)
theorem vG.nil {xs ys : Array Value} : vG P d xs ys [] True:=fun w=>⟨true,by simp [Op.eqFields],by simp⟩
theorem vG.cons {xs ys : Array Value} {f : Field} {fs : List Field} {x y : Value} {p q : Prop} (hn : f.name ≠ "_") (hx : ∀ w,(part f.type xs f.offset).run P w = .ok x w) (hy : ∀ w,(part f.type ys f.offset).run P w = .ok y w)
 (h : sK P d f.type x y p) (k : vG P d xs ys fs q) : vG P d xs ys (f :: fs) (p ∧ q):=fun w=>by
 obtain ⟨b,hb,hp⟩:=h w;obtain ⟨c,hc,hq⟩:=k w;cases b
 · exact ⟨false,by simp [Op.eqFields,hn,hx,hy,hb],by simp at hp ⊢;intro h;exact absurd h hp⟩
 · exact ⟨c,by simp [Op.eqFields,hn,hx,hy,hb,hc],by simp at hp;simp [hp,hq]⟩
def yS (P : Program) (d : Nat) (E : TypeId) (n : Nat) (xs ys : Array Value) (is : List Nat) (p : Prop) : Prop:=∀ w,∃ b : Bool,(Op.eqItems d E n xs ys is).run P w = .ok b w ∧ (b = true ↔ p)
theorem yS.nil {E : TypeId} {n : Nat} {xs ys : Array Value} : yS P d E n xs ys [] True:=fun w=>⟨true,by simp [Op.eqItems],by simp⟩
theorem yS.cons {E : TypeId} {n i : Nat} {is : List Nat} {xs ys : Array Value} {x y : Value} {p q : Prop} (hx : ∀ w,(part E xs (i * n)).run P w = .ok x w) (hy : ∀ w,(part E ys (i * n)).run P w = .ok y w)
 (h : sK P d E x y p) (k : yS P d E n xs ys is q) : yS P d E n xs ys (i :: is) (p ∧ q):=fun w=>by
 obtain ⟨b,hb,hp⟩:=h w;obtain ⟨c,hc,hq⟩:=k w;cases b
 · exact ⟨false,by simp [Op.eqItems,hx,hy,hb],by simp at hp ⊢;intro h;exact absurd h hp⟩
 · exact ⟨c,by simp [Op.eqItems,hx,hy,hb,hc],by simp at hp;simp [hp,hq]⟩
theorem sK.struct {fs : Array Field} {xs ys : Array Value} {p : Prop} (hu : P.underlying T = some (.struct fs)) (hs : P.stoodInHeld T = false) (h : vG P d xs ys fs.toList p) : sK P (d + 1) T (.agg xs) (.agg ys) p:=fun w=>by
 have hf : P.fieldsOf T = fs:=by simp [Program.fieldsOf,hu]
 rw [run_equalIn_struct w d T xs ys (by rw [hf];exact hu) hs,hf];exact h w
theorem sK.array {n c : Nat} {E : TypeId} {xs ys : Array Value} {p : Prop} (hu : P.underlying T = some (.array n E)) (hc : dW P E c) (h : yS P d E c xs ys (List.range n) p) : sK P (d + 1) T (.agg xs) (.agg ys) p:=fun w=>by
 obtain ⟨i,hi,rfl⟩:=hc;have hE : P.cellsOf E = i.size:=by simp [Program.cellsOf,hi]
 rw [run_equalIn_array w d xs ys hu hi,hE];exact h w
theorem sK.iff {x y : Value} {p q : Prop} (h : sK P d T x y p) (hpq : p ↔ q) : sK P d T x y q:=fun w=>let ⟨b,hb,hp⟩:=h w;⟨b,hb,hp.trans hpq⟩
theorem cX {xs : Array Value} {off : Nat} {v : Value} (hA : fR P T false) (hv : xs[off]? = some v) (w : World) : (part T xs off).run P w = .ok v w:=by simp [part,uM hA,hv]
theorem eP {xs us : Array Value} {off c : Nat} (hA : fR P T true) (hc : dW P T c) (hv : xs.extract off (off + c) = us) (w : World) : (part T xs off).run P w = .ok (.agg us) w:=by
 subst hv;simp [part,uM hA,eW hc]
variable {l : List Value} {x y : Operand} {T' ty : TypeId}
theorem rN {u v : Value} {p : Prop} [Decidable p] (h : sK P 10000 T u v p) (w : World) : (Op.equal T u v).run P w = .ok (decide p) w:=by
 obtain ⟨b,hb,hp⟩:=h w;rw [Op.equal,show Op.maxDepth = 10000 from rfl,hb]
 congr 1
 cases b
 · exact (decide_eq_false (by simpa using hp)).symm
 · exact (decide_eq_true (by simpa using hp)).symm
theorem Xz {xs ys : Array Value} {p : Prop} [Decidable p] (hg : P.eqGuardType P.depth T = false) (hx : ev l x = .agg xs) (hy : ev l y = .agg ys) (h : sK P 10000 T (.agg xs) (.agg ys) p) : gE P l (.binOp .eql T x y T') ty (.bool (decide p)):=fun w o ho _=>by
 simp [execOp,ho,cL,hx,hy,eqGuard,binOp,hg,rN h]
theorem Oq {xs ys : Array Value} {p : Prop} [Decidable p] (hg : P.eqGuardType P.depth T = false) (hx : ev l x = .agg xs) (hy : ev l y = .agg ys) (h : sK P 10000 T (.agg xs) (.agg ys) p) : gE P l (.binOp .neq T x y T') ty (.bool (decide (¬ p))):=fun w o ho _=>by
 simp [execOp,ho,cL,hx,hy,eqGuard,binOp,hg,rN h]
theorem ac3 {a b : Bool} (hu : P.underlying T = some .bool) (hx : ev l x = .bool a) (hy : ev l y = .bool b) : gE P l (.binOp .eql T x y T') ty (.bool (decide (a = b))):=fun w o ho _=>by
 have h:=rN (sK.bool (d:=9999) (a:=a) (b:=b) hu) w;simp [execOp,ho,cL,hx,hy,eqGuard,binOp,h]
theorem ac4 {a b : Bool} (hu : P.underlying T = some .bool) (hx : ev l x = .bool a) (hy : ev l y = .bool b) : gE P l (.binOp .neq T x y T') ty (.bool (decide (¬ a = b))):=fun w o ho _=>by
 have h:=rN (sK.bool (d:=9999) (a:=a) (b:=b) hu) w;simp [execOp,ho,cL,hx,hy,eqGuard,binOp,h]
theorem Ot {a b : ByteArray} (hu : P.underlying T = some .string) (hx : ev l x = .string a) (hy : ev l y = .string b) : gE P l (.binOp .eql T x y T') ty (.bool (decide (a = b))):=fun w o ho _=>by
 have h:=rN (sK.str (d:=9999) (a:=a) (b:=b) hu) w;simp [execOp,ho,cL,hx,hy,eqGuard,binOp,h,Op.stringOp,Ja]
theorem ac5 {a b : ByteArray} (hu : P.underlying T = some .string) (hx : ev l x = .string a) (hy : ev l y = .string b) : gE P l (.binOp .neq T x y T') ty (.bool (decide (¬ a = b))):=fun w o ho _=>by
 have h:=rN (sK.str (d:=9999) (a:=a) (b:=b) hu) w;simp [execOp,ho,cL,hx,hy,eqGuard,binOp,h,Op.stringOp,Ja]
end
end Go.Lith
namespace Go.Lith
def pQ (s : ByteArray) : List Nat:=s.data.toList.reverse.map UInt8.toNat
def ac6 (s : ByteArray) : Nat:=val 256 (pQ s)
theorem tA (s : ByteArray) : s.data.toList.length = s.size:=Array.length_toList
theorem vM (s : ByteArray) : (pQ s).length = s.size:=by simp only[pQ,List.length_map,List.length_reverse,tA]
theorem Lc (s : ByteArray) : dB 256 (pQ s):=fun x hx=>by
 obtain ⟨b,_,rfl⟩:=List.mem_map.1 hx;exact b.toNat_lt
theorem vN (s : ByteArray) (i : Nat) : s[i]? = s.data.toList[i]?:=by
 by_cases h : i < s.size
 · rw [getElem?_pos s i h,List.getElem?_eq_getElem (by rw [tA];omega)]
   rfl
 · rw [getElem?_neg s i h,List.getElem?_eq_none (by rw [tA];omega)]
theorem Ou {s : ByteArray} {i p : Nat} (h : p + 1 + i = s.size) : ∃ b,s[i]? = some b ∧ ∃ hp : p < (pQ s).length,(pQ s)[p] = b.toNat:=by
 have hs:=tA s;have hi : i < s.data.toList.length:=by omega
 refine ⟨s.data.toList[i],by rw [vN];exact List.getElem?_eq_getElem hi,by rw [vM];omega,?_⟩;simp only[pQ,List.getElem_map,List.getElem_reverse]
 congr 2
 omega
theorem lE (n : Int) : ac6 (nX n) = n.natAbs:=by
 have e : pQ (nX n) = digs 256 n.natAbs:=by
  simp only[pQ,nX,jY,List.reverse_reverse,← List.map_reverse,List.map_map];have hd : dB 256 (digs 256 n.natAbs):=qG (by omega) _;have : ∀ l : List Nat,dB 256 l → l.map (UInt8.toNat ∘ UInt8.ofNat) = l:=by
   intro l hl;refine (List.map_congr_left fun x hx=>?_).trans (List.map_id l);simp only[Function.comp_apply,id_eq,UInt8.toNat_ofNat'];exact Nat.mod_eq_of_lt (hl x hx)
  exact this _ hd
 rw [ac6,e,oM (by omega)]
theorem Bt {m n : Nat} (h : m < 9223372036854775808) : IntKind.i64.wrap ((m : Int).tdiv (n : Int)) = ((m / n : Nat) : Int):=by
 rw [← Int.ofNat_tdiv];have : m / n ≤ m:=Nat.div_le_self m n;exact aN (by have:=Int.natCast_nonneg (m / n);omega) (by omega)
theorem Ya {xs : List Nat} {n : Nat} (h : xs.length ≤ n) : val 256 (xs.drop n) = 0:=by rw [List.drop_of_length_le h];rfl
end Go.Lith
namespace Go.Lith
def lF (l : List UInt8) : ByteArray:=⟨l.toArray⟩
theorem lV (l : List UInt8) : (lF l).data.toList = l:=by simp [lF]
theorem Ud {l k : List UInt8} (h : lF l = lF k) : l = k:=by rw [← lV l,h,lV]
theorem wA (l : List UInt8) : (lF l).size = l.length:=by rw [← tA,lV]
theorem Ue (l : List UInt8) (i : Nat) : (lF l)[i]? = l[i]?:=by rw [vN,lV]
theorem Ov (l : List UInt8) (n : Nat) : (lF l).extract n (lF l).size = lF (l.drop n):=by
 apply ByteArray.ext;rw [ByteArray.data_extract];apply Array.ext';rw [Array.toList_extract,lV,wA];simp only[lF,List.extract_eq_take_drop,List.toList_toArray];exact List.take_of_length_le (by simp)
theorem Ld (l : List UInt8) : (lF l = ⟨#[]⟩) = (l = []):=by
 apply propext;constructor
 · intro h
   exact Ud (k:=[]) h
 · rintro rfl;rfl
def oO (l : List UInt8) : List UInt8:=l.dropWhile (· == 0)
theorem Ox {l : List UInt8} {b : UInt8} (h : l[0]? = some b) (hb : b.toNat = 0) : oO (l.drop 1) = oO l:=by
 cases l with
 | nil=>cases h
 | cons c l =>
  simp at h;subst h;have : c = 0:=UInt8.toNat_inj.1 hb;subst this;simp [oO]
theorem Oy {l : List UInt8} {b : UInt8} (h : l[0]? = some b) (hb : ¬ b.toNat = 0) : oO l = l:=by
 cases l with
 | nil=>rfl
 | cons c l =>
  simp at h;subst h;have : ¬ c = 0:=fun e=>hb (by rw [e];rfl);simp [oO,this]
theorem Uf : oO [] = []:=rfl
end Go.Lith
namespace Go.Lith
open Go.RowKit
section
variable {P : Program} {ds : List Deferred} {l : List Value} {x y z0 : Operand} {T T' ty : TypeId}
abbrev u8v (b : UInt8) : Value:=.int .u8 (b.toNat : Int)
theorem Oz {w : World} {base n : Nat} {E : TypeId} {v : Value} {bs : List UInt8} (hs : P.underlying T = some (.slice E)) (he : P.underlying E = some (.int .u8)) (hd : P.underlying T' = some .string) (hx : ev l x = v) (hown : Bh w base E 1 v n (bs.map u8v)) :
 vX P l (.convert T T' x) ty (.string (lF bs)) w:=fun o ho _=>by
 have hn : bs.length = n:=by have:=hown.1;simpa using this
 rcases hown.row with ⟨rfl,rfl,h⟩ | ⟨g,cap,rfl,_,_,_,_,hr⟩
 · obtain rfl : bs = []:=by simpa using h
   simp only[execOp,ho,cL,hx];rw [Sem.run_bind,run_convert_bytes_nil w T E hs he 0 0 T' hd];rfl
 · subst hn
   have:=run_convert_bytes_back (P:=P) w T T' E ⟨g,0,none⟩ cap bs hs he hd (fun j hj=>hr j _ (by simp [hj]));simp only[execOp,ho,cL,hx];rw [Sem.run_bind,this];rfl
end
structure Yb (w : World) (D : Nat) : Prop where
 h : w.heap[D]? = some (.deferred (some []))
theorem Yb.ext {w w' : World} {D : Nat} (h : Yb w D) (hE : dD w w') : Yb w' D:=⟨hE.block h.h⟩
theorem Yb.ne {w : World} {D g : Nat} {cs : List Value} {t : TypeId} (h : Yb w D) (hB : fX w g cs t) : D ≠ g:=fun e=>by
 subst e;have:=h.h;rw [hB] at this;cases this
theorem Yb.chg {w w' : World} {D g : Nat} (h : Yb w D) (hC : Wz w w' g) (hne : D ≠ g) : Yb w' D:=⟨(hC.block D hne).trans h.h⟩
theorem fX.putD {w : World} {D g : Nat} {cs : List Value} {t : TypeId} (hB : fX w g cs t) (h : Yb w D) {o : Obj} : fX (w.putObj D o) g cs t:=(World.putObj_heap_other (Ne.symm (h.ne hB))).trans hB
theorem dD.putD {w0 w : World} {D : Nat} (hX : dD w0 w) (hD : w0.heap.size ≤ D) {o : Obj} : dD w0 (w.putObj D o) :=
 ⟨hX.os,hX.tape,hX.output,by rw [World.putObj_size];exact hX.size,fun k hk=>(World.putObj_heap_other (by omega)).trans (Below.block hX k hk)⟩
theorem aeG {P : Program} {l : List Value} {n : Nat} {fn : Func} {R : Ending → World → Prop} {D : Nat} {w : World} (hK : Yb w D) (h : bodyPost P fn R .ret (Fr l) (w.putObj D (.deferred none))) :
 bodyPostM Fence.wide n P fn R .ret (Fr l [{ target:=.collected D,args:=#[] }]) w:=by
 refine ⟨by simp,.inl ⟨D,_,rfl,run_takeDeferred hK.h,?_⟩⟩;obtain ⟨_,v,hv,hR⟩:=h;exact ⟨v,hv,hR⟩
end Go.Lith
namespace Go.Lith
def wb (x : Nat) : List UInt8:=[UInt8.ofNat (x / 16777216),UInt8.ofNat (x / 65536),UInt8.ofNat (x / 256),UInt8.ofNat x]
def Le (l : List (Nat × Nat)) : List UInt8:=l.flatMap fun x=>wb x.2
theorem Yc (l : List (Nat × Nat)) (x : Nat × Nat) : Le (l ++ [x]) = Le l ++ wb x.2:=by simp [Le]
theorem Ct (l : List (Nat × Nat)) : (Le l).length = 4 * l.length:=by
 induction l with
 | nil=>rfl
 | cons x l ih=>rw [Le,List.flatMap_cons,List.length_append];rw [Le] at ih;rw [ih];simp [wb];omega
def Kn (neg : Bool) (n : Nat) : Int:=if neg then -(n : Int) else n
theorem Cu (neg : Bool) (n : Nat) : (Kn neg n).natAbs = n:=by cases neg <;> simp [Kn]
theorem Ro (neg : Bool) (n : Nat) : gT (Kn neg n) = (neg && decide (n ≠ 0)):=by
 cases neg
 · simp [Kn,gT]
 · rcases Nat.eq_zero_or_pos n with h | h
   · subst h;rfl
   · have h2 : n ≠ 0:=by omega
     simp [Kn,gT,h,h2]
theorem Fz (ys : List Nat) (h : dB 4294967296 ys) : val 256 (((ys.reverse.flatMap wb).reverse).map UInt8.toNat) = val 4294967296 ys ∧ dB 256 (((ys.reverse.flatMap wb).reverse).map UInt8.toNat):=by
 induction ys with
 | nil=>exact ⟨rfl,fun _ h=>by cases h⟩
 | cons y ys ih =>
  have hy:=h y (by simp);obtain ⟨i1,i2⟩:=ih (fun x hx=>h x (by simp [hx]));have e : (((y :: ys).reverse.flatMap wb).reverse).map UInt8.toNat = [y % 256,y / 256 % 256,y / 65536 % 256,y / 16777216 % 256] ++ (((ys.reverse.flatMap wb).reverse).map UInt8.toNat):=by
   simp [List.flatMap_append,wb,UInt8.toNat_ofNat']
  rw [e];refine ⟨?_,?_⟩
  · rw [fD,i1]
    simp only[val,List.length_cons,List.length_nil];omega
  · refine dB.append ?_ i2
    intro x hx;simp at hx;omega
theorem Lf {l : List UInt8} : oO l = ((trim ((l.reverse).map UInt8.toNat)).reverse).map UInt8.ofNat:=by
 induction l with
 | nil=>rfl
 | cons b l ih =>
  have hk : ∀ k : List Nat,∀ x : Nat,trim (k ++ [x]) = if x = 0 then trim k else k ++ [x]:=fun k x=>by
   split
   · rename_i h;subst h;exact lS k
   · rename_i h;exact mS h k
  rw [List.reverse_cons,List.map_append,List.map_cons,List.map_nil,hk];by_cases hb : b = 0
  · subst hb
    rw [if_pos (show UInt8.toNat 0 = 0 from rfl),← ih];simp [oO]
  · have hb' : ¬ b.toNat = 0:=fun e=>hb (UInt8.toNat_inj.1 e)
    rw [if_neg hb'];simp [oO,hb,Function.comp_def]
theorem Pa {ys : List Nat} (h : dB 4294967296 ys) (neg : Bool) : lF (oO (ys.reverse.flatMap wb)) = nX (Kn neg (val 4294967296 ys)):=by
 obtain ⟨h1,h2⟩:=Fz ys h;rw [Lf,rK (by omega) h2 h1,nX,Cu,jY];rfl
theorem Cv {neg : Bool} {n : Nat} : (nX (Kn neg n) = ⟨#[]⟩) ↔ n = 0:=by
 constructor
 · intro h
   have:=Gm (Kn neg n);rw [h,Cu] at this;have h0 : digs 256 n = []:=List.eq_nil_of_length_eq_zero this.symm;exact (sY (by omega)).1 h0
 · rintro rfl
   cases neg <;> rfl
end Go.Lith
namespace Go.Lith
class Bw (k : outParam Nat) (n : Int) : Prop where
 h : Bd k n
instance {a b : Nat} {m n : Int} [x : Bw a m] [y : Bw b n] : Bw (max a b + 1) (m + n):=⟨x.h.add y.h⟩
instance {a b : Nat} {m n : Int} [x : Bw a m] [y : Bw b n] : Bw (a + b) (m * n):=⟨x.h.mul y.h⟩
instance : Bw 1 0:=⟨Rm 1⟩
theorem Gs {n : Int} (h : gT n = true) : n < 0:=of_decide_eq_true h
theorem Pb {n : Int} (h : gT n = false) : 0 ≤ n:=Int.not_lt.1 (of_decide_eq_false h)
theorem natAbs_neg {n : Int} (h : gT n = true) : (n.natAbs : Int) = -n:=by have:=Gs h;omega
theorem iB {n : Int} (h : gT n = false) : (n.natAbs : Int) = n:=by have:=Pb h;omega
theorem tB (n : Nat) : Kn true n = -(n : Int):=rfl
theorem oG (n : Nat) : Kn false n = (n : Int):=rfl
theorem Lg (a : Int) : Kn (gT a) a.natAbs = a:=by
 cases h : gT a
 · rw [oG,iB h]
 · rw [tB,natAbs_neg h];omega
theorem abm (a : Int) : Kn (!gT a) a.natAbs = -a:=by
 cases h : gT a
 · rw [Bool.not_false,tB,iB h]
 · rw [Bool.not_true,oG,natAbs_neg h]
theorem abn {a b : Int} (h : gT a = gT b) : Kn (gT a) (a.natAbs + b.natAbs) = a + b:=by
 cases ha : gT a <;> rw [ha] at h
 · have h1:=iB ha;have h2:=iB h.symm;rw [oG];omega
 · have h1:=natAbs_neg ha;have h2:=natAbs_neg h.symm;rw [tB];omega
theorem ac7 {a b : Int} (h : ¬ gT a = gT b) (hl : a.natAbs < b.natAbs) : Kn (gT b) (b.natAbs - a.natAbs) = a + b:=by
 cases ha : gT a <;> cases hb : gT b <;> rw [ha,hb] at h
 · exact absurd rfl h
 · have h1:=iB ha;have h2:=natAbs_neg hb;rw [tB];omega
 · have h1:=natAbs_neg ha;have h2:=iB hb;rw [oG];omega
 · exact absurd rfl h
theorem ac8 {a b : Int} (h : ¬ gT a = gT b) (hl : b.natAbs ≤ a.natAbs) : Kn (gT a) (a.natAbs - b.natAbs) = a + b:=by
 cases ha : gT a <;> cases hb : gT b <;> rw [ha,hb] at h
 · exact absurd rfl h
 · have h1:=iB ha;have h2:=natAbs_neg hb;rw [oG];omega
 · have h1:=natAbs_neg ha;have h2:=iB hb;rw [tB];omega
 · exact absurd rfl h
theorem abo {a b : Int} : Kn (decide (¬ gT a = gT b)) (a.natAbs * b.natAbs) = a * b:=by
 cases ha : gT a <;> cases hb : gT b
 · have h1:=iB ha;have h2:=iB hb
   show ((a.natAbs * b.natAbs : Nat) : Int) = _
   rw [Int.natCast_mul,h1,h2]
 · have h1:=iB ha;have h2:=natAbs_neg hb
   show -((a.natAbs * b.natAbs : Nat) : Int) = _
   rw [Int.natCast_mul,h1,h2,Int.mul_neg,Int.neg_neg]
 · have h1:=natAbs_neg ha;have h2:=iB hb
   show -((a.natAbs * b.natAbs : Nat) : Int) = _
   rw [Int.natCast_mul,h1,h2,Int.neg_mul,Int.neg_neg]
 · have h1:=natAbs_neg ha;have h2:=natAbs_neg hb
   show ((a.natAbs * b.natAbs : Nat) : Int) = _
   rw [Int.natCast_mul,h1,h2,Int.neg_mul_neg]
def dG : Nat → Nat
 | 0=>0
 | n + 1=>if (dG n + 1) * (dG n + 1) ≤ n + 1 then dG n + 1 else dG n
theorem oP : ∀ n,dG n * dG n ≤ n ∧ n < (dG n + 1) * (dG n + 1)
 | 0=>by simp [dG]
 | n + 1=>by
  obtain ⟨h1,h2⟩:=oP n;simp only[dG];split
  · rename_i h
    refine ⟨h,?_⟩;have : (dG n + 1 + 1) * (dG n + 1 + 1) = (dG n + 1) * (dG n + 1) + 2 * dG n + 3:=by grind
    omega
  · rename_i h
    exact ⟨by omega,by omega⟩
theorem Jb {n r : Nat} (h1 : r * r ≤ n) (h2 : n < (r + 1) * (r + 1)) : r = dG n:=by
 obtain ⟨g1,g2⟩:=oP n;rcases Nat.lt_trichotomy r (dG n) with h | h | h
 · have:=Nat.mul_le_mul (show r + 1 ≤ dG n from h) (show r + 1 ≤ dG n from h);omega
 · exact h
 · have:=Nat.mul_le_mul (show dG n + 1 ≤ r from h) (show dG n + 1 ≤ r from h);omega
theorem tC {k V : Nat} (h : V < 2 ^ k) : (digs 4294967296 V).length ≤ k:=by
 refine dY (by omega) (Nat.lt_of_lt_of_le h ?_);rw [show (4294967296 : Nat) = 2 ^ 32 from rfl,← Nat.pow_mul];exact Nat.pow_le_pow_right (by omega) (by omega)
theorem mJ {n : Int} (h : Bd 1000000 n) : (nX n).size ≤ 1000000000000:=Nat.le_trans (Ir h) (by decide)
theorem Ug {k : Nat} {a b : Int} (ha : Bd k a) (hb : Bd k b) : (digs 4294967296 (a.natAbs + b.natAbs)).length ≤ k + 1:=tC (by unfold Bd at ha hb;rw [Nat.pow_succ];omega)
theorem tD {k : Nat} {n : Int} (h : Bd k n) : (digs 4294967296 n.natAbs).length ≤ k:=tC h
theorem Cw {m n : Nat} (h : m ≤ n) : (digs 4294967296 m).length ≤ (digs 4294967296 n).length:=by
 refine dY (by omega) (Nat.lt_of_le_of_lt h ?_);have:=iN (iP n);rwa [bX] at this
end Go.Lith
namespace Go.Lith
def nJ (n : Int) : Prop:=-9223372036854775808 ≤ n ∧ n < 9223372036854775808
theorem nJ.bd {n : Int} (h : nJ n) : Bd 64 n:=Bd.of_i64 h.1 (by have:=h.2;omega)
theorem ac9 {n : Int} (h : nJ n) (h0 : 0 ≤ n) : IntKind.u64.wrap n = (n.natAbs : Int):=by
 rw [fO];have:=h.2;omega
theorem abp {n : Int} (h : nJ n) (h0 : n < 0) : IntKind.u64.wrap n = ((18446744073709551616 - n.natAbs : Nat) : Int):=by
 rw [fO];have:=h.1;omega
theorem Uh {m : Nat} (h : m ≤ 9223372036854775808) (h0 : 0 < m) : IntKind.u64.wrap (0 - ((18446744073709551616 - m : Nat) : Int)) = (m : Int):=by
 rw [fO];omega
theorem Gt {m : Nat} : val 4294967296 [m % 4294967296,m / 4294967296] = m:=by simp [val];omega
theorem Cx {m : Nat} (h : m < 18446744073709551616) : dB 4294967296 [m % 4294967296,m / 4294967296]:=fun x hx=>by simp at hx;omega
theorem nJ.natAbs {n : Int} (h : nJ n) : n.natAbs ≤ 9223372036854775808:=by have:=h.1;have:=h.2;omega
theorem Ui {X r : Nat} (h0 : 0 < r) : X < ((r + X / r) / 2 + 1) * ((r + X / r) / 2 + 1):=by
 generalize hq : X / r = q;have h1 : X < r * (q + 1):=by
  have:=Nat.lt_mul_div_succ X h0;rw [hq] at this;exact this
 generalize hs : (r + q) / 2 = s;have h2 : r + q + 1 ≤ 2 * (s + 1):=by omega
 have h3 : (r + (q + 1)) * (r + (q + 1)) ≤ (2 * (s + 1)) * (2 * (s + 1)):=Nat.mul_le_mul (by omega) (by omega);have h4 : 4 * (r * (q + 1)) ≤ (r + (q + 1)) * (r + (q + 1)):=by
  generalize q + 1 = p;rcases Nat.le_total r p with h | h
  · obtain ⟨d,rfl⟩:=Nat.exists_eq_add_of_le h
    have e : (r + (r + d)) * (r + (r + d)) = 4 * (r * (r + d)) + d * d:=by grind
    omega
  · obtain ⟨d,rfl⟩:=Nat.exists_eq_add_of_le h
    have e : (p + d + p) * (p + d + p) = 4 * ((p + d) * p) + d * d:=by grind
    omega
 have h5 : (2 * (s + 1)) * (2 * (s + 1)) = 4 * ((s + 1) * (s + 1)):=by grind
 omega
theorem Uj {X r : Nat} (h0 : 0 < r) (hx : X < (r + 1) * (r + 1)) (h : r ≤ (r + X / r) / 2) : r = dG X:=by
 refine Jb ?_ hx;have h1 : r ≤ X / r:=by omega
 exact (Nat.le_div_iff_mul_le h0).1 h1
theorem Gu {X r : Nat} (h : ¬ r ≤ (r + X / r) / 2) : (r + X / r) / 2 < r:=by omega
theorem Pc {X n : Nat} (h : X < 4294967296 ^ n) : X < (4294967296 ^ ((n + 1) / 2) + 1) * (4294967296 ^ ((n + 1) / 2) + 1):=by
 have h1 : 4294967296 ^ n ≤ 4294967296 ^ ((n + 1) / 2) * 4294967296 ^ ((n + 1) / 2):=by
  rw [← Nat.pow_add];exact Nat.pow_le_pow_right (by omega) (by omega)
 generalize 4294967296 ^ ((n + 1) / 2) = p at *
 generalize 4294967296 ^ n = m at *
 have : (p + 1) * (p + 1) = p * p + 2 * p + 1:=by grind
 omega
end Go.Lith
namespace Go.Lith
open Go.RowKit
theorem Bh.full {w : World} {base g n : Nat} {E : TypeId} {cs : List Value} (hB : fX w g cs E) (hb : base ≤ g) (hn : cs.length = n) (hl : n ≤ 9223372036854775807) : Bh w base E 1 (.slice (some ⟨g,0,none⟩) n n) n cs:=by
 refine ⟨by simpa using hn,.inr ⟨g,n,cs.toArray,rfl,hb,hB,Nat.le_refl _,hl,by simpa using hn,?_⟩⟩;simp [← hn]
theorem dD.refl_of {w : World} {g : Nat} {cs : List Value} {t : TypeId} (_ : fX w g cs t) : dD w w:=dD.refl w
theorem dD.ext {a b c : World} (h : dD a b) (k : dD b c) : dD a c:=h.trans k
theorem cQ.grew {w0 w w' : World} {A : Option Addr} {n cap base : Nat} {xs : List Nat} (h : cQ w0 A n cap xs) (hE : dD w0 w) (hG : Tq w w' base) (hb : w0.heap.size ≤ base) : cQ w' A n cap xs :=
 ⟨h.eq,fun i x hi=>by
  obtain ⟨a,e,hc⟩:=h.row i x hi;have h1:=World.block_lt_of_cell? _ _ hc;have h2:=hE.cell hc;exact ⟨a,e,(World.cell?_of_block (hG.block _ (Nat.lt_of_lt_of_le h1 hb))).trans h2⟩,h.le,h.cap,h.len,h.digs⟩
theorem Gv (n : Nat) : List.replicate n 0 ++ [1] = digs 4294967296 (4294967296 ^ n):=by
 refine pF (B:=4294967296) (by omega) ?_ (iP _) (mS (by omega) _) (fE _) ?_
 · intro x hx
   simp at hx;omega
 · rw [fD,eO,bX,List.length_replicate]
   simp [val]
theorem ada {a b i j : Nat} (ha : a < 4294967296 ^ i) (hb : b < 4294967296 ^ j) : a + b < 4294967296 ^ (i + j + 1):=by
 rw [Nat.pow_succ,Nat.pow_add];have h1 : 0 < 4294967296 ^ i:=Nat.pow_pos (by omega);have h2 : 0 < 4294967296 ^ j:=Nat.pow_pos (by omega);generalize 4294967296 ^ i = p at *
 generalize 4294967296 ^ j = q at *
 have h3 : p ≤ p * q:=Nat.le_mul_of_pos_right _ h2;have h4 : q ≤ p * q:=Nat.le_mul_of_pos_left _ h1;generalize p * q = m at *
 omega
theorem Cy {a b : Nat} : 0 ≤ Xi a b ↔ b ≤ a:=by
 unfold Xi;split
 · omega
 · split <;> omega
theorem Yd {X r : Nat} (h0 : 0 < r) (hx : X < (r + 1) * (r + 1)) (hX : 0 < X) : 0 < (r + X / r) / 2:=by
 rcases Nat.lt_or_ge r 2 with h | h
 · obtain rfl : r = 1:=by omega
   rw [Nat.div_one];omega
 · generalize X / r = q;omega
end Go.Lith
namespace Go.Lith
open Go.RowKit
structure P3 where
 x : Int
 y : Int
 z : Int
structure T3 where
 a : P3
 b : P3
 c : P3
namespace P3
def sub (p q : P3) : P3:=⟨p.x - q.x,p.y - q.y,p.z - q.z⟩
def dot (p q : P3) : Int:=p.x * q.x + p.y * q.y + p.z * q.z
end P3
def pt (p : P3) : Go.Value:=.agg #[.int .i64 p.x,.int .i64 p.y,.int .i64 p.z]
def tr (t : T3) : Go.Value:=.agg #[.int .i64 t.a.x,.int .i64 t.a.y,.int .i64 t.a.z,.int .i64 t.b.x,.int .i64 t.b.y,.int .i64 t.b.z,.int .i64 t.c.x,.int .i64 t.c.y,.int .i64 t.c.z]
def wv (v : P3) : Go.Value:=.agg #[.bool (gT v.x),.string (nX v.x),.bool (gT v.y),.string (nX v.y),.bool (gT v.z),.string (nX v.z)]
theorem Bw.up {k m : Nat} {n : Int} [x : Bw k n] (h : k ≤ m:=by decide) : Bd m n:=x.h.mono h
theorem Uk : nX 0 = ⟨#[]⟩:=by
 have : jY 0 = []:=by
  unfold jY;rw [(sY (B:=256) (by omega)).2 rfl];rfl
 simp only[nX,Int.natAbs_zero,this]
theorem adb : W 0 = .agg #[.bool false,.string ⟨#[]⟩]:=by simp only[W,Uk];rfl
class Iw (n : Int) : Prop where
 h : nJ n
class I3 (p : P3) : Prop where
 x : nJ p.x
 y : nJ p.y
 z : nJ p.z
class IT (t : T3) : Prop where
 a : I3 t.a
 b : I3 t.b
 c : I3 t.c
instance {p : P3} [h : I3 p] : Iw p.x:=⟨h.x⟩
instance {p : P3} [h : I3 p] : Iw p.y:=⟨h.y⟩
instance {p : P3} [h : I3 p] : Iw p.z:=⟨h.z⟩
instance {n : Int} [h : Iw n] : Bw 64 n:=⟨h.h.bd⟩
class Bv (k : outParam Nat) (v : P3) : Prop where
 x : Bd k v.x
 y : Bd k v.y
 z : Bd k v.z
instance {k : Nat} {v : P3} [h : Bv k v] : Bw k v.x:=⟨h.x⟩
instance {k : Nat} {v : P3} [h : Bv k v] : Bw k v.y:=⟨h.y⟩
instance {k : Nat} {v : P3} [h : Bv k v] : Bw k v.z:=⟨h.z⟩
theorem Bv.mono {k m : Nat} {v : P3} (h : Bv k v) (hk : k ≤ m) : Bv m v:=⟨h.x.mono hk,h.y.mono hk,h.z.mono hk⟩
theorem Bv.of {k m : Nat} {v : P3} [h : Bv k v] (hk : k ≤ m:=by decide) : Bv m v:=h.mono hk
instance {p q : P3} [a : I3 p] [b : I3 q] : Bv 65 (p.sub q):=⟨a.x.bd.sub b.x.bd,a.y.bd.sub b.y.bd,a.z.bd.sub b.z.bd⟩
theorem agh {k l : Nat} {a b c d : Int} (ha : Bd k a) (hb : Bd l b) (hc : Bd k c) (hd : Bd l d) : Bd (k + l + 1) (a * b - c * d):=by
 have:=(ha.mul hb).sub (hc.mul hd);exact this.mono (by omega)
theorem Ye {k l : Nat} {a b c d : Int} (ha : Bd k a) (hb : Bd l b) (hc : Bd k c) (hd : Bd l d) : Bd (k + l + 1) (a * b + c * d):=by
 have:=(ha.mul hb).add (hc.mul hd);exact this.mono (by omega)
instance {k l : Nat} {u v : P3} [a : Bv k u] [b : Bv l v] : Bw (k + l + 2) (u.dot v):=⟨((Ye a.x b.x a.y b.y).add (a.z.mul b.z)).mono (by omega)⟩
theorem P3.dot0 {u v : P3} : 0 + u.x * v.x + u.y * v.y + u.z * v.z = u.dot v:=by simp only[P3.dot,Int.zero_add]
section
variable {P : Program} {Q : Exit → Act → World → Prop} {a : Act} {w : World} {c : Code} {n : Nat}
theorem cZ (h : c.wp P (Exit.then (Code.rounds P c Q n) Q) a w) : Code.rounds P c Q (n + 1) a w:=h
theorem aT (h : c.wp P (Exit.then (Code.rounds P c Q n) Q) a w) : Exit.then (Code.rounds P c Q (n + 1)) Q .normal a w:=h
end
end Go.Lith
namespace Go.Lith
open Go.RowKit
inductive nY where
 | nil : nY
 | take : Nat → nY → nY
 | one : Nat → nY → nY
 | two : Nat → nY → Nat → nY → nY
 | three : Nat → nY → Nat → nY → Nat → nY → nY
section
variable {P : Program} {ops : Array Oper} {md : Region.Mode} {S : World → Prop}
def nY.ok (md : Region.Mode) (ops : Array Oper) : nY → Nat → Array Bool → Bool
 | .nil,f,listed=>f == 0 && (Region.ready md ops listed).isEmpty
 | .take i t,f,listed=>decide (0 < f) && (ops[i]?).isSome && Region.free md ops listed i && (Region.ready md ops listed).contains i && t.ok md ops (f - 1) (listed.setIfInBounds i true)
 | .one i t,f,listed=>decide (0 < f) && (ops[i]?).isSome && decide (Region.ready md ops listed = [i]) && t.ok md ops (f - 1) (listed.setIfInBounds i true)
 | .two i t j u,f,listed=>decide (0 < f) && (ops[i]?).isSome && (ops[j]?).isSome && decide (Region.ready md ops listed = [i,j]) && t.ok md ops (f - 1) (listed.setIfInBounds i true) && u.ok md ops (f - 1) (listed.setIfInBounds j true)
 | .three i t j u k v,f,listed=>decide (0 < f) && (ops[i]?).isSome && (ops[j]?).isSome && (ops[k]?).isSome && decide (Region.ready md ops listed = [i,j,k]) && t.ok md ops (f - 1) (listed.setIfInBounds i true) && u.ok md ops (f - 1) (listed.setIfInBounds j true) && v.ok md ops (f - 1) (listed.setIfInBounds k true)
def cR (P : Program) (ops : Array Oper) (S : World → Prop) (Q : Exit → Act → World → Prop) : nY → Act → World → Prop
 | .nil,a,w=>Q .normal a w
 | .take i t,a,w=>cS P ops S (fun _ a w=>cR P ops S Q t a w) [((ops[i]?).getD default,true)] a w
 | .one i t,a,w=>wpList P ops (Exit.then (fun a w=>S w ∧ cR P ops S Q t a w) Q) [(ops[i]?).getD default] a w
 | .two i t j u,a,w=>wpList P ops (Exit.then (fun a w=>S w ∧ cR P ops S Q t a w) Q) [(ops[i]?).getD default] a w ∧ wpList P ops (Exit.then (fun a w=>S w ∧ cR P ops S Q u a w) Q) [(ops[j]?).getD default] a w
 | .three i t j u k v,a,w=>wpList P ops (Exit.then (fun a w=>S w ∧ cR P ops S Q t a w) Q) [(ops[i]?).getD default] a w ∧ wpList P ops (Exit.then (fun a w=>S w ∧ cR P ops S Q u a w) Q) [(ops[j]?).getD default] a w ∧ wpList P ops (Exit.then (fun a w=>S w ∧ cR P ops S Q v a w) Q) [(ops[k]?).getD default] a w
theorem jZ {Q : Exit → Act → World → Prop} {K : Act → World → Prop} {i : Nat} {o : Oper} (ho : ops[i]? = some o) {a : Act} {w : World} (h : wpList P ops (Exit.then K Q) [o] a w) : wpOp P ops Q i K a w:=by
 unfold wpOp;simp only[ho];simp only[wpList] at h;split
 · rename_i hw
   rw [if_pos hw] at h;rcases h with h | ⟨ha,x,y,hl⟩
   · refine .inl ?_
     unfold Oper.wp at h ⊢;generalize (execOp a.eval o).run P w = res at *
     cases res with
     | ok n w' =>
      cases n <;> simp only[Oper.upon] at h ⊢ <;>
       first
        | exact h
        | exact Calls.mono h (fun e w'' he=>by cases e <;> exact he)
        | exact Rows.mono h (fun _ _ he=>he)
     | halt x w'=>cases x <;> simp only[Oper.upon] at h ⊢ <;> exact h
   · exact .inr ⟨ha,x,y,hl⟩
 · rename_i hw
   rw [if_neg hw] at h;exact h
theorem fU {Q : Exit → Act → World → Prop} (hs : Region.noSelect ops = true) (hQ : ∀ c d v a w,Q (.panic c) (Act.put a d v) w → Q (.panic c) a w) : ∀ (t : nY) (f : Nat) (listed : Array Bool) (a : Act) (w : World),
 t.ok md ops f listed = true → S w → cR P ops S Q t a w → wpAnyH P md ops Q S f listed a w
 | .nil,f,listed,a,w,hB,_,h=>by
  simp only[nY.ok,Bool.and_eq_true,beq_iff_eq] at hB;obtain ⟨rfl,h2⟩:=hB;exact ⟨by simpa using h2,h⟩
 | .take i t,f,listed,a,w,hB,hS,h=>by
  simp only[nY.ok,Bool.and_eq_true,decide_eq_true_eq] at hB;obtain ⟨⟨⟨⟨h0,h1⟩,h2⟩,h3⟩,h4⟩:=hB;obtain ⟨o,ho⟩:=Option.isSome_iff_exists.1 h1;simp only[cR,cS,ho,Option.getD_some] at h;obtain ⟨v,hy,hr⟩:=h;obtain ⟨f,rfl⟩ : ∃ g,f = g + 1:=⟨f - 1,by omega⟩
  exact wpAnyH_take ho hs h2 h3 (fun c a w=>hQ c _ v a w) hy hS (fU hs hQ t f _ _ _ h4 hS hr)
 | .one i t,f,listed,a,w,hB,hS,h=>by
  simp only[nY.ok,Bool.and_eq_true,decide_eq_true_eq] at hB;obtain ⟨⟨⟨h0,h1⟩,h2⟩,h4⟩:=hB;obtain ⟨o,ho⟩:=Option.isSome_iff_exists.1 h1;obtain ⟨f,rfl⟩ : ∃ g,f = g + 1:=⟨f - 1,by omega⟩
  refine wpAnyH_all h2 (by simp) fun j hj=>?_;obtain rfl : j = i:=by simpa using hj
  simp only[cR,ho,Option.getD_some] at h;exact wpOp_mono (fun a' w' hh=>⟨hh.1,fU hs hQ t f _ a' w' h4 hh.1 hh.2⟩) (jZ ho h)
 | .two i t j u,f,listed,a,w,hB,hS,h=>by
  simp only[nY.ok,Bool.and_eq_true,decide_eq_true_eq] at hB;obtain ⟨⟨⟨⟨⟨h0,h1⟩,h1'⟩,h2⟩,h4⟩,h5⟩:=hB;obtain ⟨o,ho⟩:=Option.isSome_iff_exists.1 h1;obtain ⟨o',ho'⟩:=Option.isSome_iff_exists.1 h1';obtain ⟨f,rfl⟩ : ∃ g,f = g + 1:=⟨f - 1,by omega⟩
  simp only[cR,ho,ho',Option.getD_some] at h;refine wpAnyH_all h2 (by simp) fun k hk=>?_;have hk' : k = i ∨ k = j:=by simpa using hk
  rcases hk' with rfl | rfl
  · exact wpOp_mono (fun a' w' hh=>⟨hh.1,fU hs hQ t f _ a' w' h4 hh.1 hh.2⟩) (jZ ho h.1)
  · exact wpOp_mono (fun a' w' hh=>⟨hh.1,fU hs hQ u f _ a' w' h5 hh.1 hh.2⟩) (jZ ho' h.2)
 | .three i t j u k v,f,listed,a,w,hB,hS,h=>by
  simp only[nY.ok,Bool.and_eq_true,decide_eq_true_eq] at hB;obtain ⟨⟨⟨⟨⟨⟨⟨h0,h1⟩,h1'⟩,h1''⟩,h2⟩,h4⟩,h5⟩,h6⟩:=hB;obtain ⟨o,ho⟩:=Option.isSome_iff_exists.1 h1;obtain ⟨o',ho'⟩:=Option.isSome_iff_exists.1 h1';obtain ⟨o'',ho''⟩:=Option.isSome_iff_exists.1 h1'';obtain ⟨f,rfl⟩ : ∃ g,f = g + 1:=⟨f - 1,by omega⟩
  simp only[cR,ho,ho',ho'',Option.getD_some] at h;refine wpAnyH_all h2 (by simp) fun m hm=>?_;have hm' : m = i ∨ m = j ∨ m = k:=by simpa using hm
  rcases hm' with rfl | rfl | rfl
  · exact wpOp_mono (fun a' w' hh=>⟨hh.1,fU hs hQ t f _ a' w' h4 hh.1 hh.2⟩) (jZ ho h.1)
  · exact wpOp_mono (fun a' w' hh=>⟨hh.1,fU hs hQ u f _ a' w' h5 hh.1 hh.2⟩) (jZ ho' h.2.1)
  · exact wpOp_mono (fun a' w' hh=>⟨hh.1,fU hs hQ v f _ a' w' h6 hh.1 hh.2⟩) (jZ ho'' h.2.2)
theorem Cz {id : Nat} {Q : Exit → Act → World → Prop} {a : Act} {w : World} {l : List Oper} (t : nY) (hm : P.follows .mixedOrders = true) (hB : (Region.noSelect l.toArray && t.ok .any l.toArray l.toArray.size (Array.replicate l.toArray.size false)) = true)
 (hQ : ∀ c d v a w,Q (.panic c) (Act.put a d v) w → Q (.panic c) a w)
 (h : ∀ w',dD w w' → ∃ S,pO w' S ∧ cR P l.toArray S Q t a w') : (Code.region id l.toArray true).wp P Q a w:=by
 simp only[Bool.and_eq_true] at hB;obtain ⟨S,hS,h⟩:=h _ (dD.refl w).drawn;exact wp_region_held (S:=S) hm (fU (md:=.any) hB.1 hQ t _ _ a _ hB.2 hS h)
variable {Q : Exit → Act → World → Prop} {a : Act} {w : World} {o o' : Oper} {i j : Nat} {t u : nY}
theorem Ar (h : Q .normal a w) : cR P ops S Q .nil a w:=h
theorem eV (ho : (ops[i]?).getD default = o) (h : cS P ops S (fun _ a w=>cR P ops S Q t a w) [(o,true)] a w) : cR P ops S Q (.take i t) a w:=by subst ho;exact h
theorem nT (ho : (ops[i]?).getD default = o) (h : wpList P ops (Exit.then (fun a w=>S w ∧ cR P ops S Q t a w) Q) [o] a w) : cR P ops S Q (.one i t) a w:=by subst ho;exact h
theorem Rp (ho : (ops[i]?).getD default = o) (ho' : (ops[j]?).getD default = o') (h : wpList P ops (Exit.then (fun a w=>S w ∧ cR P ops S Q t a w) Q) [o] a w) (h' : wpList P ops (Exit.then (fun a w=>S w ∧ cR P ops S Q u a w) Q) [o'] a w) : cR P ops S Q (.two i t j u) a w:=by
 subst ho;subst ho';exact ⟨h,h'⟩
end
end Go.Lith
namespace Go.Lith
open Go.RowKit
section
variable {P : Program} {ops : Array Oper} {md : Region.Mode} {w0 : World}
def YE (P : Program) (ops : Array Oper) (w0 : World) (o : Oper) (v : Value) (a : Act) : Prop :=
 (Region.wanted o (yielded ops a.tmps) = true ∧ ∀ w,dD w0 w → o.quietAt P a (dD w) w v) ∨ (Region.wanted o (yielded ops a.tmps) = false ∧ v = undef)
theorem YE.of_same {o : Oper} {v : Value} {a a' : Act} (hy : YE P ops w0 o v a) (he : execOp a'.eval o = execOp a.eval o)
 (hw : Region.wanted o (yielded ops a'.tmps) = Region.wanted o (yielded ops a.tmps)) : YE P ops w0 o v a':=by
 unfold YE Oper.quietAt at *
 rw [he,hw];exact hy
def qE (P : Program) (ops : Array Oper) (w0 : World) (i : Nat) (K : Act → Prop) (a : Act) : Prop:=∃ o v,ops[i]? = some o ∧ YE P ops w0 o v a ∧ K (a.put o.dst v)
theorem abq {i : Nat} {a : Act} {K K' : Act → Prop} (h : ∀ a,K a → K' a) (hh : qE P ops w0 i K a) : qE P ops w0 i K' a :=
 let ⟨o,v,h1,h2,h3⟩:=hh;⟨o,v,h1,h2,h _ h3⟩
theorem adc {j : Nat} {oi oj : Oper} {v : Value} (hj : ops[j]? = some oj) (hap : oi.apart ops oj = true) (hsi : ∀ cs b,oi.op ≠ .select cs b) (hsj : ∀ cs b,oj.op ≠ .select cs b) {K : Act → Prop} {a : Act}
 (hy : YE P ops w0 oi v a) (h : qE P ops w0 j K (a.put oi.dst v)) : qE P ops w0 j (fun a'=>YE P ops w0 oi v a' ∧ K (a'.put oi.dst v)) a:=by
 obtain ⟨h1,h2,h3⟩:=Oper.apart_spec hap;obtain ⟨o,u,ho,hu,hk⟩:=h;rw [hj] at ho;cases ho;refine ⟨oj,u,hj,hu.of_same (execOp_put oj hsj a oi.dst v h1).symm (wanted_put oj a oi.dst v h1).symm,hy.of_same (execOp_put oi hsi a oj.dst u h3) (wanted_put oi a oj.dst u h3),?_⟩;rw [← Act.put_comm a v u h2];exact hk
def Da (P : Program) (md : Region.Mode) (ops : Array Oper) (w0 : World) (n : Nat) (L : Array Bool → Act → Prop) : Nat → Array Bool → Act → Prop
 | 0,listed,a=>L listed a
 | f + 1,listed,a=>Region.ready md ops listed ≠ [] ∧ ∀ i ∈ Region.ready md ops listed,i < n ∧ qE P ops w0 i (Da P md ops w0 n L f (listed.setIfInBounds i true)) a
theorem Jc {n i : Nat} {oi : Oper} {v : Value} {L : Array Bool → Act → Prop} (hi : ops[i]? = some oi) (hsel : ∀ (j : Nat) (o : Oper) cs b,ops[j]? = some o → o.op ≠ .select cs b)
 (hs : Region.sinkB md ops n = true) (hc : Region.chainB md ops n = true) (hn : n < ops.size) (hin : i < n)
 (hdone : ∀ listed a,L listed a → ∀ j ∈ Region.ready md ops listed,n ≤ j) :
 ∀ (f : Nat) (listed : Array Bool) (a : Act),HeadInv md ops n listed →
  (∀ j oj,ops[j]? = some oj → j ≠ i → listed.getD j true = false → (∀ e ∈ oj.after,Region.binds md e = true → e.on ≠ i) → oi.apart ops oj = true) →
  i ∈ Region.ready md ops listed → YE P ops w0 oi v a →
  Da P md ops w0 n L f (listed.setIfInBounds i true) (a.put oi.dst v) → Da P md ops w0 n L (f + 1) listed a:=by
 intro f
 induction f with
 | zero =>
  intro listed a inv _ hr hy H;have hun:=(mem_ready.1 hr).1;refine ⟨fun h=>(by rw [h] at hr;cases hr),fun j hj=>?_⟩;have hjn : j < n:=by
   rcases Nat.lt_or_ge j n with h | h
   · exact h
   · exact absurd hj (tail_waits hs hc hn inv _ i rfl hin hun j h)
  refine ⟨hjn,?_⟩;by_cases hji : j = i
  · subst hji;exact ⟨oi,v,hi,hy,H⟩
  · have:=hdone _ _ H j (ready_mono hj hji)
    omega
 | succ f ih =>
  intro listed a inv hfree hr hy H;have hun:=(mem_ready.1 hr).1;refine ⟨fun h=>(by rw [h] at hr;cases hr),fun j hj=>?_⟩;have hjn : j < n:=by
   rcases Nat.lt_or_ge j n with h | h
   · exact h
   · exact absurd hj (tail_waits hs hc hn inv _ i rfl hin hun j h)
  refine ⟨hjn,?_⟩;by_cases hji : j = i
  · subst hji;exact ⟨oi,v,hi,hy,H⟩
  · have h1:=(H.2 j (ready_mono hj hji)).2
    obtain ⟨hjun,oj,hoj,hall⟩:=mem_ready.1 hj;have hnot : ∀ e ∈ oj.after,Region.binds md e = true → e.on ≠ i:=fun e he hb heq=>by
     have h1:=hall e he hb;rw [heq,getD_both hun] at h1;cases h1
    have h2:=adc hoj (hfree j oj hoj hji hjun hnot) (fun cs b=>hsel i oi cs b hi) (fun cs b=>hsel j oj cs b hoj) hy h1;have hfree' : ∀ k ok,ops[k]? = some ok → k ≠ i → (listed.setIfInBounds j true).getD k true = false →
     (∀ e ∈ ok.after,Region.binds md e = true → e.on ≠ i) → oi.apart ops ok = true:=fun k ok hk hki hun hno=>by
     refine hfree k ok hk hki ?_ hno;by_cases hjk : j = k
     · subst hjk;exact hjun
     · rw [getD_set_ne true hjk] at hun;exact hun
    refine abq (fun a' h3=>ih (listed.setIfInBounds j true) a' (inv.set hj hjn) hfree' (ready_mono hr (Ne.symm hji)) h3.1 ?_) h2;rw [Array.setIfInBounds_comm _ _ hji];exact h3.2
def tE (P : Program) (ops : Array Oper) (w0 : World) (L : Act → Prop) : List Oper → Act → Prop
 | [],a=>L a
 | o :: r,a=>∃ v,YE P ops w0 o v a ∧ tE P ops w0 L r (a.put o.dst v)
def Yf (md : Region.Mode) (ops : Array Oper) (g n : Nat) : List Nat → Array Bool → Bool
 | [],listed=>Region.seqB md ops g n listed
 | i :: r,listed=>(ops[i]?).isSome && decide (i < n) && (Region.ready md ops listed).contains i && Region.free md ops listed i && Yf md ops g n r (listed.setIfInBounds i true)
theorem Db {n g : Nat} {L : Act → Prop} (hsel : Region.noSelect ops = true) (hs : Region.sinkB md ops n = true) (hc : Region.chainB md ops n = true) (hn : n < ops.size) :
 ∀ (l : List Nat) (listed : Array Bool) (a : Act),HeadInv md ops n listed → Yf md ops g n l listed = true → tE P ops w0 L (l.map fun i=>(ops[i]?).getD default) a →
 Da P md ops w0 n (fun listed' a'=>Region.seqB md ops g n listed' = true ∧ L a') l.length listed a
 | [],listed,a,_,hB,h=>⟨by simpa [Yf] using hB,h⟩
 | i :: l,listed,a,inv,hB,h=>by
  simp only[Yf,Bool.and_eq_true,decide_eq_true_eq] at hB;obtain ⟨⟨⟨⟨h1,h2⟩,h3⟩,h4⟩,h5⟩:=hB;obtain ⟨o,ho⟩:=Option.isSome_iff_exists.1 h1;simp only[List.map_cons,tE,ho,Option.getD_some] at h;obtain ⟨v,hy,hr⟩:=h;have hi' : i ∈ Region.ready md ops listed:=by simpa using h3
  exact Jc ho (Region.noSelect_spec hsel) hs hc hn h2 (fun listed' a' hL=>seqB_ready hL.1) l.length listed a inv (Region.free_spec ho h4) hi' hy (Db hsel hs hc hn l _ _ (inv.set hi' h2) h5 hr)
structure Al where
 i : Nat
 d : Nat
 T : TypeId
 cs : List Value
def Bu (P : Program) (md : Region.Mode) (ops : Array Oper) (x : Al) : Prop :=
 ∃ ty pos after,ops[x.i]? = some (Oper.mk (some x.d) (.alloc x.T) ty pos after none) ∧ (after.all fun e=>!Region.binds md e) = true ∧ ∃ z,lO P x.T z ∧ z.cells = x.cs.toArray
def fF (E : Nat → Option Value) : List Al → Act → Act
 | [],a=>a
 | x :: r,a=>match E x.i with
  | some v=>fF E r (a.put (some x.d) v)
  | none=>fF E r a
def rO (ops : Array Oper) (o : Oper) (al : List Al) : Bool:=al.all fun x=>!(o.looksAt ops).contains x.d && o.dst != some x.d
theorem tF {E : Nat → Option Value} {o : Oper} (hs : ∀ cs b,o.op ≠ .select cs b) : ∀ {al : List Al},rO ops o al = true → ∀ a,execOp (fF E al a).eval o = execOp a.eval o ∧ Region.wanted o (yielded ops (fF E al a).tmps) = Region.wanted o (yielded ops a.tmps)
 | [],_,a=>⟨rfl,rfl⟩
 | x :: r,hc,a=>by
  simp only[rO,List.all_cons,Bool.and_eq_true,Bool.not_eq_true'] at hc;have hr : rO ops o r = true:=by simp only[rO,Bool.and_eq_true,Bool.not_eq_true'] ;simpa using hc.2
  have hd : x.d ∉ o.looksAt ops:=by simpa using hc.1.1
  unfold fF;split
  · obtain ⟨h1,h2⟩:=tF (E:=E) hs hr (a.put (some x.d) _)
    rename_i v _;exact ⟨h1.trans (execOp_put o hs a (some x.d) v (fun d e=>by cases e;exact hd)),h2.trans (wanted_put o a (some x.d) v (fun d e=>by cases e;exact hd))⟩
  · exact tF hs hr a
theorem wB {E : Nat → Option Value} {o : Oper} {v : Value} : ∀ {al : List Al},rO ops o al = true → ∀ a,(fF E al a).put o.dst v = fF E al (a.put o.dst v)
 | [],_,a=>rfl
 | x :: r,hc,a=>by
  simp only[rO,List.all_cons,Bool.and_eq_true,Bool.not_eq_true',bne_iff_ne,ne_eq] at hc;have hr : rO ops o r = true:=by simp only[rO,Bool.and_eq_true,Bool.not_eq_true'] ;simpa using hc.2
  unfold fF;split
  · rename_i u _
    rw [wB hr,Act.put_comm a u v (fun d e=>by cases e;exact hc.1.2)]
  · exact wB hr a
theorem Dd {E : Nat → Option Value} {x : Al} {v : Value} : ∀ {al : List Al},(al.map (·.i)).Nodup → (al.map (·.d)).Nodup → x ∈ al → E x.i = none → ∀ a,(fF E al a).put (some x.d) v = fF (fun j=>if j = x.i then some v else E j) al a
 | [],_,_,hx,_,_=>by cases hx
 | y :: r,hi,hd,hx,he,a=>by
  simp only[List.map_cons,List.nodup_cons] at hi hd;have same : ∀ (l : List Al),x.i ∉ l.map (·.i) → ∀ a,fF (fun j=>if j = x.i then some v else E j) l a = fF E l a:=by
   intro l
   induction l with
   | nil=>intro _ a;rfl
   | cons z l ih =>
    intro hn a;simp only[List.map_cons,List.mem_cons,not_or] at hn;unfold fF;simp only[Ne.symm hn.1,if_false];split <;> exact ih hn.2 _
  have push : ∀ (l : List Al),x.d ∉ l.map (·.d) → ∀ a,(fF E l a).put (some x.d) v = fF E l (a.put (some x.d) v):=by
   intro l
   induction l with
   | nil=>intro _ a;rfl
   | cons z l ih =>
    intro hn a;simp only[List.map_cons,List.mem_cons,not_or] at hn;unfold fF;split
    · rename_i u _
      rw [ih hn.2,Act.put_comm a u v (fun d e=>by cases e;simp;exact hn.1)]
    · exact ih hn.2 _
  rcases List.mem_cons.1 hx with rfl | hx
  · unfold fF
    simp only[he,if_true];rw [push r hd.1,same r hi.1]
  · have hne : y.i ≠ x.i:=fun e=>hi.1 (by rw [e];exact List.mem_map_of_mem hx)
    unfold fF;simp only[hne,if_false];split <;> exact Dd hi.2 hd.2 hx he _
def Oi (E : Nat → Option Value) (al : List Al) : Nat:=(al.filter fun x=>(E x.i).isNone).length
theorem Rq {E : Nat → Option Value} {x : Al} {v : Value} : ∀ {al : List Al},(al.map (·.i)).Nodup → x ∈ al → E x.i = none → Oi E al = Oi (fun j=>if j = x.i then some v else E j) al + 1
 | [],_,hx,_=>by cases hx
 | y :: r,hi,hx,he=>by
  simp only[List.map_cons,List.nodup_cons] at hi;have same : ∀ (l : List Al),x.i ∉ l.map (·.i) → Oi (fun j=>if j = x.i then some v else E j) l = Oi E l:=by
   intro l
   induction l with
   | nil=>intro _;rfl
   | cons z l ih =>
    intro hn;simp only[List.map_cons,List.mem_cons,not_or] at hn;have:=ih hn.2;unfold Oi at *
    rw [List.filter_cons,List.filter_cons];simp only[Ne.symm hn.1,if_false];split <;> simp [this]
  rcases List.mem_cons.1 hx with rfl | hx
  · have:=same r hi.1
    unfold Oi at *
    rw [List.filter_cons,List.filter_cons];simp [he,this]
  · have hne : y.i ≠ x.i:=fun e=>hi.1 (by rw [e];exact List.mem_map_of_mem hx)
    have:=Rq (v:=v) hi.2 hx he;unfold Oi at *
    rw [List.filter_cons,List.filter_cons];simp only[hne,if_false];split <;> simp [this]
theorem Lh {E : Nat → Option Value} {al : List Al} (h : Oi E al = 0) : ∀ x ∈ al,∃ v,E x.i = some v:=fun x hx=>by
 unfold Oi at h;have:=List.filter_eq_nil_iff.1 (List.eq_nil_of_length_eq_zero h) x hx;cases he : E x.i with
 | none=>simp [he] at this
 | some v=>exact ⟨v,rfl⟩
theorem abr {E : Nat → Option Value} {al : List Al} (h : 0 < Oi E al) : ∃ x ∈ al,E x.i = none:=by
 unfold Oi at h;obtain ⟨x,hx⟩:=List.length_pos_iff_exists_mem.1 h;obtain ⟨h1,h2⟩:=List.mem_filter.1 hx;exact ⟨x,h1,by simpa using h2⟩
def De (base : Nat) (E : Nat → Option Value) (al : List Al) (w : World) : Prop :=
 (∀ x ∈ al,∀ v,E x.i = some v → ∃ g,v = .pointer (some ⟨g,0,none⟩) ∧ base ≤ g ∧ fX w g x.cs x.T) ∧
 (∀ x ∈ al,∀ y ∈ al,x.i ≠ y.i → ∀ g g',E x.i = some (.pointer (some ⟨g,0,none⟩)) → E y.i = some (.pointer (some ⟨g',0,none⟩)) → g ≠ g')
theorem De.ext {base : Nat} {E : Nat → Option Value} {al : List Al} {w w' : World} (h : De base E al w) (hE : dD w w') : De base E al w' :=
 ⟨fun x hx v hv=>let ⟨g,e,hb,hB⟩:=h.1 x hx v hv;⟨g,e,hb,hB.ext hE⟩,h.2⟩
theorem De.new {base : Nat} {E : Nat → Option Value} {al : List Al} {w : World} (h : De base E al w) {x : Al} (hx : x ∈ al) (hi : (al.map (·.i)).Nodup) (he : E x.i = none) (hb : base ≤ w.heap.size) :
 De base (fun j=>if j = x.i then some (.pointer (some ⟨w.heap.size,0,none⟩)) else E j) al (w.alloc (.cells x.cs.toArray x.T)):=by
 have huniq : ∀ y ∈ al,y.i = x.i → y = x:=by
  intro y hy e;clear h
  induction al with
  | nil=>cases hx
  | cons z r ih =>
   simp only[List.map_cons,List.nodup_cons] at hi;rcases List.mem_cons.1 hx with rfl | hx'
   · rcases List.mem_cons.1 hy with rfl | hy'
     · rfl
     · exact absurd (by rw [← e];exact List.mem_map_of_mem hy') hi.1
   · rcases List.mem_cons.1 hy with rfl | hy'
     · exact absurd (by rw [e];exact List.mem_map_of_mem hx') hi.1
     · exact ih hx' hi.2 hy'
 refine ⟨fun y hy v hv=>?_,fun y hy z hz hne g g' h1 h2=>?_⟩
 · by_cases e : y.i = x.i
   · obtain rfl:=huniq y hy e
     simp only[if_true] at hv;cases hv;exact ⟨_,rfl,hb,gQ w _ _⟩
   · simp only[e,if_false] at hv
     obtain ⟨g,e1,e2,e3⟩:=h.1 y hy v hv;exact ⟨g,e1,e2,e3.ext ((dD.refl w).alloc _)⟩
 · by_cases e : y.i = x.i
   · have e' : z.i ≠ x.i:=fun e2=>hne (e.trans e2.symm)
     simp only[e,if_true] at h1;simp only[e',if_false] at h2;cases h1;obtain ⟨g2,e1,_,e3⟩:=h.1 z hz _ h2;cases e1;exact Nat.ne_of_gt e3.lt
   · by_cases e' : z.i = x.i
     · simp only[e,if_false] at h1
       simp only[e',if_true] at h2;cases h2;obtain ⟨g2,e1,_,e3⟩:=h.1 y hy _ h1;cases e1;exact Nat.ne_of_lt e3.lt
     · simp only[e,if_false] at h1
       simp only[e',if_false] at h2;exact h.2 y hy z hz hne g g' h1 h2
def Jd (md : Region.Mode) (ops : Array Oper) (n : Nat) (al : List Al) : Bool :=
 decide ((al.map (·.i)).Nodup) && decide ((al.map (·.d)).Nodup) && (al.all fun x=>decide (x.i < n)) &&
 ((List.range n).all fun j=>(al.any fun x=>x.i == j) || match ops[j]? with
  | some o=>rO ops o al && o.after.all fun e=>!Region.binds md e || !(al.any fun x=>x.i == e.on)
  | none=>true)
theorem sim {n g : Nat} {al : List Al} {L : Act → Prop} {Q' : Exit → Act → World → Prop} {tl : List Oper} (hsel : Region.noSelect ops = true) (hs : Region.sinkB md ops n = true) (hc : Region.chainB md ops n = true) (hn : n < ops.size)
 (hal : ∀ x ∈ al,Bu P md ops x) (hB : Jd md ops n al = true) (htl : ∀ j,tl[j]? = ops[n + j]?) (hgl : tl.length = g)
 (hL : ∀ a E w,dD w0 w → De w0.heap.size E al w → (∀ x ∈ al,∃ v,E x.i = some v) → L a → wpList P ops Q' tl (fF E al a) w) :
 ∀ (k f : Nat) (E : Nat → Option Value) (lr lm : Array Bool) (a : Act) (w : World),k = f + Oi E al → HeadInv md ops n lr → lm.size = lr.size → (∀ j,lm.getD j false = (lr.getD j false || al.any fun x=>x.i == j)) →
  (∀ x ∈ al,(E x.i = none ↔ lr.getD x.i false = false)) → dD w0 w → De w0.heap.size E al w →
  Da P md ops w0 n (fun listed' a'=>Region.seqB md ops g n listed' = true ∧ L a') f lm a → wpAny P md ops Q' (k + g) lr (fF E al a) w:=by
 simp only[Jd,Bool.and_eq_true,decide_eq_true_eq,List.all_eq_true,List.mem_range] at hB;obtain ⟨⟨⟨hni,hnd⟩,hlt⟩,hcl⟩:=hB;intro k
 induction k with
 | zero =>
  intro f E lr lm a w hk inv hsz hlm hE hx hla H;obtain rfl : f = 0:=by omega
  have h0 : Oi E al = 0:=by omega
  have hall:=Lh h0;have heq : lm = lr:=by
   apply Array.ext hsz;intro j h1 h2;have h3:=hlm j;simp only[Array.getD_eq_getD_getElem?,Array.getElem?_eq_getElem h1,Array.getElem?_eq_getElem h2,Option.getD_some] at h3;rw [h3];cases hlr : lr[j] with
   | true=>rfl
   | false =>
    rw [Bool.false_or];cases hany : al.any fun x=>x.i == j with
    | false=>rfl
    | true =>
     obtain ⟨x,hx1,hx2⟩:=List.any_eq_true.1 hany;have hx3 : x.i = j:=by simpa using hx2
     obtain ⟨v,hv⟩:=hall x hx1;have : lr.getD x.i false = false:=by
      rw [hx3,Array.getD_eq_getD_getElem?,Array.getElem?_eq_getElem h2];simpa using hlr
     rw [(hE x hx1).2 this] at hv;cases hv
  subst heq;obtain ⟨H1,H2⟩:=H;rw [Nat.zero_add,← hgl];exact wpAny_of_seq (md:=md) tl n lm _ w htl (by rw [hgl];exact H1) (hL a E w hx hla hall H2)
 | succ k ih =>
  intro f E lr lm a w hk inv hsz hlm hE hx hla H;have getT : ∀ j,j < ops.size → lr.getD j false = false → lr.getD j true = false:=fun j hj h=>getD_in (by rw [inv.size];exact hj) h
  -- some head operation is not listed
  have hsome : ∃ j,j ∈ Region.ready md ops lr ∧ j < n:=by
   rcases Nat.eq_zero_or_pos (Oi E al) with h0 | h0
   · obtain ⟨f,rfl⟩ : ∃ q,f = q + 1:=⟨f - 1,by omega⟩
     obtain ⟨hne,hr⟩:=H;obtain ⟨j,hj⟩:=List.exists_mem_of_ne_nil _ hne;have hjn:=(hr j hj).1;refine ⟨j,?_,hjn⟩;have hall:=Lh h0;obtain ⟨hju,oj,hoj,hpre⟩:=mem_ready.1 hj;refine mem_ready.2 ⟨?_,oj,hoj,fun e he hb=>?_⟩
     · have h1:=hlm j
       rw [getD_both hju] at h1;have h2 : lr.getD j false = false:=by
        cases h : lr.getD j false with
        | false=>rfl
        | true=>rw [h] at h1;simp at h1
       exact getT j (by omega) h2
     · have h1:=hlm e.on
       rw [hpre e he hb] at h1;cases h : lr.getD e.on false with
       | true=>rfl
       | false =>
        rw [h,Bool.false_or] at h1;obtain ⟨x,hx1,hx2⟩:=List.any_eq_true.1 h1.symm;have hx3 : x.i = e.on:=by simpa using hx2
        obtain ⟨v,hv⟩:=hall x hx1;rw [(hE x hx1).2 (by rw [hx3];exact h)] at hv;cases hv
   · obtain ⟨x,hx1,hx2⟩:=abr h0
     obtain ⟨ty,pos,after,hop,haf,_⟩:=hal x hx1;have hxn : x.i < n:=by simpa using hlt x hx1
     refine ⟨x.i,mem_ready.2 ⟨getT _ (by omega) ((hE x hx1).1 hx2),_,hop,fun e he hb=>?_⟩,hxn⟩;have:=Array.all_eq_true_iff_forall_mem.1 haf e he;simp [hb] at this
  obtain ⟨j0,hj0,hj0n⟩:=hsome;have hj0u:=(mem_ready.1 hj0).1;rw [show k + 1 + g = (k + g) + 1 by omega];refine ⟨fun h=>(by rw [h] at hj0;cases hj0),fun i hi=>?_⟩;have hin : i < n:=by
   rcases Nat.lt_or_ge i n with h | h
   · exact h
   · exact absurd hi (tail_waits hs hc hn inv _ j0 rfl hj0n hj0u i h)
  obtain ⟨hiu,oi,hoi,hpre⟩:=mem_ready.1 hi;by_cases hia : al.any (fun x=>x.i == i) = true
  · -- an allocation
    obtain ⟨x,hx1,hx2⟩:=List.any_eq_true.1 hia;obtain rfl : x.i = i:=by simpa using hx2
    obtain ⟨ty,pos,after,hop,haf,z,hz,hzc⟩:=hal x hx1;have hex : E x.i = none:=(hE x hx1).2 (getD_both hiu);obtain ⟨inf,hinf,hinz⟩:=hz;unfold wpOp;simp only[hop];rw [if_pos (by simp [Region.wanted])];refine .inl ?_;have hrun : ∀ ρ : Operand → Value,(execOp ρ (Oper.mk (some x.d) (.alloc x.T) ty pos after none)).run P w = .ok (.value (.pointer (some ⟨w.heap.size,0,none⟩))) (w.alloc (.cells x.cs.toArray x.T)):=fun ρ=>by
     simp [execOp,Instr.alloc,zeroValue,typeInfo,hinf,hinz,newVar,newRow,hzc,newObj,Sem.run]
    unfold Oper.wp;rw [hrun];show wpAny P md ops Q' (k + g) (lr.setIfInBounds x.i true) ((fF E al a).put (some x.d) (.pointer (some ⟨w.heap.size,0,none⟩))) _
    rw [Dd hni hnd hx1 hex];have hc1:=Rq (v:=.pointer (some ⟨w.heap.size,0,none⟩)) hni hx1 hex;have hxs : x.i < lr.size:=by rw [inv.size];omega
    refine ih f _ _ lm a _ (by omega) (inv.set hi hin) (by simp [hsz]) (fun j=>?_) (fun y hy=>?_) (hx.alloc _) (hla.new hx1 hni hex hx.size) H
    · rw [hlm j]
      by_cases e : x.i = j
      · subst e
        rw [hia];simp
      · rw [getD_set_ne false e]
    · by_cases e : x.i = y.i
      · rw [← e]
        simp [hxs]
      · rw [getD_set_ne false e]
        simp only[Ne.symm e,if_false];exact hE y hy
  · -- an operation that computes
    have hia' : al.any (fun x=>x.i == i) = false:=by simpa using hia
    have hci:=hcl i hin;rw [hia',Bool.false_or,hoi] at hci;simp only[Bool.and_eq_true] at hci;have hready : i ∈ Region.ready md ops lm:=by
     refine mem_ready.2 ⟨?_,oi,hoi,fun e he hb=>by rw [hlm,hpre e he hb];rfl⟩;have h1:=hlm i;rw [getD_both hiu,hia'] at h1;exact getD_in (by rw [hsz,inv.size];omega) (by simpa using h1)
    cases f with
    | zero =>
     obtain ⟨H1,H2⟩:=H;have:=seqB_ready H1 i hready;omega
    | succ f =>
     obtain ⟨_,o,v,ho,hy,hK⟩:=H.2 i hready;rw [hoi] at ho;cases ho;have hse : ∀ cs b,oi.op ≠ .select cs b:=fun cs b=>Region.noSelect_spec hsel i oi cs b hoi;obtain ⟨e1,e2⟩:=tF (E:=E) hse hci.1 a;have hy':=hy.of_same e1 e2;have key : ∀ w',dD w w' → wpAny P md ops Q' (k + g) (lr.setIfInBounds i true) ((fF E al a).put oi.dst v) w':=fun w' hw'=>by
      rw [wB hci.1];refine ih f E _ _ _ w' (by omega) (inv.set hi hin) (by simp [hsz]) (fun j=>?_) (fun y hy=>?_) (hx.trans hw') (hla.ext hw') hK
      · by_cases e : i = j
        · subst e
          have h1 : i < lr.size:=by rw [inv.size];omega
          simp [h1,hsz]
        · rw [getD_set_ne false e,getD_set_ne false e,hlm j]
      · have e : i ≠ y.i:=fun e=>by
         have : al.any (fun x=>x.i == i) = true:=List.any_eq_true.2 ⟨y,hy,by simp [e]⟩;rw [hia'] at this;cases this
        rw [getD_set_ne false e];exact hE y hy
     unfold wpOp;simp only[hoi];rcases hy' with ⟨hw,hv⟩ | ⟨hw,rfl⟩
     · rw [if_pos hw]
       refine .inl ?_;have h3:=hv w hx;unfold Oper.quietAt at h3;unfold Oper.wp;generalize (execOp (fF E al a).eval oi).run P w = r at *
       cases r with
       | ok nx w' =>
        cases nx <;> simp only[Oper.quietUpon] at h3 <;> simp only[Oper.upon]
        case value u =>
         obtain ⟨e1,e2⟩:=h3;rw [e1,e2];exact key w (dD.refl w)
        case skip =>
         obtain ⟨e1,e2⟩:=h3;rw [e1,← e2];exact key w (dD.refl w)
        case enter f' args =>
         obtain ⟨e1,hcl⟩:=h3;rw [e1];exact hcl.mono fun e w'' ⟨he,hw''⟩=>by subst he;exact key w'' hw''
       | halt x w'=>simp only[Oper.quietUpon] at h3
     · rw [if_neg (by rw [hw];simp)]
       exact key w (dD.refl w)
theorem sL {id : Nat} {Q : Exit → Act → World → Prop} {a : Act} {w : World} {l : List Oper} (n : Nat) (idx : List Nat) (al : List Al) (hm : P.follows .mixedOrders = true)
 (hB : (Region.noSelect l.toArray && decide (n < l.length) && Region.sinkB .any l.toArray n && Region.chainB .any l.toArray n && Jd .any l.toArray n al && decide (n = idx.length + al.length) &&
  Yf .any l.toArray (l.length - n) n idx (al.foldl (fun s x=>s.setIfInBounds x.i true) (Array.replicate l.toArray.size false))) = true)
 (hal : ∀ x ∈ al,Bu P .any l.toArray x) {ol : List Oper} (hol : (idx.map fun i=>(l.toArray[i]?).getD default) = ol)
 (h : ∀ w1,dD w w1 → tE P l.toArray w1 (fun a'=>∀ E w',dD w1 w' → De w1.heap.size E al w' → (∀ x ∈ al,∃ v,E x.i = some v) → wpList P l.toArray Q (l.drop n) (fF E al a') w') ol a) : (Code.region id l.toArray true).wp P Q a w:=by
 simp only[Bool.and_eq_true,decide_eq_true_eq] at hB;obtain ⟨⟨⟨⟨⟨⟨hsel,hn⟩,hs⟩,hc⟩,hf⟩,hlen⟩,hlex⟩:=hB;subst hol;have hn' : n < l.toArray.size:=by simpa using hn
 have hf':=hf;simp only[Jd,Bool.and_eq_true,decide_eq_true_eq,List.all_eq_true,List.mem_range] at hf';obtain ⟨⟨⟨hni,hnd⟩,hlt⟩,hcl⟩:=hf';generalize hlm : al.foldl (fun s x=>s.setIfInBounds x.i true) (Array.replicate l.toArray.size false) = lm at hlex;have hfold : ∀ (r : List Al) (s : Array Bool),(r.foldl (fun s x=>s.setIfInBounds x.i true) s).size = s.size ∧ ∀ j,j < s.size → (r.foldl (fun s x=>s.setIfInBounds x.i true) s).getD j false = (s.getD j false || r.any fun x=>x.i == j):=by
  intro r
  induction r with
  | nil=>intro s;exact ⟨rfl,fun j _=>by simp⟩
  | cons x r ih =>
   intro s;obtain ⟨h1,h2⟩:=ih (s.setIfInBounds x.i true);refine ⟨by rw [List.foldl_cons,h1];simp,fun j hj=>?_⟩;rw [List.foldl_cons,h2 j (by simpa using hj),List.any_cons];by_cases e : x.i = j
   · subst e
     simp [hj]
   · have e2 : (x.i == j) = false:=by simpa using e
     rw [getD_set_ne false e,e2,Bool.false_or]
 obtain ⟨hsz,hget⟩:=hfold al (Array.replicate l.toArray.size false);rw [hlm] at hsz hget;have hsz' : lm.size = l.toArray.size:=by rw [hsz];simp
 have hlmj : ∀ j,lm.getD j false = al.any fun x=>x.i == j:=fun j=>by
  rcases Nat.lt_or_ge j l.toArray.size with hj | hj
  · rw [hget j (by simpa using hj),getD_replicate_false,Bool.false_or]
  · have h1 : lm.getD j false = false:=by rw [Array.getD_eq_getD_getElem?,Array.getElem?_eq_none (by omega)];rfl
    rw [h1]
    symm
    rw [Bool.eq_false_iff];intro h2;obtain ⟨x,hx1,hx2⟩:=List.any_eq_true.1 h2;have hx3 : x.i = j:=by simpa using hx2
    have : x.i < n:=by simpa using hlt x hx1
    omega
 have inv0 : HeadInv .any l.toArray n (Array.replicate l.toArray.size false) :=
  ⟨by simp,fun j oj _ hl=>(by rw [getD_replicate_false] at hl;cases hl),fun t _ ht=>getD_in (by simpa using ht) (getD_replicate_false _ _)⟩
 have invm : HeadInv .any l.toArray n lm:=by
  refine ⟨hsz',fun j oj hoj hl e he hb=>?_,fun t ht ht'=>getD_in (by rw [hsz'];exact ht') ?_⟩
  · rw [hlmj] at hl
    obtain ⟨x,hx1,hx2⟩:=List.any_eq_true.1 hl;have hx3 : x.i = j:=by simpa using hx2
    obtain ⟨ty,pos,after,hop,haf,_⟩:=hal x hx1;rw [hx3,hoj] at hop;cases hop;have:=Array.all_eq_true_iff_forall_mem.1 haf e he;simp [hb] at this
  · rw [hlmj,Bool.eq_false_iff]
    intro h2;obtain ⟨x,hx1,hx2⟩:=List.any_eq_true.1 h2;have hx3 : x.i = t:=by simpa using hx2
    have : x.i < n:=by simpa using hlt x hx1
    omega
 refine wp_region_any hm ?_;obtain ⟨w1,hw1⟩ : ∃ w1,w1 = ({ w with drawn:=w.drawn + 1 } : World):=⟨_,rfl⟩
 rw [← hw1];have hx1 : dD w w1:=by rw [hw1];exact (dD.refl w).drawn
 have H:=Db (md:=.any) (g:=l.length - n) hsel hs hc hn' idx lm a invm hlex (h w1 hx1);have hcnt : Oi (fun _=>none) al = al.length:=by
  unfold Oi;simp
 have key:=sim (md:=.any) (P:=P) (ops:=l.toArray) (w0:=w1) (Q':=Q) (tl:=l.drop n) (g:=l.length - n) (al:=al) hsel hs hc hn' hal hf (fun j=>by simp [List.getElem?_drop]) (by simp) (fun a E w' hw' hla hall hL=>hL E w' hw' hla hall)
  (idx.length + al.length) idx.length (fun _=>none) (Array.replicate l.toArray.size false) lm a w1 (by rw [hcnt]) inv0 (by rw [hsz'];simp) (fun j=>by rw [getD_replicate_false,Bool.false_or];exact hlmj j)
  (fun x _=>⟨fun _=>getD_replicate_false _ _,fun _=>rfl⟩) (dD.refl w1) ⟨fun x _ v hv=>(by cases hv),fun x _ y _ _ g g' h1 _=>(by cases h1)⟩ H
 have hap : ∀ r : List Al,fF (fun _=>none) r a = a:=by
  intro r
  induction r with
  | nil=>rfl
  | cons x r ih=>exact ih
 rw [hap,← hlen] at key;have e : n + (l.length - n) = l.toArray.size:=by rw [List.size_toArray];omega
 rwa [e] at key
end
section
variable {P : Program} {ops : Array Oper} {w0 : World} {L : Act → Prop} {ds : List Deferred} {l : List Value} {rest : List Oper} {d : Nat} {op : Op} {ty : TypeId} {pos : String} {after : Array Edge} {v : Value} {x y : Operand} {T : TypeId}
theorem Yg (hr : ∀ w,dD w0 w → vX P l op ty v w) (h : tE P ops w0 L rest (Fr (l.set d v) ds)) : tE P ops w0 L (Oper.mk (some d) op ty pos after none :: rest) (Fr l ds):=by
 refine ⟨v,.inl ⟨by simp [Region.wanted],fun w hw=>?_⟩,?_⟩
 · unfold Oper.quietAt
   rw [fY,hr w hw _ rfl rfl];exact ⟨rfl,rfl⟩
 · show tE P ops w0 L rest ((Fr l ds).put (some d) v)
   rw [iJ];exact h
theorem iQ (hr : gE P l op ty v) (h : tE P ops w0 L rest (Fr (l.set d v) ds)) : tE P ops w0 L (Oper.mk (some d) op ty pos after none :: rest) (Fr l ds):=Yg (fun w _=>hr w) h
theorem yT {a : Addr} (hx : ev l x = .pointer (some a)) (hv : ∀ w',dD w0 w' → vF P w' T a v) (h : tE P ops w0 L rest (Fr (l.set d v) ds)) : tE P ops w0 L (Oper.mk (some d) (.load T x) ty pos after none :: rest) (Fr l ds) :=
 Yg (fun _ hE=>cF hx (hv _ hE)) h
theorem Bx {f : FuncId} {fo : Operand} {xs : Array Operand} {args : List Value} {first cap : Array Value} {a0 : Array TypeId} (hf : ev l fo = .func (.func f) first cap) (hxs : first.toList ++ xs.toList.map (ev l) ++ cap.toList = args) (hc : ∀ w',dD w0 w' → eI P f args w' fun u _=>u = v)
 (h : tE P ops w0 L rest (Fr (l.set d v) ds)) : tE P ops w0 L (Oper.mk (some d) (.call { callee:=.value fo,args:=xs,argTypes:=a0 }) ty pos after none :: rest) (Fr l ds):=by
 refine ⟨v,.inl ⟨by simp [Region.wanted],fun w hw=>?_⟩,?_⟩
 · unfold Oper.quietAt
   rw [fY,kD (hc w hw).1 hf hxs _ rfl];refine ⟨rfl,(hc w hw).2.mono ?_⟩;rintro e w'' ⟨u,rfl,hE,rfl⟩;exact ⟨rfl,hE⟩
 · show tE P ops w0 L rest ((Fr l ds).put (some d) v)
   rw [iJ];exact h
theorem Je {f : FuncId} {fo : Operand} {xs : Array Operand} {args : List Value} {first cap : Array Value} {a0 : Array TypeId} (hf : ev l fo = .func (.func f) first cap) (hxs : first.toList ++ xs.toList.map (ev l) ++ cap.toList = args) (hc : kV P f args v)
 (h : tE P ops w0 L rest (Fr (l.set d v) ds)) : tE P ops w0 L (Oper.mk (some d) (.call { callee:=.value fo,args:=xs,argTypes:=a0 }) ty pos after none :: rest) (Fr l ds) :=
 Bx hf hxs (fun w' _=>hc w') h
theorem acz (h : L (Fr l ds)) : tE P ops w0 L [] (Fr l ds):=h
theorem al1 {md : Region.Mode} {x : Al} (h : Bu P md ops x) : ∀ y ∈ [x],Bu P md ops y:=fun y hy=>by
 rcases List.mem_cons.1 hy with rfl | hy
 · exact h
 · cases hy
variable {Q : Exit → Act → World → Prop} {tl : List Oper}
theorem ade {i d : Nat} {T : TypeId} {cs : List Value} (h : ∀ w' g,dD w0 w' → w0.heap.size ≤ g → fX w' g cs T → wpList P ops Q tl (Fr (l.set d (.pointer (some ⟨g,0,none⟩))) ds) w') :
 ∀ E w',dD w0 w' → De w0.heap.size E [⟨i,d,T,cs⟩] w' → (∀ x ∈ [(⟨i,d,T,cs⟩ : Al)],∃ v,E x.i = some v) → wpList P ops Q tl (fF E [⟨i,d,T,cs⟩] (Fr l ds)) w':=fun E w' hE hL hv=>by
 obtain ⟨v,hv⟩:=hv ⟨i,d,T,cs⟩ (by simp);obtain ⟨g,rfl,hg,hB⟩:=hL.1 ⟨i,d,T,cs⟩ (by simp) v hv;have e : fF E [⟨i,d,T,cs⟩] (Fr l ds) = Fr (l.set d (.pointer (some ⟨g,0,none⟩))) ds:=by
  simp only[fF,hv];exact iJ _ _
 rw [e];exact h w' g hE hg hB
end
end Go.Lith
namespace Go.Lith
section
variable {P : Program} {ops : Array Oper} {w0 : World} {ds : List Deferred} {l : List Value} {Q : Exit → Act → World → Prop} {tl : List Oper}
end
end Go.Lith
namespace Go.Lith
open Go.RowKit
section
variable {P : Program} {ds : List Deferred} {l : List Value} {T ty : TypeId} {ops : Array Oper} {Q : Exit → Act → World → Prop} {rest : List Oper} {d : Nat} {pos : String} {after : Array Edge} {w : World}
theorem kE {E : TypeId} {c n : Nat} {z : Value} {parts : Array (Nat × Operand)} {vs : Array (Nat × Value)} {base : Array Value} {cs : List Value} (hu : P.underlying T = some (.slice E)) (hi : (P.info? E).map (fun i=>(i.size,i.zero)) = some (c,some z)) (h0 : n * c ≠ 0) (h24 : n * c ≤ 16777216)
 (hb : ((Array.range (n * c)).map fun i=>z.cells[i % z.cells.size]!) = base) (hp : (parts.map fun (i,x)=>(i,ev l x)) = vs) (hf : Instr.fill (fun i=>some (i * c,c)) base vs.toList = some cs.toArray)
 (h : ∀ w' g,dD w w' → w.heap.size ≤ g → fX w' g cs E → wpList P ops Q rest (Fr (l.set d (.slice (some ⟨g,0,none⟩) n n)) ds) w') :
 wpList P ops Q (Oper.mk (some d) (.buildSlice T n parts) ty pos after none :: rest) (Fr l ds) w:=by
 subst hb;subst hp;cases hq : P.info? E with
 | none=>rw [hq] at hi;cases hi
 | some i =>
  rw [hq] at hi;simp only[Option.map_some,Option.some.injEq,Prod.mk.injEq] at hi;obtain ⟨e1,e2⟩:=hi;have e : (Fr l).eval = ev l:=funext cL;have h24' : ¬ 16777216 < n * c:=by omega
  refine jU (w':=w.alloc (.cells cs.toArray E)) (v:=.slice (some ⟨w.heap.size,0,none⟩) n n) (fun o ho _=>?_) (h _ _ ((dD.refl w).alloc _) (Nat.le_refl _) (gQ w cs E));simp only[execOp,ho,e];simp [Instr.buildSlice,run_underlying hu,sizeOf,typeInfo,zeroValue,hq,e1,e2,h24',newRow,newObj,Sem.run] at hf ⊢;rw [if_neg h0];simp [hf];rfl
end
end Go.Lith
namespace Go.Lith
open Go.RowKit
section
variable {P : Program} {ds : List Deferred} {l : List Value} {x y : Operand} {T ty : TypeId} {ops : Array Oper} {Q : Exit → Act → World → Prop} {rest : List Oper} {d : Nat} {pos : String} {after : Array Edge} {w : World} {k : IntKind}
end
end Go.Lith
namespace Go.Lith
open Go.RowKit
theorem Yh (a : Int) : 0 ≤ a * a:=by
 rcases Int.le_total 0 a with h | h
 · exact Int.mul_nonneg h h
 · exact Int.mul_nonneg_of_nonpos_of_nonpos h h
theorem Yi (u : P3) : 0 ≤ u.dot u:=by
 have:=Yh u.x;have:=Yh u.y;have:=Yh u.z;simp only[P3.dot];omega
theorem aeH : Bd 1 1:=by
 show Int.natAbs 1 < 2 ^ 1
 decide
instance : Bw 1 1:=⟨aeH⟩
structure eG (w : World) (A : Option Addr) (n : Nat) (ts : List T3) : Prop where
 len : ts.length = n
 it : ∀ t ∈ ts,IT t
 row : ∀ i t,ts[i]? = some t → ∃ a,A = some a ∧ jP w (a.add (i * 9)) [.int .i64 t.a.x,.int .i64 t.a.y,.int .i64 t.a.z,.int .i64 t.b.x,.int .i64 t.b.y,.int .i64 t.b.z,.int .i64 t.c.x,.int .i64 t.c.y,.int .i64 t.c.z]
theorem eG.ext {w w' : World} {A : Option Addr} {n : Nat} {ts : List T3} (h : eG w A n ts) (hE : dD w w') : eG w' A n ts :=
 ⟨h.len,h.it,fun i t hi=>let ⟨a,e,hr⟩:=h.row i t hi;⟨a,e,hr.ext hE⟩⟩
theorem eG.get {w : World} {A : Option Addr} {n : Nat} {ts : List T3} (h : eG w A n ts) {i : Nat} (hi : i < n) : ∃ t,ts[i]? = some t ∧ IT t ∧ ∃ a,A = some a ∧ jP w (a.add (i * 9)) [.int .i64 t.a.x,.int .i64 t.a.y,.int .i64 t.a.z,.int .i64 t.b.x,.int .i64 t.b.y,.int .i64 t.b.z,.int .i64 t.c.x,.int .i64 t.c.y,.int .i64 t.c.z]:=by
 have hl : i < ts.length:=by rw [h.len];exact hi
 refine ⟨ts[i],List.getElem?_eq_getElem hl,h.it _ (List.getElem_mem hl),h.row i _ (List.getElem?_eq_getElem hl)⟩
end Go.Lith
namespace Go.Lith
open Go.RowKit
theorem Yj {a b : Int} : (gT a = gT b ∧ nX a = nX b) ↔ a = b:=by
 constructor
 · rintro ⟨h1,h2⟩
   exact aeE (by simp only[W,h1,h2])
 · rintro rfl;exact ⟨rfl,rfl⟩
end Go.Lith
namespace Go.Lith
open Go.RowKit
def aX (t : T3) : List Go.Value:=[.int .i64 t.a.x,.int .i64 t.a.y,.int .i64 t.a.z,.int .i64 t.b.x,.int .i64 t.b.y,.int .i64 t.b.z,.int .i64 t.c.x,.int .i64 t.c.y,.int .i64 t.c.z]
theorem dI (t : T3) : (aX t).length = 9:=rfl
theorem uS : ∀ (ts : List T3) (i : Nat) (t : T3),ts[i]? = some t → (ts.flatMap aX).drop (i * 9) = aX t ++ (ts.drop (i + 1)).flatMap aX
 | [],i,t,h=>by cases h
 | u :: ts,0,t,h=>by
  cases h;rfl
 | u :: ts,i + 1,t,h=>by
  rw [List.flatMap_cons,show (i + 1) * 9 = (aX u).length + i * 9 by rw [dI];omega,List.drop_append,List.drop_of_length_le (by omega),List.nil_append];rw [show (aX u).length + i * 9 - (aX u).length = i * 9 by omega];exact uS ts i t h
end Go.Lith
