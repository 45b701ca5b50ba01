/-
 Texts of one claim, laid together: Own, Al, Mem, Grow, Pts, Guard, Geo6, Open, Surf, Surf2, Lat, Chk, Facts, Facts2, Map0, Map, Map2.
-/
import Derived.Sort.Grow
import Derived.Deep.Draws
import Derived.OpenShut
import Derived.Lib.SmallJoins
import Derived.Deep.Slices
import Derived.Test.YtfohfflkhpfjeaaGreatDoorProg
import Derived.Maps.RangeRun
import Derived.Test.YtfohfflkhpfjeaaGreatDoorF1
set_option linter.unusedSimpArgs false
set_option linter.unusedVariables false
set_option linter.unusedSectionVars false
namespace Go.Lith
open Go.RowKit
abbrev Df (A : Option Addr) : Option Nat:=A.map (·.block)
structure Ow (w0 w : World) (S : List (Option Nat)) (E : TypeId) (c : Nat) (A : Option Addr) (n cap : Nat) (xs : List Value) : Prop where
 own : w.ownsRow w0.heap.size E c (.slice A n cap) n xs
 sep : ∀ b,Df A = some b → some b ∉ S
 bd : ∀ b,some b ∈ S → b < w.heap.size
structure Wr (w w' : World) (A : Option Addr) : Prop where
 os : w'.os = w.os
 tape : w'.tape = w.tape
 output : w'.output = w.output
 size : w.heap.size ≤ w'.heap.size
 block : ∀ k,k < w.heap.size → Df A ≠ some k → w'.heap[k]? = w.heap[k]?
theorem kF {w : World} {base c n cap : Nat} {E : TypeId} {A : Option Addr} {xs : List Value} (h : w.ownsRow base E c (.slice A n cap) n xs) :
 (A = none ∧ n = 0 ∧ cap = 0 ∧ xs = []) ∨ ∃ g cur,A = some ⟨g,0,none⟩ ∧ base ≤ g ∧ w.heap[g]? = some (.cells cur E (0,0)) ∧ n ≤ cap ∧ cap ≤ maxLen ∧ cur.size = cap * c ∧ cur.toList.take (n * c) = xs:=by
 rcases h.2 with ⟨h1,h2⟩ | ⟨g,cap',cur,h1,h2,h3,h4,h5,h6,h7⟩
 · cases h1
   exact .inl ⟨rfl,h2,rfl,List.eq_nil_of_length_eq_zero (by rw [h.1,h2,Nat.zero_mul])⟩
 · cases h1
   exact .inr ⟨g,cur,rfl,h2,h3,h4,h5,h6,h7⟩
section
variable {w0 w w' : World} {S : List (Option Nat)} {E : TypeId} {c n cap : Nat} {A : Option Addr} {xs : List Value}
theorem Ow.cases (h : Ow w0 w S E c A n cap xs) : (A = none ∧ n = 0 ∧ cap = 0 ∧ xs = []) ∨ ∃ g cur,A = some ⟨g,0,none⟩ ∧ w0.heap.size ≤ g ∧ w.heap[g]? = some (.cells cur E (0,0)) ∧ n ≤ cap ∧ cap ≤ maxLen ∧ cur.size = cap * c ∧ cur.toList.take (n * c) = xs:=kF h.own
theorem Ow.ge (h : Ow w0 w S E c A n cap xs) : ∀ b,Df A = some b → w0.heap.size ≤ b:=fun b hb=>by
 rcases h.cases with ⟨rfl,_⟩ | ⟨g,cur,rfl,hg,_⟩
 · cases hb
 · cases hb
   exact hg
theorem Ow.le (h : Ow w0 w S E c A n cap xs) : n ≤ cap:=by
 rcases h.cases with ⟨_,rfl,rfl,_⟩ | ⟨g,cur,_,_,_,h1,_⟩
 · exact Nat.le_refl _
 · exact h1
theorem Ow.some (h : Ow w0 w S E c A n cap xs) (hn : 0 < n) : ∃ g,A = some ⟨g,0,none⟩:=by
 rcases h.cases with ⟨_,rfl,_⟩ | ⟨g,cur,rfl,_⟩
 · omega
 · exact ⟨g,rfl⟩
theorem Ow.row (h : Ow w0 w S E c A n cap xs) : ∀ j u,xs[j]? = Option.some u → ∃ a,A = Option.some a ∧ w.cell? (a.add j) = Option.some u:=fun j u hj=>by
 rcases h.cases with ⟨_,_,_,rfl⟩ | ⟨g,cur,rfl,_,hg,_,_,_,h4⟩
 · cases hj
 · refine ⟨_,rfl,?_⟩
   rw [fQ,Nat.zero_add,cell_of_row w g j cur E (0,0) hg];rw [← h4,List.getElem?_take] at hj;split at hj
   · simpa using hj
   · cases hj
theorem Ow.rows {g : Nat} (h : Ow w0 w S E c (Option.some ⟨g,0,none⟩) n cap xs) : jP w ⟨g,0,none⟩ xs:=fun j u hj=>by
 obtain ⟨a,e,h1⟩:=h.row j u hj;cases e;exact h1
theorem Ow.nil (w0 w : World) (E : TypeId) (c : Nat) : Ow w0 w [] E c none 0 0 []:=⟨World.ownsRow_nil w _ E c,fun _ h=>(by cases h),fun _ h=>(by cases h)⟩
theorem Ow.mk' {g : Nat} {cs : List Value} (hB : fX w g cs E) (hg : w0.heap.size ≤ g) (hl : cs.length = n * c) (hm : n ≤ maxLen) : Ow w0 w [] E c (Option.some ⟨g,0,none⟩) n n cs :=
 ⟨⟨hl,.inr ⟨g,n,_,rfl,hg,hB,Nat.le_refl _,hm,by simpa using hl,by simp [← hl]⟩⟩,fun _ _ h=>(by cases h),fun _ h=>(by cases h)⟩
theorem Ow.as {ys : List Value} (h : Ow w0 w S E c A n cap xs) (e : xs = ys) : Ow w0 w S E c A n cap ys:=e ▸ h
end
section
variable {P : Program} {ds : List Deferred} {l : List Value} {x y : Operand} {T ty : TypeId}
variable {ops : Array Oper} {Q : Exit → Act → World → Prop} {rest : List Oper} {d : Nat} {pos : String} {after : Array Edge} {w w0 : World} {S : List (Option Nat)} {E : TypeId} {c n cap m mcap : Nat} {A B : Option Addr} {xs news : List Value}
theorem Wr.refl (w : World) (A : Option Addr) : Wr w w A:=⟨rfl,rfl,rfl,Nat.le_refl _,fun _ _ _=>rfl⟩
theorem Ga {t : TypeId} {i : TypeInfo} {z : Value} {bytes : Nat} (ht : P.underlying t = some (.slice E)) (hi : P.info? E = some i) (hz : i.zero = some z) (hsize : i.size = c) (hby : i.bytes = bytes) (hzs : z.cells.size = c) (hsz : 0 < c)
 (hown : Ow w0 w S E c A n cap xs) (hl : news.length = m * c) (hnews : ∀ j u,news[j]? = some u → ∃ a,B = some a ∧ w.cell? (a.add j) = some u) (h1 : ∀ u ∈ news,u.oneCell' = true)
 (h63 : n + m ≤ maxLen) (hbytes : (n + m) * bytes ≤ 140737488355328) (hbase : w0.heap.size ≤ w.heap.size) :
 ∃ A' cap' w',(Builtin.append_ #[t,t] ty #[.slice A n cap,.slice B m mcap]).run P w = .ok (.slice A' (n + m) cap') w' ∧ Ow w0 w' S E c A' (n + m) cap' (xs ++ news) ∧ Wr w w' A ∧ (A' = A ∨ Df A' = some w.heap.size):=by
 subst hsize;subst hby;have hsmall : n + m ≤ 9223372036854775807:=by simp only[maxLen] at h63;omega
 have hlen : (xs ++ news).length = (n + m) * i.size:=by rw [List.length_append,hown.own.1,hl,Nat.add_mul]
 have grown : ∀ (old : Nat),old < n + m →
  Ow w0 (w.drew.alloc (.cells (xs.toArray ++ news.toArray ++ Builtin.zeroCells z.cells (grownCap w (n + m) old E - (n + m))) E)) S E i.size
   (some ⟨w.heap.size,0,none⟩) (n + m) (grownCap w (n + m) old E) (xs ++ news) ∧
  Wr w (w.drew.alloc (.cells (xs.toArray ++ news.toArray ++ Builtin.zeroCells z.cells (grownCap w (n + m) old E - (n + m))) E)) A:=by
  intro old ho;have hge:=grownCap_ge w (n + m) old E;have hcm : grownCap w (n + m) old E ≤ maxLen:=grownCap_le_maxLen w (n + m) old E h63;refine ⟨⟨⟨hlen,.inr ⟨w.heap.size,_,_,rfl,hbase,heap_alloc_new w.drew _,hge,hcm,?_,?_⟩⟩,fun b hb hm=>?_,fun b hb=>?_⟩,⟨rfl,rfl,rfl,by simp,fun k hk _=>heap_alloc_old w.drew _ (h:=hk)⟩⟩
  · simp only[Array.size_append,List.size_toArray,size_zeroCells,hzs,hown.own.1,hl,← Nat.add_mul]
    congr 1
    omega
  · simp only[Array.toList_append,List.append_assoc]
    rw [← List.append_assoc,← hlen];exact List.take_left
  · have hb' : w.heap.size = b:=by simpa using hb
    subst hb';exact absurd (hown.bd _ hm) (Nat.lt_irrefl _)
  · have:=hown.bd _ hb
    have h2 : (w.drew.alloc (.cells (xs.toArray ++ news.toArray ++ Builtin.zeroCells z.cells (grownCap w (n + m) old E - (n + m))) E)).heap.size = w.heap.size + 1:=by simp
    rw [h2];omega
 have hB0 : B = none → m = 0 ∧ news = []:=fun hB=>by
  have hn : news = []:=by
   cases news with
   | nil=>rfl
   | cons u us=>obtain ⟨a,e,_⟩:=hnews 0 u rfl;rw [hB] at e;cases e
  subst hn;refine ⟨?_,rfl⟩;rcases Nat.eq_zero_or_pos m with h0 | h0
  · exact h0
  · have:=Nat.mul_pos h0 hsz;simp at hl;omega
 rcases hown.cases with ⟨rfl,rfl,rfl,rfl⟩ | ⟨g,cur,rfl,hbg,hg,hnc,hcm,hcs,htake⟩
 · by_cases hm : m = 0
   · subst hm
     have hn : news = []:=List.eq_nil_of_length_eq_zero (by simpa using hl);subst hn;refine ⟨none,0,w,?_,by simpa using hown,Wr.refl _ _,.inl rfl⟩;cases B <;> simp [Builtin.append_,run_underlying ht,sizeOf,typeInfo,hi,Builtin.lenOf,Builtin.firstCells,loadCells,loadCellsFrom]
   · cases B with
     | none=>exact absurd (hB0 rfl).1 hm
     | some a =>
      have hr:=run_append_nil (P:=P) w t ty E i z ht hi hz a m mcap news hl (fun j u hj=>by obtain ⟨a',e,h⟩:=hnews j u hj;cases e;exact h) (by omega) (by omega) (by have hb:=hbytes;simp only[Nat.zero_add] at hb;omega);have hgr:=grown 0 (by omega);simp only[Nat.zero_add,List.nil_append,Array.empty_append] at hgr ⊢;exact ⟨_,_,_,hr,hgr.1,hgr.2,.inr rfl⟩
 · cases B with
   | none =>
    obtain ⟨rfl,rfl⟩:=hB0 rfl;refine ⟨some ⟨g,0,none⟩,cap,w,?_,by simpa using hown,Wr.refl _ _,.inl rfl⟩;simp [Builtin.append_,run_underlying ht,sizeOf,typeInfo,hi,Builtin.lenOf,Builtin.firstCells,hnc,storeCells]
   | some a =>
    have hnews' : ∀ j u,news[j]? = some u → w.cell? (a.add j) = some u:=fun j u hj=>by obtain ⟨a',e,h⟩:=hnews j u hj;cases e;exact h
    by_cases hroom : n + m ≤ cap
    · have hfit : n * i.size + news.length ≤ cur.size:=by rw [hl,hcs,← Nat.add_mul];exact Nat.mul_le_mul_right _ hroom
      have hr:=run_append_room (P:=P) w t ty E i ht hi g n cap cur hg a m mcap news hl hnews' h1 hroom hfit;refine ⟨_,_,_,hr,⟨⟨hlen,.inr ⟨g,cap,_,rfl,hbg,setRow_heap w g cur _ E _ hg,hroom,hcm,?_,?_⟩⟩,hown.sep,fun b hb=>by simpa using hown.bd b hb⟩,⟨rfl,rfl,rfl,by simp,fun k _ hk=>setRow_other w g k _ (fun e=>hk (by rw [e];rfl))⟩,.inl rfl⟩
      · simp only[List.size_toArray,List.length_append,List.length_take,List.length_drop,Array.length_toList]
        omega
      · rw [htake,← hlen]
        exact List.take_left
    · have hr:=run_append_grow (P:=P) w t ty E i z ht hi hz ⟨g,0,none⟩ n cap xs hown.own.1 hown.rows a m mcap news hl hnews' (by omega) (by omega) (growslice_fits (by omega) hbytes)
      have hgr:=grown cap (by omega);exact ⟨_,_,_,hr,hgr.1,hgr.2,.inr rfl⟩
theorem Ul {b : Nat} {z : Value} {a0 : Array TypeId} (ha : a0 = #[T,T]) (hu : P.underlying T = some (.slice E)) (hi : (P.info? E).map (fun i=>(i.size,i.bytes,i.zero)) = some (c,b,some z)) (hz : z.cells.size = c) (hc : 0 < c) (hX : dD w0 w)
 (hs : ev l x = .slice A n cap) (hown : Ow w0 w S E c A n cap xs) (hx : ev l y = .slice B m mcap) (hl : news.length = m * c) (hrow : ∀ j u,news[j]? = some u → ∃ a,B = some a ∧ w.cell? (a.add j) = some u) (h1 : ∀ u ∈ news,u.oneCell' = true) (h63 : n + m ≤ 9223372036854775807) (hbytes : (n + m) * b ≤ 140737488355328)
 (h : ∀ A' cap' w',Ow w0 w' S E c A' (n + m) cap' (xs ++ news) → Wr w w' A → (A' = A ∨ Df A' = some w.heap.size) → wpList P ops Q rest (Fr (l.set d (.slice A' (n + m) cap')) ds) w') :
 wpList P ops Q (Oper.mk (some d) (.call { callee:=.builtin .append,args:=#[x,y],argTypes:=a0 }) ty pos after none :: rest) (Fr l ds) w:=by
 subst ha;cases hq : P.info? E with
 | none=>rw [hq] at hi;cases hi
 | some i =>
  rw [hq] at hi;simp only[Option.map_some,Option.some.injEq,Prod.mk.injEq] at hi;obtain ⟨e1,e2,e3⟩:=hi;obtain ⟨A',cap',w',hr,h2,h3,h4⟩:=Ga (P:=P) (w:=w) (ty:=ty) (mcap:=mcap) hu hq e3 e1 e2 hz hc hown hl hrow h1 (by simpa [maxLen] using h63) hbytes hX.size;exact jU (fun o ho hty=>by simp [execOp,ho,hty,resolve,invoke,builtin,cL,hs,hx,hr]) (h A' cap' w' h2 h3 h4)
theorem Gb {cur : Array Value} {xs us : List Value} {off k : Nat} (hx : cur.toList.take k = xs) (hl : xs.length = k) (hf : off + us.length ≤ k) : (bG cur.toList off us).take k = bG xs off us:=by
 subst hx;have hk : k ≤ cur.toList.length:=by rw [List.length_take] at hl;omega
 unfold bG;apply List.ext_getElem?;intro j;rw [List.getElem?_take];have e1 : (cur.toList.take off).length = off:=by rw [List.length_take];omega
 have e2 : ((cur.toList.take k).take off).length = off:=by rw [List.length_take,List.length_take];omega
 simp only[List.append_assoc];by_cases h0 : j < k
 · rw [if_pos h0]
   rcases Nat.lt_or_ge j off with h1 | h1
   · rw [List.getElem?_append_left (by omega),List.getElem?_append_left (by omega),List.take_take,Nat.min_eq_left (by omega)]
   · rw [List.getElem?_append_right (l₁:=cur.toList.take off) (by omega),List.getElem?_append_right (l₁:=(cur.toList.take k).take off) (by omega),e1,e2]
     rcases Nat.lt_or_ge (j - off) us.length with h2 | h2
     · rw [List.getElem?_append_left h2,List.getElem?_append_left h2]
     · rw [List.getElem?_append_right h2,List.getElem?_append_right h2,List.getElem?_drop,List.getElem?_drop,List.getElem?_take,if_pos (by omega)]
 · rw [if_neg h0]
   symm
   apply List.getElem?_eq_none;simp only[List.length_append,e2,List.length_drop,List.length_take];omega
theorem Yk {g off : Nat} {us : List Value} (hx : ev l x = .pointer (some ⟨g,off,none⟩)) (hv : (ev l y).cells = us.toArray) (hc : dW P T us.length) (hO : Ow w0 w S E c (some ⟨g,0,none⟩) n cap xs) (hfit : off + us.length ≤ n * c) (h1 : ∀ u ∈ us,u.oneCell' = true)
 (h : ∀ w',Wr w w' (some ⟨g,0,none⟩) → Ow w0 w' S E c (some ⟨g,0,none⟩) n cap (bG xs off us) → wpList P ops Q rest (Fr l ds) w') : wpList P ops Q (Oper.mk none (.store T x y) ty pos after none :: rest) (Fr l ds) w:=by
 rcases hO.cases with ⟨e,_⟩ | ⟨g',cur,e,hbg,hg,hnc,hcm,hcs,htake⟩
 · cases e
 · cases e
   have hfc : off + us.length ≤ cur.toList.length:=by
    have:=Nat.mul_le_mul_right c hnc;simp;omega
   have hB : fX w g cur.toList E:=by unfold fX;simpa using hg
   refine dL (cs:=cur.toList) (t:=E) hx hv hc hB hfc h1 fun w' hC hB'=>h w' ⟨hC.os,hC.tape,hC.output,by rw [hC.size];exact Nat.le_refl _,fun k _ hk=>hC.block k (fun e=>hk (by rw [e];rfl))⟩ ?_;refine ⟨⟨?_,.inr ⟨g,cap,_,rfl,hbg,hB',hnc,hcm,?_,?_⟩⟩,hO.sep,fun b hb=>by rw [hC.size];exact hO.bd b hb⟩
   · rw [sV (by rw [hO.own.1];exact hfit)];exact hO.own.1
   · simp only[List.size_toArray];rw [sV hfc];simpa using hcs
   · show ((bG cur.toList off us).toArray.toList).take (n * c) = _
     simp only[List.toList_toArray];exact Gb htake hO.own.1 hfit
end
theorem Jf (ts : List T3) : (ts.flatMap aX).length = ts.length * 9:=by
 induction ts with
 | nil=>rfl
 | cons t ts ih=>rw [List.flatMap_cons,List.length_append,ih,dI,List.length_cons];omega
theorem Ow.tris {w0 w : World} {S : List (Option Nat)} {E : TypeId} {A : Option Addr} {n cap : Nat} {ts : List T3} (h : Ow w0 w S E 9 A n cap (ts.flatMap aX)) (hi : ∀ t ∈ ts,IT t) : eG w A n ts:=by
 refine ⟨?_,hi,fun i t ht=>?_⟩
 · have:=h.own.1;rw [Jf] at this;omega
 · have hr : ∀ j u,(aX t)[j]? = Option.some u → (ts.flatMap aX)[i * 9 + j]? = Option.some u:=fun j u hj=>by
    have hj' : j < (aX t).length:=(List.getElem?_eq_some_iff.1 hj).1;rw [← List.getElem?_drop,uS ts i t ht,List.getElem?_append_left hj'];exact hj
   obtain ⟨a,e,_⟩:=h.row _ _ (hr 0 _ rfl);refine ⟨a,e,fun j u hj=>?_⟩;obtain ⟨a',e',hc⟩:=h.row _ _ (hr j u hj);rw [e] at e';cases e';rw [iE];exact hc
theorem eG.cells {w : World} {A : Option Addr} {n : Nat} {ts : List T3} (h : eG w A n ts) : ∀ j u,(ts.flatMap aX)[j]? = some u → ∃ a,A = some a ∧ w.cell? (a.add j) = some u:=fun j u hj=>by
 have hl : j < ts.length * 9:=by
  have:=(List.getElem?_eq_some_iff.1 hj).1;rwa [Jf] at this
 have hq : j / 9 < ts.length:=by omega
 have ht:=List.getElem?_eq_getElem hq;obtain ⟨a,e,hr⟩:=h.row _ _ ht;refine ⟨a,e,?_⟩;have hd:=uS ts (j / 9) _ ht;have hj' : (aX ts[j / 9])[j % 9]? = some u:=by
  have : ((ts.flatMap aX).drop (j / 9 * 9))[j % 9]? = some u:=by rw [List.getElem?_drop,show j / 9 * 9 + j % 9 = j by omega];exact hj
  rw [hd,List.getElem?_append_left (by rw [dI];omega)] at this;exact this
 have:=hr _ _ hj';rwa [iE,show j / 9 * 9 + j % 9 = j by omega] at this
theorem abt : ∀ (t : T3),∀ u ∈ aX t,u.oneCell' = true:=fun t u hu=>by
 simp only[aX,List.mem_cons,List.not_mem_nil,or_false] at hu;rcases hu with rfl | rfl | rfl | rfl | rfl | rfl | rfl | rfl | rfl <;> rfl
theorem oQ (ts : List T3) : ∀ u ∈ ts.flatMap aX,u.oneCell' = true:=fun u hu=>by
 obtain ⟨t,_,h⟩:=List.mem_flatMap.1 hu;exact abt t u h
theorem fX.rowsO {w : World} {g : Nat} {cs : List Value} {t : TypeId} (h : fX w g cs t) : ∀ j u,cs[j]? = some u → ∃ a,some (⟨g,0,none⟩ : Addr) = some a ∧ w.cell? (a.add j) = some u:=fun j u hj=>⟨_,rfl,by have:=h.row 0;rw [List.drop_zero] at this;exact this j u hj⟩
section
variable {w0 w w' : World} {S : List (Option Nat)} {E : TypeId} {c n cap : Nat} {A : Option Addr} {xs : List Value}
end
end Go.Lith
namespace Go.Lith
open Go.RowKit
/-! ### Names that are short -/
theorem zA {l : List Value} (t : Nat) : ev l (.tmp t) = l.getD t undef:=rfl
theorem zB {l : List Value} (v : Value) : ev l (.const v) = v:=rfl
theorem zC {l : List Value} (f : Nat) : ev l (.func f) = .func (.func f) #[] #[]:=rfl
theorem zD {α : Type} {x : α} {xs : List α} {n : Nat} {d : α} : (x :: xs).getD (n + 1) d = xs.getD n d:=rfl
theorem zE {α : Type} {x : α} {xs : List α} {d : α} : (x :: xs).getD 0 d = x:=rfl
theorem zF {α : Type} {x : α} {xs : List α} {n : Nat} {a : α} : (x :: xs).set (n + 1) a = x :: xs.set n a:=rfl
theorem zG {α : Type} {x : α} {xs : List α} {a : α} : (x :: xs).set 0 a = a :: xs:=rfl
theorem zH {α : Type} {x : α} {xs : List α} {n : Nat} : (x :: xs).take (n + 1) = x :: xs.take n:=rfl
theorem zI {α : Type} {xs : List α} : xs.take 0 = []:=List.take_zero
theorem zJ {α : Type} {x : α} {xs : List α} {n : Nat} : (x :: xs).drop (n + 1) = xs.drop n:=rfl
theorem zK {α : Type} {xs : List α} : xs.drop 0 = xs:=rfl
theorem zL {α : Type} {x : α} {xs ys : List α} : (x :: xs) ++ ys = x :: (xs ++ ys):=rfl
theorem zM {α : Type} {ys : List α} : [] ++ ys = ys:=rfl
theorem zN {α : Type} {ys : List α} : ys ++ [] = ys:=List.append_nil ys
theorem zO {α : Type} {x : α} {xs : List α} : (x :: xs).length = xs.length + 1:=rfl
theorem zP {α : Type} : ([] : List α).length = 0:=rfl
theorem zQ {α β : Type} {f : α → β} {x : α} {xs : List α} : (x :: xs).map f = f x :: xs.map f:=rfl
theorem zR {α β : Type} {f : α → β} : ([] : List α).map f = []:=rfl
theorem zS {α : Type} {l : List α} {i : Nat} : l.toArray[i]? = l[i]?:=List.getElem?_toArray
theorem zT {α : Type} {x : α} {xs : List α} {n : Nat} : (x :: xs)[n + 1]? = xs[n]?:=rfl
theorem zU {α : Type} {x : α} {xs : List α} : (x :: xs)[0]? = some x:=rfl
theorem zV {α : Type} {x d : α} : (some x).getD d = x:=rfl
theorem zz : (∀ (l : List Go.Value) (t : Nat), ev l (.tmp t) = l.getD t undef) ∧ (∀ (l : List Go.Value) (v : Go.Value), ev l (.const v) = v) ∧ (∀ (l : List Go.Value) (f : Nat), ev l (.func f) = .func (.func f) #[] #[]) ∧ (∀ {α : Type} (x : α) (xs : List α) (n : Nat) (d : α), (x :: xs).getD (n + 1) d = xs.getD n d) ∧ (∀ {α : Type} (x : α) (xs : List α) (d : α), (x :: xs).getD 0 d = x) ∧ (∀ {α : Type} (x : α) (xs : List α) (n : Nat) (a : α), (x :: xs).set (n + 1) a = x :: xs.set n a) ∧ (∀ {α : Type} (x : α) (xs : List α) (a : α), (x :: xs).set 0 a = a :: xs) := ⟨fun _ _ => rfl, fun _ _ => rfl, fun _ _ => rfl, fun _ _ _ _ => rfl, fun _ _ _ => rfl, fun _ _ _ _ => rfl, fun _ _ _ => rfl⟩
theorem zy : (∀ {α : Type} (x : α) (xs : List α) (n : Nat), (x :: xs).take (n + 1) = x :: xs.take n) ∧ (∀ {α : Type} (xs : List α), xs.take 0 = []) ∧ (∀ {α : Type} (x : α) (xs : List α) (n : Nat), (x :: xs).drop (n + 1) = xs.drop n) ∧ (∀ {α : Type} (xs : List α), xs.drop 0 = xs) := ⟨fun _ _ _ => rfl, fun _ => List.take_zero, fun _ _ _ => rfl, fun _ => rfl⟩
theorem zx : (∀ {α : Type} (x : α) (xs ys : List α), (x :: xs) ++ ys = x :: (xs ++ ys)) ∧ (∀ {α : Type} (ys : List α), [] ++ ys = ys) ∧ (∀ {α : Type} (ys : List α), ys ++ [] = ys) ∧ (∀ {α : Type} (x : α) (xs : List α), (x :: xs).length = xs.length + 1) ∧ (∀ {α : Type}, ([] : List α).length = 0) := ⟨fun _ _ _ => rfl, fun _ => rfl, fun _ => List.append_nil _, fun _ _ => rfl, rfl⟩
theorem zw : (∀ {α : Type} (l : List α) (i : Nat), l.toArray[i]? = l[i]?) ∧ (∀ {α : Type} (x : α) (xs : List α) (n : Nat), (x :: xs)[n + 1]? = xs[n]?) ∧ (∀ {α : Type} (x : α) (xs : List α), (x :: xs)[0]? = some x) ∧ (∀ {α : Type} (x d : α), (some x).getD d = x) := ⟨fun _ _ => List.getElem?_toArray, fun _ _ _ => rfl, fun _ _ => rfl, fun _ _ => rfl⟩
theorem zu : (∀ (l : List Go.Value) (t : Nat) (ts : List Nat) (v : Go.Value) (vs : List Go.Value), fK l (t :: ts) (v :: vs) = fK (l.set t v) ts vs) ∧ (∀ (l vs : List Go.Value), fK l [] vs = l) ∧ (∀ (l : List Go.Value) (t : Nat) (ts : List Nat) (g : Nat → Go.Value), oL l (t :: ts) g = oL (l.set t (g t)) ts g) ∧ (∀ (l : List Go.Value) (g : Nat → Go.Value), oL l [] g = l) := ⟨fun _ _ _ _ _ => rfl, fun _ _ => sW, fun _ _ _ _ => rfl, fun _ _ => rfl⟩
theorem zv : (∀ {α β : Type} (f : α → β) (x : α) (xs : List α), (x :: xs).map f = f x :: xs.map f) ∧ (∀ {α β : Type} (f : α → β), ([] : List α).map f = []) ∧ (∀ (l : List Go.Value) (t : Nat) (ts : List Nat) (v : Go.Value) (vs : List Go.Value), fK l (t :: ts) (v :: vs) = fK (l.set t v) ts vs) ∧ (∀ (l vs : List Go.Value), fK l [] vs = l) ∧ (∀ (l : List Go.Value) (t : Nat) (ts : List Nat) (g : Nat → Go.Value), oL l (t :: ts) g = oL (l.set t (g t)) ts g) ∧ (∀ (l : List Go.Value) (g : Nat → Go.Value), oL l [] g = l) := ⟨fun _ _ _ => rfl, fun _ => rfl, fun _ _ _ _ _ => rfl, fun _ _ => sW, fun _ _ _ _ => rfl, fun _ _ => rfl⟩
end Go.Lith
namespace Go.Lith
open Go.RowKit
structure It where
 own : Nat → Prop
 P : World → Prop
 lt : ∀ w b,P w → own b → b < w.heap.size
 st : ∀ w w',P w → w.heap.size ≤ w'.heap.size → (∀ b,own b → w'.heap[b]? = w.heap[b]?) → P w'
def bI (g : Nat) (cs : List Value) (t : TypeId) : It where
 own b:=some g = some b
 P w:=fX w g cs t
 lt w b h e:=by cases e;exact h.lt
 st w w' h _ k:=(k g rfl).trans h
def oI (E : TypeId) (c : Nat) (A : Option Addr) (n cap : Nat) (xs : List Value) : It where
 own b:=Df A = some b
 P w:=w.ownsRow 0 E c (.slice A n cap) n xs
 lt w b h e:=by
  rcases kF h with ⟨rfl,_⟩ | ⟨g,cur,rfl,_,hg,_⟩
  · cases e
  · cases e;exact (Array.getElem?_eq_some_iff.1 hg).1
 st w w' h _ k:=by
  refine ⟨h.1,?_⟩;rcases kF h with ⟨rfl,rfl,rfl,_⟩ | ⟨g,cur,rfl,h1,h2,h3⟩
  · exact .inl ⟨rfl,rfl⟩
  · exact .inr ⟨g,cap,cur,rfl,h1,(k g rfl).trans h2,h3⟩
def Ap (i j : It) : Prop:=∀ b,i.own b → j.own b → False
theorem Ap.symm {i j : It} (h : Ap i j) : Ap j i:=fun b h1 h2=>h b h2 h1
structure bR (w0 w : World) (is : List It) : Prop where
 ext : dD w0 w
 all : ∀ i ∈ is,i.P w
 ge : ∀ i ∈ is,∀ b,i.own b → w0.heap.size ≤ b
 nd : is.Pairwise Ap
def Li : List Bool → List It → List It
 | true :: bs,i :: is=>i :: Li bs is
 | false :: bs,_ :: is=>Li bs is
 | _,_=>[]
theorem tG : ∀ (bs : List Bool) (is : List It),(Li bs is).Sublist is
 | true :: bs,i :: is=>(tG bs is).cons_cons i
 | false :: bs,i :: is=>(tG bs is).cons i
 | [],is=>List.nil_sublist _
 | true :: bs,[]=>List.nil_sublist _
 | false :: bs,[]=>List.nil_sublist _
section
variable {w0 w w' : World} {is : List It}
theorem bR.refl (w : World) : bR w w []:=⟨dD.refl w,fun _ h=>(by cases h),fun _ h=>(by cases h),.nil⟩
theorem bR.ext' (m : bR w0 w is) (e : dD w w') : bR w0 w' is :=
 ⟨m.ext.trans e,fun i hi=>i.st w w' (m.all i hi) e.size fun b hb=>Below.block e b (i.lt w b (m.all i hi) hb),m.ge,m.nd⟩
theorem bR.sel (m : bR w0 w is) (bs : List Bool) : bR w0 w (Li bs is) :=
 ⟨m.ext,fun i hi=>m.all i ((tG bs is).subset hi),fun i hi=>m.ge i ((tG bs is).subset hi),m.nd.sublist (tG bs is)⟩
theorem bR.tl {i : It} (m : bR w0 w (i :: is)) : bR w0 w is:=⟨m.ext,fun j hj=>m.all j (List.mem_cons_of_mem _ hj),fun j hj=>m.ge j (List.mem_cons_of_mem _ hj),(List.pairwise_cons.1 m.nd).2⟩
theorem bR.get (m : bR w0 w is) (k : Nat) {i : It} (hk : is[k]? = some i) : i.P w:=m.all i (List.mem_of_getElem? hk)
theorem bR.b (m : bR w0 w is) (k : Nat) {g : Nat} {cs : List Value} {t : TypeId} (hk : is[k]? = some (bI g cs t)) : fX w g cs t:=m.get k hk
theorem bR.o (m : bR w0 w is) (k : Nat) {E : TypeId} {c n cap : Nat} {A : Option Addr} {xs : List Value} (hk : is[k]? = some (oI E c A n cap xs)) : Ow w0 w [] E c A n cap xs:=by
 have h : w.ownsRow 0 E c (.slice A n cap) n xs:=m.get k hk;refine ⟨⟨h.1,?_⟩,fun _ _ h=>(by cases h),fun _ h=>(by cases h)⟩;rcases kF h with ⟨rfl,rfl,rfl,_⟩ | ⟨g,cur,rfl,_,h2,h3⟩
 · exact .inl ⟨rfl,rfl⟩
 · exact .inr ⟨g,cap,cur,rfl,m.ge _ (List.mem_of_getElem? hk) g rfl,h2,h3⟩
theorem bR.bo (m : bR w0 w is) (k : Nat) {g : Nat} {cs : List Value} {t : TypeId} (hk : is[k]? = some (bI g cs t)) {n c : Nat} (hl : cs.length = n * c) (hm : n ≤ maxLen) : Ow w0 w [] t c (some ⟨g,0,none⟩) n n cs :=
 Ow.mk' (m.b k hk) (m.ge _ (List.mem_of_getElem? hk) g rfl) hl hm
theorem bR.toO (m : bR w0 w is) (k : Nat) {g : Nat} {cs : List Value} {t : TypeId} (hk : is[k]? = some (bI g cs t)) {n c : Nat} (hl : cs.length = n * c) (hm : n ≤ maxLen) : ∃ i,i = oI t c (some ⟨g,0,none⟩) n n cs ∧ i.P w:=⟨_,rfl,(m.bo k hk hl hm).own.1,.inr ⟨g,n,_,rfl,Nat.zero_le _,m.b k hk,Nat.le_refl _,hm,by simpa using hl,by simp [← hl]⟩⟩
theorem bR.new {i : It} (m : bR w0 w is) (e : dD w w') (hi : i.P w') (hg : ∀ b,i.own b → w.heap.size ≤ b) : bR w0 w' (i :: is):=by
 have m':=m.ext' e;refine ⟨m'.ext,fun j hj=>?_,fun j hj=>?_,List.pairwise_cons.2 ⟨fun j hj b h1 h2=>?_,m'.nd⟩⟩
 · rcases List.mem_cons.1 hj with rfl | hj
   · exact hi
   · exact m'.all j hj
 · rcases List.mem_cons.1 hj with rfl | hj
   · exact fun b hb=>Nat.le_trans m.ext.size (hg b hb)
   · exact m'.ge j hj
 · have:=j.lt w b (m.all j hj) h2
   have:=hg b h1;omega
theorem bR.newB {g : Nat} {cs : List Value} {t : TypeId} (m : bR w0 w is) (e : dD w w') (hg : w.heap.size ≤ g) (hB : fX w' g cs t) : bR w0 w' (bI g cs t :: is):=m.new e hB (fun b h=>by cases h;exact hg)
theorem bR.newO {S : List (Option Nat)} {E : TypeId} {c n cap : Nat} {A : Option Addr} {xs : List Value} (m : bR w0 w is) (e : dD w w') (h : Ow w w' S E c A n cap xs) : bR w0 w' (oI E c A n cap xs :: is):=by
 refine m.new e (i:=oI E c A n cap xs) ?_ h.ge;refine ⟨h.own.1,?_⟩;rcases h.cases with ⟨rfl,rfl,rfl,_⟩ | ⟨g,cur,rfl,_,h2,h3⟩
 · exact .inl ⟨rfl,rfl⟩
 · exact .inr ⟨g,cap,cur,rfl,Nat.zero_le _,h2,h3⟩
theorem bR.nilO (m : bR w0 w is) (E : TypeId) (c : Nat) : bR w0 w (oI E c none 0 0 [] :: is):=m.newO (dD.refl w) (Ow.nil w w E c)
theorem Pd {i i' : It} : ∀ (is : List It) (k : Nat),is.Pairwise Ap → is[k]? = some i → (∀ x ∈ is,Ap i x → Ap i' x) → (is.set k i').Pairwise Ap
 | [],_,_,h,_=>by cases h
 | j :: is,0,hp,h,hc=>by
  cases h;rw [List.set_cons_zero];have:=List.pairwise_cons.1 hp;exact List.pairwise_cons.2 ⟨fun x hx=>hc x (List.mem_cons_of_mem _ hx) (this.1 x hx),this.2⟩
 | j :: is,k + 1,hp,h,hc=>by
  rw [List.set_cons_succ];have hp':=List.pairwise_cons.1 hp;have h' : is[k]? = some i:=h;refine List.pairwise_cons.2 ⟨fun x hx=>?_,Pd is k hp'.2 h' fun x hx=>hc x (List.mem_cons_of_mem _ hx)⟩;rcases List.mem_or_eq_of_mem_set hx with hx | rfl
  · exact hp'.1 x hx
  · exact (hc j (List.mem_cons_self ..) (hp'.1 i (List.mem_of_getElem? h')).symm).symm
theorem bR.put {i i' : It} (m : bR w0 w is) (k : Nat) (hk : is[k]? = some i) (hos : w'.os = w.os) (ht : w'.tape = w.tape) (ho : w'.output = w.output) (hs : w.heap.size ≤ w'.heap.size) (hb : ∀ b,b < w.heap.size → ¬ i.own b → w'.heap[b]? = w.heap[b]?)
 (hi : i'.P w') (hid : (∀ b,i'.own b → i.own b) ∨ ∀ b,i'.own b → w.heap.size ≤ b) : bR w0 w' (is.set k i'):=by
 have hmem:=List.mem_of_getElem? hk;refine ⟨⟨hos.trans m.ext.os,ht.trans m.ext.tape,ho.trans m.ext.output,Nat.le_trans m.ext.size hs,fun b hlt=>(hb b (Nat.lt_of_lt_of_le hlt m.ext.size) fun e=>?_).trans (Below.block m.ext b hlt)⟩,fun j hj=>?_,fun j hj b hjb=>?_,Pd is k m.nd hk fun x hx ha b h1 h2=>?_⟩
 · have:=m.ge i hmem b e
   omega
 · obtain ⟨q,hq,e⟩:=List.getElem_of_mem hj
   rw [List.getElem_set] at e;split at e
   · subst e;exact hi
   · rename_i hne
     rw [List.length_set] at hq;have hj' : j ∈ is:=e ▸ List.getElem_mem hq;have hq' : is[q]? = some j:=by rw [← e];exact List.getElem?_eq_getElem hq
     refine j.st w w' (m.all j hj') hs fun b hjb=>hb b (j.lt w b (m.all j hj') hjb) fun hib=>?_;have hklt : k < is.length:=(List.getElem?_eq_some_iff.1 hk).1;have hki : is[k] = i:=(List.getElem?_eq_some_iff.1 hk).2;rcases Nat.lt_or_gt_of_ne hne with h | h
     · have:=List.pairwise_iff_getElem.1 m.nd k q hklt hq h
       rw [hki,e] at this;exact this b hib hjb
     · have:=List.pairwise_iff_getElem.1 m.nd q k hq hklt h
       rw [hki,e] at this;exact this b hjb hib
 · rcases List.mem_or_eq_of_mem_set hj with hj | rfl
   · exact m.ge j hj b hjb
   · rcases hid with hid | hid
     · exact m.ge i hmem b (hid b hjb)
     · exact Nat.le_trans m.ext.size (hid b hjb)
 · rcases hid with hid | hid
   · exact ha b (hid b h1) h2
   · have:=hid b h1
     have:=x.lt w b (m.all x hx) h2;omega
theorem bR.reO (m : bR w0 w is) (k : Nat) {E : TypeId} {c n cap n' cap' : Nat} {A : Option Addr} {xs xs' : List Value} (hk : is[k]? = some (oI E c A n cap xs)) (h : Ow w0 w [] E c A n' cap' xs') : bR w0 w (is.set k (oI E c A n' cap' xs')):=by
 refine m.put k hk rfl rfl rfl (Nat.le_refl _) (fun _ _ _=>rfl) ?_ (.inl fun _ h=>h);refine ⟨h.own.1,?_⟩;rcases h.cases with ⟨rfl,rfl,rfl,_⟩ | ⟨g,cur,rfl,_,h2,h3⟩
 · exact .inl ⟨rfl,rfl⟩
 · exact .inr ⟨g,cap',cur,rfl,Nat.zero_le _,h2,h3⟩
theorem bR.own (m : bR w0 w is) (k : Nat) {g : Nat} {cs : List Value} {t : TypeId} (hk : is[k]? = some (bI g cs t)) {n c : Nat} (hl : cs.length = n * c) (hm : n ≤ maxLen) : bR w0 w (is.set k (oI t c (some ⟨g,0,none⟩) n n cs)):=by
 obtain ⟨i,rfl,h⟩:=m.toO k hk hl hm;exact m.put k hk rfl rfl rfl (Nat.le_refl _) (fun _ _ _=>rfl) h (.inl fun _ h=>h)
theorem dX {a b : Nat} (h : Nat.ble a b = true) : a ≤ b:=Nat.le_of_ble_eq_true h
theorem pD {us : List Value} (h : (us.all (·.oneCell')) = true) : ∀ u ∈ us,u.oneCell' = true:=fun u hu=>List.all_eq_true.1 h u hu
end
section
variable {P : Program} {ds : List Deferred} {l : List Value} {x y : Operand} {T ty : TypeId}
variable {ops : Array Oper} {Q : Exit → Act → World → Prop} {rest : List Oper} {d : Nat} {pos : String} {after : Array Edge} {w w0 : World} {is : List It}
theorem agn {cs : List Value} (m : bR w0 w is) (hv : (ev l x).cells = cs.toArray) (h : ∀ g u,bR w0 u (bI g cs T :: is) → wpList P ops Q rest (Fr (l.set d (.pointer (some ⟨g,0,none⟩))) ds) u) :
 wpList P ops Q (Oper.mk (some d) (.box T x) ty pos after none :: rest) (Fr l ds) w:=vK hv fun u g e hg hB=>h g u (m.newB e hg hB)
theorem bC {cs : List Value} {z : Value} (m : bR w0 w is) (hZ : lO P T z) (hv : z.cells = cs.toArray) (h : ∀ g u,bR w0 u (bI g cs T :: is) → wpList P ops Q rest (Fr (l.set d (.pointer (some ⟨g,0,none⟩))) ds) u) :
 wpList P ops Q (Oper.mk (some d) (.alloc T) ty pos after none :: rest) (Fr l ds) w:=nU hZ hv fun u g e hg hB=>h g u (m.newB e hg hB)
theorem Yl {g off : Nat} {cs us : List Value} {t : TypeId} (m : bR w0 w is) (k : Nat) (hk : is[k]? = some (bI g cs t)) (hx : ev l x = .pointer (some ⟨g,off,none⟩)) (hv : (ev l y).cells = us.toArray) (hc : dW P T us.length) (hfit : off + us.length ≤ cs.length) (h1 : (us.all (·.oneCell')) = true)
 (h : ∀ u,bR w0 u (is.set k (bI g (bG cs off us) t)) → wpList P ops Q rest (Fr l ds) u) : wpList P ops Q (Oper.mk none (.store T x y) ty pos after none :: rest) (Fr l ds) w :=
 dL hx hv hc (m.b k hk) hfit (pD h1) fun u hC hB=>h u (m.put k hk hC.os hC.tape hC.output (by rw [hC.size];exact Nat.le_refl _) (fun b _ hne=>hC.block b fun e=>hne (by rw [e];rfl)) hB (.inl fun _ h=>h))
theorem Jg {g off : Nat} {us xs : List Value} {E : TypeId} {c n cap : Nat} (m : bR w0 w is) (k : Nat) (hk : is[k]? = some (oI E c (some ⟨g,0,none⟩) n cap xs)) (hx : ev l x = .pointer (some ⟨g,off,none⟩)) (hv : (ev l y).cells = us.toArray) (hc : dW P T us.length) (hfit : off + us.length ≤ n * c) (h1 : (us.all (·.oneCell')) = true)
 (h : ∀ u,bR w0 u (is.set k (oI E c (some ⟨g,0,none⟩) n cap (bG xs off us))) → wpList P ops Q rest (Fr l ds) u) : wpList P ops Q (Oper.mk none (.store T x y) ty pos after none :: rest) (Fr l ds) w :=
 Yk hx hv hc (m.o k hk) hfit (pD h1) fun u hW hO=>h u (m.put k hk hW.os hW.tape hW.output hW.size (fun b hb hne=>hW.block b hb hne) (by
  refine ⟨hO.own.1,?_⟩;rcases hO.cases with ⟨e,_⟩ | ⟨g,cur,e,_,h2,h3⟩
  · cases e
  · cases e;exact .inr ⟨_,cap,cur,rfl,Nat.zero_le _,h2,h3⟩) (.inl fun _ h=>h))
theorem iV {v : Value} {f : FuncId} {fo : Operand} {xs : Array Operand} {args : List Value} {first cap : Array Value} {a0 : Array TypeId} (m : bR w0 w is) (hf : ev l fo = .func (.func f) first cap) (hxs : first.toList ++ xs.toList.map (ev l) ++ cap.toList = args) (hc : kV P f args v)
 (h : ∀ u,bR w0 u is → wpList P ops Q rest (Fr (l.set d v) ds) u) : wpList P ops Q (Oper.mk (some d) (.call { callee:=.value fo,args:=xs,argTypes:=a0 }) ty pos after none :: rest) (Fr l ds) w :=
 Ip hf hxs hc fun u e=>h u (m.ext' e)
theorem gF {f : FuncId} {fo : Operand} {xs : Array Operand} {args : List Value} {first cap : Array Value} {a0 : Array TypeId} {R : Value → World → Prop} (m : bR w0 w is) (hf : ev l fo = .func (.func f) first cap) (hxs : first.toList ++ xs.toList.map (ev l) ++ cap.toList = args) (hc : eI P f args w R)
 (h : ∀ v u,bR w0 u is → R v u → wpList P ops Q rest (Fr (l.set d v) ds) u) : wpList P ops Q (Oper.mk (some d) (.call { callee:=.value fo,args:=xs,argTypes:=a0 }) ty pos after none :: rest) (Fr l ds) w :=
 bK hf hxs hc fun v u e hR=>h v u (m.ext' e) hR
def OR (E : TypeId) (c : Nat) (R : List Value → Prop) (w : World) (v : Value) (w' : World) : Prop:=∃ A n cap xs,v = .slice A n cap ∧ Ow w w' [] E c A n cap xs ∧ R xs
theorem dM {E : TypeId} {c n cap b nm mcap : Nat} {A B : Option Addr} {z : Value} {xs news : List Value} {a0 : Array TypeId} (m : bR w0 w is) (k : Nat) (hk : is[k]? = some (oI E c A n cap xs)) (ha : a0 = #[T,T]) (hu : P.underlying T = some (.slice E)) (hi : (P.info? E).map (fun i=>(i.size,i.bytes,i.zero)) = some (c,b,some z)) (hz : z.cells.size = c) (hc : 0 < c)
 (hs : ev l x = .slice A n cap) (hx : ev l y = .slice B nm mcap) (hl : news.length = nm * c) (hrow : ∀ j u,news[j]? = some u → ∃ a,B = some a ∧ w.cell? (a.add j) = some u) (h1 : ∀ u ∈ news,u.oneCell' = true) (h63 : n + nm ≤ 9223372036854775807) (hbytes : (n + nm) * b ≤ 140737488355328)
 (h : ∀ A' cap' u,bR w0 u (is.set k (oI E c A' (n + nm) cap' (xs ++ news))) → wpList P ops Q rest (Fr (l.set d (.slice A' (n + nm) cap')) ds) u) :
 wpList P ops Q (Oper.mk (some d) (.call { callee:=.builtin .append,args:=#[x,y],argTypes:=a0 }) ty pos after none :: rest) (Fr l ds) w :=
 Ul ha hu hi hz hc m.ext hs (m.o k hk) hx hl hrow h1 h63 hbytes fun A' cap' u hO hW hF=>h A' cap' u (m.put k hk hW.os hW.tape hW.output hW.size (fun b hb hne=>hW.block b hb hne) (by
  refine ⟨hO.own.1,?_⟩;rcases hO.cases with ⟨rfl,e1,rfl,_⟩ | ⟨g,cur,rfl,_,h2,h3⟩
  · exact .inl ⟨by rw [e1],e1⟩
  · exact .inr ⟨g,cap',cur,rfl,Nat.zero_le _,h2,h3⟩) (by
  rcases hF with rfl | hF
  · exact .inl fun _ h=>h
  · exact .inr fun b hb=>by
     have e : Df A' = some b:=hb;rw [hF] at e;cases e;exact Nat.le_refl _))
theorem eY {cs : List Value} (m : bR w0 w is) (hv : ev l x = .agg cs.toArray) (h : ∀ g u,bR w0 u (bI g cs T :: is) → wpList P ops Q rest (Fr (l.set d (.pointer (some ⟨g,0,none⟩))) ds) u) :
 wpList P ops Q (Oper.mk (some d) (.box T x) ty pos after none :: rest) (Fr l ds) w:=agn m (by rw [hv];rfl) h
theorem aS {g off : Nat} {cs us : List Value} {t : TypeId} (m : bR w0 w is) (k : Nat) (hk : is[k]? = some (bI g cs t)) (hx : ev l x = .pointer (some ⟨g,off,none⟩)) (hv : ev l y = .agg us.toArray) (hc : dW P T us.length) (hfit : off + us.length ≤ cs.length) (h1 : (us.all (·.oneCell')) = true)
 (h : ∀ u,bR w0 u (is.set k (bI g (bG cs off us) t)) → wpList P ops Q rest (Fr l ds) u) : wpList P ops Q (Oper.mk none (.store T x y) ty pos after none :: rest) (Fr l ds) w:=Yl m k hk hx (by rw [hv];rfl) hc hfit h1 h
theorem By {g off : Nat} {cs : List Value} {v : Value} {t : TypeId} (m : bR w0 w is) (k : Nat) (hk : is[k]? = some (bI g cs t)) (hx : ev l x = .pointer (some ⟨g,off,none⟩)) (hv : ev l y = v) (hc : dW P T 1) (hfit : off + 1 ≤ cs.length) (h1 : v.oneCell' = true ∧ v.cells = #[v])
 (h : ∀ u,bR w0 u (is.set k (bI g (bG cs off [v]) t)) → wpList P ops Q rest (Fr l ds) u) : wpList P ops Q (Oper.mk none (.store T x y) ty pos after none :: rest) (Fr l ds) w:=Yl (us:=[v]) m k hk hx (by rw [hv,h1.2]) hc hfit (by simp [h1.1]) h
theorem fX.full {g : Nat} {cs : List Value} {t : TypeId} (h : fX w g cs t) (hA : fR P T true) (hc : dW P T cs.length) : vF P w T ⟨g,0,none⟩ (.agg cs.toArray):=by
 have:=h.row 0;rw [List.drop_zero] at this;exact this.lies hA hc
/-! ### Regions -/
theorem gB {id : Nat} {a : Act} {l : List Oper} (m : bR w0 w is) (n : Nat) (hm : P.follows .mixedOrders = true) (hB : Region.lexTailB .any l.toArray n = true)
 (h : wpQuiet P l.toArray (fun u=>bR w0 u is) (fun a'=>∀ u,bR w0 u is → wpList P l.toArray Q (l.drop n) a' u) (l.take n) a) : (Code.region id l.toArray true).wp P Q a w :=
 jT (C:=fun u=>bR w0 u is) n hm hB (m.ext' (dD.refl w).drawn) h
theorem mq {id : Nat} {a : Act} {l : List Oper} (m : bR w0 w is) (hm : P.follows .mixedOrders = true) (hB : Region.lexB .any l.toArray = true)
 (h : wpQuiet P l.toArray (fun u=>bR w0 u is) (fun a'=>∀ u,bR w0 u is → Q .normal a' u) l a) : (Code.region id l.toArray true).wp P Q a w :=
 wp_region_quiet (C:=fun u=>bR w0 u is) hm hB (m.ext' (dD.refl w).drawn) (by simpa using h)
theorem mh {id : Nat} {a : Act} {l : List Oper} (m : bR w0 w is) (bs : List Bool) (o : List (Nat × Bool)) (hm : P.follows .mixedOrders = true) (hB : (Region.noSelect l.toArray && decide (o.length = l.length) && yO .any l.toArray o (Array.replicate l.toArray.size false)) = true)
 (hQ : ∀ c d v a w,Q (.panic c) (Act.put a d v) w → Q (.panic c) a w) {ol : List (Oper × Bool)} (hol : (o.map fun x=>((l.toArray[x.1]?).getD default,x.2)) = ol)
 (h : ∀ u,bR w0 u is → cS P l.toArray (fun u=>bR w0 u (Li bs is)) Q ol a u) : (Code.region id l.toArray true).wp P Q a w :=
 gD o hm hB hQ hol fun u e=>⟨fun u=>bR w0 u (Li bs is),(m.ext' e).sel bs,h u (m.ext' e)⟩
theorem Rr {id : Nat} {a : Act} {l : List Oper} (m : bR w0 w is) (bs : List Bool) (t : nY) (hm : P.follows .mixedOrders = true) (hB : (Region.noSelect l.toArray && t.ok .any l.toArray l.toArray.size (Array.replicate l.toArray.size false)) = true)
 (hQ : ∀ c d v a w,Q (.panic c) (Act.put a d v) w → Q (.panic c) a w)
 (h : ∀ u,bR w0 u is → cR P l.toArray (fun u=>bR w0 u (Li bs is)) Q t a u) : (Code.region id l.toArray true).wp P Q a w :=
 Cz t hm hB hQ fun u e=>⟨fun u=>bR w0 u (Li bs is),(m.ext' e).sel bs,h u (m.ext' e)⟩
theorem mf1 {tl : List Oper} {i d : Nat} {T : TypeId} {cs : List Value} (m : bR w0 w is) (h : ∀ g u,bR w0 u (bI g cs T :: is) → wpList P ops Q tl (Fr (l.set d (.pointer (some ⟨g,0,none⟩))) ds) u) :
 ∀ E w',dD w w' → De w.heap.size E [⟨i,d,T,cs⟩] w' → (∀ x ∈ [(⟨i,d,T,cs⟩ : Al)],∃ v,E x.i = some v) → wpList P ops Q tl (fF E [⟨i,d,T,cs⟩] (Fr l ds)) w' :=
 ade fun u g e hg hB=>h g u (m.newB e hg hB)
end
section
variable {P : Program} {w0 : World} {is : List It} {l : List Value} {x y : Operand} {T ty : TypeId}
variable {ops : Array Oper} {Q : Act → Prop} {rest : List Oper} {d : Nat} {pos : String} {after : Array Edge} {v : Value} {ds : List Deferred}
theorem ql {a : Addr} (hx : ev l x = .pointer (some a)) (hv : ∀ u,bR w0 u is → vF P u T a v) (h : wpQuiet P ops (fun u=>bR w0 u is) Q rest (Fr (l.set d v) ds)) : wpQuiet P ops (fun u=>bR w0 u is) Q (Oper.mk (some d) (.load T x) ty pos after none :: rest) (Fr l ds) :=
 vY (fun u m=>cF hx (hv u m)) h
theorem qc {f : FuncId} {fo : Operand} {xs : Array Operand} {args : List Value} {first cap : Array Value} {a0 : Array TypeId} (hf : ev l fo = .func (.func f) first cap) (hxs : first.toList ++ xs.toList.map (ev l) ++ cap.toList = args) (hc : ∀ u,bR w0 u is → eI P f args u fun x _=>x = v)
 (h : wpQuiet P ops (fun u=>bR w0 u is) Q rest (Fr (l.set d v) ds)) : wpQuiet P ops (fun u=>bR w0 u is) Q (Oper.mk (some d) (.call { callee:=.value fo,args:=xs,argTypes:=a0 }) ty pos after none :: rest) (Fr l ds):=by
 refine wpQuiet_step fun K hK=>?_;rw [if_pos (by simp [Region.wanted])];refine ⟨v,fun w' hw=>?_,?_⟩
 · unfold Oper.quietAt
   rw [fY,kD (hc w' hw).1 hf hxs _ rfl];refine ⟨rfl,(hc w' hw).2.mono ?_⟩;rintro e w'' ⟨u,rfl,hE,rfl⟩;exact ⟨rfl,hw.ext' hE⟩
 · show K ((Fr l ds).put (some d) v)
   rw [iJ];exact hK _ h
theorem wU {f : FuncId} {fo : Operand} {xs : Array Operand} {args : List Value} {first cap : Array Value} {a0 : Array TypeId} (hf : ev l fo = .func (.func f) first cap) (hxs : first.toList ++ xs.toList.map (ev l) ++ cap.toList = args) (hc : kV P f args v)
 (h : wpQuiet P ops (fun u=>bR w0 u is) Q rest (Fr (l.set d v) ds)) : wpQuiet P ops (fun u=>bR w0 u is) Q (Oper.mk (some d) (.call { callee:=.value fo,args:=xs,argTypes:=a0 }) ty pos after none :: rest) (Fr l ds):=qc hf hxs (fun u _=>hc u) h
end
end Go.Lith
namespace Go.Lith
open Go.RowKit
structure GX (w w' : World) : Prop where
 ext : dD w w'
 dr : w.drawn ≤ w'.drawn
theorem GX.grow {w w' : World} (h : GX w w') : ∃ q os,w' = Sort.grow (w.drewN q) os:=by
 refine ⟨w'.drawn - w.drawn,w'.heap.extract w.heap.size w'.heap.size,?_⟩;have e1 : w.heap ++ w'.heap.extract w.heap.size w'.heap.size = w'.heap:=by
  apply Array.ext_getElem?;intro i;rw [Array.getElem?_append];split
  · rename_i hi
    exact (Below.block h.ext i hi).symm
  · rename_i hi
    rw [Array.getElem?_extract];have:=h.ext.size;split
    · congr 1;omega
    · rw [Array.getElem?_eq_none (by omega)]
 have e2 : w.drawn + (w'.drawn - w.drawn) = w'.drawn:=by have:=h.dr;omega
 have h1:=h.ext.os;have h2:=h.ext.tape;have h3:=h.ext.output;cases w;cases w';simp only[Sort.grow,World.drewN] at *
 subst h1 h2 h3;rw [e1,e2]
structure gG (w0 w : World) (is : List It) : Prop where
 ext : GX w0 w
 mem : bR w0 w is
def sM (P : Program) (f : FuncId) (args : List Value) (v : Value) : Prop:=∀ w,bE P f ∧ Calls P f args.toArray w fun e w'=>∃ u,e = .returned u ∧ GX w w' ∧ u = v
theorem sM.pure {P : Program} {f : FuncId} {args : List Value} {v : Value} (h : sM P f args v) : kV P f args v:=fun w=>⟨(h w).1,(h w).2.mono fun _ _ ⟨u,he,hX,hv⟩=>⟨u,he,hX.ext,hv⟩⟩
section
variable {w0 w w' : World} {is : List It}
theorem gG.refl (w : World) : gG w w []:=⟨⟨dD.refl w,Nat.le_refl _⟩,bR.refl w⟩
theorem gG.go (m : gG w0 w is) {js : List It} (h : bR w0 w' js) (d : w.drawn ≤ w'.drawn) : gG w0 w' js:=⟨⟨h.ext,Nat.le_trans m.ext.dr d⟩,h⟩
theorem gG.ext' (m : gG w0 w is) (e : GX w w') : gG w0 w' is:=m.go (m.mem.ext' e.ext) e.dr
theorem gG.b (m : gG w0 w is) (k : Nat) {g : Nat} {cs : List Value} {t : TypeId} (hk : is[k]? = some (bI g cs t)) : fX w g cs t:=m.mem.b k hk
end
section
variable {P : Program} {ds : List Deferred} {l : List Value} {x y : Operand} {T ty : TypeId}
variable {ops : Array Oper} {Q : Exit → Act → World → Prop} {rest : List Oper} {d : Nat} {pos : String} {after : Array Edge} {w w0 : World} {is : List It} {v : Value}
theorem aeI {cs : List Value} (m : gG w0 w is) (hv : (ev l x).cells = cs.toArray) (h : ∀ g u,gG w0 u (bI g cs T :: is) → wpList P ops Q rest (Fr (l.set d (.pointer (some ⟨g,0,none⟩))) ds) u) :
 wpList P ops Q (Oper.mk (some d) (.box T x) ty pos after none :: rest) (Fr l ds) w :=
 jU (w':=w.alloc (.cells cs.toArray T)) (v:=.pointer (some ⟨w.heap.size,0,none⟩)) (fun o ho _=>by simp [execOp,ho,cL,Instr.box,newVar,newRow,hv,newObj,Sem.run]) (h _ _ (m.go (m.mem.newB ((dD.refl w).alloc _) (Nat.le_refl _) (gQ w cs T)) (Nat.le_refl _)))
theorem rP {cs : List Value} (m : gG w0 w is) (hv : ev l x = .agg cs.toArray) (h : ∀ g u,gG w0 u (bI g cs T :: is) → wpList P ops Q rest (Fr (l.set d (.pointer (some ⟨g,0,none⟩))) ds) u) :
 wpList P ops Q (Oper.mk (some d) (.box T x) ty pos after none :: rest) (Fr l ds) w:=aeI m (by rw [hv];rfl) h
theorem abu {cs : List Value} {z : Value} (m : gG w0 w is) (hZ : lO P T z) (hv : z.cells = cs.toArray) (h : ∀ g u,gG w0 u (bI g cs T :: is) → wpList P ops Q rest (Fr (l.set d (.pointer (some ⟨g,0,none⟩))) ds) u) :
 wpList P ops Q (Oper.mk (some d) (.alloc T) ty pos after none :: rest) (Fr l ds) w:=by
 obtain ⟨inf,hi,hz⟩:=hZ;exact jU (w':=w.alloc (.cells cs.toArray T)) (v:=.pointer (some ⟨w.heap.size,0,none⟩)) (fun o ho _=>by simp [execOp,ho,Instr.alloc,zeroValue,typeInfo,hi,hz,newVar,newRow,hv,newObj,Sem.run]) (h _ _ (m.go (m.mem.newB ((dD.refl w).alloc _) (Nat.le_refl _) (gQ w cs T)) (Nat.le_refl _)))
theorem abv {g off : Nat} {cs us : List Value} {t : TypeId} (m : gG w0 w is) (k : Nat) (hk : is[k]? = some (bI g cs t)) (hx : ev l x = .pointer (some ⟨g,off,none⟩)) (hv : (ev l y).cells = us.toArray) (hc : dW P T us.length) (hfit : off + us.length ≤ cs.length) (h1 : (us.all (·.oneCell')) = true)
 (h : ∀ u,gG w0 u (is.set k (bI g (bG cs off us) t)) → wpList P ops Q rest (Fr l ds) u) : wpList P ops Q (Oper.mk none (.store T x y) ty pos after none :: rest) (Fr l ds) w:=by
 have hB:=m.b k hk;have hC:=rG w g (bG cs off us).toArray;exact Bl (w':=w.setRow g (bG cs off us).toArray) (fun o ho=>by simp [execOp,ho,cL,hx,Instr.storeAt,Instr.sureAddr,wW hc hv hB hfit (pD h1)])
  (h _ (m.go (m.mem.put k hk hC.os hC.tape hC.output (by rw [hC.size];exact Nat.le_refl _) (fun b _ hne=>hC.block b fun e=>hne (by rw [e];rfl)) (setRow_heap w g cs.toArray _ t _ hB) (.inl fun _ h=>h)) (Nat.le_refl _)))
theorem Ym {g off : Nat} {cs us : List Value} {t : TypeId} (m : gG w0 w is) (k : Nat) (hk : is[k]? = some (bI g cs t)) (hx : ev l x = .pointer (some ⟨g,off,none⟩)) (hv : ev l y = .agg us.toArray) (hc : dW P T us.length) (hfit : off + us.length ≤ cs.length) (h1 : (us.all (·.oneCell')) = true)
 (h : ∀ u,gG w0 u (is.set k (bI g (bG cs off us) t)) → wpList P ops Q rest (Fr l ds) u) : wpList P ops Q (Oper.mk none (.store T x y) ty pos after none :: rest) (Fr l ds) w:=abv m k hk hx (by rw [hv];rfl) hc hfit h1 h
theorem Jh {f : FuncId} {fo : Operand} {xs : Array Operand} {args : List Value} {first cap : Array Value} {a0 : Array TypeId} (m : gG w0 w is) (hf : ev l fo = .func (.func f) first cap) (hxs : first.toList ++ xs.toList.map (ev l) ++ cap.toList = args) (hc : sM P f args v)
 (h : ∀ u,gG w0 u is → wpList P ops Q rest (Fr (l.set d v) ds) u) : wpList P ops Q (Oper.mk (some d) (.call { callee:=.value fo,args:=xs,argTypes:=a0 }) ty pos after none :: rest) (Fr l ds) w:=by
 refine wpList_plain rfl fun K hK=>?_;unfold Oper.wp;rw [fY,kD (hc w).1 hf hxs _ rfl];refine (hc w).2.mono ?_;rintro e w' ⟨u,rfl,hE,rfl⟩;show K ((Fr l ds).put (some d) u) w'
 rw [iJ];exact hK _ _ (h w' (m.ext' hE))
theorem gG.drew (m : gG w0 w is) : gG w0 { w with drawn:=w.drawn + 1 } is:=m.ext' ⟨(dD.refl w).drawn,Nat.le_succ _⟩
theorem Yn {id : Nat} {a : Act} {l : List Oper} (m : gG w0 w is) (n : Nat) (hm : P.follows .mixedOrders = true) (hB : Region.lexTailB .any l.toArray n = true)
 (h : wpQuiet P l.toArray (fun u=>gG w0 u is) (fun a'=>∀ u,gG w0 u is → wpList P l.toArray Q (l.drop n) a' u) (l.take n) a) : (Code.region id l.toArray true).wp P Q a w :=
 jT (C:=fun u=>gG w0 u is) n hm hB m.drew h
theorem Gmq {id : Nat} {a : Act} {l : List Oper} (m : gG w0 w is) (hm : P.follows .mixedOrders = true) (hB : Region.lexB .any l.toArray = true)
 (h : wpQuiet P l.toArray (fun u=>gG w0 u is) (fun a'=>∀ u,gG w0 u is → Q .normal a' u) l a) : (Code.region id l.toArray true).wp P Q a w :=
 wp_region_quiet (C:=fun u=>gG w0 u is) hm hB m.drew (by simpa using h)
end
section
variable {P : Program} {w0 : World} {is : List It} {l : List Value} {x y : Operand} {T ty : TypeId}
variable {ops : Array Oper} {Q : Act → Prop} {rest : List Oper} {d : Nat} {pos : String} {after : Array Edge} {v : Value} {ds : List Deferred}
theorem Gql {a : Addr} (hx : ev l x = .pointer (some a)) (hv : ∀ u,gG w0 u is → vF P u T a v) (h : wpQuiet P ops (fun u=>gG w0 u is) Q rest (Fr (l.set d v) ds)) : wpQuiet P ops (fun u=>gG w0 u is) Q (Oper.mk (some d) (.load T x) ty pos after none :: rest) (Fr l ds) :=
 vY (fun u m=>cF hx (hv u m)) h
theorem Lj {f : FuncId} {fo : Operand} {xs : Array Operand} {args : List Value} {first cap : Array Value} {a0 : Array TypeId} (hf : ev l fo = .func (.func f) first cap) (hxs : first.toList ++ xs.toList.map (ev l) ++ cap.toList = args) (hc : sM P f args v)
 (h : wpQuiet P ops (fun u=>gG w0 u is) Q rest (Fr (l.set d v) ds)) : wpQuiet P ops (fun u=>gG w0 u is) Q (Oper.mk (some d) (.call { callee:=.value fo,args:=xs,argTypes:=a0 }) ty pos after none :: rest) (Fr l ds):=by
 refine wpQuiet_step fun K hK=>?_;rw [if_pos (by simp [Region.wanted])];refine ⟨v,fun w' hw=>?_,?_⟩
 · unfold Oper.quietAt
   rw [fY,kD (hc w').1 hf hxs _ rfl];refine ⟨rfl,(hc w').2.mono ?_⟩;rintro e w'' ⟨u,rfl,hE,rfl⟩;exact ⟨rfl,hw.ext' hE⟩
 · show K ((Fr l ds).put (some d) v)
   rw [iJ];exact hK _ h
end
end Go.Lith
namespace Go.Lith
open Go.RowKit
def P3.Lt (p q : P3) : Prop:=p.x < q.x ∨ p.x = q.x ∧ (p.y < q.y ∨ p.y = q.y ∧ p.z < q.z)
instance (p q : P3) : Decidable (p.Lt q):=by unfold P3.Lt;infer_instance
def xF (p q : P3) : Int:=if p.Lt q then -1 else if q.Lt p then 1 else 0
theorem P3.eq {p q : P3} (h1 : p.x = q.x) (h2 : p.y = q.y) (h3 : p.z = q.z) : p = q:=by
 cases p;cases q;simp_all
instance : DecidableEq P3:=fun p q=>if h : p.x = q.x ∧ p.y = q.y ∧ p.z = q.z then isTrue (P3.eq h.1 h.2.1 h.2.2) else isFalse fun e=>h (by subst e;exact ⟨rfl,rfl,rfl⟩)
theorem P3.lt_irrefl (p : P3) : ¬ p.Lt p:=by unfold P3.Lt;omega
theorem P3.lt_trans {p q r : P3} (h : p.Lt q) (k : q.Lt r) : p.Lt r:=by unfold P3.Lt at *;omega
theorem P3.lt_tri (p q : P3) : p.Lt q ∨ p = q ∨ q.Lt p:=by
 by_cases h1 : p.x = q.x
 · by_cases h2 : p.y = q.y
   · by_cases h3 : p.z = q.z
     · exact .inr (.inl (P3.eq h1 h2 h3))
     · unfold P3.Lt;omega
   · unfold P3.Lt;omega
 · unfold P3.Lt;omega
theorem P3.lt_x {p q : P3} (h : ¬ p.x = q.x) : p.Lt q ↔ p.x < q.x:=by unfold P3.Lt;omega
theorem P3.lt_y {p q : P3} (h : p.x = q.x) (h2 : ¬ p.y = q.y) : p.Lt q ↔ p.y < q.y:=by unfold P3.Lt;omega
theorem P3.lt_z {p q : P3} (h : p.x = q.x) (h2 : p.y = q.y) : p.Lt q ↔ p.z < q.z:=by unfold P3.Lt;omega
end Go.Lith
namespace Go.Lith
open Go.RowKit
@[irreducible] def Lk (c : Bool) (v : Value) : Value:=if c then v else undef
theorem vO {v : Value} : Lk true v = v:=by simp [Lk]
theorem Ll {v : Value} : Lk false v = undef:=by simp [Lk]
theorem bH {c : Bool} {u v : Value} (hb : c = true) (h : u = Lk c v) : u = v:=by rw [h,hb,vO]
section
variable {P : Program} {ds : List Deferred} {l : List Value} {x y : Operand} {T ty : TypeId} {b c : Bool} {v : Value}
theorem dA {z : Operand} (hz : ev l z = .bool b) (hx : ev l x = Lk b (.bool c)) (hy : ev l y = .bool false) : gE P l (.pick z x y) ty (.bool (b && c)):=by
 have:=Io (P:=P) (ty:=ty) (x:=x) (y:=y) hz;cases b with
 | false=>simpa [hy] using this
 | true=>simpa [hx,vO] using this
theorem gU {z : Operand} (hz : ev l z = .bool b) (hx : ev l x = .bool true) (hy : ev l y = Lk (!b) (.bool c)) : gE P l (.pick z x y) ty (.bool (b || c)):=by
 have:=Io (P:=P) (ty:=ty) (x:=x) (y:=y) hz;cases b with
 | false=>simpa [hy,vO] using this
 | true=>simpa [hx] using this
end
section
variable {P : Program} {ops : Array Oper} {Q : Exit → Act → World → Prop} {rest : List Oper} {d j : Nat} {op : Op} {ty : TypeId} {pos : String} {after : Array Edge} {v : Value} {b : Bool} {ds : List Deferred} {l : List Value} {w w0 : World} {is : List It}
theorem iM (hw : yielded ops l.toArray j = some b) (hr : b = true → vX P l op ty v w) (h : wpList P ops Q rest (Fr (l.set d (Lk b v)) ds) w) : wpList P ops Q (Oper.mk (some d) op ty pos after (some (j,true)) :: rest) (Fr l ds) w:=by
 cases b with
 | false=>rw [Ll] at h;exact cU hw h
 | true=>rw [vO] at h;exact bU hw (eL (hr rfl) h)
theorem mU (hw : yielded ops l.toArray j = some b) (hr : (!b) = true → vX P l op ty v w) (h : wpList P ops Q rest (Fr (l.set d (Lk (!b) v)) ds) w) : wpList P ops Q (Oper.mk (some d) op ty pos after (some (j,false)) :: rest) (Fr l ds) w:=by
 cases b with
 | true=>rw [Bool.not_true,Ll] at h;exact lP hw h
 | false=>rw [Bool.not_false,vO] at h;exact bU hw (eL (hr rfl) h)
theorem dO (hw : yielded ops l.toArray j = some b) (hr : b = true → gE P l op ty v) (h : wpList P ops Q rest (Fr (l.set d (Lk b v)) ds) w) : wpList P ops Q (Oper.mk (some d) op ty pos after (some (j,true)) :: rest) (Fr l ds) w:=iM hw (fun e=>hr e w) h
theorem gJ (hw : yielded ops l.toArray j = some b) (hr : (!b) = true → gE P l op ty v) (h : wpList P ops Q rest (Fr (l.set d (Lk (!b) v)) ds) w) : wpList P ops Q (Oper.mk (some d) op ty pos after (some (j,false)) :: rest) (Fr l ds) w:=mU hw (fun e=>hr e w) h
end
section
variable {P : Program} {ops : Array Oper} {Q : Act → Prop} {C : World → Prop} {rest : List Oper} {d j : Nat} {op : Op} {ty : TypeId} {pos : String} {after : Array Edge} {v : Value} {b : Bool} {ds : List Deferred} {l : List Value} {w0 : World} {is : List It}
theorem gK (hw : yielded ops l.toArray j = some b) (hr : b = true → ∀ u,C u → vX P l op ty v u) (h : wpQuiet P ops C Q rest (Fr (l.set d (Lk b v)) ds)) : wpQuiet P ops C Q (Oper.mk (some d) op ty pos after (some (j,true)) :: rest) (Fr l ds):=by
 cases b with
 | false=>rw [Ll] at h;exact fZ hw h
 | true=>rw [vO] at h;exact fS hw (vY (hr rfl) h)
theorem fP (hw : yielded ops l.toArray j = some b) (hr : (!b) = true → ∀ u,C u → vX P l op ty v u) (h : wpQuiet P ops C Q rest (Fr (l.set d (Lk (!b) v)) ds)) : wpQuiet P ops C Q (Oper.mk (some d) op ty pos after (some (j,false)) :: rest) (Fr l ds):=by
 cases b with
 | true=>rw [Bool.not_true,Ll] at h;exact aa9 hw h
 | false=>rw [Bool.not_false,vO] at h;exact fS hw (vY (hr rfl) h)
theorem cG (hw : yielded ops l.toArray j = some b) (hr : b = true → gE P l op ty v) (h : wpQuiet P ops C Q rest (Fr (l.set d (Lk b v)) ds)) : wpQuiet P ops C Q (Oper.mk (some d) op ty pos after (some (j,true)) :: rest) (Fr l ds):=gK hw (fun e u _=>hr e u) h
theorem cY (hw : yielded ops l.toArray j = some b) (hr : (!b) = true → gE P l op ty v) (h : wpQuiet P ops C Q rest (Fr (l.set d (Lk (!b) v)) ds)) : wpQuiet P ops C Q (Oper.mk (some d) op ty pos after (some (j,false)) :: rest) (Fr l ds):=fP hw (fun e u _=>hr e u) h
end
section
variable {P : Program} {ops : Array Oper} {S : World → Prop} {Q : Exit → Act → World → Prop} {rest : List (Oper × Bool)} {d j : Nat} {op : Op} {ty : TypeId} {pos : String} {after : Array Edge} {v : Value} {b : Bool} {ds : List Deferred} {l : List Value} {w : World}
end
end Go.Lith
namespace Go.Lith
open Go.RowKit
end Go.Lith
namespace Go.Lith
open Go.RowKit Go.ChangeShapes
variable {H : Type} {enc : TypeId × Value → H} {P : Program} {w : World} {base : Nat} {spare : Nat → Bool} {held : Bool}
def kG (P : Program) : Nat → TypeId → Bool
 | 0,_=>false
 | n + 1,t=>match P.underlying t with
  | some (.int .i64)=>decide (P.cellsOf t = 1)
  | some (.struct fs)=>(fs.toList.all fun f=>kG P n f.type) && (List.range (P.cellsOf t)).all fun i=>fs.toList.any fun f=>decide (f.offset ≤ i) && decide (i < f.offset + P.cellsOf f.type)
  | some (.array m e)=>kG P n e && decide (P.cellsOf t = m * P.cellsOf e)
  | _=>false
theorem adf {n : Int} (h : (Lit.int .i64 n).wf = true) : nJ n:=by
 have:=bounds_i64 h;exact ⟨by omega,by omega⟩
theorem lW : ∀ (n : Nat) (t : TypeId) (m : Nat) (cs : List Value) (x : DataW H × List MemPlace),kG P n t = true → DataW.trod enc P w base spare held m t cs = some x →
 cs.length = P.cellsOf t ∧ ∀ v ∈ cs,∃ z,v = .int .i64 z ∧ nJ z
 | 0,t,m,cs,x,h,_=>by cases h
 | n + 1,t,m,cs,x,h,hx=>by
  unfold kG at h;split at h
  · rename_i hu
    obtain ⟨z,rfl,_,hz⟩:=DataW.trod_int hu hx;refine ⟨by rw [of_decide_eq_true h];rfl,fun v hv=>⟨z,by simpa using hv,adf hz⟩⟩
  · rename_i fs hu
    simp only[Bool.and_eq_true,List.all_eq_true,List.any_eq_true,decide_eq_true_eq,List.mem_range] at h;obtain ⟨ys,k,_,_,hl,hlen,hf⟩:=DataW.trod_struct hu hx;refine ⟨hl,fun v hv=>?_⟩;obtain ⟨i,hi,rfl⟩:=List.getElem_of_mem hv;obtain ⟨f,hfm,h1,h2⟩:=h.2 i (by rw [← hl];exact hi);obtain ⟨j,hj,rfl⟩:=List.getElem_of_mem hfm;have hj' : j < fs.size:=by simpa using hj
    have:=hf j fs[j] (Array.getElem?_eq_getElem hj');rw [List.getElem?_eq_getElem (by rw [hlen];exact hj')] at this;have hr:=(lW n _ _ _ _ (h.1 _ (List.getElem_mem hj)) this).2;refine hr _ ?_;simp only[Array.getElem_toList] at h1 h2;refine List.mem_of_getElem? (i:=i - fs[j].offset) ?_;rw [List.getElem?_take,if_pos (by omega),List.getElem?_drop,show fs[j].offset + (i - fs[j].offset) = i by omega];exact List.getElem?_eq_getElem hi
  · rename_i q e hu
    simp only[Bool.and_eq_true,decide_eq_true_eq] at h;obtain ⟨ys,k,_,_,hl,hlen,hf⟩:=DataW.trod_array hu hx;refine ⟨hl,fun v hv=>?_⟩;obtain ⟨i,hi,rfl⟩:=List.getElem_of_mem hv;rw [hl,h.2] at hi;have hc : 0 < P.cellsOf e:=by
     rcases Nat.eq_zero_or_pos (P.cellsOf e) with h0 | h0
     · rw [h0] at hi;omega
     · exact h0
    have hq : i / P.cellsOf e < q:=Nat.div_lt_of_lt_mul (by rw [Nat.mul_comm];exact hi);have:=hf _ hq;rw [List.getElem?_eq_getElem (by rw [hlen];exact hq)] at this;have hr:=(lW n _ _ _ _ h.1 this).2;refine hr _ (List.mem_of_getElem? (i:=i % P.cellsOf e) ?_);rw [List.getElem?_take,if_pos (Nat.mod_lt _ hc),List.getElem?_drop,Nat.mul_comm,Nat.div_add_mod];exact List.getElem?_eq_getElem _
  · cases h
theorem Gw : ∀ (n : Nat) (cs : List Value),cs.length = n → (∀ v ∈ cs,∃ z,v = .int .i64 z ∧ nJ z) → ∃ zs : List Int,zs.length = n ∧ cs = zs.map (.int .i64 ·) ∧ ∀ z ∈ zs,nJ z
 | 0,[],_,_=>⟨[],rfl,rfl,fun _ h=>by cases h⟩
 | n + 1,v :: vs,h,hv=>by
  obtain ⟨zs,h1,h2,h3⟩:=Gw n vs (by simpa using h) (fun u hu=>hv u (by simp [hu]));obtain ⟨z,rfl,hz⟩:=hv v (by simp);exact ⟨z :: zs,by simp [h1],by simp [h2],fun u hu=>by rcases List.mem_cons.1 hu with rfl | hu;exact hz;exact h3 _ hu⟩
theorem Pe {a : Addr} {n : Nat} {cs : List Value} (h : w.cells? base a n = some cs) : jP w a cs ∧ base ≤ a.block:=by
 unfold World.cells? at h;split at h
 · rename_i hb
   refine ⟨fun j u hj=>?_,hb⟩;have hl:=mapM_some_length h;have hj' : j < cs.length:=(List.getElem?_eq_some_iff.1 hj).1;rw [hl] at hj';have:=mapM_some_get h j j (List.getElem?_eq_getElem hj' ▸ by simp);rw [this,hj]
 · cases h
theorem Gx {n m : Nat} {t e : TypeId} {fuel : Nat} {cs : List Value} {x : DataW H × List MemPlace} (hu : P.underlying t = some (.slice e)) (hi : kG P n e = true) (hc : P.cellsOf e = m) (h : DataW.trod enc P w base spare held fuel t cs = some x) :
 ∃ (A : Option Addr) (len cap : Nat),cs = [.slice A len cap] ∧ len ≤ cap ∧ cap ≤ maxLen ∧ (A = none → len = 0) ∧ ∀ i,i < len → ∃ (a : Addr) (zs : List Int),A = some a ∧ base ≤ a.block ∧ jP w (a.add (i * m)) (zs.map (Value.int .i64 ·)) ∧ zs.length = m ∧ ∀ z ∈ zs,nJ z:=by
 rcases Deep.open_slice hu h with ⟨rfl,_⟩ | ⟨a,len,cap,k,q,D,Pl,rfl,hb,hl,hm,hk,_,hx⟩
 · exact ⟨none,0,0,rfl,Nat.le_refl _,Nat.zero_le _,fun _=>rfl,fun i hi=>absurd hi (Nat.not_lt_zero _)⟩
 · refine ⟨some a,len,cap,rfl,hl,hm,fun h=>(by cases h),fun i hi'=>?_⟩
   obtain ⟨cs',h1,h2⟩:=hx i (by rw [hk];split <;> omega);obtain ⟨h3,h4⟩:=lW n e q _ _ hi h2;obtain ⟨zs,h5,rfl,h6⟩:=Gw m cs' (by rw [← hc];exact h3) h4;rw [hc] at h1;exact ⟨a,zs,rfl,hb,(Pe h1).1,h5,h6⟩
theorem tJ {α : Type} {p : Nat → α → Prop} : ∀ (n : Nat),(∀ i,i < n → ∃ x,p i x) → ∃ l : List α,l.length = n ∧ ∀ i x,l[i]? = some x → p i x
 | 0,_=>⟨[],rfl,fun i x h=>by simp at h⟩
 | n + 1,h=>by
  obtain ⟨l,h1,h2⟩:=tJ n (fun i hi=>h i (by omega));obtain ⟨x,hx⟩:=h n (by omega);refine ⟨l ++ [x],by simp [h1],fun i y hy=>?_⟩;rcases Nat.lt_trichotomy i n with hi | hi | hi
  · exact h2 i y (by rwa [List.getElem?_append_left (by omega)] at hy)
  · subst hi
    rw [List.getElem?_append_right (by omega),h1,Nat.sub_self] at hy;cases hy;exact hx
  · rw [List.getElem?_append_right (by omega),h1] at hy
    have : i - n ≠ 0:=by omega
    cases hd : i - n with
    | zero=>omega
    | succ j=>rw [hd] at hy;simp at hy
structure nK (w : World) (A : Option Addr) (n : Nat) (zs : List Int) : Prop where
 len : zs.length = n
 it : ∀ z ∈ zs,nJ z
 row : ∀ i z,zs[i]? = some z → ∃ a,A = some a ∧ w.cell? (a.add i) = some (.int .i64 z)
theorem nK.ext {w' : World} {A : Option Addr} {n : Nat} {zs : List Int} (h : nK w A n zs) (hE : dD w w') : nK w' A n zs :=
 ⟨h.len,h.it,fun i z hi=>let ⟨a,e,hr⟩:=h.row i z hi;⟨a,e,hE.cell hr⟩⟩
theorem nK.get {A : Option Addr} {n : Nat} {zs : List Int} (h : nK w A n zs) {i : Nat} (hi : i < n) : ∃ z,zs[i]? = some z ∧ Iw z ∧ ∃ a,A = some a ∧ w.cell? (a.add i) = some (.int .i64 z):=by
 have hl : i < zs.length:=by rw [h.len];exact hi
 exact ⟨zs[i],List.getElem?_eq_getElem hl,⟨h.it _ (List.getElem_mem hl)⟩,h.row i _ (List.getElem?_eq_getElem hl)⟩
theorem Pf {n : Nat} {t e : TypeId} {fuel : Nat} {cs : List Value} {x : DataW H × List MemPlace} (hu : P.underlying t = some (.slice e)) (hi : kG P n e = true) (hc : P.cellsOf e = 1) (h : DataW.trod enc P w base spare held fuel t cs = some x) :
 ∃ (A : Option Addr) (len cap : Nat) (zs : List Int),cs = [.slice A len cap] ∧ len ≤ cap ∧ cap ≤ maxLen ∧ (A = none → len = 0) ∧ nK w A len zs:=by
 obtain ⟨A,len,cap,rfl,h1,h2,h3,h4⟩:=Gx hu hi hc h;obtain ⟨zs,h5,h6⟩:=tJ (p:=fun i (z : Int)=>nJ z ∧ ∃ a,A = some a ∧ w.cell? (a.add i) = some (.int .i64 z)) len (fun i hi=>by
  obtain ⟨a,zs,rfl,_,hr,hl,hz⟩:=h4 i hi
  match zs,hl with
  | [z],_=>exact ⟨z,hz _ (by simp),a,rfl,by have:=hr 0 _ rfl;rwa [Nat.mul_one,iE,Nat.add_zero] at this⟩)
 refine ⟨A,len,cap,zs,rfl,h1,h2,h3,h5,fun z hz=>?_,fun i z hz=>(h6 i z hz).2⟩;obtain ⟨i,hi,rfl⟩:=List.getElem_of_mem hz;exact (h6 i _ (List.getElem?_eq_getElem hi)).1
end Go.Lith
namespace Go.Lith
open Go.RowKit
theorem Yo {n m : Int} (hm : 0 < m) : -m < n.tmod m ∧ n.tmod m < m:=by
 have h1:=Int.tmod_lt_of_pos n hm;have h2:=Int.tmod_lt_of_pos (-n) hm;rw [Int.neg_tmod] at h2;omega
theorem Rs {n m : Int} (hm : 0 < m) : (n.tmod m + m).tmod m = n % m:=by
 have hb:=Yo (n:=n) hm;rw [Int.tmod_eq_emod_of_nonneg (by omega)];rcases Int.le_total 0 n with h | h
 · rw [Int.tmod_eq_emod_of_nonneg h]
   simp
 · have e : n.tmod m = -((-n) % m):=by
    rw [← Int.tmod_eq_emod_of_nonneg (show 0 ≤ -n by omega),Int.neg_tmod,Int.neg_neg]
   rw [e,Int.add_emod_right];have h2:=Int.emod_add_mul_ediv (-n) m;have h3 : -((-n) % m) = n + m * (-n / m):=by omega
   rw [h3,Int.add_mul_emod_self_left]
theorem lX {n m : Int} (hm : 0 < m) : 0 ≤ n % m ∧ n % m < m:=⟨Int.emod_nonneg _ (by omega),Int.emod_lt_of_pos _ hm⟩
/-! ### Hills -/
def hgt (zs : List Int) (x y : Nat) : Int:=(zs[(y * 7 + x) % zs.length]?.getD 0) % 64
theorem adg (zs : List Int) (x y : Nat) : 0 ≤ hgt zs x y ∧ hgt zs x y < 64:=lX (by decide)
def kA (s : Int) (zs : List Int) (x y : Nat) : P3:=⟨(x : Int) * s,(y : Int) * s,100 + hgt zs x y⟩
def lY (a b c d : P3) : List T3:=[⟨a,b,c⟩,⟨a,c,d⟩]
def Lm (s : Int) (zs : List Int) (y x : Nat) : List T3:=lY (kA s zs x y) (kA s zs (x + 1) y) (kA s zs (x + 1) (y + 1)) (kA s zs x (y + 1))
def eJ (s : Int) (zs : List Int) (n y x : Nat) : List T3:=((List.range y).flatMap fun y=>(List.range n).flatMap (Lm s zs y)) ++ (List.range x).flatMap (Lm s zs y)
def wC (s : Int) (zs : List Int) (n : Nat) : List T3:=(List.range n).flatMap fun y=>(List.range n).flatMap (Lm s zs y)
theorem rQ {s : Int} {zs : List Int} {n : Nat} : eJ s zs n n 0 = wC s zs n:=by simp [eJ,wC]
theorem Ji {s : Int} {zs : List Int} {n y : Nat} : eJ s zs n y n = eJ s zs n (y + 1) 0:=by
 simp [eJ,List.range_succ,List.flatMap_append]
theorem Gc {s : Int} {zs : List Int} {n y x : Nat} : eJ s zs n y (x + 1) = eJ s zs n y x ++ Lm s zs y x:=by
 simp [eJ,List.range_succ,List.flatMap_append]
theorem mY {α β : Type} {f : α → List β} {k : Nat} : ∀ (l : List α),(∀ x ∈ l,(f x).length = k) → (l.flatMap f).length = l.length * k
 | [],_=>by simp
 | x :: l,h=>by
  rw [List.flatMap_cons,List.length_append,h x (by simp),mY l (fun y hy=>h y (by simp [hy])),List.length_cons,Nat.add_mul,Nat.one_mul,Nat.add_comm]
theorem nL {s : Int} {zs : List Int} {n y x : Nat} : (eJ s zs n y x).length = y * (n * 2) + x * 2:=by
 unfold eJ;rw [List.length_append,mY (k:=n * 2) _ (fun y _=>by rw [mY (k:=2) _ (fun _ _=>rfl),List.length_range]),mY (k:=2) _ (fun _ _=>rfl),List.length_range,List.length_range]
def Sm (k : Int) (p : P3) : Prop:=(0 ≤ p.x ∧ p.x ≤ k) ∧ (0 ≤ p.y ∧ p.y ≤ k) ∧ (0 ≤ p.z ∧ p.z ≤ k)
def SmT (k : Int) (t : T3) : Prop:=Sm k t.a ∧ Sm k t.b ∧ Sm k t.c
theorem Rt {k : Int} {a b c d : P3} (ha : Sm k a) (hb : Sm k b) (hc : Sm k c) (hd : Sm k d) : ∀ t ∈ lY a b c d,SmT k t:=fun t ht=>by
 simp only[lY,List.mem_cons,List.not_mem_nil,or_false] at ht;rcases ht with rfl | rfl
 · exact ⟨ha,hb,hc⟩
 · exact ⟨ha,hc,hd⟩
theorem xG {zs : List Int} {x y : Nat} (hx : x ≤ 6) (hy : y ≤ 6) : Sm 200 (kA 10 zs x y):=by
 have:=adg zs x y;simp only[Sm,kA];omega
theorem Ln {zs : List Int} {x y : Nat} (hx : x < 6) (hy : y < 6) : ∀ t ∈ Lm 10 zs y x,SmT 200 t :=
 Rt (xG (by omega) (by omega)) (xG (by omega) (by omega)) (xG (by omega) (by omega)) (xG (by omega) (by omega))
theorem Lo {zs : List Int} {n x y : Nat} (hn : n ≤ 6) (hx : x ≤ 6) (hy : y ≤ 6) (hxy : x = 0 ∨ y < 6) : ∀ t ∈ eJ 10 zs n y x,SmT 200 t:=fun t ht=>by
 rcases List.mem_append.1 ht with h | h
 · obtain ⟨v,hv,h⟩:=List.mem_flatMap.1 h
   obtain ⟨u,hu,h⟩:=List.mem_flatMap.1 h;exact Ln (by have:=List.mem_range.1 hu;omega) (by have:=List.mem_range.1 hv;omega) t h
 · obtain ⟨u,hu,h⟩:=List.mem_flatMap.1 h
   have:=List.mem_range.1 hu;exact Ln (by omega) (by omega) t h
/-! ### Cubes -/
def bY (p : P3) (s : Int) (n : Nat) : P3:=⟨p.x + ((n % 2 : Nat) : Int) * s,p.y + ((n / 2 % 2 : Nat) : Int) * s,p.z + ((n / 4 : Nat) : Int) * s⟩
def tK (p : P3) (s : Int) : List T3:=lY (bY p s 0) (bY p s 2) (bY p s 3) (bY p s 1) ++ lY (bY p s 4) (bY p s 5) (bY p s 7) (bY p s 6) ++ lY (bY p s 0) (bY p s 1) (bY p s 5) (bY p s 4)
 ++ lY (bY p s 2) (bY p s 6) (bY p s 7) (bY p s 3) ++ lY (bY p s 0) (bY p s 4) (bY p s 6) (bY p s 2) ++ lY (bY p s 1) (bY p s 3) (bY p s 7) (bY p s 5)
theorem nZ (p : P3) (s : Int) : (tK p s).length = 12:=rfl
def vP (n : Nat) : P3:=⟨4 + ((n % 3 : Nat) : Int) * 8,5 + ((n / 3 % 3 : Nat) : Int) * 8,6 + ((n / 9 : Nat) : Int) * 8⟩
def stx (f : Nat) : Int:=if f = 4 then -1 else if f = 5 then 1 else 0
def sty (f : Nat) : Int:=if f = 2 then -1 else if f = 3 then 1 else 0
def stz (f : Nat) : Int:=if f = 0 then -1 else if f = 1 then 1 else 0
def yU (b : Nat) (n : Nat) : Bool:=decide (b / 2 ^ n % 2 = 1)
def vQ (b n f : Nat) : Bool :=
 let u:=((n % 3 : Nat) : Int) + stx f
 let v:=((n / 3 % 3 : Nat) : Int) + sty f
 let w:=((n / 9 : Nat) : Int) + stz f
 !(decide (0 ≤ u) && decide (u < 3) && decide (0 ≤ v) && decide (v < 3) && decide (0 ≤ w) && decide (w < 3)) || !yU b ((w * 3 + v) * 3 + u).toNat
def sN (n f : Nat) : List T3:=((tK (vP n) 8).drop (2 * f)).take 2
def mK (b n f : Nat) : List T3:=(List.range f).flatMap fun f=>if vQ b n f then sN n f else []
def fV (b n f : Nat) : List T3:=((List.range n).flatMap fun n=>if yU b n then mK b n 6 else []) ++ mK b n f
def Pg (b : Nat) : List T3:=(List.range 27).flatMap fun n=>if yU b n then mK b n 6 else []
theorem Dg {b : Nat} : fV b 27 0 = Pg b:=by simp [fV,Pg,mK]
theorem Ph {b n : Nat} (h : yU b n = true) : fV b n 6 = fV b (n + 1) 0:=by
 simp [fV,List.range_succ (n:=n),List.flatMap_append,h,mK]
theorem Um {b n : Nat} (h : yU b n = false) : fV b n 0 = fV b (n + 1) 0:=by
 simp [fV,List.range_succ (n:=n),List.flatMap_append,h,mK]
theorem Gy {b n f : Nat} (h : vQ b n f = true) : fV b n (f + 1) = fV b n f ++ sN n f:=by
 simp [fV,mK,List.range_succ (n:=f),List.flatMap_append,h]
theorem Pi {b n f : Nat} (h : vQ b n f = false) : fV b n (f + 1) = fV b n f:=by
 simp [fV,mK,List.range_succ (n:=f),List.flatMap_append,h]
/-! ### What the walks ask for -/
theorem Gz {k c : Nat} : (k : Int).tmod (c : Int) = ((k % c : Nat) : Int):=rfl
theorem aeJ {b : Nat} {n : Int} (h0 : 0 ≤ n) (h : n ≤ 63) : (b : Int).fdiv (2 ^ (min n.toNat IntKind.i64.bits)) = ((b / 2 ^ n.toNat : Nat) : Int):=by
 have e : min n.toNat IntKind.i64.bits = n.toNat:=Nat.min_eq_left (by show n.toNat ≤ 64;omega);rw [e,Int.fdiv_eq_ediv_of_nonneg _ (by exact Int.le_of_lt (Int.pow_pos (by decide)))];simp
theorem aeK {x : Nat} (h : x < 9223372036854775808) : IntKind.i64.wrap ((BitVec.ofInt IntKind.i64.bits (x : Int) &&& BitVec.ofInt IntKind.i64.bits 1).toNat : Int) = ((x % 2 : Nat) : Int):=by
 have e : (BitVec.ofInt IntKind.i64.bits (x : Int) &&& BitVec.ofInt IntKind.i64.bits 1).toNat = x % 2:=by
  show (BitVec.ofInt 64 (x : Int) &&& BitVec.ofInt 64 1).toNat = x % 2
  rw [BitVec.toNat_and,BitVec.toNat_ofInt,BitVec.toNat_ofInt];have h1 : ((x : Int) % ((2 ^ 64 : Nat) : Int)).toNat = x:=by
   have : ((2 ^ 64 : Nat) : Int) = 18446744073709551616:=rfl;rw [this];omega
  have h2 : ((1 : Int) % ((2 ^ 64 : Nat) : Int)).toNat = 1:=rfl;rw [h1,h2,Nat.and_one_is_mod]
 rw [e];exact aN (by omega) (by omega)
theorem Yp {b n : Nat} (h : b < 134217728) : b / 2 ^ n < 9223372036854775808:=Nat.lt_of_le_of_lt (Nat.div_le_self _ _) (by omega)
theorem Yq {zs : List Int} {x y N : Nat} {z : Int} (hl : zs.length = N) (hz : zs[(y * 7 + x) % N]? = some z) : hgt zs x y = z % 64:=by
 unfold hgt;rw [hl,hz];rfl
theorem abw {zs : List Int} {x y N : Nat} (hl : zs.length = N) (h : ¬ (0 : Int) < (N : Int)) : hgt zs x y = 0:=by
 have : zs = []:=List.eq_nil_of_length_eq_zero (by omega);subst this;rfl
theorem Yr {s : Int} {zs : List Int} {n y x : Nat} : (eJ s zs n y x).flatMap aX ++ (lY (kA s zs x y) (kA s zs (x + 1) y) (kA s zs (x + 1) (y + 1)) (kA s zs x (y + 1))).flatMap aX = (eJ s zs n y (x + 1)).flatMap aX:=by
 rw [Gc,List.flatMap_append];rfl
theorem Ys {s : Int} {zs : List Int} {n y x : Nat} {a b c d : P3} : (eJ s zs n y x).length + (lY a b c d).length = (eJ s zs n y (x + 1)).length:=by
 rw [nL,nL];show _ + 2 = _
 omega
theorem tL {s : Int} {zs : List Int} {n y x : Nat} (hn : n ≤ 6) (hy : y ≤ 6) (hx : x ≤ 6) : (eJ s zs n y x).length ≤ 84:=by
 rw [nL];have : y * (n * 2) ≤ 6 * (6 * 2):=Nat.mul_le_mul hy (by omega);omega
theorem Un {zs : List Int} {n : Nat} (hn : n ≤ 6) : ∀ t ∈ wC 10 zs n,SmT 200 t:=by
 rw [← rQ];exact Lo hn (by omega) hn (.inl rfl)
theorem Uo {s : Int} {zs : List Int} {n : Nat} (hn : n ≤ 6) : (wC s zs n).length ≤ 84:=by
 rw [← rQ];exact tL hn hn (by omega)
def TS (E : TypeId) (ts : List T3) (w : World) (v : Value) (w' : World) : Prop:=∃ A cap n,n = ts.length ∧ v = .slice A n cap ∧ Ow w w' [] E 9 A n cap (ts.flatMap aX)
theorem Ow.tri {w0 w : World} {S : List (Option Nat)} {E : TypeId} {n cap g i : Nat} {ts : List T3} {t : T3} (h : Ow w0 w S E 9 (Option.some ⟨g,0,none⟩) n cap (ts.flatMap aX)) (ht : ts[i]? = Option.some t) : jP w ((⟨g,0,none⟩ : Addr).add (i * 9)) [.int .i64 t.a.x,.int .i64 t.a.y,.int .i64 t.a.z,.int .i64 t.b.x,.int .i64 t.b.y,.int .i64 t.b.z,.int .i64 t.c.x,.int .i64 t.c.y,.int .i64 t.c.z]:=by
 show jP w _ (aX t)
 intro j u hj;have hj' : j < (aX t).length:=(List.getElem?_eq_some_iff.1 hj).1;rw [iE];refine h.rows _ _ ?_;rw [← List.getElem?_drop,uS ts i t ht,List.getElem?_append_left hj'];exact hj
theorem acD {n : Nat} (h : n < 27) : Sm 100 (vP n):=by
 simp only[Sm,vP];omega
theorem Yt {p : P3} {n : Nat} (h : Sm 100 p) (hn : n < 8) : Sm 200 (bY p 8 n):=by
 simp only[Sm,bY] at h ⊢;omega
theorem Yu {p : P3} (h : Sm 100 p) : ∀ t ∈ tK p 8,SmT 200 t:=fun t ht=>by
 have c : ∀ n,n < 8 → Sm 200 (bY p 8 n):=fun n hn=>Yt h hn;simp only[tK,List.mem_append] at ht;rcases ht with ((((ht | ht) | ht) | ht) | ht) | ht <;> exact Rt (c _ (by decide)) (c _ (by decide)) (c _ (by decide)) (c _ (by decide)) t ht
theorem Yv {n f : Nat} (h : n < 27) : ∀ t ∈ sN n f,SmT 200 t:=fun t ht=>Yu (acD h) t (List.mem_of_mem_drop (List.mem_of_mem_take ht))
theorem Up {b n f : Nat} (h : n < 27) : ∀ t ∈ mK b n f,SmT 200 t:=fun t ht=>by
 obtain ⟨k,_,h2⟩:=List.mem_flatMap.1 ht;split at h2
 · exact Yv h t h2
 · cases h2
theorem abx {b : Nat} : ∀ t ∈ Pg b,SmT 200 t:=fun t ht=>by
 obtain ⟨k,hk,h2⟩:=List.mem_flatMap.1 ht;split at h2
 · exact Up (List.mem_range.1 hk) t h2
 · cases h2
theorem wD {α β : Type} {f : α → List β} {k : Nat} : ∀ (l : List α),(∀ x ∈ l,(f x).length ≤ k) → (l.flatMap f).length ≤ l.length * k
 | [],_=>by simp
 | x :: l,h=>by
  have h1:=h x (by simp);have h2:=wD l (fun y hy=>h y (by simp [hy]));rw [List.flatMap_cons,List.length_append,List.length_cons,Nat.add_mul,Nat.one_mul];omega
theorem Yw {n f : Nat} : (sN n f).length ≤ 2:=by unfold sN;rw [List.length_take];omega
theorem Ha {b n f : Nat} : (mK b n f).length ≤ f * 2:=by
 have:=wD (f:=fun f=>if vQ b n f then sN n f else []) (k:=2) (List.range f) (fun x _=>by
  show (if vQ b n x = true then sN n x else []).length ≤ 2
  split
  · exact Yw
  · exact Nat.zero_le _)
 rwa [List.length_range] at this
theorem yV {b n f : Nat} (hn : n ≤ 27) (hf : f ≤ 6) : (fV b n f).length ≤ 400:=by
 have h1:=wD (f:=fun n=>if yU b n then mK b n 6 else []) (k:=12) (List.range n) (fun x _=>by
  show (if yU b x = true then mK b x 6 else []).length ≤ 12
  split
  · exact Ha
  · exact Nat.zero_le _)
 have h2:=Ha (b:=b) (n:=n) (f:=f);rw [List.length_range] at h1;unfold fV;rw [List.length_append];omega
theorem aby {b : Nat} : (Pg b).length ≤ 400:=by
 rw [← Dg];exact yV (by omega) (by omega)
def uT : List Value:=[.int .i64 0,.int .i64 0,.int .i64 (-1),.int .i64 0,.int .i64 0,.int .i64 1,.int .i64 0,.int .i64 (-1),.int .i64 0,.int .i64 0,.int .i64 1,.int .i64 0,.int .i64 (-1),.int .i64 0,.int .i64 0,.int .i64 1,.int .i64 0,.int .i64 0]
theorem xH {f : Nat} (h : f < 6) : f = 0 ∨ f = 1 ∨ f = 2 ∨ f = 3 ∨ f = 4 ∨ f = 5:=by omega
theorem aeL {f : Nat} (h : f < 6) : uT[f * 3]? = some (.int .i64 (stx f)):=by rcases xH h with rfl | rfl | rfl | rfl | rfl | rfl <;> rfl
theorem aeM {f : Nat} (h : f < 6) : uT[f * 3 + 1]? = some (.int .i64 (sty f)):=by rcases xH h with rfl | rfl | rfl | rfl | rfl | rfl <;> rfl
theorem aeN {f : Nat} (h : f < 6) : uT[f * 3 + 2]? = some (.int .i64 (stz f)):=by rcases xH h with rfl | rfl | rfl | rfl | rfl | rfl <;> rfl
theorem aeO (f : Nat) : (-1 ≤ stx f ∧ stx f ≤ 1) ∧ (-1 ≤ sty f ∧ sty f ≤ 1) ∧ (-1 ≤ stz f ∧ stz f ≤ 1):=by
 unfold stx sty stz
 repeat' split
 all_goals omega
theorem vin {u v w : Int} (hb : (!(!(decide (0 ≤ u) && decide (u < 3) && decide (0 ≤ v) && decide (v < 3) && decide (0 ≤ w) && decide (w < 3)))) = true) : (0 ≤ u ∧ u < 3) ∧ (0 ≤ v ∧ v < 3) ∧ 0 ≤ w ∧ w < 3:=by
 simp only[Bool.not_not,Bool.and_eq_true,decide_eq_true_eq] at hb;omega
theorem Lp {b n f : Nat} : (!(decide ((0 : Int) ≤ ((n % 3 : Nat) : Int) + stx f) && decide (((n % 3 : Nat) : Int) + stx f < 3) && decide ((0 : Int) ≤ ((n / 3 % 3 : Nat) : Int) + sty f) && decide (((n / 3 % 3 : Nat) : Int) + sty f < 3) && decide ((0 : Int) ≤ ((n / 9 : Nat) : Int) + stz f) && decide (((n / 9 : Nat) : Int) + stz f < 3)) ||
 decide (((b / 2 ^ (((((n / 9 : Nat) : Int) + stz f) * 3 + (((n / 3 % 3 : Nat) : Int) + sty f)) * 3 + (((n % 3 : Nat) : Int) + stx f)).toNat % 2 : Nat) : Int) = 0)) = vQ b n f:=by
 unfold vQ yU;simp only
 congr 1
 rw [← decide_not]
 congr 1
 apply propext;constructor <;> intro h <;> omega
theorem Yx {n f : Nat} (h : f < 6) : ∃ t u,(tK (vP n) 8)[2 * f]? = some t ∧ (tK (vP n) 8)[2 * f + 1]? = some u ∧ sN n f = [t,u]:=by
 have h1 : 2 * f < (tK (vP n) 8).length:=by rw [nZ];omega
 have h2 : 2 * f + 1 < (tK (vP n) 8).length:=by rw [nZ];omega
 refine ⟨_,_,List.getElem?_eq_getElem h1,List.getElem?_eq_getElem h2,?_⟩;unfold sN;rw [List.drop_eq_getElem_cons h1,List.drop_eq_getElem_cons h2];rfl
theorem Uq {b n f : Nat} {t u : T3} (hp : sN n f = [t,u]) (h : vQ b n f = true) : (fV b n f).flatMap aX ++ [.int .i64 t.a.x,.int .i64 t.a.y,.int .i64 t.a.z,.int .i64 t.b.x,.int .i64 t.b.y,.int .i64 t.b.z,.int .i64 t.c.x,.int .i64 t.c.y,.int .i64 t.c.z,.int .i64 u.a.x,.int .i64 u.a.y,.int .i64 u.a.z,.int .i64 u.b.x,.int .i64 u.b.y,.int .i64 u.b.z,.int .i64 u.c.x,.int .i64 u.c.y,.int .i64 u.c.z] = (fV b n (f + 1)).flatMap aX:=by
 rw [Gy h,List.flatMap_append,hp];rfl
theorem Ru {b n f : Nat} (hf : f < 6) (h : vQ b n f = true) : (fV b n f).length + 2 = (fV b n (f + 1)).length:=by
 obtain ⟨t,u,_,_,hp⟩:=Yx (n:=n) hf;rw [Gy h,List.length_append,hp];rfl
def gC (kind bits : Int) (zs : List Int) : List T3:=if kind % 3 = 0 then Pg (bits % 134217728).toNat else wC 10 zs (1 + kind.tdiv 3 % 6).toNat
theorem Lr {z : Int} (h : nJ z) : IntKind.i64.wrap (z.tdiv 3) = z.tdiv 3 ∧ nJ (z.tdiv 3):=by
 obtain ⟨h1,h2⟩:=h;have hb : -9223372036854775808 ≤ z.tdiv 3 ∧ z.tdiv 3 < 9223372036854775808:=by
  rcases Int.le_total 0 z with hz | hz
  · rw [Int.tdiv_eq_ediv_of_nonneg hz];omega
  · have e : z.tdiv 3 = -((-z) / 3):=by
     rw [← Int.tdiv_eq_ediv_of_nonneg (show 0 ≤ -z by omega),Int.neg_tdiv,Int.neg_neg]
    rw [e];omega
 exact ⟨aN hb.1 hb.2,hb⟩
theorem xI {kind bits : Int} {zs : List Int} : ∀ t ∈ gC kind bits zs,SmT 200 t:=by
 unfold gC;split
 · exact abx
 · exact Un (by omega)
theorem Ls {kind bits : Int} {zs : List Int} : (gC kind bits zs).length ≤ 400:=by
 unfold gC;split
 · exact aby
 · exact Nat.le_trans (Uo (by omega)) (by decide)
end Go.Lith
namespace Go.Lith
open Go.RowKit
theorem aeA (ts : List T3) (k : Nat) : (ts.take k).flatMap aX = (ts.flatMap aX).take (k * 9):=by
 induction ts generalizing k with
 | nil=>simp
 | cons t ts ih =>
  cases k with
  | zero=>simp
  | succ k =>
   rw [List.take_succ_cons,List.flatMap_cons,List.flatMap_cons,ih,List.take_append,dI,List.take_of_length_le (l:=aX t) (by rw [dI];omega),show (k + 1) * 9 - 9 = k * 9 by omega]
theorem Dh {ts : List T3} {k : Nat} {t u : T3} (h : ts[k]? = some t) : bG (ts.flatMap aX) (k * 9) (aX u) = (ts.set k u).flatMap aX:=by
 induction ts generalizing k with
 | nil=>cases h
 | cons v ts ih =>
  cases k with
  | zero =>
   unfold bG;rw [Nat.zero_mul,List.take_zero,List.nil_append,List.set_cons_zero,List.flatMap_cons,List.flatMap_cons,dI,Nat.zero_add,List.drop_append,dI,List.drop_of_length_le (l:=aX v) (by rw [dI];omega)];rfl
  | succ k =>
   have:=ih (k:=k) h;unfold bG at this ⊢;rw [List.set_cons_succ,List.flatMap_cons,List.flatMap_cons,← this,dI];rw [List.take_append,dI,List.take_of_length_le (l:=aX v) (by rw [dI];omega),show (k + 1) * 9 - 9 = k * 9 by omega,List.drop_append,dI,List.drop_of_length_le (l:=aX v) (by rw [dI];omega),show (k + 1) * 9 + 9 - 9 = k * 9 + 9 by omega];simp only[List.append_assoc,List.nil_append]
def T3.cor (t : T3) (c : Nat) : P3:=if c = 0 then t.a else if c = 1 then t.b else t.c
def T3.setC (t : T3) (c : Nat) (p : P3) : T3:=if c = 0 then ⟨p,t.b,t.c⟩ else if c = 1 then ⟨t.a,p,t.c⟩ else ⟨t.a,t.b,p⟩
theorem agi {t : T3} {c : Nat} {p : P3} (hc : c < 3) : bG (aX t) (c * 3) [.int .i64 p.x,.int .i64 p.y,.int .i64 p.z] = aX (t.setC c p):=by
 have : c = 0 ∨ c = 1 ∨ c = 2:=by omega
 rcases this with rfl | rfl | rfl <;> rfl
section
variable {w0 w : World} {S : List (Option Nat)} {E : TypeId} {n cap : Nat} {A : Option Addr} {ts : List T3}
theorem jP.cor {a : Addr} {t : T3} {c : Nat} (h : jP w a (aX t)) (hc : c < 3) : jP w (a.add (c * 3)) [.int .i64 (t.cor c).x,.int .i64 (t.cor c).y,.int .i64 (t.cor c).z]:=by
 have:=(h.sub (c * 3)).take 3;have e : c = 0 ∨ c = 1 ∨ c = 2:=by omega
 rcases e with rfl | rfl | rfl <;> exact this
theorem adh {k : Nat} (h : k < ts.length) : ∃ t,ts[k]? = Option.some t:=⟨_,List.getElem?_eq_getElem h⟩
theorem Rv {q : Int} {N : Nat} (h : 0 < N) : ∃ k : Nat,q % (N : Int) = (k : Int) ∧ k < N:=by
 have:=lX (n:=q) (m:=(N : Int)) (by omega);exact ⟨(q % (N : Int)).toNat,by omega,by omega⟩
end
end Go.Lith
namespace Go.Lith
open Go.RowKit
section
variable {α : Type} {enc : α → List Value} {c : Nat} {w w' : World} {A : Option Addr} {n : Nat} {xs : List α}
structure sR (enc : α → List Value) (c : Nat) (w : World) (A : Option Addr) (n : Nat) (xs : List α) : Prop where
 len : xs.length = n
 row : ∀ i x,xs[i]? = some x → ∃ a,A = some a ∧ jP w (a.add (i * c)) (enc x)
theorem sR.ext (h : sR enc c w A n xs) (hE : dD w w') : sR enc c w' A n xs:=⟨h.len,fun i x hi=>let ⟨a,e,hr⟩:=h.row i x hi;⟨a,e,hr.ext hE⟩⟩
theorem sR.nil (w : World) (A : Option Addr) : sR enc c w A 0 []:=⟨rfl,fun i x h=>by cases h⟩
theorem sR.get (h : sR enc c w A n xs) {i : Nat} (hi : i < n) : ∃ x,xs[i]? = some x ∧ ∃ a,A = some a ∧ jP w (a.add (i * c)) (enc x):=by
 have hl : i < xs.length:=by rw [h.len];exact hi
 exact ⟨xs[i],List.getElem?_eq_getElem hl,h.row i _ (List.getElem?_eq_getElem hl)⟩
theorem sR.take (h : sR enc c w A n xs) {k : Nat} (hk : k ≤ n) : sR enc c w A k (xs.take k) :=
 ⟨by rw [List.length_take,h.len];omega,fun i x hx=>h.row i x (by rw [List.getElem?_take] at hx;split at hx;exact hx;cases hx)⟩
theorem iC (hc : ∀ x,(enc x).length = c) : ∀ xs : List α,(xs.flatMap enc).length = xs.length * c
 | []=>by simp
 | x :: xs=>by rw [List.flatMap_cons,List.length_append,hc,iC hc xs,List.length_cons,Nat.add_mul,Nat.one_mul,Nat.add_comm]
theorem wE (hc : ∀ x,(enc x).length = c) : ∀ (xs : List α) (k : Nat),(xs.drop k).flatMap enc = (xs.flatMap enc).drop (k * c)
 | xs,0=>by simp
 | [],k + 1=>by simp
 | x :: xs,k + 1=>by
  rw [List.drop_succ_cons,List.flatMap_cons,wE hc xs k,List.drop_append,hc,List.drop_of_length_le (l:=enc x) (by rw [hc,Nat.add_mul];omega),Nat.add_mul,Nat.one_mul,Nat.add_sub_cancel,List.nil_append]
theorem Lu (hc : ∀ x,(enc x).length = c) {xs : List α} {i : Nat} {x : α} (h : xs[i]? = some x) : (xs.flatMap enc).drop (i * c) = enc x ++ (xs.drop (i + 1)).flatMap enc:=by
 rw [← wE hc,List.drop_eq_getElem_cons (List.getElem?_eq_some_iff.1 h).1,List.flatMap_cons,(List.getElem?_eq_some_iff.1 h).2]
theorem Ow.at {w0 : World} {S : List (Option Nat)} {E : TypeId} {cap g i : Nat} {x : α} (hc : ∀ x,(enc x).length = c) (h : Ow w0 w S E c (Option.some ⟨g,0,none⟩) n cap (xs.flatMap enc)) (hx : xs[i]? = Option.some x) : jP w ((⟨g,0,none⟩ : Addr).add (i * c)) (enc x):=by
 intro j u hj;have hj' : j < (enc x).length:=(List.getElem?_eq_some_iff.1 hj).1;rw [iE];refine h.rows _ _ ?_;rw [← List.getElem?_drop,Lu hc hx,List.getElem?_append_left hj'];exact hj
theorem Ow.num {w0 : World} {S : List (Option Nat)} {E : TypeId} {cap : Nat} (hc : ∀ x,(enc x).length = c) (h0 : 0 < c) (h : Ow w0 w S E c A n cap (xs.flatMap enc)) : xs.length = n:=by
 have:=h.own.1;rw [iC hc] at this;exact Nat.eq_of_mul_eq_mul_right h0 this
theorem Ow.lat {w0 : World} {S : List (Option Nat)} {E : TypeId} {cap : Nat} (hc : ∀ x,(enc x).length = c) (h0 : 0 < c) (h : Ow w0 w S E c A n cap (xs.flatMap enc)) : sR enc c w A n xs :=
 ⟨h.num hc h0,fun i x hx=>by
  have hi:=(List.getElem?_eq_some_iff.1 hx).1;have hn:=h.num hc h0;obtain ⟨g,rfl⟩:=h.some (by omega);exact ⟨_,rfl,h.at hc hx⟩⟩
theorem sR.cells (hc : ∀ x,(enc x).length = c) (h0 : 0 < c) (h : sR enc c w A n xs) : ∀ j u,(xs.flatMap enc)[j]? = some u → ∃ a,A = some a ∧ w.cell? (a.add j) = some u:=fun j u hj=>by
 have hj':=(List.getElem?_eq_some_iff.1 hj).1;rw [iC hc] at hj';have hi : j / c < xs.length:=(Nat.div_lt_iff_lt_mul h0).2 hj';obtain ⟨a,rfl,hr⟩:=h.row (j / c) _ (List.getElem?_eq_getElem hi);refine ⟨a,rfl,?_⟩;have hm:=Nat.mod_lt j h0;have e : j = j / c * c + j % c:=by rw [Nat.mul_comm];exact (Nat.div_add_mod j c).symm
 have:=hr (j % c) u (by
  rw [e,← List.getElem?_drop,Lu hc (List.getElem?_eq_getElem hi),List.getElem?_append_left (by rw [hc];exact hm)] at hj;exact hj)
 rw [iE,← e] at this;exact this
theorem sR.cellsD (hc : ∀ x,(enc x).length = c) (h0 : 0 < c) (h : sR enc c w A n xs) {cap q : Nat} (hcap : n ≤ cap) : ∀ j u,((xs.drop q).flatMap enc)[j]? = some u → ∃ a,(if cap = q then A else A.map (·.add (q * c))) = some a ∧ w.cell? (a.add j) = some u:=fun j u hj=>by
 rw [wE hc,List.getElem?_drop] at hj;have hl:=(List.getElem?_eq_some_iff.1 hj).1;rw [iC hc,h.len] at hl;obtain ⟨a,rfl,hcl⟩:=h.cells hc h0 _ _ hj;have : q < n:=by
  refine Nat.lt_of_mul_lt_mul_right (a:=c) ?_;omega
 rw [if_neg (by omega)];exact ⟨_,rfl,by rw [iE];exact hcl⟩
end
theorem dN {α : Type} {ps : List α} {k : Nat} {p : α} (h : ps[k]? = some p) : ps.take (k + 1) = ps.take k ++ [p]:=by
 rw [List.take_add_one,h];rfl
abbrev E3:=P3 × P3
def bJ (e : E3) : List Value:=[.int .i64 e.1.x,.int .i64 e.1.y,.int .i64 e.1.z,.int .i64 e.2.x,.int .i64 e.2.y,.int .i64 e.2.z]
def ed (e : E3) : Value:=.agg #[.int .i64 e.1.x,.int .i64 e.1.y,.int .i64 e.1.z,.int .i64 e.2.x,.int .i64 e.2.y,.int .i64 e.2.z]
def wF (p : P3) : List Value:=[.int .i64 p.x,.int .i64 p.y,.int .i64 p.z]
theorem Di (es : List E3) : ∀ u ∈ es.flatMap bJ,u.oneCell' = true:=fun u hu=>by
 obtain ⟨e,_,h⟩:=List.mem_flatMap.1 hu;simp only[bJ,List.mem_cons,List.not_mem_nil,or_false] at h;rcases h with rfl | rfl | rfl | rfl | rfl | rfl <;> rfl
theorem Jj (ps : List P3) : ∀ u ∈ ps.flatMap wF,u.oneCell' = true:=fun u hu=>by
 obtain ⟨e,_,h⟩:=List.mem_flatMap.1 hu;simp only[wF,List.mem_cons,List.not_mem_nil,or_false] at h;rcases h with rfl | rfl | rfl <;> rfl
theorem adi (t : T3) : (aX t).length = 9:=rfl
theorem pR (e : E3) : (bJ e).length = 6:=rfl
theorem Lv (p : P3) : (wF p).length = 3:=rfl
def aP (ts : List T3) : List E3:=ts.flatMap fun t=>[(t.a,t.b),(t.b,t.c),(t.c,t.a)]
theorem oR {ts : List T3} {k : Nat} {t : T3} (h : ts[k]? = some t) : aP (ts.take (k + 1)) = aP (ts.take k) ++ [(t.a,t.b),(t.b,t.c),(t.c,t.a)]:=by
 unfold aP;rw [dN h,List.flatMap_append];simp
theorem lG (ts : List T3) : (aP ts).length = ts.length * 3:=mY ts fun _ _=>rfl
def iW (es : List E3) (e : E3) : Nat:=(es.filter fun x=>decide (x = e)).length
theorem Lw {es : List E3} {k : Nat} {x e : E3} (h : es[k]? = some x) : iW (es.take (k + 1)) e = iW (es.take k) e + if x = e then 1 else 0:=by
 unfold iW;rw [dN h,List.filter_append,List.length_append];by_cases hx : x = e <;> simp [hx]
theorem adj {es : List E3} {e : E3} : iW es e ≤ es.length:=List.length_filter_le _ _
end Go.Lith
namespace Go.Lith
open Go.RowKit
theorem adk {α : Type} {is : List α} {k : Nat} {i : α} (h : is[k]? = some i) : is.set k i = is:=by
 apply List.ext_getElem?;intro j;rw [List.getElem?_set];split
 · rename_i e
   subst e;rw [if_pos (List.getElem?_eq_some_iff.1 h).1,h]
 · rfl
theorem Hb {α : Type} : ∀ (l : List α) (j : Nat) (x : α),l[j]? = some x → (x :: l.eraseIdx j).Perm l
 | [],j,x,h=>by cases h
 | y :: l,0,x,h=>by cases h;exact .refl _
 | y :: l,j + 1,x,h=>((List.Perm.swap y x _)).trans ((Hb l j x h).cons y)
theorem bR.pull {w0 w : World} {is : List It} (m : bR w0 w is) (j : Nat) {x : It} (hj : is[j]? = some x) : bR w0 w (x :: is.eraseIdx j):=by
 have hp:=Hb is j x hj;exact ⟨m.ext,fun i hi=>m.all i (hp.mem_iff.1 hi),fun i hi=>m.ge i (hp.mem_iff.1 hi),(hp.pairwise_iff (fun {a b} (h : Ap a b)=>h.symm)).2 m.nd⟩
theorem bR.mv {w0 w : World} {is : List It} {y : It} (m : bR w0 w (y :: is)) (k : Nat) {x : It} (hk : is[k]? = some x) : bR w0 w (is.set k y):=by
 obtain ⟨h1,h2⟩:=List.pairwise_cons.1 m.nd;have hm : ∀ i ∈ is.set k y,i ∈ y :: is:=fun i hi=>(List.mem_or_eq_of_mem_set hi).elim (List.mem_cons_of_mem _) (fun e=>e ▸ List.mem_cons_self);exact ⟨m.ext,fun i hi=>m.all i (hm i hi),fun i hi=>m.ge i (hm i hi),Pd is k h2 hk fun x hx _=>h1 x hx⟩
theorem wG {α : Type} {a : α} {l : List α} : (a :: l).eraseIdx 0 = l:=rfl
theorem wH {α : Type} {a : α} {l : List α} {n : Nat} : (a :: l).eraseIdx (n + 1) = a :: l.eraseIdx n:=rfl
def SL (E : TypeId) (c : Nat) (cs : List Value) (n : Nat) (w : World) (v : Value) (w' : World) : Prop:=∃ A cap n',n' = n ∧ v = .slice A n' cap ∧ Ow w w' [] E c A n' cap cs
/-! ### Points put into a sorted list -/
def Ur (ps : List P3) (p : P3) : Nat:=(ps.takeWhile fun x=>decide (x.Lt p)).length
def gH (ps : List P3) (p : P3) : List P3:=if ps[Ur ps p]? = some p then ps else ps.take (Ur ps p) ++ [p] ++ ps.drop (Ur ps p)
def dR (ts : List T3) : List P3:=ts.foldl (fun ps t=>gH (gH (gH ps t.a) t.b) t.c) []
theorem xJ {ts : List T3} {k : Nat} {t : T3} (h : ts[k]? = some t) : dR (ts.take (k + 1)) = gH (gH (gH (dR (ts.take k)) t.a) t.b) t.c:=by
 unfold dR;rw [dN h,List.foldl_append];rfl
theorem qJ (ps : List P3) (p : P3) : (gH ps p).length ≤ ps.length + 1:=by
 unfold gH;split
 · omega
 · simp;omega
theorem As (ts : List T3) : (dR ts).length ≤ ts.length * 3:=by
 have : ∀ (ts : List T3) (ps : List P3),(ts.foldl (fun ps t=>gH (gH (gH ps t.a) t.b) t.c) ps).length ≤ ps.length + ts.length * 3:=by
  intro ts
  induction ts with
  | nil=>intro ps;simp
  | cons t ts ih =>
   intro ps;have h1:=ih (gH (gH (gH ps t.a) t.b) t.c);have h2:=qJ ps t.a;have h3:=qJ (gH ps t.a) t.b;have h4:=qJ (gH (gH ps t.a) t.b) t.c;rw [List.foldl_cons,List.length_cons];omega
 have:=this ts [];simpa [dR] using this
section
variable {α : Type} {p : α → Bool} {l : List α} {k : Nat}
theorem acE (h : ∀ j x,j < k → l[j]? = some x → p x = true) (hk : k ≤ l.length) : k ≤ (l.takeWhile p).length:=by
 induction l generalizing k with
 | nil=>simp at hk;omega
 | cons x l ih =>
  cases k with
  | zero=>omega
  | succ k =>
   have hx:=h 0 x (by omega) rfl;rw [List.takeWhile_cons,if_pos hx,List.length_cons];have:=ih (k:=k) (fun j y hj hy=>h (j + 1) y (by omega) (by simpa using hy)) (by simp at hk;omega);omega
theorem aeQ {x : α} (hx : l[k]? = some x) (h : p x = false) : (l.takeWhile p).length ≤ k:=by
 induction l generalizing k with
 | nil=>cases hx
 | cons y l ih =>
  rw [List.takeWhile_cons];split
  · cases k with
    | zero =>
     rename_i hy;cases hx;rw [h] at hy;cases hy
    | succ k =>
     rw [List.length_cons];have:=ih (k:=k) (by simpa using hx);omega
  · simp
theorem adl : (l.takeWhile p).length ≤ l.length:=(List.takeWhile_sublist p).length_le
theorem acF {x : α} (h : ∀ j x,j < k → l[j]? = some x → p x = true) (hx : l[k]? = some x) (h2 : p x = false) : (l.takeWhile p).length = k:=Nat.le_antisymm (aeQ hx h2) (acE h (Nat.le_of_lt (List.getElem?_eq_some_iff.1 hx).1))
theorem Yy (h : ∀ j x,j < l.length → l[j]? = some x → p x = true) : (l.takeWhile p).length = l.length:=Nat.le_antisymm adl (acE h (Nat.le_refl _))
def Pre (p : α → Bool) (l : List α) (k : Nat) : Prop:=∀ j x,j < k → l[j]? = some x → p x = true
theorem Pre.zero : Pre p l 0:=fun j _ hj=>by omega
theorem Pre.step {x : α} (h : Pre p l k) (hx : l[k]? = some x) (hp : p x = true) : Pre p l (k + 1):=fun j y hj hy=>by
 rcases Nat.lt_or_ge j k with h1 | h1
 · exact h j y h1 hy
 · obtain rfl : j = k:=by omega
   rw [hx] at hy;cases hy;exact hp
end
/-! ### The border -/
def Rw (a b : E3) : Bool:=if a.1 ≠ b.1 then decide (a.1.Lt b.1) else decide (a.2.Lt b.2)
def Us (es : List E3) (e : E3) : Nat:=(es.takeWhile fun x=>Rw x e).length
def Pj (es : List E3) (e : E3) : List E3:=es.take (Us es e) ++ [e] ++ es.drop (Us es e)
def lZ (all : List E3) (out : List E3) (e : E3) : List E3:=if 0 < iW all (e.2,e.1) ∨ 0 < iW out e then out else Pj out e
def aR (ts : List T3) : List E3:=(aP ts).foldl (lZ (aP ts)) []
theorem Ut {all es : List E3} {k : Nat} {e : E3} (h : es[k]? = some e) : (es.take (k + 1)).foldl (lZ all) [] = lZ all ((es.take k).foldl (lZ all) []) e:=by
 rw [dN h,List.foldl_append];rfl
theorem tN {all : List E3} : ∀ (es out : List E3),(es.foldl (lZ all) out).length ≤ out.length + es.length
 | [],out=>by simp
 | e :: es,out=>by
  have h1:=tN (all:=all) es (lZ all out e);have h2 : (lZ all out e).length ≤ out.length + 1:=by
   unfold lZ Pj;split
   · omega
   · simp;omega
  rw [List.foldl_cons,List.length_cons];omega
/-! ### Pinched corners -/
def T3.fnd (t : T3) (p q : P3) : Option P3:=if t.a = p ∧ t.b = q then some t.c else if t.b = p ∧ t.c = q then some t.a else if t.c = p ∧ t.a = q then some t.b else none
def bD : List T3 → P3 → P3 → Option P3
 | [],_,_=>none
 | t :: ts,p,q=>match t.fnd p q with
  | some x=>some x
  | none=>bD ts p q
theorem mZ {ts : List T3} {k : Nat} {t : T3} {p q : P3} (h : ts[k]? = some t) (h0 : bD (ts.take k) p q = none) : bD (ts.take (k + 1)) p q = t.fnd p q:=by
 rw [dN h];clear h;generalize ts.take k = us at h0 ⊢
 induction us with
 | nil=>simp only[List.nil_append,bD];cases t.fnd p q <;> rfl
 | cons u us ih =>
  rw [List.cons_append];simp only[bD] at h0 ⊢;cases hu : u.fnd p q with
  | some x=>rw [hu] at h0;cases h0
  | none=>rw [hu] at h0;exact ih h0
theorem tO {ts : List T3} {k : Nat} {p q x : P3} (h : bD (ts.take k) p q = some x) : bD ts p q = some x:=by
 induction ts generalizing k with
 | nil=>simp [bD] at h
 | cons u us ih =>
  cases k with
  | zero=>simp [bD] at h
  | succ k =>
   rw [List.take_succ_cons] at h;unfold bD at h ⊢;cases hu : u.fnd p q with
   | some y=>rw [hu] at h;exact h
   | none=>rw [hu] at h;exact ih h
def Dj (p : P3) (t : T3) (c : Nat) : List T3:=if t.cor c = p then [t] else []
def qK (p : P3) (t : T3) (c : Nat) : List T3:=(List.range c).flatMap (Dj p t)
def kH (ts : List T3) (p : P3) : List T3:=ts.flatMap fun t=>qK p t 3
def Dk (p : P3) (t : T3) (c : Nat) : List P3:=if t.cor c = p then [t.cor ((c + 1) % 3)] else []
def tP (p : P3) (t : T3) (c : Nat) : List P3:=(List.range c).flatMap (Dk p t)
def oS (ts : List T3) (p : P3) : List P3:=ts.flatMap fun t=>tP p t 3
theorem Dl (p : P3) (t : T3) (c : Nat) : qK p t (c + 1) = qK p t c ++ Dj p t c:=by simp [qK,List.range_succ]
theorem Au (p : P3) (t : T3) (c : Nat) : tP p t (c + 1) = tP p t c ++ Dk p t c:=by simp [tP,List.range_succ]
theorem Uu {ts : List T3} {k : Nat} {t : T3} {p : P3} (h : ts[k]? = some t) : kH (ts.take (k + 1)) p = kH (ts.take k) p ++ qK p t 3:=by
 unfold kH;rw [dN h,List.flatMap_append];simp
theorem Pk {ts : List T3} {k : Nat} {t : T3} {p : P3} (h : ts[k]? = some t) : oS (ts.take (k + 1)) p = oS (ts.take k) p ++ tP p t 3:=by
 unfold oS;rw [dN h,List.flatMap_append];simp
def vR (ts : List T3) (p : P3) (k : Nat) (t : T3) (c : Nat) : List T3:=kH (ts.take k) p ++ qK p t c
def pS (ts : List T3) (p : P3) (k : Nat) (t : T3) (c : Nat) : List P3:=oS (ts.take k) p ++ tP p t c
theorem Uv {ts : List T3} {p : P3} {k c : Nat} {t : T3} (h : t.cor c = p) : vR ts p k t (c + 1) = vR ts p k t c ++ [t]:=by
 unfold vR;rw [Dl,Dj,if_pos h,List.append_assoc]
theorem Yz {ts : List T3} {p : P3} {k c : Nat} {t : T3} (h : ¬ t.cor c = p) : vR ts p k t (c + 1) = vR ts p k t c:=by
 unfold vR;rw [Dl,Dj,if_neg h,List.append_nil]
theorem Pm {ts : List T3} {p : P3} {k c : Nat} {t : T3} (h : t.cor c = p) : pS ts p k t (c + 1) = pS ts p k t c ++ [t.cor ((c + 1) % 3)]:=by
 unfold pS;rw [Au,Dk,if_pos h,List.append_assoc]
theorem Uw {ts : List T3} {p : P3} {k c : Nat} {t : T3} (h : ¬ t.cor c = p) : pS ts p k t (c + 1) = pS ts p k t c:=by
 unfold pS;rw [Au,Dk,if_neg h,List.append_nil]
theorem abA {ts : List T3} {p : P3} {k : Nat} {t : T3} : vR ts p k t 0 = kH (ts.take k) p:=by simp [vR,qK]
theorem Za {ts : List T3} {p : P3} {k : Nat} {t : T3} : pS ts p k t 0 = oS (ts.take k) p:=by simp [pS,tP]
theorem abB {ts : List T3} {p : P3} {k : Nat} {t : T3} (h : ts[k]? = some t) : vR ts p k t 3 = kH (ts.take (k + 1)) p:=by rw [Uu h];rfl
theorem Zb {ts : List T3} {p : P3} {k : Nat} {t : T3} (h : ts[k]? = some t) : pS ts p k t 3 = oS (ts.take (k + 1)) p:=by rw [Pk h];rfl
theorem iX {x y : P3} : (x.x = y.x ∧ x.y = y.y ∧ x.z = y.z) ↔ x = y:=⟨fun h=>P3.eq h.1 h.2.1 h.2.2,fun h=>by rw [h];exact ⟨rfl,rfl,rfl⟩⟩
theorem rR {x y u v : P3} : (decide (x.x = y.x ∧ x.y = y.y ∧ x.z = y.z) && decide (u.x = v.x ∧ u.y = v.y ∧ u.z = v.z)) = true ↔ x = y ∧ u = v:=by
 rw [Bool.and_eq_true,decide_eq_true_eq,decide_eq_true_eq,iX,iX]
theorem yW {x y u v : P3} (h : (decide (x.x = y.x ∧ x.y = y.y ∧ x.z = y.z) && decide (u.x = v.x ∧ u.y = v.y ∧ u.z = v.z)) = false) : ¬ (x = y ∧ u = v):=fun k=>by
 rw [rR.2 k] at h;cases h
theorem aeR {t : T3} {p q : P3} (h : t.cor 0 = p ∧ t.cor 1 = q) : t.fnd p q = some (t.cor 2):=if_pos h
theorem aeS {t : T3} {p q : P3} (h0 : ¬ (t.cor 0 = p ∧ t.cor 1 = q)) (h : t.cor 1 = p ∧ t.cor 2 = q) : t.fnd p q = some (t.cor 0):=(if_neg h0).trans (if_pos h)
theorem aeT {t : T3} {p q : P3} (h0 : ¬ (t.cor 0 = p ∧ t.cor 1 = q)) (h1 : ¬ (t.cor 1 = p ∧ t.cor 2 = q)) (h : t.cor 2 = p ∧ t.cor 0 = q) : t.fnd p q = some (t.cor 1):=(if_neg h0).trans ((if_neg h1).trans (if_pos h))
theorem aeU {t : T3} {p q : P3} (h0 : ¬ (t.cor 0 = p ∧ t.cor 1 = q)) (h1 : ¬ (t.cor 1 = p ∧ t.cor 2 = q)) (h2 : ¬ (t.cor 2 = p ∧ t.cor 0 = q)) : t.fnd p q = none:=(if_neg h0).trans ((if_neg h1).trans (if_neg h2))
def kI (ms : List T3) (p s : P3) : Nat → P3 → Bool
 | 0,_=>false
 | n + 1,at_=>match bD ms p at_ with
  | none=>false
  | some x=>if x = s then true else kI ms p s n x
theorem Hd {ms : List T3} {p s x : P3} {n : Nat} (h : bD ms p x = none) : kI ms p s n x = false:=by
 cases n with
 | zero=>rfl
 | succ n=>simp only[kI,h]
theorem Lx {ms : List T3} {p s x : P3} {n : Nat} (h : bD ms p x = some s) : kI ms p s (n + 1) x = true:=by simp [kI,h]
theorem He {ms : List T3} {p s x y : P3} {n : Nat} (h : bD ms p x = some y) (hy : ¬ y = s) : kI ms p s (n + 1) x = kI ms p s n y:=by simp [kI,h,hy]
def xK (ts : List T3) (p : P3) : Bool:=(oS ts p).any fun s=>kI (kH ts p) p s ((kH ts p).length - 1) s
def jN (t : T3) : Bool:=decide (t.a = t.b) || decide (t.b = t.c) || decide (t.c = t.a)
theorem Jk {t : T3} : (decide (t.a.x = t.b.x ∧ t.a.y = t.b.y ∧ t.a.z = t.b.z) || decide (t.b.x = t.c.x ∧ t.b.y = t.c.y ∧ t.b.z = t.c.z) || decide (t.c.x = t.a.x ∧ t.c.y = t.a.y ∧ t.c.z = t.a.z)) = jN t:=by
 simp only[iX,jN]
def cV (op : Bool) (ts : List T3) : Int :=
 if ts.any jN then 20 else if (aP ts).any (fun e=>decide (1 < iW (aP ts) e)) then 21
 else if !op && decide (0 < (aR ts).length) then 22 else if (dR ts).any (xK ts) then 23 else 0
theorem nA {α : Type} {p : α → Bool} {l : List α} {k : Nat} {x : α} (hx : l[k]? = some x) : (l.take (k + 1)).any p = ((l.take k).any p || p x):=by
 rw [dN hx,List.any_append];simp
theorem rS {α : Type} {p : α → Bool} {l : List α} {k : Nat} {x : α} (hx : l[k]? = some x) (h : p x = true) : l.any p = true:=List.any_eq_true.2 ⟨x,List.mem_of_getElem? hx,h⟩
end Go.Lith
namespace Go.Proofs.YtfohfflkhpfjeaaGreatDoor
open Go.Proofs.Tryz
open Go.RowKit Go.Lith
abbrev yX:=@underlying126
abbrev iO:=@underlying143
abbrev pT:=@underlying153
abbrev xL:=@underlying22
abbrev vS:=@underlying23
abbrev Hf:=@underlying25
abbrev bZ:=@underlying29
abbrev kJ:=@underlying3
abbrev jG:=@underlying30
abbrev Zc:=@underlying4
abbrev fL:=@underlying41
abbrev cN:=@underlying48
abbrev iL:=@underlying50
abbrev bL:=@underlying53
abbrev jH:=@underlying57
abbrev kK:=@underlying65
abbrev gY:=@underlying73
abbrev Dm:=@underlying76
abbrev Dn:=@underlying77
abbrev sS:=@underlying9
abbrev jI:=@underlying98
set_option maxRecDepth 100000
theorem aO : prog.follows .mixedOrders = true:=by kernel_rfl
theorem agp : bE prog 6:=⟨_,func6,by kernel_rfl,by kernel_rfl⟩
theorem aeV : bE prog 11:=⟨_,func11,by kernel_rfl,by kernel_rfl⟩
theorem aeW : bE prog 12:=⟨_,func12,by kernel_rfl,by kernel_rfl⟩
theorem aeX : bE prog 16:=⟨_,func16,by kernel_rfl,by kernel_rfl⟩
theorem aeY : bE prog 17:=⟨_,func17,by kernel_rfl,by kernel_rfl⟩
theorem aeZ : bE prog 18:=⟨_,func18,by kernel_rfl,by kernel_rfl⟩
theorem ae0 : bE prog 19:=⟨_,func19,by kernel_rfl,by kernel_rfl⟩
theorem ae1 : bE prog 20:=⟨_,func20,by kernel_rfl,by kernel_rfl⟩
theorem ae2 : bE prog 21:=⟨_,func21,by kernel_rfl,by kernel_rfl⟩
theorem ae3 : bE prog 22:=⟨_,func22,by kernel_rfl,by kernel_rfl⟩
theorem ae4 : bE prog 23:=⟨_,func23,by kernel_rfl,by kernel_rfl⟩
theorem ae5 : bE prog 29:=⟨_,func29,by kernel_rfl,by kernel_rfl⟩
theorem ae6 : bE prog 30:=⟨_,func30,by kernel_rfl,by kernel_rfl⟩
theorem ae7 : bE prog 31:=⟨_,func31,by kernel_rfl,by kernel_rfl⟩
theorem ae8 : bE prog 32:=⟨_,func32,by kernel_rfl,by kernel_rfl⟩
theorem ae9 : bE prog 33:=⟨_,func33,by kernel_rfl,by kernel_rfl⟩
theorem afa : bE prog 34:=⟨_,func34,by kernel_rfl,by kernel_rfl⟩
theorem afb : bE prog 35:=⟨_,func35,by kernel_rfl,by kernel_rfl⟩
theorem afc : bE prog 36:=⟨_,func36,by kernel_rfl,by kernel_rfl⟩
theorem afd : bE prog 37:=⟨_,func37,by kernel_rfl,by kernel_rfl⟩
theorem afe : bE prog 38:=⟨_,func38,by kernel_rfl,by kernel_rfl⟩
theorem aff : bE prog 39:=⟨_,func39,by kernel_rfl,by kernel_rfl⟩
theorem afg : bE prog 40:=⟨_,func40,by kernel_rfl,by kernel_rfl⟩
theorem afh : bE prog 41:=⟨_,func41,by kernel_rfl,by kernel_rfl⟩
theorem afi : bE prog 42:=⟨_,func42,by kernel_rfl,by kernel_rfl⟩
theorem afj : bE prog 43:=⟨_,func43,by kernel_rfl,by kernel_rfl⟩
theorem afk : bE prog 54:=⟨_,func54,by kernel_rfl,by kernel_rfl⟩
theorem afl : bE prog 63:=⟨_,func63,by kernel_rfl,by kernel_rfl⟩
theorem afm : bE prog 64:=⟨_,func64,by kernel_rfl,by kernel_rfl⟩
theorem afn : bE prog 65:=⟨_,func65,by kernel_rfl,by kernel_rfl⟩
theorem afo : bE prog 66:=⟨_,func66,by kernel_rfl,by kernel_rfl⟩
theorem afp : bE prog 67:=⟨_,func67,by kernel_rfl,by kernel_rfl⟩
theorem afq : bE prog 68:=⟨_,func68,by kernel_rfl,by kernel_rfl⟩
theorem afr : bE prog 69:=⟨_,func69,by kernel_rfl,by kernel_rfl⟩
theorem afs : bE prog 70:=⟨_,func70,by kernel_rfl,by kernel_rfl⟩
theorem aft : bE prog 71:=⟨_,func71,by kernel_rfl,by kernel_rfl⟩
theorem afu : bE prog 72:=⟨_,func72,by kernel_rfl,by kernel_rfl⟩
theorem afv : bE prog 73:=⟨_,func73,by kernel_rfl,by kernel_rfl⟩
theorem afw : bE prog 74:=⟨_,func74,by kernel_rfl,by kernel_rfl⟩
theorem afx : bE prog 75:=⟨_,func75,by kernel_rfl,by kernel_rfl⟩
theorem afy : bE prog 76:=⟨_,func76,by kernel_rfl,by kernel_rfl⟩
theorem afz : bE prog 77:=⟨_,func77,by kernel_rfl,by kernel_rfl⟩
theorem afA : bE prog 78:=⟨_,func78,by kernel_rfl,by kernel_rfl⟩
theorem afB : bE prog 79:=⟨_,func79,by kernel_rfl,by kernel_rfl⟩
theorem afC : bE prog 80:=⟨_,func80,by kernel_rfl,by kernel_rfl⟩
theorem afD : bE prog 81:=⟨_,func81,by kernel_rfl,by kernel_rfl⟩
theorem afE : bE prog 82:=⟨_,func82,by kernel_rfl,by kernel_rfl⟩
theorem afF : bE prog 83:=⟨_,func83,by kernel_rfl,by kernel_rfl⟩
theorem afG : bE prog 84:=⟨_,func84,by kernel_rfl,by kernel_rfl⟩
theorem afH : bE prog 85:=⟨_,func85,by kernel_rfl,by kernel_rfl⟩
theorem afI : bE prog 88:=⟨_,func88,by kernel_rfl,by kernel_rfl⟩
theorem afJ : bE prog 96:=⟨_,func96,by kernel_rfl,by kernel_rfl⟩
theorem Jl : bE prog 100:=⟨_,func100,by kernel_rfl,by kernel_rfl⟩
theorem adm : bE prog 101:=⟨_,func101,by kernel_rfl,by kernel_rfl⟩
theorem adn : bE prog 102:=⟨_,func102,by kernel_rfl,by kernel_rfl⟩
theorem ado : bE prog 103:=⟨_,func103,by kernel_rfl,by kernel_rfl⟩
theorem adp : bE prog 104:=⟨_,func104,by kernel_rfl,by kernel_rfl⟩
theorem adq : bE prog 105:=⟨_,func105,by kernel_rfl,by kernel_rfl⟩
theorem adr : bE prog 106:=⟨_,func106,by kernel_rfl,by kernel_rfl⟩
theorem ads : bE prog 107:=⟨_,func107,by kernel_rfl,by kernel_rfl⟩
theorem adt : bE prog 108:=⟨_,func108,by kernel_rfl,by kernel_rfl⟩
theorem Pn : bE prog 109:=⟨_,func109,by kernel_rfl,by kernel_rfl⟩
theorem adu : bE prog 110:=⟨_,func110,by kernel_rfl,by kernel_rfl⟩
theorem Zd : bE prog 111:=⟨_,func111,by kernel_rfl,by kernel_rfl⟩
theorem adv : bE prog 112:=⟨_,func112,by kernel_rfl,by kernel_rfl⟩
theorem adw : bE prog 113:=⟨_,func113,by kernel_rfl,by kernel_rfl⟩
theorem adx : bE prog 114:=⟨_,func114,by kernel_rfl,by kernel_rfl⟩
theorem ady : bE prog 115:=⟨_,func115,by kernel_rfl,by kernel_rfl⟩
theorem adz : bE prog 116:=⟨_,func116,by kernel_rfl,by kernel_rfl⟩
theorem adA : bE prog 117:=⟨_,func117,by kernel_rfl,by kernel_rfl⟩
theorem adB : bE prog 118:=⟨_,func118,by kernel_rfl,by kernel_rfl⟩
theorem adC : bE prog 119:=⟨_,func119,by kernel_rfl,by kernel_rfl⟩
theorem adD : bE prog 120:=⟨_,func120,by kernel_rfl,by kernel_rfl⟩
theorem adE : bE prog 121:=⟨_,func121,by kernel_rfl,by kernel_rfl⟩
theorem adF : bE prog 123:=⟨_,func123,by kernel_rfl,by kernel_rfl⟩
theorem adG : bE prog 124:=⟨_,func124,by kernel_rfl,by kernel_rfl⟩
theorem Jm : bE prog 125:=⟨_,func125,by kernel_rfl,by kernel_rfl⟩
theorem adH : bE prog 126:=⟨_,func126,by kernel_rfl,by kernel_rfl⟩
theorem adI : bE prog 127:=⟨_,func127,by kernel_rfl,by kernel_rfl⟩
theorem adJ : bE prog 128:=⟨_,func128,by kernel_rfl,by kernel_rfl⟩
theorem Ze : bE prog 129:=⟨_,func129,by kernel_rfl,by kernel_rfl⟩
theorem Zf : bE prog 130:=⟨_,func130,by kernel_rfl,by kernel_rfl⟩
theorem Zg : bE prog 131:=⟨_,func131,by kernel_rfl,by kernel_rfl⟩
theorem adK : bE prog 132:=⟨_,func132,by kernel_rfl,by kernel_rfl⟩
theorem adL : bE prog 133:=⟨_,func133,by kernel_rfl,by kernel_rfl⟩
theorem adM : bE prog 134:=⟨_,func134,by kernel_rfl,by kernel_rfl⟩
theorem adN : bE prog 135:=⟨_,func135,by kernel_rfl,by kernel_rfl⟩
theorem adO : bE prog 136:=⟨_,func136,by kernel_rfl,by kernel_rfl⟩
theorem adP : bE prog 137:=⟨_,func137,by kernel_rfl,by kernel_rfl⟩
theorem adQ : bE prog 138:=⟨_,func138,by kernel_rfl,by kernel_rfl⟩
theorem adR : bE prog 142:=⟨_,func142,by kernel_rfl,by kernel_rfl⟩
theorem adS : bE prog 144:=⟨_,func144,by kernel_rfl,by kernel_rfl⟩
theorem bA : dW prog 3 1:=dQ (by kernel_rfl)
theorem bQ : fR prog 3 false:=eB _ kJ rfl
theorem kX : lO prog 3 (.int .i64 0):=iF (by kernel_rfl)
theorem jQ : dW prog 4 1:=dQ (by kernel_rfl)
theorem oT : fR prog 4 false:=eB _ Zc rfl
theorem kY : lO prog 4 (.bool false):=iF (by kernel_rfl)
theorem afK : (prog.info? 5).map (fun i=>(i.size,i.bytes,i.zero)) = some (1,1,some (.int .u8 0)):=by kernel_rfl
theorem xM : dW prog 9 1:=dQ (by kernel_rfl)
theorem Hg : fR prog 9 false:=eB _ sS rfl
theorem Zh : dW prog 22 1:=dQ (by kernel_rfl)
theorem adT : fR prog 22 false:=eB _ xL rfl
theorem Zi : dW prog 23 1:=dQ (by kernel_rfl)
theorem adU : fR prog 23 false:=eB _ vS rfl
theorem Zj : dW prog 25 4:=dQ (by kernel_rfl)
theorem adV : fR prog 25 true:=eB _ Hf rfl
theorem xN : dW prog 26 3:=dQ (by kernel_rfl)
theorem abC : lO prog 26 (.agg #[.int .i64 0,.int .i64 0,.int .i64 0]):=iF (by kernel_rfl)
theorem iG : dW prog 29 1:=dQ (by kernel_rfl)
theorem mL : fR prog 29 false:=eB _ bZ rfl
theorem tQ : dW prog 30 1:=dQ (by kernel_rfl)
theorem Jn : fR prog 30 false:=eB _ jG rfl
theorem nB : dW prog 41 1:=dQ (by kernel_rfl)
theorem Do : fR prog 41 false:=eB _ fL rfl
theorem aC : dW prog 48 3:=dQ (by kernel_rfl)
theorem aI : fR prog 48 true:=eB _ cN rfl
theorem bP : lO prog 48 (.agg #[.int .i64 0,.int .i64 0,.int .i64 0]):=iF (by kernel_rfl)
theorem tR : (prog.info? 48).map (fun i=>(i.size,i.bytes,i.zero)) = some (3,24,some (.agg #[.int .i64 0,.int .i64 0,.int .i64 0])):=by kernel_rfl
theorem eH : dW prog 50 6:=dQ (by kernel_rfl)
theorem tS : fR prog 50 true:=eB _ iL rfl
theorem rT : lO prog 50 (.agg #[.int .i64 0,.int .i64 0,.int .i64 0,.int .i64 0,.int .i64 0,.int .i64 0]):=iF (by kernel_rfl)
theorem yY : (prog.info? 50).map (fun i=>(i.size,i.bytes,i.zero)) = some (6,48,some (.agg #[.int .i64 0,.int .i64 0,.int .i64 0,.int .i64 0,.int .i64 0,.int .i64 0])):=by kernel_rfl
theorem aU : dW prog 53 9:=dQ (by kernel_rfl)
theorem eQ : fR prog 53 true:=eB _ bL rfl
theorem iY : lO prog 53 (.agg #[.int .i64 0,.int .i64 0,.int .i64 0,.int .i64 0,.int .i64 0,.int .i64 0,.int .i64 0,.int .i64 0,.int .i64 0]):=iF (by kernel_rfl)
theorem nM : (prog.info? 53).map (fun i=>(i.size,i.bytes,i.zero)) = some (9,72,some (.agg #[.int .i64 0,.int .i64 0,.int .i64 0,.int .i64 0,.int .i64 0,.int .i64 0,.int .i64 0,.int .i64 0,.int .i64 0])):=by kernel_rfl
theorem cE : dW prog 57 6:=dQ (by kernel_rfl)
theorem jV : fR prog 57 true:=eB _ jH rfl
theorem rU : lO prog 57 (.agg #[.int .i64 0,.int .i64 0,.int .i64 0,.int .i64 0,.int .i64 0,.int .i64 0]):=iF (by kernel_rfl)
theorem tU : (prog.info? 57).map (fun i=>(i.size,i.bytes,i.zero)) = some (6,48,some (.agg #[.int .i64 0,.int .i64 0,.int .i64 0,.int .i64 0,.int .i64 0,.int .i64 0])):=by kernel_rfl
theorem bB : dW prog 65 2:=dQ (by kernel_rfl)
theorem dV : fR prog 65 true:=eB _ kK rfl
theorem jR : lO prog 65 (.agg #[.bool false,.string ⟨#[]⟩]):=iF (by kernel_rfl)
theorem xO : dW prog 71 1:=dQ (by kernel_rfl)
theorem Po : fR prog 71 false:=eB _ underlying71 rfl
theorem abD : lO prog 73 (.agg #[.slice none 0 0,.slice none 0 0,.slice none 0 0,.slice none 0 0,.map none,.int .i64 0]):=iF (by kernel_rfl)
theorem qL : dW prog 74 1:=dQ (by kernel_rfl)
theorem Dp : fR prog 74 false:=eB _ underlying74 rfl
theorem gV : dW prog 76 1:=dQ (by kernel_rfl)
theorem Dq : fR prog 76 true:=eB _ Dm rfl
theorem uU : lO prog 76 (.agg #[.nilFunc]):=iF (by kernel_rfl)
theorem qM : dW prog 80 4:=dQ (by kernel_rfl)
theorem Ux : dW prog 115 18:=dQ (by kernel_rfl)
theorem Ly : lO prog 115 (.agg #[.int .i64 0,.int .i64 0,.int .i64 0,.int .i64 0,.int .i64 0,.int .i64 0,.int .i64 0,.int .i64 0,.int .i64 0,.int .i64 0,.int .i64 0,.int .i64 0,.int .i64 0,.int .i64 0,.int .i64 0,.int .i64 0,.int .i64 0,.int .i64 0]):=iF (by kernel_rfl)
theorem aV : dW prog 126 1:=dQ (by kernel_rfl)
theorem eC : fR prog 126 false:=eB _ yX rfl
theorem kT : (prog.info? 126).map (fun i=>(i.size,i.bytes,i.zero)) = some (1,8,some (.int .u64 0)):=by kernel_rfl
theorem Uy : dW prog 131 1:=dQ (by kernel_rfl)
theorem abE : fR prog 131 false:=eB _ underlying131 rfl
theorem Zk : lO prog 131 (.slice none 0 0):=iF (by kernel_rfl)
theorem dJ : dW prog 143 6:=dQ (by kernel_rfl)
theorem iZ : fR prog 143 true:=eB _ iO rfl
theorem mA : lO prog 143 (.agg #[.int .i64 0,.int .i64 0,.int .i64 0,.int .i64 0,.int .i64 0,.int .i64 0]):=iF (by kernel_rfl)
theorem abF : (prog.info? 143).map (fun i=>(i.size,i.bytes,i.zero)) = some (6,48,some (.agg #[.int .i64 0,.int .i64 0,.int .i64 0,.int .i64 0,.int .i64 0,.int .i64 0])):=by kernel_rfl
theorem uV : dW prog 149 1:=dQ (by kernel_rfl)
theorem Jo : fR prog 149 false:=eB _ underlying149 rfl
theorem uW : dW prog 150 3:=dQ (by kernel_rfl)
theorem Rx : fR prog 150 true:=eB _ underlying150 rfl
theorem Dr : lO prog 150 (.agg #[.nilFunc,.nilFunc,.nilFunc]):=iF (by kernel_rfl)
theorem oH : dW prog 153 6:=dQ (by kernel_rfl)
theorem Bz : fR prog 153 true:=eB _ pT rfl
theorem Ds : lO prog 153 (.agg #[.bool false,.string ⟨#[]⟩,.bool false,.string ⟨#[]⟩,.bool false,.string ⟨#[]⟩]):=iF (by kernel_rfl)
theorem Zl : lO prog 166 (.agg #[.int .i64 0,.int .i64 0,.int .i64 0,.int .i64 0,.int .i64 0,.int .i64 0,.int .i64 0,.int .i64 0,.int .i64 0,.int .i64 0,.int .i64 0,.int .i64 0,.int .i64 0,.int .i64 0,.int .i64 0,.int .i64 0,.int .i64 0,.int .i64 0,.int .i64 0,.int .i64 0,.int .i64 0,.int .i64 0,.int .i64 0,.int .i64 0]):=iF (by kernel_rfl)
theorem Hh : dW prog 169 18:=dQ (by kernel_rfl)
theorem abG : fR prog 169 true:=eB _ underlying169 rfl
theorem Lz : lO prog 169 (.agg #[.int .i64 0,.int .i64 0,.int .i64 0,.int .i64 0,.int .i64 0,.int .i64 0,.int .i64 0,.int .i64 0,.int .i64 0,.int .i64 0,.int .i64 0,.int .i64 0,.int .i64 0,.int .i64 0,.int .i64 0,.int .i64 0,.int .i64 0,.int .i64 0]):=iF (by kernel_rfl)
theorem Pp {v0 v1 v2 : Value} {c0_0 : Value} (h0 : v0.cells = #[c0_0]) {c1_0 : Value} (h1 : v1.cells = #[c1_0]) {c2_0 : Value} (h2 : v2.cells = #[c2_0])  (w : World) : (Instr.build 26 #[(0,v0),(1,v1),(2,v2)]).run prog w = .ok (.agg #[c0_0,c1_0,c2_0]) w:=iA underlying26 abC bA (by simp [Instr.fill,eK,h0,h1,h2]) w
theorem gR {l : List Value} {ty : TypeId} {x0 x1 x2 : Operand} {c0_0 : Value} (h0 : (ev l x0).cells = #[c0_0]) {c1_0 : Value} (h1 : (ev l x1).cells = #[c1_0]) {c2_0 : Value} (h2 : (ev l x2).cells = #[c2_0]) : gE prog l (.build 26 #[(0,x0),(1,x1),(2,x2)]) ty (.agg #[c0_0,c1_0,c2_0]):=gW (vs:=#[(0,ev l x0),(1,ev l x1),(2,ev l x2)]) (by simp) fun w=>Pp h0 h1 h2 w
theorem qN (w : World) : ((#[{ name := "X", type:=3,offset:=0,embedded:=false,tag := "", pkgPath := "", byteOffset:=0 },{ name := "Y", type:=3,offset:=1,embedded:=false,tag := "", pkgPath := "", byteOffset:=8 },{ name := "Z", type:=3,offset:=2,embedded:=false,tag := "", pkgPath := "", byteOffset:=16 }] : Array Field).mapM fun f=>do pure (f.offset,← sizeOf f.type) : Sem (Array (Nat × Nat))).run prog w = .ok #[(0,1),(1,1),(2,1)] w:=by
 simp [Array.mapM_eq_mapM_toList,eW bA]
theorem afL  (w : World) : (Instr.build 48 #[]).run prog w = .ok (.agg #[(.int .i64 0),(.int .i64 0),(.int .i64 0)]) w:=dH cN bP qN (by simp [Instr.fill,eK]) w
theorem Ma {l : List Value} {ty : TypeId}  : gE prog l (.build 48 #[]) ty (.agg #[(.int .i64 0),(.int .i64 0),(.int .i64 0)]):=gW (vs:=#[]) (by simp) fun w=>afL  w
theorem adW {v0 : Value} {c0_0 : Value} (h0 : v0.cells = #[c0_0])  (w : World) : (Instr.build 48 #[(0,v0)]).run prog w = .ok (.agg #[c0_0,(.int .i64 0),(.int .i64 0)]) w:=dH cN bP qN (by simp [Instr.fill,eK,h0]) w
theorem rV {l : List Value} {ty : TypeId} {x0 : Operand} {c0_0 : Value} (h0 : (ev l x0).cells = #[c0_0]) : gE prog l (.build 48 #[(0,x0)]) ty (.agg #[c0_0,(.int .i64 0),(.int .i64 0)]):=gW (vs:=#[(0,ev l x0)]) (by simp) fun w=>adW h0 w
theorem Pq {v0 v1 v2 : Value} {c0_0 : Value} (h0 : v0.cells = #[c0_0]) {c1_0 : Value} (h1 : v1.cells = #[c1_0]) {c2_0 : Value} (h2 : v2.cells = #[c2_0])  (w : World) : (Instr.build 48 #[(0,v0),(1,v1),(2,v2)]).run prog w = .ok (.agg #[c0_0,c1_0,c2_0]) w:=dH cN bP qN (by simp [Instr.fill,eK,h0,h1,h2]) w
theorem cB {l : List Value} {ty : TypeId} {x0 x1 x2 : Operand} {c0_0 : Value} (h0 : (ev l x0).cells = #[c0_0]) {c1_0 : Value} (h1 : (ev l x1).cells = #[c1_0]) {c2_0 : Value} (h2 : (ev l x2).cells = #[c2_0]) : gE prog l (.build 48 #[(0,x0),(1,x1),(2,x2)]) ty (.agg #[c0_0,c1_0,c2_0]):=gW (vs:=#[(0,ev l x0),(1,ev l x1),(2,ev l x2)]) (by simp) fun w=>Pq h0 h1 h2 w
theorem adX {v1 : Value} {c1_0 : Value} (h1 : v1.cells = #[c1_0])  (w : World) : (Instr.build 48 #[(1,v1)]).run prog w = .ok (.agg #[(.int .i64 0),c1_0,(.int .i64 0)]) w:=dH cN bP qN (by simp [Instr.fill,eK,h1]) w
theorem Jp {l : List Value} {ty : TypeId} {x1 : Operand} {c1_0 : Value} (h1 : (ev l x1).cells = #[c1_0]) : gE prog l (.build 48 #[(1,x1)]) ty (.agg #[(.int .i64 0),c1_0,(.int .i64 0)]):=gW (vs:=#[(1,ev l x1)]) (by simp) fun w=>adX h1 w
theorem adY {v2 : Value} {c2_0 : Value} (h2 : v2.cells = #[c2_0])  (w : World) : (Instr.build 48 #[(2,v2)]).run prog w = .ok (.agg #[(.int .i64 0),(.int .i64 0),c2_0]) w:=dH cN bP qN (by simp [Instr.fill,eK,h2]) w
theorem xP {l : List Value} {ty : TypeId} {x2 : Operand} {c2_0 : Value} (h2 : (ev l x2).cells = #[c2_0]) : gE prog l (.build 48 #[(2,x2)]) ty (.agg #[(.int .i64 0),(.int .i64 0),c2_0]):=gW (vs:=#[(2,ev l x2)]) (by simp) fun w=>adY h2 w
theorem Hi (w : World) : ((#[{ name := "From", type:=48,offset:=0,embedded:=false,tag := "", pkgPath := "", byteOffset:=0 },{ name := "To", type:=48,offset:=3,embedded:=false,tag := "", pkgPath := "", byteOffset:=24 }] : Array Field).mapM fun f=>do pure (f.offset,← sizeOf f.type) : Sem (Array (Nat × Nat))).run prog w = .ok #[(0,3),(3,3)] w:=by
 simp [Array.mapM_eq_mapM_toList,eW aC]
theorem adZ {v0 : Value} {c0_0 c0_1 c0_2 : Value} (h0 : v0.cells = #[c0_0,c0_1,c0_2])  (w : World) : (Instr.build 50 #[(0,v0)]).run prog w = .ok (.agg #[c0_0,c0_1,c0_2,(.int .i64 0),(.int .i64 0),(.int .i64 0)]) w:=dH iL rT Hi (by simp [Instr.fill,eK,h0]) w
theorem xQ {l : List Value} {ty : TypeId} {x0 : Operand} {c0_0 c0_1 c0_2 : Value} (h0 : (ev l x0).cells = #[c0_0,c0_1,c0_2]) : gE prog l (.build 50 #[(0,x0)]) ty (.agg #[c0_0,c0_1,c0_2,(.int .i64 0),(.int .i64 0),(.int .i64 0)]):=gW (vs:=#[(0,ev l x0)]) (by simp) fun w=>adZ h0 w
theorem Zm {v0 v1 : Value} {c0_0 c0_1 c0_2 : Value} (h0 : v0.cells = #[c0_0,c0_1,c0_2]) {c1_0 c1_1 c1_2 : Value} (h1 : v1.cells = #[c1_0,c1_1,c1_2])  (w : World) : (Instr.build 50 #[(0,v0),(1,v1)]).run prog w = .ok (.agg #[c0_0,c0_1,c0_2,c1_0,c1_1,c1_2]) w:=dH iL rT Hi (by simp [Instr.fill,eK,h0,h1]) w
theorem oU {l : List Value} {ty : TypeId} {x0 x1 : Operand} {c0_0 c0_1 c0_2 : Value} (h0 : (ev l x0).cells = #[c0_0,c0_1,c0_2]) {c1_0 c1_1 c1_2 : Value} (h1 : (ev l x1).cells = #[c1_0,c1_1,c1_2]) : gE prog l (.build 50 #[(0,x0),(1,x1)]) ty (.agg #[c0_0,c0_1,c0_2,c1_0,c1_1,c1_2]):=gW (vs:=#[(0,ev l x0),(1,ev l x1)]) (by simp) fun w=>Zm h0 h1 w
theorem Pr {v0 v1 v2 : Value} {c0_0 c0_1 c0_2 : Value} (h0 : v0.cells = #[c0_0,c0_1,c0_2]) {c1_0 c1_1 c1_2 : Value} (h1 : v1.cells = #[c1_0,c1_1,c1_2]) {c2_0 c2_1 c2_2 : Value} (h2 : v2.cells = #[c2_0,c2_1,c2_2])  (w : World) : (Instr.build 53 #[(0,v0),(1,v1),(2,v2)]).run prog w = .ok (.agg #[c0_0,c0_1,c0_2,c1_0,c1_1,c1_2,c2_0,c2_1,c2_2]) w:=iA bL iY aC (by simp [Instr.fill,eK,h0,h1,h2]) w
theorem bN {l : List Value} {ty : TypeId} {x0 x1 x2 : Operand} {c0_0 c0_1 c0_2 : Value} (h0 : (ev l x0).cells = #[c0_0,c0_1,c0_2]) {c1_0 c1_1 c1_2 : Value} (h1 : (ev l x1).cells = #[c1_0,c1_1,c1_2]) {c2_0 c2_1 c2_2 : Value} (h2 : (ev l x2).cells = #[c2_0,c2_1,c2_2]) : gE prog l (.build 53 #[(0,x0),(1,x1),(2,x2)]) ty (.agg #[c0_0,c0_1,c0_2,c1_0,c1_1,c1_2,c2_0,c2_1,c2_2]):=gW (vs:=#[(0,ev l x0),(1,ev l x1),(2,ev l x2)]) (by simp) fun w=>Pr h0 h1 h2 w
theorem Zn {v0 v1 : Value} {c0_0 c0_1 c0_2 : Value} (h0 : v0.cells = #[c0_0,c0_1,c0_2]) {c1_0 c1_1 c1_2 : Value} (h1 : v1.cells = #[c1_0,c1_1,c1_2])  (w : World) : (Instr.build 57 #[(0,v0),(1,v1)]).run prog w = .ok (.agg #[c0_0,c0_1,c0_2,c1_0,c1_1,c1_2]) w:=iA jH rU aC (by simp [Instr.fill,eK,h0,h1]) w
theorem bW {l : List Value} {ty : TypeId} {x0 x1 : Operand} {c0_0 c0_1 c0_2 : Value} (h0 : (ev l x0).cells = #[c0_0,c0_1,c0_2]) {c1_0 c1_1 c1_2 : Value} (h1 : (ev l x1).cells = #[c1_0,c1_1,c1_2]) : gE prog l (.build 57 #[(0,x0),(1,x1)]) ty (.agg #[c0_0,c0_1,c0_2,c1_0,c1_1,c1_2]):=gW (vs:=#[(0,ev l x0),(1,ev l x1)]) (by simp) fun w=>Zn h0 h1 w
theorem Hj (w : World) : ((#[{ name := "Neg", type:=4,offset:=0,embedded:=false,tag := "", pkgPath := "", byteOffset:=0 },{ name := "Mag", type:=9,offset:=1,embedded:=false,tag := "", pkgPath := "", byteOffset:=8 }] : Array Field).mapM fun f=>do pure (f.offset,← sizeOf f.type) : Sem (Array (Nat × Nat))).run prog w = .ok #[(0,1),(1,1)] w:=by
 simp [Array.mapM_eq_mapM_toList,eW jQ,eW xM]
theorem afM  (w : World) : (Instr.build 65 #[]).run prog w = .ok (.agg #[(.bool false),(.string ⟨#[]⟩)]) w:=dH kK jR Hj (by simp [Instr.fill,eK]) w
theorem Mb {l : List Value} {ty : TypeId}  : gE prog l (.build 65 #[]) ty (.agg #[(.bool false),(.string ⟨#[]⟩)]):=gW (vs:=#[]) (by simp) fun w=>afM  w
theorem Zo {v0 v1 : Value} {c0_0 : Value} (h0 : v0.cells = #[c0_0]) {c1_0 : Value} (h1 : v1.cells = #[c1_0])  (w : World) : (Instr.build 65 #[(0,v0),(1,v1)]).run prog w = .ok (.agg #[c0_0,c1_0]) w:=dH kK jR Hj (by simp [Instr.fill,eK,h0,h1]) w
theorem tV {l : List Value} {ty : TypeId} {x0 x1 : Operand} {c0_0 : Value} (h0 : (ev l x0).cells = #[c0_0]) {c1_0 : Value} (h1 : (ev l x1).cells = #[c1_0]) : gE prog l (.build 65 #[(0,x0),(1,x1)]) ty (.agg #[c0_0,c1_0]):=gW (vs:=#[(0,ev l x0),(1,ev l x1)]) (by simp) fun w=>Zo h0 h1 w
theorem Uz (w : World) : ((#[{ name := "fine", type:=29,offset:=0,embedded:=false,tag := "", pkgPath := "lithophane/witness", byteOffset:=0 },{ name := "coarse", type:=29,offset:=1,embedded:=false,tag := "", pkgPath := "lithophane/witness", byteOffset:=24 },{ name := "moves", type:=30,offset:=2,embedded:=false,tag := "", pkgPath := "lithophane/witness", byteOffset:=48 },{ name := "rim", type:=41,offset:=3,embedded:=false,tag := "", pkgPath := "lithophane/witness", byteOffset:=72 },{ name := "to", type:=71,offset:=4,embedded:=false,tag := "", pkgPath := "lithophane/witness", byteOffset:=96 },{ name := "most", type:=3,offset:=5,embedded:=false,tag := "", pkgPath := "lithophane/witness", byteOffset:=104 }] : Array Field).mapM fun f=>do pure (f.offset,← sizeOf f.type) : Sem (Array (Nat × Nat))).run prog w = .ok #[(0,1),(1,1),(2,1),(3,1),(4,1),(5,1)] w:=by
 simp [Array.mapM_eq_mapM_toList,eW iG,eW bA,eW tQ,eW nB,eW xO]
theorem Jq {v0 v1 v2 v4 : Value} {c0_0 : Value} (h0 : v0.cells = #[c0_0]) {c1_0 : Value} (h1 : v1.cells = #[c1_0]) {c2_0 : Value} (h2 : v2.cells = #[c2_0]) {c4_0 : Value} (h4 : v4.cells = #[c4_0])  (w : World) : (Instr.build 73 #[(0,v0),(1,v1),(2,v2),(4,v4)]).run prog w = .ok (.agg #[c0_0,c1_0,c2_0,(.slice none 0 0),c4_0,(.int .i64 0)]) w:=dH gY abD Uz (by simp [Instr.fill,eK,h0,h1,h2,h4]) w
theorem wI {l : List Value} {ty : TypeId} {x0 x1 x2 x4 : Operand} {c0_0 : Value} (h0 : (ev l x0).cells = #[c0_0]) {c1_0 : Value} (h1 : (ev l x1).cells = #[c1_0]) {c2_0 : Value} (h2 : (ev l x2).cells = #[c2_0]) {c4_0 : Value} (h4 : (ev l x4).cells = #[c4_0]) : gE prog l (.build 73 #[(0,x0),(1,x1),(2,x2),(4,x4)]) ty (.agg #[c0_0,c1_0,c2_0,(.slice none 0 0),c4_0,(.int .i64 0)]):=gW (vs:=#[(0,ev l x0),(1,ev l x1),(2,ev l x2),(4,ev l x4)]) (by simp) fun w=>Jq h0 h1 h2 h4 w
theorem Va (w : World) : ((#[{ name := "run", type:=74,offset:=0,embedded:=false,tag := "", pkgPath := "lithophane/witness", byteOffset:=0 }] : Array Field).mapM fun f=>do pure (f.offset,← sizeOf f.type) : Sem (Array (Nat × Nat))).run prog w = .ok #[(0,1)] w:=by
 simp [Array.mapM_eq_mapM_toList,eW qL]
theorem ad0 {v0 : Value} {c0_0 : Value} (h0 : v0.cells = #[c0_0])  (w : World) : (Instr.build 76 #[(0,v0)]).run prog w = .ok (.agg #[c0_0]) w:=dH Dm uU Va (by simp [Instr.fill,eK,h0]) w
theorem mB {l : List Value} {ty : TypeId} {x0 : Operand} {c0_0 : Value} (h0 : (ev l x0).cells = #[c0_0]) : gE prog l (.build 76 #[(0,x0)]) ty (.agg #[c0_0]):=gW (vs:=#[(0,ev l x0)]) (by simp) fun w=>ad0 h0 w
theorem xR {v0 v1 v2 v3 v4 v5 : Value} {c0_0 c0_1 c0_2 : Value} (h0 : v0.cells = #[c0_0,c0_1,c0_2]) {c1_0 c1_1 c1_2 : Value} (h1 : v1.cells = #[c1_0,c1_1,c1_2]) {c2_0 c2_1 c2_2 : Value} (h2 : v2.cells = #[c2_0,c2_1,c2_2]) {c3_0 c3_1 c3_2 : Value} (h3 : v3.cells = #[c3_0,c3_1,c3_2]) {c4_0 c4_1 c4_2 : Value} (h4 : v4.cells = #[c4_0,c4_1,c4_2]) {c5_0 c5_1 c5_2 : Value} (h5 : v5.cells = #[c5_0,c5_1,c5_2])  (w : World) : (Instr.build 115 #[(0,v0),(1,v1),(2,v2),(3,v3),(4,v4),(5,v5)]).run prog w = .ok (.agg #[c0_0,c0_1,c0_2,c1_0,c1_1,c1_2,c2_0,c2_1,c2_2,c3_0,c3_1,c3_2,c4_0,c4_1,c4_2,c5_0,c5_1,c5_2]) w:=iA underlying115 Ly xN (by simp [Instr.fill,eK,h0,h1,h2,h3,h4,h5]) w
theorem qO {l : List Value} {ty : TypeId} {x0 x1 x2 x3 x4 x5 : Operand} {c0_0 c0_1 c0_2 : Value} (h0 : (ev l x0).cells = #[c0_0,c0_1,c0_2]) {c1_0 c1_1 c1_2 : Value} (h1 : (ev l x1).cells = #[c1_0,c1_1,c1_2]) {c2_0 c2_1 c2_2 : Value} (h2 : (ev l x2).cells = #[c2_0,c2_1,c2_2]) {c3_0 c3_1 c3_2 : Value} (h3 : (ev l x3).cells = #[c3_0,c3_1,c3_2]) {c4_0 c4_1 c4_2 : Value} (h4 : (ev l x4).cells = #[c4_0,c4_1,c4_2]) {c5_0 c5_1 c5_2 : Value} (h5 : (ev l x5).cells = #[c5_0,c5_1,c5_2]) : gE prog l (.build 115 #[(0,x0),(1,x1),(2,x2),(3,x3),(4,x4),(5,x5)]) ty (.agg #[c0_0,c0_1,c0_2,c1_0,c1_1,c1_2,c2_0,c2_1,c2_2,c3_0,c3_1,c3_2,c4_0,c4_1,c4_2,c5_0,c5_1,c5_2]):=gW (vs:=#[(0,ev l x0),(1,ev l x1),(2,ev l x2),(3,ev l x3),(4,ev l x4),(5,ev l x5)]) (by simp) fun w=>xR h0 h1 h2 h3 h4 h5 w
theorem Ps (w : World) : ((#[{ name := "from", type:=48,offset:=0,embedded:=false,tag := "", pkgPath := "lithophane/mesh", byteOffset:=0 },{ name := "to", type:=48,offset:=3,embedded:=false,tag := "", pkgPath := "lithophane/mesh", byteOffset:=24 }] : Array Field).mapM fun f=>do pure (f.offset,← sizeOf f.type) : Sem (Array (Nat × Nat))).run prog w = .ok #[(0,3),(3,3)] w:=by
 simp [Array.mapM_eq_mapM_toList,eW aC]
theorem Vb {v0 v1 : Value} {c0_0 c0_1 c0_2 : Value} (h0 : v0.cells = #[c0_0,c0_1,c0_2]) {c1_0 c1_1 c1_2 : Value} (h1 : v1.cells = #[c1_0,c1_1,c1_2])  (w : World) : (Instr.build 143 #[(0,v0),(1,v1)]).run prog w = .ok (.agg #[c0_0,c0_1,c0_2,c1_0,c1_1,c1_2]) w:=dH iO mA Ps (by simp [Instr.fill,eK,h0,h1]) w
theorem fH {l : List Value} {ty : TypeId} {x0 x1 : Operand} {c0_0 c0_1 c0_2 : Value} (h0 : (ev l x0).cells = #[c0_0,c0_1,c0_2]) {c1_0 c1_1 c1_2 : Value} (h1 : (ev l x1).cells = #[c1_0,c1_1,c1_2]) : gE prog l (.build 143 #[(0,x0),(1,x1)]) ty (.agg #[c0_0,c0_1,c0_2,c1_0,c1_1,c1_2]):=gW (vs:=#[(0,ev l x0),(1,ev l x1)]) (by simp) fun w=>Vb h0 h1 w
theorem Mc {v0 v1 v2 : Value} {c0_0 : Value} (h0 : v0.cells = #[c0_0]) {c1_0 : Value} (h1 : v1.cells = #[c1_0]) {c2_0 : Value} (h2 : v2.cells = #[c2_0])  (w : World) : (Instr.build 150 #[(0,v0),(1,v1),(2,v2)]).run prog w = .ok (.agg #[c0_0,c1_0,c2_0]) w:=iA underlying150 Dr uV (by simp [Instr.fill,eK,h0,h1,h2]) w
theorem pH {l : List Value} {ty : TypeId} {x0 x1 x2 : Operand} {c0_0 : Value} (h0 : (ev l x0).cells = #[c0_0]) {c1_0 : Value} (h1 : (ev l x1).cells = #[c1_0]) {c2_0 : Value} (h2 : (ev l x2).cells = #[c2_0]) : gE prog l (.build 150 #[(0,x0),(1,x1),(2,x2)]) ty (.agg #[c0_0,c1_0,c2_0]):=gW (vs:=#[(0,ev l x0),(1,ev l x1),(2,ev l x2)]) (by simp) fun w=>Mc h0 h1 h2 w
theorem Md {v0 v1 v2 : Value} {c0_0 c0_1 c0_2 c0_3 c0_4 c0_5 : Value} (h0 : v0.cells = #[c0_0,c0_1,c0_2,c0_3,c0_4,c0_5]) {c1_0 c1_1 c1_2 c1_3 c1_4 c1_5 : Value} (h1 : v1.cells = #[c1_0,c1_1,c1_2,c1_3,c1_4,c1_5]) {c2_0 c2_1 c2_2 c2_3 c2_4 c2_5 : Value} (h2 : v2.cells = #[c2_0,c2_1,c2_2,c2_3,c2_4,c2_5])  (w : World) : (Instr.build 169 #[(0,v0),(1,v1),(2,v2)]).run prog w = .ok (.agg #[c0_0,c0_1,c0_2,c0_3,c0_4,c0_5,c1_0,c1_1,c1_2,c1_3,c1_4,c1_5,c2_0,c2_1,c2_2,c2_3,c2_4,c2_5]) w:=iA underlying169 Lz dJ (by simp [Instr.fill,eK,h0,h1,h2]) w
theorem xS {l : List Value} {ty : TypeId} {x0 x1 x2 : Operand} {c0_0 c0_1 c0_2 c0_3 c0_4 c0_5 : Value} (h0 : (ev l x0).cells = #[c0_0,c0_1,c0_2,c0_3,c0_4,c0_5]) {c1_0 c1_1 c1_2 c1_3 c1_4 c1_5 : Value} (h1 : (ev l x1).cells = #[c1_0,c1_1,c1_2,c1_3,c1_4,c1_5]) {c2_0 c2_1 c2_2 c2_3 c2_4 c2_5 : Value} (h2 : (ev l x2).cells = #[c2_0,c2_1,c2_2,c2_3,c2_4,c2_5]) : gE prog l (.build 169 #[(0,x0),(1,x1),(2,x2)]) ty (.agg #[c0_0,c0_1,c0_2,c0_3,c0_4,c0_5,c1_0,c1_1,c1_2,c1_3,c1_4,c1_5,c2_0,c2_1,c2_2,c2_3,c2_4,c2_5]):=gW (vs:=#[(0,ev l x0),(1,ev l x1),(2,ev l x2)]) (by simp) fun w=>Md h0 h1 h2 w
theorem pU (d : Nat) {x0 y0 : Int} {x1 y1 : Int} {x2 y2 : Int} : sK prog (d + 2) 48 (.agg #[.int .i64 x0,.int .i64 x1,.int .i64 x2]) (.agg #[.int .i64 y0,.int .i64 y1,.int .i64 y2]) (x0 = y0 ∧ x1 = y1 ∧ x2 = y2):=(sK.struct cN (by kernel_rfl) (vG.cons (by decide) (cX bQ rfl) (cX bQ rfl) (sK.int (d:=d + 0) kJ) (vG.cons (by decide) (cX bQ rfl) (cX bQ rfl) (sK.int (d:=d + 0) kJ) (vG.cons (by decide) (cX bQ rfl) (cX bQ rfl) (sK.int (d:=d + 0) kJ) vG.nil)))).iff (by simp only[and_assoc,and_true])
theorem cP {l : List Value} {ty T' : TypeId} {x y : Operand} {x0 y0 : Int} {x1 y1 : Int} {x2 y2 : Int} (hx : ev l x = (.agg #[.int .i64 x0,.int .i64 x1,.int .i64 x2])) (hy : ev l y = (.agg #[.int .i64 y0,.int .i64 y1,.int .i64 y2])) : gE prog l (.binOp .eql 48 x y T') ty (.bool (decide (x0 = y0 ∧ x1 = y1 ∧ x2 = y2))):=Xz (by kernel_rfl) hx hy (pU 9998)
theorem iD {l : List Value} {ty T' : TypeId} {x y : Operand} {x0 y0 : Int} {x1 y1 : Int} {x2 y2 : Int} (hx : ev l x = (.agg #[.int .i64 x0,.int .i64 x1,.int .i64 x2])) (hy : ev l y = (.agg #[.int .i64 y0,.int .i64 y1,.int .i64 y2])) : gE prog l (.binOp .neq 48 x y T') ty (.bool (decide (¬ (x0 = y0 ∧ x1 = y1 ∧ x2 = y2)))):=Oq (by kernel_rfl) hx hy (pU 9998)
theorem ad1 (d : Nat) {x0 y0 : Int} {x1 y1 : Int} {x2 y2 : Int} {x3 y3 : Int} {x4 y4 : Int} {x5 y5 : Int} {x6 y6 : Int} {x7 y7 : Int} {x8 y8 : Int} : sK prog (d + 3) 53 (.agg #[.int .i64 x0,.int .i64 x1,.int .i64 x2,.int .i64 x3,.int .i64 x4,.int .i64 x5,.int .i64 x6,.int .i64 x7,.int .i64 x8]) (.agg #[.int .i64 y0,.int .i64 y1,.int .i64 y2,.int .i64 y3,.int .i64 y4,.int .i64 y5,.int .i64 y6,.int .i64 y7,.int .i64 y8]) (x0 = y0 ∧ x1 = y1 ∧ x2 = y2 ∧ x3 = y3 ∧ x4 = y4 ∧ x5 = y5 ∧ x6 = y6 ∧ x7 = y7 ∧ x8 = y8):=(sK.array bL aC (yS.cons (eP aI aC rfl) (eP aI aC rfl) (pU (d + 0)) (yS.cons (eP aI aC rfl) (eP aI aC rfl) (pU (d + 0)) (yS.cons (eP aI aC rfl) (eP aI aC rfl) (pU (d + 0)) yS.nil)))).iff (by simp only[and_assoc,and_true])
theorem Pt (d : Nat) {x0 y0 : Int} {x1 y1 : Int} {x2 y2 : Int} {x3 y3 : Int} {x4 y4 : Int} {x5 y5 : Int} : sK prog (d + 3) 57 (.agg #[.int .i64 x0,.int .i64 x1,.int .i64 x2,.int .i64 x3,.int .i64 x4,.int .i64 x5]) (.agg #[.int .i64 y0,.int .i64 y1,.int .i64 y2,.int .i64 y3,.int .i64 y4,.int .i64 y5]) (x0 = y0 ∧ x1 = y1 ∧ x2 = y2 ∧ x3 = y3 ∧ x4 = y4 ∧ x5 = y5):=(sK.array jH aC (yS.cons (eP aI aC rfl) (eP aI aC rfl) (pU (d + 0)) (yS.cons (eP aI aC rfl) (eP aI aC rfl) (pU (d + 0)) yS.nil))).iff (by simp only[and_assoc,and_true])
theorem Vc {l : List Value} {ty T' : TypeId} {x y : Operand} {x0 y0 : Int} {x1 y1 : Int} {x2 y2 : Int} {x3 y3 : Int} {x4 y4 : Int} {x5 y5 : Int} (hx : ev l x = (.agg #[.int .i64 x0,.int .i64 x1,.int .i64 x2,.int .i64 x3,.int .i64 x4,.int .i64 x5])) (hy : ev l y = (.agg #[.int .i64 y0,.int .i64 y1,.int .i64 y2,.int .i64 y3,.int .i64 y4,.int .i64 y5])) : gE prog l (.binOp .eql 57 x y T') ty (.bool (decide (x0 = y0 ∧ x1 = y1 ∧ x2 = y2 ∧ x3 = y3 ∧ x4 = y4 ∧ x5 = y5))):=Xz (by kernel_rfl) hx hy (Pt 9997)
theorem Vd {l : List Value} {ty T' : TypeId} {x y : Operand} {x0 y0 : Int} {x1 y1 : Int} {x2 y2 : Int} {x3 y3 : Int} {x4 y4 : Int} {x5 y5 : Int} (hx : ev l x = (.agg #[.int .i64 x0,.int .i64 x1,.int .i64 x2,.int .i64 x3,.int .i64 x4,.int .i64 x5])) (hy : ev l y = (.agg #[.int .i64 y0,.int .i64 y1,.int .i64 y2,.int .i64 y3,.int .i64 y4,.int .i64 y5])) : gE prog l (.binOp .neq 57 x y T') ty (.bool (decide (¬ (x0 = y0 ∧ x1 = y1 ∧ x2 = y2 ∧ x3 = y3 ∧ x4 = y4 ∧ x5 = y5)))):=Oq (by kernel_rfl) hx hy (Pt 9997)
theorem ad2 (d : Nat) {x0 y0 : Bool} {x1 y1 : ByteArray} : sK prog (d + 2) 65 (.agg #[.bool x0,.string x1]) (.agg #[.bool y0,.string y1]) (x0 = y0 ∧ x1 = y1):=(sK.struct kK (by kernel_rfl) (vG.cons (by decide) (cX oT rfl) (cX oT rfl) (sK.bool (d:=d + 0) Zc) (vG.cons (by decide) (cX Hg rfl) (cX Hg rfl) (sK.str (d:=d + 0) sS) vG.nil))).iff (by simp only[and_assoc,and_true])
theorem Ve {l : List Value} {ty T' : TypeId} {x y : Operand} {x0 y0 : Bool} {x1 y1 : ByteArray} (hx : ev l x = (.agg #[.bool x0,.string x1])) (hy : ev l y = (.agg #[.bool y0,.string y1])) : gE prog l (.binOp .neq 65 x y T') ty (.bool (decide (¬ (x0 = y0 ∧ x1 = y1)))):=Oq (by kernel_rfl) hx hy (ad2 9998)
theorem abH (d : Nat) {x0 y0 : Int} {x1 y1 : Int} {x2 y2 : Int} {x3 y3 : Int} {x4 y4 : Int} {x5 y5 : Int} : sK prog (d + 3) 143 (.agg #[.int .i64 x0,.int .i64 x1,.int .i64 x2,.int .i64 x3,.int .i64 x4,.int .i64 x5]) (.agg #[.int .i64 y0,.int .i64 y1,.int .i64 y2,.int .i64 y3,.int .i64 y4,.int .i64 y5]) (x0 = y0 ∧ x1 = y1 ∧ x2 = y2 ∧ x3 = y3 ∧ x4 = y4 ∧ x5 = y5):=(sK.struct iO (by kernel_rfl) (vG.cons (by decide) (eP aI aC rfl) (eP aI aC rfl) (pU (d + 0)) (vG.cons (by decide) (eP aI aC rfl) (eP aI aC rfl) (pU (d + 0)) vG.nil))).iff (by simp only[and_assoc,and_true])
end Go.Proofs.YtfohfflkhpfjeaaGreatDoor
namespace Go.Proofs.YtfohfflkhpfjeaaGreatDoor
open Go.Proofs.Tryz
open Go.RowKit Go.Lith
theorem jA {l : List Value} {ty : TypeId} {x y : Operand} {k : IntKind} {c0 c1 c2 c3 c4 c5 c6 c7 c8 : Value} (hx : ev l x = .agg #[c0,c1,c2,c3,c4,c5,c6,c7,c8]) (hy : ev l y = .int k 0) : gE prog l (.index 53 x y) ty (.agg #[c0,c1,c2]):=qF bL aI aC hx hy (by decide) (by decide) rfl
theorem jB {l : List Value} {ty : TypeId} {x y : Operand} {k : IntKind} {c0 c1 c2 c3 c4 c5 c6 c7 c8 : Value} (hx : ev l x = .agg #[c0,c1,c2,c3,c4,c5,c6,c7,c8]) (hy : ev l y = .int k 1) : gE prog l (.index 53 x y) ty (.agg #[c3,c4,c5]):=qF bL aI aC hx hy (by decide) (by decide) rfl
theorem jC {l : List Value} {ty : TypeId} {x y : Operand} {k : IntKind} {c0 c1 c2 c3 c4 c5 c6 c7 c8 : Value} (hx : ev l x = .agg #[c0,c1,c2,c3,c4,c5,c6,c7,c8]) (hy : ev l y = .int k 2) : gE prog l (.index 53 x y) ty (.agg #[c6,c7,c8]):=qF bL aI aC hx hy (by decide) (by decide) rfl
theorem vT {l : List Value} {ty : TypeId} {x y : Operand} {k : IntKind} {c0 c1 c2 : Value} (hx : ev l x = .agg #[c0,c1,c2]) (hy : ev l y = .int k 0) : gE prog l (.index 150 x y) ty c0:=Cn underlying150 Jo uV hx hy (by decide) (by decide) rfl
theorem vU {l : List Value} {ty : TypeId} {x y : Operand} {k : IntKind} {c0 c1 c2 : Value} (hx : ev l x = .agg #[c0,c1,c2]) (hy : ev l y = .int k 1) : gE prog l (.index 150 x y) ty c1:=Cn underlying150 Jo uV hx hy (by decide) (by decide) rfl
theorem vV {l : List Value} {ty : TypeId} {x y : Operand} {k : IntKind} {c0 c1 c2 : Value} (hx : ev l x = .agg #[c0,c1,c2]) (hy : ev l y = .int k 2) : gE prog l (.index 150 x y) ty c2:=Cn underlying150 Jo uV hx hy (by decide) (by decide) rfl
theorem Gd {l : List Value} {ty : TypeId} {x y : Operand} {k : IntKind} {c0 c1 c2 c3 c4 c5 c6 c7 c8 c9 c10 c11 c12 c13 c14 c15 c16 c17 : Value} (hx : ev l x = .agg #[c0,c1,c2,c3,c4,c5,c6,c7,c8,c9,c10,c11,c12,c13,c14,c15,c16,c17]) (hy : ev l y = .int k 0) : gE prog l (.index 169 x y) ty (.agg #[c0,c1,c2,c3,c4,c5]):=qF underlying169 iZ dJ hx hy (by decide) (by decide) rfl
theorem Ge {l : List Value} {ty : TypeId} {x y : Operand} {k : IntKind} {c0 c1 c2 c3 c4 c5 c6 c7 c8 c9 c10 c11 c12 c13 c14 c15 c16 c17 : Value} (hx : ev l x = .agg #[c0,c1,c2,c3,c4,c5,c6,c7,c8,c9,c10,c11,c12,c13,c14,c15,c16,c17]) (hy : ev l y = .int k 1) : gE prog l (.index 169 x y) ty (.agg #[c6,c7,c8,c9,c10,c11]):=qF underlying169 iZ dJ hx hy (by decide) (by decide) rfl
theorem Gf {l : List Value} {ty : TypeId} {x y : Operand} {k : IntKind} {c0 c1 c2 c3 c4 c5 c6 c7 c8 c9 c10 c11 c12 c13 c14 c15 c16 c17 : Value} (hx : ev l x = .agg #[c0,c1,c2,c3,c4,c5,c6,c7,c8,c9,c10,c11,c12,c13,c14,c15,c16,c17]) (hy : ev l y = .int k 2) : gE prog l (.index 169 x y) ty (.agg #[c12,c13,c14,c15,c16,c17]):=qF underlying169 iZ dJ hx hy (by decide) (by decide) rfl
theorem Hk {ds : List Deferred} {l : List Value} {ty : TypeId} {ops : Array Oper} {Q : Exit → Act → World → Prop} {rest : List Oper} {d : Nat} {pos : String} {after : Array Edge} {w : World} {x0 : Operand} {c0_0 c0_1 c0_2 c0_3 c0_4 c0_5 c0_6 c0_7 c0_8 : Value} (h0 : (ev l x0).cells = #[c0_0,c0_1,c0_2,c0_3,c0_4,c0_5,c0_6,c0_7,c0_8]) (h : ∀ w' g,dD w w' → w.heap.size ≤ g → fX w' g [c0_0,c0_1,c0_2,c0_3,c0_4,c0_5,c0_6,c0_7,c0_8] 53 → wpList prog ops Q rest (Fr (l.set d (.slice (some ⟨g,0,none⟩) 1 1)) ds) w') : wpList prog ops Q (Oper.mk (some d) (.buildSlice 29 1 #[(0,x0)]) ty pos after none :: rest) (Fr l ds) w :=
 kE (vs:=#[(0,ev l x0)]) (base:=#[.int .i64 0,.int .i64 0,.int .i64 0,.int .i64 0,.int .i64 0,.int .i64 0,.int .i64 0,.int .i64 0,.int .i64 0]) (c:=9) (z:=(.agg #[.int .i64 0,.int .i64 0,.int .i64 0,.int .i64 0,.int .i64 0,.int .i64 0,.int .i64 0,.int .i64 0,.int .i64 0])) bZ (by kernel_rfl) (by decide) (by decide) (by kernel_rfl) (by simp) (by simp [Instr.fill,h0]) h
theorem uX {ds : List Deferred} {l : List Value} {ty : TypeId} {ops : Array Oper} {Q : Exit → Act → World → Prop} {rest : List Oper} {d : Nat} {pos : String} {after : Array Edge} {w : World} {x0 x1 : Operand} {c0_0 c0_1 c0_2 c0_3 c0_4 c0_5 c0_6 c0_7 c0_8 c1_0 c1_1 c1_2 c1_3 c1_4 c1_5 c1_6 c1_7 c1_8 : Value} (h0 : (ev l x0).cells = #[c0_0,c0_1,c0_2,c0_3,c0_4,c0_5,c0_6,c0_7,c0_8]) (h1 : (ev l x1).cells = #[c1_0,c1_1,c1_2,c1_3,c1_4,c1_5,c1_6,c1_7,c1_8]) (h : ∀ w' g,dD w w' → w.heap.size ≤ g → fX w' g [c0_0,c0_1,c0_2,c0_3,c0_4,c0_5,c0_6,c0_7,c0_8,c1_0,c1_1,c1_2,c1_3,c1_4,c1_5,c1_6,c1_7,c1_8] 53 → wpList prog ops Q rest (Fr (l.set d (.slice (some ⟨g,0,none⟩) 2 2)) ds) w') : wpList prog ops Q (Oper.mk (some d) (.buildSlice 29 2 #[(0,x0),(1,x1)]) ty pos after none :: rest) (Fr l ds) w :=
 kE (vs:=#[(0,ev l x0),(1,ev l x1)]) (base:=#[.int .i64 0,.int .i64 0,.int .i64 0,.int .i64 0,.int .i64 0,.int .i64 0,.int .i64 0,.int .i64 0,.int .i64 0,.int .i64 0,.int .i64 0,.int .i64 0,.int .i64 0,.int .i64 0,.int .i64 0,.int .i64 0,.int .i64 0,.int .i64 0]) (c:=9) (z:=(.agg #[.int .i64 0,.int .i64 0,.int .i64 0,.int .i64 0,.int .i64 0,.int .i64 0,.int .i64 0,.int .i64 0,.int .i64 0])) bZ (by kernel_rfl) (by decide) (by decide) (by kernel_rfl) (by simp) (by simp [Instr.fill,h0,h1]) h
theorem Vf {ds : List Deferred} {l : List Value} {ty : TypeId} {ops : Array Oper} {Q : Exit → Act → World → Prop} {rest : List Oper} {d : Nat} {pos : String} {after : Array Edge} {w : World} {x0 x1 x2 x3 : Operand} {c0_0 c0_1 c0_2 c0_3 c0_4 c0_5 c0_6 c0_7 c0_8 c1_0 c1_1 c1_2 c1_3 c1_4 c1_5 c1_6 c1_7 c1_8 c2_0 c2_1 c2_2 c2_3 c2_4 c2_5 c2_6 c2_7 c2_8 c3_0 c3_1 c3_2 c3_3 c3_4 c3_5 c3_6 c3_7 c3_8 : Value} (h0 : (ev l x0).cells = #[c0_0,c0_1,c0_2,c0_3,c0_4,c0_5,c0_6,c0_7,c0_8]) (h1 : (ev l x1).cells = #[c1_0,c1_1,c1_2,c1_3,c1_4,c1_5,c1_6,c1_7,c1_8]) (h2 : (ev l x2).cells = #[c2_0,c2_1,c2_2,c2_3,c2_4,c2_5,c2_6,c2_7,c2_8]) (h3 : (ev l x3).cells = #[c3_0,c3_1,c3_2,c3_3,c3_4,c3_5,c3_6,c3_7,c3_8]) (h : ∀ w' g,dD w w' → w.heap.size ≤ g → fX w' g [c0_0,c0_1,c0_2,c0_3,c0_4,c0_5,c0_6,c0_7,c0_8,c1_0,c1_1,c1_2,c1_3,c1_4,c1_5,c1_6,c1_7,c1_8,c2_0,c2_1,c2_2,c2_3,c2_4,c2_5,c2_6,c2_7,c2_8,c3_0,c3_1,c3_2,c3_3,c3_4,c3_5,c3_6,c3_7,c3_8] 53 → wpList prog ops Q rest (Fr (l.set d (.slice (some ⟨g,0,none⟩) 4 4)) ds) w') : wpList prog ops Q (Oper.mk (some d) (.buildSlice 29 4 #[(0,x0),(1,x1),(2,x2),(3,x3)]) ty pos after none :: rest) (Fr l ds) w :=
 kE (vs:=#[(0,ev l x0),(1,ev l x1),(2,ev l x2),(3,ev l x3)]) (base:=#[.int .i64 0,.int .i64 0,.int .i64 0,.int .i64 0,.int .i64 0,.int .i64 0,.int .i64 0,.int .i64 0,.int .i64 0,.int .i64 0,.int .i64 0,.int .i64 0,.int .i64 0,.int .i64 0,.int .i64 0,.int .i64 0,.int .i64 0,.int .i64 0,.int .i64 0,.int .i64 0,.int .i64 0,.int .i64 0,.int .i64 0,.int .i64 0,.int .i64 0,.int .i64 0,.int .i64 0,.int .i64 0,.int .i64 0,.int .i64 0,.int .i64 0,.int .i64 0,.int .i64 0,.int .i64 0,.int .i64 0,.int .i64 0]) (c:=9) (z:=(.agg #[.int .i64 0,.int .i64 0,.int .i64 0,.int .i64 0,.int .i64 0,.int .i64 0,.int .i64 0,.int .i64 0,.int .i64 0])) bZ (by kernel_rfl) (by decide) (by decide) (by kernel_rfl) (by simp) (by simp [Instr.fill,h0,h1,h2,h3]) h
theorem Vg {ds : List Deferred} {l : List Value} {ty : TypeId} {ops : Array Oper} {Q : Exit → Act → World → Prop} {rest : List Oper} {d : Nat} {pos : String} {after : Array Edge} {w : World} {x0 x1 x2 x3 x4 x5 : Operand} {c0_0 c0_1 c0_2 c0_3 c0_4 c0_5 c0_6 c0_7 c0_8 c1_0 c1_1 c1_2 c1_3 c1_4 c1_5 c1_6 c1_7 c1_8 c2_0 c2_1 c2_2 c2_3 c2_4 c2_5 c2_6 c2_7 c2_8 c3_0 c3_1 c3_2 c3_3 c3_4 c3_5 c3_6 c3_7 c3_8 c4_0 c4_1 c4_2 c4_3 c4_4 c4_5 c4_6 c4_7 c4_8 c5_0 c5_1 c5_2 c5_3 c5_4 c5_5 c5_6 c5_7 c5_8 : Value} (h0 : (ev l x0).cells = #[c0_0,c0_1,c0_2,c0_3,c0_4,c0_5,c0_6,c0_7,c0_8]) (h1 : (ev l x1).cells = #[c1_0,c1_1,c1_2,c1_3,c1_4,c1_5,c1_6,c1_7,c1_8]) (h2 : (ev l x2).cells = #[c2_0,c2_1,c2_2,c2_3,c2_4,c2_5,c2_6,c2_7,c2_8]) (h3 : (ev l x3).cells = #[c3_0,c3_1,c3_2,c3_3,c3_4,c3_5,c3_6,c3_7,c3_8]) (h4 : (ev l x4).cells = #[c4_0,c4_1,c4_2,c4_3,c4_4,c4_5,c4_6,c4_7,c4_8]) (h5 : (ev l x5).cells = #[c5_0,c5_1,c5_2,c5_3,c5_4,c5_5,c5_6,c5_7,c5_8]) (h : ∀ w' g,dD w w' → w.heap.size ≤ g → fX w' g [c0_0,c0_1,c0_2,c0_3,c0_4,c0_5,c0_6,c0_7,c0_8,c1_0,c1_1,c1_2,c1_3,c1_4,c1_5,c1_6,c1_7,c1_8,c2_0,c2_1,c2_2,c2_3,c2_4,c2_5,c2_6,c2_7,c2_8,c3_0,c3_1,c3_2,c3_3,c3_4,c3_5,c3_6,c3_7,c3_8,c4_0,c4_1,c4_2,c4_3,c4_4,c4_5,c4_6,c4_7,c4_8,c5_0,c5_1,c5_2,c5_3,c5_4,c5_5,c5_6,c5_7,c5_8] 53 → wpList prog ops Q rest (Fr (l.set d (.slice (some ⟨g,0,none⟩) 6 6)) ds) w') : wpList prog ops Q (Oper.mk (some d) (.buildSlice 29 6 #[(0,x0),(1,x1),(2,x2),(3,x3),(4,x4),(5,x5)]) ty pos after none :: rest) (Fr l ds) w :=
 kE (vs:=#[(0,ev l x0),(1,ev l x1),(2,ev l x2),(3,ev l x3),(4,ev l x4),(5,ev l x5)]) (base:=#[.int .i64 0,.int .i64 0,.int .i64 0,.int .i64 0,.int .i64 0,.int .i64 0,.int .i64 0,.int .i64 0,.int .i64 0,.int .i64 0,.int .i64 0,.int .i64 0,.int .i64 0,.int .i64 0,.int .i64 0,.int .i64 0,.int .i64 0,.int .i64 0,.int .i64 0,.int .i64 0,.int .i64 0,.int .i64 0,.int .i64 0,.int .i64 0,.int .i64 0,.int .i64 0,.int .i64 0,.int .i64 0,.int .i64 0,.int .i64 0,.int .i64 0,.int .i64 0,.int .i64 0,.int .i64 0,.int .i64 0,.int .i64 0,.int .i64 0,.int .i64 0,.int .i64 0,.int .i64 0,.int .i64 0,.int .i64 0,.int .i64 0,.int .i64 0,.int .i64 0,.int .i64 0,.int .i64 0,.int .i64 0,.int .i64 0,.int .i64 0,.int .i64 0,.int .i64 0,.int .i64 0,.int .i64 0]) (c:=9) (z:=(.agg #[.int .i64 0,.int .i64 0,.int .i64 0,.int .i64 0,.int .i64 0,.int .i64 0,.int .i64 0,.int .i64 0,.int .i64 0])) bZ (by kernel_rfl) (by decide) (by decide) (by kernel_rfl) (by simp) (by simp [Instr.fill,h0,h1,h2,h3,h4,h5]) h
theorem lH {ds : List Deferred} {l : List Value} {ty : TypeId} {ops : Array Oper} {Q : Exit → Act → World → Prop} {rest : List Oper} {d : Nat} {pos : String} {after : Array Edge} {w : World} {x0 : Operand} {c0_0 c0_1 c0_2 c0_3 c0_4 c0_5 : Value} (h0 : (ev l x0).cells = #[c0_0,c0_1,c0_2,c0_3,c0_4,c0_5]) (h : ∀ w' g,dD w w' → w.heap.size ≤ g → fX w' g [c0_0,c0_1,c0_2,c0_3,c0_4,c0_5] 50 → wpList prog ops Q rest (Fr (l.set d (.slice (some ⟨g,0,none⟩) 1 1)) ds) w') : wpList prog ops Q (Oper.mk (some d) (.buildSlice 30 1 #[(0,x0)]) ty pos after none :: rest) (Fr l ds) w :=
 kE (vs:=#[(0,ev l x0)]) (base:=#[.int .i64 0,.int .i64 0,.int .i64 0,.int .i64 0,.int .i64 0,.int .i64 0]) (c:=6) (z:=(.agg #[.int .i64 0,.int .i64 0,.int .i64 0,.int .i64 0,.int .i64 0,.int .i64 0])) jG (by kernel_rfl) (by decide) (by decide) (by kernel_rfl) (by simp) (by simp [Instr.fill,h0]) h
theorem yZ {ds : List Deferred} {l : List Value} {ty : TypeId} {ops : Array Oper} {Q : Exit → Act → World → Prop} {rest : List Oper} {d : Nat} {pos : String} {after : Array Edge} {w : World} {x0 : Operand} {c0_0 c0_1 c0_2 c0_3 c0_4 c0_5 : Value} (h0 : (ev l x0).cells = #[c0_0,c0_1,c0_2,c0_3,c0_4,c0_5]) (h : ∀ w' g,dD w w' → w.heap.size ≤ g → fX w' g [c0_0,c0_1,c0_2,c0_3,c0_4,c0_5] 57 → wpList prog ops Q rest (Fr (l.set d (.slice (some ⟨g,0,none⟩) 1 1)) ds) w') : wpList prog ops Q (Oper.mk (some d) (.buildSlice 41 1 #[(0,x0)]) ty pos after none :: rest) (Fr l ds) w :=
 kE (vs:=#[(0,ev l x0)]) (base:=#[.int .i64 0,.int .i64 0,.int .i64 0,.int .i64 0,.int .i64 0,.int .i64 0]) (c:=6) (z:=(.agg #[.int .i64 0,.int .i64 0,.int .i64 0,.int .i64 0,.int .i64 0,.int .i64 0])) fL (by kernel_rfl) (by decide) (by decide) (by kernel_rfl) (by simp) (by simp [Instr.fill,h0]) h
theorem Vh {ds : List Deferred} {l : List Value} {ty : TypeId} {ops : Array Oper} {Q : Exit → Act → World → Prop} {rest : List Oper} {d : Nat} {pos : String} {after : Array Edge} {w : World} {x0 x1 x2 : Operand} {c0_0 c0_1 c0_2 c0_3 c0_4 c0_5 c1_0 c1_1 c1_2 c1_3 c1_4 c1_5 c2_0 c2_1 c2_2 c2_3 c2_4 c2_5 : Value} (h0 : (ev l x0).cells = #[c0_0,c0_1,c0_2,c0_3,c0_4,c0_5]) (h1 : (ev l x1).cells = #[c1_0,c1_1,c1_2,c1_3,c1_4,c1_5]) (h2 : (ev l x2).cells = #[c2_0,c2_1,c2_2,c2_3,c2_4,c2_5]) (h : ∀ w' g,dD w w' → w.heap.size ≤ g → fX w' g [c0_0,c0_1,c0_2,c0_3,c0_4,c0_5,c1_0,c1_1,c1_2,c1_3,c1_4,c1_5,c2_0,c2_1,c2_2,c2_3,c2_4,c2_5] 57 → wpList prog ops Q rest (Fr (l.set d (.slice (some ⟨g,0,none⟩) 3 3)) ds) w') : wpList prog ops Q (Oper.mk (some d) (.buildSlice 41 3 #[(0,x0),(1,x1),(2,x2)]) ty pos after none :: rest) (Fr l ds) w :=
 kE (vs:=#[(0,ev l x0),(1,ev l x1),(2,ev l x2)]) (base:=#[.int .i64 0,.int .i64 0,.int .i64 0,.int .i64 0,.int .i64 0,.int .i64 0,.int .i64 0,.int .i64 0,.int .i64 0,.int .i64 0,.int .i64 0,.int .i64 0,.int .i64 0,.int .i64 0,.int .i64 0,.int .i64 0,.int .i64 0,.int .i64 0]) (c:=6) (z:=(.agg #[.int .i64 0,.int .i64 0,.int .i64 0,.int .i64 0,.int .i64 0,.int .i64 0])) fL (by kernel_rfl) (by decide) (by decide) (by kernel_rfl) (by simp) (by simp [Instr.fill,h0,h1,h2]) h
theorem Vi {ds : List Deferred} {l : List Value} {ty : TypeId} {ops : Array Oper} {Q : Exit → Act → World → Prop} {rest : List Oper} {d : Nat} {pos : String} {after : Array Edge} {w : World} {x0 x1 x2 x3 x4 : Operand} {c0_0 c1_0 c2_0 c3_0 c4_0 : Value} (h0 : (ev l x0).cells = #[c0_0]) (h1 : (ev l x1).cells = #[c1_0]) (h2 : (ev l x2).cells = #[c2_0]) (h3 : (ev l x3).cells = #[c3_0]) (h4 : (ev l x4).cells = #[c4_0]) (h : ∀ w' g,dD w w' → w.heap.size ≤ g → fX w' g [c0_0,c1_0,c2_0,c3_0,c4_0] 76 → wpList prog ops Q rest (Fr (l.set d (.slice (some ⟨g,0,none⟩) 5 5)) ds) w') : wpList prog ops Q (Oper.mk (some d) (.buildSlice 77 5 #[(0,x0),(1,x1),(2,x2),(3,x3),(4,x4)]) ty pos after none :: rest) (Fr l ds) w :=
 kE (vs:=#[(0,ev l x0),(1,ev l x1),(2,ev l x2),(3,ev l x3),(4,ev l x4)]) (base:=#[.nilFunc,.nilFunc,.nilFunc,.nilFunc,.nilFunc]) (c:=1) (z:=(.agg #[.nilFunc])) Dn (by kernel_rfl) (by decide) (by decide) (by kernel_rfl) (by simp) (by simp [Instr.fill,h0,h1,h2,h3,h4]) h
theorem uY {ds : List Deferred} {l : List Value} {ty : TypeId} {ops : Array Oper} {Q : Exit → Act → World → Prop} {rest : List Oper} {d : Nat} {pos : String} {after : Array Edge} {w : World} {x0 : Operand} {c0_0 c0_1 c0_2 : Value} (h0 : (ev l x0).cells = #[c0_0,c0_1,c0_2]) (h : ∀ w' g,dD w w' → w.heap.size ≤ g → fX w' g [c0_0,c0_1,c0_2] 48 → wpList prog ops Q rest (Fr (l.set d (.slice (some ⟨g,0,none⟩) 1 1)) ds) w') : wpList prog ops Q (Oper.mk (some d) (.buildSlice 98 1 #[(0,x0)]) ty pos after none :: rest) (Fr l ds) w :=
 kE (vs:=#[(0,ev l x0)]) (base:=#[.int .i64 0,.int .i64 0,.int .i64 0]) (c:=3) (z:=(.agg #[.int .i64 0,.int .i64 0,.int .i64 0])) jI (by kernel_rfl) (by decide) (by decide) (by kernel_rfl) (by simp) (by simp [Instr.fill,h0]) h
theorem Pu {ds : List Deferred} {l : List Value} {ty : TypeId} {ops : Array Oper} {Q : Exit → Act → World → Prop} {rest : List Oper} {d : Nat} {pos : String} {after : Array Edge} {w : World} {x0 : Operand} {c0_0 c0_1 c0_2 c0_3 c0_4 c0_5 : Value} (h0 : (ev l x0).cells = #[c0_0,c0_1,c0_2,c0_3,c0_4,c0_5]) (h : ∀ w' g,dD w w' → w.heap.size ≤ g → fX w' g [c0_0,c0_1,c0_2,c0_3,c0_4,c0_5] 143 → wpList prog ops Q rest (Fr (l.set d (.slice (some ⟨g,0,none⟩) 1 1)) ds) w') : wpList prog ops Q (Oper.mk (some d) (.buildSlice 139 1 #[(0,x0)]) ty pos after none :: rest) (Fr l ds) w :=
 kE (vs:=#[(0,ev l x0)]) (base:=#[.int .i64 0,.int .i64 0,.int .i64 0,.int .i64 0,.int .i64 0,.int .i64 0]) (c:=6) (z:=(.agg #[.int .i64 0,.int .i64 0,.int .i64 0,.int .i64 0,.int .i64 0,.int .i64 0])) underlying139 (by kernel_rfl) (by decide) (by decide) (by kernel_rfl) (by simp) (by simp [Instr.fill,h0]) h
end Go.Proofs.YtfohfflkhpfjeaaGreatDoor
namespace Go.Lith
open Go.RowKit
def jO (w : World) (g : Nat) (es : Array MapEntry) (c : Nat) : Prop:=w.heap[g]? = some (.map es c)
def Av (w : World) (r g s : Nat) (seen : Array Nat) (c : Nat) : Prop:=w.heap[r]? = some (.mapIter (some g) s seen c)
theorem jO.ext {w w' : World} {g c : Nat} {es : Array MapEntry} (h : jO w g es c) (hE : dD w w') : jO w' g es c:=hE.block h
theorem jO.lt {w : World} {g c : Nat} {es : Array MapEntry} (h : jO w g es c) : g < w.heap.size:=(Array.getElem?_eq_some_iff.1 h).1
theorem Av.lt {w : World} {r g s c : Nat} {seen : Array Nat} (h : Av w r g s seen c) : r < w.heap.size:=(Array.getElem?_eq_some_iff.1 h).1
section
variable {P : Program} {ds : List Deferred} {l : List Value} {x : Operand} {T ty : TypeId} {ops : Array Oper} {Q : Exit → Act → World → Prop} {rest : List Oper} {d : Nat} {pos : String} {after : Array Edge} {w : World}
theorem Vj (h : ∀ w' g,dD w w' → w.heap.size ≤ g → jO w' g #[] 0 → wpList P ops Q rest (Fr (l.set d (.map (some g))) ds) w') : wpList P ops Q (Oper.mk (some d) (.makeMap T none) ty pos after none :: rest) (Fr l ds) w :=
 jU (w':=w.alloc (.map #[] 0)) (v:=.map (some w.heap.size)) (fun o ho _=>by simp [execOp,ho,Instr.makeMap,newObj,Sem.run]) (h _ _ ((dD.refl w).alloc _) (Nat.le_refl _) (heap_alloc_new w _))
theorem abI {k e : TypeId} {g c : Nat} {es : Array MapEntry} (hu : P.underlying T = some (.map k e)) (hx : ev l x = .map (some g)) (hM : jO w g es c) (h : ∀ w' r,dD w w' → w.heap.size ≤ r → Av w' r g c #[] c → wpList P ops Q rest (Fr (l.set d (.pointer (some ⟨r,0,none⟩))) ds) w') :
 wpList P ops Q (Oper.mk (some d) (.range T x) ty pos after none :: rest) (Fr l ds) w :=
 jU (w':=w.alloc (.mapIter (some g) c #[] c)) (v:=.pointer (some ⟨w.heap.size,0,none⟩)) (fun o ho _=>by
  unfold jO at hM;simp [execOp,ho,cL,hx,Instr.range,run_underlying hu,getObj,hM,newObj,Sem.run]) (h _ _ ((dD.refl w).alloc _) (Nat.le_refl _) (heap_alloc_new w _))
end
end Go.Lith
namespace Go.Lith
open Go.RowKit Go.ChangeMaps Go.MapKept
/-! ### Lists of pairs -/
section
variable {K V : Type} [DecidableEq K]
def fJ : List (K × V) → K → V → List (K × V)
 | [],k,v=>[(k,v)]
 | x :: D,k,v=>if x.1 = k then (k,v) :: D else x :: fJ D k v
def cD : List (K × V) → K → Option V
 | [],_=>none
 | x :: D,k=>if x.1 = k then some x.2 else cD D k
def oV : List (K × V) → K → List (K × V)
 | [],_=>[]
 | x :: D,k=>if x.1 = k then D else x :: oV D k
def mF : List (K × V) → K → Nat → Option (Nat × V)
 | [],_,_=>none
 | x :: D,k,i=>if x.1 = k then some (i,x.2) else mF D k (i + 1)
theorem mM : ∀ (D : List (K × V)) (k : K) (i : Nat),mF D k i = none → cD D k = none ∧ (∀ u,fJ D k u = D ++ [(k,u)]) ∧ oV D k = D
 | [],_,_,_=>⟨rfl,fun _=>rfl,rfl⟩
 | x :: D,k,i,h=>by
  unfold mF at h;by_cases e : x.1 = k
  · rw [if_pos e] at h;cases h
  · rw [if_neg e] at h
    obtain ⟨h1,h2,h3⟩:=mM D k (i + 1) h;exact ⟨by simp [cD,e,h1],fun u=>by simp [fJ,e,h2],by simp [oV,e,h3]⟩
theorem mN : ∀ (D : List (K × V)) (k : K) (i j : Nat) (v : V),mF D k i = some (j,v) → ∃ p,j = i + p ∧ D[p]? = some (k,v) ∧ cD D k = some v ∧ (∀ u,fJ D k u = D.set p (k,u)) ∧ oV D k = D.eraseIdx p
 | [],_,_,_,_,h=>by cases h
 | x :: D,k,i,j,v,h=>by
  unfold mF at h;by_cases e : x.1 = k
  · rw [if_pos e] at h
    cases h;obtain ⟨a,b⟩:=x;obtain rfl : a = k:=e;exact ⟨0,rfl,rfl,by simp [cD],fun u=>by simp [fJ],by simp [oV]⟩
  · rw [if_neg e] at h
    obtain ⟨p,h1,h2,h3,h4,h5⟩:=mN D k (i + 1) j v h;exact ⟨p + 1,by omega,by simpa using h2,by simp [cD,e,h3],fun u=>by simp [fJ,e,h4],by simp [oV,e,h5]⟩
theorem lI : ∀ (D : List (K × V)) (k k' : K) (v : V),cD (fJ D k v) k' = if k = k' then some v else cD D k'
 | [],k,k',v=>by simp [fJ,cD]
 | x :: D,k,k',v=>by
  unfold fJ;by_cases e : x.1 = k
  · rw [if_pos e]
    subst e;by_cases e' : x.1 = k' <;> simp [cD,e']
  · rw [if_neg e]
    unfold cD;rw [lI D k k' v];by_cases e' : x.1 = k'
    · rw [if_pos e',if_pos e',if_neg (fun h=>e (e'.trans h.symm))]
    · rw [if_neg e',if_neg e']
theorem xT : ∀ {D : List (K × V)} {k : K} {v : V},cD D k = some v → (k,v) ∈ D
 | [],_,_,h=>by cases h
 | x :: D,k,v,h=>by
  unfold cD at h;split at h
  · rename_i e;cases h;subst e;exact List.mem_cons_self ..
  · exact List.mem_cons_of_mem _ (xT h)
theorem qP : ∀ {D : List (K × V)} {k : K},cD D k = none ↔ k ∉ D.map (·.1)
 | [],_=>by simp [cD]
 | x :: D,k=>by
  unfold cD;split
  · rename_i e;simp [e]
  · rename_i e
    rw [qP (D:=D)];simp only[List.map_cons,List.mem_cons,not_or];exact ⟨fun h=>⟨fun h'=>e h'.symm,h⟩,fun h=>h.2⟩
theorem lJ : ∀ {D : List (K × V)} {k : K} {v : V},(D.map (·.1)).Nodup → (k,v) ∈ D → cD D k = some v
 | [],_,_,_,h=>by cases h
 | x :: D,k,v,hn,h=>by
  have hn':=List.nodup_cons.1 hn;unfold cD;rcases List.mem_cons.1 h with rfl | h
  · simp
  · rw [if_neg fun e=>hn'.1 (by show x.1 ∈ _;rw [e];exact List.mem_map.2 ⟨_,h,rfl⟩)]
    exact lJ hn'.2 h
theorem zW : ∀ (D : List (K × V)) (k : K) (v : V),(fJ D k v).map (·.1) = if k ∈ D.map (·.1) then D.map (·.1) else D.map (·.1) ++ [k]
 | [],k,v=>by simp [fJ]
 | x :: D,k,v=>by
  unfold fJ;by_cases e : x.1 = k
  · simp [e]
  · have e' : ¬ k = x.1:=fun h=>e h.symm
    simp only[if_neg e,List.map_cons,zW D k v,List.mem_cons,e',false_or];split <;> simp
theorem wJ {D : List (K × V)} (h : (D.map (·.1)).Nodup) (k : K) (v : V) : ((fJ D k v).map (·.1)).Nodup:=by
 rw [zW];split
 · exact h
 · rename_i hk
   exact List.nodup_append.2 ⟨h,by simp,fun a ha b hb e=>by rw [List.mem_singleton.1 hb] at e;exact hk (e ▸ ha)⟩
theorem Hl : ∀ {D : List (K × V)} (k k' : K),(D.map (·.1)).Nodup → cD (oV D k) k' = if k = k' then none else cD D k'
 | [],k,k',_=>by simp [oV,cD]
 | x :: D,k,k',hn=>by
  have hn':=List.nodup_cons.1 hn;unfold oV;by_cases e : x.1 = k
  · rw [if_pos e]
    by_cases e' : k = k'
    · rw [if_pos e']
      exact qP.2 (by rw [← e',← e];exact hn'.1)
    · rw [if_neg e']
      simp [cD,e,e']
  · rw [if_neg e]
    unfold cD;rw [Hl k k' hn'.2];by_cases e' : x.1 = k'
    · rw [if_pos e',if_pos e',if_neg (fun h=>e (e'.trans h.symm))]
    · rw [if_neg e',if_neg e']
theorem Me : ∀ (D : List (K × V)) (k : K),(oV D k).Sublist D
 | [],_=>List.Sublist.refl _
 | x :: D,k=>by
  unfold oV;split
  · exact List.sublist_cons_self _ _
  · exact (Me D k).cons_cons x
theorem Pv {D : List (K × V)} (h : (D.map (·.1)).Nodup) (k : K) : ((oV D k).map (·.1)).Nodup:=h.sublist ((Me D k).map _)
end
/-! ### A map's entries -/
def Vk (e : MapEntry) : Value × Value:=(e.key,e.val)
structure bV {K V : Type} (ek : K → Value) (ev : V → Value) (D : List (K × V)) (es : Array MapEntry) (c : Nat) : Prop where
 cells : es.toList.map Vk = D.map fun x=>(ek x.1,ev x.2)
 born : ∀ e ∈ es.toList,e.born < c
 nd : (es.toList.map (·.born)).Nodup
theorem bV.nil {K V : Type} (ek : K → Value) (ev : V → Value) : bV ek ev ([] : List (K × V)) #[] 0:=⟨rfl,fun _ h=>by simp at h,by simp⟩
theorem bV.len {K V : Type} {ek : K → Value} {ev : V → Value} {D : List (K × V)} {es : Array MapEntry} {c : Nat} (h : bV ek ev D es c) : es.size = D.length:=by
 have:=congrArg List.length h.cells;simpa using this
structure pV {K : Type} [DecidableEq K] (P : Program) (T : TypeId) (ek : K → Value) : Prop where
 chk : ∀ e k w,(Instr.checkKey e 10000 T (ek k)).run P w = .ok () w
 now : ∃ t,P.underlying T = some t ∧ ∀ a b,Instr.sameNow t (ek a) (ek b) = none ∨ Instr.sameNow t (ek a) (ek b) = some (decide (a = b))
 eq : ∀ a b w,(Op.equal T (ek a) (ek b)).run P w = .ok (decide (a = b)) w
 bits : ∀ a,Instr.sameBits 10000 (ek a) (ek a) = true
section
variable {K V : Type} [DecidableEq K] {P : Program} {T : TypeId} {ek : K → Value} {ev : V → Value}
theorem Aw (kt : pV P T ek) (k : K) (w : World) : ∀ (L : List MapEntry) (D : List (K × V)) (i : Nat),L.map Vk = D.map (fun x=>(ek x.1,ev x.2)) →
 (Instr.findAsking T (ek k) L i).run P w = .ok ((mF D k i).map fun p=>(p.1,ev p.2)) w
 | [],D,i,h=>by
  obtain rfl : D = []:=by simpa using h.symm
  simp [Instr.findAsking,mF]
 | e :: L,[],i,h=>by simp at h
 | e :: L,x :: D,i,h=>by
  simp only[List.map_cons,List.cons.injEq,Vk,Prod.mk.injEq] at h;obtain ⟨⟨h1,h2⟩,h3⟩:=h;have ih:=Aw kt k w L D (i + 1) h3;unfold Instr.findAsking mF;rw [h1,h2];simp only[Sem.run_bind,kt.eq,Result.andThen];by_cases e' : x.1 = k
  · rw [if_pos (decide_eq_true e'.symm),if_pos e']
    rfl
  · rw [if_neg (by rw [decide_eq_false (Ne.symm e')];exact Bool.false_ne_true),if_neg e']
    exact ih
theorem Mf (t : TypeDesc) (k : K) (hn : ∀ a b : K,Instr.sameNow t (ek a) (ek b) = none ∨ Instr.sameNow t (ek a) (ek b) = some (decide (a = b))) : ∀ (L : List MapEntry) (D : List (K × V)) (i : Nat),L.map Vk = D.map (fun x=>(ek x.1,ev x.2)) →
 Instr.findNow t (ek k) L i = none ∨ Instr.findNow t (ek k) L i = some ((mF D k i).map fun p=>(p.1,ev p.2))
 | [],D,i,h=>by
  obtain rfl : D = []:=by simpa using h.symm
  simp [Instr.findNow,mF]
 | e :: L,[],i,h=>by simp at h
 | e :: L,x :: D,i,h=>by
  simp only[List.map_cons,List.cons.injEq,Vk,Prod.mk.injEq] at h;obtain ⟨⟨h1,h2⟩,h3⟩:=h;have ih:=Mf t k hn L D (i + 1) h3;unfold Instr.findNow mF;rw [h1,h2];rcases hn k x.1 with e0 | e0
  · left;rw [e0]
  · rw [e0]
    by_cases e' : x.1 = k
    · right;simp [e']
    · rw [show decide (k = x.1) = false from decide_eq_false (Ne.symm e')]
      simpa [e'] using ih
theorem oW (kt : pV P T ek) (k : K) (w : World) {es : Array MapEntry} {D : List (K × V)} {c : Nat} (h : bV ek ev D es c) : (Instr.findKey T (ek k) es.toList).run P w = .ok ((mF D k 0).map fun p=>(p.1,ev p.2)) w:=by
 obtain ⟨t,ht,hn⟩:=kt.now;unfold Instr.findKey;simp only[Sem.run_bind,run_underlying ht,Result.andThen];rcases Mf t k hn es.toList D 0 h.cells with e | e
 · rw [e]
   exact Aw kt k w es.toList D 0 h.cells
 · rw [e]
   rfl
end
section
variable {K V : Type} [DecidableEq K] {P : Program} {T M E ty : TypeId} {ek : K → Value} {ev : V → Value} {w w0 : World} {g c : Nat} {es : Array MapEntry} {D : List (K × V)}
theorem Ax {v0 : V} (hu : P.underlying M = some (.map T E)) (kt : pV P T ek) (hM : jO w g es c) (hD : bV ek ev D es c) (hz : lO P E (ev v0)) (k : K) (b : Bool) :
 (Instr.lookup M (.map (some g)) (ek k) b).run P w = .ok (if b then .tuple #[ev ((cD D k).getD v0),.bool (cD D k).isSome] else ev ((cD D k).getD v0)) w:=by
 unfold jO at hM;obtain ⟨inf,hi,hz⟩:=hz;have hzv : (zeroValue E).run P w = .ok (ev v0) w:=by simp [zeroValue,typeInfo,program,Sem.run,hi,hz]
 simp only[Instr.lookup,Sem.run_bind,run_underlying hu,Result.andThen,getObj,Sem.run,hM,Sem.run_pure,kt.chk,oW kt k w hD];cases hf : mF D k 0 with
 | none =>
  obtain ⟨h1,_⟩:=mM D k 0 hf;rw [h1];simp only[Option.map_none,Sem.run_bind,hzv,Result.andThen,Sem.run_pure];cases b <;> rfl
 | some p =>
  obtain ⟨j,v⟩:=p;obtain ⟨_,_,_,h1,_⟩:=mN D k 0 j v hf;rw [h1];simp only[Option.map_some,Sem.run_pure,Result.andThen];cases b <;> rfl
theorem kL {g : Nat} {o o' : Obj} (hM : w.heap[g]? = some o) : (setBlock w g o').heap[g]? = some o':=by
 have:=(Array.getElem?_eq_some_iff.1 hM).1;simp [setBlock,this]
theorem oA {g : Nat} (o : Obj) : Wz w (setBlock w g o) g:=⟨rfl,rfl,rfl,by simp [setBlock],fun k hk=>by simp [setBlock,Array.getElem?_setIfInBounds_ne (Ne.symm hk)]⟩
theorem Dt {α β : Type} (f : α → β) (L : List α) (i : Nat) (x : α) (g : α → α) (hi : L[i]? = some x) : (L.modify i g).map f = (L.map f).set i (f (g x)):=by
 apply List.ext_getElem?;intro j;simp only[List.getElem?_map,List.getElem?_modify,List.getElem?_set,List.length_map];by_cases e : i = j
 · subst e
   rw [hi];have:=(List.getElem?_eq_some_iff.1 hi).1;simp [this]
 · simp [e]
theorem bV.set (hD : bV ek ev D es c) {p : Nat} {k : K} {v : V} (hp : D[p]? = some (k,v)) (u : V) : bV ek ev (D.set p (k,u)) (es.modify p fun e=>{ e with key:=ek k,val:=ev u }) c:=by
 have hl : es.toList.length = D.length:=by have:=congrArg List.length hD.cells;simpa using this
 have hlt : p < es.toList.length:=by rw [hl];exact (List.getElem?_eq_some_iff.1 hp).1
 have hx : es.toList[p]? = some es.toList[p]:=List.getElem?_eq_getElem hlt;have hb : (es.modify p fun e=>{ e with key:=ek k,val:=ev u }).toList.map (·.born) = es.toList.map (·.born):=by
  rw [Array.toList_modify,Dt _ _ _ _ _ hx];apply List.ext_getElem?;intro j;rw [List.getElem?_set];split
  · rename_i e;subst e;rw [if_pos (by simpa using hlt),List.getElem?_map,hx];rfl
  · rfl
 refine ⟨?_,fun e he=>?_,by rw [hb];exact hD.nd⟩
 · rw [Array.toList_modify,Dt _ _ _ _ _ hx,hD.cells,List.map_set]
   rfl
 · have : e.born ∈ (es.modify p fun e=>{ e with key:=ek k,val:=ev u }).toList.map (·.born):=List.mem_map.2 ⟨e,he,rfl⟩
   rw [hb] at this;obtain ⟨e',he',hh⟩:=List.mem_map.1 this;rw [← hh];exact hD.born e' he'
theorem bV.push (hD : bV ek ev D es c) (k : K) (u : V) : bV ek ev (D ++ [(k,u)]) (es.push { key:=ek k,val:=ev u,born:=c }) (c + 1):=by
 refine ⟨by simp [hD.cells,Vk],fun e he=>?_,?_⟩
 · rw [Array.toList_push] at he
   rcases List.mem_append.1 he with he | he
   · exact Nat.lt_succ_of_lt (hD.born e he)
   · rw [List.mem_singleton.1 he];exact Nat.lt_succ_self _
 · rw [Array.toList_push,List.map_append]
   refine List.nodup_append.2 ⟨hD.nd,by simp,fun a ha b hb e=>?_⟩;obtain ⟨e',he',rfl⟩:=List.mem_map.1 ha;have : b = c:=by simpa using hb
   have:=hD.born e' he';omega
theorem bV.erase (hD : bV ek ev D es c) (p : Nat) : bV ek ev (D.eraseIdx p) (es.eraseIdxIfInBounds p) c:=by
 have e : (es.eraseIdxIfInBounds p).toList = es.toList.eraseIdx p:=by
  by_cases h : p < es.size
  · simp [Array.eraseIdxIfInBounds,h]
  · simp only[Array.eraseIdxIfInBounds,h,dite_false]
    exact (List.eraseIdx_of_length_le (by simpa using Nat.le_of_not_lt h)).symm
 refine ⟨?_,fun x hx=>hD.born x ?_,?_⟩
 · rw [e,map_eraseIdx,hD.cells,map_eraseIdx]
 · rw [e] at hx;exact List.mem_of_mem_eraseIdx hx
 · rw [e];exact hD.nd.sublist ((List.eraseIdx_sublist _ _).map _)
theorem Mg (hu : P.underlying M = some (.map T E)) (kt : pV P T ek) (hM : jO w g es c) (hD : bV ek ev D es c) (k : K) (u : V) :
 ∃ es' c',(Instr.mapUpdate M (.map (some g)) (ek k) (ev u)).run P w = .ok () (setBlock w g (.map es' c')) ∧ bV ek ev (fJ D k u) es' c':=by
 unfold jO at hM;cases hf : mF D k 0 with
 | none =>
  obtain ⟨_,h1,_⟩:=mM D k 0 hf;refine ⟨_,_,?_,h1 u ▸ hD.push k u⟩;simp only[Instr.mapUpdate,Sem.run_bind,run_underlying hu,Result.andThen,getObj,Sem.run,hM,Sem.run_pure,kt.chk,oW kt k w hD,hf,Option.map_none];exact run_setObj_map _ hM
 | some p =>
  obtain ⟨j,v⟩:=p;obtain ⟨p,rfl,hp,_,h1,_⟩:=mN D k 0 j v hf;rw [Nat.zero_add] at hf;have hl : es.toList.length = D.length:=by have:=congrArg List.length hD.cells;simpa using this
  have hlt : p < es.toList.length:=by rw [hl];exact (List.getElem?_eq_some_iff.1 hp).1
  have hk : ((es[p]?).map (·.key)).getD (ek k) = ek k:=by
   have h2:=congrArg (fun L=>L[p]?) hD.cells;simp only[List.getElem?_map,hp,Option.map_some] at h2;rw [Array.getElem?_toList] at h2;cases h3 : es[p]? with
   | none=>rfl
   | some x =>
    rw [h3] at h2;simp only[Option.map_some,Option.some.injEq,Vk,Prod.mk.injEq] at h2;simpa using h2.1
  refine ⟨_,_,?_,h1 u ▸ hD.set hp u⟩;simp only[Instr.mapUpdate,Sem.run_bind,run_underlying hu,Result.andThen,getObj,Sem.run,hM,Sem.run_pure,kt.chk,oW kt k w hD,hf,Option.map_some,hk,Instr.keyThatStays,kt.bits,if_true];exact run_setObj_map _ hM
theorem Mh {T2 : TypeId} (hu : P.underlying M = some (.map T E)) (kt : pV P T ek) (hM : jO w g es c) (hD : bV ek ev D es c) (k : K) :
 ∃ es' c',(Builtin.delete_ #[M,T2] ty #[.map (some g),ek k]).run P w = .ok (.tuple #[]) (setBlock w g (.map es' c')) ∧ bV ek ev (oV D k) es' c':=by
 unfold jO at hM;cases hf : mF D k 0 with
 | none =>
  obtain ⟨_,_,h1⟩:=mM D k 0 hf;refine ⟨es,c,?_,by rw [h1];exact hD⟩;simp [Builtin.delete_,run_underlying hu,getObj,Sem.run,hM,kt.chk,oW kt k w hD,hf,run_setObj_map _ hM,setBlock]
 | some p =>
  obtain ⟨j,v⟩:=p;obtain ⟨p,rfl,hp,_,_,h1⟩:=mN D k 0 j v hf;rw [Nat.zero_add] at hf;refine ⟨_,c,?_,h1 ▸ hD.erase p⟩;simp [Builtin.delete_,run_underlying hu,getObj,Sem.run,hM,kt.chk,oW kt k w hD,hf,run_setObj_map _ hM,setBlock]
/-! ### Ranges -/
def kZ (ek : K → Value) (ev : V → Value) (D : List (K × V)) (es : Array MapEntry) (seen : Array Nat) (dn rs : List (K × V)) : Prop :=
 (dn ++ rs).Perm D ∧ ∃ dE rE : List MapEntry,seen.toList = dE.map (·.born) ∧ (dE ++ rE).Perm es.toList ∧ dE.map Vk = dn.map (fun x=>(ek x.1,ev x.2)) ∧ rE.map Vk = rs.map (fun x=>(ek x.1,ev x.2))
theorem kZ.start (hD : bV ek ev D es c) : kZ ek ev D es #[] [] D:=⟨List.Perm.refl _,[],es.toList,rfl,List.Perm.refl _,rfl,hD.cells⟩
theorem kZ.done {seen : Array Nat} {dn : List (K × V)} (h : kZ ek ev D es seen dn []) : dn.Perm D:=by simpa using h.1
def Nxt (ek : K → Value) (ev : V → Value) (D : List (K × V)) (es : Array MapEntry) (dn rs : List (K × V)) (b : Bool) (kv vv : Value) (seen' : Array Nat) : Prop :=
 (b = false ∧ rs = []) ∨ (b = true ∧ ∃ k v rs',rs.Perm ((k,v) :: rs') ∧ kv = ek k ∧ vv = ev v ∧ kZ ek ev D es seen' (dn ++ [(k,v)]) rs')
def Mi (b : Bool) (k v : Value) : Value:=.tuple (if b then #[.bool true,k,v] else #[.bool false])
theorem Vl {r s : Nat} {seen : Array Nat} {dn rs : List (K × V)} (hI : Av w r g c seen c) (hM : jO w g es c) (hD : bV ek ev D es c) (hT : kZ ek ev D es seen dn rs) :
 ∃ b kv vv seen' w1,(w1 = w ∨ w1 = w.drew) ∧ (Instr.next (.pointer (some ⟨r,0,none⟩)) false ty).run P w = .ok (Mi b kv vv) (setBlock w1 r (.mapIter (some g) c seen' c)) ∧ Nxt ek ev D es dn rs b kv vv seen':=by
 obtain ⟨hp,dE,rE,h1,h2,h3,h4⟩:=hT;have hnd : ((dE ++ rE).map (·.born)).Nodup:=(h2.map (·.born)).nodup_iff.2 hD.nd;rw [List.map_append,List.nodup_append] at hnd;have hleft : ∀ e,e ∈ (leftOf es seen).toList ↔ e ∈ rE:=fun e=>by
  unfold leftOf;simp only[Array.toList_filter,List.mem_filter,Bool.not_eq_true',Array.contains_eq_mem,decide_eq_false_iff_not];rw [← Array.mem_toList_iff (xs:=seen),h1,← h2.mem_iff,List.mem_append];constructor
  · rintro ⟨h | h,hn⟩
    · exact absurd (List.mem_map.2 ⟨e,h,rfl⟩) hn
    · exact h
  · intro h
    exact ⟨.inr h,fun hm=>hnd.2.2 _ hm _ (List.mem_map.2 ⟨e,h,rfl⟩) rfl⟩
 rcases run_next_at (P:=P) w ty r g c c seen es c hI hM hD.born (Nat.le_refl _) with ⟨h0,hr⟩ | ⟨e,he,w1,hw1,hr⟩
 · refine ⟨false,default,default,seen,w,.inl rfl,?_,.inl ⟨rfl,?_⟩⟩
   · rw [hr]
     have : setBlock w r (.mapIter (some g) c seen c) = w:=by
      unfold setBlock;have hlt:=(Array.getElem?_eq_some_iff.1 hI).1;have : w.heap.setIfInBounds r (.mapIter (some g) c seen c) = w.heap:=by
       apply Array.ext_getElem?;intro i;rw [Array.getElem?_setIfInBounds];split
       · rename_i e;subst e;exact hI.symm
       · rfl
      rw [this]
     rw [this];rfl
   · cases rs with
     | nil=>rfl
     | cons x rs =>
      cases rE with
      | nil=>simp at h4
      | cons e rE =>
       have:=(hleft e).2 (List.mem_cons_self ..);rw [Array.eq_empty_of_size_eq_zero h0] at this;simp at this
 · obtain ⟨s,t,rfl⟩:=List.append_of_mem ((hleft e).1 he)
   rw [List.map_append,List.map_cons] at h4;obtain ⟨rs1,rs2,rfl,e1,e2⟩:=List.map_eq_append_iff.1 h4.symm;obtain ⟨x,rs3,rfl,e3,e4⟩:=List.map_eq_cons_iff.1 e2;obtain ⟨k,v⟩:=x;simp only[Vk,Prod.mk.injEq] at e3;refine ⟨true,e.key,e.val,seen.push e.born,w1,hw1,hr,.inr ⟨rfl,k,v,rs1 ++ rs3,List.perm_middle,e3.1.symm,e3.2.symm,?_,dE ++ [e],s ++ t,?_,?_,?_,?_⟩⟩
   · refine List.Perm.trans ?_ hp
     simp only[List.append_assoc,List.cons_append,List.nil_append];exact List.Perm.append_left _ List.perm_middle.symm
   · simp [h1]
   · refine List.Perm.trans ?_ h2
     simp only[List.append_assoc,List.cons_append,List.nil_append];exact List.Perm.append_left _ List.perm_middle.symm
   · simp [h3,Vk,e3]
   · simp [e1,e4]
theorem Pw {r : Nat} {seen : Array Nat} {dn rs : List (K × V)} {k : K} {v : V} (hI : Av w r g c seen c) (hM : jO w g es c) (hD : bV ek ev D es c) (hT : kZ ek ev D es seen (dn ++ [(k,v)]) rs) :
 (Instr.entry (.pointer (some ⟨r,0,none⟩))).run P w = .ok (.tuple #[ek k,ev v]) w:=by
 obtain ⟨hp,dE,rE,h1,h2,h3,h4⟩:=hT;rw [List.map_append,List.map_cons,List.map_nil] at h3;obtain ⟨d1,d2,rfl,e1,e2⟩:=List.map_eq_append_iff.1 h3;obtain ⟨e,d3,rfl,e3,e4⟩:=List.map_eq_cons_iff.1 e2;obtain rfl : d3 = []:=by simpa using e4
 simp only[Vk,Prod.mk.injEq] at e3;have hs : seen = (d1.map (·.born)).toArray.push e.born:=by
  apply Array.toList_inj.1;rw [h1];simp
 have hm : e ∈ es.toList:=h2.mem_iff.1 (by simp);rw [hs] at hI;have:=run_entry_at (P:=P) w r g c _ es c e hI hM hm hD.nd;rw [this,e3.1,e3.2]
end
/-! ### Things in memory -/
def mI (g : Nat) (es : Array MapEntry) (c : Nat) : It where
 own b:=some g = some b
 P w:=jO w g es c
 lt w b h e:=by cases e;exact h.lt
 st w w' h _ k:=(k g rfl).trans h
def iI (r g c : Nat) (seen : Array Nat) : It where
 own b:=some r = some b
 P w:=Av w r g c seen c
 lt w b h e:=by cases e;exact h.lt
 st w w' h _ k:=(k r rfl).trans h
theorem bR.p {w0 w : World} {is : List It} (m : bR w0 w is) (k : Nat) {g c : Nat} {es : Array MapEntry} (hk : is[k]? = some (mI g es c)) : jO w g es c:=m.get k hk
theorem bR.r {w0 w : World} {is : List It} (m : bR w0 w is) (k : Nat) {r g c : Nat} {seen : Array Nat} (hk : is[k]? = some (iI r g c seen)) : Av w r g c seen c:=m.get k hk
section
variable {K V : Type} [DecidableEq K] {P : Program} {T M E ty : TypeId} {ek : K → Value} {ev : V → Value} {w w0 : World} {g c : Nat} {es : Array MapEntry} {D : List (K × V)} {is : List It}
variable {ds : List Deferred} {l : List Value} {x y z : Operand} {ops : Array Oper} {Q : Exit → Act → World → Prop} {rest : List Oper} {d : Nat} {pos : String} {after : Array Edge}
theorem jJ (m : bR w0 w is) (h : ∀ g u,bR w0 u (mI g #[] 0 :: is) → wpList P ops Q rest (Fr (l.set d (.map (some g))) ds) u) : wpList P ops Q (Oper.mk (some d) (.makeMap M none) ty pos after none :: rest) (Fr l ds) w :=
 Vj fun u g e hg hM=>h g u (m.new (i:=mI g #[] 0) e hM fun b h=>by cases h;exact hg)
theorem wK (m : bR w0 w is) (hu : P.underlying M = some (.map T E)) (hx : Go.Lith.ev l x = .map (some g)) (hM : jO w g es c) (h : ∀ r u,bR w0 u (iI r g c #[] :: is) → wpList P ops Q rest (Fr (l.set d (.pointer (some ⟨r,0,none⟩))) ds) u) :
 wpList P ops Q (Oper.mk (some d) (.range M x) ty pos after none :: rest) (Fr l ds) w :=
 abI hu hx hM fun u r e hr hI=>h r u (m.new (i:=iI r g c #[]) e hI fun b h=>by cases h;exact hr)
end
end Go.Lith
namespace Go.Lith
open Go.RowKit Go.ChangeMaps Go.MapKept
section
variable {K V : Type} [DecidableEq K] {P : Program} {T M E ty : TypeId} {ek : K → Value} {en : V → Value} {w w0 : World} {g c : Nat} {es : Array MapEntry} {D : List (K × V)} {is : List It}
variable {ds : List Deferred} {l : List Value} {x y z : Operand} {ops : Array Oper} {Q : Exit → Act → World → Prop} {rest : List Oper} {d : Nat} {pos : String} {after : Array Edge}
theorem dZ {v0 : V} {k : K} (hu : P.underlying M = some (.map T E)) (hz : lO P E (en v0)) (kt : pV P T ek) (hx : ev l x = .map (some g)) (hy : ev l y = ek k) (hM : jO w g es c) (hD : bV ek en D es c) : vX P l (.lookup M x y false) ty (en ((cD D k).getD v0)) w:=fun o ho _=>by
 have:=Ax hu kt hM hD hz k false;simp only[Bool.false_eq_true,if_false] at this;simp [execOp,ho,cL,hx,hy,this]
theorem qQ {v0 : V} {k : K} (hu : P.underlying M = some (.map T E)) (hz : lO P E (en v0)) (kt : pV P T ek) (hx : ev l x = .map (some g)) (hy : ev l y = ek k) (hM : jO w g es c) (hD : bV ek en D es c) : vX P l (.lookup M x y true) ty (.tuple #[en ((cD D k).getD v0),.bool (cD D k).isSome]) w:=fun o ho _=>by
 have:=Ax hu kt hM hD hz k true;simp only[if_true] at this;simp [execOp,ho,cL,hx,hy,this]
theorem Zp {a0 : Array TypeId} (ha : a0 = #[M]) (hu : P.underlying M = some (.map T E)) (hx : ev l x = .map (some g)) (hM : jO w g es c) (hD : bV ek en D es c) : vX P l (.call { callee:=.builtin .len,args:=#[x],argTypes:=a0 }) ty (.int .i64 D.length) w:=fun o ho _=>by
 subst ha;unfold jO at hM;simp [execOp,ho,resolve,invoke,builtin,Builtin.len_,cL,hx,run_underlying hu,getObj,Sem.run,hM,goInt,hD.len]
theorem eS {v : V} {a : K} (m : bR w0 w is) (k : Nat) (hk : is[k]? = some (mI g es c)) (hu : P.underlying M = some (.map T E)) (kt : pV P T ek) (hx : ev l x = .map (some g)) (hy : ev l y = ek a) (hz : ev l z = en v) (hD : bV ek en D es c)
 (h : ∀ es' c' u,bR w0 u (is.set k (mI g es' c')) → bV ek en (fJ D a v) es' c' → wpList P ops Q rest (Fr l ds) u) : wpList P ops Q (Oper.mk none (.mapUpdate M x y z) ty pos after none :: rest) (Fr l ds) w:=by
 have hM:=m.p k hk;obtain ⟨es',c',hr,hD'⟩:=Mg hu kt hM hD a v;have hC:=oA (w:=w) (g:=g) (.map es' c');refine Bl (w':=setBlock w g (.map es' c')) (fun o ho=>by simp [execOp,ho,cL,hx,hy,hz,hr]) (h es' c' _ ?_ hD');exact m.put k hk hC.os hC.tape hC.output (by rw [hC.size];exact Nat.le_refl _) (fun b _ hne=>hC.block b fun e=>hne (by rw [e];rfl)) (kL hM) (.inl fun _ h=>h)
theorem Du {r : Nat} {seen : Array Nat} {dn rs : List (K × V)} (m : bR w0 w is) (k : Nat) (hk : is[k]? = some (iI r g c seen)) (hx : ev l x = .pointer (some ⟨r,0,none⟩)) (hM : jO w g es c) (hD : bV ek en D es c) (hT : kZ ek en D es seen dn rs)
 (h : ∀ b kv vv seen' u,bR w0 u (is.set k (iI r g c seen')) → Nxt ek en D es dn rs b kv vv seen' → wpList P ops Q rest (Fr (l.set d (Mi b kv vv)) ds) u) :
 wpList P ops Q (Oper.mk (some d) (.next x false) ty pos after none :: rest) (Fr l ds) w:=by
 have hI:=m.r k hk;obtain ⟨b,kv,vv,seen',w1,hw1,hr,hN⟩:=Vl (P:=P) (ty:=ty) (s:=0) hI hM hD hT;refine jU (w':=setBlock w1 r (.mapIter (some g) c seen' c)) (v:=Mi b kv vv) (fun o ho hty=>by simp [execOp,ho,cL,hx,hty,hr]) (h b kv vv seen' _ ?_ hN);have e1 : w1.heap = w.heap ∧ w1.os = w.os ∧ w1.tape = w.tape ∧ w1.output = w.output:=by rcases hw1 with rfl | rfl <;> exact ⟨rfl,rfl,rfl,rfl⟩
 refine m.put k hk e1.2.1 e1.2.2.1 e1.2.2.2 (by simp [setBlock,e1.1]) (fun b' _ hne=>?_) ?_ (.inl fun _ h=>h)
 · have : b' ≠ r:=fun e=>hne (by rw [e];rfl)
   simp only[setBlock,e1.1];exact Array.getElem?_setIfInBounds_ne (Ne.symm this)
 · exact kL (w:=w1) (o:=.mapIter (some g) c seen c) (by rw [e1.1];exact hI)
theorem rW {b : Bool} {kv vv : Value} (hx : ev l x = Mi b kv vv) : gE P l (.extract x 0) ty (.bool b):=fun w o ho _=>by
 cases b <;> simp [execOp,ho,cL,hx,Mi,Instr.extract]
theorem rX {r : Nat} {seen : Array Nat} {dn rs : List (K × V)} {k : K} {v : V} (hx : ev l x = .pointer (some ⟨r,0,none⟩)) (hI : Av w r g c seen c) (hM : jO w g es c) (hD : bV ek en D es c) (hT : kZ ek en D es seen (dn ++ [(k,v)]) rs) :
 vX P l (.entry x) ty (.tuple #[ek k,en v]) w:=fun o ho _=>by
 have:=Pw (P:=P) hI hM hD hT;simp [execOp,ho,cL,hx,this]
theorem nN {f : FuncId} {fo : Operand} {xs : Array Operand} {args : List Value} {first cap : Array Value} {a0 : Array TypeId} {R : Value → It → Prop} (m : bR w0 w is) (k : Nat) (hE : bE P f) (hf : ev l fo = .func (.func f) first cap) (hxs : first.toList ++ xs.toList.map (ev l) ++ cap.toList = args)
 (hc : bR w0 w is → Calls P f args.toArray w fun e w'=>∃ v i,e = .returned v ∧ bR w0 w' (is.set k i) ∧ R v i) (h : ∀ v i u,bR w0 u (is.set k i) → R v i → wpList P ops Q rest (Fr (l.set d v) ds) u) :
 wpList P ops Q (Oper.mk (some d) (.call { callee:=.value fo,args:=xs,argTypes:=a0 }) ty pos after none :: rest) (Fr l ds) w:=by
 refine wpList_plain rfl fun K hK=>?_;unfold Oper.wp;rw [fY,kD hE hf hxs _ rfl];refine (hc m).mono ?_;rintro e w' ⟨v,i,rfl,hM,hR⟩;show K ((Fr l ds).put (some d) v) w'
 rw [iJ];exact hK _ _ (h v i w' hM hR)
end
theorem eU {P : Program} {Q : Exit → Act → World → Prop} {l : List Value} {ds : List Deferred} {c1 c2 : Code} {w : World} {x : Operand} {b : Bool} (hx : ev l x = .bool b) (ht : b = true → c1.wp P Q (Fr l ds) w) (hf : b = false → c2.wp P Q (Fr l ds) w) : (Code.cond x c1 c2).wp P Q (Fr l ds) w:=kW hx ht hf
theorem Mj {α : Type} {is : List α} {k : Nat} {i : α} (h : is[k]? = some i) : is.set k i = is:=by
 apply List.ext_getElem?;intro j;rw [List.getElem?_set];split
 · rename_i e;subst e
   have:=(List.getElem?_eq_some_iff.1 h).1;rw [if_pos this,h]
 · rfl
theorem zX {K V : Type} [DecidableEq K] : ∀ {D : List (K × V)} {k : K} {v : V},cD D k = some v → fJ D k v = D
 | [],_,_,h=>by cases h
 | x :: D,k,v,h=>by
  unfold cD at h;unfold fJ;split at h
  · rename_i e;cases h;subst e;rw [if_pos rfl]
  · rename_i e;rw [if_neg e,zX h]
/-! ### Keys -/
def qB (P : Program) (e : Bool) (d : Nat) (T : TypeId) (x : Value) : Prop:=∀ w,(Instr.checkKey e d T x).run P w = .ok () w
section
variable {P : Program} {e : Bool} {d : Nat} {T E : TypeId}
theorem nO {β : Type} {w : World} (g : β → PUnit → Sem (ForInStep PUnit)) : ∀ (L : List β),(∀ x ∈ L,(g x ⟨⟩).run P w = .ok (.yield ⟨⟩) w) → (forIn L PUnit.unit g : Sem PUnit).run P w = .ok ⟨⟩ w
 | [],_=>by simp
 | x :: L,h=>by
  simp only[List.forIn_cons,Sem.run_bind,h x (List.mem_cons_self ..),Result.andThen_ok];exact nO g L fun y hy=>h y (List.mem_cons_of_mem _ hy)
theorem qB.int {k k' : IntKind} {n : Int} (hu : P.underlying T = some (.int k')) : qB P e (d + 1) T (.int k n):=fun w=>by
 unfold Instr.checkKey;simp [run_underlying hu]
theorem qB.struct {fs : Array Field} {cs : Array Value} (hu : P.underlying T = some (.struct fs)) (h : ∀ f ∈ fs.toList,∃ v,(∀ w,(part f.type cs f.offset).run P w = .ok v w) ∧ qB P e d f.type v) : qB P e (d + 1) T (.agg cs):=fun w=>by
 unfold Instr.checkKey;simp only[Sem.run_bind,run_underlying hu,Result.andThen_ok];rw [← Array.forIn_toList];refine (congrArg (fun r=>Result.andThen r _) (nO _ fs.toList fun f hf=>?_)).trans (by rfl);obtain ⟨v,h1,h2⟩:=h f hf;by_cases hn : f.name = "_"
 · simp [hn]
 · simp [hn,h1 w,h2 w]
theorem qB.array {n c : Nat} {cs : Array Value} (hu : P.underlying T = some (.array n E)) (hc : dW P E c) (h : ∀ i,i < n → ∃ v,(∀ w,(part E cs (i * c)).run P w = .ok v w) ∧ qB P e d E v) : qB P e (d + 1) T (.agg cs):=fun w=>by
 unfold Instr.checkKey;simp only[Sem.run_bind,run_underlying hu,Result.andThen_ok];simp only[Std.Legacy.Range.forIn_eq_forIn_range',Std.Legacy.Range.size,Nat.sub_zero,Nat.add_one_sub_one,Nat.div_one];refine (congrArg (fun r=>Result.andThen r _) (nO _ (List.range' 0 n) fun i hi=>?_)).trans (by rfl);obtain ⟨v,h1,h2⟩:=h i (by simpa using hi);simp [eW hc,h1 w,h2 w]
theorem pV.agg {K : Type} [DecidableEq K] {ek : K → Value} {cs : K → Array Value} (ha : ∀ k,ek k = .agg (cs k)) {t : TypeDesc} (ht : P.underlying T = some t) (hc : ∀ e k,qB P e 10000 T (ek k)) (he : ∀ a b,sK P 10000 T (ek a) (ek b) (a = b)) (hb : ∀ a,Instr.sameBits 10000 (ek a) (ek a) = true) : pV P T ek where
 chk e k w:=hc e k w
 now:=⟨t,ht,fun a b=>.inl (by rw [ha,ha];cases t <;> rfl)⟩
 eq a b w:=rN (he a b) w
 bits:=hb
end
end Go.Lith
