/-
 Texts of one claim, laid together: Own, Al, Mem, Grow, Pts, Guard, Geo6, Open, Surf, Surf2, Lat, Chk, Facts, Facts2, Map0, Map, Map2, Rchk.
-/
import Derived.Sort.Grow
import Derived.Deep.Draws
import Derived.OpenShut
import Derived.Lib.SmallJoins
import Derived.Deep.Slices
import Derived.Test.YtfohfflkhpfjeaaGreatDoorProg
import Derived.Maps.RangeRun
import Derived.Test.YtfohfflkhpfjeaaGreatDoorD1
set_option maxHeartbeats 8000000
set_option linter.unusedSimpArgs false
set_option linter.unusedVariables false
set_option linter.unusedSectionVars false
namespace Go.Lith
open Go.RowKit
abbrev Bo (A : Option Addr) : Option Nat:=A.map (·.block)
structure Ow (w0 w : World) (S : List (Option Nat)) (E : TypeId) (c : Nat) (A : Option Addr) (n cap : Nat) (xs : List Value) : Prop where
 own : w.ownsRow w0.heap.size E c (.slice A n cap) n xs
 sep : ∀ b,Bo A = some b → some b ∉ S
 bd : ∀ b,some b ∈ S → b < w.heap.size
structure Wr (w w' : World) (A : Option Addr) : Prop where
 os : w'.os = w.os
 tape : w'.tape = w.tape
 output : w'.output = w.output
 size : w.heap.size ≤ w'.heap.size
 block : ∀ k,k < w.heap.size → Bo A ≠ some k → w'.heap[k]? = w.heap[k]?
theorem kO {w : World} {base c n cap : Nat} {E : TypeId} {A : Option Addr} {xs : List Value} (h : w.ownsRow base E c (.slice A n cap) n xs) :
 (A = none ∧ n = 0 ∧ cap = 0 ∧ xs = []) ∨ ∃ g cur,A = some ⟨g,0,none⟩ ∧ base ≤ g ∧ w.heap[g]? = some (.cells cur E (0,0)) ∧ n ≤ cap ∧ cap ≤ maxLen ∧ cur.size = cap * c ∧ cur.toList.take (n * c) = xs:=by
 rcases h.2 with ⟨h1,h2⟩ | ⟨g,cap',cur,h1,h2,h3,h4,h5,h6,h7⟩
 · cases h1
   exact .inl ⟨rfl,h2,rfl,List.eq_nil_of_length_eq_zero (by rw [h.1,h2,Nat.zero_mul])⟩
 · cases h1
   exact .inr ⟨g,cur,rfl,h2,h3,h4,h5,h6,h7⟩
section
variable {w0 w w' : World} {S : List (Option Nat)} {E : TypeId} {c n cap : Nat} {A : Option Addr} {xs : List Value}
theorem Ow.cases (h : Ow w0 w S E c A n cap xs) : (A = none ∧ n = 0 ∧ cap = 0 ∧ xs = []) ∨ ∃ g cur,A = some ⟨g,0,none⟩ ∧ w0.heap.size ≤ g ∧ w.heap[g]? = some (.cells cur E (0,0)) ∧ n ≤ cap ∧ cap ≤ maxLen ∧ cur.size = cap * c ∧ cur.toList.take (n * c) = xs:=kO h.own
theorem Ow.ge (h : Ow w0 w S E c A n cap xs) : ∀ b,Bo A = some b → w0.heap.size ≤ b:=fun b hb=>by
 rcases h.cases with ⟨rfl,_⟩ | ⟨g,cur,rfl,hg,_⟩
 · cases hb
 · cases hb
   exact hg
theorem Ow.le (h : Ow w0 w S E c A n cap xs) : n ≤ cap:=by
 rcases h.cases with ⟨_,rfl,rfl,_⟩ | ⟨g,cur,_,_,_,h1,_⟩
 · exact Nat.le_refl _
 · exact h1
theorem Ow.some (h : Ow w0 w S E c A n cap xs) (hn : 0 < n) : ∃ g,A = some ⟨g,0,none⟩:=by
 rcases h.cases with ⟨_,rfl,_⟩ | ⟨g,cur,rfl,_⟩
 · omega
 · exact ⟨g,rfl⟩
theorem Ow.row (h : Ow w0 w S E c A n cap xs) : ∀ j u,xs[j]? = Option.some u → ∃ a,A = Option.some a ∧ w.cell? (a.add j) = Option.some u:=fun j u hj=>by
 rcases h.cases with ⟨_,_,_,rfl⟩ | ⟨g,cur,rfl,_,hg,_,_,_,h4⟩
 · cases hj
 · refine ⟨_,rfl,?_⟩
   rw [fC,Nat.zero_add,cell_of_row w g j cur E (0,0) hg];rw [← h4,List.getElem?_take] at hj;split at hj
   · simpa using hj
   · cases hj
theorem Ow.rows {g : Nat} (h : Ow w0 w S E c (Option.some ⟨g,0,none⟩) n cap xs) : mC w ⟨g,0,none⟩ xs:=fun j u hj=>by
 obtain ⟨a,e,h1⟩:=h.row j u hj;cases e;exact h1
theorem Ow.nil (w0 w : World) (E : TypeId) (c : Nat) : Ow w0 w [] E c none 0 0 []:=⟨World.ownsRow_nil w _ E c,fun _ h=>(by cases h),fun _ h=>(by cases h)⟩
theorem Ow.mk' {g : Nat} {cs : List Value} (hB : fQ w g cs E) (hg : w0.heap.size ≤ g) (hl : cs.length = n * c) (hm : n ≤ maxLen) : Ow w0 w [] E c (Option.some ⟨g,0,none⟩) n n cs :=
 ⟨⟨hl,.inr ⟨g,n,_,rfl,hg,hB,Nat.le_refl _,hm,by simpa using hl,by simp [← hl]⟩⟩,fun _ _ h=>(by cases h),fun _ h=>(by cases h)⟩
theorem Ow.take (h : Ow w0 w S E c A n cap xs) {k : Nat} (hk : k ≤ n) : Ow w0 w S E c A k cap (xs.take (k * c)):=by
 have hl : (xs.take (k * c)).length = k * c:=by
  rw [List.length_take,h.own.1];exact Nat.min_eq_left (Nat.mul_le_mul_right _ hk)
 refine ⟨⟨hl,?_⟩,h.sep,h.bd⟩;rcases h.cases with ⟨rfl,rfl,rfl,_⟩ | ⟨g,cur,rfl,h1,h2,h3,h4,h5,h6⟩
 · obtain rfl : k = 0:=by omega
   exact .inl ⟨rfl,rfl⟩
 · refine .inr ⟨g,cap,cur,rfl,h1,h2,by omega,h4,h5,?_⟩
   rw [← h6,List.take_take,Nat.min_eq_left (Nat.mul_le_mul_right _ hk)]
theorem Ow.as {ys : List Value} (h : Ow w0 w S E c A n cap xs) (e : xs = ys) : Ow w0 w S E c A n cap ys:=e ▸ h
end
section
variable {P : Program} {ds : List Deferred} {l : List Value} {x y : Operand} {T ty : TypeId}
variable {ops : Array Oper} {Q : Exit → Act → World → Prop} {rest : List Oper} {d : Nat} {pos : String} {after : Array Edge} {w w0 : World} {S : List (Option Nat)} {E : TypeId} {c n cap m mcap : Nat} {A B : Option Addr} {xs news : List Value}
theorem Wr.refl (w : World) (A : Option Addr) : Wr w w A:=⟨rfl,rfl,rfl,Nat.le_refl _,fun _ _ _=>rfl⟩
theorem Ed {t : TypeId} {i : TypeInfo} {z : Value} {bytes : Nat} (ht : P.underlying t = some (.slice E)) (hi : P.info? E = some i) (hz : i.zero = some z) (hsize : i.size = c) (hby : i.bytes = bytes) (hzs : z.cells.size = c) (hsz : 0 < c)
 (hown : Ow w0 w S E c A n cap xs) (hl : news.length = m * c) (hnews : ∀ j u,news[j]? = some u → ∃ a,B = some a ∧ w.cell? (a.add j) = some u) (h1 : ∀ u ∈ news,u.oneCell' = true)
 (h63 : n + m ≤ maxLen) (hbytes : (n + m) * bytes ≤ 140737488355328) (hbase : w0.heap.size ≤ w.heap.size) :
 ∃ A' cap' w',(Builtin.append_ #[t,t] ty #[.slice A n cap,.slice B m mcap]).run P w = .ok (.slice A' (n + m) cap') w' ∧ Ow w0 w' S E c A' (n + m) cap' (xs ++ news) ∧ Wr w w' A ∧ (A' = A ∨ Bo A' = some w.heap.size):=by
 subst hsize;subst hby;have hsmall : n + m ≤ 9223372036854775807:=by simp only[maxLen] at h63;omega
 have hlen : (xs ++ news).length = (n + m) * i.size:=by rw [List.length_append,hown.own.1,hl,Nat.add_mul]
 have grown : ∀ (old : Nat),old < n + m →
  Ow w0 (w.drew.alloc (.cells (xs.toArray ++ news.toArray ++ Builtin.zeroCells z.cells (grownCap w (n + m) old E - (n + m))) E)) S E i.size
   (some ⟨w.heap.size,0,none⟩) (n + m) (grownCap w (n + m) old E) (xs ++ news) ∧
  Wr w (w.drew.alloc (.cells (xs.toArray ++ news.toArray ++ Builtin.zeroCells z.cells (grownCap w (n + m) old E - (n + m))) E)) A:=by
  intro old ho;have hge:=grownCap_ge w (n + m) old E;have hcm : grownCap w (n + m) old E ≤ maxLen:=grownCap_le_maxLen w (n + m) old E h63;refine ⟨⟨⟨hlen,.inr ⟨w.heap.size,_,_,rfl,hbase,heap_alloc_new w.drew _,hge,hcm,?_,?_⟩⟩,fun b hb hm=>?_,fun b hb=>?_⟩,⟨rfl,rfl,rfl,by simp,fun k hk _=>heap_alloc_old w.drew _ (h:=hk)⟩⟩
  · simp only[Array.size_append,List.size_toArray,size_zeroCells,hzs,hown.own.1,hl,← Nat.add_mul]
    congr 1
    omega
  · simp only[Array.toList_append,List.append_assoc]
    rw [← List.append_assoc,← hlen];exact List.take_left
  · have hb' : w.heap.size = b:=by simpa using hb
    subst hb';exact absurd (hown.bd _ hm) (Nat.lt_irrefl _)
  · have:=hown.bd _ hb
    have h2 : (w.drew.alloc (.cells (xs.toArray ++ news.toArray ++ Builtin.zeroCells z.cells (grownCap w (n + m) old E - (n + m))) E)).heap.size = w.heap.size + 1:=by simp
    rw [h2];omega
 have hB0 : B = none → m = 0 ∧ news = []:=fun hB=>by
  have hn : news = []:=by
   cases news with
   | nil=>rfl
   | cons u us=>obtain ⟨a,e,_⟩:=hnews 0 u rfl;rw [hB] at e;cases e
  subst hn;refine ⟨?_,rfl⟩;rcases Nat.eq_zero_or_pos m with h0 | h0
  · exact h0
  · have:=Nat.mul_pos h0 hsz;simp at hl;omega
 rcases hown.cases with ⟨rfl,rfl,rfl,rfl⟩ | ⟨g,cur,rfl,hbg,hg,hnc,hcm,hcs,htake⟩
 · by_cases hm : m = 0
   · subst hm
     have hn : news = []:=List.eq_nil_of_length_eq_zero (by simpa using hl);subst hn;refine ⟨none,0,w,?_,by simpa using hown,Wr.refl _ _,.inl rfl⟩;cases B <;> simp [Builtin.append_,run_underlying ht,sizeOf,typeInfo,hi,Builtin.lenOf,Builtin.firstCells,loadCells,loadCellsFrom]
   · cases B with
     | none=>exact absurd (hB0 rfl).1 hm
     | some a =>
      have hr:=run_append_nil (P:=P) w t ty E i z ht hi hz a m mcap news hl (fun j u hj=>by obtain ⟨a',e,h⟩:=hnews j u hj;cases e;exact h) (by omega) (by omega) (by have hb:=hbytes;simp only[Nat.zero_add] at hb;omega);have hgr:=grown 0 (by omega);simp only[Nat.zero_add,List.nil_append,Array.empty_append] at hgr ⊢;exact ⟨_,_,_,hr,hgr.1,hgr.2,.inr rfl⟩
 · cases B with
   | none =>
    obtain ⟨rfl,rfl⟩:=hB0 rfl;refine ⟨some ⟨g,0,none⟩,cap,w,?_,by simpa using hown,Wr.refl _ _,.inl rfl⟩;simp [Builtin.append_,run_underlying ht,sizeOf,typeInfo,hi,Builtin.lenOf,Builtin.firstCells,hnc,storeCells]
   | some a =>
    have hnews' : ∀ j u,news[j]? = some u → w.cell? (a.add j) = some u:=fun j u hj=>by obtain ⟨a',e,h⟩:=hnews j u hj;cases e;exact h
    by_cases hroom : n + m ≤ cap
    · have hfit : n * i.size + news.length ≤ cur.size:=by rw [hl,hcs,← Nat.add_mul];exact Nat.mul_le_mul_right _ hroom
      have hr:=run_append_room (P:=P) w t ty E i ht hi g n cap cur hg a m mcap news hl hnews' h1 hroom hfit;refine ⟨_,_,_,hr,⟨⟨hlen,.inr ⟨g,cap,_,rfl,hbg,setRow_heap w g cur _ E _ hg,hroom,hcm,?_,?_⟩⟩,hown.sep,fun b hb=>by simpa using hown.bd b hb⟩,⟨rfl,rfl,rfl,by simp,fun k _ hk=>setRow_other w g k _ (fun e=>hk (by rw [e];rfl))⟩,.inl rfl⟩
      · simp only[List.size_toArray,List.length_append,List.length_take,List.length_drop,Array.length_toList]
        omega
      · rw [htake,← hlen]
        exact List.take_left
    · have hr:=run_append_grow (P:=P) w t ty E i z ht hi hz ⟨g,0,none⟩ n cap xs hown.own.1 hown.rows a m mcap news hl hnews' (by omega) (by omega) (growslice_fits (by omega) hbytes)
      have hgr:=grown cap (by omega);exact ⟨_,_,_,hr,hgr.1,hgr.2,.inr rfl⟩
theorem Qo {b : Nat} {z : Value} {a0 : Array TypeId} (ha : a0 = #[T,T]) (hu : P.underlying T = some (.slice E)) (hi : (P.info? E).map (fun i=>(i.size,i.bytes,i.zero)) = some (c,b,some z)) (hz : z.cells.size = c) (hc : 0 < c) (hX : cZ w0 w)
 (hs : ev l x = .slice A n cap) (hown : Ow w0 w S E c A n cap xs) (hx : ev l y = .slice B m mcap) (hl : news.length = m * c) (hrow : ∀ j u,news[j]? = some u → ∃ a,B = some a ∧ w.cell? (a.add j) = some u) (h1 : ∀ u ∈ news,u.oneCell' = true) (h63 : n + m ≤ 9223372036854775807) (hbytes : (n + m) * b ≤ 140737488355328)
 (h : ∀ A' cap' w',Ow w0 w' S E c A' (n + m) cap' (xs ++ news) → Wr w w' A → (A' = A ∨ Bo A' = some w.heap.size) → wpList P ops Q rest (Fr (l.set d (.slice A' (n + m) cap')) ds) w') :
 wpList P ops Q (Oper.mk (some d) (.call { callee:=.builtin .append,args:=#[x,y],argTypes:=a0 }) ty pos after none :: rest) (Fr l ds) w:=by
 subst ha;cases hq : P.info? E with
 | none=>rw [hq] at hi;cases hi
 | some i =>
  rw [hq] at hi;simp only[Option.map_some,Option.some.injEq,Prod.mk.injEq] at hi;obtain ⟨e1,e2,e3⟩:=hi;obtain ⟨A',cap',w',hr,h2,h3,h4⟩:=Ed (P:=P) (w:=w) (ty:=ty) (mcap:=mcap) hu hq e3 e1 e2 hz hc hown hl hrow h1 (by simpa [maxLen] using h63) hbytes hX.size;exact jU (fun o ho hty=>by simp [execOp,ho,hty,resolve,invoke,builtin,cR,hs,hx,hr]) (h A' cap' w' h2 h3 h4)
theorem Ee {cur : Array Value} {xs us : List Value} {off k : Nat} (hx : cur.toList.take k = xs) (hl : xs.length = k) (hf : off + us.length ≤ k) : (bB cur.toList off us).take k = bB xs off us:=by
 subst hx;have hk : k ≤ cur.toList.length:=by rw [List.length_take] at hl;omega
 unfold bB;apply List.ext_getElem?;intro j;rw [List.getElem?_take];have e1 : (cur.toList.take off).length = off:=by rw [List.length_take];omega
 have e2 : ((cur.toList.take k).take off).length = off:=by rw [List.length_take,List.length_take];omega
 simp only[List.append_assoc];by_cases h0 : j < k
 · rw [if_pos h0]
   rcases Nat.lt_or_ge j off with h1 | h1
   · rw [List.getElem?_append_left (by omega),List.getElem?_append_left (by omega),List.take_take,Nat.min_eq_left (by omega)]
   · rw [List.getElem?_append_right (l₁:=cur.toList.take off) (by omega),List.getElem?_append_right (l₁:=(cur.toList.take k).take off) (by omega),e1,e2]
     rcases Nat.lt_or_ge (j - off) us.length with h2 | h2
     · rw [List.getElem?_append_left h2,List.getElem?_append_left h2]
     · rw [List.getElem?_append_right h2,List.getElem?_append_right h2,List.getElem?_drop,List.getElem?_drop,List.getElem?_take,if_pos (by omega)]
 · rw [if_neg h0]
   symm
   apply List.getElem?_eq_none;simp only[List.length_append,e2,List.length_drop,List.length_take];omega
theorem Ut {g off : Nat} {us : List Value} (hx : ev l x = .pointer (some ⟨g,off,none⟩)) (hv : (ev l y).cells = us.toArray) (hc : dX P T us.length) (hO : Ow w0 w S E c (some ⟨g,0,none⟩) n cap xs) (hfit : off + us.length ≤ n * c) (h1 : ∀ u ∈ us,u.oneCell' = true)
 (h : ∀ w',Wr w w' (some ⟨g,0,none⟩) → Ow w0 w' S E c (some ⟨g,0,none⟩) n cap (bB xs off us) → wpList P ops Q rest (Fr l ds) w') : wpList P ops Q (Oper.mk none (.store T x y) ty pos after none :: rest) (Fr l ds) w:=by
 rcases hO.cases with ⟨e,_⟩ | ⟨g',cur,e,hbg,hg,hnc,hcm,hcs,htake⟩
 · cases e
 · cases e
   have hfc : off + us.length ≤ cur.toList.length:=by
    have:=Nat.mul_le_mul_right c hnc;simp;omega
   have hB : fQ w g cur.toList E:=by unfold fQ;simpa using hg
   refine cK (cs:=cur.toList) (t:=E) hx hv hc hB hfc h1 fun w' hC hB'=>h w' ⟨hC.os,hC.tape,hC.output,by rw [hC.size];exact Nat.le_refl _,fun k _ hk=>hC.block k (fun e=>hk (by rw [e];rfl))⟩ ?_;refine ⟨⟨?_,.inr ⟨g,cap,_,rfl,hbg,hB',hnc,hcm,?_,?_⟩⟩,hO.sep,fun b hb=>by rw [hC.size];exact hO.bd b hb⟩
   · rw [oT (by rw [hO.own.1];exact hfit)];exact hO.own.1
   · simp only[List.size_toArray];rw [oT hfc];simpa using hcs
   · show ((bB cur.toList off us).toArray.toList).take (n * c) = _
     simp only[List.toList_toArray];exact Ee htake hO.own.1 hfit
end
theorem tW (ts : List T3) : (ts.flatMap aX).length = ts.length * 9:=by
 induction ts with
 | nil=>rfl
 | cons t ts ih=>rw [List.flatMap_cons,List.length_append,ih,cQ,List.length_cons];omega
theorem Ow.tris {w0 w : World} {S : List (Option Nat)} {E : TypeId} {A : Option Addr} {n cap : Nat} {ts : List T3} (h : Ow w0 w S E 9 A n cap (ts.flatMap aX)) (hi : ∀ t ∈ ts,IT t) : dZ w A n ts:=by
 refine ⟨?_,hi,fun i t ht=>?_⟩
 · have:=h.own.1;rw [tW] at this;omega
 · have hr : ∀ j u,(aX t)[j]? = Option.some u → (ts.flatMap aX)[i * 9 + j]? = Option.some u:=fun j u hj=>by
    have hj' : j < (aX t).length:=(List.getElem?_eq_some_iff.1 hj).1;rw [← List.getElem?_drop,pZ ts i t ht,List.getElem?_append_left hj'];exact hj
   obtain ⟨a,e,_⟩:=h.row _ _ (hr 0 _ rfl);refine ⟨a,e,fun j u hj=>?_⟩;obtain ⟨a',e',hc⟩:=h.row _ _ (hr j u hj);rw [e] at e';cases e';rw [gL];exact hc
theorem dZ.cells {w : World} {A : Option Addr} {n : Nat} {ts : List T3} (h : dZ w A n ts) : ∀ j u,(ts.flatMap aX)[j]? = some u → ∃ a,A = some a ∧ w.cell? (a.add j) = some u:=fun j u hj=>by
 have hl : j < ts.length * 9:=by
  have:=(List.getElem?_eq_some_iff.1 hj).1;rwa [tW] at this
 have hq : j / 9 < ts.length:=by omega
 have ht:=List.getElem?_eq_getElem hq;obtain ⟨a,e,hr⟩:=h.row _ _ ht;refine ⟨a,e,?_⟩;have hd:=pZ ts (j / 9) _ ht;have hj' : (aX ts[j / 9])[j % 9]? = some u:=by
  have : ((ts.flatMap aX).drop (j / 9 * 9))[j % 9]? = some u:=by rw [List.getElem?_drop,show j / 9 * 9 + j % 9 = j by omega];exact hj
  rw [hd,List.getElem?_append_left (by rw [cQ];omega)] at this;exact this
 have:=hr _ _ hj';rwa [gL,show j / 9 * 9 + j % 9 = j by omega] at this
theorem Zc : ∀ (t : T3),∀ u ∈ aX t,u.oneCell' = true:=fun t u hu=>by
 simp only[aX,List.mem_cons,List.not_mem_nil,or_false] at hu;rcases hu with rfl | rfl | rfl | rfl | rfl | rfl | rfl | rfl | rfl <;> rfl
theorem kP (ts : List T3) : ∀ u ∈ ts.flatMap aX,u.oneCell' = true:=fun u hu=>by
 obtain ⟨t,_,h⟩:=List.mem_flatMap.1 hu;exact Zc t u h
theorem fQ.rowsO {w : World} {g : Nat} {cs : List Value} {t : TypeId} (h : fQ w g cs t) : ∀ j u,cs[j]? = some u → ∃ a,some (⟨g,0,none⟩ : Addr) = some a ∧ w.cell? (a.add j) = some u:=fun j u hj=>⟨_,rfl,by have:=h.row 0;rw [List.drop_zero] at this;exact this j u hj⟩
section
variable {w0 w w' : World} {S : List (Option Nat)} {E : TypeId} {c n cap : Nat} {A : Option Addr} {xs : List Value}
end
end Go.Lith
namespace Go.Lith
open Go.RowKit
/-! ### Names that are short -/
theorem zA {l : List Value} (t : Nat) : ev l (.tmp t) = l.getD t undef:=rfl
theorem zB {l : List Value} (v : Value) : ev l (.const v) = v:=rfl
theorem zC {l : List Value} (f : Nat) : ev l (.func f) = .func (.func f) #[] #[]:=rfl
theorem zD {α : Type} {x : α} {xs : List α} {n : Nat} {d : α} : (x :: xs).getD (n + 1) d = xs.getD n d:=rfl
theorem zE {α : Type} {x : α} {xs : List α} {d : α} : (x :: xs).getD 0 d = x:=rfl
theorem zF {α : Type} {x : α} {xs : List α} {n : Nat} {a : α} : (x :: xs).set (n + 1) a = x :: xs.set n a:=rfl
theorem zG {α : Type} {x : α} {xs : List α} {a : α} : (x :: xs).set 0 a = a :: xs:=rfl
theorem zH {α : Type} {x : α} {xs : List α} {n : Nat} : (x :: xs).take (n + 1) = x :: xs.take n:=rfl
theorem zI {α : Type} {xs : List α} : xs.take 0 = []:=List.take_zero
theorem zJ {α : Type} {x : α} {xs : List α} {n : Nat} : (x :: xs).drop (n + 1) = xs.drop n:=rfl
theorem zK {α : Type} {xs : List α} : xs.drop 0 = xs:=rfl
theorem zL {α : Type} {x : α} {xs ys : List α} : (x :: xs) ++ ys = x :: (xs ++ ys):=rfl
theorem zM {α : Type} {ys : List α} : [] ++ ys = ys:=rfl
theorem zN {α : Type} {ys : List α} : ys ++ [] = ys:=List.append_nil ys
theorem zO {α : Type} {x : α} {xs : List α} : (x :: xs).length = xs.length + 1:=rfl
theorem zP {α : Type} : ([] : List α).length = 0:=rfl
theorem zQ {α β : Type} {f : α → β} {x : α} {xs : List α} : (x :: xs).map f = f x :: xs.map f:=rfl
theorem zR {α β : Type} {f : α → β} : ([] : List α).map f = []:=rfl
theorem zS {α : Type} {l : List α} {i : Nat} : l.toArray[i]? = l[i]?:=List.getElem?_toArray
theorem zT {α : Type} {x : α} {xs : List α} {n : Nat} : (x :: xs)[n + 1]? = xs[n]?:=rfl
theorem zU {α : Type} {x : α} {xs : List α} : (x :: xs)[0]? = some x:=rfl
theorem zV {α : Type} {x d : α} : (some x).getD d = x:=rfl
theorem zz : (∀ (l : List Go.Value) (t : Nat), ev l (.tmp t) = l.getD t undef) ∧ (∀ (l : List Go.Value) (v : Go.Value), ev l (.const v) = v) ∧ (∀ (l : List Go.Value) (f : Nat), ev l (.func f) = .func (.func f) #[] #[]) ∧ (∀ {α : Type} (x : α) (xs : List α) (n : Nat) (d : α), (x :: xs).getD (n + 1) d = xs.getD n d) ∧ (∀ {α : Type} (x : α) (xs : List α) (d : α), (x :: xs).getD 0 d = x) ∧ (∀ {α : Type} (x : α) (xs : List α) (n : Nat) (a : α), (x :: xs).set (n + 1) a = x :: xs.set n a) ∧ (∀ {α : Type} (x : α) (xs : List α) (a : α), (x :: xs).set 0 a = a :: xs) := ⟨fun _ _ => rfl, fun _ _ => rfl, fun _ _ => rfl, fun _ _ _ _ => rfl, fun _ _ _ => rfl, fun _ _ _ _ => rfl, fun _ _ _ => rfl⟩
theorem zy : (∀ {α : Type} (x : α) (xs : List α) (n : Nat), (x :: xs).take (n + 1) = x :: xs.take n) ∧ (∀ {α : Type} (xs : List α), xs.take 0 = []) ∧ (∀ {α : Type} (x : α) (xs : List α) (n : Nat), (x :: xs).drop (n + 1) = xs.drop n) ∧ (∀ {α : Type} (xs : List α), xs.drop 0 = xs) := ⟨fun _ _ _ => rfl, fun _ => List.take_zero, fun _ _ _ => rfl, fun _ => rfl⟩
theorem zx : (∀ {α : Type} (x : α) (xs ys : List α), (x :: xs) ++ ys = x :: (xs ++ ys)) ∧ (∀ {α : Type} (ys : List α), [] ++ ys = ys) ∧ (∀ {α : Type} (ys : List α), ys ++ [] = ys) ∧ (∀ {α : Type} (x : α) (xs : List α), (x :: xs).length = xs.length + 1) ∧ (∀ {α : Type}, ([] : List α).length = 0) := ⟨fun _ _ _ => rfl, fun _ => rfl, fun _ => List.append_nil _, fun _ _ => rfl, rfl⟩
theorem zw : (∀ {α : Type} (l : List α) (i : Nat), l.toArray[i]? = l[i]?) ∧ (∀ {α : Type} (x : α) (xs : List α) (n : Nat), (x :: xs)[n + 1]? = xs[n]?) ∧ (∀ {α : Type} (x : α) (xs : List α), (x :: xs)[0]? = some x) ∧ (∀ {α : Type} (x d : α), (some x).getD d = x) := ⟨fun _ _ => List.getElem?_toArray, fun _ _ _ => rfl, fun _ _ => rfl, fun _ _ => rfl⟩
theorem zu : (∀ (l : List Go.Value) (t : Nat) (ts : List Nat) (v : Go.Value) (vs : List Go.Value), fU l (t :: ts) (v :: vs) = fU (l.set t v) ts vs) ∧ (∀ (l vs : List Go.Value), fU l [] vs = l) ∧ (∀ (l : List Go.Value) (t : Nat) (ts : List Nat) (g : Nat → Go.Value), oA l (t :: ts) g = oA (l.set t (g t)) ts g) ∧ (∀ (l : List Go.Value) (g : Nat → Go.Value), oA l [] g = l) := ⟨fun _ _ _ _ _ => rfl, fun _ _ => sE, fun _ _ _ _ => rfl, fun _ _ => rfl⟩
theorem zv : (∀ {α β : Type} (f : α → β) (x : α) (xs : List α), (x :: xs).map f = f x :: xs.map f) ∧ (∀ {α β : Type} (f : α → β), ([] : List α).map f = []) ∧ (∀ (l : List Go.Value) (t : Nat) (ts : List Nat) (v : Go.Value) (vs : List Go.Value), fU l (t :: ts) (v :: vs) = fU (l.set t v) ts vs) ∧ (∀ (l vs : List Go.Value), fU l [] vs = l) ∧ (∀ (l : List Go.Value) (t : Nat) (ts : List Nat) (g : Nat → Go.Value), oA l (t :: ts) g = oA (l.set t (g t)) ts g) ∧ (∀ (l : List Go.Value) (g : Nat → Go.Value), oA l [] g = l) := ⟨fun _ _ _ => rfl, fun _ => rfl, fun _ _ _ _ _ => rfl, fun _ _ => sE, fun _ _ _ _ => rfl, fun _ _ => rfl⟩
end Go.Lith
namespace Go.Lith
open Go.RowKit
structure It where
 own : Nat → Prop
 P : World → Prop
 lt : ∀ w b,P w → own b → b < w.heap.size
 st : ∀ w w',P w → w.heap.size ≤ w'.heap.size → (∀ b,own b → w'.heap[b]? = w.heap[b]?) → P w'
def bI (g : Nat) (cs : List Value) (t : TypeId) : It where
 own b:=some g = some b
 P w:=fQ w g cs t
 lt w b h e:=by cases e;exact h.lt
 st w w' h _ k:=(k g rfl).trans h
def oI (E : TypeId) (c : Nat) (A : Option Addr) (n cap : Nat) (xs : List Value) : It where
 own b:=Bo A = some b
 P w:=w.ownsRow 0 E c (.slice A n cap) n xs
 lt w b h e:=by
  rcases kO h with ⟨rfl,_⟩ | ⟨g,cur,rfl,_,hg,_⟩
  · cases e
  · cases e;exact (Array.getElem?_eq_some_iff.1 hg).1
 st w w' h _ k:=by
  refine ⟨h.1,?_⟩;rcases kO h with ⟨rfl,rfl,rfl,_⟩ | ⟨g,cur,rfl,h1,h2,h3⟩
  · exact .inl ⟨rfl,rfl⟩
  · exact .inr ⟨g,cap,cur,rfl,h1,(k g rfl).trans h2,h3⟩
def Ap (i j : It) : Prop:=∀ b,i.own b → j.own b → False
theorem Ap.symm {i j : It} (h : Ap i j) : Ap j i:=fun b h1 h2=>h b h2 h1
structure bS (w0 w : World) (is : List It) : Prop where
 ext : cZ w0 w
 all : ∀ i ∈ is,i.P w
 ge : ∀ i ∈ is,∀ b,i.own b → w0.heap.size ≤ b
 nd : is.Pairwise Ap
def Jd : List Bool → List It → List It
 | true :: bs,i :: is=>i :: Jd bs is
 | false :: bs,_ :: is=>Jd bs is
 | _,_=>[]
theorem sQ : ∀ (bs : List Bool) (is : List It),(Jd bs is).Sublist is
 | true :: bs,i :: is=>(sQ bs is).cons_cons i
 | false :: bs,i :: is=>(sQ bs is).cons i
 | [],is=>List.nil_sublist _
 | true :: bs,[]=>List.nil_sublist _
 | false :: bs,[]=>List.nil_sublist _
section
variable {w0 w w' : World} {is : List It}
theorem bS.refl (w : World) : bS w w []:=⟨cZ.refl w,fun _ h=>(by cases h),fun _ h=>(by cases h),.nil⟩
theorem bS.ext' (m : bS w0 w is) (e : cZ w w') : bS w0 w' is :=
 ⟨m.ext.trans e,fun i hi=>i.st w w' (m.all i hi) e.size fun b hb=>Below.block e b (i.lt w b (m.all i hi) hb),m.ge,m.nd⟩
theorem bS.sel (m : bS w0 w is) (bs : List Bool) : bS w0 w (Jd bs is) :=
 ⟨m.ext,fun i hi=>m.all i ((sQ bs is).subset hi),fun i hi=>m.ge i ((sQ bs is).subset hi),m.nd.sublist (sQ bs is)⟩
theorem bS.tl {i : It} (m : bS w0 w (i :: is)) : bS w0 w is:=⟨m.ext,fun j hj=>m.all j (List.mem_cons_of_mem _ hj),fun j hj=>m.ge j (List.mem_cons_of_mem _ hj),(List.pairwise_cons.1 m.nd).2⟩
theorem bS.get (m : bS w0 w is) (k : Nat) {i : It} (hk : is[k]? = some i) : i.P w:=m.all i (List.mem_of_getElem? hk)
theorem bS.b (m : bS w0 w is) (k : Nat) {g : Nat} {cs : List Value} {t : TypeId} (hk : is[k]? = some (bI g cs t)) : fQ w g cs t:=m.get k hk
theorem bS.o (m : bS w0 w is) (k : Nat) {E : TypeId} {c n cap : Nat} {A : Option Addr} {xs : List Value} (hk : is[k]? = some (oI E c A n cap xs)) : Ow w0 w [] E c A n cap xs:=by
 have h : w.ownsRow 0 E c (.slice A n cap) n xs:=m.get k hk;refine ⟨⟨h.1,?_⟩,fun _ _ h=>(by cases h),fun _ h=>(by cases h)⟩;rcases kO h with ⟨rfl,rfl,rfl,_⟩ | ⟨g,cur,rfl,_,h2,h3⟩
 · exact .inl ⟨rfl,rfl⟩
 · exact .inr ⟨g,cap,cur,rfl,m.ge _ (List.mem_of_getElem? hk) g rfl,h2,h3⟩
theorem bS.bo (m : bS w0 w is) (k : Nat) {g : Nat} {cs : List Value} {t : TypeId} (hk : is[k]? = some (bI g cs t)) {n c : Nat} (hl : cs.length = n * c) (hm : n ≤ maxLen) : Ow w0 w [] t c (some ⟨g,0,none⟩) n n cs :=
 Ow.mk' (m.b k hk) (m.ge _ (List.mem_of_getElem? hk) g rfl) hl hm
theorem bS.toO (m : bS w0 w is) (k : Nat) {g : Nat} {cs : List Value} {t : TypeId} (hk : is[k]? = some (bI g cs t)) {n c : Nat} (hl : cs.length = n * c) (hm : n ≤ maxLen) : ∃ i,i = oI t c (some ⟨g,0,none⟩) n n cs ∧ i.P w:=⟨_,rfl,(m.bo k hk hl hm).own.1,.inr ⟨g,n,_,rfl,Nat.zero_le _,m.b k hk,Nat.le_refl _,hm,by simpa using hl,by simp [← hl]⟩⟩
theorem bS.new {i : It} (m : bS w0 w is) (e : cZ w w') (hi : i.P w') (hg : ∀ b,i.own b → w.heap.size ≤ b) : bS w0 w' (i :: is):=by
 have m':=m.ext' e;refine ⟨m'.ext,fun j hj=>?_,fun j hj=>?_,List.pairwise_cons.2 ⟨fun j hj b h1 h2=>?_,m'.nd⟩⟩
 · rcases List.mem_cons.1 hj with rfl | hj
   · exact hi
   · exact m'.all j hj
 · rcases List.mem_cons.1 hj with rfl | hj
   · exact fun b hb=>Nat.le_trans m.ext.size (hg b hb)
   · exact m'.ge j hj
 · have:=j.lt w b (m.all j hj) h2
   have:=hg b h1;omega
theorem bS.newB {g : Nat} {cs : List Value} {t : TypeId} (m : bS w0 w is) (e : cZ w w') (hg : w.heap.size ≤ g) (hB : fQ w' g cs t) : bS w0 w' (bI g cs t :: is):=m.new e hB (fun b h=>by cases h;exact hg)
theorem bS.newO {S : List (Option Nat)} {E : TypeId} {c n cap : Nat} {A : Option Addr} {xs : List Value} (m : bS w0 w is) (e : cZ w w') (h : Ow w w' S E c A n cap xs) : bS w0 w' (oI E c A n cap xs :: is):=by
 refine m.new e (i:=oI E c A n cap xs) ?_ h.ge;refine ⟨h.own.1,?_⟩;rcases h.cases with ⟨rfl,rfl,rfl,_⟩ | ⟨g,cur,rfl,_,h2,h3⟩
 · exact .inl ⟨rfl,rfl⟩
 · exact .inr ⟨g,cap,cur,rfl,Nat.zero_le _,h2,h3⟩
theorem bS.nilO (m : bS w0 w is) (E : TypeId) (c : Nat) : bS w0 w (oI E c none 0 0 [] :: is):=m.newO (cZ.refl w) (Ow.nil w w E c)
theorem Mi {i i' : It} : ∀ (is : List It) (k : Nat),is.Pairwise Ap → is[k]? = some i → (∀ x ∈ is,Ap i x → Ap i' x) → (is.set k i').Pairwise Ap
 | [],_,_,h,_=>by cases h
 | j :: is,0,hp,h,hc=>by
  cases h;rw [List.set_cons_zero];have:=List.pairwise_cons.1 hp;exact List.pairwise_cons.2 ⟨fun x hx=>hc x (List.mem_cons_of_mem _ hx) (this.1 x hx),this.2⟩
 | j :: is,k + 1,hp,h,hc=>by
  rw [List.set_cons_succ];have hp':=List.pairwise_cons.1 hp;have h' : is[k]? = some i:=h;refine List.pairwise_cons.2 ⟨fun x hx=>?_,Mi is k hp'.2 h' fun x hx=>hc x (List.mem_cons_of_mem _ hx)⟩;rcases List.mem_or_eq_of_mem_set hx with hx | rfl
  · exact hp'.1 x hx
  · exact (hc j (List.mem_cons_self ..) (hp'.1 i (List.mem_of_getElem? h')).symm).symm
theorem bS.put {i i' : It} (m : bS w0 w is) (k : Nat) (hk : is[k]? = some i) (hos : w'.os = w.os) (ht : w'.tape = w.tape) (ho : w'.output = w.output) (hs : w.heap.size ≤ w'.heap.size) (hb : ∀ b,b < w.heap.size → ¬ i.own b → w'.heap[b]? = w.heap[b]?)
 (hi : i'.P w') (hid : (∀ b,i'.own b → i.own b) ∨ ∀ b,i'.own b → w.heap.size ≤ b) : bS w0 w' (is.set k i'):=by
 have hmem:=List.mem_of_getElem? hk;refine ⟨⟨hos.trans m.ext.os,ht.trans m.ext.tape,ho.trans m.ext.output,Nat.le_trans m.ext.size hs,fun b hlt=>(hb b (Nat.lt_of_lt_of_le hlt m.ext.size) fun e=>?_).trans (Below.block m.ext b hlt)⟩,fun j hj=>?_,fun j hj b hjb=>?_,Mi is k m.nd hk fun x hx ha b h1 h2=>?_⟩
 · have:=m.ge i hmem b e
   omega
 · obtain ⟨q,hq,e⟩:=List.getElem_of_mem hj
   rw [List.getElem_set] at e;split at e
   · subst e;exact hi
   · rename_i hne
     rw [List.length_set] at hq;have hj' : j ∈ is:=e ▸ List.getElem_mem hq;have hq' : is[q]? = some j:=by rw [← e];exact List.getElem?_eq_getElem hq
     refine j.st w w' (m.all j hj') hs fun b hjb=>hb b (j.lt w b (m.all j hj') hjb) fun hib=>?_;have hklt : k < is.length:=(List.getElem?_eq_some_iff.1 hk).1;have hki : is[k] = i:=(List.getElem?_eq_some_iff.1 hk).2;rcases Nat.lt_or_gt_of_ne hne with h | h
     · have:=List.pairwise_iff_getElem.1 m.nd k q hklt hq h
       rw [hki,e] at this;exact this b hib hjb
     · have:=List.pairwise_iff_getElem.1 m.nd q k hq hklt h
       rw [hki,e] at this;exact this b hjb hib
 · rcases List.mem_or_eq_of_mem_set hj with hj | rfl
   · exact m.ge j hj b hjb
   · rcases hid with hid | hid
     · exact m.ge i hmem b (hid b hjb)
     · exact Nat.le_trans m.ext.size (hid b hjb)
 · rcases hid with hid | hid
   · exact ha b (hid b h1) h2
   · have:=hid b h1
     have:=x.lt w b (m.all x hx) h2;omega
theorem bS.re (m : bS w0 w is) (k : Nat) {g : Nat} {cs cs' : List Value} {t : TypeId} (hk : is[k]? = some (bI g cs t)) (hB : fQ w g cs' t) : bS w0 w (is.set k (bI g cs' t)) :=
 m.put k hk rfl rfl rfl (Nat.le_refl _) (fun _ _ _=>rfl) hB (.inl fun _ h=>h)
theorem bS.reO (m : bS w0 w is) (k : Nat) {E : TypeId} {c n cap n' cap' : Nat} {A : Option Addr} {xs xs' : List Value} (hk : is[k]? = some (oI E c A n cap xs)) (h : Ow w0 w [] E c A n' cap' xs') : bS w0 w (is.set k (oI E c A n' cap' xs')):=by
 refine m.put k hk rfl rfl rfl (Nat.le_refl _) (fun _ _ _=>rfl) ?_ (.inl fun _ h=>h);refine ⟨h.own.1,?_⟩;rcases h.cases with ⟨rfl,rfl,rfl,_⟩ | ⟨g,cur,rfl,_,h2,h3⟩
 · exact .inl ⟨rfl,rfl⟩
 · exact .inr ⟨g,cap',cur,rfl,Nat.zero_le _,h2,h3⟩
theorem bS.own (m : bS w0 w is) (k : Nat) {g : Nat} {cs : List Value} {t : TypeId} (hk : is[k]? = some (bI g cs t)) {n c : Nat} (hl : cs.length = n * c) (hm : n ≤ maxLen) : bS w0 w (is.set k (oI t c (some ⟨g,0,none⟩) n n cs)):=by
 obtain ⟨i,rfl,h⟩:=m.toO k hk hl hm;exact m.put k hk rfl rfl rfl (Nat.le_refl _) (fun _ _ _=>rfl) h (.inl fun _ h=>h)
theorem dH {a b : Nat} (h : Nat.ble a b = true) : a ≤ b:=Nat.le_of_ble_eq_true h
theorem sA {us : List Value} (h : (us.all (·.oneCell')) = true) : ∀ u ∈ us,u.oneCell' = true:=fun u hu=>List.all_eq_true.1 h u hu
end
section
variable {P : Program} {ds : List Deferred} {l : List Value} {x y : Operand} {T ty : TypeId}
variable {ops : Array Oper} {Q : Exit → Act → World → Prop} {rest : List Oper} {d : Nat} {pos : String} {after : Array Edge} {w w0 : World} {is : List It}
theorem aeq {cs : List Value} (m : bS w0 w is) (hv : (ev l x).cells = cs.toArray) (h : ∀ g u,bS w0 u (bI g cs T :: is) → wpList P ops Q rest (Fr (l.set d (.pointer (some ⟨g,0,none⟩))) ds) u) :
 wpList P ops Q (Oper.mk (some d) (.box T x) ty pos after none :: rest) (Fr l ds) w:=lX hv fun u g e hg hB=>h g u (m.newB e hg hB)
theorem aY {cs : List Value} {z : Value} (m : bS w0 w is) (hZ : lL P T z) (hv : z.cells = cs.toArray) (h : ∀ g u,bS w0 u (bI g cs T :: is) → wpList P ops Q rest (Fr (l.set d (.pointer (some ⟨g,0,none⟩))) ds) u) :
 wpList P ops Q (Oper.mk (some d) (.alloc T) ty pos after none :: rest) (Fr l ds) w:=jA hZ hv fun u g e hg hB=>h g u (m.newB e hg hB)
theorem Uu {g off : Nat} {cs us : List Value} {t : TypeId} (m : bS w0 w is) (k : Nat) (hk : is[k]? = some (bI g cs t)) (hx : ev l x = .pointer (some ⟨g,off,none⟩)) (hv : (ev l y).cells = us.toArray) (hc : dX P T us.length) (hfit : off + us.length ≤ cs.length) (h1 : (us.all (·.oneCell')) = true)
 (h : ∀ u,bS w0 u (is.set k (bI g (bB cs off us) t)) → wpList P ops Q rest (Fr l ds) u) : wpList P ops Q (Oper.mk none (.store T x y) ty pos after none :: rest) (Fr l ds) w :=
 cK hx hv hc (m.b k hk) hfit (sA h1) fun u hC hB=>h u (m.put k hk hC.os hC.tape hC.output (by rw [hC.size];exact Nat.le_refl _) (fun b _ hne=>hC.block b fun e=>hne (by rw [e];rfl)) hB (.inl fun _ h=>h))
theorem oW {g off : Nat} {us xs : List Value} {E : TypeId} {c n cap : Nat} (m : bS w0 w is) (k : Nat) (hk : is[k]? = some (oI E c (some ⟨g,0,none⟩) n cap xs)) (hx : ev l x = .pointer (some ⟨g,off,none⟩)) (hv : (ev l y).cells = us.toArray) (hc : dX P T us.length) (hfit : off + us.length ≤ n * c) (h1 : (us.all (·.oneCell')) = true)
 (h : ∀ u,bS w0 u (is.set k (oI E c (some ⟨g,0,none⟩) n cap (bB xs off us))) → wpList P ops Q rest (Fr l ds) u) : wpList P ops Q (Oper.mk none (.store T x y) ty pos after none :: rest) (Fr l ds) w :=
 Ut hx hv hc (m.o k hk) hfit (sA h1) fun u hW hO=>h u (m.put k hk hW.os hW.tape hW.output hW.size (fun b hb hne=>hW.block b hb hne) (by
  refine ⟨hO.own.1,?_⟩;rcases hO.cases with ⟨e,_⟩ | ⟨g,cur,e,_,h2,h3⟩
  · cases e
  · cases e;exact .inr ⟨_,cap,cur,rfl,Nat.zero_le _,h2,h3⟩) (.inl fun _ h=>h))
theorem cW {v : Value} {f : FuncId} {fo : Operand} {xs : Array Operand} {args : List Value} {first cap : Array Value} {a0 : Array TypeId} (m : bS w0 w is) (hf : ev l fo = .func (.func f) first cap) (hxs : first.toList ++ xs.toList.map (ev l) ++ cap.toList = args) (hc : jB P f args v)
 (h : ∀ u,bS w0 u is → wpList P ops Q rest (Fr (l.set d v) ds) u) : wpList P ops Q (Oper.mk (some d) (.call { callee:=.value fo,args:=xs,argTypes:=a0 }) ty pos after none :: rest) (Fr l ds) w :=
 Gn hf hxs hc fun u e=>h u (m.ext' e)
theorem fF {f : FuncId} {fo : Operand} {xs : Array Operand} {args : List Value} {first cap : Array Value} {a0 : Array TypeId} {R : Value → World → Prop} (m : bS w0 w is) (hf : ev l fo = .func (.func f) first cap) (hxs : first.toList ++ xs.toList.map (ev l) ++ cap.toList = args) (hc : eE P f args w R)
 (h : ∀ v u,bS w0 u is → R v u → wpList P ops Q rest (Fr (l.set d v) ds) u) : wpList P ops Q (Oper.mk (some d) (.call { callee:=.value fo,args:=xs,argTypes:=a0 }) ty pos after none :: rest) (Fr l ds) w :=
 bE hf hxs hc fun v u e hR=>h v u (m.ext' e) hR
def OR (E : TypeId) (c : Nat) (R : List Value → Prop) (w : World) (v : Value) (w' : World) : Prop:=∃ A n cap xs,v = .slice A n cap ∧ Ow w w' [] E c A n cap xs ∧ R xs
theorem eC {E : TypeId} {c n cap b nm mcap : Nat} {A B : Option Addr} {z : Value} {xs news : List Value} {a0 : Array TypeId} (m : bS w0 w is) (k : Nat) (hk : is[k]? = some (oI E c A n cap xs)) (ha : a0 = #[T,T]) (hu : P.underlying T = some (.slice E)) (hi : (P.info? E).map (fun i=>(i.size,i.bytes,i.zero)) = some (c,b,some z)) (hz : z.cells.size = c) (hc : 0 < c)
 (hs : ev l x = .slice A n cap) (hx : ev l y = .slice B nm mcap) (hl : news.length = nm * c) (hrow : ∀ j u,news[j]? = some u → ∃ a,B = some a ∧ w.cell? (a.add j) = some u) (h1 : ∀ u ∈ news,u.oneCell' = true) (h63 : n + nm ≤ 9223372036854775807) (hbytes : (n + nm) * b ≤ 140737488355328)
 (h : ∀ A' cap' u,bS w0 u (is.set k (oI E c A' (n + nm) cap' (xs ++ news))) → wpList P ops Q rest (Fr (l.set d (.slice A' (n + nm) cap')) ds) u) :
 wpList P ops Q (Oper.mk (some d) (.call { callee:=.builtin .append,args:=#[x,y],argTypes:=a0 }) ty pos after none :: rest) (Fr l ds) w :=
 Qo ha hu hi hz hc m.ext hs (m.o k hk) hx hl hrow h1 h63 hbytes fun A' cap' u hO hW hF=>h A' cap' u (m.put k hk hW.os hW.tape hW.output hW.size (fun b hb hne=>hW.block b hb hne) (by
  refine ⟨hO.own.1,?_⟩;rcases hO.cases with ⟨rfl,e1,rfl,_⟩ | ⟨g,cur,rfl,_,h2,h3⟩
  · exact .inl ⟨by rw [e1],e1⟩
  · exact .inr ⟨g,cap',cur,rfl,Nat.zero_le _,h2,h3⟩) (by
  rcases hF with rfl | hF
  · exact .inl fun _ h=>h
  · exact .inr fun b hb=>by
     have e : Bo A' = some b:=hb;rw [hF] at e;cases e;exact Nat.le_refl _))
theorem fA {cs : List Value} (m : bS w0 w is) (hv : ev l x = .agg cs.toArray) (h : ∀ g u,bS w0 u (bI g cs T :: is) → wpList P ops Q rest (Fr (l.set d (.pointer (some ⟨g,0,none⟩))) ds) u) :
 wpList P ops Q (Oper.mk (some d) (.box T x) ty pos after none :: rest) (Fr l ds) w:=aeq m (by rw [hv];rfl) h
theorem aQ {g off : Nat} {cs us : List Value} {t : TypeId} (m : bS w0 w is) (k : Nat) (hk : is[k]? = some (bI g cs t)) (hx : ev l x = .pointer (some ⟨g,off,none⟩)) (hv : ev l y = .agg us.toArray) (hc : dX P T us.length) (hfit : off + us.length ≤ cs.length) (h1 : (us.all (·.oneCell')) = true)
 (h : ∀ u,bS w0 u (is.set k (bI g (bB cs off us) t)) → wpList P ops Q rest (Fr l ds) u) : wpList P ops Q (Oper.mk none (.store T x y) ty pos after none :: rest) (Fr l ds) w:=Uu m k hk hx (by rw [hv];rfl) hc hfit h1 h
theorem Ol {g off : Nat} {cs : List Value} {v : Value} {t : TypeId} (m : bS w0 w is) (k : Nat) (hk : is[k]? = some (bI g cs t)) (hx : ev l x = .pointer (some ⟨g,off,none⟩)) (hv : ev l y = v) (hc : dX P T 1) (hfit : off + 1 ≤ cs.length) (h1 : v.oneCell' = true ∧ v.cells = #[v])
 (h : ∀ u,bS w0 u (is.set k (bI g (bB cs off [v]) t)) → wpList P ops Q rest (Fr l ds) u) : wpList P ops Q (Oper.mk none (.store T x y) ty pos after none :: rest) (Fr l ds) w:=Uu (us:=[v]) m k hk hx (by rw [hv,h1.2]) hc hfit (by simp [h1.1]) h
theorem fQ.full {g : Nat} {cs : List Value} {t : TypeId} (h : fQ w g cs t) (hA : fK P T true) (hc : dX P T cs.length) : uK P w T ⟨g,0,none⟩ (.agg cs.toArray):=by
 have:=h.row 0;rw [List.drop_zero] at this;exact this.lies hA hc
theorem bS.s01 {w0 w : World} {i j : It} {is : List It} (m : bS w0 w (i :: j :: is)) : bS w0 w (j :: i :: is):=by
 have h1:=List.pairwise_cons.1 m.nd;have h2:=List.pairwise_cons.1 h1.2;refine ⟨m.ext,fun x hx=>m.all x ?_,fun x hx=>m.ge x ?_,List.pairwise_cons.2 ⟨fun x hx=>?_,List.pairwise_cons.2 ⟨fun x hx=>h1.1 x (List.mem_cons_of_mem _ hx),h2.2⟩⟩⟩
 · simp only[List.mem_cons] at hx ⊢;rcases hx with h | h | h <;> simp [h]
 · simp only[List.mem_cons] at hx ⊢;rcases hx with h | h | h <;> simp [h]
 · rcases List.mem_cons.1 hx with rfl | hx
   · exact (h1.1 _ (List.mem_cons_self ..)).symm
   · exact h2.1 x hx
theorem bS.s12 {w0 w : World} {h i j : It} {is : List It} (m : bS w0 w (h :: i :: j :: is)) : bS w0 w (h :: j :: i :: is):=by
 have h1:=List.pairwise_cons.1 m.nd;have m':=m.tl.s01;refine ⟨m.ext,fun x hx=>m.all x ?_,fun x hx=>m.ge x ?_,List.pairwise_cons.2 ⟨fun x hx=>h1.1 x ?_,m'.nd⟩⟩
 · simp only[List.mem_cons] at hx ⊢;rcases hx with h | h | h | h <;> simp [h]
 · simp only[List.mem_cons] at hx ⊢;rcases hx with h | h | h | h <;> simp [h]
 · simp only[List.mem_cons] at hx ⊢;rcases hx with h | h | h <;> simp [h]
/-! ### Regions -/
theorem fO {id : Nat} {a : Act} {l : List Oper} (m : bS w0 w is) (n : Nat) (hm : P.follows .mixedOrders = true) (hB : Region.lexTailB .any l.toArray n = true)
 (h : wpQuiet P l.toArray (fun u=>bS w0 u is) (fun a'=>∀ u,bS w0 u is → wpList P l.toArray Q (l.drop n) a' u) (l.take n) a) : (Code.region id l.toArray true).wp P Q a w :=
 jT (C:=fun u=>bS w0 u is) n hm hB (m.ext' (cZ.refl w).drawn) h
theorem mq {id : Nat} {a : Act} {l : List Oper} (m : bS w0 w is) (hm : P.follows .mixedOrders = true) (hB : Region.lexB .any l.toArray = true)
 (h : wpQuiet P l.toArray (fun u=>bS w0 u is) (fun a'=>∀ u,bS w0 u is → Q .normal a' u) l a) : (Code.region id l.toArray true).wp P Q a w :=
 wp_region_quiet (C:=fun u=>bS w0 u is) hm hB (m.ext' (cZ.refl w).drawn) (by simpa using h)
theorem mh {id : Nat} {a : Act} {l : List Oper} (m : bS w0 w is) (bs : List Bool) (o : List (Nat × Bool)) (hm : P.follows .mixedOrders = true) (hB : (Region.noSelect l.toArray && decide (o.length = l.length) && xK .any l.toArray o (Array.replicate l.toArray.size false)) = true)
 (hQ : ∀ c d v a w,Q (.panic c) (Act.put a d v) w → Q (.panic c) a w) {ol : List (Oper × Bool)} (hol : (o.map fun x=>((l.toArray[x.1]?).getD default,x.2)) = ol)
 (h : ∀ u,bS w0 u is → cO P l.toArray (fun u=>bS w0 u (Jd bs is)) Q ol a u) : (Code.region id l.toArray true).wp P Q a w :=
 dT o hm hB hQ hol fun u e=>⟨fun u=>bS w0 u (Jd bs is),(m.ext' e).sel bs,h u (m.ext' e)⟩
theorem Fc {id : Nat} {a : Act} {l : List Oper} (m : bS w0 w is) (bs : List Bool) (t : nH) (hm : P.follows .mixedOrders = true) (hB : (Region.noSelect l.toArray && t.ok .any l.toArray l.toArray.size (Array.replicate l.toArray.size false)) = true)
 (hQ : ∀ c d v a w,Q (.panic c) (Act.put a d v) w → Q (.panic c) a w)
 (h : ∀ u,bS w0 u is → cF P l.toArray (fun u=>bS w0 u (Jd bs is)) Q t a u) : (Code.region id l.toArray true).wp P Q a w :=
 Bh t hm hB hQ fun u e=>⟨fun u=>bS w0 u (Jd bs is),(m.ext' e).sel bs,h u (m.ext' e)⟩
theorem mf1 {tl : List Oper} {i d : Nat} {T : TypeId} {cs : List Value} (m : bS w0 w is) (h : ∀ g u,bS w0 u (bI g cs T :: is) → wpList P ops Q tl (Fr (l.set d (.pointer (some ⟨g,0,none⟩))) ds) u) :
 ∀ E w',cZ w w' → Bl w.heap.size E [⟨i,d,T,cs⟩] w' → (∀ x ∈ [(⟨i,d,T,cs⟩ : Al)],∃ v,E x.i = some v) → wpList P ops Q tl (fN E [⟨i,d,T,cs⟩] (Fr l ds)) w' :=
 aa8 fun u g e hg hB=>h g u (m.newB e hg hB)
theorem acF {c : Code} {a : Act} {l : Nat → Nat → Nat → List Value} {c1 c2 c3 : List Value} {T1 T2 T3 : TypeId} (m : bS w0 w is) (h1 : c.wp P (fun e a' u=>e = .normal ∧ ∃ g k p,a' = Fr (l g k p) ds ∧ bS w0 u (bI p c3 T3 :: bI k c2 T2 :: bI g c1 T1 :: is)) a w)
 (h2 : ∀ g k p u,bS w0 u (bI p c3 T3 :: bI k c2 T2 :: bI g c1 T1 :: is) → Q .normal (Fr (l g k p) ds) u) : c.wp P Q a w:=by
 refine Code.wp_mono ?_ h1;rintro e a' u ⟨rfl,g,k,p,rfl,m'⟩;exact h2 g k p u m'
end
section
variable {P : Program} {w0 : World} {is : List It} {l : List Value} {x y : Operand} {T ty : TypeId}
variable {ops : Array Oper} {Q : Act → Prop} {rest : List Oper} {d : Nat} {pos : String} {after : Array Edge} {v : Value} {ds : List Deferred}
theorem ql {a : Addr} (hx : ev l x = .pointer (some a)) (hv : ∀ u,bS w0 u is → uK P u T a v) (h : wpQuiet P ops (fun u=>bS w0 u is) Q rest (Fr (l.set d v) ds)) : wpQuiet P ops (fun u=>bS w0 u is) Q (Oper.mk (some d) (.load T x) ty pos after none :: rest) (Fr l ds) :=
 vA (fun u m=>dI hx (hv u m)) h
theorem qc {f : FuncId} {fo : Operand} {xs : Array Operand} {args : List Value} {first cap : Array Value} {a0 : Array TypeId} (hf : ev l fo = .func (.func f) first cap) (hxs : first.toList ++ xs.toList.map (ev l) ++ cap.toList = args) (hc : ∀ u,bS w0 u is → eE P f args u fun x _=>x = v)
 (h : wpQuiet P ops (fun u=>bS w0 u is) Q rest (Fr (l.set d v) ds)) : wpQuiet P ops (fun u=>bS w0 u is) Q (Oper.mk (some d) (.call { callee:=.value fo,args:=xs,argTypes:=a0 }) ty pos after none :: rest) (Fr l ds):=by
 refine wpQuiet_step fun K hK=>?_;rw [if_pos (by simp [Region.wanted])];refine ⟨v,fun w' hw=>?_,?_⟩
 · unfold Oper.quietAt
   rw [gD,kM (hc w' hw).1 hf hxs _ rfl];refine ⟨rfl,(hc w' hw).2.mono ?_⟩;rintro e w'' ⟨u,rfl,hE,rfl⟩;exact ⟨rfl,hw.ext' hE⟩
 · show K ((Fr l ds).put (some d) v)
   rw [iL];exact hK _ h
theorem sB {f : FuncId} {fo : Operand} {xs : Array Operand} {args : List Value} {first cap : Array Value} {a0 : Array TypeId} (hf : ev l fo = .func (.func f) first cap) (hxs : first.toList ++ xs.toList.map (ev l) ++ cap.toList = args) (hc : jB P f args v)
 (h : wpQuiet P ops (fun u=>bS w0 u is) Q rest (Fr (l.set d v) ds)) : wpQuiet P ops (fun u=>bS w0 u is) Q (Oper.mk (some d) (.call { callee:=.value fo,args:=xs,argTypes:=a0 }) ty pos after none :: rest) (Fr l ds):=qc hf hxs (fun u _=>hc u) h
end
end Go.Lith
namespace Go.Lith
open Go.RowKit
structure GX (w w' : World) : Prop where
 ext : cZ w w'
 dr : w.drawn ≤ w'.drawn
theorem GX.grow {w w' : World} (h : GX w w') : ∃ q os,w' = Sort.grow (w.drewN q) os:=by
 refine ⟨w'.drawn - w.drawn,w'.heap.extract w.heap.size w'.heap.size,?_⟩;have e1 : w.heap ++ w'.heap.extract w.heap.size w'.heap.size = w'.heap:=by
  apply Array.ext_getElem?;intro i;rw [Array.getElem?_append];split
  · rename_i hi
    exact (Below.block h.ext i hi).symm
  · rename_i hi
    rw [Array.getElem?_extract];have:=h.ext.size;split
    · congr 1;omega
    · rw [Array.getElem?_eq_none (by omega)]
 have e2 : w.drawn + (w'.drawn - w.drawn) = w'.drawn:=by have:=h.dr;omega
 have h1:=h.ext.os;have h2:=h.ext.tape;have h3:=h.ext.output;cases w;cases w';simp only[Sort.grow,World.drewN] at *
 subst h1 h2 h3;rw [e1,e2]
structure gK (w0 w : World) (is : List It) : Prop where
 ext : GX w0 w
 mem : bS w0 w is
def rY (P : Program) (f : FuncId) (args : List Value) (v : Value) : Prop:=∀ w,bD P f ∧ Calls P f args.toArray w fun e w'=>∃ u,e = .returned u ∧ GX w w' ∧ u = v
theorem rY.pure {P : Program} {f : FuncId} {args : List Value} {v : Value} (h : rY P f args v) : jB P f args v:=fun w=>⟨(h w).1,(h w).2.mono fun _ _ ⟨u,he,hX,hv⟩=>⟨u,he,hX.ext,hv⟩⟩
section
variable {w0 w w' : World} {is : List It}
theorem gK.refl (w : World) : gK w w []:=⟨⟨cZ.refl w,Nat.le_refl _⟩,bS.refl w⟩
theorem gK.go (m : gK w0 w is) {js : List It} (h : bS w0 w' js) (d : w.drawn ≤ w'.drawn) : gK w0 w' js:=⟨⟨h.ext,Nat.le_trans m.ext.dr d⟩,h⟩
theorem gK.ext' (m : gK w0 w is) (e : GX w w') : gK w0 w' is:=m.go (m.mem.ext' e.ext) e.dr
theorem gK.b (m : gK w0 w is) (k : Nat) {g : Nat} {cs : List Value} {t : TypeId} (hk : is[k]? = some (bI g cs t)) : fQ w g cs t:=m.mem.b k hk
end
section
variable {P : Program} {ds : List Deferred} {l : List Value} {x y : Operand} {T ty : TypeId}
variable {ops : Array Oper} {Q : Exit → Act → World → Prop} {rest : List Oper} {d : Nat} {pos : String} {after : Array Edge} {w w0 : World} {is : List It} {v : Value}
theorem acG {cs : List Value} (m : gK w0 w is) (hv : (ev l x).cells = cs.toArray) (h : ∀ g u,gK w0 u (bI g cs T :: is) → wpList P ops Q rest (Fr (l.set d (.pointer (some ⟨g,0,none⟩))) ds) u) :
 wpList P ops Q (Oper.mk (some d) (.box T x) ty pos after none :: rest) (Fr l ds) w :=
 jU (w':=w.alloc (.cells cs.toArray T)) (v:=.pointer (some ⟨w.heap.size,0,none⟩)) (fun o ho _=>by simp [execOp,ho,cR,Instr.box,newVar,newRow,hv,newObj,Sem.run]) (h _ _ (m.go (m.mem.newB ((cZ.refl w).alloc _) (Nat.le_refl _) (gS w cs T)) (Nat.le_refl _)))
theorem rG {cs : List Value} (m : gK w0 w is) (hv : ev l x = .agg cs.toArray) (h : ∀ g u,gK w0 u (bI g cs T :: is) → wpList P ops Q rest (Fr (l.set d (.pointer (some ⟨g,0,none⟩))) ds) u) :
 wpList P ops Q (Oper.mk (some d) (.box T x) ty pos after none :: rest) (Fr l ds) w:=acG m (by rw [hv];rfl) h
theorem Zd {cs : List Value} {z : Value} (m : gK w0 w is) (hZ : lL P T z) (hv : z.cells = cs.toArray) (h : ∀ g u,gK w0 u (bI g cs T :: is) → wpList P ops Q rest (Fr (l.set d (.pointer (some ⟨g,0,none⟩))) ds) u) :
 wpList P ops Q (Oper.mk (some d) (.alloc T) ty pos after none :: rest) (Fr l ds) w:=by
 obtain ⟨inf,hi,hz⟩:=hZ;exact jU (w':=w.alloc (.cells cs.toArray T)) (v:=.pointer (some ⟨w.heap.size,0,none⟩)) (fun o ho _=>by simp [execOp,ho,Instr.alloc,zeroValue,typeInfo,hi,hz,newVar,newRow,hv,newObj,Sem.run]) (h _ _ (m.go (m.mem.newB ((cZ.refl w).alloc _) (Nat.le_refl _) (gS w cs T)) (Nat.le_refl _)))
theorem Ze {g off : Nat} {cs us : List Value} {t : TypeId} (m : gK w0 w is) (k : Nat) (hk : is[k]? = some (bI g cs t)) (hx : ev l x = .pointer (some ⟨g,off,none⟩)) (hv : (ev l y).cells = us.toArray) (hc : dX P T us.length) (hfit : off + us.length ≤ cs.length) (h1 : (us.all (·.oneCell')) = true)
 (h : ∀ u,gK w0 u (is.set k (bI g (bB cs off us) t)) → wpList P ops Q rest (Fr l ds) u) : wpList P ops Q (Oper.mk none (.store T x y) ty pos after none :: rest) (Fr l ds) w:=by
 have hB:=m.b k hk;have hC:=qW w g (bB cs off us).toArray;exact zX (w':=w.setRow g (bB cs off us).toArray) (fun o ho=>by simp [execOp,ho,cR,hx,Instr.storeAt,Instr.sureAddr,vW hc hv hB hfit (sA h1)])
  (h _ (m.go (m.mem.put k hk hC.os hC.tape hC.output (by rw [hC.size];exact Nat.le_refl _) (fun b _ hne=>hC.block b fun e=>hne (by rw [e];rfl)) (setRow_heap w g cs.toArray _ t _ hB) (.inl fun _ h=>h)) (Nat.le_refl _)))
theorem Uv {g off : Nat} {cs us : List Value} {t : TypeId} (m : gK w0 w is) (k : Nat) (hk : is[k]? = some (bI g cs t)) (hx : ev l x = .pointer (some ⟨g,off,none⟩)) (hv : ev l y = .agg us.toArray) (hc : dX P T us.length) (hfit : off + us.length ≤ cs.length) (h1 : (us.all (·.oneCell')) = true)
 (h : ∀ u,gK w0 u (is.set k (bI g (bB cs off us) t)) → wpList P ops Q rest (Fr l ds) u) : wpList P ops Q (Oper.mk none (.store T x y) ty pos after none :: rest) (Fr l ds) w:=Ze m k hk hx (by rw [hv];rfl) hc hfit h1 h
theorem He {f : FuncId} {fo : Operand} {xs : Array Operand} {args : List Value} {first cap : Array Value} {a0 : Array TypeId} (m : gK w0 w is) (hf : ev l fo = .func (.func f) first cap) (hxs : first.toList ++ xs.toList.map (ev l) ++ cap.toList = args) (hc : rY P f args v)
 (h : ∀ u,gK w0 u is → wpList P ops Q rest (Fr (l.set d v) ds) u) : wpList P ops Q (Oper.mk (some d) (.call { callee:=.value fo,args:=xs,argTypes:=a0 }) ty pos after none :: rest) (Fr l ds) w:=by
 refine wpList_plain rfl fun K hK=>?_;unfold Oper.wp;rw [gD,kM (hc w).1 hf hxs _ rfl];refine (hc w).2.mono ?_;rintro e w' ⟨u,rfl,hE,rfl⟩;show K ((Fr l ds).put (some d) u) w'
 rw [iL];exact hK _ _ (h w' (m.ext' hE))
theorem gK.drew (m : gK w0 w is) : gK w0 { w with drawn:=w.drawn + 1 } is:=m.ext' ⟨(cZ.refl w).drawn,Nat.le_succ _⟩
theorem Uw {id : Nat} {a : Act} {l : List Oper} (m : gK w0 w is) (n : Nat) (hm : P.follows .mixedOrders = true) (hB : Region.lexTailB .any l.toArray n = true)
 (h : wpQuiet P l.toArray (fun u=>gK w0 u is) (fun a'=>∀ u,gK w0 u is → wpList P l.toArray Q (l.drop n) a' u) (l.take n) a) : (Code.region id l.toArray true).wp P Q a w :=
 jT (C:=fun u=>gK w0 u is) n hm hB m.drew h
theorem Gmq {id : Nat} {a : Act} {l : List Oper} (m : gK w0 w is) (hm : P.follows .mixedOrders = true) (hB : Region.lexB .any l.toArray = true)
 (h : wpQuiet P l.toArray (fun u=>gK w0 u is) (fun a'=>∀ u,gK w0 u is → Q .normal a' u) l a) : (Code.region id l.toArray true).wp P Q a w :=
 wp_region_quiet (C:=fun u=>gK w0 u is) hm hB m.drew (by simpa using h)
end
section
variable {P : Program} {w0 : World} {is : List It} {l : List Value} {x y : Operand} {T ty : TypeId}
variable {ops : Array Oper} {Q : Act → Prop} {rest : List Oper} {d : Nat} {pos : String} {after : Array Edge} {v : Value} {ds : List Deferred}
theorem Yf {a : Addr} (hx : ev l x = .pointer (some a)) (hv : ∀ u,gK w0 u is → uK P u T a v) (h : wpQuiet P ops (fun u=>gK w0 u is) Q rest (Fr (l.set d v) ds)) : wpQuiet P ops (fun u=>gK w0 u is) Q (Oper.mk (some d) (.load T x) ty pos after none :: rest) (Fr l ds) :=
 vA (fun u m=>dI hx (hv u m)) h
theorem Je {f : FuncId} {fo : Operand} {xs : Array Operand} {args : List Value} {first cap : Array Value} {a0 : Array TypeId} (hf : ev l fo = .func (.func f) first cap) (hxs : first.toList ++ xs.toList.map (ev l) ++ cap.toList = args) (hc : rY P f args v)
 (h : wpQuiet P ops (fun u=>gK w0 u is) Q rest (Fr (l.set d v) ds)) : wpQuiet P ops (fun u=>gK w0 u is) Q (Oper.mk (some d) (.call { callee:=.value fo,args:=xs,argTypes:=a0 }) ty pos after none :: rest) (Fr l ds):=by
 refine wpQuiet_step fun K hK=>?_;rw [if_pos (by simp [Region.wanted])];refine ⟨v,fun w' hw=>?_,?_⟩
 · unfold Oper.quietAt
   rw [gD,kM (hc w').1 hf hxs _ rfl];refine ⟨rfl,(hc w').2.mono ?_⟩;rintro e w'' ⟨u,rfl,hE,rfl⟩;exact ⟨rfl,hw.ext' hE⟩
 · show K ((Fr l ds).put (some d) v)
   rw [iL];exact hK _ h
end
end Go.Lith
namespace Go.Lith
open Go.RowKit
def P3.Lt (p q : P3) : Prop:=p.x < q.x ∨ p.x = q.x ∧ (p.y < q.y ∨ p.y = q.y ∧ p.z < q.z)
instance (p q : P3) : Decidable (p.Lt q):=by unfold P3.Lt;infer_instance
def wF (p q : P3) : Int:=if p.Lt q then -1 else if q.Lt p then 1 else 0
theorem P3.eq {p q : P3} (h1 : p.x = q.x) (h2 : p.y = q.y) (h3 : p.z = q.z) : p = q:=by
 cases p;cases q;simp_all
instance : DecidableEq P3:=fun p q=>if h : p.x = q.x ∧ p.y = q.y ∧ p.z = q.z then isTrue (P3.eq h.1 h.2.1 h.2.2) else isFalse fun e=>h (by subst e;exact ⟨rfl,rfl,rfl⟩)
theorem P3.lt_irrefl (p : P3) : ¬ p.Lt p:=by unfold P3.Lt;omega
theorem P3.lt_trans {p q r : P3} (h : p.Lt q) (k : q.Lt r) : p.Lt r:=by unfold P3.Lt at *;omega
theorem P3.lt_tri (p q : P3) : p.Lt q ∨ p = q ∨ q.Lt p:=by
 by_cases h1 : p.x = q.x
 · by_cases h2 : p.y = q.y
   · by_cases h3 : p.z = q.z
     · exact .inr (.inl (P3.eq h1 h2 h3))
     · unfold P3.Lt;omega
   · unfold P3.Lt;omega
 · unfold P3.Lt;omega
theorem P3.lt_x {p q : P3} (h : ¬ p.x = q.x) : p.Lt q ↔ p.x < q.x:=by unfold P3.Lt;omega
theorem P3.lt_y {p q : P3} (h : p.x = q.x) (h2 : ¬ p.y = q.y) : p.Lt q ↔ p.y < q.y:=by unfold P3.Lt;omega
theorem P3.lt_z {p q : P3} (h : p.x = q.x) (h2 : p.y = q.y) : p.Lt q ↔ p.z < q.z:=by unfold P3.Lt;omega
end Go.Lith
namespace Go.Lith
open Go.RowKit
@[irreducible] def Jf (c : Bool) (v : Value) : Value:=if c then v else undef
theorem uR {v : Value} : Jf true v = v:=by simp [Jf]
theorem Jg {v : Value} : Jf false v = undef:=by simp [Jf]
theorem bW {c : Bool} {u v : Value} (hb : c = true) (h : u = Jf c v) : u = v:=by rw [h,hb,uR]
section
variable {P : Program} {ds : List Deferred} {l : List Value} {x y : Operand} {T ty : TypeId} {b c : Bool} {v : Value}
theorem dV {z : Operand} (hz : ev l z = .bool b) (hx : ev l x = Jf b (.bool c)) (hy : ev l y = .bool false) : gH P l (.pick z x y) ty (.bool (b && c)):=by
 have:=Gm (P:=P) (ty:=ty) (x:=x) (y:=y) hz;cases b with
 | false=>simpa [hy] using this
 | true=>simpa [hx,uR] using this
theorem iW {z : Operand} (hz : ev l z = .bool b) (hx : ev l x = .bool true) (hy : ev l y = Jf (!b) (.bool c)) : gH P l (.pick z x y) ty (.bool (b || c)):=by
 have:=Gm (P:=P) (ty:=ty) (x:=x) (y:=y) hz;cases b with
 | false=>simpa [hy,uR] using this
 | true=>simpa [hx] using this
end
section
variable {P : Program} {ops : Array Oper} {Q : Exit → Act → World → Prop} {rest : List Oper} {d j : Nat} {op : Op} {ty : TypeId} {pos : String} {after : Array Edge} {v : Value} {b : Bool} {ds : List Deferred} {l : List Value} {w w0 : World} {is : List It}
theorem iQ (hw : yielded ops l.toArray j = some b) (hr : b = true → uZ P l op ty v w) (h : wpList P ops Q rest (Fr (l.set d (Jf b v)) ds) w) : wpList P ops Q (Oper.mk (some d) op ty pos after (some (j,true)) :: rest) (Fr l ds) w:=by
 cases b with
 | false=>rw [Jg] at h;exact dA hw h
 | true=>rw [uR] at h;exact bM hw (eL (hr rfl) h)
theorem mT (hw : yielded ops l.toArray j = some b) (hr : (!b) = true → uZ P l op ty v w) (h : wpList P ops Q rest (Fr (l.set d (Jf (!b) v)) ds) w) : wpList P ops Q (Oper.mk (some d) op ty pos after (some (j,false)) :: rest) (Fr l ds) w:=by
 cases b with
 | true=>rw [Bool.not_true,Jg] at h;exact fG hw h
 | false=>rw [Bool.not_false,uR] at h;exact bM hw (eL (hr rfl) h)
theorem dS (hw : yielded ops l.toArray j = some b) (hr : b = true → gH P l op ty v) (h : wpList P ops Q rest (Fr (l.set d (Jf b v)) ds) w) : wpList P ops Q (Oper.mk (some d) op ty pos after (some (j,true)) :: rest) (Fr l ds) w:=iQ hw (fun e=>hr e w) h
theorem gN (hw : yielded ops l.toArray j = some b) (hr : (!b) = true → gH P l op ty v) (h : wpList P ops Q rest (Fr (l.set d (Jf (!b) v)) ds) w) : wpList P ops Q (Oper.mk (some d) op ty pos after (some (j,false)) :: rest) (Fr l ds) w:=mT hw (fun e=>hr e w) h
end
section
variable {P : Program} {ops : Array Oper} {Q : Act → Prop} {C : World → Prop} {rest : List Oper} {d j : Nat} {op : Op} {ty : TypeId} {pos : String} {after : Array Edge} {v : Value} {b : Bool} {ds : List Deferred} {l : List Value} {w0 : World} {is : List It}
theorem kG (hw : yielded ops l.toArray j = some b) (hr : b = true → ∀ u,C u → uZ P l op ty v u) (h : wpQuiet P ops C Q rest (Fr (l.set d (Jf b v)) ds)) : wpQuiet P ops C Q (Oper.mk (some d) op ty pos after (some (j,true)) :: rest) (Fr l ds):=by
 cases b with
 | false=>rw [Jg] at h;exact jO hw h
 | true=>rw [uR] at h;exact iS hw (vA (hr rfl) h)
theorem iH (hw : yielded ops l.toArray j = some b) (hr : (!b) = true → ∀ u,C u → uZ P l op ty v u) (h : wpQuiet P ops C Q rest (Fr (l.set d (Jf (!b) v)) ds)) : wpQuiet P ops C Q (Oper.mk (some d) op ty pos after (some (j,false)) :: rest) (Fr l ds):=by
 cases b with
 | true=>rw [Bool.not_true,Jg] at h;exact Yi hw h
 | false=>rw [Bool.not_false,uR] at h;exact iS hw (vA (hr rfl) h)
theorem eN (hw : yielded ops l.toArray j = some b) (hr : b = true → gH P l op ty v) (h : wpQuiet P ops C Q rest (Fr (l.set d (Jf b v)) ds)) : wpQuiet P ops C Q (Oper.mk (some d) op ty pos after (some (j,true)) :: rest) (Fr l ds):=kG hw (fun e u _=>hr e u) h
theorem fH (hw : yielded ops l.toArray j = some b) (hr : (!b) = true → gH P l op ty v) (h : wpQuiet P ops C Q rest (Fr (l.set d (Jf (!b) v)) ds)) : wpQuiet P ops C Q (Oper.mk (some d) op ty pos after (some (j,false)) :: rest) (Fr l ds):=iH hw (fun e u _=>hr e u) h
end
section
variable {P : Program} {ops : Array Oper} {S : World → Prop} {Q : Exit → Act → World → Prop} {rest : List (Oper × Bool)} {d j : Nat} {op : Op} {ty : TypeId} {pos : String} {after : Array Edge} {v : Value} {b : Bool} {ds : List Deferred} {l : List Value} {w : World}
end
end Go.Lith
namespace Go.Lith
open Go.RowKit
end Go.Lith
namespace Go.Lith
open Go.RowKit Go.ChangeShapes
variable {H : Type} {enc : TypeId × Value → H} {P : Program} {w : World} {base : Nat} {spare : Nat → Bool} {held : Bool}
def jI (P : Program) : Nat → TypeId → Bool
 | 0,_=>false
 | n + 1,t=>match P.underlying t with
  | some (.int .i64)=>decide (P.cellsOf t = 1)
  | some (.struct fs)=>(fs.toList.all fun f=>jI P n f.type) && (List.range (P.cellsOf t)).all fun i=>fs.toList.any fun f=>decide (f.offset ≤ i) && decide (i < f.offset + P.cellsOf f.type)
  | some (.array m e)=>jI P n e && decide (P.cellsOf t = m * P.cellsOf e)
  | _=>false
theorem aba {n : Int} (h : (Lit.int .i64 n).wf = true) : nO n:=by
 have:=bounds_i64 h;exact ⟨by omega,by omega⟩
theorem kH : ∀ (n : Nat) (t : TypeId) (m : Nat) (cs : List Value) (x : DataW H × List MemPlace),jI P n t = true → DataW.trod enc P w base spare held m t cs = some x →
 cs.length = P.cellsOf t ∧ ∀ v ∈ cs,∃ z,v = .int .i64 z ∧ nO z
 | 0,t,m,cs,x,h,_=>by cases h
 | n + 1,t,m,cs,x,h,hx=>by
  unfold jI at h;split at h
  · rename_i hu
    obtain ⟨z,rfl,_,hz⟩:=DataW.trod_int hu hx;refine ⟨by rw [of_decide_eq_true h];rfl,fun v hv=>⟨z,by simpa using hv,aba hz⟩⟩
  · rename_i fs hu
    simp only[Bool.and_eq_true,List.all_eq_true,List.any_eq_true,decide_eq_true_eq,List.mem_range] at h;obtain ⟨ys,k,_,_,hl,hlen,hf⟩:=DataW.trod_struct hu hx;refine ⟨hl,fun v hv=>?_⟩;obtain ⟨i,hi,rfl⟩:=List.getElem_of_mem hv;obtain ⟨f,hfm,h1,h2⟩:=h.2 i (by rw [← hl];exact hi);obtain ⟨j,hj,rfl⟩:=List.getElem_of_mem hfm;have hj' : j < fs.size:=by simpa using hj
    have:=hf j fs[j] (Array.getElem?_eq_getElem hj');rw [List.getElem?_eq_getElem (by rw [hlen];exact hj')] at this;have hr:=(kH n _ _ _ _ (h.1 _ (List.getElem_mem hj)) this).2;refine hr _ ?_;simp only[Array.getElem_toList] at h1 h2;refine List.mem_of_getElem? (i:=i - fs[j].offset) ?_;rw [List.getElem?_take,if_pos (by omega),List.getElem?_drop,show fs[j].offset + (i - fs[j].offset) = i by omega];exact List.getElem?_eq_getElem hi
  · rename_i q e hu
    simp only[Bool.and_eq_true,decide_eq_true_eq] at h;obtain ⟨ys,k,_,_,hl,hlen,hf⟩:=DataW.trod_array hu hx;refine ⟨hl,fun v hv=>?_⟩;obtain ⟨i,hi,rfl⟩:=List.getElem_of_mem hv;rw [hl,h.2] at hi;have hc : 0 < P.cellsOf e:=by
     rcases Nat.eq_zero_or_pos (P.cellsOf e) with h0 | h0
     · rw [h0] at hi;omega
     · exact h0
    have hq : i / P.cellsOf e < q:=Nat.div_lt_of_lt_mul (by rw [Nat.mul_comm];exact hi);have:=hf _ hq;rw [List.getElem?_eq_getElem (by rw [hlen];exact hq)] at this;have hr:=(kH n _ _ _ _ h.1 this).2;refine hr _ (List.mem_of_getElem? (i:=i % P.cellsOf e) ?_);rw [List.getElem?_take,if_pos (Nat.mod_lt _ hc),List.getElem?_drop,Nat.mul_comm,Nat.div_add_mod];exact List.getElem?_eq_getElem _
  · cases h
theorem xP : ∀ (n : Nat) (cs : List Value),cs.length = n → (∀ v ∈ cs,∃ z,v = .int .i64 z ∧ nO z) → ∃ zs : List Int,zs.length = n ∧ cs = zs.map (.int .i64 ·) ∧ ∀ z ∈ zs,nO z
 | 0,[],_,_=>⟨[],rfl,rfl,fun _ h=>by cases h⟩
 | n + 1,v :: vs,h,hv=>by
  obtain ⟨zs,h1,h2,h3⟩:=xP n vs (by simpa using h) (fun u hu=>hv u (by simp [hu]));obtain ⟨z,rfl,hz⟩:=hv v (by simp);exact ⟨z :: zs,by simp [h1],by simp [h2],fun u hu=>by rcases List.mem_cons.1 hu with rfl | hu;exact hz;exact h3 _ hu⟩
theorem Fe {r : Reach} {b0 n m : Nat} {t : TypeId} {v : Value} {d : DataW H} {p : List MemPlace} (ha : fK P t true) (hi : jI P n t = true) (hc : P.cellsOf t = m) (hv : Value.okWide P w r b0 t v) (h : DataW.Trod enc P w base spare held t v d p) :
 ∃ zs : List Int,zs.length = m ∧ v = .agg (zs.map (.int .i64 ·)).toArray ∧ ∀ z ∈ zs,nO z:=by
 obtain ⟨dd,hu,hd⟩:=ha;obtain ⟨fuel,hf⟩:=h;unfold Value.okWide at hv;rw [hu] at hv;have : ∃ cs,v = .agg cs:=by
  cases dd <;> first | (obtain ⟨cs,rfl,_⟩:=hv;exact ⟨cs,rfl⟩) | (cases hd)
 obtain ⟨cs,rfl⟩:=this;obtain ⟨h1,h2⟩:=kH n t fuel _ _ hi hf;obtain ⟨zs,h3,h4,h5⟩:=xP m cs.toList (by rw [← hc];exact h1) h2;exact ⟨zs,h3,by rw [← h4],h5⟩
theorem three {zs : List Int} (h : zs.length = 3) : ∃ a b c,zs = [a,b,c]:=by
 match zs,h with
 | [a,b,c],_=>exact ⟨a,b,c,rfl⟩
theorem aet {zs : List Int} (h : zs.length = 9) : ∃ a b c d e f g i j,zs = [a,b,c,d,e,f,g,i,j]:=by
 match zs,h with
 | [a,b,c,d,e,f,g,i,j],_=>exact ⟨a,b,c,d,e,f,g,i,j,rfl⟩
theorem Zf {r : Reach} {b0 n : Nat} {t : TypeId} {v : Value} {d : DataW H} {p : List MemPlace} (ha : fK P t true) (hi : jI P n t = true) (hc : P.cellsOf t = 9) (hv : Value.okWide P w r b0 t v) (h : DataW.Trod enc P w base spare held t v d p) : ∃ q : T3,IT q ∧ v = tr q:=by
 obtain ⟨zs,h1,rfl,h2⟩:=Fe ha hi hc hv h;obtain ⟨x1,x2,x3,y1,y2,y3,z1,z2,z3,rfl⟩:=aet h1;exact ⟨⟨⟨x1,x2,x3⟩,⟨y1,y2,y3⟩,⟨z1,z2,z3⟩⟩,⟨⟨h2 _ (by simp),h2 _ (by simp),h2 _ (by simp)⟩,⟨h2 _ (by simp),h2 _ (by simp),h2 _ (by simp)⟩,⟨h2 _ (by simp),h2 _ (by simp),h2 _ (by simp)⟩⟩,rfl⟩
theorem Mj {a : Addr} {n : Nat} {cs : List Value} (h : w.cells? base a n = some cs) : mC w a cs ∧ base ≤ a.block:=by
 unfold World.cells? at h;split at h
 · rename_i hb
   refine ⟨fun j u hj=>?_,hb⟩;have hl:=mapM_some_length h;have hj' : j < cs.length:=(List.getElem?_eq_some_iff.1 hj).1;rw [hl] at hj';have:=mapM_some_get h j j (List.getElem?_eq_getElem hj' ▸ by simp);rw [this,hj]
 · cases h
theorem Ff {n m : Nat} {t e : TypeId} {fuel : Nat} {cs : List Value} {x : DataW H × List MemPlace} (hu : P.underlying t = some (.slice e)) (hi : jI P n e = true) (hc : P.cellsOf e = m) (h : DataW.trod enc P w base spare held fuel t cs = some x) :
 ∃ (A : Option Addr) (len cap : Nat),cs = [.slice A len cap] ∧ len ≤ cap ∧ cap ≤ maxLen ∧ (A = none → len = 0) ∧ ∀ i,i < len → ∃ (a : Addr) (zs : List Int),A = some a ∧ base ≤ a.block ∧ mC w (a.add (i * m)) (zs.map (Value.int .i64 ·)) ∧ zs.length = m ∧ ∀ z ∈ zs,nO z:=by
 rcases Deep.open_slice hu h with ⟨rfl,_⟩ | ⟨a,len,cap,k,q,D,Pl,rfl,hb,hl,hm,hk,_,hx⟩
 · exact ⟨none,0,0,rfl,Nat.le_refl _,Nat.zero_le _,fun _=>rfl,fun i hi=>absurd hi (Nat.not_lt_zero _)⟩
 · refine ⟨some a,len,cap,rfl,hl,hm,fun h=>(by cases h),fun i hi'=>?_⟩
   obtain ⟨cs',h1,h2⟩:=hx i (by rw [hk];split <;> omega);obtain ⟨h3,h4⟩:=kH n e q _ _ hi h2;obtain ⟨zs,h5,rfl,h6⟩:=xP m cs' (by rw [← hc];exact h3) h4;rw [hc] at h1;exact ⟨a,zs,rfl,hb,(Mj h1).1,h5,h6⟩
theorem sR {α : Type} {p : Nat → α → Prop} : ∀ (n : Nat),(∀ i,i < n → ∃ x,p i x) → ∃ l : List α,l.length = n ∧ ∀ i x,l[i]? = some x → p i x
 | 0,_=>⟨[],rfl,fun i x h=>by simp at h⟩
 | n + 1,h=>by
  obtain ⟨l,h1,h2⟩:=sR n (fun i hi=>h i (by omega));obtain ⟨x,hx⟩:=h n (by omega);refine ⟨l ++ [x],by simp [h1],fun i y hy=>?_⟩;rcases Nat.lt_trichotomy i n with hi | hi | hi
  · exact h2 i y (by rwa [List.getElem?_append_left (by omega)] at hy)
  · subst hi
    rw [List.getElem?_append_right (by omega),h1,Nat.sub_self] at hy;cases hy;exact hx
  · rw [List.getElem?_append_right (by omega),h1] at hy
    have : i - n ≠ 0:=by omega
    cases hd : i - n with
    | zero=>omega
    | succ j=>rw [hd] at hy;simp at hy
structure nJ (w : World) (A : Option Addr) (n : Nat) (zs : List Int) : Prop where
 len : zs.length = n
 it : ∀ z ∈ zs,nO z
 row : ∀ i z,zs[i]? = some z → ∃ a,A = some a ∧ w.cell? (a.add i) = some (.int .i64 z)
theorem nJ.ext {w' : World} {A : Option Addr} {n : Nat} {zs : List Int} (h : nJ w A n zs) (hE : cZ w w') : nJ w' A n zs :=
 ⟨h.len,h.it,fun i z hi=>let ⟨a,e,hr⟩:=h.row i z hi;⟨a,e,hE.cell hr⟩⟩
theorem nJ.get {A : Option Addr} {n : Nat} {zs : List Int} (h : nJ w A n zs) {i : Nat} (hi : i < n) : ∃ z,zs[i]? = some z ∧ Iw z ∧ ∃ a,A = some a ∧ w.cell? (a.add i) = some (.int .i64 z):=by
 have hl : i < zs.length:=by rw [h.len];exact hi
 exact ⟨zs[i],List.getElem?_eq_getElem hl,⟨h.it _ (List.getElem_mem hl)⟩,h.row i _ (List.getElem?_eq_getElem hl)⟩
theorem Mk {n : Nat} {t e : TypeId} {fuel : Nat} {cs : List Value} {x : DataW H × List MemPlace} (hu : P.underlying t = some (.slice e)) (hi : jI P n e = true) (hc : P.cellsOf e = 1) (h : DataW.trod enc P w base spare held fuel t cs = some x) :
 ∃ (A : Option Addr) (len cap : Nat) (zs : List Int),cs = [.slice A len cap] ∧ len ≤ cap ∧ cap ≤ maxLen ∧ (A = none → len = 0) ∧ nJ w A len zs:=by
 obtain ⟨A,len,cap,rfl,h1,h2,h3,h4⟩:=Ff hu hi hc h;obtain ⟨zs,h5,h6⟩:=sR (p:=fun i (z : Int)=>nO z ∧ ∃ a,A = some a ∧ w.cell? (a.add i) = some (.int .i64 z)) len (fun i hi=>by
  obtain ⟨a,zs,rfl,_,hr,hl,hz⟩:=h4 i hi
  match zs,hl with
  | [z],_=>exact ⟨z,hz _ (by simp),a,rfl,by have:=hr 0 _ rfl;rwa [Nat.mul_one,gL,Nat.add_zero] at this⟩)
 refine ⟨A,len,cap,zs,rfl,h1,h2,h3,h5,fun z hz=>?_,fun i z hz=>(h6 i z hz).2⟩;obtain ⟨i,hi,rfl⟩:=List.getElem_of_mem hz;exact (h6 i _ (List.getElem?_eq_getElem hi)).1
end Go.Lith
namespace Go.Lith
open Go.RowKit
theorem Ux {n m : Int} (hm : 0 < m) : -m < n.tmod m ∧ n.tmod m < m:=by
 have h1:=Int.tmod_lt_of_pos n hm;have h2:=Int.tmod_lt_of_pos (-n) hm;rw [Int.neg_tmod] at h2;omega
theorem Om {n m : Int} (hm : 0 < m) : (n.tmod m + m).tmod m = n % m:=by
 have hb:=Ux (n:=n) hm;rw [Int.tmod_eq_emod_of_nonneg (by omega)];rcases Int.le_total 0 n with h | h
 · rw [Int.tmod_eq_emod_of_nonneg h]
   simp
 · have e : n.tmod m = -((-n) % m):=by
    rw [← Int.tmod_eq_emod_of_nonneg (show 0 ≤ -n by omega),Int.neg_tmod,Int.neg_neg]
   rw [e,Int.add_emod_right];have h2:=Int.emod_add_mul_ediv (-n) m;have h3 : -((-n) % m) = n + m * (-n / m):=by omega
   rw [h3,Int.add_mul_emod_self_left]
theorem mU {n m : Int} (hm : 0 < m) : 0 ≤ n % m ∧ n % m < m:=⟨Int.emod_nonneg _ (by omega),Int.emod_lt_of_pos _ hm⟩
/-! ### Hills -/
def Yg (zs : List Int) (x y : Nat) : Int:=(zs[(y * 7 + x) % zs.length]?.getD 0) % 64
theorem abb (zs : List Int) (x y : Nat) : 0 ≤ Yg zs x y ∧ Yg zs x y < 64:=mU (by decide)
def mZ (s : Int) (zs : List Int) (x y : Nat) : P3:=⟨(x : Int) * s,(y : Int) * s,100 + Yg zs x y⟩
def rZ (a b c d : P3) : List T3:=[⟨a,b,c⟩,⟨a,c,d⟩]
def Jh (s : Int) (zs : List Int) (y x : Nat) : List T3:=rZ (mZ s zs x y) (mZ s zs (x + 1) y) (mZ s zs (x + 1) (y + 1)) (mZ s zs x (y + 1))
def eK (s : Int) (zs : List Int) (n y x : Nat) : List T3:=((List.range y).flatMap fun y=>(List.range n).flatMap (Jh s zs y)) ++ (List.range x).flatMap (Jh s zs y)
def xQ (s : Int) (zs : List Int) (n : Nat) : List T3:=(List.range n).flatMap fun y=>(List.range n).flatMap (Jh s zs y)
theorem rH {s : Int} {zs : List Int} {n : Nat} : eK s zs n n 0 = xQ s zs n:=by simp [eK,xQ]
theorem Hf {s : Int} {zs : List Int} {n y : Nat} : eK s zs n y n = eK s zs n (y + 1) 0:=by
 simp [eK,List.range_succ,List.flatMap_append]
theorem Ef {s : Int} {zs : List Int} {n y x : Nat} : eK s zs n y (x + 1) = eK s zs n y x ++ Jh s zs y x:=by
 simp [eK,List.range_succ,List.flatMap_append]
theorem nA {α β : Type} {f : α → List β} {k : Nat} : ∀ (l : List α),(∀ x ∈ l,(f x).length = k) → (l.flatMap f).length = l.length * k
 | [],_=>by simp
 | x :: l,h=>by
  rw [List.flatMap_cons,List.length_append,h x (by simp),nA l (fun y hy=>h y (by simp [hy])),List.length_cons,Nat.add_mul,Nat.one_mul,Nat.add_comm]
theorem nK {s : Int} {zs : List Int} {n y x : Nat} : (eK s zs n y x).length = y * (n * 2) + x * 2:=by
 unfold eK;rw [List.length_append,nA (k:=n * 2) _ (fun y _=>by rw [nA (k:=2) _ (fun _ _=>rfl),List.length_range]),nA (k:=2) _ (fun _ _=>rfl),List.length_range,List.length_range]
def Sm (k : Int) (p : P3) : Prop:=(0 ≤ p.x ∧ p.x ≤ k) ∧ (0 ≤ p.y ∧ p.y ≤ k) ∧ (0 ≤ p.z ∧ p.z ≤ k)
def Yh (k : Int) (t : T3) : Prop:=Sm k t.a ∧ Sm k t.b ∧ Sm k t.c
theorem On {k : Int} {a b c d : P3} (ha : Sm k a) (hb : Sm k b) (hc : Sm k c) (hd : Sm k d) : ∀ t ∈ rZ a b c d,Yh k t:=fun t ht=>by
 simp only[rZ,List.mem_cons,List.not_mem_nil,or_false] at ht;rcases ht with rfl | rfl
 · exact ⟨ha,hb,hc⟩
 · exact ⟨ha,hc,hd⟩
theorem wG {zs : List Int} {x y : Nat} (hx : x ≤ 6) (hy : y ≤ 6) : Sm 200 (mZ 10 zs x y):=by
 have:=abb zs x y;simp only[Sm,mZ];omega
theorem Ji {zs : List Int} {x y : Nat} (hx : x < 6) (hy : y < 6) : ∀ t ∈ Jh 10 zs y x,Yh 200 t :=
 On (wG (by omega) (by omega)) (wG (by omega) (by omega)) (wG (by omega) (by omega)) (wG (by omega) (by omega))
theorem Jj {zs : List Int} {n x y : Nat} (hn : n ≤ 6) (hx : x ≤ 6) (hy : y ≤ 6) (hxy : x = 0 ∨ y < 6) : ∀ t ∈ eK 10 zs n y x,Yh 200 t:=fun t ht=>by
 rcases List.mem_append.1 ht with h | h
 · obtain ⟨v,hv,h⟩:=List.mem_flatMap.1 h
   obtain ⟨u,hu,h⟩:=List.mem_flatMap.1 h;exact Ji (by have:=List.mem_range.1 hu;omega) (by have:=List.mem_range.1 hv;omega) t h
 · obtain ⟨u,hu,h⟩:=List.mem_flatMap.1 h
   have:=List.mem_range.1 hu;exact Ji (by omega) (by omega) t h
/-! ### Cubes -/
def cU (p : P3) (s : Int) (n : Nat) : P3:=⟨p.x + ((n % 2 : Nat) : Int) * s,p.y + ((n / 2 % 2 : Nat) : Int) * s,p.z + ((n / 4 : Nat) : Int) * s⟩
def sS (p : P3) (s : Int) : List T3:=rZ (cU p s 0) (cU p s 2) (cU p s 3) (cU p s 1) ++ rZ (cU p s 4) (cU p s 5) (cU p s 7) (cU p s 6) ++ rZ (cU p s 0) (cU p s 1) (cU p s 5) (cU p s 4)
 ++ rZ (cU p s 2) (cU p s 6) (cU p s 7) (cU p s 3) ++ rZ (cU p s 0) (cU p s 4) (cU p s 6) (cU p s 2) ++ rZ (cU p s 1) (cU p s 3) (cU p s 7) (cU p s 5)
theorem nQ (p : P3) (s : Int) : (sS p s).length = 12:=rfl
def vP (n : Nat) : P3:=⟨4 + ((n % 3 : Nat) : Int) * 8,5 + ((n / 3 % 3 : Nat) : Int) * 8,6 + ((n / 9 : Nat) : Int) * 8⟩
def stx (f : Nat) : Int:=if f = 4 then -1 else if f = 5 then 1 else 0
def sty (f : Nat) : Int:=if f = 2 then -1 else if f = 3 then 1 else 0
def stz (f : Nat) : Int:=if f = 0 then -1 else if f = 1 then 1 else 0
def yY (b : Nat) (n : Nat) : Bool:=decide (b / 2 ^ n % 2 = 1)
def wH (b n f : Nat) : Bool :=
 let u:=((n % 3 : Nat) : Int) + stx f
 let v:=((n / 3 % 3 : Nat) : Int) + sty f
 let w:=((n / 9 : Nat) : Int) + stz f
 !(decide (0 ≤ u) && decide (u < 3) && decide (0 ≤ v) && decide (v < 3) && decide (0 ≤ w) && decide (w < 3)) || !yY b ((w * 3 + v) * 3 + u).toNat
def uS (n f : Nat) : List T3:=((sS (vP n) 8).drop (2 * f)).take 2
def nL (b n f : Nat) : List T3:=(List.range f).flatMap fun f=>if wH b n f then uS n f else []
def gA (b n f : Nat) : List T3:=((List.range n).flatMap fun n=>if yY b n then nL b n 6 else []) ++ nL b n f
def Qp (b : Nat) : List T3:=(List.range 27).flatMap fun n=>if yY b n then nL b n 6 else []
theorem Bp {b : Nat} : gA b 27 0 = Qp b:=by simp [gA,Qp,nL]
theorem Ml {b n : Nat} (h : yY b n = true) : gA b n 6 = gA b (n + 1) 0:=by
 simp [gA,List.range_succ (n:=n),List.flatMap_append,h,nL]
theorem Qq {b n : Nat} (h : yY b n = false) : gA b n 0 = gA b (n + 1) 0:=by
 simp [gA,List.range_succ (n:=n),List.flatMap_append,h,nL]
theorem Fg {b n f : Nat} (h : wH b n f = true) : gA b n (f + 1) = gA b n f ++ uS n f:=by
 simp [gA,nL,List.range_succ (n:=f),List.flatMap_append,h]
theorem Mm {b n f : Nat} (h : wH b n f = false) : gA b n (f + 1) = gA b n f:=by
 simp [gA,nL,List.range_succ (n:=f),List.flatMap_append,h]
/-! ### What the walks ask for -/
theorem Jk {k c : Nat} : (k : Int).tmod (c : Int) = ((k % c : Nat) : Int):=rfl
theorem acH {b : Nat} {n : Int} (h0 : 0 ≤ n) (h : n ≤ 63) : (b : Int).fdiv (2 ^ (min n.toNat IntKind.i64.bits)) = ((b / 2 ^ n.toNat : Nat) : Int):=by
 have e : min n.toNat IntKind.i64.bits = n.toNat:=Nat.min_eq_left (by show n.toNat ≤ 64;omega);rw [e,Int.fdiv_eq_ediv_of_nonneg _ (by exact Int.le_of_lt (Int.pow_pos (by decide)))];simp
theorem acI {x : Nat} (h : x < 9223372036854775808) : IntKind.i64.wrap ((BitVec.ofInt IntKind.i64.bits (x : Int) &&& BitVec.ofInt IntKind.i64.bits 1).toNat : Int) = ((x % 2 : Nat) : Int):=by
 have e : (BitVec.ofInt IntKind.i64.bits (x : Int) &&& BitVec.ofInt IntKind.i64.bits 1).toNat = x % 2:=by
  show (BitVec.ofInt 64 (x : Int) &&& BitVec.ofInt 64 1).toNat = x % 2
  rw [BitVec.toNat_and,BitVec.toNat_ofInt,BitVec.toNat_ofInt];have h1 : ((x : Int) % ((2 ^ 64 : Nat) : Int)).toNat = x:=by
   have : ((2 ^ 64 : Nat) : Int) = 18446744073709551616:=rfl;rw [this];omega
  have h2 : ((1 : Int) % ((2 ^ 64 : Nat) : Int)).toNat = 1:=rfl;rw [h1,h2,Nat.and_one_is_mod]
 rw [e];exact aM (by omega) (by omega)
theorem Uy {b n : Nat} (h : b < 134217728) : b / 2 ^ n < 9223372036854775808:=Nat.lt_of_le_of_lt (Nat.div_le_self _ _) (by omega)
theorem Uz {zs : List Int} {x y N : Nat} {z : Int} (hl : zs.length = N) (hz : zs[(y * 7 + x) % N]? = some z) : Yg zs x y = z % 64:=by
 unfold Yg;rw [hl,hz];rfl
theorem Zg {zs : List Int} {x y N : Nat} (hl : zs.length = N) (h : ¬ (0 : Int) < (N : Int)) : Yg zs x y = 0:=by
 have : zs = []:=List.eq_nil_of_length_eq_zero (by omega);subst this;rfl
theorem Va {s : Int} {zs : List Int} {n y x : Nat} : (eK s zs n y x).flatMap aX ++ (rZ (mZ s zs x y) (mZ s zs (x + 1) y) (mZ s zs (x + 1) (y + 1)) (mZ s zs x (y + 1))).flatMap aX = (eK s zs n y (x + 1)).flatMap aX:=by
 rw [Ef,List.flatMap_append];rfl
theorem Vb {s : Int} {zs : List Int} {n y x : Nat} {a b c d : P3} : (eK s zs n y x).length + (rZ a b c d).length = (eK s zs n y (x + 1)).length:=by
 rw [nK,nK];show _ + 2 = _
 omega
theorem sT {s : Int} {zs : List Int} {n y x : Nat} (hn : n ≤ 6) (hy : y ≤ 6) (hx : x ≤ 6) : (eK s zs n y x).length ≤ 84:=by
 rw [nK];have : y * (n * 2) ≤ 6 * (6 * 2):=Nat.mul_le_mul hy (by omega);omega
theorem Qr {zs : List Int} {n : Nat} (hn : n ≤ 6) : ∀ t ∈ xQ 10 zs n,Yh 200 t:=by
 rw [← rH];exact Jj hn (by omega) hn (.inl rfl)
theorem Qs {s : Int} {zs : List Int} {n : Nat} (hn : n ≤ 6) : (xQ s zs n).length ≤ 84:=by
 rw [← rH];exact sT hn hn (by omega)
def TS (E : TypeId) (ts : List T3) (w : World) (v : Value) (w' : World) : Prop:=∃ A cap n,n = ts.length ∧ v = .slice A n cap ∧ Ow w w' [] E 9 A n cap (ts.flatMap aX)
theorem Ow.tri {w0 w : World} {S : List (Option Nat)} {E : TypeId} {n cap g i : Nat} {ts : List T3} {t : T3} (h : Ow w0 w S E 9 (Option.some ⟨g,0,none⟩) n cap (ts.flatMap aX)) (ht : ts[i]? = Option.some t) : mC w ((⟨g,0,none⟩ : Addr).add (i * 9)) [.int .i64 t.a.x,.int .i64 t.a.y,.int .i64 t.a.z,.int .i64 t.b.x,.int .i64 t.b.y,.int .i64 t.b.z,.int .i64 t.c.x,.int .i64 t.c.y,.int .i64 t.c.z]:=by
 show mC w _ (aX t)
 intro j u hj;have hj' : j < (aX t).length:=(List.getElem?_eq_some_iff.1 hj).1;rw [gL];refine h.rows _ _ ?_;rw [← List.getElem?_drop,pZ ts i t ht,List.getElem?_append_left hj'];exact hj
theorem aaM {n : Nat} (h : n < 27) : Sm 100 (vP n):=by
 simp only[Sm,vP];omega
theorem Vc {p : P3} {n : Nat} (h : Sm 100 p) (hn : n < 8) : Sm 200 (cU p 8 n):=by
 simp only[Sm,cU] at h ⊢;omega
theorem Vd {p : P3} (h : Sm 100 p) : ∀ t ∈ sS p 8,Yh 200 t:=fun t ht=>by
 have c : ∀ n,n < 8 → Sm 200 (cU p 8 n):=fun n hn=>Vc h hn;simp only[sS,List.mem_append] at ht;rcases ht with ((((ht | ht) | ht) | ht) | ht) | ht <;> exact On (c _ (by decide)) (c _ (by decide)) (c _ (by decide)) (c _ (by decide)) t ht
theorem Ve {n f : Nat} (h : n < 27) : ∀ t ∈ uS n f,Yh 200 t:=fun t ht=>Vd (aaM h) t (List.mem_of_mem_drop (List.mem_of_mem_take ht))
theorem Qt {b n f : Nat} (h : n < 27) : ∀ t ∈ nL b n f,Yh 200 t:=fun t ht=>by
 obtain ⟨k,_,h2⟩:=List.mem_flatMap.1 ht;split at h2
 · exact Ve h t h2
 · cases h2
theorem Zh {b : Nat} : ∀ t ∈ Qp b,Yh 200 t:=fun t ht=>by
 obtain ⟨k,hk,h2⟩:=List.mem_flatMap.1 ht;split at h2
 · exact Qt (List.mem_range.1 hk) t h2
 · cases h2
theorem vH {α β : Type} {f : α → List β} {k : Nat} : ∀ (l : List α),(∀ x ∈ l,(f x).length ≤ k) → (l.flatMap f).length ≤ l.length * k
 | [],_=>by simp
 | x :: l,h=>by
  have h1:=h x (by simp);have h2:=vH l (fun y hy=>h y (by simp [hy]));rw [List.flatMap_cons,List.length_append,List.length_cons,Nat.add_mul,Nat.one_mul];omega
theorem Vf {n f : Nat} : (uS n f).length ≤ 2:=by unfold uS;rw [List.length_take];omega
theorem Fh {b n f : Nat} : (nL b n f).length ≤ f * 2:=by
 have:=vH (f:=fun f=>if wH b n f then uS n f else []) (k:=2) (List.range f) (fun x _=>by
  show (if wH b n x = true then uS n x else []).length ≤ 2
  split
  · exact Vf
  · exact Nat.zero_le _)
 rwa [List.length_range] at this
theorem xR {b n f : Nat} (hn : n ≤ 27) (hf : f ≤ 6) : (gA b n f).length ≤ 400:=by
 have h1:=vH (f:=fun n=>if yY b n then nL b n 6 else []) (k:=12) (List.range n) (fun x _=>by
  show (if yY b x = true then nL b x 6 else []).length ≤ 12
  split
  · exact Fh
  · exact Nat.zero_le _)
 have h2:=Fh (b:=b) (n:=n) (f:=f);rw [List.length_range] at h1;unfold gA;rw [List.length_append];omega
theorem Zi {b : Nat} : (Qp b).length ≤ 400:=by
 rw [← Bp];exact xR (by omega) (by omega)
def tX : List Value:=[.int .i64 0,.int .i64 0,.int .i64 (-1),.int .i64 0,.int .i64 0,.int .i64 1,.int .i64 0,.int .i64 (-1),.int .i64 0,.int .i64 0,.int .i64 1,.int .i64 0,.int .i64 (-1),.int .i64 0,.int .i64 0,.int .i64 1,.int .i64 0,.int .i64 0]
theorem Bq {f : Nat} (h : f < 6) : f = 0 ∨ f = 1 ∨ f = 2 ∨ f = 3 ∨ f = 4 ∨ f = 5:=by omega
theorem acJ {f : Nat} (h : f < 6) : tX[f * 3]? = some (.int .i64 (stx f)):=by rcases Bq h with rfl | rfl | rfl | rfl | rfl | rfl <;> rfl
theorem acK {f : Nat} (h : f < 6) : tX[f * 3 + 1]? = some (.int .i64 (sty f)):=by rcases Bq h with rfl | rfl | rfl | rfl | rfl | rfl <;> rfl
theorem acL {f : Nat} (h : f < 6) : tX[f * 3 + 2]? = some (.int .i64 (stz f)):=by rcases Bq h with rfl | rfl | rfl | rfl | rfl | rfl <;> rfl
theorem acM (f : Nat) : (-1 ≤ stx f ∧ stx f ≤ 1) ∧ (-1 ≤ sty f ∧ sty f ≤ 1) ∧ (-1 ≤ stz f ∧ stz f ≤ 1):=by
 unfold stx sty stz
 repeat' split
 all_goals omega
theorem vin {u v w : Int} (hb : (!(!(decide (0 ≤ u) && decide (u < 3) && decide (0 ≤ v) && decide (v < 3) && decide (0 ≤ w) && decide (w < 3)))) = true) : (0 ≤ u ∧ u < 3) ∧ (0 ≤ v ∧ v < 3) ∧ 0 ≤ w ∧ w < 3:=by
 simp only[Bool.not_not,Bool.and_eq_true,decide_eq_true_eq] at hb;omega
theorem Jl {b n f : Nat} : (!(decide ((0 : Int) ≤ ((n % 3 : Nat) : Int) + stx f) && decide (((n % 3 : Nat) : Int) + stx f < 3) && decide ((0 : Int) ≤ ((n / 3 % 3 : Nat) : Int) + sty f) && decide (((n / 3 % 3 : Nat) : Int) + sty f < 3) && decide ((0 : Int) ≤ ((n / 9 : Nat) : Int) + stz f) && decide (((n / 9 : Nat) : Int) + stz f < 3)) ||
 decide (((b / 2 ^ (((((n / 9 : Nat) : Int) + stz f) * 3 + (((n / 3 % 3 : Nat) : Int) + sty f)) * 3 + (((n % 3 : Nat) : Int) + stx f)).toNat % 2 : Nat) : Int) = 0)) = wH b n f:=by
 unfold wH yY;simp only
 congr 1
 rw [← decide_not]
 congr 1
 apply propext;constructor <;> intro h <;> omega
theorem Vg {n f : Nat} (h : f < 6) : ∃ t u,(sS (vP n) 8)[2 * f]? = some t ∧ (sS (vP n) 8)[2 * f + 1]? = some u ∧ uS n f = [t,u]:=by
 have h1 : 2 * f < (sS (vP n) 8).length:=by rw [nQ];omega
 have h2 : 2 * f + 1 < (sS (vP n) 8).length:=by rw [nQ];omega
 refine ⟨_,_,List.getElem?_eq_getElem h1,List.getElem?_eq_getElem h2,?_⟩;unfold uS;rw [List.drop_eq_getElem_cons h1,List.drop_eq_getElem_cons h2];rfl
theorem Qu {b n f : Nat} {t u : T3} (hp : uS n f = [t,u]) (h : wH b n f = true) : (gA b n f).flatMap aX ++ [.int .i64 t.a.x,.int .i64 t.a.y,.int .i64 t.a.z,.int .i64 t.b.x,.int .i64 t.b.y,.int .i64 t.b.z,.int .i64 t.c.x,.int .i64 t.c.y,.int .i64 t.c.z,.int .i64 u.a.x,.int .i64 u.a.y,.int .i64 u.a.z,.int .i64 u.b.x,.int .i64 u.b.y,.int .i64 u.b.z,.int .i64 u.c.x,.int .i64 u.c.y,.int .i64 u.c.z] = (gA b n (f + 1)).flatMap aX:=by
 rw [Fg h,List.flatMap_append,hp];rfl
theorem Oo {b n f : Nat} (hf : f < 6) (h : wH b n f = true) : (gA b n f).length + 2 = (gA b n (f + 1)).length:=by
 obtain ⟨t,u,_,_,hp⟩:=Vg (n:=n) hf;rw [Fg h,List.length_append,hp];rfl
def lY (kind bits : Int) (zs : List Int) : List T3:=if kind % 3 = 0 then Qp (bits % 134217728).toNat else xQ 10 zs (1 + kind.tdiv 3 % 6).toNat
theorem Jm {z : Int} (h : nO z) : IntKind.i64.wrap (z.tdiv 3) = z.tdiv 3 ∧ nO (z.tdiv 3):=by
 obtain ⟨h1,h2⟩:=h;have hb : -9223372036854775808 ≤ z.tdiv 3 ∧ z.tdiv 3 < 9223372036854775808:=by
  rcases Int.le_total 0 z with hz | hz
  · rw [Int.tdiv_eq_ediv_of_nonneg hz];omega
  · have e : z.tdiv 3 = -((-z) / 3):=by
     rw [← Int.tdiv_eq_ediv_of_nonneg (show 0 ≤ -z by omega),Int.neg_tdiv,Int.neg_neg]
    rw [e];omega
 exact ⟨aM hb.1 hb.2,hb⟩
theorem Jn {kind bits : Int} {zs : List Int} : ∀ t ∈ lY kind bits zs,Yh 200 t:=by
 unfold lY;split
 · exact Zh
 · exact Qr (by omega)
theorem Jo {kind bits : Int} {zs : List Int} : (lY kind bits zs).length ≤ 400:=by
 unfold lY;split
 · exact Zi
 · exact Nat.le_trans (Qs (by omega)) (by decide)
end Go.Lith
namespace Go.Lith
open Go.RowKit
def Tc (ts : List T3) (p : P3) : Prop:=∃ u ∈ ts,p = u.a ∨ p = u.b ∨ p = u.c
def kQ (us ts : List T3) : Prop:=∀ p,Tc us p → Tc ts p
theorem kQ.refl (ts : List T3) : kQ ts ts:=fun _ h=>h
theorem kQ.of_sub {us ts : List T3} (h : ∀ u ∈ us,u ∈ ts) : kQ us ts:=fun p ⟨u,hu,hp⟩=>⟨u,h u hu,hp⟩
theorem kQ.app {us vs ts : List T3} (h : kQ us ts) (k : kQ vs ts) : kQ (us ++ vs) ts:=fun p ⟨u,hu,hp⟩=>by
 rcases List.mem_append.1 hu with hu | hu
 · exact h p ⟨u,hu,hp⟩
 · exact k p ⟨u,hu,hp⟩
theorem kQ.one {ts : List T3} {a b c : P3} (ha : Tc ts a) (hb : Tc ts b) (hc : Tc ts c) : kQ [⟨a,b,c⟩] ts:=fun p ⟨u,hu,hp⟩=>by
 obtain rfl:=List.mem_singleton.1 hu;rcases hp with rfl | rfl | rfl
 · exact ha
 · exact hb
 · exact hc
theorem kQ.set {us ts : List T3} {k : Nat} {a b c : P3} (h : kQ us ts) (ha : Tc ts a) (hb : Tc ts b) (hc : Tc ts c) : kQ (us.set k ⟨a,b,c⟩) ts:=fun p ⟨u,hu,hp⟩=>by
 rcases List.mem_or_eq_of_mem_set hu with hu | rfl
 · exact h p ⟨u,hu,hp⟩
 · rcases hp with rfl | rfl | rfl
   · exact ha
   · exact hb
   · exact hc
theorem Fi {ts : List T3} {k : Nat} {t : T3} (h : ts[k]? = some t) : Tc ts t.a:=⟨t,List.mem_of_getElem? h,.inl rfl⟩
theorem Jp {ts : List T3} {k : Nat} {t : T3} (h : ts[k]? = some t) : Tc ts t.b:=⟨t,List.mem_of_getElem? h,.inr (.inl rfl)⟩
theorem Oq {ts : List T3} {k : Nat} {t : T3} (h : ts[k]? = some t) : Tc ts t.c:=⟨t,List.mem_of_getElem? h,.inr (.inr rfl)⟩
theorem Qv (ts : List T3) (k : Nat) : (ts.take k).flatMap aX = (ts.flatMap aX).take (k * 9):=by
 induction ts generalizing k with
 | nil=>simp
 | cons t ts ih =>
  cases k with
  | zero=>simp
  | succ k =>
   rw [List.take_succ_cons,List.flatMap_cons,List.flatMap_cons,ih,List.take_append,cQ,List.take_of_length_le (l:=aX t) (by rw [cQ];omega),show (k + 1) * 9 - 9 = k * 9 by omega]
theorem Qw (ts : List T3) (k : Nat) : (ts.drop k).flatMap aX = (ts.flatMap aX).drop (k * 9):=by
 induction ts generalizing k with
 | nil=>simp
 | cons t ts ih =>
  cases k with
  | zero=>simp
  | succ k =>
   rw [List.drop_succ_cons,List.flatMap_cons,ih,List.drop_append,cQ,List.drop_of_length_le (l:=aX t) (by rw [cQ];omega),show (k + 1) * 9 - 9 = k * 9 by omega,List.nil_append]
theorem qA {ts : List T3} {k : Nat} {t u : T3} (h : ts[k]? = some t) : bB (ts.flatMap aX) (k * 9) (aX u) = (ts.set k u).flatMap aX:=by
 induction ts generalizing k with
 | nil=>cases h
 | cons v ts ih =>
  cases k with
  | zero =>
   unfold bB;rw [Nat.zero_mul,List.take_zero,List.nil_append,List.set_cons_zero,List.flatMap_cons,List.flatMap_cons,cQ,Nat.zero_add,List.drop_append,cQ,List.drop_of_length_le (l:=aX v) (by rw [cQ];omega)];rfl
  | succ k =>
   have:=ih (k:=k) h;unfold bB at this ⊢;rw [List.set_cons_succ,List.flatMap_cons,List.flatMap_cons,← this,cQ];rw [List.take_append,cQ,List.take_of_length_le (l:=aX v) (by rw [cQ];omega),show (k + 1) * 9 - 9 = k * 9 by omega,List.drop_append,cQ,List.drop_of_length_le (l:=aX v) (by rw [cQ];omega),show (k + 1) * 9 + 9 - 9 = k * 9 + 9 by omega];simp only[List.append_assoc,List.nil_append]
def T3.cor (t : T3) (c : Nat) : P3:=if c = 0 then t.a else if c = 1 then t.b else t.c
def T3.setC (t : T3) (c : Nat) (p : P3) : T3:=if c = 0 then ⟨p,t.b,t.c⟩ else if c = 1 then ⟨t.a,p,t.c⟩ else ⟨t.a,t.b,p⟩
theorem Zj {t : T3} {c : Nat} {p : P3} (hc : c < 3) : bB (aX t) (c * 3) [.int .i64 p.x,.int .i64 p.y,.int .i64 p.z] = aX (t.setC c p):=by
 have : c = 0 ∨ c = 1 ∨ c = 2:=by omega
 rcases this with rfl | rfl | rfl <;> rfl
theorem Qx {cs us : List Value} {off k d : Nat} (h : off + k ≤ cs.length) (hu : us.length + d ≤ k) : bB cs (off + d) us = bB cs off (bB ((cs.drop off).take k) d us):=by
 have e0 : ((cs.drop off).take k).length = k:=by rw [List.length_take,List.length_drop];omega
 have e1 : (bB ((cs.drop off).take k) d us).length = k:=by rw [oT (by omega)];exact e0
 unfold bB at e1 ⊢;rw [e1];apply List.ext_getElem?;intro j;simp only[List.append_assoc];rcases Nat.lt_or_ge j off with h1 | h1
 · rw [List.getElem?_append_left (by rw [List.length_take];omega),List.getElem?_append_left (by rw [List.length_take];omega),List.getElem?_take,List.getElem?_take,if_pos (by omega),if_pos h1]
 · rw [List.getElem?_append_right (l₁:=cs.take off) (by rw [List.length_take];omega)]
   have e2 : (cs.take off).length = off:=by rw [List.length_take];omega
   have e3 : (cs.take (off + d)).length = off + d:=by rw [List.length_take];omega
   rw [e2];rcases Nat.lt_or_ge j (off + d) with h2 | h2
   · rw [List.getElem?_append_left (by rw [e3];exact h2),List.getElem?_append_left (by rw [List.length_take,e0];omega),List.getElem?_take,List.getElem?_take,List.getElem?_take,List.getElem?_drop,if_pos h2,if_pos (by omega),if_pos (by omega),show off + (j - off) = j by omega]
   · rw [List.getElem?_append_right (by rw [e3];exact h2),e3,List.getElem?_append_right (l₁:=((cs.drop off).take k).take d) (by rw [List.length_take,e0];omega),List.length_take (l:=(cs.drop off).take k),e0,Nat.min_eq_left (by omega),show j - off - d = j - (off + d) by omega]
     rcases Nat.lt_or_ge (j - (off + d)) us.length with h3 | h3
     · rw [List.getElem?_append_left h3,List.getElem?_append_left h3]
     · rw [List.getElem?_append_right h3,List.getElem?_append_right h3]
       rcases Nat.lt_or_ge j (off + k) with h4 | h4
       · rw [List.getElem?_append_left (by rw [List.length_drop,e0];omega),List.getElem?_drop,List.getElem?_drop,List.getElem?_take,List.getElem?_drop,if_pos (by omega)]
         congr 1
         omega
       · rw [List.getElem?_append_right (by rw [List.length_drop,e0];omega),List.getElem?_drop,List.getElem?_drop,List.length_drop,e0]
         congr 1
         omega
theorem Br {ts : List T3} {k c : Nat} {t : T3} {p : P3} (h : ts[k]? = some t) (hc : c < 3) : bB (ts.flatMap aX) (k * 9 + c * 3) [.int .i64 p.x,.int .i64 p.y,.int .i64 p.z] = (ts.set k (t.setC c p)).flatMap aX:=by
 have hk : k < ts.length:=(List.getElem?_eq_some_iff.1 h).1;have hd:=pZ ts k t h;rw [Qx (k:=9) (by rw [tW];omega) (by show 3 + _ ≤ 9;omega),hd,List.take_append,cQ,List.take_of_length_le (l:=aX t) (by rw [cQ];omega),show 9 - 9 = 0 from rfl,List.take_zero,List.append_nil,Zj hc,qA h]
theorem Qy {ts : List T3} {k : Nat} {t : T3} {p : P3} (h : ts[k]? = some t) : bB (ts.flatMap aX) (k * 9) [.int .i64 p.x,.int .i64 p.y,.int .i64 p.z] = (ts.set k (t.setC 0 p)).flatMap aX:=Br (c:=0) h (by decide)
theorem Qz {ts : List T3} {k : Nat} {t : T3} {p : P3} (h : ts[k]? = some t) : bB (ts.flatMap aX) (k * 9 + 3) [.int .i64 p.x,.int .i64 p.y,.int .i64 p.z] = (ts.set k (t.setC 1 p)).flatMap aX:=Br (c:=1) h (by decide)
theorem sU {us ts : List T3} {k c : Nat} {t : T3} {p : P3} (hs : kQ us ts) (h : us[k]? = some t) (hp : Tc ts p) : kQ (us.set k (t.setC c p)) ts:=by
 have a:=hs _ (Fi h);have b:=hs _ (Jp h);have d:=hs _ (Oq h);unfold T3.setC;split
 · exact hs.set hp b d
 · split
   · exact hs.set a hp d
   · exact hs.set a b hp
section
variable {w0 w : World} {S : List (Option Nat)} {E : TypeId} {n cap : Nat} {A : Option Addr} {ts : List T3}
theorem Ow.takeT (h : Ow w0 w S E 9 A n cap (ts.flatMap aX)) {k : Nat} (hk : k ≤ n) : Ow w0 w S E 9 A k cap ((ts.take k).flatMap aX):=(h.take hk).as (Qv ts k).symm
theorem Ow.dropRow {q : Nat} (h : Ow w0 w S E 9 A n cap (ts.flatMap aX)) : ∀ j u,((ts.drop q).flatMap aX)[j]? = Option.some u → ∃ a,(if cap = q then A else A.map (·.add (q * 9))) = Option.some a ∧ w.cell? (a.add j) = Option.some u:=fun j u hj=>by
 rw [Qw,List.getElem?_drop] at hj;have hl : q * 9 + j < (ts.flatMap aX).length:=(List.getElem?_eq_some_iff.1 hj).1;obtain ⟨a,rfl,hc⟩:=h.row _ _ hj;have:=h.own.1;have:=h.le;rw [if_neg (by omega)];exact ⟨_,rfl,by rw [gL];exact hc⟩
theorem mC.cor {a : Addr} {t : T3} {c : Nat} (h : mC w a (aX t)) (hc : c < 3) : mC w (a.add (c * 3)) [.int .i64 (t.cor c).x,.int .i64 (t.cor c).y,.int .i64 (t.cor c).z]:=by
 have:=(h.sub (c * 3)).take 3;have e : c = 0 ∨ c = 1 ∨ c = 2:=by omega
 rcases e with rfl | rfl | rfl <;> exact this
theorem abc {g off c q : Nat} {z : Int} (h : z.toNat = q) : (⟨g,off,none⟩ : Addr).add (z.toNat * c) = ⟨g,off + q * c,none⟩:=by rw [h,fC]
theorem Hg {k : Nat} (h : k < ts.length) : ∃ t,ts[k]? = Option.some t:=⟨_,List.getElem?_eq_getElem h⟩
theorem Ah {q : Int} {N : Nat} (h : 0 < N) : ∃ k : Nat,q % (N : Int) = (k : Int) ∧ k < N:=by
 have:=mU (n:=q) (m:=(N : Int)) (by omega);exact ⟨(q % (N : Int)).toNat,by omega,by omega⟩
end
end Go.Lith
namespace Go.Lith
open Go.RowKit
section
variable {α : Type} {enc : α → List Value} {c : Nat} {w w' : World} {A : Option Addr} {n : Nat} {xs : List α}
structure uN (enc : α → List Value) (c : Nat) (w : World) (A : Option Addr) (n : Nat) (xs : List α) : Prop where
 len : xs.length = n
 row : ∀ i x,xs[i]? = some x → ∃ a,A = some a ∧ mC w (a.add (i * c)) (enc x)
theorem uN.ext (h : uN enc c w A n xs) (hE : cZ w w') : uN enc c w' A n xs:=⟨h.len,fun i x hi=>let ⟨a,e,hr⟩:=h.row i x hi;⟨a,e,hr.ext hE⟩⟩
theorem uN.nil (w : World) (A : Option Addr) : uN enc c w A 0 []:=⟨rfl,fun i x h=>by cases h⟩
theorem uN.get (h : uN enc c w A n xs) {i : Nat} (hi : i < n) : ∃ x,xs[i]? = some x ∧ ∃ a,A = some a ∧ mC w (a.add (i * c)) (enc x):=by
 have hl : i < xs.length:=by rw [h.len];exact hi
 exact ⟨xs[i],List.getElem?_eq_getElem hl,h.row i _ (List.getElem?_eq_getElem hl)⟩
theorem uN.take (h : uN enc c w A n xs) {k : Nat} (hk : k ≤ n) : uN enc c w A k (xs.take k) :=
 ⟨by rw [List.length_take,h.len];omega,fun i x hx=>h.row i x (by rw [List.getElem?_take] at hx;split at hx;exact hx;cases hx)⟩
theorem lE (hc : ∀ x,(enc x).length = c) : ∀ xs : List α,(xs.flatMap enc).length = xs.length * c
 | []=>by simp
 | x :: xs=>by rw [List.flatMap_cons,List.length_append,hc,lE hc xs,List.length_cons,Nat.add_mul,Nat.one_mul,Nat.add_comm]
theorem vI (hc : ∀ x,(enc x).length = c) : ∀ (xs : List α) (k : Nat),(xs.drop k).flatMap enc = (xs.flatMap enc).drop (k * c)
 | xs,0=>by simp
 | [],k + 1=>by simp
 | x :: xs,k + 1=>by
  rw [List.drop_succ_cons,List.flatMap_cons,vI hc xs k,List.drop_append,hc,List.drop_of_length_le (l:=enc x) (by rw [hc,Nat.add_mul];omega),Nat.add_mul,Nat.one_mul,Nat.add_sub_cancel,List.nil_append]
theorem Jq (hc : ∀ x,(enc x).length = c) {xs : List α} {i : Nat} {x : α} (h : xs[i]? = some x) : (xs.flatMap enc).drop (i * c) = enc x ++ (xs.drop (i + 1)).flatMap enc:=by
 rw [← vI hc,List.drop_eq_getElem_cons (List.getElem?_eq_some_iff.1 h).1,List.flatMap_cons,(List.getElem?_eq_some_iff.1 h).2]
theorem Ow.at {w0 : World} {S : List (Option Nat)} {E : TypeId} {cap g i : Nat} {x : α} (hc : ∀ x,(enc x).length = c) (h : Ow w0 w S E c (Option.some ⟨g,0,none⟩) n cap (xs.flatMap enc)) (hx : xs[i]? = Option.some x) : mC w ((⟨g,0,none⟩ : Addr).add (i * c)) (enc x):=by
 intro j u hj;have hj' : j < (enc x).length:=(List.getElem?_eq_some_iff.1 hj).1;rw [gL];refine h.rows _ _ ?_;rw [← List.getElem?_drop,Jq hc hx,List.getElem?_append_left hj'];exact hj
theorem Ow.num {w0 : World} {S : List (Option Nat)} {E : TypeId} {cap : Nat} (hc : ∀ x,(enc x).length = c) (h0 : 0 < c) (h : Ow w0 w S E c A n cap (xs.flatMap enc)) : xs.length = n:=by
 have:=h.own.1;rw [lE hc] at this;exact Nat.eq_of_mul_eq_mul_right h0 this
theorem Ow.lat {w0 : World} {S : List (Option Nat)} {E : TypeId} {cap : Nat} (hc : ∀ x,(enc x).length = c) (h0 : 0 < c) (h : Ow w0 w S E c A n cap (xs.flatMap enc)) : uN enc c w A n xs :=
 ⟨h.num hc h0,fun i x hx=>by
  have hi:=(List.getElem?_eq_some_iff.1 hx).1;have hn:=h.num hc h0;obtain ⟨g,rfl⟩:=h.some (by omega);exact ⟨_,rfl,h.at hc hx⟩⟩
theorem uN.cells (hc : ∀ x,(enc x).length = c) (h0 : 0 < c) (h : uN enc c w A n xs) : ∀ j u,(xs.flatMap enc)[j]? = some u → ∃ a,A = some a ∧ w.cell? (a.add j) = some u:=fun j u hj=>by
 have hj':=(List.getElem?_eq_some_iff.1 hj).1;rw [lE hc] at hj';have hi : j / c < xs.length:=(Nat.div_lt_iff_lt_mul h0).2 hj';obtain ⟨a,rfl,hr⟩:=h.row (j / c) _ (List.getElem?_eq_getElem hi);refine ⟨a,rfl,?_⟩;have hm:=Nat.mod_lt j h0;have e : j = j / c * c + j % c:=by rw [Nat.mul_comm];exact (Nat.div_add_mod j c).symm
 have:=hr (j % c) u (by
  rw [e,← List.getElem?_drop,Jq hc (List.getElem?_eq_getElem hi),List.getElem?_append_left (by rw [hc];exact hm)] at hj;exact hj)
 rw [gL,← e] at this;exact this
theorem uN.cellsD (hc : ∀ x,(enc x).length = c) (h0 : 0 < c) (h : uN enc c w A n xs) {cap q : Nat} (hcap : n ≤ cap) : ∀ j u,((xs.drop q).flatMap enc)[j]? = some u → ∃ a,(if cap = q then A else A.map (·.add (q * c))) = some a ∧ w.cell? (a.add j) = some u:=fun j u hj=>by
 rw [vI hc,List.getElem?_drop] at hj;have hl:=(List.getElem?_eq_some_iff.1 hj).1;rw [lE hc,h.len] at hl;obtain ⟨a,rfl,hcl⟩:=h.cells hc h0 _ _ hj;have : q < n:=by
  refine Nat.lt_of_mul_lt_mul_right (a:=c) ?_;omega
 rw [if_neg (by omega)];exact ⟨_,rfl,by rw [gL];exact hcl⟩
end
theorem eR {α : Type} {ps : List α} {k : Nat} {p : α} (h : ps[k]? = some p) : ps.take (k + 1) = ps.take k ++ [p]:=by
 rw [List.take_add_one,h];rfl
abbrev E3:=P3 × P3
def bV (e : E3) : List Value:=[.int .i64 e.1.x,.int .i64 e.1.y,.int .i64 e.1.z,.int .i64 e.2.x,.int .i64 e.2.y,.int .i64 e.2.z]
def ed (e : E3) : Value:=.agg #[.int .i64 e.1.x,.int .i64 e.1.y,.int .i64 e.1.z,.int .i64 e.2.x,.int .i64 e.2.y,.int .i64 e.2.z]
def Zk (p : P3) : List Value:=[.int .i64 p.x,.int .i64 p.y,.int .i64 p.z]
theorem Hh (es : List E3) : ∀ u ∈ es.flatMap bV,u.oneCell' = true:=fun u hu=>by
 obtain ⟨e,_,h⟩:=List.mem_flatMap.1 hu;simp only[bV,List.mem_cons,List.not_mem_nil,or_false] at h;rcases h with rfl | rfl | rfl | rfl | rfl | rfl <;> rfl
theorem aeu (t : T3) : (aX t).length = 9:=rfl
theorem tY (e : E3) : (bV e).length = 6:=rfl
theorem pc3 (p : P3) : (Zk p).length = 3:=rfl
def bH (ts : List T3) : List E3:=ts.flatMap fun t=>[(t.a,t.b),(t.b,t.c),(t.c,t.a)]
theorem oE {ts : List T3} {k : Nat} {t : T3} (h : ts[k]? = some t) : bH (ts.take (k + 1)) = bH (ts.take k) ++ [(t.a,t.b),(t.b,t.c),(t.c,t.a)]:=by
 unfold bH;rw [eR h,List.flatMap_append];simp
theorem mF (ts : List T3) : (bH ts).length = ts.length * 3:=nA ts fun _ _=>rfl
def jS (es : List E3) (e : E3) : Nat:=(es.filter fun x=>decide (x = e)).length
theorem Jr {es : List E3} {k : Nat} {x e : E3} (h : es[k]? = some x) : jS (es.take (k + 1)) e = jS (es.take k) e + if x = e then 1 else 0:=by
 unfold jS;rw [eR h,List.filter_append,List.length_append];by_cases hx : x = e <;> simp [hx]
theorem abd {es : List E3} {e : E3} : jS es e ≤ es.length:=List.length_filter_le _ _
end Go.Lith
namespace Go.Lith
open Go.RowKit
theorem Fj {α : Type} : ∀ (l : List α) (j : Nat) (x : α),l[j]? = some x → (x :: l.eraseIdx j).Perm l
 | [],j,x,h=>by cases h
 | y :: l,0,x,h=>by cases h;exact .refl _
 | y :: l,j + 1,x,h=>((List.Perm.swap y x _)).trans ((Fj l j x h).cons y)
theorem bS.pull {w0 w : World} {is : List It} (m : bS w0 w is) (j : Nat) {x : It} (hj : is[j]? = some x) : bS w0 w (x :: is.eraseIdx j):=by
 have hp:=Fj is j x hj;exact ⟨m.ext,fun i hi=>m.all i (hp.mem_iff.1 hi),fun i hi=>m.ge i (hp.mem_iff.1 hi),(hp.pairwise_iff (fun {a b} (h : Ap a b)=>h.symm)).2 m.nd⟩
theorem bS.mv {w0 w : World} {is : List It} {y : It} (m : bS w0 w (y :: is)) (k : Nat) {x : It} (hk : is[k]? = some x) : bS w0 w (is.set k y):=by
 obtain ⟨h1,h2⟩:=List.pairwise_cons.1 m.nd;have hm : ∀ i ∈ is.set k y,i ∈ y :: is:=fun i hi=>(List.mem_or_eq_of_mem_set hi).elim (List.mem_cons_of_mem _) (fun e=>e ▸ List.mem_cons_self);exact ⟨m.ext,fun i hi=>m.all i (hm i hi),fun i hi=>m.ge i (hm i hi),Mi is k h2 hk fun x hx _=>h1 x hx⟩
theorem vJ {α : Type} {a : α} {l : List α} : (a :: l).eraseIdx 0 = l:=rfl
theorem vK {α : Type} {a : α} {l : List α} {n : Nat} : (a :: l).eraseIdx (n + 1) = a :: l.eraseIdx n:=rfl
def SL (E : TypeId) (c : Nat) (cs : List Value) (n : Nat) (w : World) (v : Value) (w' : World) : Prop:=∃ A cap n',n' = n ∧ v = .slice A n' cap ∧ Ow w w' [] E c A n' cap cs
/-! ### Points put into a sorted list -/
def Zl (ps : List P3) (p : P3) : Nat:=(ps.takeWhile fun x=>decide (x.Lt p)).length
def yM (ps : List P3) (p : P3) : List P3:=if ps[Zl ps p]? = some p then ps else ps.take (Zl ps p) ++ [p] ++ ps.drop (Zl ps p)
def nB (ts : List T3) : List P3:=ts.foldl (fun ps t=>yM (yM (yM ps t.a) t.b) t.c) []
section
variable {α : Type} {p : α → Bool} {l : List α} {k : Nat}
theorem aaN (h : ∀ j x,j < k → l[j]? = some x → p x = true) (hk : k ≤ l.length) : k ≤ (l.takeWhile p).length:=by
 induction l generalizing k with
 | nil=>simp at hk;omega
 | cons x l ih =>
  cases k with
  | zero=>omega
  | succ k =>
   have hx:=h 0 x (by omega) rfl;rw [List.takeWhile_cons,if_pos hx,List.length_cons];have:=ih (k:=k) (fun j y hj hy=>h (j + 1) y (by omega) (by simpa using hy)) (by simp at hk;omega);omega
theorem acO {x : α} (hx : l[k]? = some x) (h : p x = false) : (l.takeWhile p).length ≤ k:=by
 induction l generalizing k with
 | nil=>cases hx
 | cons y l ih =>
  rw [List.takeWhile_cons];split
  · cases k with
    | zero =>
     rename_i hy;cases hx;rw [h] at hy;cases hy
    | succ k =>
     rw [List.length_cons];have:=ih (k:=k) (by simpa using hx);omega
  · simp
theorem abe : (l.takeWhile p).length ≤ l.length:=(List.takeWhile_sublist p).length_le
theorem acP {x : α} (h : ∀ j x,j < k → l[j]? = some x → p x = true) (hx : l[k]? = some x) (h2 : p x = false) : (l.takeWhile p).length = k:=Nat.le_antisymm (acO hx h2) (aaN h (Nat.le_of_lt (List.getElem?_eq_some_iff.1 hx).1))
theorem abf (h : ∀ j x,j < l.length → l[j]? = some x → p x = true) : (l.takeWhile p).length = l.length:=Nat.le_antisymm abe (aaN h (Nat.le_refl _))
def Pre (p : α → Bool) (l : List α) (k : Nat) : Prop:=∀ j x,j < k → l[j]? = some x → p x = true
theorem Pre.zero : Pre p l 0:=fun j _ hj=>by omega
theorem Pre.step {x : α} (h : Pre p l k) (hx : l[k]? = some x) (hp : p x = true) : Pre p l (k + 1):=fun j y hj hy=>by
 rcases Nat.lt_or_ge j k with h1 | h1
 · exact h j y h1 hy
 · obtain rfl : j = k:=by omega
   rw [hx] at hy;cases hy;exact hp
end
/-! ### The border -/
def Ot (a b : E3) : Bool:=if a.1 ≠ b.1 then decide (a.1.Lt b.1) else decide (a.2.Lt b.2)
def Ra (es : List E3) (e : E3) : Nat:=(es.takeWhile fun x=>Ot x e).length
def Mn (es : List E3) (e : E3) : List E3:=es.take (Ra es e) ++ [e] ++ es.drop (Ra es e)
def lS (all : List E3) (out : List E3) (e : E3) : List E3:=if 0 < jS all (e.2,e.1) ∨ 0 < jS out e then out else Mn out e
def aS (ts : List T3) : List E3:=(bH ts).foldl (lS (bH ts)) []
theorem Rb {all es : List E3} {k : Nat} {e : E3} (h : es[k]? = some e) : (es.take (k + 1)).foldl (lS all) [] = lS all ((es.take k).foldl (lS all) []) e:=by
 rw [eR h,List.foldl_append];rfl
theorem sV {all : List E3} : ∀ (es out : List E3),(es.foldl (lS all) out).length ≤ out.length + es.length
 | [],out=>by simp
 | e :: es,out=>by
  have h1:=sV (all:=all) es (lS all out e);have h2 : (lS all out e).length ≤ out.length + 1:=by
   unfold lS Mn;split
   · omega
   · simp;omega
  rw [List.foldl_cons,List.length_cons];omega
/-! ### Pinched corners -/
def T3.fnd (t : T3) (p q : P3) : Option P3:=if t.a = p ∧ t.b = q then some t.c else if t.b = p ∧ t.c = q then some t.a else if t.c = p ∧ t.a = q then some t.b else none
def bR : List T3 → P3 → P3 → Option P3
 | [],_,_=>none
 | t :: ts,p,q=>match t.fnd p q with
  | some x=>some x
  | none=>bR ts p q
theorem Js {ts : List T3} {k : Nat} {t : T3} {p q : P3} (h : ts[k]? = some t) (h0 : bR (ts.take k) p q = none) : bR (ts.take (k + 1)) p q = t.fnd p q:=by
 rw [eR h];clear h;generalize ts.take k = us at h0 ⊢
 induction us with
 | nil=>simp only[List.nil_append,bR];cases t.fnd p q <;> rfl
 | cons u us ih =>
  rw [List.cons_append];simp only[bR] at h0 ⊢;cases hu : u.fnd p q with
  | some x=>rw [hu] at h0;cases h0
  | none=>rw [hu] at h0;exact ih h0
def Ou (p : P3) (t : T3) (c : Nat) : List T3:=if t.cor c = p then [t] else []
def Bt (p : P3) (t : T3) (c : Nat) : List T3:=(List.range c).flatMap (Ou p t)
def qB (ts : List T3) (p : P3) : List T3:=ts.flatMap fun t=>Bt p t 3
def Vh (p : P3) (t : T3) (c : Nat) : List P3:=if t.cor c = p then [t.cor ((c + 1) % 3)] else []
def Vi (p : P3) (t : T3) (c : Nat) : List P3:=(List.range c).flatMap (Vh p t)
def Mo (ts : List T3) (p : P3) : List P3:=ts.flatMap fun t=>Vi p t 3
theorem jX {x y : P3} : (x.x = y.x ∧ x.y = y.y ∧ x.z = y.z) ↔ x = y:=⟨fun h=>P3.eq h.1 h.2.1 h.2.2,fun h=>by rw [h];exact ⟨rfl,rfl,rfl⟩⟩
theorem Ai {x y u v : P3} : (decide (x.x = y.x ∧ x.y = y.y ∧ x.z = y.z) && decide (u.x = v.x ∧ u.y = v.y ∧ u.z = v.z)) = true ↔ x = y ∧ u = v:=by
 rw [Bool.and_eq_true,decide_eq_true_eq,decide_eq_true_eq,jX,jX]
theorem Mp {x y u v : P3} (h : (decide (x.x = y.x ∧ x.y = y.y ∧ x.z = y.z) && decide (u.x = v.x ∧ u.y = v.y ∧ u.z = v.z)) = false) : ¬ (x = y ∧ u = v):=fun k=>by
 rw [Ai.2 k] at h;cases h
theorem aew {t : T3} {p q : P3} (h : t.cor 0 = p ∧ t.cor 1 = q) : t.fnd p q = some (t.cor 2):=if_pos h
theorem aex {t : T3} {p q : P3} (h0 : ¬ (t.cor 0 = p ∧ t.cor 1 = q)) (h : t.cor 1 = p ∧ t.cor 2 = q) : t.fnd p q = some (t.cor 0):=(if_neg h0).trans (if_pos h)
theorem aey {t : T3} {p q : P3} (h0 : ¬ (t.cor 0 = p ∧ t.cor 1 = q)) (h1 : ¬ (t.cor 1 = p ∧ t.cor 2 = q)) (h : t.cor 2 = p ∧ t.cor 0 = q) : t.fnd p q = some (t.cor 1):=(if_neg h0).trans ((if_neg h1).trans (if_pos h))
theorem aez {t : T3} {p q : P3} (h0 : ¬ (t.cor 0 = p ∧ t.cor 1 = q)) (h1 : ¬ (t.cor 1 = p ∧ t.cor 2 = q)) (h2 : ¬ (t.cor 2 = p ∧ t.cor 0 = q)) : t.fnd p q = none:=(if_neg h0).trans ((if_neg h1).trans (if_neg h2))
def sW (ms : List T3) (p s : P3) : Nat → P3 → Bool
 | 0,_=>false
 | n + 1,at_=>match bR ms p at_ with
  | none=>false
  | some x=>if x = s then true else sW ms p s n x
theorem Rc {ms : List T3} {p s x : P3} {n : Nat} (h : bR ms p x = none) : sW ms p s n x = false:=by
 cases n with
 | zero=>rfl
 | succ n=>simp only[sW,h]
theorem Vj {ms : List T3} {p s x : P3} {n : Nat} (h : bR ms p x = some s) : sW ms p s (n + 1) x = true:=by simp [sW,h]
theorem Re {ms : List T3} {p s x y : P3} {n : Nat} (h : bR ms p x = some y) (hy : ¬ y = s) : sW ms p s (n + 1) x = sW ms p s n y:=by simp [sW,h,hy]
def Rf (ts : List T3) (p : P3) : Bool:=(Mo ts p).any fun s=>sW (qB ts p) p s ((qB ts p).length - 1) s
def wI (t : T3) : Bool:=decide (t.a = t.b) || decide (t.b = t.c) || decide (t.c = t.a)
theorem Vk {t : T3} : (decide (t.a.x = t.b.x ∧ t.a.y = t.b.y ∧ t.a.z = t.b.z) || decide (t.b.x = t.c.x ∧ t.b.y = t.c.y ∧ t.b.z = t.c.z) || decide (t.c.x = t.a.x ∧ t.c.y = t.a.y ∧ t.c.z = t.a.z)) = wI t:=by
 simp only[jX,wI]
def eA (op : Bool) (ts : List T3) : Int :=
 if ts.any wI then 20 else if (bH ts).any (fun e=>decide (1 < jS (bH ts) e)) then 21
 else if !op && decide (0 < (aS ts).length) then 22 else if (nB ts).any (Rf ts) then 23 else 0
theorem Bu {α : Type} {p : α → Bool} {l : List α} {k : Nat} {x : α} (hx : l[k]? = some x) : (l.take (k + 1)).any p = ((l.take k).any p || p x):=by
 rw [eR hx,List.any_append];simp
theorem Hi {α : Type} {p : α → Bool} {l : List α} {k : Nat} {x : α} (hx : l[k]? = some x) (h : p x = true) : l.any p = true:=List.any_eq_true.2 ⟨x,List.mem_of_getElem? hx,h⟩
end Go.Lith
namespace Go.Proofs.YtfohfflkhpfjeaaGreatDoor
open Go.Proofs.Tryz
open Go.RowKit Go.Lith
abbrev pG:=@underlying126
abbrev rI:=@underlying129
abbrev kY:=@underlying131
abbrev iX:=@underlying143
abbrev pH:=@underlying153
abbrev bY:=@underlying22
abbrev wJ:=@underlying23
abbrev Fk:=@underlying25
abbrev yN:=@underlying26
abbrev cC:=@underlying29
abbrev iN:=@underlying3
abbrev oX:=@underlying30
abbrev Mq:=@underlying4
abbrev gB:=@underlying41
abbrev cB:=@underlying48
abbrev lF:=@underlying50
abbrev bO:=@underlying53
abbrev jJ:=@underlying57
abbrev gR:=@underlying65
abbrev iA:=@underlying73
abbrev Bx:=@underlying76
abbrev By:=@underlying77
abbrev oO:=@underlying9
set_option maxRecDepth 100000
theorem aP : prog.follows .mixedOrders = true:=by kernel_rfl
theorem acQ : bD prog 10:=⟨_,func10,by kernel_rfl,by kernel_rfl⟩
theorem acR : bD prog 11:=⟨_,func11,by kernel_rfl,by kernel_rfl⟩
theorem acS : bD prog 12:=⟨_,func12,by kernel_rfl,by kernel_rfl⟩
theorem acT : bD prog 15:=⟨_,func15,by kernel_rfl,by kernel_rfl⟩
theorem acU : bD prog 17:=⟨_,func17,by kernel_rfl,by kernel_rfl⟩
theorem acV : bD prog 18:=⟨_,func18,by kernel_rfl,by kernel_rfl⟩
theorem acW : bD prog 19:=⟨_,func19,by kernel_rfl,by kernel_rfl⟩
theorem acX : bD prog 21:=⟨_,func21,by kernel_rfl,by kernel_rfl⟩
theorem acY : bD prog 22:=⟨_,func22,by kernel_rfl,by kernel_rfl⟩
theorem acZ : bD prog 23:=⟨_,func23,by kernel_rfl,by kernel_rfl⟩
theorem ac0 : bD prog 26:=⟨_,func26,by kernel_rfl,by kernel_rfl⟩
theorem ac1 : bD prog 27:=⟨_,func27,by kernel_rfl,by kernel_rfl⟩
theorem ac2 : bD prog 28:=⟨_,func28,by kernel_rfl,by kernel_rfl⟩
theorem ac3 : bD prog 29:=⟨_,func29,by kernel_rfl,by kernel_rfl⟩
theorem ac4 : bD prog 31:=⟨_,func31,by kernel_rfl,by kernel_rfl⟩
theorem ac5 : bD prog 32:=⟨_,func32,by kernel_rfl,by kernel_rfl⟩
theorem ac6 : bD prog 33:=⟨_,func33,by kernel_rfl,by kernel_rfl⟩
theorem ac7 : bD prog 34:=⟨_,func34,by kernel_rfl,by kernel_rfl⟩
theorem ac8 : bD prog 35:=⟨_,func35,by kernel_rfl,by kernel_rfl⟩
theorem ac9 : bD prog 36:=⟨_,func36,by kernel_rfl,by kernel_rfl⟩
theorem ada : bD prog 37:=⟨_,func37,by kernel_rfl,by kernel_rfl⟩
theorem adb : bD prog 38:=⟨_,func38,by kernel_rfl,by kernel_rfl⟩
theorem adc : bD prog 39:=⟨_,func39,by kernel_rfl,by kernel_rfl⟩
theorem ade : bD prog 40:=⟨_,func40,by kernel_rfl,by kernel_rfl⟩
theorem adf : bD prog 41:=⟨_,func41,by kernel_rfl,by kernel_rfl⟩
theorem adg : bD prog 42:=⟨_,func42,by kernel_rfl,by kernel_rfl⟩
theorem adh : bD prog 43:=⟨_,func43,by kernel_rfl,by kernel_rfl⟩
theorem adi : bD prog 51:=⟨_,func51,by kernel_rfl,by kernel_rfl⟩
theorem adj : bD prog 52:=⟨_,func52,by kernel_rfl,by kernel_rfl⟩
theorem adk : bD prog 54:=⟨_,func54,by kernel_rfl,by kernel_rfl⟩
theorem adl : bD prog 55:=⟨_,func55,by kernel_rfl,by kernel_rfl⟩
theorem adm : bD prog 56:=⟨_,func56,by kernel_rfl,by kernel_rfl⟩
theorem adn : bD prog 57:=⟨_,func57,by kernel_rfl,by kernel_rfl⟩
theorem ado : bD prog 58:=⟨_,func58,by kernel_rfl,by kernel_rfl⟩
theorem adp : bD prog 59:=⟨_,func59,by kernel_rfl,by kernel_rfl⟩
theorem adq : bD prog 60:=⟨_,func60,by kernel_rfl,by kernel_rfl⟩
theorem adr : bD prog 61:=⟨_,func61,by kernel_rfl,by kernel_rfl⟩
theorem ads : bD prog 62:=⟨_,func62,by kernel_rfl,by kernel_rfl⟩
theorem adt : bD prog 65:=⟨_,func65,by kernel_rfl,by kernel_rfl⟩
theorem adu : bD prog 66:=⟨_,func66,by kernel_rfl,by kernel_rfl⟩
theorem adv : bD prog 67:=⟨_,func67,by kernel_rfl,by kernel_rfl⟩
theorem adw : bD prog 68:=⟨_,func68,by kernel_rfl,by kernel_rfl⟩
theorem adx : bD prog 69:=⟨_,func69,by kernel_rfl,by kernel_rfl⟩
theorem ady : bD prog 70:=⟨_,func70,by kernel_rfl,by kernel_rfl⟩
theorem adz : bD prog 71:=⟨_,func71,by kernel_rfl,by kernel_rfl⟩
theorem adA : bD prog 72:=⟨_,func72,by kernel_rfl,by kernel_rfl⟩
theorem adB : bD prog 73:=⟨_,func73,by kernel_rfl,by kernel_rfl⟩
theorem adC : bD prog 74:=⟨_,func74,by kernel_rfl,by kernel_rfl⟩
theorem adD : bD prog 75:=⟨_,func75,by kernel_rfl,by kernel_rfl⟩
theorem adE : bD prog 76:=⟨_,func76,by kernel_rfl,by kernel_rfl⟩
theorem adF : bD prog 77:=⟨_,func77,by kernel_rfl,by kernel_rfl⟩
theorem adG : bD prog 78:=⟨_,func78,by kernel_rfl,by kernel_rfl⟩
theorem adH : bD prog 79:=⟨_,func79,by kernel_rfl,by kernel_rfl⟩
theorem adI : bD prog 80:=⟨_,func80,by kernel_rfl,by kernel_rfl⟩
theorem adJ : bD prog 81:=⟨_,func81,by kernel_rfl,by kernel_rfl⟩
theorem adK : bD prog 82:=⟨_,func82,by kernel_rfl,by kernel_rfl⟩
theorem adL : bD prog 83:=⟨_,func83,by kernel_rfl,by kernel_rfl⟩
theorem adM : bD prog 84:=⟨_,func84,by kernel_rfl,by kernel_rfl⟩
theorem adN : bD prog 85:=⟨_,func85,by kernel_rfl,by kernel_rfl⟩
theorem adO : bD prog 88:=⟨_,func88,by kernel_rfl,by kernel_rfl⟩
theorem adP : bD prog 93:=⟨_,func93,by kernel_rfl,by kernel_rfl⟩
theorem adQ : bD prog 94:=⟨_,func94,by kernel_rfl,by kernel_rfl⟩
theorem adR : bD prog 96:=⟨_,func96,by kernel_rfl,by kernel_rfl⟩
theorem adS : bD prog 97:=⟨_,func97,by kernel_rfl,by kernel_rfl⟩
theorem adT : bD prog 98:=⟨_,func98,by kernel_rfl,by kernel_rfl⟩
theorem adU : bD prog 99:=⟨_,func99,by kernel_rfl,by kernel_rfl⟩
theorem abh : bD prog 102:=⟨_,func102,by kernel_rfl,by kernel_rfl⟩
theorem abi : bD prog 103:=⟨_,func103,by kernel_rfl,by kernel_rfl⟩
theorem abj : bD prog 104:=⟨_,func104,by kernel_rfl,by kernel_rfl⟩
theorem abk : bD prog 105:=⟨_,func105,by kernel_rfl,by kernel_rfl⟩
theorem abl : bD prog 106:=⟨_,func106,by kernel_rfl,by kernel_rfl⟩
theorem abm : bD prog 107:=⟨_,func107,by kernel_rfl,by kernel_rfl⟩
theorem abn : bD prog 108:=⟨_,func108,by kernel_rfl,by kernel_rfl⟩
theorem Mr : bD prog 109:=⟨_,func109,by kernel_rfl,by kernel_rfl⟩
theorem abo : bD prog 110:=⟨_,func110,by kernel_rfl,by kernel_rfl⟩
theorem Vl : bD prog 111:=⟨_,func111,by kernel_rfl,by kernel_rfl⟩
theorem abp : bD prog 112:=⟨_,func112,by kernel_rfl,by kernel_rfl⟩
theorem abq : bD prog 113:=⟨_,func113,by kernel_rfl,by kernel_rfl⟩
theorem abr : bD prog 114:=⟨_,func114,by kernel_rfl,by kernel_rfl⟩
theorem abt : bD prog 115:=⟨_,func115,by kernel_rfl,by kernel_rfl⟩
theorem abu : bD prog 116:=⟨_,func116,by kernel_rfl,by kernel_rfl⟩
theorem abv : bD prog 117:=⟨_,func117,by kernel_rfl,by kernel_rfl⟩
theorem abw : bD prog 118:=⟨_,func118,by kernel_rfl,by kernel_rfl⟩
theorem abx : bD prog 119:=⟨_,func119,by kernel_rfl,by kernel_rfl⟩
theorem aby : bD prog 120:=⟨_,func120,by kernel_rfl,by kernel_rfl⟩
theorem abz : bD prog 121:=⟨_,func121,by kernel_rfl,by kernel_rfl⟩
theorem abA : bD prog 122:=⟨_,func122,by kernel_rfl,by kernel_rfl⟩
theorem abB : bD prog 123:=⟨_,func123,by kernel_rfl,by kernel_rfl⟩
theorem abC : bD prog 124:=⟨_,func124,by kernel_rfl,by kernel_rfl⟩
theorem Hj : bD prog 125:=⟨_,func125,by kernel_rfl,by kernel_rfl⟩
theorem abD : bD prog 126:=⟨_,func126,by kernel_rfl,by kernel_rfl⟩
theorem abE : bD prog 127:=⟨_,func127,by kernel_rfl,by kernel_rfl⟩
theorem abF : bD prog 128:=⟨_,func128,by kernel_rfl,by kernel_rfl⟩
theorem Vm : bD prog 129:=⟨_,func129,by kernel_rfl,by kernel_rfl⟩
theorem Vn : bD prog 130:=⟨_,func130,by kernel_rfl,by kernel_rfl⟩
theorem Vo : bD prog 131:=⟨_,func131,by kernel_rfl,by kernel_rfl⟩
theorem abG : bD prog 132:=⟨_,func132,by kernel_rfl,by kernel_rfl⟩
theorem abH : bD prog 133:=⟨_,func133,by kernel_rfl,by kernel_rfl⟩
theorem abI : bD prog 134:=⟨_,func134,by kernel_rfl,by kernel_rfl⟩
theorem abJ : bD prog 135:=⟨_,func135,by kernel_rfl,by kernel_rfl⟩
theorem abK : bD prog 136:=⟨_,func136,by kernel_rfl,by kernel_rfl⟩
theorem abL : bD prog 137:=⟨_,func137,by kernel_rfl,by kernel_rfl⟩
theorem abM : bD prog 138:=⟨_,func138,by kernel_rfl,by kernel_rfl⟩
theorem abN : bD prog 142:=⟨_,func142,by kernel_rfl,by kernel_rfl⟩
theorem abO : bD prog 144:=⟨_,func144,by kernel_rfl,by kernel_rfl⟩
theorem aT : dX prog 3 1:=dU (by kernel_rfl)
theorem bF : fK prog 3 false:=dY _ iN rfl
theorem kZ : lL prog 3 (.int .i64 0):=iG (by kernel_rfl)
theorem qC : (prog.info? 3).map (fun i=>(i.size,i.bytes,i.zero)) = some (1,8,some (.int .i64 0)):=by kernel_rfl
theorem fV : dX prog 4 1:=dU (by kernel_rfl)
theorem jY : fK prog 4 false:=dY _ Mq rfl
theorem lA : lL prog 4 (.bool false):=iG (by kernel_rfl)
theorem Fl : (prog.info? 5).map (fun i=>(i.size,i.bytes,i.zero)) = some (1,1,some (.int .u8 0)):=by kernel_rfl
theorem oY : dX prog 9 1:=dU (by kernel_rfl)
theorem wK : fK prog 9 false:=dY _ oO rfl
theorem Vp : dX prog 22 1:=dU (by kernel_rfl)
theorem abP : fK prog 22 false:=dY _ bY rfl
theorem Vq : dX prog 23 1:=dU (by kernel_rfl)
theorem abQ : fK prog 23 false:=dY _ wJ rfl
theorem Vr : dX prog 25 4:=dU (by kernel_rfl)
theorem abR : fK prog 25 true:=dY _ Fk rfl
theorem sX : dX prog 26 3:=dU (by kernel_rfl)
theorem Vs : fK prog 26 true:=dY _ yN rfl
theorem Zm : lL prog 26 (.agg #[.int .i64 0,.int .i64 0,.int .i64 0]):=iG (by kernel_rfl)
theorem iJ : dX prog 29 1:=dU (by kernel_rfl)
theorem mG : fK prog 29 false:=dY _ cC rfl
theorem sY : dX prog 30 1:=dU (by kernel_rfl)
theorem Hk : fK prog 30 false:=dY _ oX rfl
theorem nC : dX prog 41 1:=dU (by kernel_rfl)
theorem Bz : fK prog 41 false:=dY _ gB rfl
theorem aG : dX prog 48 3:=dU (by kernel_rfl)
theorem aK : fK prog 48 true:=dY _ cB rfl
theorem bK : lL prog 48 (.agg #[.int .i64 0,.int .i64 0,.int .i64 0]):=iG (by kernel_rfl)
theorem abS : (prog.info? 48).map (fun i=>(i.size,i.bytes,i.zero)) = some (3,24,some (.agg #[.int .i64 0,.int .i64 0,.int .i64 0])):=by kernel_rfl
theorem jK : dX prog 50 6:=dU (by kernel_rfl)
theorem Ms : fK prog 50 true:=dY _ lF rfl
theorem wL : lL prog 50 (.agg #[.int .i64 0,.int .i64 0,.int .i64 0,.int .i64 0,.int .i64 0,.int .i64 0]):=iG (by kernel_rfl)
theorem Vt : (prog.info? 50).map (fun i=>(i.size,i.bytes,i.zero)) = some (6,48,some (.agg #[.int .i64 0,.int .i64 0,.int .i64 0,.int .i64 0,.int .i64 0,.int .i64 0])):=by kernel_rfl
theorem aV : dX prog 53 9:=dU (by kernel_rfl)
theorem eJ : fK prog 53 true:=dY _ bO rfl
theorem iR : lL prog 53 (.agg #[.int .i64 0,.int .i64 0,.int .i64 0,.int .i64 0,.int .i64 0,.int .i64 0,.int .i64 0,.int .i64 0,.int .i64 0]):=iG (by kernel_rfl)
theorem jZ : (prog.info? 53).map (fun i=>(i.size,i.bytes,i.zero)) = some (9,72,some (.agg #[.int .i64 0,.int .i64 0,.int .i64 0,.int .i64 0,.int .i64 0,.int .i64 0,.int .i64 0,.int .i64 0,.int .i64 0])):=by kernel_rfl
theorem cV : dX prog 57 6:=dU (by kernel_rfl)
theorem kJ : fK prog 57 true:=dY _ jJ rfl
theorem rJ : lL prog 57 (.agg #[.int .i64 0,.int .i64 0,.int .i64 0,.int .i64 0,.int .i64 0,.int .i64 0]):=iG (by kernel_rfl)
theorem sZ : (prog.info? 57).map (fun i=>(i.size,i.bytes,i.zero)) = some (6,48,some (.agg #[.int .i64 0,.int .i64 0,.int .i64 0,.int .i64 0,.int .i64 0,.int .i64 0])):=by kernel_rfl
theorem aO : dX prog 65 2:=dU (by kernel_rfl)
theorem bG : fK prog 65 true:=dY _ gR rfl
theorem cL : lL prog 65 (.agg #[.bool false,.string ⟨#[]⟩]):=iG (by kernel_rfl)
theorem wM : dX prog 71 1:=dU (by kernel_rfl)
theorem Mt : fK prog 71 false:=dY _ underlying71 rfl
theorem Zn : lL prog 73 (.agg #[.slice none 0 0,.slice none 0 0,.slice none 0 0,.slice none 0 0,.map none,.int .i64 0]):=iG (by kernel_rfl)
theorem qD : dX prog 74 1:=dU (by kernel_rfl)
theorem Ca : fK prog 74 false:=dY _ underlying74 rfl
theorem gX : dX prog 76 1:=dU (by kernel_rfl)
theorem Cb : fK prog 76 true:=dY _ Bx rfl
theorem tZ : lL prog 76 (.agg #[.nilFunc]):=iG (by kernel_rfl)
theorem qF : dX prog 80 4:=dU (by kernel_rfl)
theorem Rg : dX prog 115 18:=dU (by kernel_rfl)
theorem Jt : lL prog 115 (.agg #[.int .i64 0,.int .i64 0,.int .i64 0,.int .i64 0,.int .i64 0,.int .i64 0,.int .i64 0,.int .i64 0,.int .i64 0,.int .i64 0,.int .i64 0,.int .i64 0,.int .i64 0,.int .i64 0,.int .i64 0,.int .i64 0,.int .i64 0,.int .i64 0]):=iG (by kernel_rfl)
theorem aZ : dX prog 126 1:=dU (by kernel_rfl)
theorem eD : fK prog 126 false:=dY _ pG rfl
theorem kV : (prog.info? 126).map (fun i=>(i.size,i.bytes,i.zero)) = some (1,8,some (.int .u64 0)):=by kernel_rfl
theorem Rh : dX prog 131 1:=dU (by kernel_rfl)
theorem Zo : fK prog 131 false:=dY _ kY rfl
theorem Vu : lL prog 131 (.slice none 0 0):=iG (by kernel_rfl)
theorem dM : dX prog 143 6:=dU (by kernel_rfl)
theorem jC : fK prog 143 true:=dY _ iX rfl
theorem lT : lL prog 143 (.agg #[.int .i64 0,.int .i64 0,.int .i64 0,.int .i64 0,.int .i64 0,.int .i64 0]):=iG (by kernel_rfl)
theorem Zp : (prog.info? 143).map (fun i=>(i.size,i.bytes,i.zero)) = some (6,48,some (.agg #[.int .i64 0,.int .i64 0,.int .i64 0,.int .i64 0,.int .i64 0,.int .i64 0])):=by kernel_rfl
theorem uA : dX prog 149 1:=dU (by kernel_rfl)
theorem Hl : fK prog 149 false:=dY _ underlying149 rfl
theorem uB : dX prog 150 3:=dU (by kernel_rfl)
theorem Ov : fK prog 150 true:=dY _ underlying150 rfl
theorem Cc : lL prog 150 (.agg #[.nilFunc,.nilFunc,.nilFunc]):=iG (by kernel_rfl)
theorem nW : dX prog 153 6:=dU (by kernel_rfl)
theorem Aj : fK prog 153 true:=dY _ pH rfl
theorem Cd : lL prog 153 (.agg #[.bool false,.string ⟨#[]⟩,.bool false,.string ⟨#[]⟩,.bool false,.string ⟨#[]⟩]):=iG (by kernel_rfl)
theorem Vv : lL prog 166 (.agg #[.int .i64 0,.int .i64 0,.int .i64 0,.int .i64 0,.int .i64 0,.int .i64 0,.int .i64 0,.int .i64 0,.int .i64 0,.int .i64 0,.int .i64 0,.int .i64 0,.int .i64 0,.int .i64 0,.int .i64 0,.int .i64 0,.int .i64 0,.int .i64 0,.int .i64 0,.int .i64 0,.int .i64 0,.int .i64 0,.int .i64 0,.int .i64 0]):=iG (by kernel_rfl)
theorem Fm : dX prog 169 18:=dU (by kernel_rfl)
theorem Zq : fK prog 169 true:=dY _ underlying169 rfl
theorem Ju : lL prog 169 (.agg #[.int .i64 0,.int .i64 0,.int .i64 0,.int .i64 0,.int .i64 0,.int .i64 0,.int .i64 0,.int .i64 0,.int .i64 0,.int .i64 0,.int .i64 0,.int .i64 0,.int .i64 0,.int .i64 0,.int .i64 0,.int .i64 0,.int .i64 0,.int .i64 0]):=iG (by kernel_rfl)
theorem Mu {v0 v1 v2 : Value} {c0_0 : Value} (h0 : v0.cells = #[c0_0]) {c1_0 : Value} (h1 : v1.cells = #[c1_0]) {c2_0 : Value} (h2 : v2.cells = #[c2_0])  (w : World) : (Instr.build 26 #[(0,v0),(1,v1),(2,v2)]).run prog w = .ok (.agg #[c0_0,c1_0,c2_0]) w:=iC yN Zm aT (by simp [Instr.fill,eQ,h0,h1,h2]) w
theorem gU {l : List Value} {ty : TypeId} {x0 x1 x2 : Operand} {c0_0 : Value} (h0 : (ev l x0).cells = #[c0_0]) {c1_0 : Value} (h1 : (ev l x1).cells = #[c1_0]) {c2_0 : Value} (h2 : (ev l x2).cells = #[c2_0]) : gH prog l (.build 26 #[(0,x0),(1,x1),(2,x2)]) ty (.agg #[c0_0,c1_0,c2_0]):=gZ (vs:=#[(0,ev l x0),(1,ev l x1),(2,ev l x2)]) (by simp) fun w=>Mu h0 h1 h2 w
theorem qG (w : World) : ((#[{ name := "X", type:=3,offset:=0,embedded:=false,tag := "", pkgPath := "", byteOffset:=0 },{ name := "Y", type:=3,offset:=1,embedded:=false,tag := "", pkgPath := "", byteOffset:=8 },{ name := "Z", type:=3,offset:=2,embedded:=false,tag := "", pkgPath := "", byteOffset:=16 }] : Array Field).mapM fun f=>do pure (f.offset,← sizeOf f.type) : Sem (Array (Nat × Nat))).run prog w = .ok #[(0,1),(1,1),(2,1)] w:=by
 simp [Array.mapM_eq_mapM_toList,fD aT]
theorem adV  (w : World) : (Instr.build 48 #[]).run prog w = .ok (.agg #[(.int .i64 0),(.int .i64 0),(.int .i64 0)]) w:=dL cB bK qG (by simp [Instr.fill,eQ]) w
theorem Jv {l : List Value} {ty : TypeId}  : gH prog l (.build 48 #[]) ty (.agg #[(.int .i64 0),(.int .i64 0),(.int .i64 0)]):=gZ (vs:=#[]) (by simp) fun w=>adV  w
theorem abT {v0 : Value} {c0_0 : Value} (h0 : v0.cells = #[c0_0])  (w : World) : (Instr.build 48 #[(0,v0)]).run prog w = .ok (.agg #[c0_0,(.int .i64 0),(.int .i64 0)]) w:=dL cB bK qG (by simp [Instr.fill,eQ,h0]) w
theorem Hm {l : List Value} {ty : TypeId} {x0 : Operand} {c0_0 : Value} (h0 : (ev l x0).cells = #[c0_0]) : gH prog l (.build 48 #[(0,x0)]) ty (.agg #[c0_0,(.int .i64 0),(.int .i64 0)]):=gZ (vs:=#[(0,ev l x0)]) (by simp) fun w=>abT h0 w
theorem Mw {v0 v1 v2 : Value} {c0_0 : Value} (h0 : v0.cells = #[c0_0]) {c1_0 : Value} (h1 : v1.cells = #[c1_0]) {c2_0 : Value} (h2 : v2.cells = #[c2_0])  (w : World) : (Instr.build 48 #[(0,v0),(1,v1),(2,v2)]).run prog w = .ok (.agg #[c0_0,c1_0,c2_0]) w:=dL cB bK qG (by simp [Instr.fill,eQ,h0,h1,h2]) w
theorem dC {l : List Value} {ty : TypeId} {x0 x1 x2 : Operand} {c0_0 : Value} (h0 : (ev l x0).cells = #[c0_0]) {c1_0 : Value} (h1 : (ev l x1).cells = #[c1_0]) {c2_0 : Value} (h2 : (ev l x2).cells = #[c2_0]) : gH prog l (.build 48 #[(0,x0),(1,x1),(2,x2)]) ty (.agg #[c0_0,c1_0,c2_0]):=gZ (vs:=#[(0,ev l x0),(1,ev l x1),(2,ev l x2)]) (by simp) fun w=>Mw h0 h1 h2 w
theorem abU {v1 : Value} {c1_0 : Value} (h1 : v1.cells = #[c1_0])  (w : World) : (Instr.build 48 #[(1,v1)]).run prog w = .ok (.agg #[(.int .i64 0),c1_0,(.int .i64 0)]) w:=dL cB bK qG (by simp [Instr.fill,eQ,h1]) w
theorem Hn {l : List Value} {ty : TypeId} {x1 : Operand} {c1_0 : Value} (h1 : (ev l x1).cells = #[c1_0]) : gH prog l (.build 48 #[(1,x1)]) ty (.agg #[(.int .i64 0),c1_0,(.int .i64 0)]):=gZ (vs:=#[(1,ev l x1)]) (by simp) fun w=>abU h1 w
theorem abV {v2 : Value} {c2_0 : Value} (h2 : v2.cells = #[c2_0])  (w : World) : (Instr.build 48 #[(2,v2)]).run prog w = .ok (.agg #[(.int .i64 0),(.int .i64 0),c2_0]) w:=dL cB bK qG (by simp [Instr.fill,eQ,h2]) w
theorem wN {l : List Value} {ty : TypeId} {x2 : Operand} {c2_0 : Value} (h2 : (ev l x2).cells = #[c2_0]) : gH prog l (.build 48 #[(2,x2)]) ty (.agg #[(.int .i64 0),(.int .i64 0),c2_0]):=gZ (vs:=#[(2,ev l x2)]) (by simp) fun w=>abV h2 w
theorem Fo (w : World) : ((#[{ name := "From", type:=48,offset:=0,embedded:=false,tag := "", pkgPath := "", byteOffset:=0 },{ name := "To", type:=48,offset:=3,embedded:=false,tag := "", pkgPath := "", byteOffset:=24 }] : Array Field).mapM fun f=>do pure (f.offset,← sizeOf f.type) : Sem (Array (Nat × Nat))).run prog w = .ok #[(0,3),(3,3)] w:=by
 simp [Array.mapM_eq_mapM_toList,fD aG]
theorem abW {v0 : Value} {c0_0 c0_1 c0_2 : Value} (h0 : v0.cells = #[c0_0,c0_1,c0_2])  (w : World) : (Instr.build 50 #[(0,v0)]).run prog w = .ok (.agg #[c0_0,c0_1,c0_2,(.int .i64 0),(.int .i64 0),(.int .i64 0)]) w:=dL lF wL Fo (by simp [Instr.fill,eQ,h0]) w
theorem wO {l : List Value} {ty : TypeId} {x0 : Operand} {c0_0 c0_1 c0_2 : Value} (h0 : (ev l x0).cells = #[c0_0,c0_1,c0_2]) : gH prog l (.build 50 #[(0,x0)]) ty (.agg #[c0_0,c0_1,c0_2,(.int .i64 0),(.int .i64 0),(.int .i64 0)]):=gZ (vs:=#[(0,ev l x0)]) (by simp) fun w=>abW h0 w
theorem Vw {v0 v1 : Value} {c0_0 c0_1 c0_2 : Value} (h0 : v0.cells = #[c0_0,c0_1,c0_2]) {c1_0 c1_1 c1_2 : Value} (h1 : v1.cells = #[c1_0,c1_1,c1_2])  (w : World) : (Instr.build 50 #[(0,v0),(1,v1)]).run prog w = .ok (.agg #[c0_0,c0_1,c0_2,c1_0,c1_1,c1_2]) w:=dL lF wL Fo (by simp [Instr.fill,eQ,h0,h1]) w
theorem oF {l : List Value} {ty : TypeId} {x0 x1 : Operand} {c0_0 c0_1 c0_2 : Value} (h0 : (ev l x0).cells = #[c0_0,c0_1,c0_2]) {c1_0 c1_1 c1_2 : Value} (h1 : (ev l x1).cells = #[c1_0,c1_1,c1_2]) : gH prog l (.build 50 #[(0,x0),(1,x1)]) ty (.agg #[c0_0,c0_1,c0_2,c1_0,c1_1,c1_2]):=gZ (vs:=#[(0,ev l x0),(1,ev l x1)]) (by simp) fun w=>Vw h0 h1 w
theorem Mx {v0 v1 v2 : Value} {c0_0 c0_1 c0_2 : Value} (h0 : v0.cells = #[c0_0,c0_1,c0_2]) {c1_0 c1_1 c1_2 : Value} (h1 : v1.cells = #[c1_0,c1_1,c1_2]) {c2_0 c2_1 c2_2 : Value} (h2 : v2.cells = #[c2_0,c2_1,c2_2])  (w : World) : (Instr.build 53 #[(0,v0),(1,v1),(2,v2)]).run prog w = .ok (.agg #[c0_0,c0_1,c0_2,c1_0,c1_1,c1_2,c2_0,c2_1,c2_2]) w:=iC bO iR aG (by simp [Instr.fill,eQ,h0,h1,h2]) w
theorem bJ {l : List Value} {ty : TypeId} {x0 x1 x2 : Operand} {c0_0 c0_1 c0_2 : Value} (h0 : (ev l x0).cells = #[c0_0,c0_1,c0_2]) {c1_0 c1_1 c1_2 : Value} (h1 : (ev l x1).cells = #[c1_0,c1_1,c1_2]) {c2_0 c2_1 c2_2 : Value} (h2 : (ev l x2).cells = #[c2_0,c2_1,c2_2]) : gH prog l (.build 53 #[(0,x0),(1,x1),(2,x2)]) ty (.agg #[c0_0,c0_1,c0_2,c1_0,c1_1,c1_2,c2_0,c2_1,c2_2]):=gZ (vs:=#[(0,ev l x0),(1,ev l x1),(2,ev l x2)]) (by simp) fun w=>Mx h0 h1 h2 w
theorem Vx {v0 v1 : Value} {c0_0 c0_1 c0_2 : Value} (h0 : v0.cells = #[c0_0,c0_1,c0_2]) {c1_0 c1_1 c1_2 : Value} (h1 : v1.cells = #[c1_0,c1_1,c1_2])  (w : World) : (Instr.build 57 #[(0,v0),(1,v1)]).run prog w = .ok (.agg #[c0_0,c0_1,c0_2,c1_0,c1_1,c1_2]) w:=iC jJ rJ aG (by simp [Instr.fill,eQ,h0,h1]) w
theorem cA {l : List Value} {ty : TypeId} {x0 x1 : Operand} {c0_0 c0_1 c0_2 : Value} (h0 : (ev l x0).cells = #[c0_0,c0_1,c0_2]) {c1_0 c1_1 c1_2 : Value} (h1 : (ev l x1).cells = #[c1_0,c1_1,c1_2]) : gH prog l (.build 57 #[(0,x0),(1,x1)]) ty (.agg #[c0_0,c0_1,c0_2,c1_0,c1_1,c1_2]):=gZ (vs:=#[(0,ev l x0),(1,ev l x1)]) (by simp) fun w=>Vx h0 h1 w
theorem Fp (w : World) : ((#[{ name := "Neg", type:=4,offset:=0,embedded:=false,tag := "", pkgPath := "", byteOffset:=0 },{ name := "Mag", type:=9,offset:=1,embedded:=false,tag := "", pkgPath := "", byteOffset:=8 }] : Array Field).mapM fun f=>do pure (f.offset,← sizeOf f.type) : Sem (Array (Nat × Nat))).run prog w = .ok #[(0,1),(1,1)] w:=by
 simp [Array.mapM_eq_mapM_toList,fD fV,fD oY]
theorem adW  (w : World) : (Instr.build 65 #[]).run prog w = .ok (.agg #[(.bool false),(.string ⟨#[]⟩)]) w:=dL gR cL Fp (by simp [Instr.fill,eQ]) w
theorem oZ {l : List Value} {ty : TypeId}  : gH prog l (.build 65 #[]) ty (.agg #[(.bool false),(.string ⟨#[]⟩)]):=gZ (vs:=#[]) (by simp) fun w=>adW  w
theorem Vy {v0 v1 : Value} {c0_0 : Value} (h0 : v0.cells = #[c0_0]) {c1_0 : Value} (h1 : v1.cells = #[c1_0])  (w : World) : (Instr.build 65 #[(0,v0),(1,v1)]).run prog w = .ok (.agg #[c0_0,c1_0]) w:=dL gR cL Fp (by simp [Instr.fill,eQ,h0,h1]) w
theorem oG {l : List Value} {ty : TypeId} {x0 x1 : Operand} {c0_0 : Value} (h0 : (ev l x0).cells = #[c0_0]) {c1_0 : Value} (h1 : (ev l x1).cells = #[c1_0]) : gH prog l (.build 65 #[(0,x0),(1,x1)]) ty (.agg #[c0_0,c1_0]):=gZ (vs:=#[(0,ev l x0),(1,ev l x1)]) (by simp) fun w=>Vy h0 h1 w
theorem Ri (w : World) : ((#[{ name := "fine", type:=29,offset:=0,embedded:=false,tag := "", pkgPath := "lithophane/witness", byteOffset:=0 },{ name := "coarse", type:=29,offset:=1,embedded:=false,tag := "", pkgPath := "lithophane/witness", byteOffset:=24 },{ name := "moves", type:=30,offset:=2,embedded:=false,tag := "", pkgPath := "lithophane/witness", byteOffset:=48 },{ name := "rim", type:=41,offset:=3,embedded:=false,tag := "", pkgPath := "lithophane/witness", byteOffset:=72 },{ name := "to", type:=71,offset:=4,embedded:=false,tag := "", pkgPath := "lithophane/witness", byteOffset:=96 },{ name := "most", type:=3,offset:=5,embedded:=false,tag := "", pkgPath := "lithophane/witness", byteOffset:=104 }] : Array Field).mapM fun f=>do pure (f.offset,← sizeOf f.type) : Sem (Array (Nat × Nat))).run prog w = .ok #[(0,1),(1,1),(2,1),(3,1),(4,1),(5,1)] w:=by
 simp [Array.mapM_eq_mapM_toList,fD iJ,fD aT,fD sY,fD nC,fD wM]
theorem Ho {v0 v1 v2 v4 : Value} {c0_0 : Value} (h0 : v0.cells = #[c0_0]) {c1_0 : Value} (h1 : v1.cells = #[c1_0]) {c2_0 : Value} (h2 : v2.cells = #[c2_0]) {c4_0 : Value} (h4 : v4.cells = #[c4_0])  (w : World) : (Instr.build 73 #[(0,v0),(1,v1),(2,v2),(4,v4)]).run prog w = .ok (.agg #[c0_0,c1_0,c2_0,(.slice none 0 0),c4_0,(.int .i64 0)]) w:=dL iA Zn Ri (by simp [Instr.fill,eQ,h0,h1,h2,h4]) w
theorem vL {l : List Value} {ty : TypeId} {x0 x1 x2 x4 : Operand} {c0_0 : Value} (h0 : (ev l x0).cells = #[c0_0]) {c1_0 : Value} (h1 : (ev l x1).cells = #[c1_0]) {c2_0 : Value} (h2 : (ev l x2).cells = #[c2_0]) {c4_0 : Value} (h4 : (ev l x4).cells = #[c4_0]) : gH prog l (.build 73 #[(0,x0),(1,x1),(2,x2),(4,x4)]) ty (.agg #[c0_0,c1_0,c2_0,(.slice none 0 0),c4_0,(.int .i64 0)]):=gZ (vs:=#[(0,ev l x0),(1,ev l x1),(2,ev l x2),(4,ev l x4)]) (by simp) fun w=>Ho h0 h1 h2 h4 w
theorem Rj (w : World) : ((#[{ name := "run", type:=74,offset:=0,embedded:=false,tag := "", pkgPath := "lithophane/witness", byteOffset:=0 }] : Array Field).mapM fun f=>do pure (f.offset,← sizeOf f.type) : Sem (Array (Nat × Nat))).run prog w = .ok #[(0,1)] w:=by
 simp [Array.mapM_eq_mapM_toList,fD qD]
theorem abX {v0 : Value} {c0_0 : Value} (h0 : v0.cells = #[c0_0])  (w : World) : (Instr.build 76 #[(0,v0)]).run prog w = .ok (.agg #[c0_0]) w:=dL Bx tZ Rj (by simp [Instr.fill,eQ,h0]) w
theorem lU {l : List Value} {ty : TypeId} {x0 : Operand} {c0_0 : Value} (h0 : (ev l x0).cells = #[c0_0]) : gH prog l (.build 76 #[(0,x0)]) ty (.agg #[c0_0]):=gZ (vs:=#[(0,ev l x0)]) (by simp) fun w=>abX h0 w
theorem wP {v0 v1 v2 v3 v4 v5 : Value} {c0_0 c0_1 c0_2 : Value} (h0 : v0.cells = #[c0_0,c0_1,c0_2]) {c1_0 c1_1 c1_2 : Value} (h1 : v1.cells = #[c1_0,c1_1,c1_2]) {c2_0 c2_1 c2_2 : Value} (h2 : v2.cells = #[c2_0,c2_1,c2_2]) {c3_0 c3_1 c3_2 : Value} (h3 : v3.cells = #[c3_0,c3_1,c3_2]) {c4_0 c4_1 c4_2 : Value} (h4 : v4.cells = #[c4_0,c4_1,c4_2]) {c5_0 c5_1 c5_2 : Value} (h5 : v5.cells = #[c5_0,c5_1,c5_2])  (w : World) : (Instr.build 115 #[(0,v0),(1,v1),(2,v2),(3,v3),(4,v4),(5,v5)]).run prog w = .ok (.agg #[c0_0,c0_1,c0_2,c1_0,c1_1,c1_2,c2_0,c2_1,c2_2,c3_0,c3_1,c3_2,c4_0,c4_1,c4_2,c5_0,c5_1,c5_2]) w:=iC underlying115 Jt sX (by simp [Instr.fill,eQ,h0,h1,h2,h3,h4,h5]) w
theorem qH {l : List Value} {ty : TypeId} {x0 x1 x2 x3 x4 x5 : Operand} {c0_0 c0_1 c0_2 : Value} (h0 : (ev l x0).cells = #[c0_0,c0_1,c0_2]) {c1_0 c1_1 c1_2 : Value} (h1 : (ev l x1).cells = #[c1_0,c1_1,c1_2]) {c2_0 c2_1 c2_2 : Value} (h2 : (ev l x2).cells = #[c2_0,c2_1,c2_2]) {c3_0 c3_1 c3_2 : Value} (h3 : (ev l x3).cells = #[c3_0,c3_1,c3_2]) {c4_0 c4_1 c4_2 : Value} (h4 : (ev l x4).cells = #[c4_0,c4_1,c4_2]) {c5_0 c5_1 c5_2 : Value} (h5 : (ev l x5).cells = #[c5_0,c5_1,c5_2]) : gH prog l (.build 115 #[(0,x0),(1,x1),(2,x2),(3,x3),(4,x4),(5,x5)]) ty (.agg #[c0_0,c0_1,c0_2,c1_0,c1_1,c1_2,c2_0,c2_1,c2_2,c3_0,c3_1,c3_2,c4_0,c4_1,c4_2,c5_0,c5_1,c5_2]):=gZ (vs:=#[(0,ev l x0),(1,ev l x1),(2,ev l x2),(3,ev l x3),(4,ev l x4),(5,ev l x5)]) (by simp) fun w=>wP h0 h1 h2 h3 h4 h5 w
theorem My (w : World) : ((#[{ name := "from", type:=48,offset:=0,embedded:=false,tag := "", pkgPath := "lithophane/mesh", byteOffset:=0 },{ name := "to", type:=48,offset:=3,embedded:=false,tag := "", pkgPath := "lithophane/mesh", byteOffset:=24 }] : Array Field).mapM fun f=>do pure (f.offset,← sizeOf f.type) : Sem (Array (Nat × Nat))).run prog w = .ok #[(0,3),(3,3)] w:=by
 simp [Array.mapM_eq_mapM_toList,fD aG]
theorem Rk {v0 v1 : Value} {c0_0 c0_1 c0_2 : Value} (h0 : v0.cells = #[c0_0,c0_1,c0_2]) {c1_0 c1_1 c1_2 : Value} (h1 : v1.cells = #[c1_0,c1_1,c1_2])  (w : World) : (Instr.build 143 #[(0,v0),(1,v1)]).run prog w = .ok (.agg #[c0_0,c0_1,c0_2,c1_0,c1_1,c1_2]) w:=dL iX lT My (by simp [Instr.fill,eQ,h0,h1]) w
theorem fR {l : List Value} {ty : TypeId} {x0 x1 : Operand} {c0_0 c0_1 c0_2 : Value} (h0 : (ev l x0).cells = #[c0_0,c0_1,c0_2]) {c1_0 c1_1 c1_2 : Value} (h1 : (ev l x1).cells = #[c1_0,c1_1,c1_2]) : gH prog l (.build 143 #[(0,x0),(1,x1)]) ty (.agg #[c0_0,c0_1,c0_2,c1_0,c1_1,c1_2]):=gZ (vs:=#[(0,ev l x0),(1,ev l x1)]) (by simp) fun w=>Rk h0 h1 w
theorem Jw {v0 v1 v2 : Value} {c0_0 : Value} (h0 : v0.cells = #[c0_0]) {c1_0 : Value} (h1 : v1.cells = #[c1_0]) {c2_0 : Value} (h2 : v2.cells = #[c2_0])  (w : World) : (Instr.build 150 #[(0,v0),(1,v1),(2,v2)]).run prog w = .ok (.agg #[c0_0,c1_0,c2_0]) w:=iC underlying150 Cc uA (by simp [Instr.fill,eQ,h0,h1,h2]) w
theorem pA {l : List Value} {ty : TypeId} {x0 x1 x2 : Operand} {c0_0 : Value} (h0 : (ev l x0).cells = #[c0_0]) {c1_0 : Value} (h1 : (ev l x1).cells = #[c1_0]) {c2_0 : Value} (h2 : (ev l x2).cells = #[c2_0]) : gH prog l (.build 150 #[(0,x0),(1,x1),(2,x2)]) ty (.agg #[c0_0,c1_0,c2_0]):=gZ (vs:=#[(0,ev l x0),(1,ev l x1),(2,ev l x2)]) (by simp) fun w=>Jw h0 h1 h2 w
theorem Jy {v0 v1 v2 : Value} {c0_0 c0_1 c0_2 c0_3 c0_4 c0_5 : Value} (h0 : v0.cells = #[c0_0,c0_1,c0_2,c0_3,c0_4,c0_5]) {c1_0 c1_1 c1_2 c1_3 c1_4 c1_5 : Value} (h1 : v1.cells = #[c1_0,c1_1,c1_2,c1_3,c1_4,c1_5]) {c2_0 c2_1 c2_2 c2_3 c2_4 c2_5 : Value} (h2 : v2.cells = #[c2_0,c2_1,c2_2,c2_3,c2_4,c2_5])  (w : World) : (Instr.build 169 #[(0,v0),(1,v1),(2,v2)]).run prog w = .ok (.agg #[c0_0,c0_1,c0_2,c0_3,c0_4,c0_5,c1_0,c1_1,c1_2,c1_3,c1_4,c1_5,c2_0,c2_1,c2_2,c2_3,c2_4,c2_5]) w:=iC underlying169 Ju dM (by simp [Instr.fill,eQ,h0,h1,h2]) w
theorem wQ {l : List Value} {ty : TypeId} {x0 x1 x2 : Operand} {c0_0 c0_1 c0_2 c0_3 c0_4 c0_5 : Value} (h0 : (ev l x0).cells = #[c0_0,c0_1,c0_2,c0_3,c0_4,c0_5]) {c1_0 c1_1 c1_2 c1_3 c1_4 c1_5 : Value} (h1 : (ev l x1).cells = #[c1_0,c1_1,c1_2,c1_3,c1_4,c1_5]) {c2_0 c2_1 c2_2 c2_3 c2_4 c2_5 : Value} (h2 : (ev l x2).cells = #[c2_0,c2_1,c2_2,c2_3,c2_4,c2_5]) : gH prog l (.build 169 #[(0,x0),(1,x1),(2,x2)]) ty (.agg #[c0_0,c0_1,c0_2,c0_3,c0_4,c0_5,c1_0,c1_1,c1_2,c1_3,c1_4,c1_5,c2_0,c2_1,c2_2,c2_3,c2_4,c2_5]):=gZ (vs:=#[(0,ev l x0),(1,ev l x1),(2,ev l x2)]) (by simp) fun w=>Jy h0 h1 h2 w
theorem pI (d : Nat) {x0 y0 : Int} {x1 y1 : Int} {x2 y2 : Int} : rX prog (d + 2) 48 (.agg #[.int .i64 x0,.int .i64 x1,.int .i64 x2]) (.agg #[.int .i64 y0,.int .i64 y1,.int .i64 y2]) (x0 = y0 ∧ x1 = y1 ∧ x2 = y2):=(rX.struct cB (by kernel_rfl) (uL.cons (by decide) (dG bF rfl) (dG bF rfl) (rX.int (d:=d + 0) iN) (uL.cons (by decide) (dG bF rfl) (dG bF rfl) (rX.int (d:=d + 0) iN) (uL.cons (by decide) (dG bF rfl) (dG bF rfl) (rX.int (d:=d + 0) iN) uL.nil)))).iff (by simp only[and_assoc,and_true])
theorem eS {l : List Value} {ty T' : TypeId} {x y : Operand} {x0 y0 : Int} {x1 y1 : Int} {x2 y2 : Int} (hx : ev l x = (.agg #[.int .i64 x0,.int .i64 x1,.int .i64 x2])) (hy : ev l y = (.agg #[.int .i64 y0,.int .i64 y1,.int .i64 y2])) : gH prog l (.binOp .eql 48 x y T') ty (.bool (decide (x0 = y0 ∧ x1 = y1 ∧ x2 = y2))):=Lz (by kernel_rfl) hx hy (pI 9998)
theorem iF {l : List Value} {ty T' : TypeId} {x y : Operand} {x0 y0 : Int} {x1 y1 : Int} {x2 y2 : Int} (hx : ev l x = (.agg #[.int .i64 x0,.int .i64 x1,.int .i64 x2])) (hy : ev l y = (.agg #[.int .i64 y0,.int .i64 y1,.int .i64 y2])) : gH prog l (.binOp .neq 48 x y T') ty (.bool (decide (¬ (x0 = y0 ∧ x1 = y1 ∧ x2 = y2)))):=Ma (by kernel_rfl) hx hy (pI 9998)
theorem abY (d : Nat) {x0 y0 : Int} {x1 y1 : Int} {x2 y2 : Int} {x3 y3 : Int} {x4 y4 : Int} {x5 y5 : Int} {x6 y6 : Int} {x7 y7 : Int} {x8 y8 : Int} : rX prog (d + 3) 53 (.agg #[.int .i64 x0,.int .i64 x1,.int .i64 x2,.int .i64 x3,.int .i64 x4,.int .i64 x5,.int .i64 x6,.int .i64 x7,.int .i64 x8]) (.agg #[.int .i64 y0,.int .i64 y1,.int .i64 y2,.int .i64 y3,.int .i64 y4,.int .i64 y5,.int .i64 y6,.int .i64 y7,.int .i64 y8]) (x0 = y0 ∧ x1 = y1 ∧ x2 = y2 ∧ x3 = y3 ∧ x4 = y4 ∧ x5 = y5 ∧ x6 = y6 ∧ x7 = y7 ∧ x8 = y8):=(rX.array bO aG (xN.cons (eW aK aG rfl) (eW aK aG rfl) (pI (d + 0)) (xN.cons (eW aK aG rfl) (eW aK aG rfl) (pI (d + 0)) (xN.cons (eW aK aG rfl) (eW aK aG rfl) (pI (d + 0)) xN.nil)))).iff (by simp only[and_assoc,and_true])
theorem Mz (d : Nat) {x0 y0 : Int} {x1 y1 : Int} {x2 y2 : Int} {x3 y3 : Int} {x4 y4 : Int} {x5 y5 : Int} : rX prog (d + 3) 57 (.agg #[.int .i64 x0,.int .i64 x1,.int .i64 x2,.int .i64 x3,.int .i64 x4,.int .i64 x5]) (.agg #[.int .i64 y0,.int .i64 y1,.int .i64 y2,.int .i64 y3,.int .i64 y4,.int .i64 y5]) (x0 = y0 ∧ x1 = y1 ∧ x2 = y2 ∧ x3 = y3 ∧ x4 = y4 ∧ x5 = y5):=(rX.array jJ aG (xN.cons (eW aK aG rfl) (eW aK aG rfl) (pI (d + 0)) (xN.cons (eW aK aG rfl) (eW aK aG rfl) (pI (d + 0)) xN.nil))).iff (by simp only[and_assoc,and_true])
theorem Rl {l : List Value} {ty T' : TypeId} {x y : Operand} {x0 y0 : Int} {x1 y1 : Int} {x2 y2 : Int} {x3 y3 : Int} {x4 y4 : Int} {x5 y5 : Int} (hx : ev l x = (.agg #[.int .i64 x0,.int .i64 x1,.int .i64 x2,.int .i64 x3,.int .i64 x4,.int .i64 x5])) (hy : ev l y = (.agg #[.int .i64 y0,.int .i64 y1,.int .i64 y2,.int .i64 y3,.int .i64 y4,.int .i64 y5])) : gH prog l (.binOp .eql 57 x y T') ty (.bool (decide (x0 = y0 ∧ x1 = y1 ∧ x2 = y2 ∧ x3 = y3 ∧ x4 = y4 ∧ x5 = y5))):=Lz (by kernel_rfl) hx hy (Mz 9997)
theorem Rm {l : List Value} {ty T' : TypeId} {x y : Operand} {x0 y0 : Int} {x1 y1 : Int} {x2 y2 : Int} {x3 y3 : Int} {x4 y4 : Int} {x5 y5 : Int} (hx : ev l x = (.agg #[.int .i64 x0,.int .i64 x1,.int .i64 x2,.int .i64 x3,.int .i64 x4,.int .i64 x5])) (hy : ev l y = (.agg #[.int .i64 y0,.int .i64 y1,.int .i64 y2,.int .i64 y3,.int .i64 y4,.int .i64 y5])) : gH prog l (.binOp .neq 57 x y T') ty (.bool (decide (¬ (x0 = y0 ∧ x1 = y1 ∧ x2 = y2 ∧ x3 = y3 ∧ x4 = y4 ∧ x5 = y5)))):=Ma (by kernel_rfl) hx hy (Mz 9997)
theorem Vz (d : Nat) {x0 y0 : Bool} {x1 y1 : ByteArray} : rX prog (d + 2) 65 (.agg #[.bool x0,.string x1]) (.agg #[.bool y0,.string y1]) (x0 = y0 ∧ x1 = y1):=(rX.struct gR (by kernel_rfl) (uL.cons (by decide) (dG jY rfl) (dG jY rfl) (rX.bool (d:=d + 0) Mq) (uL.cons (by decide) (dG wK rfl) (dG wK rfl) (rX.str (d:=d + 0) oO) uL.nil))).iff (by simp only[and_assoc,and_true])
theorem lG {l : List Value} {ty T' : TypeId} {x y : Operand} {x0 y0 : Bool} {x1 y1 : ByteArray} (hx : ev l x = (.agg #[.bool x0,.string x1])) (hy : ev l y = (.agg #[.bool y0,.string y1])) : gH prog l (.binOp .eql 65 x y T') ty (.bool (decide (x0 = y0 ∧ x1 = y1))):=Lz (by kernel_rfl) hx hy (Vz 9998)
theorem Rn {l : List Value} {ty T' : TypeId} {x y : Operand} {x0 y0 : Bool} {x1 y1 : ByteArray} (hx : ev l x = (.agg #[.bool x0,.string x1])) (hy : ev l y = (.agg #[.bool y0,.string y1])) : gH prog l (.binOp .neq 65 x y T') ty (.bool (decide (¬ (x0 = y0 ∧ x1 = y1)))):=Ma (by kernel_rfl) hx hy (Vz 9998)
theorem Zr (d : Nat) {x0 y0 : Int} {x1 y1 : Int} {x2 y2 : Int} {x3 y3 : Int} {x4 y4 : Int} {x5 y5 : Int} : rX prog (d + 3) 143 (.agg #[.int .i64 x0,.int .i64 x1,.int .i64 x2,.int .i64 x3,.int .i64 x4,.int .i64 x5]) (.agg #[.int .i64 y0,.int .i64 y1,.int .i64 y2,.int .i64 y3,.int .i64 y4,.int .i64 y5]) (x0 = y0 ∧ x1 = y1 ∧ x2 = y2 ∧ x3 = y3 ∧ x4 = y4 ∧ x5 = y5):=(rX.struct iX (by kernel_rfl) (uL.cons (by decide) (eW aK aG rfl) (eW aK aG rfl) (pI (d + 0)) (uL.cons (by decide) (eW aK aG rfl) (eW aK aG rfl) (pI (d + 0)) uL.nil))).iff (by simp only[and_assoc,and_true])
end Go.Proofs.YtfohfflkhpfjeaaGreatDoor
namespace Go.Proofs.YtfohfflkhpfjeaaGreatDoor
open Go.Proofs.Tryz
open Go.RowKit Go.Lith
theorem jD {l : List Value} {ty : TypeId} {x y : Operand} {k : IntKind} {c0 c1 c2 c3 c4 c5 c6 c7 c8 : Value} (hx : ev l x = .agg #[c0,c1,c2,c3,c4,c5,c6,c7,c8]) (hy : ev l y = .int k 0) : gH prog l (.index 53 x y) ty (.agg #[c0,c1,c2]):=pT bO aK aG hx hy (by decide) (by decide) rfl
theorem jE {l : List Value} {ty : TypeId} {x y : Operand} {k : IntKind} {c0 c1 c2 c3 c4 c5 c6 c7 c8 : Value} (hx : ev l x = .agg #[c0,c1,c2,c3,c4,c5,c6,c7,c8]) (hy : ev l y = .int k 1) : gH prog l (.index 53 x y) ty (.agg #[c3,c4,c5]):=pT bO aK aG hx hy (by decide) (by decide) rfl
theorem jF {l : List Value} {ty : TypeId} {x y : Operand} {k : IntKind} {c0 c1 c2 c3 c4 c5 c6 c7 c8 : Value} (hx : ev l x = .agg #[c0,c1,c2,c3,c4,c5,c6,c7,c8]) (hy : ev l y = .int k 2) : gH prog l (.index 53 x y) ty (.agg #[c6,c7,c8]):=pT bO aK aG hx hy (by decide) (by decide) rfl
theorem uT {l : List Value} {ty : TypeId} {x y : Operand} {k : IntKind} {c0 c1 c2 : Value} (hx : ev l x = .agg #[c0,c1,c2]) (hy : ev l y = .int k 0) : gH prog l (.index 150 x y) ty c0:=Av underlying150 Hl uA hx hy (by decide) (by decide) rfl
theorem uU {l : List Value} {ty : TypeId} {x y : Operand} {k : IntKind} {c0 c1 c2 : Value} (hx : ev l x = .agg #[c0,c1,c2]) (hy : ev l y = .int k 1) : gH prog l (.index 150 x y) ty c1:=Av underlying150 Hl uA hx hy (by decide) (by decide) rfl
theorem uV {l : List Value} {ty : TypeId} {x y : Operand} {k : IntKind} {c0 c1 c2 : Value} (hx : ev l x = .agg #[c0,c1,c2]) (hy : ev l y = .int k 2) : gH prog l (.index 150 x y) ty c2:=Av underlying150 Hl uA hx hy (by decide) (by decide) rfl
theorem Eg {l : List Value} {ty : TypeId} {x y : Operand} {k : IntKind} {c0 c1 c2 c3 c4 c5 c6 c7 c8 c9 c10 c11 c12 c13 c14 c15 c16 c17 : Value} (hx : ev l x = .agg #[c0,c1,c2,c3,c4,c5,c6,c7,c8,c9,c10,c11,c12,c13,c14,c15,c16,c17]) (hy : ev l y = .int k 0) : gH prog l (.index 169 x y) ty (.agg #[c0,c1,c2,c3,c4,c5]):=pT underlying169 jC dM hx hy (by decide) (by decide) rfl
theorem Eh {l : List Value} {ty : TypeId} {x y : Operand} {k : IntKind} {c0 c1 c2 c3 c4 c5 c6 c7 c8 c9 c10 c11 c12 c13 c14 c15 c16 c17 : Value} (hx : ev l x = .agg #[c0,c1,c2,c3,c4,c5,c6,c7,c8,c9,c10,c11,c12,c13,c14,c15,c16,c17]) (hy : ev l y = .int k 1) : gH prog l (.index 169 x y) ty (.agg #[c6,c7,c8,c9,c10,c11]):=pT underlying169 jC dM hx hy (by decide) (by decide) rfl
theorem Ei {l : List Value} {ty : TypeId} {x y : Operand} {k : IntKind} {c0 c1 c2 c3 c4 c5 c6 c7 c8 c9 c10 c11 c12 c13 c14 c15 c16 c17 : Value} (hx : ev l x = .agg #[c0,c1,c2,c3,c4,c5,c6,c7,c8,c9,c10,c11,c12,c13,c14,c15,c16,c17]) (hy : ev l y = .int k 2) : gH prog l (.index 169 x y) ty (.agg #[c12,c13,c14,c15,c16,c17]):=pT underlying169 jC dM hx hy (by decide) (by decide) rfl
theorem uC {ds : List Deferred} {l : List Value} {ty : TypeId} {ops : Array Oper} {Q : Exit → Act → World → Prop} {rest : List Oper} {d : Nat} {pos : String} {after : Array Edge} {w : World} {x0 : Operand} {c0_0 c0_1 c0_2 c0_3 c0_4 c0_5 c0_6 c0_7 c0_8 : Value} (h0 : (ev l x0).cells = #[c0_0,c0_1,c0_2,c0_3,c0_4,c0_5,c0_6,c0_7,c0_8]) (h : ∀ w' g,cZ w w' → w.heap.size ≤ g → fQ w' g [c0_0,c0_1,c0_2,c0_3,c0_4,c0_5,c0_6,c0_7,c0_8] 53 → wpList prog ops Q rest (Fr (l.set d (.slice (some ⟨g,0,none⟩) 1 1)) ds) w') : wpList prog ops Q (Oper.mk (some d) (.buildSlice 29 1 #[(0,x0)]) ty pos after none :: rest) (Fr l ds) w :=
 jW (vs:=#[(0,ev l x0)]) (base:=#[.int .i64 0,.int .i64 0,.int .i64 0,.int .i64 0,.int .i64 0,.int .i64 0,.int .i64 0,.int .i64 0,.int .i64 0]) (c:=9) (z:=(.agg #[.int .i64 0,.int .i64 0,.int .i64 0,.int .i64 0,.int .i64 0,.int .i64 0,.int .i64 0,.int .i64 0,.int .i64 0])) cC (by kernel_rfl) (by decide) (by decide) (by kernel_rfl) (by simp) (by simp [Instr.fill,h0]) h
theorem uD {ds : List Deferred} {l : List Value} {ty : TypeId} {ops : Array Oper} {Q : Exit → Act → World → Prop} {rest : List Oper} {d : Nat} {pos : String} {after : Array Edge} {w : World} {x0 x1 : Operand} {c0_0 c0_1 c0_2 c0_3 c0_4 c0_5 c0_6 c0_7 c0_8 c1_0 c1_1 c1_2 c1_3 c1_4 c1_5 c1_6 c1_7 c1_8 : Value} (h0 : (ev l x0).cells = #[c0_0,c0_1,c0_2,c0_3,c0_4,c0_5,c0_6,c0_7,c0_8]) (h1 : (ev l x1).cells = #[c1_0,c1_1,c1_2,c1_3,c1_4,c1_5,c1_6,c1_7,c1_8]) (h : ∀ w' g,cZ w w' → w.heap.size ≤ g → fQ w' g [c0_0,c0_1,c0_2,c0_3,c0_4,c0_5,c0_6,c0_7,c0_8,c1_0,c1_1,c1_2,c1_3,c1_4,c1_5,c1_6,c1_7,c1_8] 53 → wpList prog ops Q rest (Fr (l.set d (.slice (some ⟨g,0,none⟩) 2 2)) ds) w') : wpList prog ops Q (Oper.mk (some d) (.buildSlice 29 2 #[(0,x0),(1,x1)]) ty pos after none :: rest) (Fr l ds) w :=
 jW (vs:=#[(0,ev l x0),(1,ev l x1)]) (base:=#[.int .i64 0,.int .i64 0,.int .i64 0,.int .i64 0,.int .i64 0,.int .i64 0,.int .i64 0,.int .i64 0,.int .i64 0,.int .i64 0,.int .i64 0,.int .i64 0,.int .i64 0,.int .i64 0,.int .i64 0,.int .i64 0,.int .i64 0,.int .i64 0]) (c:=9) (z:=(.agg #[.int .i64 0,.int .i64 0,.int .i64 0,.int .i64 0,.int .i64 0,.int .i64 0,.int .i64 0,.int .i64 0,.int .i64 0])) cC (by kernel_rfl) (by decide) (by decide) (by kernel_rfl) (by simp) (by simp [Instr.fill,h0,h1]) h
theorem Ro {ds : List Deferred} {l : List Value} {ty : TypeId} {ops : Array Oper} {Q : Exit → Act → World → Prop} {rest : List Oper} {d : Nat} {pos : String} {after : Array Edge} {w : World} {x0 x1 x2 x3 : Operand} {c0_0 c0_1 c0_2 c0_3 c0_4 c0_5 c0_6 c0_7 c0_8 c1_0 c1_1 c1_2 c1_3 c1_4 c1_5 c1_6 c1_7 c1_8 c2_0 c2_1 c2_2 c2_3 c2_4 c2_5 c2_6 c2_7 c2_8 c3_0 c3_1 c3_2 c3_3 c3_4 c3_5 c3_6 c3_7 c3_8 : Value} (h0 : (ev l x0).cells = #[c0_0,c0_1,c0_2,c0_3,c0_4,c0_5,c0_6,c0_7,c0_8]) (h1 : (ev l x1).cells = #[c1_0,c1_1,c1_2,c1_3,c1_4,c1_5,c1_6,c1_7,c1_8]) (h2 : (ev l x2).cells = #[c2_0,c2_1,c2_2,c2_3,c2_4,c2_5,c2_6,c2_7,c2_8]) (h3 : (ev l x3).cells = #[c3_0,c3_1,c3_2,c3_3,c3_4,c3_5,c3_6,c3_7,c3_8]) (h : ∀ w' g,cZ w w' → w.heap.size ≤ g → fQ w' g [c0_0,c0_1,c0_2,c0_3,c0_4,c0_5,c0_6,c0_7,c0_8,c1_0,c1_1,c1_2,c1_3,c1_4,c1_5,c1_6,c1_7,c1_8,c2_0,c2_1,c2_2,c2_3,c2_4,c2_5,c2_6,c2_7,c2_8,c3_0,c3_1,c3_2,c3_3,c3_4,c3_5,c3_6,c3_7,c3_8] 53 → wpList prog ops Q rest (Fr (l.set d (.slice (some ⟨g,0,none⟩) 4 4)) ds) w') : wpList prog ops Q (Oper.mk (some d) (.buildSlice 29 4 #[(0,x0),(1,x1),(2,x2),(3,x3)]) ty pos after none :: rest) (Fr l ds) w :=
 jW (vs:=#[(0,ev l x0),(1,ev l x1),(2,ev l x2),(3,ev l x3)]) (base:=#[.int .i64 0,.int .i64 0,.int .i64 0,.int .i64 0,.int .i64 0,.int .i64 0,.int .i64 0,.int .i64 0,.int .i64 0,.int .i64 0,.int .i64 0,.int .i64 0,.int .i64 0,.int .i64 0,.int .i64 0,.int .i64 0,.int .i64 0,.int .i64 0,.int .i64 0,.int .i64 0,.int .i64 0,.int .i64 0,.int .i64 0,.int .i64 0,.int .i64 0,.int .i64 0,.int .i64 0,.int .i64 0,.int .i64 0,.int .i64 0,.int .i64 0,.int .i64 0,.int .i64 0,.int .i64 0,.int .i64 0,.int .i64 0]) (c:=9) (z:=(.agg #[.int .i64 0,.int .i64 0,.int .i64 0,.int .i64 0,.int .i64 0,.int .i64 0,.int .i64 0,.int .i64 0,.int .i64 0])) cC (by kernel_rfl) (by decide) (by decide) (by kernel_rfl) (by simp) (by simp [Instr.fill,h0,h1,h2,h3]) h
theorem Rp {ds : List Deferred} {l : List Value} {ty : TypeId} {ops : Array Oper} {Q : Exit → Act → World → Prop} {rest : List Oper} {d : Nat} {pos : String} {after : Array Edge} {w : World} {x0 x1 x2 x3 x4 x5 : Operand} {c0_0 c0_1 c0_2 c0_3 c0_4 c0_5 c0_6 c0_7 c0_8 c1_0 c1_1 c1_2 c1_3 c1_4 c1_5 c1_6 c1_7 c1_8 c2_0 c2_1 c2_2 c2_3 c2_4 c2_5 c2_6 c2_7 c2_8 c3_0 c3_1 c3_2 c3_3 c3_4 c3_5 c3_6 c3_7 c3_8 c4_0 c4_1 c4_2 c4_3 c4_4 c4_5 c4_6 c4_7 c4_8 c5_0 c5_1 c5_2 c5_3 c5_4 c5_5 c5_6 c5_7 c5_8 : Value} (h0 : (ev l x0).cells = #[c0_0,c0_1,c0_2,c0_3,c0_4,c0_5,c0_6,c0_7,c0_8]) (h1 : (ev l x1).cells = #[c1_0,c1_1,c1_2,c1_3,c1_4,c1_5,c1_6,c1_7,c1_8]) (h2 : (ev l x2).cells = #[c2_0,c2_1,c2_2,c2_3,c2_4,c2_5,c2_6,c2_7,c2_8]) (h3 : (ev l x3).cells = #[c3_0,c3_1,c3_2,c3_3,c3_4,c3_5,c3_6,c3_7,c3_8]) (h4 : (ev l x4).cells = #[c4_0,c4_1,c4_2,c4_3,c4_4,c4_5,c4_6,c4_7,c4_8]) (h5 : (ev l x5).cells = #[c5_0,c5_1,c5_2,c5_3,c5_4,c5_5,c5_6,c5_7,c5_8]) (h : ∀ w' g,cZ w w' → w.heap.size ≤ g → fQ w' g [c0_0,c0_1,c0_2,c0_3,c0_4,c0_5,c0_6,c0_7,c0_8,c1_0,c1_1,c1_2,c1_3,c1_4,c1_5,c1_6,c1_7,c1_8,c2_0,c2_1,c2_2,c2_3,c2_4,c2_5,c2_6,c2_7,c2_8,c3_0,c3_1,c3_2,c3_3,c3_4,c3_5,c3_6,c3_7,c3_8,c4_0,c4_1,c4_2,c4_3,c4_4,c4_5,c4_6,c4_7,c4_8,c5_0,c5_1,c5_2,c5_3,c5_4,c5_5,c5_6,c5_7,c5_8] 53 → wpList prog ops Q rest (Fr (l.set d (.slice (some ⟨g,0,none⟩) 6 6)) ds) w') : wpList prog ops Q (Oper.mk (some d) (.buildSlice 29 6 #[(0,x0),(1,x1),(2,x2),(3,x3),(4,x4),(5,x5)]) ty pos after none :: rest) (Fr l ds) w :=
 jW (vs:=#[(0,ev l x0),(1,ev l x1),(2,ev l x2),(3,ev l x3),(4,ev l x4),(5,ev l x5)]) (base:=#[.int .i64 0,.int .i64 0,.int .i64 0,.int .i64 0,.int .i64 0,.int .i64 0,.int .i64 0,.int .i64 0,.int .i64 0,.int .i64 0,.int .i64 0,.int .i64 0,.int .i64 0,.int .i64 0,.int .i64 0,.int .i64 0,.int .i64 0,.int .i64 0,.int .i64 0,.int .i64 0,.int .i64 0,.int .i64 0,.int .i64 0,.int .i64 0,.int .i64 0,.int .i64 0,.int .i64 0,.int .i64 0,.int .i64 0,.int .i64 0,.int .i64 0,.int .i64 0,.int .i64 0,.int .i64 0,.int .i64 0,.int .i64 0,.int .i64 0,.int .i64 0,.int .i64 0,.int .i64 0,.int .i64 0,.int .i64 0,.int .i64 0,.int .i64 0,.int .i64 0,.int .i64 0,.int .i64 0,.int .i64 0,.int .i64 0,.int .i64 0,.int .i64 0,.int .i64 0,.int .i64 0,.int .i64 0]) (c:=9) (z:=(.agg #[.int .i64 0,.int .i64 0,.int .i64 0,.int .i64 0,.int .i64 0,.int .i64 0,.int .i64 0,.int .i64 0,.int .i64 0])) cC (by kernel_rfl) (by decide) (by decide) (by kernel_rfl) (by simp) (by simp [Instr.fill,h0,h1,h2,h3,h4,h5]) h
theorem qI {ds : List Deferred} {l : List Value} {ty : TypeId} {ops : Array Oper} {Q : Exit → Act → World → Prop} {rest : List Oper} {d : Nat} {pos : String} {after : Array Edge} {w : World} {x0 : Operand} {c0_0 c0_1 c0_2 c0_3 c0_4 c0_5 : Value} (h0 : (ev l x0).cells = #[c0_0,c0_1,c0_2,c0_3,c0_4,c0_5]) (h : ∀ w' g,cZ w w' → w.heap.size ≤ g → fQ w' g [c0_0,c0_1,c0_2,c0_3,c0_4,c0_5] 50 → wpList prog ops Q rest (Fr (l.set d (.slice (some ⟨g,0,none⟩) 1 1)) ds) w') : wpList prog ops Q (Oper.mk (some d) (.buildSlice 30 1 #[(0,x0)]) ty pos after none :: rest) (Fr l ds) w :=
 jW (vs:=#[(0,ev l x0)]) (base:=#[.int .i64 0,.int .i64 0,.int .i64 0,.int .i64 0,.int .i64 0,.int .i64 0]) (c:=6) (z:=(.agg #[.int .i64 0,.int .i64 0,.int .i64 0,.int .i64 0,.int .i64 0,.int .i64 0])) oX (by kernel_rfl) (by decide) (by decide) (by kernel_rfl) (by simp) (by simp [Instr.fill,h0]) h
theorem xS {ds : List Deferred} {l : List Value} {ty : TypeId} {ops : Array Oper} {Q : Exit → Act → World → Prop} {rest : List Oper} {d : Nat} {pos : String} {after : Array Edge} {w : World} {x0 : Operand} {c0_0 c0_1 c0_2 c0_3 c0_4 c0_5 : Value} (h0 : (ev l x0).cells = #[c0_0,c0_1,c0_2,c0_3,c0_4,c0_5]) (h : ∀ w' g,cZ w w' → w.heap.size ≤ g → fQ w' g [c0_0,c0_1,c0_2,c0_3,c0_4,c0_5] 57 → wpList prog ops Q rest (Fr (l.set d (.slice (some ⟨g,0,none⟩) 1 1)) ds) w') : wpList prog ops Q (Oper.mk (some d) (.buildSlice 41 1 #[(0,x0)]) ty pos after none :: rest) (Fr l ds) w :=
 jW (vs:=#[(0,ev l x0)]) (base:=#[.int .i64 0,.int .i64 0,.int .i64 0,.int .i64 0,.int .i64 0,.int .i64 0]) (c:=6) (z:=(.agg #[.int .i64 0,.int .i64 0,.int .i64 0,.int .i64 0,.int .i64 0,.int .i64 0])) gB (by kernel_rfl) (by decide) (by decide) (by kernel_rfl) (by simp) (by simp [Instr.fill,h0]) h
theorem Rq {ds : List Deferred} {l : List Value} {ty : TypeId} {ops : Array Oper} {Q : Exit → Act → World → Prop} {rest : List Oper} {d : Nat} {pos : String} {after : Array Edge} {w : World} {x0 x1 x2 : Operand} {c0_0 c0_1 c0_2 c0_3 c0_4 c0_5 c1_0 c1_1 c1_2 c1_3 c1_4 c1_5 c2_0 c2_1 c2_2 c2_3 c2_4 c2_5 : Value} (h0 : (ev l x0).cells = #[c0_0,c0_1,c0_2,c0_3,c0_4,c0_5]) (h1 : (ev l x1).cells = #[c1_0,c1_1,c1_2,c1_3,c1_4,c1_5]) (h2 : (ev l x2).cells = #[c2_0,c2_1,c2_2,c2_3,c2_4,c2_5]) (h : ∀ w' g,cZ w w' → w.heap.size ≤ g → fQ w' g [c0_0,c0_1,c0_2,c0_3,c0_4,c0_5,c1_0,c1_1,c1_2,c1_3,c1_4,c1_5,c2_0,c2_1,c2_2,c2_3,c2_4,c2_5] 57 → wpList prog ops Q rest (Fr (l.set d (.slice (some ⟨g,0,none⟩) 3 3)) ds) w') : wpList prog ops Q (Oper.mk (some d) (.buildSlice 41 3 #[(0,x0),(1,x1),(2,x2)]) ty pos after none :: rest) (Fr l ds) w :=
 jW (vs:=#[(0,ev l x0),(1,ev l x1),(2,ev l x2)]) (base:=#[.int .i64 0,.int .i64 0,.int .i64 0,.int .i64 0,.int .i64 0,.int .i64 0,.int .i64 0,.int .i64 0,.int .i64 0,.int .i64 0,.int .i64 0,.int .i64 0,.int .i64 0,.int .i64 0,.int .i64 0,.int .i64 0,.int .i64 0,.int .i64 0]) (c:=6) (z:=(.agg #[.int .i64 0,.int .i64 0,.int .i64 0,.int .i64 0,.int .i64 0,.int .i64 0])) gB (by kernel_rfl) (by decide) (by decide) (by kernel_rfl) (by simp) (by simp [Instr.fill,h0,h1,h2]) h
theorem Rr {ds : List Deferred} {l : List Value} {ty : TypeId} {ops : Array Oper} {Q : Exit → Act → World → Prop} {rest : List Oper} {d : Nat} {pos : String} {after : Array Edge} {w : World} {x0 x1 x2 x3 x4 : Operand} {c0_0 c1_0 c2_0 c3_0 c4_0 : Value} (h0 : (ev l x0).cells = #[c0_0]) (h1 : (ev l x1).cells = #[c1_0]) (h2 : (ev l x2).cells = #[c2_0]) (h3 : (ev l x3).cells = #[c3_0]) (h4 : (ev l x4).cells = #[c4_0]) (h : ∀ w' g,cZ w w' → w.heap.size ≤ g → fQ w' g [c0_0,c1_0,c2_0,c3_0,c4_0] 76 → wpList prog ops Q rest (Fr (l.set d (.slice (some ⟨g,0,none⟩) 5 5)) ds) w') : wpList prog ops Q (Oper.mk (some d) (.buildSlice 77 5 #[(0,x0),(1,x1),(2,x2),(3,x3),(4,x4)]) ty pos after none :: rest) (Fr l ds) w :=
 jW (vs:=#[(0,ev l x0),(1,ev l x1),(2,ev l x2),(3,ev l x3),(4,ev l x4)]) (base:=#[.nilFunc,.nilFunc,.nilFunc,.nilFunc,.nilFunc]) (c:=1) (z:=(.agg #[.nilFunc])) By (by kernel_rfl) (by decide) (by decide) (by kernel_rfl) (by simp) (by simp [Instr.fill,h0,h1,h2,h3,h4]) h
theorem Rs {ds : List Deferred} {l : List Value} {ty : TypeId} {ops : Array Oper} {Q : Exit → Act → World → Prop} {rest : List Oper} {d : Nat} {pos : String} {after : Array Edge} {w : World} {x0 : Operand} {c0_0 c0_1 c0_2 : Value} (h0 : (ev l x0).cells = #[c0_0,c0_1,c0_2]) (h : ∀ w' g,cZ w w' → w.heap.size ≤ g → fQ w' g [c0_0,c0_1,c0_2] 48 → wpList prog ops Q rest (Fr (l.set d (.slice (some ⟨g,0,none⟩) 1 1)) ds) w') : wpList prog ops Q (Oper.mk (some d) (.buildSlice 98 1 #[(0,x0)]) ty pos after none :: rest) (Fr l ds) w :=
 jW (vs:=#[(0,ev l x0)]) (base:=#[.int .i64 0,.int .i64 0,.int .i64 0]) (c:=3) (z:=(.agg #[.int .i64 0,.int .i64 0,.int .i64 0])) underlying98 (by kernel_rfl) (by decide) (by decide) (by kernel_rfl) (by simp) (by simp [Instr.fill,h0]) h
theorem Ce {ds : List Deferred} {l : List Value} {ty : TypeId} {ops : Array Oper} {Q : Exit → Act → World → Prop} {rest : List Oper} {d : Nat} {pos : String} {after : Array Edge} {w : World} {x0 x1 x2 : Operand} {c0_0 c0_1 c1_0 c1_1 c2_0 c2_1 : Value} (h0 : (ev l x0).cells = #[c0_0,c0_1]) (h1 : (ev l x1).cells = #[c1_0,c1_1]) (h2 : (ev l x2).cells = #[c2_0,c2_1]) (h : ∀ w' g,cZ w w' → w.heap.size ≤ g → fQ w' g [c0_0,c0_1,c1_0,c1_1,c2_0,c2_1] 65 → wpList prog ops Q rest (Fr (l.set d (.slice (some ⟨g,0,none⟩) 3 3)) ds) w') : wpList prog ops Q (Oper.mk (some d) (.buildSlice 129 3 #[(0,x0),(1,x1),(2,x2)]) ty pos after none :: rest) (Fr l ds) w :=
 jW (vs:=#[(0,ev l x0),(1,ev l x1),(2,ev l x2)]) (base:=#[.bool false,.string ⟨#[]⟩,.bool false,.string ⟨#[]⟩,.bool false,.string ⟨#[]⟩]) (c:=2) (z:=(.agg #[.bool false,.string ⟨#[]⟩])) rI (by kernel_rfl) (by decide) (by decide) (by kernel_rfl) (by simp) (by simp [Instr.fill,h0,h1,h2]) h
theorem Na {ds : List Deferred} {l : List Value} {ty : TypeId} {ops : Array Oper} {Q : Exit → Act → World → Prop} {rest : List Oper} {d : Nat} {pos : String} {after : Array Edge} {w : World} {x0 : Operand} {c0_0 c0_1 c0_2 c0_3 c0_4 c0_5 : Value} (h0 : (ev l x0).cells = #[c0_0,c0_1,c0_2,c0_3,c0_4,c0_5]) (h : ∀ w' g,cZ w w' → w.heap.size ≤ g → fQ w' g [c0_0,c0_1,c0_2,c0_3,c0_4,c0_5] 143 → wpList prog ops Q rest (Fr (l.set d (.slice (some ⟨g,0,none⟩) 1 1)) ds) w') : wpList prog ops Q (Oper.mk (some d) (.buildSlice 139 1 #[(0,x0)]) ty pos after none :: rest) (Fr l ds) w :=
 jW (vs:=#[(0,ev l x0)]) (base:=#[.int .i64 0,.int .i64 0,.int .i64 0,.int .i64 0,.int .i64 0,.int .i64 0]) (c:=6) (z:=(.agg #[.int .i64 0,.int .i64 0,.int .i64 0,.int .i64 0,.int .i64 0,.int .i64 0])) underlying139 (by kernel_rfl) (by decide) (by decide) (by kernel_rfl) (by simp) (by simp [Instr.fill,h0]) h
end Go.Proofs.YtfohfflkhpfjeaaGreatDoor
namespace Go.Lith
open Go.RowKit
def jN (w : World) (g : Nat) (es : Array MapEntry) (c : Nat) : Prop:=w.heap[g]? = some (.map es c)
def yO (w : World) (r g s : Nat) (seen : Array Nat) (c : Nat) : Prop:=w.heap[r]? = some (.mapIter (some g) s seen c)
theorem jN.ext {w w' : World} {g c : Nat} {es : Array MapEntry} (h : jN w g es c) (hE : cZ w w') : jN w' g es c:=hE.block h
theorem jN.lt {w : World} {g c : Nat} {es : Array MapEntry} (h : jN w g es c) : g < w.heap.size:=(Array.getElem?_eq_some_iff.1 h).1
theorem yO.lt {w : World} {r g s c : Nat} {seen : Array Nat} (h : yO w r g s seen c) : r < w.heap.size:=(Array.getElem?_eq_some_iff.1 h).1
section
variable {P : Program} {ds : List Deferred} {l : List Value} {x : Operand} {T ty : TypeId} {ops : Array Oper} {Q : Exit → Act → World → Prop} {rest : List Oper} {d : Nat} {pos : String} {after : Array Edge} {w : World}
theorem Rt (h : ∀ w' g,cZ w w' → w.heap.size ≤ g → jN w' g #[] 0 → wpList P ops Q rest (Fr (l.set d (.map (some g))) ds) w') : wpList P ops Q (Oper.mk (some d) (.makeMap T none) ty pos after none :: rest) (Fr l ds) w :=
 jU (w':=w.alloc (.map #[] 0)) (v:=.map (some w.heap.size)) (fun o ho _=>by simp [execOp,ho,Instr.makeMap,newObj,Sem.run]) (h _ _ ((cZ.refl w).alloc _) (Nat.le_refl _) (heap_alloc_new w _))
theorem Zs {k e : TypeId} {g c : Nat} {es : Array MapEntry} (hu : P.underlying T = some (.map k e)) (hx : ev l x = .map (some g)) (hM : jN w g es c) (h : ∀ w' r,cZ w w' → w.heap.size ≤ r → yO w' r g c #[] c → wpList P ops Q rest (Fr (l.set d (.pointer (some ⟨r,0,none⟩))) ds) w') :
 wpList P ops Q (Oper.mk (some d) (.range T x) ty pos after none :: rest) (Fr l ds) w :=
 jU (w':=w.alloc (.mapIter (some g) c #[] c)) (v:=.pointer (some ⟨w.heap.size,0,none⟩)) (fun o ho _=>by
  unfold jN at hM;simp [execOp,ho,cR,hx,Instr.range,run_underlying hu,getObj,hM,newObj,Sem.run]) (h _ _ ((cZ.refl w).alloc _) (Nat.le_refl _) (heap_alloc_new w _))
end
end Go.Lith
namespace Go.Lith
open Go.RowKit Go.ChangeMaps Go.MapKept
/-! ### Lists of pairs -/
section
variable {K V : Type} [DecidableEq K]
def fT : List (K × V) → K → V → List (K × V)
 | [],k,v=>[(k,v)]
 | x :: D,k,v=>if x.1 = k then (k,v) :: D else x :: fT D k v
def cP : List (K × V) → K → Option V
 | [],_=>none
 | x :: D,k=>if x.1 = k then some x.2 else cP D k
def oH : List (K × V) → K → List (K × V)
 | [],_=>[]
 | x :: D,k=>if x.1 = k then D else x :: oH D k
def lZ : List (K × V) → K → Nat → Option (Nat × V)
 | [],_,_=>none
 | x :: D,k,i=>if x.1 = k then some (i,x.2) else lZ D k (i + 1)
theorem mH : ∀ (D : List (K × V)) (k : K) (i : Nat),lZ D k i = none → cP D k = none ∧ (∀ u,fT D k u = D ++ [(k,u)]) ∧ oH D k = D
 | [],_,_,_=>⟨rfl,fun _=>rfl,rfl⟩
 | x :: D,k,i,h=>by
  unfold lZ at h;by_cases e : x.1 = k
  · rw [if_pos e] at h;cases h
  · rw [if_neg e] at h
    obtain ⟨h1,h2,h3⟩:=mH D k (i + 1) h;exact ⟨by simp [cP,e,h1],fun u=>by simp [fT,e,h2],by simp [oH,e,h3]⟩
theorem mJ : ∀ (D : List (K × V)) (k : K) (i j : Nat) (v : V),lZ D k i = some (j,v) → ∃ p,j = i + p ∧ D[p]? = some (k,v) ∧ cP D k = some v ∧ (∀ u,fT D k u = D.set p (k,u)) ∧ oH D k = D.eraseIdx p
 | [],_,_,_,_,h=>by cases h
 | x :: D,k,i,j,v,h=>by
  unfold lZ at h;by_cases e : x.1 = k
  · rw [if_pos e] at h
    cases h;obtain ⟨a,b⟩:=x;obtain rfl : a = k:=e;exact ⟨0,rfl,rfl,by simp [cP],fun u=>by simp [fT],by simp [oH]⟩
  · rw [if_neg e] at h
    obtain ⟨p,h1,h2,h3,h4,h5⟩:=mJ D k (i + 1) j v h;exact ⟨p + 1,by omega,by simpa using h2,by simp [cP,e,h3],fun u=>by simp [fT,e,h4],by simp [oH,e,h5]⟩
theorem lH : ∀ (D : List (K × V)) (k k' : K) (v : V),cP (fT D k v) k' = if k = k' then some v else cP D k'
 | [],k,k',v=>by simp [fT,cP]
 | x :: D,k,k',v=>by
  unfold fT;by_cases e : x.1 = k
  · rw [if_pos e]
    subst e;by_cases e' : x.1 = k' <;> simp [cP,e']
  · rw [if_neg e]
    unfold cP;rw [lH D k k' v];by_cases e' : x.1 = k'
    · rw [if_pos e',if_pos e',if_neg (fun h=>e (e'.trans h.symm))]
    · rw [if_neg e',if_neg e']
theorem wR : ∀ {D : List (K × V)} {k : K} {v : V},cP D k = some v → (k,v) ∈ D
 | [],_,_,h=>by cases h
 | x :: D,k,v,h=>by
  unfold cP at h;split at h
  · rename_i e;cases h;subst e;exact List.mem_cons_self ..
  · exact List.mem_cons_of_mem _ (wR h)
theorem qJ : ∀ {D : List (K × V)} {k : K},cP D k = none ↔ k ∉ D.map (·.1)
 | [],_=>by simp [cP]
 | x :: D,k=>by
  unfold cP;split
  · rename_i e;simp [e]
  · rename_i e
    rw [qJ (D:=D)];simp only[List.map_cons,List.mem_cons,not_or];exact ⟨fun h=>⟨fun h'=>e h'.symm,h⟩,fun h=>h.2⟩
theorem lI : ∀ {D : List (K × V)} {k : K} {v : V},(D.map (·.1)).Nodup → (k,v) ∈ D → cP D k = some v
 | [],_,_,_,h=>by cases h
 | x :: D,k,v,hn,h=>by
  have hn':=List.nodup_cons.1 hn;unfold cP;rcases List.mem_cons.1 h with rfl | h
  · simp
  · rw [if_neg fun e=>hn'.1 (by show x.1 ∈ _;rw [e];exact List.mem_map.2 ⟨_,h,rfl⟩)]
    exact lI hn'.2 h
theorem xT : ∀ (D : List (K × V)) (k : K) (v : V),(fT D k v).map (·.1) = if k ∈ D.map (·.1) then D.map (·.1) else D.map (·.1) ++ [k]
 | [],k,v=>by simp [fT]
 | x :: D,k,v=>by
  unfold fT;by_cases e : x.1 = k
  · simp [e]
  · have e' : ¬ k = x.1:=fun h=>e h.symm
    simp only[if_neg e,List.map_cons,xT D k v,List.mem_cons,e',false_or];split <;> simp
theorem vM {D : List (K × V)} (h : (D.map (·.1)).Nodup) (k : K) (v : V) : ((fT D k v).map (·.1)).Nodup:=by
 rw [xT];split
 · exact h
 · rename_i hk
   exact List.nodup_append.2 ⟨h,by simp,fun a ha b hb e=>by rw [List.mem_singleton.1 hb] at e;exact hk (e ▸ ha)⟩
theorem Fq : ∀ {D : List (K × V)} (k k' : K),(D.map (·.1)).Nodup → cP (oH D k) k' = if k = k' then none else cP D k'
 | [],k,k',_=>by simp [oH,cP]
 | x :: D,k,k',hn=>by
  have hn':=List.nodup_cons.1 hn;unfold oH;by_cases e : x.1 = k
  · rw [if_pos e]
    by_cases e' : k = k'
    · rw [if_pos e']
      exact qJ.2 (by rw [← e',← e];exact hn'.1)
    · rw [if_neg e']
      simp [cP,e,e']
  · rw [if_neg e]
    unfold cP;rw [Fq k k' hn'.2];by_cases e' : x.1 = k'
    · rw [if_pos e',if_pos e',if_neg (fun h=>e (e'.trans h.symm))]
    · rw [if_neg e',if_neg e']
theorem Jz : ∀ (D : List (K × V)) (k : K),(oH D k).Sublist D
 | [],_=>List.Sublist.refl _
 | x :: D,k=>by
  unfold oH;split
  · exact List.sublist_cons_self _ _
  · exact (Jz D k).cons_cons x
theorem Nb {D : List (K × V)} (h : (D.map (·.1)).Nodup) (k : K) : ((oH D k).map (·.1)).Nodup:=h.sublist ((Jz D k).map _)
end
/-! ### A map's entries -/
def Ru (e : MapEntry) : Value × Value:=(e.key,e.val)
structure bZ {K V : Type} (ek : K → Value) (ev : V → Value) (D : List (K × V)) (es : Array MapEntry) (c : Nat) : Prop where
 cells : es.toList.map Ru = D.map fun x=>(ek x.1,ev x.2)
 born : ∀ e ∈ es.toList,e.born < c
 nd : (es.toList.map (·.born)).Nodup
theorem bZ.nil {K V : Type} (ek : K → Value) (ev : V → Value) : bZ ek ev ([] : List (K × V)) #[] 0:=⟨rfl,fun _ h=>by simp at h,by simp⟩
theorem bZ.len {K V : Type} {ek : K → Value} {ev : V → Value} {D : List (K × V)} {es : Array MapEntry} {c : Nat} (h : bZ ek ev D es c) : es.size = D.length:=by
 have:=congrArg List.length h.cells;simpa using this
structure pJ {K : Type} [DecidableEq K] (P : Program) (T : TypeId) (ek : K → Value) : Prop where
 chk : ∀ e k w,(Instr.checkKey e 10000 T (ek k)).run P w = .ok () w
 now : ∃ t,P.underlying T = some t ∧ ∀ a b,Instr.sameNow t (ek a) (ek b) = none ∨ Instr.sameNow t (ek a) (ek b) = some (decide (a = b))
 eq : ∀ a b w,(Op.equal T (ek a) (ek b)).run P w = .ok (decide (a = b)) w
 bits : ∀ a,Instr.sameBits 10000 (ek a) (ek a) = true
section
variable {K V : Type} [DecidableEq K] {P : Program} {T : TypeId} {ek : K → Value} {ev : V → Value}
theorem yP (kt : pJ P T ek) (k : K) (w : World) : ∀ (L : List MapEntry) (D : List (K × V)) (i : Nat),L.map Ru = D.map (fun x=>(ek x.1,ev x.2)) →
 (Instr.findAsking T (ek k) L i).run P w = .ok ((lZ D k i).map fun p=>(p.1,ev p.2)) w
 | [],D,i,h=>by
  obtain rfl : D = []:=by simpa using h.symm
  simp [Instr.findAsking,lZ]
 | e :: L,[],i,h=>by simp at h
 | e :: L,x :: D,i,h=>by
  simp only[List.map_cons,List.cons.injEq,Ru,Prod.mk.injEq] at h;obtain ⟨⟨h1,h2⟩,h3⟩:=h;have ih:=yP kt k w L D (i + 1) h3;unfold Instr.findAsking lZ;rw [h1,h2];simp only[Sem.run_bind,kt.eq,Result.andThen];by_cases e' : x.1 = k
  · rw [if_pos (decide_eq_true e'.symm),if_pos e']
    rfl
  · rw [if_neg (by rw [decide_eq_false (Ne.symm e')];exact Bool.false_ne_true),if_neg e']
    exact ih
theorem Ka (t : TypeDesc) (k : K) (hn : ∀ a b : K,Instr.sameNow t (ek a) (ek b) = none ∨ Instr.sameNow t (ek a) (ek b) = some (decide (a = b))) : ∀ (L : List MapEntry) (D : List (K × V)) (i : Nat),L.map Ru = D.map (fun x=>(ek x.1,ev x.2)) →
 Instr.findNow t (ek k) L i = none ∨ Instr.findNow t (ek k) L i = some ((lZ D k i).map fun p=>(p.1,ev p.2))
 | [],D,i,h=>by
  obtain rfl : D = []:=by simpa using h.symm
  simp [Instr.findNow,lZ]
 | e :: L,[],i,h=>by simp at h
 | e :: L,x :: D,i,h=>by
  simp only[List.map_cons,List.cons.injEq,Ru,Prod.mk.injEq] at h;obtain ⟨⟨h1,h2⟩,h3⟩:=h;have ih:=Ka t k hn L D (i + 1) h3;unfold Instr.findNow lZ;rw [h1,h2];rcases hn k x.1 with e0 | e0
  · left;rw [e0]
  · rw [e0]
    by_cases e' : x.1 = k
    · right;simp [e']
    · rw [show decide (k = x.1) = false from decide_eq_false (Ne.symm e')]
      simpa [e'] using ih
theorem oJ (kt : pJ P T ek) (k : K) (w : World) {es : Array MapEntry} {D : List (K × V)} {c : Nat} (h : bZ ek ev D es c) : (Instr.findKey T (ek k) es.toList).run P w = .ok ((lZ D k 0).map fun p=>(p.1,ev p.2)) w:=by
 obtain ⟨t,ht,hn⟩:=kt.now;unfold Instr.findKey;simp only[Sem.run_bind,run_underlying ht,Result.andThen];rcases Ka t k hn es.toList D 0 h.cells with e | e
 · rw [e]
   exact yP kt k w es.toList D 0 h.cells
 · rw [e]
   rfl
end
section
variable {K V : Type} [DecidableEq K] {P : Program} {T M E ty : TypeId} {ek : K → Value} {ev : V → Value} {w w0 : World} {g c : Nat} {es : Array MapEntry} {D : List (K × V)}
theorem yQ {v0 : V} (hu : P.underlying M = some (.map T E)) (kt : pJ P T ek) (hM : jN w g es c) (hD : bZ ek ev D es c) (hz : lL P E (ev v0)) (k : K) (b : Bool) :
 (Instr.lookup M (.map (some g)) (ek k) b).run P w = .ok (if b then .tuple #[ev ((cP D k).getD v0),.bool (cP D k).isSome] else ev ((cP D k).getD v0)) w:=by
 unfold jN at hM;obtain ⟨inf,hi,hz⟩:=hz;have hzv : (zeroValue E).run P w = .ok (ev v0) w:=by simp [zeroValue,typeInfo,program,Sem.run,hi,hz]
 simp only[Instr.lookup,Sem.run_bind,run_underlying hu,Result.andThen,getObj,Sem.run,hM,Sem.run_pure,kt.chk,oJ kt k w hD];cases hf : lZ D k 0 with
 | none =>
  obtain ⟨h1,_⟩:=mH D k 0 hf;rw [h1];simp only[Option.map_none,Sem.run_bind,hzv,Result.andThen,Sem.run_pure];cases b <;> rfl
 | some p =>
  obtain ⟨j,v⟩:=p;obtain ⟨_,_,_,h1,_⟩:=mJ D k 0 j v hf;rw [h1];simp only[Option.map_some,Sem.run_pure,Result.andThen];cases b <;> rfl
theorem kR {g : Nat} {o o' : Obj} (hM : w.heap[g]? = some o) : (setBlock w g o').heap[g]? = some o':=by
 have:=(Array.getElem?_eq_some_iff.1 hM).1;simp [setBlock,this]
theorem nR {g : Nat} (o : Obj) : Pu w (setBlock w g o) g:=⟨rfl,rfl,rfl,by simp [setBlock],fun k hk=>by simp [setBlock,Array.getElem?_setIfInBounds_ne (Ne.symm hk)]⟩
theorem Cf {α β : Type} (f : α → β) (L : List α) (i : Nat) (x : α) (g : α → α) (hi : L[i]? = some x) : (L.modify i g).map f = (L.map f).set i (f (g x)):=by
 apply List.ext_getElem?;intro j;simp only[List.getElem?_map,List.getElem?_modify,List.getElem?_set,List.length_map];by_cases e : i = j
 · subst e
   rw [hi];have:=(List.getElem?_eq_some_iff.1 hi).1;simp [this]
 · simp [e]
theorem bZ.set (hD : bZ ek ev D es c) {p : Nat} {k : K} {v : V} (hp : D[p]? = some (k,v)) (u : V) : bZ ek ev (D.set p (k,u)) (es.modify p fun e=>{ e with key:=ek k,val:=ev u }) c:=by
 have hl : es.toList.length = D.length:=by have:=congrArg List.length hD.cells;simpa using this
 have hlt : p < es.toList.length:=by rw [hl];exact (List.getElem?_eq_some_iff.1 hp).1
 have hx : es.toList[p]? = some es.toList[p]:=List.getElem?_eq_getElem hlt;have hb : (es.modify p fun e=>{ e with key:=ek k,val:=ev u }).toList.map (·.born) = es.toList.map (·.born):=by
  rw [Array.toList_modify,Cf _ _ _ _ _ hx];apply List.ext_getElem?;intro j;rw [List.getElem?_set];split
  · rename_i e;subst e;rw [if_pos (by simpa using hlt),List.getElem?_map,hx];rfl
  · rfl
 refine ⟨?_,fun e he=>?_,by rw [hb];exact hD.nd⟩
 · rw [Array.toList_modify,Cf _ _ _ _ _ hx,hD.cells,List.map_set]
   rfl
 · have : e.born ∈ (es.modify p fun e=>{ e with key:=ek k,val:=ev u }).toList.map (·.born):=List.mem_map.2 ⟨e,he,rfl⟩
   rw [hb] at this;obtain ⟨e',he',hh⟩:=List.mem_map.1 this;rw [← hh];exact hD.born e' he'
theorem bZ.push (hD : bZ ek ev D es c) (k : K) (u : V) : bZ ek ev (D ++ [(k,u)]) (es.push { key:=ek k,val:=ev u,born:=c }) (c + 1):=by
 refine ⟨by simp [hD.cells,Ru],fun e he=>?_,?_⟩
 · rw [Array.toList_push] at he
   rcases List.mem_append.1 he with he | he
   · exact Nat.lt_succ_of_lt (hD.born e he)
   · rw [List.mem_singleton.1 he];exact Nat.lt_succ_self _
 · rw [Array.toList_push,List.map_append]
   refine List.nodup_append.2 ⟨hD.nd,by simp,fun a ha b hb e=>?_⟩;obtain ⟨e',he',rfl⟩:=List.mem_map.1 ha;have : b = c:=by simpa using hb
   have:=hD.born e' he';omega
theorem bZ.erase (hD : bZ ek ev D es c) (p : Nat) : bZ ek ev (D.eraseIdx p) (es.eraseIdxIfInBounds p) c:=by
 have e : (es.eraseIdxIfInBounds p).toList = es.toList.eraseIdx p:=by
  by_cases h : p < es.size
  · simp [Array.eraseIdxIfInBounds,h]
  · simp only[Array.eraseIdxIfInBounds,h,dite_false]
    exact (List.eraseIdx_of_length_le (by simpa using Nat.le_of_not_lt h)).symm
 refine ⟨?_,fun x hx=>hD.born x ?_,?_⟩
 · rw [e,map_eraseIdx,hD.cells,map_eraseIdx]
 · rw [e] at hx;exact List.mem_of_mem_eraseIdx hx
 · rw [e];exact hD.nd.sublist ((List.eraseIdx_sublist _ _).map _)
theorem Kb (hu : P.underlying M = some (.map T E)) (kt : pJ P T ek) (hM : jN w g es c) (hD : bZ ek ev D es c) (k : K) (u : V) :
 ∃ es' c',(Instr.mapUpdate M (.map (some g)) (ek k) (ev u)).run P w = .ok () (setBlock w g (.map es' c')) ∧ bZ ek ev (fT D k u) es' c':=by
 unfold jN at hM;cases hf : lZ D k 0 with
 | none =>
  obtain ⟨_,h1,_⟩:=mH D k 0 hf;refine ⟨_,_,?_,h1 u ▸ hD.push k u⟩;simp only[Instr.mapUpdate,Sem.run_bind,run_underlying hu,Result.andThen,getObj,Sem.run,hM,Sem.run_pure,kt.chk,oJ kt k w hD,hf,Option.map_none];exact run_setObj_map _ hM
 | some p =>
  obtain ⟨j,v⟩:=p;obtain ⟨p,rfl,hp,_,h1,_⟩:=mJ D k 0 j v hf;rw [Nat.zero_add] at hf;have hl : es.toList.length = D.length:=by have:=congrArg List.length hD.cells;simpa using this
  have hlt : p < es.toList.length:=by rw [hl];exact (List.getElem?_eq_some_iff.1 hp).1
  have hk : ((es[p]?).map (·.key)).getD (ek k) = ek k:=by
   have h2:=congrArg (fun L=>L[p]?) hD.cells;simp only[List.getElem?_map,hp,Option.map_some] at h2;rw [Array.getElem?_toList] at h2;cases h3 : es[p]? with
   | none=>rfl
   | some x =>
    rw [h3] at h2;simp only[Option.map_some,Option.some.injEq,Ru,Prod.mk.injEq] at h2;simpa using h2.1
  refine ⟨_,_,?_,h1 u ▸ hD.set hp u⟩;simp only[Instr.mapUpdate,Sem.run_bind,run_underlying hu,Result.andThen,getObj,Sem.run,hM,Sem.run_pure,kt.chk,oJ kt k w hD,hf,Option.map_some,hk,Instr.keyThatStays,kt.bits,if_true];exact run_setObj_map _ hM
theorem Kc {T2 : TypeId} (hu : P.underlying M = some (.map T E)) (kt : pJ P T ek) (hM : jN w g es c) (hD : bZ ek ev D es c) (k : K) :
 ∃ es' c',(Builtin.delete_ #[M,T2] ty #[.map (some g),ek k]).run P w = .ok (.tuple #[]) (setBlock w g (.map es' c')) ∧ bZ ek ev (oH D k) es' c':=by
 unfold jN at hM;cases hf : lZ D k 0 with
 | none =>
  obtain ⟨_,_,h1⟩:=mH D k 0 hf;refine ⟨es,c,?_,by rw [h1];exact hD⟩;simp [Builtin.delete_,run_underlying hu,getObj,Sem.run,hM,kt.chk,oJ kt k w hD,hf,run_setObj_map _ hM,setBlock]
 | some p =>
  obtain ⟨j,v⟩:=p;obtain ⟨p,rfl,hp,_,_,h1⟩:=mJ D k 0 j v hf;rw [Nat.zero_add] at hf;refine ⟨_,c,?_,h1 ▸ hD.erase p⟩;simp [Builtin.delete_,run_underlying hu,getObj,Sem.run,hM,kt.chk,oJ kt k w hD,hf,run_setObj_map _ hM,setBlock]
/-! ### Ranges -/
def lB (ek : K → Value) (ev : V → Value) (D : List (K × V)) (es : Array MapEntry) (seen : Array Nat) (dn rs : List (K × V)) : Prop :=
 (dn ++ rs).Perm D ∧ ∃ dE rE : List MapEntry,seen.toList = dE.map (·.born) ∧ (dE ++ rE).Perm es.toList ∧ dE.map Ru = dn.map (fun x=>(ek x.1,ev x.2)) ∧ rE.map Ru = rs.map (fun x=>(ek x.1,ev x.2))
theorem lB.start (hD : bZ ek ev D es c) : lB ek ev D es #[] [] D:=⟨List.Perm.refl _,[],es.toList,rfl,List.Perm.refl _,rfl,hD.cells⟩
theorem lB.done {seen : Array Nat} {dn : List (K × V)} (h : lB ek ev D es seen dn []) : dn.Perm D:=by simpa using h.1
def Nxt (ek : K → Value) (ev : V → Value) (D : List (K × V)) (es : Array MapEntry) (dn rs : List (K × V)) (b : Bool) (kv vv : Value) (seen' : Array Nat) : Prop :=
 (b = false ∧ rs = []) ∨ (b = true ∧ ∃ k v rs',rs.Perm ((k,v) :: rs') ∧ kv = ek k ∧ vv = ev v ∧ lB ek ev D es seen' (dn ++ [(k,v)]) rs')
def Kd (b : Bool) (k v : Value) : Value:=.tuple (if b then #[.bool true,k,v] else #[.bool false])
theorem Rv {r s : Nat} {seen : Array Nat} {dn rs : List (K × V)} (hI : yO w r g c seen c) (hM : jN w g es c) (hD : bZ ek ev D es c) (hT : lB ek ev D es seen dn rs) :
 ∃ b kv vv seen' w1,(w1 = w ∨ w1 = w.drew) ∧ (Instr.next (.pointer (some ⟨r,0,none⟩)) false ty).run P w = .ok (Kd b kv vv) (setBlock w1 r (.mapIter (some g) c seen' c)) ∧ Nxt ek ev D es dn rs b kv vv seen':=by
 obtain ⟨hp,dE,rE,h1,h2,h3,h4⟩:=hT;have hnd : ((dE ++ rE).map (·.born)).Nodup:=(h2.map (·.born)).nodup_iff.2 hD.nd;rw [List.map_append,List.nodup_append] at hnd;have hleft : ∀ e,e ∈ (leftOf es seen).toList ↔ e ∈ rE:=fun e=>by
  unfold leftOf;simp only[Array.toList_filter,List.mem_filter,Bool.not_eq_true',Array.contains_eq_mem,decide_eq_false_iff_not];rw [← Array.mem_toList_iff (xs:=seen),h1,← h2.mem_iff,List.mem_append];constructor
  · rintro ⟨h | h,hn⟩
    · exact absurd (List.mem_map.2 ⟨e,h,rfl⟩) hn
    · exact h
  · intro h
    exact ⟨.inr h,fun hm=>hnd.2.2 _ hm _ (List.mem_map.2 ⟨e,h,rfl⟩) rfl⟩
 rcases run_next_at (P:=P) w ty r g c c seen es c hI hM hD.born (Nat.le_refl _) with ⟨h0,hr⟩ | ⟨e,he,w1,hw1,hr⟩
 · refine ⟨false,default,default,seen,w,.inl rfl,?_,.inl ⟨rfl,?_⟩⟩
   · rw [hr]
     have : setBlock w r (.mapIter (some g) c seen c) = w:=by
      unfold setBlock;have hlt:=(Array.getElem?_eq_some_iff.1 hI).1;have : w.heap.setIfInBounds r (.mapIter (some g) c seen c) = w.heap:=by
       apply Array.ext_getElem?;intro i;rw [Array.getElem?_setIfInBounds];split
       · rename_i e;subst e;exact hI.symm
       · rfl
      rw [this]
     rw [this];rfl
   · cases rs with
     | nil=>rfl
     | cons x rs =>
      cases rE with
      | nil=>simp at h4
      | cons e rE =>
       have:=(hleft e).2 (List.mem_cons_self ..);rw [Array.eq_empty_of_size_eq_zero h0] at this;simp at this
 · obtain ⟨s,t,rfl⟩:=List.append_of_mem ((hleft e).1 he)
   rw [List.map_append,List.map_cons] at h4;obtain ⟨rs1,rs2,rfl,e1,e2⟩:=List.map_eq_append_iff.1 h4.symm;obtain ⟨x,rs3,rfl,e3,e4⟩:=List.map_eq_cons_iff.1 e2;obtain ⟨k,v⟩:=x;simp only[Ru,Prod.mk.injEq] at e3;refine ⟨true,e.key,e.val,seen.push e.born,w1,hw1,hr,.inr ⟨rfl,k,v,rs1 ++ rs3,List.perm_middle,e3.1.symm,e3.2.symm,?_,dE ++ [e],s ++ t,?_,?_,?_,?_⟩⟩
   · refine List.Perm.trans ?_ hp
     simp only[List.append_assoc,List.cons_append,List.nil_append];exact List.Perm.append_left _ List.perm_middle.symm
   · simp [h1]
   · refine List.Perm.trans ?_ h2
     simp only[List.append_assoc,List.cons_append,List.nil_append];exact List.Perm.append_left _ List.perm_middle.symm
   · simp [h3,Ru,e3]
   · simp [e1,e4]
theorem Nc {r : Nat} {seen : Array Nat} {dn rs : List (K × V)} {k : K} {v : V} (hI : yO w r g c seen c) (hM : jN w g es c) (hD : bZ ek ev D es c) (hT : lB ek ev D es seen (dn ++ [(k,v)]) rs) :
 (Instr.entry (.pointer (some ⟨r,0,none⟩))).run P w = .ok (.tuple #[ek k,ev v]) w:=by
 obtain ⟨hp,dE,rE,h1,h2,h3,h4⟩:=hT;rw [List.map_append,List.map_cons,List.map_nil] at h3;obtain ⟨d1,d2,rfl,e1,e2⟩:=List.map_eq_append_iff.1 h3;obtain ⟨e,d3,rfl,e3,e4⟩:=List.map_eq_cons_iff.1 e2;obtain rfl : d3 = []:=by simpa using e4
 simp only[Ru,Prod.mk.injEq] at e3;have hs : seen = (d1.map (·.born)).toArray.push e.born:=by
  apply Array.toList_inj.1;rw [h1];simp
 have hm : e ∈ es.toList:=h2.mem_iff.1 (by simp);rw [hs] at hI;have:=run_entry_at (P:=P) w r g c _ es c e hI hM hm hD.nd;rw [this,e3.1,e3.2]
end
/-! ### Things in memory -/
def mI (g : Nat) (es : Array MapEntry) (c : Nat) : It where
 own b:=some g = some b
 P w:=jN w g es c
 lt w b h e:=by cases e;exact h.lt
 st w w' h _ k:=(k g rfl).trans h
def iI (r g c : Nat) (seen : Array Nat) : It where
 own b:=some r = some b
 P w:=yO w r g c seen c
 lt w b h e:=by cases e;exact h.lt
 st w w' h _ k:=(k r rfl).trans h
theorem bS.p {w0 w : World} {is : List It} (m : bS w0 w is) (k : Nat) {g c : Nat} {es : Array MapEntry} (hk : is[k]? = some (mI g es c)) : jN w g es c:=m.get k hk
theorem bS.r {w0 w : World} {is : List It} (m : bS w0 w is) (k : Nat) {r g c : Nat} {seen : Array Nat} (hk : is[k]? = some (iI r g c seen)) : yO w r g c seen c:=m.get k hk
section
variable {K V : Type} [DecidableEq K] {P : Program} {T M E ty : TypeId} {ek : K → Value} {ev : V → Value} {w w0 : World} {g c : Nat} {es : Array MapEntry} {D : List (K × V)} {is : List It}
variable {ds : List Deferred} {l : List Value} {x y z : Operand} {ops : Array Oper} {Q : Exit → Act → World → Prop} {rest : List Oper} {d : Nat} {pos : String} {after : Array Edge}
theorem jL (m : bS w0 w is) (h : ∀ g u,bS w0 u (mI g #[] 0 :: is) → wpList P ops Q rest (Fr (l.set d (.map (some g))) ds) u) : wpList P ops Q (Oper.mk (some d) (.makeMap M none) ty pos after none :: rest) (Fr l ds) w :=
 Rt fun u g e hg hM=>h g u (m.new (i:=mI g #[] 0) e hM fun b h=>by cases h;exact hg)
theorem vN (m : bS w0 w is) (hu : P.underlying M = some (.map T E)) (hx : Go.Lith.ev l x = .map (some g)) (hM : jN w g es c) (h : ∀ r u,bS w0 u (iI r g c #[] :: is) → wpList P ops Q rest (Fr (l.set d (.pointer (some ⟨r,0,none⟩))) ds) u) :
 wpList P ops Q (Oper.mk (some d) (.range M x) ty pos after none :: rest) (Fr l ds) w :=
 Zs hu hx hM fun u r e hr hI=>h r u (m.new (i:=iI r g c #[]) e hI fun b h=>by cases h;exact hr)
end
end Go.Lith
namespace Go.Lith
open Go.RowKit Go.ChangeMaps Go.MapKept
section
variable {K V : Type} [DecidableEq K] {P : Program} {T M E ty : TypeId} {ek : K → Value} {en : V → Value} {w w0 : World} {g c : Nat} {es : Array MapEntry} {D : List (K × V)} {is : List It}
variable {ds : List Deferred} {l : List Value} {x y z : Operand} {ops : Array Oper} {Q : Exit → Act → World → Prop} {rest : List Oper} {d : Nat} {pos : String} {after : Array Edge}
theorem eB {v0 : V} {k : K} (hu : P.underlying M = some (.map T E)) (hz : lL P E (en v0)) (kt : pJ P T ek) (hx : ev l x = .map (some g)) (hy : ev l y = ek k) (hM : jN w g es c) (hD : bZ ek en D es c) : uZ P l (.lookup M x y false) ty (en ((cP D k).getD v0)) w:=fun o ho _=>by
 have:=yQ hu kt hM hD hz k false;simp only[Bool.false_eq_true,if_false] at this;simp [execOp,ho,cR,hx,hy,this]
theorem qK {v0 : V} {k : K} (hu : P.underlying M = some (.map T E)) (hz : lL P E (en v0)) (kt : pJ P T ek) (hx : ev l x = .map (some g)) (hy : ev l y = ek k) (hM : jN w g es c) (hD : bZ ek en D es c) : uZ P l (.lookup M x y true) ty (.tuple #[en ((cP D k).getD v0),.bool (cP D k).isSome]) w:=fun o ho _=>by
 have:=yQ hu kt hM hD hz k true;simp only[if_true] at this;simp [execOp,ho,cR,hx,hy,this]
theorem Wa {a0 : Array TypeId} (ha : a0 = #[M]) (hu : P.underlying M = some (.map T E)) (hx : ev l x = .map (some g)) (hM : jN w g es c) (hD : bZ ek en D es c) : uZ P l (.call { callee:=.builtin .len,args:=#[x],argTypes:=a0 }) ty (.int .i64 D.length) w:=fun o ho _=>by
 subst ha;unfold jN at hM;simp [execOp,ho,resolve,invoke,builtin,Builtin.len_,cR,hx,run_underlying hu,getObj,Sem.run,hM,goInt,hD.len]
theorem eZ {v : V} {a : K} (m : bS w0 w is) (k : Nat) (hk : is[k]? = some (mI g es c)) (hu : P.underlying M = some (.map T E)) (kt : pJ P T ek) (hx : ev l x = .map (some g)) (hy : ev l y = ek a) (hz : ev l z = en v) (hD : bZ ek en D es c)
 (h : ∀ es' c' u,bS w0 u (is.set k (mI g es' c')) → bZ ek en (fT D a v) es' c' → wpList P ops Q rest (Fr l ds) u) : wpList P ops Q (Oper.mk none (.mapUpdate M x y z) ty pos after none :: rest) (Fr l ds) w:=by
 have hM:=m.p k hk;obtain ⟨es',c',hr,hD'⟩:=Kb hu kt hM hD a v;have hC:=nR (w:=w) (g:=g) (.map es' c');refine zX (w':=setBlock w g (.map es' c')) (fun o ho=>by simp [execOp,ho,cR,hx,hy,hz,hr]) (h es' c' _ ?_ hD');exact m.put k hk hC.os hC.tape hC.output (by rw [hC.size];exact Nat.le_refl _) (fun b _ hne=>hC.block b fun e=>hne (by rw [e];rfl)) (kR hM) (.inl fun _ h=>h)
theorem Cg {r : Nat} {seen : Array Nat} {dn rs : List (K × V)} (m : bS w0 w is) (k : Nat) (hk : is[k]? = some (iI r g c seen)) (hx : ev l x = .pointer (some ⟨r,0,none⟩)) (hM : jN w g es c) (hD : bZ ek en D es c) (hT : lB ek en D es seen dn rs)
 (h : ∀ b kv vv seen' u,bS w0 u (is.set k (iI r g c seen')) → Nxt ek en D es dn rs b kv vv seen' → wpList P ops Q rest (Fr (l.set d (Kd b kv vv)) ds) u) :
 wpList P ops Q (Oper.mk (some d) (.next x false) ty pos after none :: rest) (Fr l ds) w:=by
 have hI:=m.r k hk;obtain ⟨b,kv,vv,seen',w1,hw1,hr,hN⟩:=Rv (P:=P) (ty:=ty) (s:=0) hI hM hD hT;refine jU (w':=setBlock w1 r (.mapIter (some g) c seen' c)) (v:=Kd b kv vv) (fun o ho hty=>by simp [execOp,ho,cR,hx,hty,hr]) (h b kv vv seen' _ ?_ hN);have e1 : w1.heap = w.heap ∧ w1.os = w.os ∧ w1.tape = w.tape ∧ w1.output = w.output:=by rcases hw1 with rfl | rfl <;> exact ⟨rfl,rfl,rfl,rfl⟩
 refine m.put k hk e1.2.1 e1.2.2.1 e1.2.2.2 (by simp [setBlock,e1.1]) (fun b' _ hne=>?_) ?_ (.inl fun _ h=>h)
 · have : b' ≠ r:=fun e=>hne (by rw [e];rfl)
   simp only[setBlock,e1.1];exact Array.getElem?_setIfInBounds_ne (Ne.symm this)
 · exact kR (w:=w1) (o:=.mapIter (some g) c seen c) (by rw [e1.1];exact hI)
theorem rK {b : Bool} {kv vv : Value} (hx : ev l x = Kd b kv vv) : gH P l (.extract x 0) ty (.bool b):=fun w o ho _=>by
 cases b <;> simp [execOp,ho,cR,hx,Kd,Instr.extract]
theorem rL {r : Nat} {seen : Array Nat} {dn rs : List (K × V)} {k : K} {v : V} (hx : ev l x = .pointer (some ⟨r,0,none⟩)) (hI : yO w r g c seen c) (hM : jN w g es c) (hD : bZ ek en D es c) (hT : lB ek en D es seen (dn ++ [(k,v)]) rs) :
 uZ P l (.entry x) ty (.tuple #[ek k,en v]) w:=fun o ho _=>by
 have:=Nc (P:=P) hI hM hD hT;simp [execOp,ho,cR,hx,this]
theorem rM {f : FuncId} {fo : Operand} {xs : Array Operand} {args : List Value} {first cap : Array Value} {a0 : Array TypeId} {R : Value → It → Prop} (m : bS w0 w is) (k : Nat) (hE : bD P f) (hf : ev l fo = .func (.func f) first cap) (hxs : first.toList ++ xs.toList.map (ev l) ++ cap.toList = args)
 (hc : bS w0 w is → Calls P f args.toArray w fun e w'=>∃ v i,e = .returned v ∧ bS w0 w' (is.set k i) ∧ R v i) (h : ∀ v i u,bS w0 u (is.set k i) → R v i → wpList P ops Q rest (Fr (l.set d v) ds) u) :
 wpList P ops Q (Oper.mk (some d) (.call { callee:=.value fo,args:=xs,argTypes:=a0 }) ty pos after none :: rest) (Fr l ds) w:=by
 refine wpList_plain rfl fun K hK=>?_;unfold Oper.wp;rw [gD,kM hE hf hxs _ rfl];refine (hc m).mono ?_;rintro e w' ⟨v,i,rfl,hM,hR⟩;show K ((Fr l ds).put (some d) v) w'
 rw [iL];exact hK _ _ (h v i w' hM hR)
end
theorem fB {P : Program} {Q : Exit → Act → World → Prop} {l : List Value} {ds : List Deferred} {c1 c2 : Code} {w : World} {x : Operand} {b : Bool} (hx : ev l x = .bool b) (ht : b = true → c1.wp P Q (Fr l ds) w) (hf : b = false → c2.wp P Q (Fr l ds) w) : (Code.cond x c1 c2).wp P Q (Fr l ds) w:=sD hx ht hf
theorem Ke {α : Type} {is : List α} {k : Nat} {i : α} (h : is[k]? = some i) : is.set k i = is:=by
 apply List.ext_getElem?;intro j;rw [List.getElem?_set];split
 · rename_i e;subst e
   have:=(List.getElem?_eq_some_iff.1 h).1;rw [if_pos this,h]
 · rfl
theorem xU {K V : Type} [DecidableEq K] : ∀ {D : List (K × V)} {k : K} {v : V},cP D k = some v → fT D k v = D
 | [],_,_,h=>by cases h
 | x :: D,k,v,h=>by
  unfold cP at h;unfold fT;split at h
  · rename_i e;cases h;subst e;rw [if_pos rfl]
  · rename_i e;rw [if_neg e,xU h]
/-! ### Keys -/
def pQ (P : Program) (e : Bool) (d : Nat) (T : TypeId) (x : Value) : Prop:=∀ w,(Instr.checkKey e d T x).run P w = .ok () w
section
variable {P : Program} {e : Bool} {d : Nat} {T E : TypeId}
theorem nM {β : Type} {w : World} (g : β → PUnit → Sem (ForInStep PUnit)) : ∀ (L : List β),(∀ x ∈ L,(g x ⟨⟩).run P w = .ok (.yield ⟨⟩) w) → (forIn L PUnit.unit g : Sem PUnit).run P w = .ok ⟨⟩ w
 | [],_=>by simp
 | x :: L,h=>by
  simp only[List.forIn_cons,Sem.run_bind,h x (List.mem_cons_self ..),Result.andThen_ok];exact nM g L fun y hy=>h y (List.mem_cons_of_mem _ hy)
theorem pQ.int {k k' : IntKind} {n : Int} (hu : P.underlying T = some (.int k')) : pQ P e (d + 1) T (.int k n):=fun w=>by
 unfold Instr.checkKey;simp [run_underlying hu]
theorem pQ.struct {fs : Array Field} {cs : Array Value} (hu : P.underlying T = some (.struct fs)) (h : ∀ f ∈ fs.toList,∃ v,(∀ w,(part f.type cs f.offset).run P w = .ok v w) ∧ pQ P e d f.type v) : pQ P e (d + 1) T (.agg cs):=fun w=>by
 unfold Instr.checkKey;simp only[Sem.run_bind,run_underlying hu,Result.andThen_ok];rw [← Array.forIn_toList];refine (congrArg (fun r=>Result.andThen r _) (nM _ fs.toList fun f hf=>?_)).trans (by rfl);obtain ⟨v,h1,h2⟩:=h f hf;by_cases hn : f.name = "_"
 · simp [hn]
 · simp [hn,h1 w,h2 w]
theorem pQ.array {n c : Nat} {cs : Array Value} (hu : P.underlying T = some (.array n E)) (hc : dX P E c) (h : ∀ i,i < n → ∃ v,(∀ w,(part E cs (i * c)).run P w = .ok v w) ∧ pQ P e d E v) : pQ P e (d + 1) T (.agg cs):=fun w=>by
 unfold Instr.checkKey;simp only[Sem.run_bind,run_underlying hu,Result.andThen_ok];simp only[Std.Legacy.Range.forIn_eq_forIn_range',Std.Legacy.Range.size,Nat.sub_zero,Nat.add_one_sub_one,Nat.div_one];refine (congrArg (fun r=>Result.andThen r _) (nM _ (List.range' 0 n) fun i hi=>?_)).trans (by rfl);obtain ⟨v,h1,h2⟩:=h i (by simpa using hi);simp [fD hc,h1 w,h2 w]
theorem pJ.agg {K : Type} [DecidableEq K] {ek : K → Value} {cs : K → Array Value} (ha : ∀ k,ek k = .agg (cs k)) {t : TypeDesc} (ht : P.underlying T = some t) (hc : ∀ e k,pQ P e 10000 T (ek k)) (he : ∀ a b,rX P 10000 T (ek a) (ek b) (a = b)) (hb : ∀ a,Instr.sameBits 10000 (ek a) (ek a) = true) : pJ P T ek where
 chk e k w:=hc e k w
 now:=⟨t,ht,fun a b=>.inl (by rw [ha,ha];cases t <;> rfl)⟩
 eq a b w:=rC (he a b) w
 bits:=hb
end
end Go.Lith
namespace Go.Proofs.YtfohfflkhpfjeaaGreatDoor
open Go.Proofs.Tryz
open Go.RowKit Go.Lith
set_option maxRecDepth 100000
attribute [local irreducible] wpList wpQuiet dD cO cF Code.wp
theorem Ox {p q : P3} : jB prog 82 [pt p,pt q] (.bool (decide (p.Lt q))):=by
 intro w;refine ⟨adK,?_⟩;have m:=bS.refl w
 go_enter func82,ntmps82
 refine aC fun K1 k1=>wp_region_lit (fA m rfl ?_);clear m;intro g1 u m;simp only[zz];refine fA m rfl ?_;clear m;intro g2 u m;refine aA (aF) (aD (k1 _ _ ?_));refine aC fun K2 k2=>aC fun K3 k3=>wp_region_lit (aA (aJ (c:=0) cB rfl aT rfl rfl) ?_);simp only[zz];refine aI rfl ((m.b 1 rfl).lies1 bF rfl) ?_;simp only[zz];refine aA (aJ (c:=0) cB rfl aT rfl rfl) ?_;simp only[zz];refine aI rfl ((m.b 0 rfl).lies1 bF rfl) ?_;simp only[zz];refine aA (mV rfl rfl) (aD (k3 _ _ ?_));simp only[zz];refine cD rfl (fun hc1=>?_) (fun hc1=>?_)
 ·
  refine aC fun K4 k4=>wp_region_lit (aA (aJ (c:=0) cB rfl aT rfl rfl) ?_);simp only[zz];refine aI rfl ((m.b 1 rfl).lies1 bF rfl) ?_;simp only[zz];refine aA (aJ (c:=0) cB rfl aT rfl rfl) ?_;simp only[zz];refine aI rfl ((m.b 0 rfl).lies1 bF rfl) ?_;simp only[zz];refine aA (cS rfl rfl) (aA (aF) (aD (k4 _ _ ?_)));refine wp_ret ?_;simp only[zz];try simp only[Exit.inBlock,Exit.then,if_true]
  refine bP rfl rfl ?_;try simp only[zD,zE]
  exact ⟨_,rfl,m.ext,by simp only[P3.lt_x hc1]⟩
 ·
  have ex : p.x = q.x:=by omega
  refine wp_skip (k2 _ _ ?_);refine aC fun K5 k5=>aC fun K6 k6=>wp_region_lit (aA (aJ (c:=0) cB rfl aT rfl rfl) ?_);simp only[zz];refine aI rfl ((m.b 1 rfl).lies1 bF rfl) ?_;simp only[zz];refine aA (aJ (c:=0) cB rfl aT rfl rfl) ?_;simp only[zz];refine aI rfl ((m.b 0 rfl).lies1 bF rfl) ?_;simp only[zz];refine aA (mV rfl rfl) (aD (k6 _ _ ?_));simp only[zz];refine cD rfl (fun hc2=>?_) (fun hc2=>?_)
  ·
   refine aC fun K7 k7=>wp_region_lit (aA (aJ (c:=0) cB rfl aT rfl rfl) ?_);simp only[zz];refine aI rfl ((m.b 1 rfl).lies1 bF rfl) ?_;simp only[zz];refine aA (aJ (c:=0) cB rfl aT rfl rfl) ?_;simp only[zz];refine aI rfl ((m.b 0 rfl).lies1 bF rfl) ?_;simp only[zz];refine aA (cS rfl rfl) (aA (aF) (aD (k7 _ _ ?_)));refine wp_ret ?_;simp only[zz];try simp only[Exit.inBlock,Exit.then,if_true]
   refine bP rfl rfl ?_;try simp only[zD,zE]
   exact ⟨_,rfl,m.ext,by simp only[P3.lt_y ex hc2]⟩
  ·
   have ey : p.y = q.y:=by omega
   refine wp_skip (k5 _ _ ?_);refine aC fun K8 k8=>wp_region_lit (aA (aJ (c:=0) cB rfl aT rfl rfl) ?_);simp only[zz];refine aI rfl ((m.b 1 rfl).lies1 bF rfl) ?_;simp only[zz];refine aA (aJ (c:=0) cB rfl aT rfl rfl) ?_;simp only[zz];refine aI rfl ((m.b 0 rfl).lies1 bF rfl) ?_;simp only[zz];refine aA (cS rfl rfl) (aA (aF) (aD (k8 _ _ ?_)));refine wp_ret ?_;simp only[zz];try simp only[Exit.inBlock,Exit.then,if_true]
   refine bP rfl rfl ?_;try simp only[zD,zE]
   exact ⟨_,rfl,m.ext,by simp only[P3.lt_z ex ey]⟩
theorem Wb {a b : E3} : jB prog 38 [ed a,ed b] (.bool (Ot a b)):=by
 intro w;refine ⟨adb,?_⟩;have m:=bS.refl w
 go_enter func38,ntmps38
 refine aC fun K1 k1=>wp_region_lit (fA m rfl ?_);clear m;intro g1 u m;simp only[zz];refine fA m rfl ?_;clear m;intro g2 u m;refine aA (aF) (aD (k1 _ _ ?_));refine aC fun K2 k2=>aC fun K3 k3=>wp_region_lit (aA (aH jJ aG rfl rfl (by decide) (by decide) rfl) ?_);simp only[zz];refine aI rfl ((m.b 1 rfl).lies aK aG rfl rfl) ?_;simp only[zz,zy,Nat.zero_add,Nat.reduceAdd,Nat.reduceMul,Int.reduceToNat];refine aA (aH jJ aG rfl rfl (by decide) (by decide) rfl) ?_;simp only[zz];refine aI rfl ((m.b 0 rfl).lies aK aG rfl rfl) ?_;simp only[zz,zy,Nat.zero_add,Nat.reduceAdd,Nat.reduceMul,Int.reduceToNat];refine aA (iF rfl rfl) (aD (k3 _ _ ?_));simp only[zz];refine cD rfl (fun hc1=>?_) (fun hc1=>?_)
 ·
  refine aC fun K4 k4=>wp_region_lit (aA (aH jJ aG rfl rfl (by decide) (by decide) rfl) ?_);simp only[zz];refine aI rfl ((m.b 1 rfl).lies aK aG rfl rfl) ?_;simp only[zz,zy,Nat.zero_add,Nat.reduceAdd,Nat.reduceMul,Int.reduceToNat];refine aA (aH jJ aG rfl rfl (by decide) (by decide) rfl) ?_;simp only[zz];refine aI rfl ((m.b 0 rfl).lies aK aG rfl rfl) ?_;simp only[zz,zy,Nat.zero_add,Nat.reduceAdd,Nat.reduceMul,Int.reduceToNat];refine cW m rfl rfl (Ox (p:=a.1) (q:=b.1)) ?_;clear m;intro u m;refine aA (aF) (aD (k4 _ _ ?_));refine wp_ret ?_;simp only[zz];try simp only[Exit.inBlock,Exit.then,if_true]
  refine bP rfl rfl ?_;try simp only[zD,zE]
  exact ⟨_,rfl,m.ext,by rw [Ot,if_pos (fun h=>hc1 (by rw [h];exact ⟨rfl,rfl,rfl⟩))]⟩
 ·
  refine wp_skip (k2 _ _ ?_);refine aC fun K5 k5=>wp_region_lit (aA (aH jJ aG rfl rfl (by decide) (by decide) rfl) ?_);simp only[zz];refine aI rfl ((m.b 1 rfl).lies aK aG rfl rfl) ?_;simp only[zz,zy,Nat.zero_add,Nat.reduceAdd,Nat.reduceMul,Int.reduceToNat];refine aA (aH jJ aG rfl rfl (by decide) (by decide) rfl) ?_;simp only[zz];refine aI rfl ((m.b 0 rfl).lies aK aG rfl rfl) ?_;simp only[zz,zy,Nat.zero_add,Nat.reduceAdd,Nat.reduceMul,Int.reduceToNat];refine cW m rfl rfl (Ox (p:=a.2) (q:=b.2)) ?_;clear m;intro u m;refine aA (aF) (aD (k5 _ _ ?_));refine wp_ret ?_;simp only[zz];try simp only[Exit.inBlock,Exit.then,if_true]
  refine bP rfl rfl ?_;try simp only[zD,zE]
  exact ⟨_,rfl,m.ext,by rw [Ot,if_neg (fun h=>h (P3.eq (Classical.not_not.1 hc1).1 (Classical.not_not.1 hc1).2.1 (Classical.not_not.1 hc1).2.2))]⟩
theorem Zt {ts : List T3} {N cap : Nat} {A : Option Addr} (w : World) (hT : dZ w A N ts) (hN : N ≤ 1000000000) : eE prog 36 [.slice A N cap] w (SL 57 6 ((bH ts).flatMap bV) (bH ts).length w):=by
 refine ⟨ac9,?_⟩;have m:=bS.refl w
 go_enter func36,ntmps36
 refine aC fun K1 k1=>wp_region_lit (aA (aF) (aD (k1 _ _ ?_)));refine aC fun K2 k2=>wp_region_lit (aA (aF) ?_);replace m:=m.nilO 57 6;refine aD (k2 _ _ ?_);refine aC fun K3 k3=>aC fun K4 k4=>wp_region_lit (aA (aF) (aD (k4 _ _ ?_)));refine wp_block ?_;simp only[zz];try simp only[Nat.zero_add,Nat.reduceAdd,Nat.reduceMul,Int.reduceToNat]
 refine bN [3,4] [5,6,7,8,9,10,11,12,13,14,15,16,17,18,19,20,21,22,23,24,25,26,27,28,29,30,31,32,33] (fun n vs wl=>∃ (k : Nat) (A3 : Option Addr) (cap3 : Nat),vs = [.slice A3 (bH (ts.take k)).length cap3,.int .i64 (k:Int)] ∧ bS w wl [oI 57 6 A3 (bH (ts.take k)).length cap3 ((bH (ts.take k)).flatMap bV)] ∧ (k ≤ N) ∧ (n = N - k)) ?_ ?_
 ·
  apply Exists.intro;simp only[zQ,zR,zD,zE];exact ⟨0,_,_,rfl,m,Nat.zero_le _,rfl⟩
 ·
  intro n vs wr hI u;clear m;obtain ⟨k,A3,cap3,rfl,m,hk,hn⟩:=hI;simp only[zu,zF,zG];refine aC fun K5 k5=>aC fun K6 k6=>wp_region_lit (aA (aB) (aA (aB) (aA (bC rfl cC rfl) (aA (cS rfl rfl) ?_))));simp only[zz];refine aD (k6 _ _ ?_);refine cD rfl (fun hc1=>?_) (fun hc1=>?_)
  ·
   obtain ⟨t,ht,_,a,rfl,hrow⟩:=hT.get (i:=k) (by omega);refine wp_skip (k5 _ _ ?_);refine aC fun K7 k7=>wp_block (aC fun K8 k8=>wp_region_lit (aA (aB) (aA (aB) ?_)));simp only[zz];refine aA (aL cC aV rfl rfl (by omega) (by omega) (dP (Int.toNat_natCast _))) ?_;simp only[zz];refine aI rfl ((hrow.ext m.ext).lies eJ aV) ?_;simp only[zz];refine aY m iR rfl ?_;clear m;intro g1 u m;simp only[zz];refine aQ m 0 rfl rfl rfl aV (dH rfl) rfl ?_;clear m;intro u m;simp only[zy,zx,bB,zF,zG,Nat.reduceAdd] at m;refine aD (k8 _ _ ?_);refine wp_region_lit (aA (aB) (aA (aH bO aG rfl rfl (by decide) (by decide) rfl) ?_));simp only[zz];refine aI rfl ((m.b 0 rfl).lies aK aG rfl rfl) ?_;simp only[zz,zy,Nat.zero_add,Nat.reduceAdd,Nat.reduceMul,Int.reduceToNat];refine aA (aH bO aG rfl rfl (by decide) (by decide) rfl) ?_;simp only[zz];refine aI rfl ((m.b 0 rfl).lies aK aG rfl rfl) ?_;simp only[zz,zy,Nat.zero_add,Nat.reduceAdd,Nat.reduceMul,Int.reduceToNat];refine aA (cA rfl rfl) (aA (aH bO aG rfl rfl (by decide) (by decide) rfl) ?_);simp only[zz];refine aI rfl ((m.b 0 rfl).lies aK aG rfl rfl) ?_;simp only[zz,zy,Nat.zero_add,Nat.reduceAdd,Nat.reduceMul,Int.reduceToNat];refine aA (aH bO aG rfl rfl (by decide) (by decide) rfl) ?_;simp only[zz];refine aI rfl ((m.b 0 rfl).lies aK aG rfl rfl) ?_;simp only[zz,zy,Nat.zero_add,Nat.reduceAdd,Nat.reduceMul,Int.reduceToNat];refine aA (cA rfl rfl) (aA (aH bO aG rfl rfl (by decide) (by decide) rfl) ?_);simp only[zz];refine aI rfl ((m.b 0 rfl).lies aK aG rfl rfl) ?_;simp only[zz,zy,Nat.zero_add,Nat.reduceAdd,Nat.reduceMul,Int.reduceToNat];refine aA (aH bO aG rfl rfl (by decide) (by decide) rfl) ?_;simp only[zz];refine aI rfl ((m.b 0 rfl).lies aK aG rfl rfl) ?_;simp only[zz,zy,Nat.zero_add,Nat.reduceAdd,Nat.reduceMul,Int.reduceToNat];refine aA (cA rfl rfl) ?_;simp only[zz];refine Rq rfl rfl rfl ?_;intro u g2 e hg hB;replace m:=m.newB e hg hB;clear e hg hB;simp only[zz];refine eC m 2 rfl rfl gB sZ rfl (by decide) rfl rfl rfl (m.b 0 rfl).rowsO (sA rfl) (by have:=mF (ts.take k);rw [List.length_take] at this;omega) (by have:=mF (ts.take k);rw [List.length_take] at this;omega) ?_;clear m;intro A3 cap3 u m;simp only[zF,zG] at m;rw [show (bH (ts.take k)).flatMap bV ++ _ = (bH (ts.take (k + 1))).flatMap bV by rw [oE ht,List.flatMap_append];rfl,show (bH (ts.take k)).length + 3 = (bH (ts.take (k + 1))).length by rw [oE ht,List.length_append];rfl] at m;rw [show (bH (ts.take k)).length + 3 = (bH (ts.take (k + 1))).length by rw [oE ht,List.length_append];rfl];refine aA (aF) (aD (k7 _ _ ?_));refine wp_region_lit (aA (aB) ?_);simp only[zz];refine aA (aR rfl rfl (aM (by omega) (by omega))) (aA (aF) (aD ?_));simp only[zz];simp only[Exit.inBlock,Exit.then];refine ⟨N - (k + 1),_,?_,rfl,?_,?_⟩
   · omega
   · simp only[zz,zv]
   ·
    simp only[zQ,zR,zD,zE];exact ⟨k + 1,_,_,rfl,(m.sel [false,false,true]),by omega,rfl⟩
  ·
   have hkN : k = N:=by omega
   rw [hkN,show ts.take N = ts from List.take_of_length_le (by rw [hT.len];exact Nat.le_refl _)] at m ⊢;refine wp_exit (k3 _ _ ?_);refine aC fun K9 k9=>wp_region_lit (aA (aB) (aA (aF) (aD (k9 _ _ ?_))));refine wp_ret ?_;simp only[zz];try simp only[Exit.inBlock,Exit.then,if_true]
   refine bP rfl rfl ?_;try simp only[zD,zE]
   exact ⟨_,rfl,m.ext,⟨_,_,_,rfl,rfl,(m.o 0 rfl)⟩⟩
theorem Hp {es : List E3} {N cap : Nat} {A : Option Addr} {e : E3} (w : World) (hL : uN bV 6 w A N es) (hN : N ≤ 1000000000) : eE prog 37 [.slice A N cap,ed e] w (fun v _=>v = .int .i64 ((jS es e : Nat) : Int)):=by
 refine ⟨ada,?_⟩;have m:=bS.refl w
 go_enter func37,ntmps37
 refine aC fun K1 k1=>wp_region_lit (fA m rfl ?_);clear m;intro g1 u m;refine aA (aF) (aD (k1 _ _ ?_));refine aC fun K2 k2=>wp_region_lit (aA (aF) (aD (k2 _ _ ?_)));refine aC fun K3 k3=>aC fun K4 k4=>wp_region_lit (aA (aF) ?_);simp only[zz];refine aD (k4 _ _ ?_);refine wp_block ?_;try simp only[Nat.zero_add,Nat.reduceAdd,Nat.reduceMul,Int.reduceToNat]
 refine bN [5,6] [7,8,9,10,11,12,13,14,15,16,17,18,19,20] (fun n vs wl=>∃ (k q : Nat),vs = [.int .i64 (q : Int),.int .i64 (k:Int)] ∧ bS w wl [bI g1 (bV e) 57] ∧ (q = jS (es.take k) e) ∧ (k ≤ N) ∧ (n = N - k)) ?_ ?_
 ·
  apply Exists.intro;simp only[zQ,zR,zD,zE];exact ⟨0,0,rfl,m,rfl,Nat.zero_le _,rfl⟩
 ·
  intro n vs wr hI u;clear m;obtain ⟨k,q,rfl,m,hq,hk,hn⟩:=hI;subst hq;simp only[zu,zF,zG];refine aC fun K5 k5=>aC fun K6 k6=>wp_region_lit (aA (aB) (aA (aB) (aA (bC rfl gB rfl) (aA (cS rfl rfl) ?_))));simp only[zz];refine aD (k6 _ _ ?_);refine cD rfl (fun hc1=>?_) (fun hc1=>?_)
  ·
   obtain ⟨x,hx,a,rfl,hrow⟩:=hL.get (i:=k) (by omega);refine wp_skip (k5 _ _ ?_);refine aC fun K7 k7=>wp_block (aC fun K8 k8=>mq m aP (by kernel_rfl) (aN (aB) (aN (aB) ?_)));simp only[zz];refine aN (aL gB cV rfl rfl (by omega) (by omega) (dP (Int.toNat_natCast _))) ?_;simp only[zz];refine ql rfl (fun u m=>((hrow.ext m.ext).lies kJ cV)) ?_;simp only[zz];refine ql rfl (fun u m=>((m.b 0 rfl).full kJ cV)) ?_;simp only[zz];refine aN (Rl rfl rfl) (dN ?_);clear m;intro u m;refine k8 _ _ ?_;simp only[zz];refine cD rfl (fun hc2=>?_) (fun hc2=>?_)
   ·
    have hxe : x = e:=Prod.ext (P3.eq hc2.1 hc2.2.1 hc2.2.2.1) (P3.eq hc2.2.2.2.1 hc2.2.2.2.2.1 hc2.2.2.2.2.2);have hcl : jS (es.take k) e ≤ N:=Nat.le_trans abd (by rw [List.length_take];omega);have hs:=Jr (e:=e) hx;rw [if_pos hxe] at hs;refine wp_region_lit (aA (aB) ?_);simp only[zz];refine aA (aR rfl rfl (aM (by omega) (by omega))) (aA (aF) (aD (k7 _ _ ?_)));refine wp_region_lit (aA (aB) ?_);simp only[zz];refine aA (aR rfl rfl (aM (by omega) (by omega))) (aA (aF) (aD ?_));simp only[zz];rw [show ((jS (es.take k) e : Nat) : Int) + 1 = ((jS (es.take (k + 1)) e : Nat) : Int) by rw [hs];rfl];simp only[Exit.inBlock,Exit.then];refine ⟨N - (k + 1),_,?_,rfl,?_,?_⟩
    · omega
    · simp only[zz,zv]
    ·
     simp only[zQ,zR,zD,zE];exact ⟨k + 1,jS (es.take (k + 1)) e,rfl,m,rfl,by omega,rfl⟩
   ·
    have hs : jS (es.take (k + 1)) e = jS (es.take k) e:=(Jr (e:=e) hx).trans (by rw [if_neg (fun h=>hc2 (by rw [h];exact ⟨rfl,rfl,rfl,rfl,rfl,rfl⟩))];rfl);refine wp_skip (k7 _ _ ?_);refine wp_region_lit (aA (aB) ?_);simp only[zz];refine aA (aR rfl rfl (aM (by omega) (by omega))) (aA (aF) (aD ?_));simp only[zz];rw [← hs];simp only[Exit.inBlock,Exit.then];refine ⟨N - (k + 1),_,?_,rfl,?_,?_⟩
    · omega
    · simp only[zz,zv]
    ·
     simp only[zQ,zR,zD,zE];exact ⟨k + 1,jS (es.take (k + 1)) e,rfl,m,rfl,by omega,rfl⟩
  ·
   have hkN : k = N:=by omega
   rw [hkN,show es.take N = es from List.take_of_length_le (by rw [hL.len];exact Nat.le_refl _)];refine wp_exit (k3 _ _ ?_);refine aC fun K9 k9=>wp_region_lit (aA (aB) (aA (aF) (aD (k9 _ _ ?_))));refine wp_ret ?_;simp only[zz];try simp only[Exit.inBlock,Exit.then,if_true]
   refine bP rfl rfl ?_;try simp only[zD,zE]
   exact ⟨_,rfl,m.ext,rfl⟩
end Go.Proofs.YtfohfflkhpfjeaaGreatDoor
