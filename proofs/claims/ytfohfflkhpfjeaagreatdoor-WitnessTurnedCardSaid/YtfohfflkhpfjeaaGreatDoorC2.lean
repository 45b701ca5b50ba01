/-
 Texts of one claim, laid together: Own, Al, Mem, Grow, Pts, Guard, Geo6, Open, Surf, Surf2, Lat, Chk, Facts, Facts2, Map0, Map, Map2.
-/
import Derived.Sort.Grow
import Derived.Deep.Draws
import Derived.OpenShut
import Derived.Lib.SmallJoins
import Derived.Deep.Slices
import Derived.Test.YtfohfflkhpfjeaaGreatDoorProg
import Derived.Maps.RangeRun
import Derived.Test.YtfohfflkhpfjeaaGreatDoorC1
set_option linter.unusedSimpArgs false
set_option linter.unusedVariables false
set_option linter.unusedSectionVars false
namespace Go.Lith
open Go.RowKit
abbrev El (A : Option Addr) : Option Nat:=A.map (·.block)
structure Ow (w0 w : World) (S : List (Option Nat)) (E : TypeId) (c : Nat) (A : Option Addr) (n cap : Nat) (xs : List Value) : Prop where
 own : w.ownsRow w0.heap.size E c (.slice A n cap) n xs
 sep : ∀ b,El A = some b → some b ∉ S
 bd : ∀ b,some b ∈ S → b < w.heap.size
structure Wr (w w' : World) (A : Option Addr) : Prop where
 os : w'.os = w.os
 tape : w'.tape = w.tape
 output : w'.output = w.output
 size : w.heap.size ≤ w'.heap.size
 block : ∀ k,k < w.heap.size → El A ≠ some k → w'.heap[k]? = w.heap[k]?
theorem mA {w : World} {base c n cap : Nat} {E : TypeId} {A : Option Addr} {xs : List Value} (h : w.ownsRow base E c (.slice A n cap) n xs) :
 (A = none ∧ n = 0 ∧ cap = 0 ∧ xs = []) ∨ ∃ g cur,A = some ⟨g,0,none⟩ ∧ base ≤ g ∧ w.heap[g]? = some (.cells cur E (0,0)) ∧ n ≤ cap ∧ cap ≤ maxLen ∧ cur.size = cap * c ∧ cur.toList.take (n * c) = xs:=by
 rcases h.2 with ⟨h1,h2⟩ | ⟨g,cap',cur,h1,h2,h3,h4,h5,h6,h7⟩
 · cases h1
   exact .inl ⟨rfl,h2,rfl,List.eq_nil_of_length_eq_zero (by rw [h.1,h2,Nat.zero_mul])⟩
 · cases h1
   exact .inr ⟨g,cur,rfl,h2,h3,h4,h5,h6,h7⟩
section
variable {w0 w w' : World} {S : List (Option Nat)} {E : TypeId} {c n cap : Nat} {A : Option Addr} {xs : List Value}
theorem Ow.cases (h : Ow w0 w S E c A n cap xs) : (A = none ∧ n = 0 ∧ cap = 0 ∧ xs = []) ∨ ∃ g cur,A = some ⟨g,0,none⟩ ∧ w0.heap.size ≤ g ∧ w.heap[g]? = some (.cells cur E (0,0)) ∧ n ≤ cap ∧ cap ≤ maxLen ∧ cur.size = cap * c ∧ cur.toList.take (n * c) = xs:=mA h.own
theorem Ow.ge (h : Ow w0 w S E c A n cap xs) : ∀ b,El A = some b → w0.heap.size ≤ b:=fun b hb=>by
 rcases h.cases with ⟨rfl,_⟩ | ⟨g,cur,rfl,hg,_⟩
 · cases hb
 · cases hb
   exact hg
theorem Ow.le (h : Ow w0 w S E c A n cap xs) : n ≤ cap:=by
 rcases h.cases with ⟨_,rfl,rfl,_⟩ | ⟨g,cur,_,_,_,h1,_⟩
 · exact Nat.le_refl _
 · exact h1
theorem Ow.some (h : Ow w0 w S E c A n cap xs) (hn : 0 < n) : ∃ g,A = some ⟨g,0,none⟩:=by
 rcases h.cases with ⟨_,rfl,_⟩ | ⟨g,cur,rfl,_⟩
 · omega
 · exact ⟨g,rfl⟩
theorem Ow.row (h : Ow w0 w S E c A n cap xs) : ∀ j u,xs[j]? = Option.some u → ∃ a,A = Option.some a ∧ w.cell? (a.add j) = Option.some u:=fun j u hj=>by
 rcases h.cases with ⟨_,_,_,rfl⟩ | ⟨g,cur,rfl,_,hg,_,_,_,h4⟩
 · cases hj
 · refine ⟨_,rfl,?_⟩
   rw [gL,Nat.zero_add,cell_of_row w g j cur E (0,0) hg];rw [← h4,List.getElem?_take] at hj;split at hj
   · simpa using hj
   · cases hj
theorem Ow.rows {g : Nat} (h : Ow w0 w S E c (Option.some ⟨g,0,none⟩) n cap xs) : jK w ⟨g,0,none⟩ xs:=fun j u hj=>by
 obtain ⟨a,e,h1⟩:=h.row j u hj;cases e;exact h1
theorem Ow.nil (w0 w : World) (E : TypeId) (c : Nat) : Ow w0 w [] E c none 0 0 []:=⟨World.ownsRow_nil w _ E c,fun _ h=>(by cases h),fun _ h=>(by cases h)⟩
theorem Ow.mk' {g : Nat} {cs : List Value} (hB : gJ w g cs E) (hg : w0.heap.size ≤ g) (hl : cs.length = n * c) (hm : n ≤ maxLen) : Ow w0 w [] E c (Option.some ⟨g,0,none⟩) n n cs :=
 ⟨⟨hl,.inr ⟨g,n,_,rfl,hg,hB,Nat.le_refl _,hm,by simpa using hl,by simp [← hl]⟩⟩,fun _ _ h=>(by cases h),fun _ h=>(by cases h)⟩
theorem Ow.take (h : Ow w0 w S E c A n cap xs) {k : Nat} (hk : k ≤ n) : Ow w0 w S E c A k cap (xs.take (k * c)):=by
 have hl : (xs.take (k * c)).length = k * c:=by
  rw [List.length_take,h.own.1];exact Nat.min_eq_left (Nat.mul_le_mul_right _ hk)
 refine ⟨⟨hl,?_⟩,h.sep,h.bd⟩;rcases h.cases with ⟨rfl,rfl,rfl,_⟩ | ⟨g,cur,rfl,h1,h2,h3,h4,h5,h6⟩
 · obtain rfl : k = 0:=by omega
   exact .inl ⟨rfl,rfl⟩
 · refine .inr ⟨g,cap,cur,rfl,h1,h2,by omega,h4,h5,?_⟩
   rw [← h6,List.take_take,Nat.min_eq_left (Nat.mul_le_mul_right _ hk)]
theorem Ow.as {ys : List Value} (h : Ow w0 w S E c A n cap xs) (e : xs = ys) : Ow w0 w S E c A n cap ys:=e ▸ h
end
section
variable {P : Program} {ds : List Deferred} {l : List Value} {x y : Operand} {T ty : TypeId}
variable {ops : Array Oper} {Q : Exit → Act → World → Prop} {rest : List Oper} {d : Nat} {pos : String} {after : Array Edge} {w w0 : World} {S : List (Option Nat)} {E : TypeId} {c n cap m mcap : Nat} {A B : Option Addr} {xs news : List Value}
theorem Wr.refl (w : World) (A : Option Addr) : Wr w w A:=⟨rfl,rfl,rfl,Nat.le_refl _,fun _ _ _=>rfl⟩
theorem Hf {t : TypeId} {i : TypeInfo} {z : Value} {bytes : Nat} (ht : P.underlying t = some (.slice E)) (hi : P.info? E = some i) (hz : i.zero = some z) (hsize : i.size = c) (hby : i.bytes = bytes) (hzs : z.cells.size = c) (hsz : 0 < c)
 (hown : Ow w0 w S E c A n cap xs) (hl : news.length = m * c) (hnews : ∀ j u,news[j]? = some u → ∃ a,B = some a ∧ w.cell? (a.add j) = some u) (h1 : ∀ u ∈ news,u.oneCell' = true)
 (h63 : n + m ≤ maxLen) (hbytes : (n + m) * bytes ≤ 140737488355328) (hbase : w0.heap.size ≤ w.heap.size) :
 ∃ A' cap' w',(Builtin.append_ #[t,t] ty #[.slice A n cap,.slice B m mcap]).run P w = .ok (.slice A' (n + m) cap') w' ∧ Ow w0 w' S E c A' (n + m) cap' (xs ++ news) ∧ Wr w w' A ∧ (A' = A ∨ El A' = some w.heap.size):=by
 subst hsize;subst hby;have hsmall : n + m ≤ 9223372036854775807:=by simp only[maxLen] at h63;omega
 have hlen : (xs ++ news).length = (n + m) * i.size:=by rw [List.length_append,hown.own.1,hl,Nat.add_mul]
 have grown : ∀ (old : Nat),old < n + m →
  Ow w0 (w.drew.alloc (.cells (xs.toArray ++ news.toArray ++ Builtin.zeroCells z.cells (grownCap w (n + m) old E - (n + m))) E)) S E i.size
   (some ⟨w.heap.size,0,none⟩) (n + m) (grownCap w (n + m) old E) (xs ++ news) ∧
  Wr w (w.drew.alloc (.cells (xs.toArray ++ news.toArray ++ Builtin.zeroCells z.cells (grownCap w (n + m) old E - (n + m))) E)) A:=by
  intro old ho;have hge:=grownCap_ge w (n + m) old E;have hcm : grownCap w (n + m) old E ≤ maxLen:=grownCap_le_maxLen w (n + m) old E h63;refine ⟨⟨⟨hlen,.inr ⟨w.heap.size,_,_,rfl,hbase,heap_alloc_new w.drew _,hge,hcm,?_,?_⟩⟩,fun b hb hm=>?_,fun b hb=>?_⟩,⟨rfl,rfl,rfl,by simp,fun k hk _=>heap_alloc_old w.drew _ (h:=hk)⟩⟩
  · simp only[Array.size_append,List.size_toArray,size_zeroCells,hzs,hown.own.1,hl,← Nat.add_mul]
    congr 1
    omega
  · simp only[Array.toList_append,List.append_assoc]
    rw [← List.append_assoc,← hlen];exact List.take_left
  · have hb' : w.heap.size = b:=by simpa using hb
    subst hb';exact absurd (hown.bd _ hm) (Nat.lt_irrefl _)
  · have:=hown.bd _ hb
    have h2 : (w.drew.alloc (.cells (xs.toArray ++ news.toArray ++ Builtin.zeroCells z.cells (grownCap w (n + m) old E - (n + m))) E)).heap.size = w.heap.size + 1:=by simp
    rw [h2];omega
 have hB0 : B = none → m = 0 ∧ news = []:=fun hB=>by
  have hn : news = []:=by
   cases news with
   | nil=>rfl
   | cons u us=>obtain ⟨a,e,_⟩:=hnews 0 u rfl;rw [hB] at e;cases e
  subst hn;refine ⟨?_,rfl⟩;rcases Nat.eq_zero_or_pos m with h0 | h0
  · exact h0
  · have:=Nat.mul_pos h0 hsz;simp at hl;omega
 rcases hown.cases with ⟨rfl,rfl,rfl,rfl⟩ | ⟨g,cur,rfl,hbg,hg,hnc,hcm,hcs,htake⟩
 · by_cases hm : m = 0
   · subst hm
     have hn : news = []:=List.eq_nil_of_length_eq_zero (by simpa using hl);subst hn;refine ⟨none,0,w,?_,by simpa using hown,Wr.refl _ _,.inl rfl⟩;cases B <;> simp [Builtin.append_,run_underlying ht,sizeOf,typeInfo,hi,Builtin.lenOf,Builtin.firstCells,loadCells,loadCellsFrom]
   · cases B with
     | none=>exact absurd (hB0 rfl).1 hm
     | some a =>
      have hr:=run_append_nil (P:=P) w t ty E i z ht hi hz a m mcap news hl (fun j u hj=>by obtain ⟨a',e,h⟩:=hnews j u hj;cases e;exact h) (by omega) (by omega) (by have hb:=hbytes;simp only[Nat.zero_add] at hb;omega);have hgr:=grown 0 (by omega);simp only[Nat.zero_add,List.nil_append,Array.empty_append] at hgr ⊢;exact ⟨_,_,_,hr,hgr.1,hgr.2,.inr rfl⟩
 · cases B with
   | none =>
    obtain ⟨rfl,rfl⟩:=hB0 rfl;refine ⟨some ⟨g,0,none⟩,cap,w,?_,by simpa using hown,Wr.refl _ _,.inl rfl⟩;simp [Builtin.append_,run_underlying ht,sizeOf,typeInfo,hi,Builtin.lenOf,Builtin.firstCells,hnc,storeCells]
   | some a =>
    have hnews' : ∀ j u,news[j]? = some u → w.cell? (a.add j) = some u:=fun j u hj=>by obtain ⟨a',e,h⟩:=hnews j u hj;cases e;exact h
    by_cases hroom : n + m ≤ cap
    · have hfit : n * i.size + news.length ≤ cur.size:=by rw [hl,hcs,← Nat.add_mul];exact Nat.mul_le_mul_right _ hroom
      have hr:=run_append_room (P:=P) w t ty E i ht hi g n cap cur hg a m mcap news hl hnews' h1 hroom hfit;refine ⟨_,_,_,hr,⟨⟨hlen,.inr ⟨g,cap,_,rfl,hbg,setRow_heap w g cur _ E _ hg,hroom,hcm,?_,?_⟩⟩,hown.sep,fun b hb=>by simpa using hown.bd b hb⟩,⟨rfl,rfl,rfl,by simp,fun k _ hk=>setRow_other w g k _ (fun e=>hk (by rw [e];rfl))⟩,.inl rfl⟩
      · simp only[List.size_toArray,List.length_append,List.length_take,List.length_drop,Array.length_toList]
        omega
      · rw [htake,← hlen]
        exact List.take_left
    · have hr:=run_append_grow (P:=P) w t ty E i z ht hi hz ⟨g,0,none⟩ n cap xs hown.own.1 hown.rows a m mcap news hl hnews' (by omega) (by omega) (growslice_fits (by omega) hbytes)
      have hgr:=grown cap (by omega);exact ⟨_,_,_,hr,hgr.1,hgr.2,.inr rfl⟩
theorem Vf {b : Nat} {z : Value} {a0 : Array TypeId} (ha : a0 = #[T,T]) (hu : P.underlying T = some (.slice E)) (hi : (P.info? E).map (fun i=>(i.size,i.bytes,i.zero)) = some (c,b,some z)) (hz : z.cells.size = c) (hc : 0 < c) (hX : dJ w0 w)
 (hs : ev l x = .slice A n cap) (hown : Ow w0 w S E c A n cap xs) (hx : ev l y = .slice B m mcap) (hl : news.length = m * c) (hrow : ∀ j u,news[j]? = some u → ∃ a,B = some a ∧ w.cell? (a.add j) = some u) (h1 : ∀ u ∈ news,u.oneCell' = true) (h63 : n + m ≤ 9223372036854775807) (hbytes : (n + m) * b ≤ 140737488355328)
 (h : ∀ A' cap' w',Ow w0 w' S E c A' (n + m) cap' (xs ++ news) → Wr w w' A → (A' = A ∨ El A' = some w.heap.size) → wpList P ops Q rest (Fr (l.set d (.slice A' (n + m) cap')) ds) w') :
 wpList P ops Q (Oper.mk (some d) (.call { callee:=.builtin .append,args:=#[x,y],argTypes:=a0 }) ty pos after none :: rest) (Fr l ds) w:=by
 subst ha;cases hq : P.info? E with
 | none=>rw [hq] at hi;cases hi
 | some i =>
  rw [hq] at hi;simp only[Option.map_some,Option.some.injEq,Prod.mk.injEq] at hi;obtain ⟨e1,e2,e3⟩:=hi;obtain ⟨A',cap',w',hr,h2,h3,h4⟩:=Hf (P:=P) (w:=w) (ty:=ty) (mcap:=mcap) hu hq e3 e1 e2 hz hc hown hl hrow h1 (by simpa [maxLen] using h63) hbytes hX.size;exact kY (fun o ho hty=>by simp [execOp,ho,hty,resolve,invoke,builtin,dC,hs,hx,hr]) (h A' cap' w' h2 h3 h4)
theorem Hg {cur : Array Value} {xs us : List Value} {off k : Nat} (hx : cur.toList.take k = xs) (hl : xs.length = k) (hf : off + us.length ≤ k) : (bG cur.toList off us).take k = bG xs off us:=by
 subst hx;have hk : k ≤ cur.toList.length:=by rw [List.length_take] at hl;omega
 unfold bG;apply List.ext_getElem?;intro j;rw [List.getElem?_take];have e1 : (cur.toList.take off).length = off:=by rw [List.length_take];omega
 have e2 : ((cur.toList.take k).take off).length = off:=by rw [List.length_take,List.length_take];omega
 simp only[List.append_assoc];by_cases h0 : j < k
 · rw [if_pos h0]
   rcases Nat.lt_or_ge j off with h1 | h1
   · rw [List.getElem?_append_left (by omega),List.getElem?_append_left (by omega),List.take_take,Nat.min_eq_left (by omega)]
   · rw [List.getElem?_append_right (l₁:=cur.toList.take off) (by omega),List.getElem?_append_right (l₁:=(cur.toList.take k).take off) (by omega),e1,e2]
     rcases Nat.lt_or_ge (j - off) us.length with h2 | h2
     · rw [List.getElem?_append_left h2,List.getElem?_append_left h2]
     · rw [List.getElem?_append_right h2,List.getElem?_append_right h2,List.getElem?_drop,List.getElem?_drop,List.getElem?_take,if_pos (by omega)]
 · rw [if_neg h0]
   symm
   apply List.getElem?_eq_none;simp only[List.length_append,e2,List.length_drop,List.length_take];omega
theorem Zi {g off : Nat} {us : List Value} (hx : ev l x = .pointer (some ⟨g,off,none⟩)) (hv : (ev l y).cells = us.toArray) (hc : eN P T us.length) (hO : Ow w0 w S E c (some ⟨g,0,none⟩) n cap xs) (hfit : off + us.length ≤ n * c) (h1 : ∀ u ∈ us,u.oneCell' = true)
 (h : ∀ w',Wr w w' (some ⟨g,0,none⟩) → Ow w0 w' S E c (some ⟨g,0,none⟩) n cap (bG xs off us) → wpList P ops Q rest (Fr l ds) w') : wpList P ops Q (Oper.mk none (.store T x y) ty pos after none :: rest) (Fr l ds) w:=by
 rcases hO.cases with ⟨e,_⟩ | ⟨g',cur,e,hbg,hg,hnc,hcm,hcs,htake⟩
 · cases e
 · cases e
   have hfc : off + us.length ≤ cur.toList.length:=by
    have:=Nat.mul_le_mul_right c hnc;simp;omega
   have hB : gJ w g cur.toList E:=by unfold gJ;simpa using hg
   refine cZ (cs:=cur.toList) (t:=E) hx hv hc hB hfc h1 fun w' hC hB'=>h w' ⟨hC.os,hC.tape,hC.output,by rw [hC.size];exact Nat.le_refl _,fun k _ hk=>hC.block k (fun e=>hk (by rw [e];rfl))⟩ ?_;refine ⟨⟨?_,.inr ⟨g,cap,_,rfl,hbg,hB',hnc,hcm,?_,?_⟩⟩,hO.sep,fun b hb=>by rw [hC.size];exact hO.bd b hb⟩
   · rw [uL (by rw [hO.own.1];exact hfit)];exact hO.own.1
   · simp only[List.size_toArray];rw [uL hfc];simpa using hcs
   · show ((bG cur.toList off us).toArray.toList).take (n * c) = _
     simp only[List.toList_toArray];exact Hg htake hO.own.1 hfit
end
theorem Dd (ts : List T3) : (ts.flatMap aX).length = ts.length * 9:=by
 induction ts with
 | nil=>rfl
 | cons t ts ih=>rw [List.flatMap_cons,List.length_append,ih,dR,List.length_cons];omega
theorem Ow.tris {w0 w : World} {S : List (Option Nat)} {E : TypeId} {A : Option Addr} {n cap : Nat} {ts : List T3} (h : Ow w0 w S E 9 A n cap (ts.flatMap aX)) (hi : ∀ t ∈ ts,IT t) : eO w A n ts:=by
 refine ⟨?_,hi,fun i t ht=>?_⟩
 · have:=h.own.1;rw [Dd] at this;omega
 · have hr : ∀ j u,(aX t)[j]? = Option.some u → (ts.flatMap aX)[i * 9 + j]? = Option.some u:=fun j u hj=>by
    have hj' : j < (aX t).length:=(List.getElem?_eq_some_iff.1 hj).1;rw [← List.getElem?_drop,wB ts i t ht,List.getElem?_append_left hj'];exact hj
   obtain ⟨a,e,_⟩:=h.row _ _ (hr 0 _ rfl);refine ⟨a,e,fun j u hj=>?_⟩;obtain ⟨a',e',hc⟩:=h.row _ _ (hr j u hj);rw [e] at e';cases e';rw [iS];exact hc
theorem eO.cells {w : World} {A : Option Addr} {n : Nat} {ts : List T3} (h : eO w A n ts) : ∀ j u,(ts.flatMap aX)[j]? = some u → ∃ a,A = some a ∧ w.cell? (a.add j) = some u:=fun j u hj=>by
 have hl : j < ts.length * 9:=by
  have:=(List.getElem?_eq_some_iff.1 hj).1;rwa [Dd] at this
 have hq : j / 9 < ts.length:=by omega
 have ht:=List.getElem?_eq_getElem hq;obtain ⟨a,e,hr⟩:=h.row _ _ ht;refine ⟨a,e,?_⟩;have hd:=wB ts (j / 9) _ ht;have hj' : (aX ts[j / 9])[j % 9]? = some u:=by
  have : ((ts.flatMap aX).drop (j / 9 * 9))[j % 9]? = some u:=by rw [List.getElem?_drop,show j / 9 * 9 + j % 9 = j by omega];exact hj
  rw [hd,List.getElem?_append_left (by rw [dR];omega)] at this;exact this
 have:=hr _ _ hj';rwa [iS,show j / 9 * 9 + j % 9 = j by omega] at this
theorem abW : ∀ (t : T3),∀ u ∈ aX t,u.oneCell' = true:=fun t u hu=>by
 simp only[aX,List.mem_cons,List.not_mem_nil,or_false] at hu;rcases hu with rfl | rfl | rfl | rfl | rfl | rfl | rfl | rfl | rfl <;> rfl
theorem nG (ts : List T3) : ∀ u ∈ ts.flatMap aX,u.oneCell' = true:=fun u hu=>by
 obtain ⟨t,_,h⟩:=List.mem_flatMap.1 hu;exact abW t u h
theorem gJ.rowsO {w : World} {g : Nat} {cs : List Value} {t : TypeId} (h : gJ w g cs t) : ∀ j u,cs[j]? = some u → ∃ a,some (⟨g,0,none⟩ : Addr) = some a ∧ w.cell? (a.add j) = some u:=fun j u hj=>⟨_,rfl,by have:=h.row 0;rw [List.drop_zero] at this;exact this j u hj⟩
section
variable {w0 w w' : World} {S : List (Option Nat)} {E : TypeId} {c n cap : Nat} {A : Option Addr} {xs : List Value}
end
end Go.Lith
namespace Go.Lith
open Go.RowKit
/-! ### Names that are short -/
theorem zA {l : List Value} (t : Nat) : ev l (.tmp t) = l.getD t undef:=rfl
theorem zB {l : List Value} (v : Value) : ev l (.const v) = v:=rfl
theorem zC {l : List Value} (f : Nat) : ev l (.func f) = .func (.func f) #[] #[]:=rfl
theorem zD {α : Type} {x : α} {xs : List α} {n : Nat} {d : α} : (x :: xs).getD (n + 1) d = xs.getD n d:=rfl
theorem zE {α : Type} {x : α} {xs : List α} {d : α} : (x :: xs).getD 0 d = x:=rfl
theorem zF {α : Type} {x : α} {xs : List α} {n : Nat} {a : α} : (x :: xs).set (n + 1) a = x :: xs.set n a:=rfl
theorem zG {α : Type} {x : α} {xs : List α} {a : α} : (x :: xs).set 0 a = a :: xs:=rfl
theorem zH {α : Type} {x : α} {xs : List α} {n : Nat} : (x :: xs).take (n + 1) = x :: xs.take n:=rfl
theorem zI {α : Type} {xs : List α} : xs.take 0 = []:=List.take_zero
theorem zJ {α : Type} {x : α} {xs : List α} {n : Nat} : (x :: xs).drop (n + 1) = xs.drop n:=rfl
theorem zK {α : Type} {xs : List α} : xs.drop 0 = xs:=rfl
theorem zL {α : Type} {x : α} {xs ys : List α} : (x :: xs) ++ ys = x :: (xs ++ ys):=rfl
theorem zM {α : Type} {ys : List α} : [] ++ ys = ys:=rfl
theorem zN {α : Type} {ys : List α} : ys ++ [] = ys:=List.append_nil ys
theorem zO {α : Type} {x : α} {xs : List α} : (x :: xs).length = xs.length + 1:=rfl
theorem zP {α : Type} : ([] : List α).length = 0:=rfl
theorem zQ {α β : Type} {f : α → β} {x : α} {xs : List α} : (x :: xs).map f = f x :: xs.map f:=rfl
theorem zR {α β : Type} {f : α → β} : ([] : List α).map f = []:=rfl
theorem zS {α : Type} {l : List α} {i : Nat} : l.toArray[i]? = l[i]?:=List.getElem?_toArray
theorem zT {α : Type} {x : α} {xs : List α} {n : Nat} : (x :: xs)[n + 1]? = xs[n]?:=rfl
theorem zU {α : Type} {x : α} {xs : List α} : (x :: xs)[0]? = some x:=rfl
theorem zV {α : Type} {x d : α} : (some x).getD d = x:=rfl
theorem zz : (∀ (l : List Go.Value) (t : Nat), ev l (.tmp t) = l.getD t undef) ∧ (∀ (l : List Go.Value) (v : Go.Value), ev l (.const v) = v) ∧ (∀ (l : List Go.Value) (f : Nat), ev l (.func f) = .func (.func f) #[] #[]) ∧ (∀ {α : Type} (x : α) (xs : List α) (n : Nat) (d : α), (x :: xs).getD (n + 1) d = xs.getD n d) ∧ (∀ {α : Type} (x : α) (xs : List α) (d : α), (x :: xs).getD 0 d = x) ∧ (∀ {α : Type} (x : α) (xs : List α) (n : Nat) (a : α), (x :: xs).set (n + 1) a = x :: xs.set n a) ∧ (∀ {α : Type} (x : α) (xs : List α) (a : α), (x :: xs).set 0 a = a :: xs) := ⟨fun _ _ => rfl, fun _ _ => rfl, fun _ _ => rfl, fun _ _ _ _ => rfl, fun _ _ _ => rfl, fun _ _ _ _ => rfl, fun _ _ _ => rfl⟩
theorem zy : (∀ {α : Type} (x : α) (xs : List α) (n : Nat), (x :: xs).take (n + 1) = x :: xs.take n) ∧ (∀ {α : Type} (xs : List α), xs.take 0 = []) ∧ (∀ {α : Type} (x : α) (xs : List α) (n : Nat), (x :: xs).drop (n + 1) = xs.drop n) ∧ (∀ {α : Type} (xs : List α), xs.drop 0 = xs) := ⟨fun _ _ _ => rfl, fun _ => List.take_zero, fun _ _ _ => rfl, fun _ => rfl⟩
theorem zx : (∀ {α : Type} (x : α) (xs ys : List α), (x :: xs) ++ ys = x :: (xs ++ ys)) ∧ (∀ {α : Type} (ys : List α), [] ++ ys = ys) ∧ (∀ {α : Type} (ys : List α), ys ++ [] = ys) ∧ (∀ {α : Type} (x : α) (xs : List α), (x :: xs).length = xs.length + 1) ∧ (∀ {α : Type}, ([] : List α).length = 0) := ⟨fun _ _ _ => rfl, fun _ => rfl, fun _ => List.append_nil _, fun _ _ => rfl, rfl⟩
theorem zw : (∀ {α : Type} (l : List α) (i : Nat), l.toArray[i]? = l[i]?) ∧ (∀ {α : Type} (x : α) (xs : List α) (n : Nat), (x :: xs)[n + 1]? = xs[n]?) ∧ (∀ {α : Type} (x : α) (xs : List α), (x :: xs)[0]? = some x) ∧ (∀ {α : Type} (x d : α), (some x).getD d = x) := ⟨fun _ _ => List.getElem?_toArray, fun _ _ _ => rfl, fun _ _ => rfl, fun _ _ => rfl⟩
theorem zu : (∀ (l : List Go.Value) (t : Nat) (ts : List Nat) (v : Go.Value) (vs : List Go.Value), gT l (t :: ts) (v :: vs) = gT (l.set t v) ts vs) ∧ (∀ (l vs : List Go.Value), gT l [] vs = l) ∧ (∀ (l : List Go.Value) (t : Nat) (ts : List Nat) (g : Nat → Go.Value), qC l (t :: ts) g = qC (l.set t (g t)) ts g) ∧ (∀ (l : List Go.Value) (g : Nat → Go.Value), qC l [] g = l) := ⟨fun _ _ _ _ _ => rfl, fun _ _ => uM, fun _ _ _ _ => rfl, fun _ _ => rfl⟩
theorem zv : (∀ {α β : Type} (f : α → β) (x : α) (xs : List α), (x :: xs).map f = f x :: xs.map f) ∧ (∀ {α β : Type} (f : α → β), ([] : List α).map f = []) ∧ (∀ (l : List Go.Value) (t : Nat) (ts : List Nat) (v : Go.Value) (vs : List Go.Value), gT l (t :: ts) (v :: vs) = gT (l.set t v) ts vs) ∧ (∀ (l vs : List Go.Value), gT l [] vs = l) ∧ (∀ (l : List Go.Value) (t : Nat) (ts : List Nat) (g : Nat → Go.Value), qC l (t :: ts) g = qC (l.set t (g t)) ts g) ∧ (∀ (l : List Go.Value) (g : Nat → Go.Value), qC l [] g = l) := ⟨fun _ _ _ => rfl, fun _ => rfl, fun _ _ _ _ _ => rfl, fun _ _ => uM, fun _ _ _ _ => rfl, fun _ _ => rfl⟩
end Go.Lith
namespace Go.Lith
open Go.RowKit
structure It where
 own : Nat → Prop
 P : World → Prop
 lt : ∀ w b,P w → own b → b < w.heap.size
 st : ∀ w w',P w → w.heap.size ≤ w'.heap.size → (∀ b,own b → w'.heap[b]? = w.heap[b]?) → P w'
def bI (g : Nat) (cs : List Value) (t : TypeId) : It where
 own b:=some g = some b
 P w:=gJ w g cs t
 lt w b h e:=by cases e;exact h.lt
 st w w' h _ k:=(k g rfl).trans h
def oI (E : TypeId) (c : Nat) (A : Option Addr) (n cap : Nat) (xs : List Value) : It where
 own b:=El A = some b
 P w:=w.ownsRow 0 E c (.slice A n cap) n xs
 lt w b h e:=by
  rcases mA h with ⟨rfl,_⟩ | ⟨g,cur,rfl,_,hg,_⟩
  · cases e
  · cases e;exact (Array.getElem?_eq_some_iff.1 hg).1
 st w w' h _ k:=by
  refine ⟨h.1,?_⟩;rcases mA h with ⟨rfl,rfl,rfl,_⟩ | ⟨g,cur,rfl,h1,h2,h3⟩
  · exact .inl ⟨rfl,rfl⟩
  · exact .inr ⟨g,cap,cur,rfl,h1,(k g rfl).trans h2,h3⟩
def Ap (i j : It) : Prop:=∀ b,i.own b → j.own b → False
theorem Ap.symm {i j : It} (h : Ap i j) : Ap j i:=fun b h1 h2=>h b h2 h1
structure cA (w0 w : World) (is : List It) : Prop where
 ext : dJ w0 w
 all : ∀ i ∈ is,i.P w
 ge : ∀ i ∈ is,∀ b,i.own b → w0.heap.size ≤ b
 nd : is.Pairwise Ap
def Mr : List Bool → List It → List It
 | true :: bs,i :: is=>i :: Mr bs is
 | false :: bs,_ :: is=>Mr bs is
 | _,_=>[]
theorem uW : ∀ (bs : List Bool) (is : List It),(Mr bs is).Sublist is
 | true :: bs,i :: is=>(uW bs is).cons_cons i
 | false :: bs,i :: is=>(uW bs is).cons i
 | [],is=>List.nil_sublist _
 | true :: bs,[]=>List.nil_sublist _
 | false :: bs,[]=>List.nil_sublist _
section
variable {w0 w w' : World} {is : List It}
theorem cA.refl (w : World) : cA w w []:=⟨dJ.refl w,fun _ h=>(by cases h),fun _ h=>(by cases h),.nil⟩
theorem cA.ext' (m : cA w0 w is) (e : dJ w w') : cA w0 w' is :=
 ⟨m.ext.trans e,fun i hi=>i.st w w' (m.all i hi) e.size fun b hb=>Below.block e b (i.lt w b (m.all i hi) hb),m.ge,m.nd⟩
theorem cA.sel (m : cA w0 w is) (bs : List Bool) : cA w0 w (Mr bs is) :=
 ⟨m.ext,fun i hi=>m.all i ((uW bs is).subset hi),fun i hi=>m.ge i ((uW bs is).subset hi),m.nd.sublist (uW bs is)⟩
theorem cA.tl {i : It} (m : cA w0 w (i :: is)) : cA w0 w is:=⟨m.ext,fun j hj=>m.all j (List.mem_cons_of_mem _ hj),fun j hj=>m.ge j (List.mem_cons_of_mem _ hj),(List.pairwise_cons.1 m.nd).2⟩
theorem cA.get (m : cA w0 w is) (k : Nat) {i : It} (hk : is[k]? = some i) : i.P w:=m.all i (List.mem_of_getElem? hk)
theorem cA.b (m : cA w0 w is) (k : Nat) {g : Nat} {cs : List Value} {t : TypeId} (hk : is[k]? = some (bI g cs t)) : gJ w g cs t:=m.get k hk
theorem cA.o (m : cA w0 w is) (k : Nat) {E : TypeId} {c n cap : Nat} {A : Option Addr} {xs : List Value} (hk : is[k]? = some (oI E c A n cap xs)) : Ow w0 w [] E c A n cap xs:=by
 have h : w.ownsRow 0 E c (.slice A n cap) n xs:=m.get k hk;refine ⟨⟨h.1,?_⟩,fun _ _ h=>(by cases h),fun _ h=>(by cases h)⟩;rcases mA h with ⟨rfl,rfl,rfl,_⟩ | ⟨g,cur,rfl,_,h2,h3⟩
 · exact .inl ⟨rfl,rfl⟩
 · exact .inr ⟨g,cap,cur,rfl,m.ge _ (List.mem_of_getElem? hk) g rfl,h2,h3⟩
theorem cA.bo (m : cA w0 w is) (k : Nat) {g : Nat} {cs : List Value} {t : TypeId} (hk : is[k]? = some (bI g cs t)) {n c : Nat} (hl : cs.length = n * c) (hm : n ≤ maxLen) : Ow w0 w [] t c (some ⟨g,0,none⟩) n n cs :=
 Ow.mk' (m.b k hk) (m.ge _ (List.mem_of_getElem? hk) g rfl) hl hm
theorem cA.toO (m : cA w0 w is) (k : Nat) {g : Nat} {cs : List Value} {t : TypeId} (hk : is[k]? = some (bI g cs t)) {n c : Nat} (hl : cs.length = n * c) (hm : n ≤ maxLen) : ∃ i,i = oI t c (some ⟨g,0,none⟩) n n cs ∧ i.P w:=⟨_,rfl,(m.bo k hk hl hm).own.1,.inr ⟨g,n,_,rfl,Nat.zero_le _,m.b k hk,Nat.le_refl _,hm,by simpa using hl,by simp [← hl]⟩⟩
theorem cA.new {i : It} (m : cA w0 w is) (e : dJ w w') (hi : i.P w') (hg : ∀ b,i.own b → w.heap.size ≤ b) : cA w0 w' (i :: is):=by
 have m':=m.ext' e;refine ⟨m'.ext,fun j hj=>?_,fun j hj=>?_,List.pairwise_cons.2 ⟨fun j hj b h1 h2=>?_,m'.nd⟩⟩
 · rcases List.mem_cons.1 hj with rfl | hj
   · exact hi
   · exact m'.all j hj
 · rcases List.mem_cons.1 hj with rfl | hj
   · exact fun b hb=>Nat.le_trans m.ext.size (hg b hb)
   · exact m'.ge j hj
 · have:=j.lt w b (m.all j hj) h2
   have:=hg b h1;omega
theorem cA.newB {g : Nat} {cs : List Value} {t : TypeId} (m : cA w0 w is) (e : dJ w w') (hg : w.heap.size ≤ g) (hB : gJ w' g cs t) : cA w0 w' (bI g cs t :: is):=m.new e hB (fun b h=>by cases h;exact hg)
theorem cA.newO {S : List (Option Nat)} {E : TypeId} {c n cap : Nat} {A : Option Addr} {xs : List Value} (m : cA w0 w is) (e : dJ w w') (h : Ow w w' S E c A n cap xs) : cA w0 w' (oI E c A n cap xs :: is):=by
 refine m.new e (i:=oI E c A n cap xs) ?_ h.ge;refine ⟨h.own.1,?_⟩;rcases h.cases with ⟨rfl,rfl,rfl,_⟩ | ⟨g,cur,rfl,_,h2,h3⟩
 · exact .inl ⟨rfl,rfl⟩
 · exact .inr ⟨g,cap,cur,rfl,Nat.zero_le _,h2,h3⟩
theorem cA.nilO (m : cA w0 w is) (E : TypeId) (c : Nat) : cA w0 w (oI E c none 0 0 [] :: is):=m.newO (dJ.refl w) (Ow.nil w w E c)
theorem Qp {i i' : It} : ∀ (is : List It) (k : Nat),is.Pairwise Ap → is[k]? = some i → (∀ x ∈ is,Ap i x → Ap i' x) → (is.set k i').Pairwise Ap
 | [],_,_,h,_=>by cases h
 | j :: is,0,hp,h,hc=>by
  cases h;rw [List.set_cons_zero];have:=List.pairwise_cons.1 hp;exact List.pairwise_cons.2 ⟨fun x hx=>hc x (List.mem_cons_of_mem _ hx) (this.1 x hx),this.2⟩
 | j :: is,k + 1,hp,h,hc=>by
  rw [List.set_cons_succ];have hp':=List.pairwise_cons.1 hp;have h' : is[k]? = some i:=h;refine List.pairwise_cons.2 ⟨fun x hx=>?_,Qp is k hp'.2 h' fun x hx=>hc x (List.mem_cons_of_mem _ hx)⟩;rcases List.mem_or_eq_of_mem_set hx with hx | rfl
  · exact hp'.1 x hx
  · exact (hc j (List.mem_cons_self ..) (hp'.1 i (List.mem_of_getElem? h')).symm).symm
theorem cA.put {i i' : It} (m : cA w0 w is) (k : Nat) (hk : is[k]? = some i) (hos : w'.os = w.os) (ht : w'.tape = w.tape) (ho : w'.output = w.output) (hs : w.heap.size ≤ w'.heap.size) (hb : ∀ b,b < w.heap.size → ¬ i.own b → w'.heap[b]? = w.heap[b]?)
 (hi : i'.P w') (hid : (∀ b,i'.own b → i.own b) ∨ ∀ b,i'.own b → w.heap.size ≤ b) : cA w0 w' (is.set k i'):=by
 have hmem:=List.mem_of_getElem? hk;refine ⟨⟨hos.trans m.ext.os,ht.trans m.ext.tape,ho.trans m.ext.output,Nat.le_trans m.ext.size hs,fun b hlt=>(hb b (Nat.lt_of_lt_of_le hlt m.ext.size) fun e=>?_).trans (Below.block m.ext b hlt)⟩,fun j hj=>?_,fun j hj b hjb=>?_,Qp is k m.nd hk fun x hx ha b h1 h2=>?_⟩
 · have:=m.ge i hmem b e
   omega
 · obtain ⟨q,hq,e⟩:=List.getElem_of_mem hj
   rw [List.getElem_set] at e;split at e
   · subst e;exact hi
   · rename_i hne
     rw [List.length_set] at hq;have hj' : j ∈ is:=e ▸ List.getElem_mem hq;have hq' : is[q]? = some j:=by rw [← e];exact List.getElem?_eq_getElem hq
     refine j.st w w' (m.all j hj') hs fun b hjb=>hb b (j.lt w b (m.all j hj') hjb) fun hib=>?_;have hklt : k < is.length:=(List.getElem?_eq_some_iff.1 hk).1;have hki : is[k] = i:=(List.getElem?_eq_some_iff.1 hk).2;rcases Nat.lt_or_gt_of_ne hne with h | h
     · have:=List.pairwise_iff_getElem.1 m.nd k q hklt hq h
       rw [hki,e] at this;exact this b hib hjb
     · have:=List.pairwise_iff_getElem.1 m.nd q k hq hklt h
       rw [hki,e] at this;exact this b hjb hib
 · rcases List.mem_or_eq_of_mem_set hj with hj | rfl
   · exact m.ge j hj b hjb
   · rcases hid with hid | hid
     · exact m.ge i hmem b (hid b hjb)
     · exact Nat.le_trans m.ext.size (hid b hjb)
 · rcases hid with hid | hid
   · exact ha b (hid b h1) h2
   · have:=hid b h1
     have:=x.lt w b (m.all x hx) h2;omega
theorem cA.reO (m : cA w0 w is) (k : Nat) {E : TypeId} {c n cap n' cap' : Nat} {A : Option Addr} {xs xs' : List Value} (hk : is[k]? = some (oI E c A n cap xs)) (h : Ow w0 w [] E c A n' cap' xs') : cA w0 w (is.set k (oI E c A n' cap' xs')):=by
 refine m.put k hk rfl rfl rfl (Nat.le_refl _) (fun _ _ _=>rfl) ?_ (.inl fun _ h=>h);refine ⟨h.own.1,?_⟩;rcases h.cases with ⟨rfl,rfl,rfl,_⟩ | ⟨g,cur,rfl,_,h2,h3⟩
 · exact .inl ⟨rfl,rfl⟩
 · exact .inr ⟨g,cap',cur,rfl,Nat.zero_le _,h2,h3⟩
theorem cA.own (m : cA w0 w is) (k : Nat) {g : Nat} {cs : List Value} {t : TypeId} (hk : is[k]? = some (bI g cs t)) {n c : Nat} (hl : cs.length = n * c) (hm : n ≤ maxLen) : cA w0 w (is.set k (oI t c (some ⟨g,0,none⟩) n n cs)):=by
 obtain ⟨i,rfl,h⟩:=m.toO k hk hl hm;exact m.put k hk rfl rfl rfl (Nat.le_refl _) (fun _ _ _=>rfl) h (.inl fun _ h=>h)
theorem dZ {a b : Nat} (h : Nat.ble a b = true) : a ≤ b:=Nat.le_of_ble_eq_true h
theorem tG {us : List Value} (h : (us.all (·.oneCell')) = true) : ∀ u ∈ us,u.oneCell' = true:=fun u hu=>List.all_eq_true.1 h u hu
end
section
variable {P : Program} {ds : List Deferred} {l : List Value} {x y : Operand} {T ty : TypeId}
variable {ops : Array Oper} {Q : Exit → Act → World → Prop} {rest : List Oper} {d : Nat} {pos : String} {after : Array Edge} {w w0 : World} {is : List It}
theorem ahe {cs : List Value} (m : cA w0 w is) (hv : (ev l x).cells = cs.toArray) (h : ∀ g u,cA w0 u (bI g cs T :: is) → wpList P ops Q rest (Fr (l.set d (.pointer (some ⟨g,0,none⟩))) ds) u) :
 wpList P ops Q (Oper.mk (some d) (.box T x) ty pos after none :: rest) (Fr l ds) w:=lB hv fun u g e hg hB=>h g u (m.newB e hg hB)
theorem bF {cs : List Value} {z : Value} (m : cA w0 w is) (hZ : mY P T z) (hv : z.cells = cs.toArray) (h : ∀ g u,cA w0 u (bI g cs T :: is) → wpList P ops Q rest (Fr (l.set d (.pointer (some ⟨g,0,none⟩))) ds) u) :
 wpList P ops Q (Oper.mk (some d) (.alloc T) ty pos after none :: rest) (Fr l ds) w:=jW hZ hv fun u g e hg hB=>h g u (m.newB e hg hB)
theorem Zj {g off : Nat} {cs us : List Value} {t : TypeId} (m : cA w0 w is) (k : Nat) (hk : is[k]? = some (bI g cs t)) (hx : ev l x = .pointer (some ⟨g,off,none⟩)) (hv : (ev l y).cells = us.toArray) (hc : eN P T us.length) (hfit : off + us.length ≤ cs.length) (h1 : (us.all (·.oneCell')) = true)
 (h : ∀ u,cA w0 u (is.set k (bI g (bG cs off us) t)) → wpList P ops Q rest (Fr l ds) u) : wpList P ops Q (Oper.mk none (.store T x y) ty pos after none :: rest) (Fr l ds) w :=
 cZ hx hv hc (m.b k hk) hfit (tG h1) fun u hC hB=>h u (m.put k hk hC.os hC.tape hC.output (by rw [hC.size];exact Nat.le_refl _) (fun b _ hne=>hC.block b fun e=>hne (by rw [e];rfl)) hB (.inl fun _ h=>h))
theorem Kl {g off : Nat} {us xs : List Value} {E : TypeId} {c n cap : Nat} (m : cA w0 w is) (k : Nat) (hk : is[k]? = some (oI E c (some ⟨g,0,none⟩) n cap xs)) (hx : ev l x = .pointer (some ⟨g,off,none⟩)) (hv : (ev l y).cells = us.toArray) (hc : eN P T us.length) (hfit : off + us.length ≤ n * c) (h1 : (us.all (·.oneCell')) = true)
 (h : ∀ u,cA w0 u (is.set k (oI E c (some ⟨g,0,none⟩) n cap (bG xs off us))) → wpList P ops Q rest (Fr l ds) u) : wpList P ops Q (Oper.mk none (.store T x y) ty pos after none :: rest) (Fr l ds) w :=
 Zi hx hv hc (m.o k hk) hfit (tG h1) fun u hW hO=>h u (m.put k hk hW.os hW.tape hW.output hW.size (fun b hb hne=>hW.block b hb hne) (by
  refine ⟨hO.own.1,?_⟩;rcases hO.cases with ⟨e,_⟩ | ⟨g,cur,e,_,h2,h3⟩
  · cases e
  · cases e;exact .inr ⟨_,cap,cur,rfl,Nat.zero_le _,h2,h3⟩) (.inl fun _ h=>h))
theorem gG {v : Value} {f : FuncId} {fo : Operand} {xs : Array Operand} {args : List Value} {first cap : Array Value} {a0 : Array TypeId} (m : cA w0 w is) (hf : ev l fo = .func (.func f) first cap) (hxs : first.toList ++ xs.toList.map (ev l) ++ cap.toList = args) (hc : jG P f args v)
 (h : ∀ u,cA w0 u is → wpList P ops Q rest (Fr (l.set d v) ds) u) : wpList P ops Q (Oper.mk (some d) (.call { callee:=.value fo,args:=xs,argTypes:=a0 }) ty pos after none :: rest) (Fr l ds) w :=
 vV hf hxs hc fun u e=>h u (m.ext' e)
theorem eH {f : FuncId} {fo : Operand} {xs : Array Operand} {args : List Value} {first cap : Array Value} {a0 : Array TypeId} {R : Value → World → Prop} (m : cA w0 w is) (hf : ev l fo = .func (.func f) first cap) (hxs : first.toList ++ xs.toList.map (ev l) ++ cap.toList = args) (hc : eK P f args w R)
 (h : ∀ v u,cA w0 u is → R v u → wpList P ops Q rest (Fr (l.set d v) ds) u) : wpList P ops Q (Oper.mk (some d) (.call { callee:=.value fo,args:=xs,argTypes:=a0 }) ty pos after none :: rest) (Fr l ds) w :=
 bA hf hxs hc fun v u e hR=>h v u (m.ext' e) hR
def OR (E : TypeId) (c : Nat) (R : List Value → Prop) (w : World) (v : Value) (w' : World) : Prop:=∃ A n cap xs,v = .slice A n cap ∧ Ow w w' [] E c A n cap xs ∧ R xs
theorem eI {E : TypeId} {c n cap b nm mcap : Nat} {A B : Option Addr} {z : Value} {xs news : List Value} {a0 : Array TypeId} (m : cA w0 w is) (k : Nat) (hk : is[k]? = some (oI E c A n cap xs)) (ha : a0 = #[T,T]) (hu : P.underlying T = some (.slice E)) (hi : (P.info? E).map (fun i=>(i.size,i.bytes,i.zero)) = some (c,b,some z)) (hz : z.cells.size = c) (hc : 0 < c)
 (hs : ev l x = .slice A n cap) (hx : ev l y = .slice B nm mcap) (hl : news.length = nm * c) (hrow : ∀ j u,news[j]? = some u → ∃ a,B = some a ∧ w.cell? (a.add j) = some u) (h1 : ∀ u ∈ news,u.oneCell' = true) (h63 : n + nm ≤ 9223372036854775807) (hbytes : (n + nm) * b ≤ 140737488355328)
 (h : ∀ A' cap' u,cA w0 u (is.set k (oI E c A' (n + nm) cap' (xs ++ news))) → wpList P ops Q rest (Fr (l.set d (.slice A' (n + nm) cap')) ds) u) :
 wpList P ops Q (Oper.mk (some d) (.call { callee:=.builtin .append,args:=#[x,y],argTypes:=a0 }) ty pos after none :: rest) (Fr l ds) w :=
 Vf ha hu hi hz hc m.ext hs (m.o k hk) hx hl hrow h1 h63 hbytes fun A' cap' u hO hW hF=>h A' cap' u (m.put k hk hW.os hW.tape hW.output hW.size (fun b hb hne=>hW.block b hb hne) (by
  refine ⟨hO.own.1,?_⟩;rcases hO.cases with ⟨rfl,e1,rfl,_⟩ | ⟨g,cur,rfl,_,h2,h3⟩
  · exact .inl ⟨by rw [e1],e1⟩
  · exact .inr ⟨g,cap',cur,rfl,Nat.zero_le _,h2,h3⟩) (by
  rcases hF with rfl | hF
  · exact .inl fun _ h=>h
  · exact .inr fun b hb=>by
     have e : El A' = some b:=hb;rw [hF] at e;cases e;exact Nat.le_refl _))
theorem eP {cs : List Value} (m : cA w0 w is) (hv : ev l x = .agg cs.toArray) (h : ∀ g u,cA w0 u (bI g cs T :: is) → wpList P ops Q rest (Fr (l.set d (.pointer (some ⟨g,0,none⟩))) ds) u) :
 wpList P ops Q (Oper.mk (some d) (.box T x) ty pos after none :: rest) (Fr l ds) w:=ahe m (by rw [hv];rfl) h
theorem aS {g off : Nat} {cs us : List Value} {t : TypeId} (m : cA w0 w is) (k : Nat) (hk : is[k]? = some (bI g cs t)) (hx : ev l x = .pointer (some ⟨g,off,none⟩)) (hv : ev l y = .agg us.toArray) (hc : eN P T us.length) (hfit : off + us.length ≤ cs.length) (h1 : (us.all (·.oneCell')) = true)
 (h : ∀ u,cA w0 u (is.set k (bI g (bG cs off us) t)) → wpList P ops Q rest (Fr l ds) u) : wpList P ops Q (Oper.mk none (.store T x y) ty pos after none :: rest) (Fr l ds) w:=Zj m k hk hx (by rw [hv];rfl) hc hfit h1 h
theorem Km {g off : Nat} {cs : List Value} {v : Value} {t : TypeId} (m : cA w0 w is) (k : Nat) (hk : is[k]? = some (bI g cs t)) (hx : ev l x = .pointer (some ⟨g,off,none⟩)) (hv : ev l y = v) (hc : eN P T 1) (hfit : off + 1 ≤ cs.length) (h1 : v.oneCell' = true ∧ v.cells = #[v])
 (h : ∀ u,cA w0 u (is.set k (bI g (bG cs off [v]) t)) → wpList P ops Q rest (Fr l ds) u) : wpList P ops Q (Oper.mk none (.store T x y) ty pos after none :: rest) (Fr l ds) w:=Zj (us:=[v]) m k hk hx (by rw [hv,h1.2]) hc hfit (by simp [h1.1]) h
theorem gJ.full {g : Nat} {cs : List Value} {t : TypeId} (h : gJ w g cs t) (hA : gV P T true) (hc : eN P T cs.length) : wP P w T ⟨g,0,none⟩ (.agg cs.toArray):=by
 have:=h.row 0;rw [List.drop_zero] at this;exact this.lies hA hc
/-! ### Regions -/
theorem iU {id : Nat} {a : Act} {l : List Oper} (m : cA w0 w is) (n : Nat) (hm : P.follows .mixedOrders = true) (hB : Region.lexTailB .any l.toArray n = true)
 (h : wpQuiet P l.toArray (fun u=>cA w0 u is) (fun a'=>∀ u,cA w0 u is → wpList P l.toArray Q (l.drop n) a' u) (l.take n) a) : (Code.region id l.toArray true).wp P Q a w :=
 lF (C:=fun u=>cA w0 u is) n hm hB (m.ext' (dJ.refl w).drawn) h
theorem mq {id : Nat} {a : Act} {l : List Oper} (m : cA w0 w is) (hm : P.follows .mixedOrders = true) (hB : Region.lexB .any l.toArray = true)
 (h : wpQuiet P l.toArray (fun u=>cA w0 u is) (fun a'=>∀ u,cA w0 u is → Q .normal a' u) l a) : (Code.region id l.toArray true).wp P Q a w :=
 wp_region_quiet (C:=fun u=>cA w0 u is) hm hB (m.ext' (dJ.refl w).drawn) (by simpa using h)
theorem mh {id : Nat} {a : Act} {l : List Oper} (m : cA w0 w is) (bs : List Bool) (o : List (Nat × Bool)) (hm : P.follows .mixedOrders = true) (hB : (Region.noSelect l.toArray && decide (o.length = l.length) && Aq .any l.toArray o (Array.replicate l.toArray.size false)) = true)
 (hQ : ∀ c d v a w,Q (.panic c) (Act.put a d v) w → Q (.panic c) a w) {ol : List (Oper × Bool)} (hol : (o.map fun x=>((l.toArray[x.1]?).getD default,x.2)) = ol)
 (h : ∀ u,cA w0 u is → dQ P l.toArray (fun u=>cA w0 u (Mr bs is)) Q ol a u) : (Code.region id l.toArray true).wp P Q a w :=
 eJ o hm hB hQ hol fun u e=>⟨fun u=>cA w0 u (Mr bs is),(m.ext' e).sel bs,h u (m.ext' e)⟩
theorem Ms {id : Nat} {a : Act} {l : List Oper} (m : cA w0 w is) (bs : List Bool) (t : pN) (hm : P.follows .mixedOrders = true) (hB : (Region.noSelect l.toArray && t.ok .any l.toArray l.toArray.size (Array.replicate l.toArray.size false)) = true)
 (hQ : ∀ c d v a w,Q (.panic c) (Act.put a d v) w → Q (.panic c) a w)
 (h : ∀ u,cA w0 u is → dO P l.toArray (fun u=>cA w0 u (Mr bs is)) Q t a u) : (Code.region id l.toArray true).wp P Q a w :=
 uT t hm hB hQ fun u e=>⟨fun u=>cA w0 u (Mr bs is),(m.ext' e).sel bs,h u (m.ext' e)⟩
theorem mf1 {tl : List Oper} {i d : Nat} {T : TypeId} {cs : List Value} (m : cA w0 w is) (h : ∀ g u,cA w0 u (bI g cs T :: is) → wpList P ops Q tl (Fr (l.set d (.pointer (some ⟨g,0,none⟩))) ds) u) :
 ∀ E w',dJ w w' → Ek w.heap.size E [⟨i,d,T,cs⟩] w' → (∀ x ∈ [(⟨i,d,T,cs⟩ : Al)],∃ v,E x.i = some v) → wpList P ops Q tl (gF E [⟨i,d,T,cs⟩] (Fr l ds)) w' :=
 ads fun u g e hg hB=>h g u (m.newB e hg hB)
end
section
variable {P : Program} {w0 : World} {is : List It} {l : List Value} {x y : Operand} {T ty : TypeId}
variable {ops : Array Oper} {Q : Act → Prop} {rest : List Oper} {d : Nat} {pos : String} {after : Array Edge} {v : Value} {ds : List Deferred}
theorem ql {a : Addr} (hx : ev l x = .pointer (some a)) (hv : ∀ u,cA w0 u is → wP P u T a v) (h : wpQuiet P ops (fun u=>cA w0 u is) Q rest (Fr (l.set d v) ds)) : wpQuiet P ops (fun u=>cA w0 u is) Q (Oper.mk (some d) (.load T x) ty pos after none :: rest) (Fr l ds) :=
 xC (fun u m=>cC hx (hv u m)) h
theorem qc {f : FuncId} {fo : Operand} {xs : Array Operand} {args : List Value} {first cap : Array Value} {a0 : Array TypeId} (hf : ev l fo = .func (.func f) first cap) (hxs : first.toList ++ xs.toList.map (ev l) ++ cap.toList = args) (hc : ∀ u,cA w0 u is → eK P f args u fun x _=>x = v)
 (h : wpQuiet P ops (fun u=>cA w0 u is) Q rest (Fr (l.set d v) ds)) : wpQuiet P ops (fun u=>cA w0 u is) Q (Oper.mk (some d) (.call { callee:=.value fo,args:=xs,argTypes:=a0 }) ty pos after none :: rest) (Fr l ds):=by
 refine wpQuiet_step fun K hK=>?_;rw [if_pos (by simp [Region.wanted])];refine ⟨v,fun w' hw=>?_,?_⟩
 · unfold Oper.quietAt
   rw [iK,lX (hc w' hw).1 hf hxs _ rfl];refine ⟨rfl,(hc w' hw).2.mono ?_⟩;rintro e w'' ⟨u,rfl,hE,rfl⟩;exact ⟨rfl,hw.ext' hE⟩
 · show K ((Fr l ds).put (some d) v)
   rw [jT];exact hK _ h
theorem tJ {f : FuncId} {fo : Operand} {xs : Array Operand} {args : List Value} {first cap : Array Value} {a0 : Array TypeId} (hf : ev l fo = .func (.func f) first cap) (hxs : first.toList ++ xs.toList.map (ev l) ++ cap.toList = args) (hc : jG P f args v)
 (h : wpQuiet P ops (fun u=>cA w0 u is) Q rest (Fr (l.set d v) ds)) : wpQuiet P ops (fun u=>cA w0 u is) Q (Oper.mk (some d) (.call { callee:=.value fo,args:=xs,argTypes:=a0 }) ty pos after none :: rest) (Fr l ds):=qc hf hxs (fun u _=>hc u) h
end
end Go.Lith
namespace Go.Lith
open Go.RowKit
structure GX (w w' : World) : Prop where
 ext : dJ w w'
 dr : w.drawn ≤ w'.drawn
theorem GX.grow {w w' : World} (h : GX w w') : ∃ q os,w' = Sort.grow (w.drewN q) os:=by
 refine ⟨w'.drawn - w.drawn,w'.heap.extract w.heap.size w'.heap.size,?_⟩;have e1 : w.heap ++ w'.heap.extract w.heap.size w'.heap.size = w'.heap:=by
  apply Array.ext_getElem?;intro i;rw [Array.getElem?_append];split
  · rename_i hi
    exact (Below.block h.ext i hi).symm
  · rename_i hi
    rw [Array.getElem?_extract];have:=h.ext.size;split
    · congr 1;omega
    · rw [Array.getElem?_eq_none (by omega)]
 have e2 : w.drawn + (w'.drawn - w.drawn) = w'.drawn:=by have:=h.dr;omega
 have h1:=h.ext.os;have h2:=h.ext.tape;have h3:=h.ext.output;cases w;cases w';simp only[Sort.grow,World.drewN] at *
 subst h1 h2 h3;rw [e1,e2]
structure iQ (w0 w : World) (is : List It) : Prop where
 ext : GX w0 w
 mem : cA w0 w is
def uF (P : Program) (f : FuncId) (args : List Value) (v : Value) : Prop:=∀ w,bC P f ∧ Calls P f args.toArray w fun e w'=>∃ u,e = .returned u ∧ GX w w' ∧ u = v
theorem uF.pure {P : Program} {f : FuncId} {args : List Value} {v : Value} (h : uF P f args v) : jG P f args v:=fun w=>⟨(h w).1,(h w).2.mono fun _ _ ⟨u,he,hX,hv⟩=>⟨u,he,hX.ext,hv⟩⟩
section
variable {w0 w w' : World} {is : List It}
theorem iQ.refl (w : World) : iQ w w []:=⟨⟨dJ.refl w,Nat.le_refl _⟩,cA.refl w⟩
theorem iQ.go (m : iQ w0 w is) {js : List It} (h : cA w0 w' js) (d : w.drawn ≤ w'.drawn) : iQ w0 w' js:=⟨⟨h.ext,Nat.le_trans m.ext.dr d⟩,h⟩
theorem iQ.ext' (m : iQ w0 w is) (e : GX w w') : iQ w0 w' is:=m.go (m.mem.ext' e.ext) e.dr
theorem iQ.b (m : iQ w0 w is) (k : Nat) {g : Nat} {cs : List Value} {t : TypeId} (hk : is[k]? = some (bI g cs t)) : gJ w g cs t:=m.mem.b k hk
end
section
variable {P : Program} {ds : List Deferred} {l : List Value} {x y : Operand} {T ty : TypeId}
variable {ops : Array Oper} {Q : Exit → Act → World → Prop} {rest : List Oper} {d : Nat} {pos : String} {after : Array Edge} {w w0 : World} {is : List It} {v : Value}
theorem ae2 {cs : List Value} (m : iQ w0 w is) (hv : (ev l x).cells = cs.toArray) (h : ∀ g u,iQ w0 u (bI g cs T :: is) → wpList P ops Q rest (Fr (l.set d (.pointer (some ⟨g,0,none⟩))) ds) u) :
 wpList P ops Q (Oper.mk (some d) (.box T x) ty pos after none :: rest) (Fr l ds) w :=
 kY (w':=w.alloc (.cells cs.toArray T)) (v:=.pointer (some ⟨w.heap.size,0,none⟩)) (fun o ho _=>by simp [execOp,ho,dC,Instr.box,newVar,newRow,hv,newObj,Sem.run]) (h _ _ (m.go (m.mem.newB ((dJ.refl w).alloc _) (Nat.le_refl _) (iW w cs T)) (Nat.le_refl _)))
theorem tK {cs : List Value} (m : iQ w0 w is) (hv : ev l x = .agg cs.toArray) (h : ∀ g u,iQ w0 u (bI g cs T :: is) → wpList P ops Q rest (Fr (l.set d (.pointer (some ⟨g,0,none⟩))) ds) u) :
 wpList P ops Q (Oper.mk (some d) (.box T x) ty pos after none :: rest) (Fr l ds) w:=ae2 m (by rw [hv];rfl) h
theorem abX {cs : List Value} {z : Value} (m : iQ w0 w is) (hZ : mY P T z) (hv : z.cells = cs.toArray) (h : ∀ g u,iQ w0 u (bI g cs T :: is) → wpList P ops Q rest (Fr (l.set d (.pointer (some ⟨g,0,none⟩))) ds) u) :
 wpList P ops Q (Oper.mk (some d) (.alloc T) ty pos after none :: rest) (Fr l ds) w:=by
 obtain ⟨inf,hi,hz⟩:=hZ;exact kY (w':=w.alloc (.cells cs.toArray T)) (v:=.pointer (some ⟨w.heap.size,0,none⟩)) (fun o ho _=>by simp [execOp,ho,Instr.alloc,zeroValue,typeInfo,hi,hz,newVar,newRow,hv,newObj,Sem.run]) (h _ _ (m.go (m.mem.newB ((dJ.refl w).alloc _) (Nat.le_refl _) (iW w cs T)) (Nat.le_refl _)))
theorem abY {g off : Nat} {cs us : List Value} {t : TypeId} (m : iQ w0 w is) (k : Nat) (hk : is[k]? = some (bI g cs t)) (hx : ev l x = .pointer (some ⟨g,off,none⟩)) (hv : (ev l y).cells = us.toArray) (hc : eN P T us.length) (hfit : off + us.length ≤ cs.length) (h1 : (us.all (·.oneCell')) = true)
 (h : ∀ u,iQ w0 u (is.set k (bI g (bG cs off us) t)) → wpList P ops Q rest (Fr l ds) u) : wpList P ops Q (Oper.mk none (.store T x y) ty pos after none :: rest) (Fr l ds) w:=by
 have hB:=m.b k hk;have hC:=sW w g (bG cs off us).toArray;exact Cs (w':=w.setRow g (bG cs off us).toArray) (fun o ho=>by simp [execOp,ho,dC,hx,Instr.storeAt,Instr.sureAddr,xZ hc hv hB hfit (tG h1)])
  (h _ (m.go (m.mem.put k hk hC.os hC.tape hC.output (by rw [hC.size];exact Nat.le_refl _) (fun b _ hne=>hC.block b fun e=>hne (by rw [e];rfl)) (setRow_heap w g cs.toArray _ t _ hB) (.inl fun _ h=>h)) (Nat.le_refl _)))
theorem Zk {g off : Nat} {cs us : List Value} {t : TypeId} (m : iQ w0 w is) (k : Nat) (hk : is[k]? = some (bI g cs t)) (hx : ev l x = .pointer (some ⟨g,off,none⟩)) (hv : ev l y = .agg us.toArray) (hc : eN P T us.length) (hfit : off + us.length ≤ cs.length) (h1 : (us.all (·.oneCell')) = true)
 (h : ∀ u,iQ w0 u (is.set k (bI g (bG cs off us) t)) → wpList P ops Q rest (Fr l ds) u) : wpList P ops Q (Oper.mk none (.store T x y) ty pos after none :: rest) (Fr l ds) w:=abY m k hk hx (by rw [hv];rfl) hc hfit h1 h
theorem Kn {f : FuncId} {fo : Operand} {xs : Array Operand} {args : List Value} {first cap : Array Value} {a0 : Array TypeId} (m : iQ w0 w is) (hf : ev l fo = .func (.func f) first cap) (hxs : first.toList ++ xs.toList.map (ev l) ++ cap.toList = args) (hc : uF P f args v)
 (h : ∀ u,iQ w0 u is → wpList P ops Q rest (Fr (l.set d v) ds) u) : wpList P ops Q (Oper.mk (some d) (.call { callee:=.value fo,args:=xs,argTypes:=a0 }) ty pos after none :: rest) (Fr l ds) w:=by
 refine wpList_plain rfl fun K hK=>?_;unfold Oper.wp;rw [iK,lX (hc w).1 hf hxs _ rfl];refine (hc w).2.mono ?_;rintro e w' ⟨u,rfl,hE,rfl⟩;show K ((Fr l ds).put (some d) u) w'
 rw [jT];exact hK _ _ (h w' (m.ext' hE))
theorem iQ.drew (m : iQ w0 w is) : iQ w0 { w with drawn:=w.drawn + 1 } is:=m.ext' ⟨(dJ.refl w).drawn,Nat.le_succ _⟩
theorem Zl {id : Nat} {a : Act} {l : List Oper} (m : iQ w0 w is) (n : Nat) (hm : P.follows .mixedOrders = true) (hB : Region.lexTailB .any l.toArray n = true)
 (h : wpQuiet P l.toArray (fun u=>iQ w0 u is) (fun a'=>∀ u,iQ w0 u is → wpList P l.toArray Q (l.drop n) a' u) (l.take n) a) : (Code.region id l.toArray true).wp P Q a w :=
 lF (C:=fun u=>iQ w0 u is) n hm hB m.drew h
theorem Gmq {id : Nat} {a : Act} {l : List Oper} (m : iQ w0 w is) (hm : P.follows .mixedOrders = true) (hB : Region.lexB .any l.toArray = true)
 (h : wpQuiet P l.toArray (fun u=>iQ w0 u is) (fun a'=>∀ u,iQ w0 u is → Q .normal a' u) l a) : (Code.region id l.toArray true).wp P Q a w :=
 wp_region_quiet (C:=fun u=>iQ w0 u is) hm hB m.drew (by simpa using h)
end
section
variable {P : Program} {w0 : World} {is : List It} {l : List Value} {x y : Operand} {T ty : TypeId}
variable {ops : Array Oper} {Q : Act → Prop} {rest : List Oper} {d : Nat} {pos : String} {after : Array Edge} {v : Value} {ds : List Deferred}
theorem Gql {a : Addr} (hx : ev l x = .pointer (some a)) (hv : ∀ u,iQ w0 u is → wP P u T a v) (h : wpQuiet P ops (fun u=>iQ w0 u is) Q rest (Fr (l.set d v) ds)) : wpQuiet P ops (fun u=>iQ w0 u is) Q (Oper.mk (some d) (.load T x) ty pos after none :: rest) (Fr l ds) :=
 xC (fun u m=>cC hx (hv u m)) h
theorem Mt {f : FuncId} {fo : Operand} {xs : Array Operand} {args : List Value} {first cap : Array Value} {a0 : Array TypeId} (hf : ev l fo = .func (.func f) first cap) (hxs : first.toList ++ xs.toList.map (ev l) ++ cap.toList = args) (hc : uF P f args v)
 (h : wpQuiet P ops (fun u=>iQ w0 u is) Q rest (Fr (l.set d v) ds)) : wpQuiet P ops (fun u=>iQ w0 u is) Q (Oper.mk (some d) (.call { callee:=.value fo,args:=xs,argTypes:=a0 }) ty pos after none :: rest) (Fr l ds):=by
 refine wpQuiet_step fun K hK=>?_;rw [if_pos (by simp [Region.wanted])];refine ⟨v,fun w' hw=>?_,?_⟩
 · unfold Oper.quietAt
   rw [iK,lX (hc w').1 hf hxs _ rfl];refine ⟨rfl,(hc w').2.mono ?_⟩;rintro e w'' ⟨u,rfl,hE,rfl⟩;exact ⟨rfl,hw.ext' hE⟩
 · show K ((Fr l ds).put (some d) v)
   rw [jT];exact hK _ h
end
end Go.Lith
namespace Go.Lith
open Go.RowKit
def P3.Lt (p q : P3) : Prop:=p.x < q.x ∨ p.x = q.x ∧ (p.y < q.y ∨ p.y = q.y ∧ p.z < q.z)
instance (p q : P3) : Decidable (p.Lt q):=by unfold P3.Lt;infer_instance
def yI (p q : P3) : Int:=if p.Lt q then -1 else if q.Lt p then 1 else 0
theorem P3.eq {p q : P3} (h1 : p.x = q.x) (h2 : p.y = q.y) (h3 : p.z = q.z) : p = q:=by
 cases p;cases q;simp_all
instance : DecidableEq P3:=fun p q=>if h : p.x = q.x ∧ p.y = q.y ∧ p.z = q.z then isTrue (P3.eq h.1 h.2.1 h.2.2) else isFalse fun e=>h (by subst e;exact ⟨rfl,rfl,rfl⟩)
theorem P3.lt_irrefl (p : P3) : ¬ p.Lt p:=by unfold P3.Lt;omega
theorem P3.lt_trans {p q r : P3} (h : p.Lt q) (k : q.Lt r) : p.Lt r:=by unfold P3.Lt at *;omega
theorem P3.lt_tri (p q : P3) : p.Lt q ∨ p = q ∨ q.Lt p:=by
 by_cases h1 : p.x = q.x
 · by_cases h2 : p.y = q.y
   · by_cases h3 : p.z = q.z
     · exact .inr (.inl (P3.eq h1 h2 h3))
     · unfold P3.Lt;omega
   · unfold P3.Lt;omega
 · unfold P3.Lt;omega
theorem P3.lt_x {p q : P3} (h : ¬ p.x = q.x) : p.Lt q ↔ p.x < q.x:=by unfold P3.Lt;omega
theorem P3.lt_y {p q : P3} (h : p.x = q.x) (h2 : ¬ p.y = q.y) : p.Lt q ↔ p.y < q.y:=by unfold P3.Lt;omega
theorem P3.lt_z {p q : P3} (h : p.x = q.x) (h2 : p.y = q.y) : p.Lt q ↔ p.z < q.z:=by unfold P3.Lt;omega
end Go.Lith
namespace Go.Lith
open Go.RowKit
@[irreducible] def Ma (c : Bool) (v : Value) : Value:=if c then v else undef
theorem nH {v : Value} : Ma true v = v:=by simp [Ma]
theorem Ic {v : Value} : Ma false v = undef:=by simp [Ma]
theorem bK {c : Bool} {u v : Value} (hb : c = true) (h : u = Ma c v) : u = v:=by rw [h,hb,nH]
section
variable {P : Program} {ds : List Deferred} {l : List Value} {x y : Operand} {T ty : TypeId} {b c : Bool} {v : Value}
theorem cK {z : Operand} (hz : ev l z = .bool b) (hx : ev l x = Ma b (.bool c)) (hy : ev l y = .bool false) : iH P l (.pick z x y) ty (.bool (b && c)):=by
 have:=Jw (P:=P) (ty:=ty) (x:=x) (y:=y) hz;cases b with
 | false=>simpa [hy] using this
 | true=>simpa [hx,nH] using this
theorem fT {z : Operand} (hz : ev l z = .bool b) (hx : ev l x = .bool true) (hy : ev l y = Ma (!b) (.bool c)) : iH P l (.pick z x y) ty (.bool (b || c)):=by
 have:=Jw (P:=P) (ty:=ty) (x:=x) (y:=y) hz;cases b with
 | false=>simpa [hy,nH] using this
 | true=>simpa [hx] using this
end
section
variable {P : Program} {ops : Array Oper} {Q : Exit → Act → World → Prop} {rest : List Oper} {d j : Nat} {op : Op} {ty : TypeId} {pos : String} {after : Array Edge} {v : Value} {b : Bool} {ds : List Deferred} {l : List Value} {w w0 : World} {is : List It}
theorem eW (hw : yielded ops l.toArray j = some b) (hr : b = true → xB P l op ty v w) (h : wpList P ops Q rest (Fr (l.set d (Ma b v)) ds) w) : wpList P ops Q (Oper.mk (some d) op ty pos after (some (j,true)) :: rest) (Fr l ds) w:=by
 cases b with
 | false=>rw [Ic] at h;exact cD hw h
 | true=>rw [nH] at h;exact bN hw (fP (hr rfl) h)
theorem oR (hw : yielded ops l.toArray j = some b) (hr : (!b) = true → xB P l op ty v w) (h : wpList P ops Q rest (Fr (l.set d (Ma (!b) v)) ds) w) : wpList P ops Q (Oper.mk (some d) op ty pos after (some (j,false)) :: rest) (Fr l ds) w:=by
 cases b with
 | true=>rw [Bool.not_true,Ic] at h;exact fV hw h
 | false=>rw [Bool.not_false,nH] at h;exact bN hw (fP (hr rfl) h)
theorem cW (hw : yielded ops l.toArray j = some b) (hr : b = true → iH P l op ty v) (h : wpList P ops Q rest (Fr (l.set d (Ma b v)) ds) w) : wpList P ops Q (Oper.mk (some d) op ty pos after (some (j,true)) :: rest) (Fr l ds) w:=eW hw (fun e=>hr e w) h
theorem fH (hw : yielded ops l.toArray j = some b) (hr : (!b) = true → iH P l op ty v) (h : wpList P ops Q rest (Fr (l.set d (Ma (!b) v)) ds) w) : wpList P ops Q (Oper.mk (some d) op ty pos after (some (j,false)) :: rest) (Fr l ds) w:=oR hw (fun e=>hr e w) h
end
section
variable {P : Program} {ops : Array Oper} {Q : Act → Prop} {C : World → Prop} {rest : List Oper} {d j : Nat} {op : Op} {ty : TypeId} {pos : String} {after : Array Edge} {v : Value} {b : Bool} {ds : List Deferred} {l : List Value} {w0 : World} {is : List It}
theorem iB (hw : yielded ops l.toArray j = some b) (hr : b = true → ∀ u,C u → xB P l op ty v u) (h : wpQuiet P ops C Q rest (Fr (l.set d (Ma b v)) ds)) : wpQuiet P ops C Q (Oper.mk (some d) op ty pos after (some (j,true)) :: rest) (Fr l ds):=by
 cases b with
 | false=>rw [Ic] at h;exact iL hw h
 | true=>rw [nH] at h;exact eT hw (xC (hr rfl) h)
theorem iC (hw : yielded ops l.toArray j = some b) (hr : (!b) = true → ∀ u,C u → xB P l op ty v u) (h : wpQuiet P ops C Q rest (Fr (l.set d (Ma (!b) v)) ds)) : wpQuiet P ops C Q (Oper.mk (some d) op ty pos after (some (j,false)) :: rest) (Fr l ds):=by
 cases b with
 | true=>rw [Bool.not_true,Ic] at h;exact lJ hw h
 | false=>rw [Bool.not_false,nH] at h;exact eT hw (xC (hr rfl) h)
theorem cN (hw : yielded ops l.toArray j = some b) (hr : b = true → iH P l op ty v) (h : wpQuiet P ops C Q rest (Fr (l.set d (Ma b v)) ds)) : wpQuiet P ops C Q (Oper.mk (some d) op ty pos after (some (j,true)) :: rest) (Fr l ds):=iB hw (fun e u _=>hr e u) h
theorem dV (hw : yielded ops l.toArray j = some b) (hr : (!b) = true → iH P l op ty v) (h : wpQuiet P ops C Q rest (Fr (l.set d (Ma (!b) v)) ds)) : wpQuiet P ops C Q (Oper.mk (some d) op ty pos after (some (j,false)) :: rest) (Fr l ds):=iC hw (fun e u _=>hr e u) h
end
section
variable {P : Program} {ops : Array Oper} {S : World → Prop} {Q : Exit → Act → World → Prop} {rest : List (Oper × Bool)} {d j : Nat} {op : Op} {ty : TypeId} {pos : String} {after : Array Edge} {v : Value} {b : Bool} {ds : List Deferred} {l : List Value} {w : World}
end
end Go.Lith
namespace Go.Lith
open Go.RowKit
end Go.Lith
namespace Go.Lith
open Go.RowKit Go.ChangeShapes
variable {H : Type} {enc : TypeId × Value → H} {P : Program} {w : World} {base : Nat} {spare : Nat → Bool} {held : Bool}
def nI (P : Program) : Nat → TypeId → Bool
 | 0,_=>false
 | n + 1,t=>match P.underlying t with
  | some (.int .i64)=>decide (P.cellsOf t = 1)
  | some (.struct fs)=>(fs.toList.all fun f=>nI P n f.type) && (List.range (P.cellsOf t)).all fun i=>fs.toList.any fun f=>decide (f.offset ≤ i) && decide (i < f.offset + P.cellsOf f.type)
  | some (.array m e)=>nI P n e && decide (P.cellsOf t = m * P.cellsOf e)
  | _=>false
theorem Zm {n : Int} (h : (Lit.int .i64 n).wf = true) : nR n:=by
 have:=bounds_i64 h;exact ⟨by omega,by omega⟩
theorem nJ : ∀ (n : Nat) (t : TypeId) (m : Nat) (cs : List Value) (x : DataW H × List MemPlace),nI P n t = true → DataW.trod enc P w base spare held m t cs = some x →
 cs.length = P.cellsOf t ∧ ∀ v ∈ cs,∃ z,v = .int .i64 z ∧ nR z
 | 0,t,m,cs,x,h,_=>by cases h
 | n + 1,t,m,cs,x,h,hx=>by
  unfold nI at h;split at h
  · rename_i hu
    obtain ⟨z,rfl,_,hz⟩:=DataW.trod_int hu hx;refine ⟨by rw [of_decide_eq_true h];rfl,fun v hv=>⟨z,by simpa using hv,Zm hz⟩⟩
  · rename_i fs hu
    simp only[Bool.and_eq_true,List.all_eq_true,List.any_eq_true,decide_eq_true_eq,List.mem_range] at h;obtain ⟨ys,k,_,_,hl,hlen,hf⟩:=DataW.trod_struct hu hx;refine ⟨hl,fun v hv=>?_⟩;obtain ⟨i,hi,rfl⟩:=List.getElem_of_mem hv;obtain ⟨f,hfm,h1,h2⟩:=h.2 i (by rw [← hl];exact hi);obtain ⟨j,hj,rfl⟩:=List.getElem_of_mem hfm;have hj' : j < fs.size:=by simpa using hj
    have:=hf j fs[j] (Array.getElem?_eq_getElem hj');rw [List.getElem?_eq_getElem (by rw [hlen];exact hj')] at this;have hr:=(nJ n _ _ _ _ (h.1 _ (List.getElem_mem hj)) this).2;refine hr _ ?_;simp only[Array.getElem_toList] at h1 h2;refine List.mem_of_getElem? (i:=i - fs[j].offset) ?_;rw [List.getElem?_take,if_pos (by omega),List.getElem?_drop,show fs[j].offset + (i - fs[j].offset) = i by omega];exact List.getElem?_eq_getElem hi
  · rename_i q e hu
    simp only[Bool.and_eq_true,decide_eq_true_eq] at h;obtain ⟨ys,k,_,_,hl,hlen,hf⟩:=DataW.trod_array hu hx;refine ⟨hl,fun v hv=>?_⟩;obtain ⟨i,hi,rfl⟩:=List.getElem_of_mem hv;rw [hl,h.2] at hi;have hc : 0 < P.cellsOf e:=by
     rcases Nat.eq_zero_or_pos (P.cellsOf e) with h0 | h0
     · rw [h0] at hi;omega
     · exact h0
    have hq : i / P.cellsOf e < q:=Nat.div_lt_of_lt_mul (by rw [Nat.mul_comm];exact hi);have:=hf _ hq;rw [List.getElem?_eq_getElem (by rw [hlen];exact hq)] at this;have hr:=(nJ n _ _ _ _ h.1 this).2;refine hr _ (List.mem_of_getElem? (i:=i % P.cellsOf e) ?_);rw [List.getElem?_take,if_pos (Nat.mod_lt _ hc),List.getElem?_drop,Nat.mul_comm,Nat.div_add_mod];exact List.getElem?_eq_getElem _
  · cases h
theorem Ie : ∀ (n : Nat) (cs : List Value),cs.length = n → (∀ v ∈ cs,∃ z,v = .int .i64 z ∧ nR z) → ∃ zs : List Int,zs.length = n ∧ cs = zs.map (.int .i64 ·) ∧ ∀ z ∈ zs,nR z
 | 0,[],_,_=>⟨[],rfl,rfl,fun _ h=>by cases h⟩
 | n + 1,v :: vs,h,hv=>by
  obtain ⟨zs,h1,h2,h3⟩:=Ie n vs (by simpa using h) (fun u hu=>hv u (by simp [hu]));obtain ⟨z,rfl,hz⟩:=hv v (by simp);exact ⟨z :: zs,by simp [h1],by simp [h2],fun u hu=>by rcases List.mem_cons.1 hu with rfl | hu;exact hz;exact h3 _ hu⟩
theorem Qq {a : Addr} {n : Nat} {cs : List Value} (h : w.cells? base a n = some cs) : jK w a cs ∧ base ≤ a.block:=by
 unfold World.cells? at h;split at h
 · rename_i hb
   refine ⟨fun j u hj=>?_,hb⟩;have hl:=mapM_some_length h;have hj' : j < cs.length:=(List.getElem?_eq_some_iff.1 hj).1;rw [hl] at hj';have:=mapM_some_get h j j (List.getElem?_eq_getElem hj' ▸ by simp);rw [this,hj]
 · cases h
theorem If {n m : Nat} {t e : TypeId} {fuel : Nat} {cs : List Value} {x : DataW H × List MemPlace} (hu : P.underlying t = some (.slice e)) (hi : nI P n e = true) (hc : P.cellsOf e = m) (h : DataW.trod enc P w base spare held fuel t cs = some x) :
 ∃ (A : Option Addr) (len cap : Nat),cs = [.slice A len cap] ∧ len ≤ cap ∧ cap ≤ maxLen ∧ (A = none → len = 0) ∧ ∀ i,i < len → ∃ (a : Addr) (zs : List Int),A = some a ∧ base ≤ a.block ∧ jK w (a.add (i * m)) (zs.map (Value.int .i64 ·)) ∧ zs.length = m ∧ ∀ z ∈ zs,nR z:=by
 rcases Deep.open_slice hu h with ⟨rfl,_⟩ | ⟨a,len,cap,k,q,D,Pl,rfl,hb,hl,hm,hk,_,hx⟩
 · exact ⟨none,0,0,rfl,Nat.le_refl _,Nat.zero_le _,fun _=>rfl,fun i hi=>absurd hi (Nat.not_lt_zero _)⟩
 · refine ⟨some a,len,cap,rfl,hl,hm,fun h=>(by cases h),fun i hi'=>?_⟩
   obtain ⟨cs',h1,h2⟩:=hx i (by rw [hk];split <;> omega);obtain ⟨h3,h4⟩:=nJ n e q _ _ hi h2;obtain ⟨zs,h5,rfl,h6⟩:=Ie m cs' (by rw [← hc];exact h3) h4;rw [hc] at h1;exact ⟨a,zs,rfl,hb,(Qq h1).1,h5,h6⟩
theorem uX {α : Type} {p : Nat → α → Prop} : ∀ (n : Nat),(∀ i,i < n → ∃ x,p i x) → ∃ l : List α,l.length = n ∧ ∀ i x,l[i]? = some x → p i x
 | 0,_=>⟨[],rfl,fun i x h=>by simp at h⟩
 | n + 1,h=>by
  obtain ⟨l,h1,h2⟩:=uX n (fun i hi=>h i (by omega));obtain ⟨x,hx⟩:=h n (by omega);refine ⟨l ++ [x],by simp [h1],fun i y hy=>?_⟩;rcases Nat.lt_trichotomy i n with hi | hi | hi
  · exact h2 i y (by rwa [List.getElem?_append_left (by omega)] at hy)
  · subst hi
    rw [List.getElem?_append_right (by omega),h1,Nat.sub_self] at hy;cases hy;exact hx
  · rw [List.getElem?_append_right (by omega),h1] at hy
    have : i - n ≠ 0:=by omega
    cases hd : i - n with
    | zero=>omega
    | succ j=>rw [hd] at hy;simp at hy
structure pH (w : World) (A : Option Addr) (n : Nat) (zs : List Int) : Prop where
 len : zs.length = n
 it : ∀ z ∈ zs,nR z
 row : ∀ i z,zs[i]? = some z → ∃ a,A = some a ∧ w.cell? (a.add i) = some (.int .i64 z)
theorem pH.ext {w' : World} {A : Option Addr} {n : Nat} {zs : List Int} (h : pH w A n zs) (hE : dJ w w') : pH w' A n zs :=
 ⟨h.len,h.it,fun i z hi=>let ⟨a,e,hr⟩:=h.row i z hi;⟨a,e,hE.cell hr⟩⟩
theorem pH.get {A : Option Addr} {n : Nat} {zs : List Int} (h : pH w A n zs) {i : Nat} (hi : i < n) : ∃ z,zs[i]? = some z ∧ Iw z ∧ ∃ a,A = some a ∧ w.cell? (a.add i) = some (.int .i64 z):=by
 have hl : i < zs.length:=by rw [h.len];exact hi
 exact ⟨zs[i],List.getElem?_eq_getElem hl,⟨h.it _ (List.getElem_mem hl)⟩,h.row i _ (List.getElem?_eq_getElem hl)⟩
theorem Qr {n : Nat} {t e : TypeId} {fuel : Nat} {cs : List Value} {x : DataW H × List MemPlace} (hu : P.underlying t = some (.slice e)) (hi : nI P n e = true) (hc : P.cellsOf e = 1) (h : DataW.trod enc P w base spare held fuel t cs = some x) :
 ∃ (A : Option Addr) (len cap : Nat) (zs : List Int),cs = [.slice A len cap] ∧ len ≤ cap ∧ cap ≤ maxLen ∧ (A = none → len = 0) ∧ pH w A len zs:=by
 obtain ⟨A,len,cap,rfl,h1,h2,h3,h4⟩:=If hu hi hc h;obtain ⟨zs,h5,h6⟩:=uX (p:=fun i (z : Int)=>nR z ∧ ∃ a,A = some a ∧ w.cell? (a.add i) = some (.int .i64 z)) len (fun i hi=>by
  obtain ⟨a,zs,rfl,_,hr,hl,hz⟩:=h4 i hi
  match zs,hl with
  | [z],_=>exact ⟨z,hz _ (by simp),a,rfl,by have:=hr 0 _ rfl;rwa [Nat.mul_one,iS,Nat.add_zero] at this⟩)
 refine ⟨A,len,cap,zs,rfl,h1,h2,h3,h5,fun z hz=>?_,fun i z hz=>(h6 i z hz).2⟩;obtain ⟨i,hi,rfl⟩:=List.getElem_of_mem hz;exact (h6 i _ (List.getElem?_eq_getElem hi)).1
end Go.Lith
namespace Go.Lith
open Go.RowKit
theorem Zn {n m : Int} (hm : 0 < m) : -m < n.tmod m ∧ n.tmod m < m:=by
 have h1:=Int.tmod_lt_of_pos n hm;have h2:=Int.tmod_lt_of_pos (-n) hm;rw [Int.neg_tmod] at h2;omega
theorem Sz {n m : Int} (hm : 0 < m) : (n.tmod m + m).tmod m = n % m:=by
 have hb:=Zn (n:=n) hm;rw [Int.tmod_eq_emod_of_nonneg (by omega)];rcases Int.le_total 0 n with h | h
 · rw [Int.tmod_eq_emod_of_nonneg h]
   simp
 · have e : n.tmod m = -((-n) % m):=by
    rw [← Int.tmod_eq_emod_of_nonneg (show 0 ≤ -n by omega),Int.neg_tmod,Int.neg_neg]
   rw [e,Int.add_emod_right];have h2:=Int.emod_add_mul_ediv (-n) m;have h3 : -((-n) % m) = n + m * (-n / m):=by omega
   rw [h3,Int.add_mul_emod_self_left]
theorem nK {n m : Int} (hm : 0 < m) : 0 ≤ n % m ∧ n % m < m:=⟨Int.emod_nonneg _ (by omega),Int.emod_lt_of_pos _ hm⟩
/-! ### Hills -/
def hgt (zs : List Int) (x y : Nat) : Int:=(zs[(y * 7 + x) % zs.length]?.getD 0) % 64
theorem adu (zs : List Int) (x y : Nat) : 0 ≤ hgt zs x y ∧ hgt zs x y < 64:=nK (by decide)
def lQ (s : Int) (zs : List Int) (x y : Nat) : P3:=⟨(x : Int) * s,(y : Int) * s,100 + hgt zs x y⟩
def nL (a b c d : P3) : List T3:=[⟨a,b,c⟩,⟨a,c,d⟩]
def Mu (s : Int) (zs : List Int) (y x : Nat) : List T3:=nL (lQ s zs x y) (lQ s zs (x + 1) y) (lQ s zs (x + 1) (y + 1)) (lQ s zs x (y + 1))
def fM (s : Int) (zs : List Int) (n y x : Nat) : List T3:=((List.range y).flatMap fun y=>(List.range n).flatMap (Mu s zs y)) ++ (List.range x).flatMap (Mu s zs y)
def xI (s : Int) (zs : List Int) (n : Nat) : List T3:=(List.range n).flatMap fun y=>(List.range n).flatMap (Mu s zs y)
theorem tL {s : Int} {zs : List Int} {n : Nat} : fM s zs n n 0 = xI s zs n:=by simp [fM,xI]
theorem Ko {s : Int} {zs : List Int} {n y : Nat} : fM s zs n y n = fM s zs n (y + 1) 0:=by
 simp [fM,List.range_succ,List.flatMap_append]
theorem Hh {s : Int} {zs : List Int} {n y x : Nat} : fM s zs n y (x + 1) = fM s zs n y x ++ Mu s zs y x:=by
 simp [fM,List.range_succ,List.flatMap_append]
theorem oY {α β : Type} {f : α → List β} {k : Nat} : ∀ (l : List α),(∀ x ∈ l,(f x).length = k) → (l.flatMap f).length = l.length * k
 | [],_=>by simp
 | x :: l,h=>by
  rw [List.flatMap_cons,List.length_append,h x (by simp),oY l (fun y hy=>h y (by simp [hy])),List.length_cons,Nat.add_mul,Nat.one_mul,Nat.add_comm]
theorem pI {s : Int} {zs : List Int} {n y x : Nat} : (fM s zs n y x).length = y * (n * 2) + x * 2:=by
 unfold fM;rw [List.length_append,oY (k:=n * 2) _ (fun y _=>by rw [oY (k:=2) _ (fun _ _=>rfl),List.length_range]),oY (k:=2) _ (fun _ _=>rfl),List.length_range,List.length_range]
def Sm (k : Int) (p : P3) : Prop:=(0 ≤ p.x ∧ p.x ≤ k) ∧ (0 ≤ p.y ∧ p.y ≤ k) ∧ (0 ≤ p.z ∧ p.z ≤ k)
def SmT (k : Int) (t : T3) : Prop:=Sm k t.a ∧ Sm k t.b ∧ Sm k t.c
theorem Ta {k : Int} {a b c d : P3} (ha : Sm k a) (hb : Sm k b) (hc : Sm k c) (hd : Sm k d) : ∀ t ∈ nL a b c d,SmT k t:=fun t ht=>by
 simp only[nL,List.mem_cons,List.not_mem_nil,or_false] at ht;rcases ht with rfl | rfl
 · exact ⟨ha,hb,hc⟩
 · exact ⟨ha,hc,hd⟩
theorem yJ {zs : List Int} {x y : Nat} (hx : x ≤ 6) (hy : y ≤ 6) : Sm 200 (lQ 10 zs x y):=by
 have:=adu zs x y;simp only[Sm,lQ];omega
theorem Mw {zs : List Int} {x y : Nat} (hx : x < 6) (hy : y < 6) : ∀ t ∈ Mu 10 zs y x,SmT 200 t :=
 Ta (yJ (by omega) (by omega)) (yJ (by omega) (by omega)) (yJ (by omega) (by omega)) (yJ (by omega) (by omega))
theorem Mx {zs : List Int} {n x y : Nat} (hn : n ≤ 6) (hx : x ≤ 6) (hy : y ≤ 6) (hxy : x = 0 ∨ y < 6) : ∀ t ∈ fM 10 zs n y x,SmT 200 t:=fun t ht=>by
 rcases List.mem_append.1 ht with h | h
 · obtain ⟨v,hv,h⟩:=List.mem_flatMap.1 h
   obtain ⟨u,hu,h⟩:=List.mem_flatMap.1 h;exact Mw (by have:=List.mem_range.1 hu;omega) (by have:=List.mem_range.1 hv;omega) t h
 · obtain ⟨u,hu,h⟩:=List.mem_flatMap.1 h
   have:=List.mem_range.1 hu;exact Mw (by omega) (by omega) t h
/-! ### Cubes -/
def cU (p : P3) (s : Int) (n : Nat) : P3:=⟨p.x + ((n % 2 : Nat) : Int) * s,p.y + ((n / 2 % 2 : Nat) : Int) * s,p.z + ((n / 4 : Nat) : Int) * s⟩
def uY (p : P3) (s : Int) : List T3:=nL (cU p s 0) (cU p s 2) (cU p s 3) (cU p s 1) ++ nL (cU p s 4) (cU p s 5) (cU p s 7) (cU p s 6) ++ nL (cU p s 0) (cU p s 1) (cU p s 5) (cU p s 4)
 ++ nL (cU p s 2) (cU p s 6) (cU p s 7) (cU p s 3) ++ nL (cU p s 0) (cU p s 4) (cU p s 6) (cU p s 2) ++ nL (cU p s 1) (cU p s 3) (cU p s 7) (cU p s 5)
theorem pO (p : P3) (s : Int) : (uY p s).length = 12:=rfl
def vP (n : Nat) : P3:=⟨4 + ((n % 3 : Nat) : Int) * 8,5 + ((n / 3 % 3 : Nat) : Int) * 8,6 + ((n / 9 : Nat) : Int) * 8⟩
def stx (f : Nat) : Int:=if f = 4 then -1 else if f = 5 then 1 else 0
def sty (f : Nat) : Int:=if f = 2 then -1 else if f = 3 then 1 else 0
def stz (f : Nat) : Int:=if f = 0 then -1 else if f = 1 then 1 else 0
def Aw (b : Nat) (n : Nat) : Bool:=decide (b / 2 ^ n % 2 = 1)
def wV (b n f : Nat) : Bool :=
 let u:=((n % 3 : Nat) : Int) + stx f
 let v:=((n / 3 % 3 : Nat) : Int) + sty f
 let w:=((n / 9 : Nat) : Int) + stz f
 !(decide (0 ≤ u) && decide (u < 3) && decide (0 ≤ v) && decide (v < 3) && decide (0 ≤ w) && decide (w < 3)) || !Aw b ((w * 3 + v) * 3 + u).toNat
def uG (n f : Nat) : List T3:=((uY (vP n) 8).drop (2 * f)).take 2
def oB (b n f : Nat) : List T3:=(List.range f).flatMap fun f=>if wV b n f then uG n f else []
def iF (b n f : Nat) : List T3:=((List.range n).flatMap fun n=>if Aw b n then oB b n 6 else []) ++ oB b n f
def Qs (b : Nat) : List T3:=(List.range 27).flatMap fun n=>if Aw b n then oB b n 6 else []
theorem Em {b : Nat} : iF b 27 0 = Qs b:=by simp [iF,Qs,oB]
theorem Qt {b n : Nat} (h : Aw b n = true) : iF b n 6 = iF b (n + 1) 0:=by
 simp [iF,List.range_succ (n:=n),List.flatMap_append,h,oB]
theorem Vg {b n : Nat} (h : Aw b n = false) : iF b n 0 = iF b (n + 1) 0:=by
 simp [iF,List.range_succ (n:=n),List.flatMap_append,h,oB]
theorem Ig {b n f : Nat} (h : wV b n f = true) : iF b n (f + 1) = iF b n f ++ uG n f:=by
 simp [iF,oB,List.range_succ (n:=f),List.flatMap_append,h]
theorem Qu {b n f : Nat} (h : wV b n f = false) : iF b n (f + 1) = iF b n f:=by
 simp [iF,oB,List.range_succ (n:=f),List.flatMap_append,h]
/-! ### What the walks ask for -/
theorem Ih {k c : Nat} : (k : Int).tmod (c : Int) = ((k % c : Nat) : Int):=rfl
theorem ae3 {b : Nat} {n : Int} (h0 : 0 ≤ n) (h : n ≤ 63) : (b : Int).fdiv (2 ^ (min n.toNat IntKind.i64.bits)) = ((b / 2 ^ n.toNat : Nat) : Int):=by
 have e : min n.toNat IntKind.i64.bits = n.toNat:=Nat.min_eq_left (by show n.toNat ≤ 64;omega);rw [e,Int.fdiv_eq_ediv_of_nonneg _ (by exact Int.le_of_lt (Int.pow_pos (by decide)))];simp
theorem ae4 {x : Nat} (h : x < 9223372036854775808) : IntKind.i64.wrap ((BitVec.ofInt IntKind.i64.bits (x : Int) &&& BitVec.ofInt IntKind.i64.bits 1).toNat : Int) = ((x % 2 : Nat) : Int):=by
 have e : (BitVec.ofInt IntKind.i64.bits (x : Int) &&& BitVec.ofInt IntKind.i64.bits 1).toNat = x % 2:=by
  show (BitVec.ofInt 64 (x : Int) &&& BitVec.ofInt 64 1).toNat = x % 2
  rw [BitVec.toNat_and,BitVec.toNat_ofInt,BitVec.toNat_ofInt];have h1 : ((x : Int) % ((2 ^ 64 : Nat) : Int)).toNat = x:=by
   have : ((2 ^ 64 : Nat) : Int) = 18446744073709551616:=rfl;rw [this];omega
  have h2 : ((1 : Int) % ((2 ^ 64 : Nat) : Int)).toNat = 1:=rfl;rw [h1,h2,Nat.and_one_is_mod]
 rw [e];exact aM (by omega) (by omega)
theorem Zo {b n : Nat} (h : b < 134217728) : b / 2 ^ n < 9223372036854775808:=Nat.lt_of_le_of_lt (Nat.div_le_self _ _) (by omega)
theorem Zp {zs : List Int} {x y N : Nat} {z : Int} (hl : zs.length = N) (hz : zs[(y * 7 + x) % N]? = some z) : hgt zs x y = z % 64:=by
 unfold hgt;rw [hl,hz];rfl
theorem abZ {zs : List Int} {x y N : Nat} (hl : zs.length = N) (h : ¬ (0 : Int) < (N : Int)) : hgt zs x y = 0:=by
 have : zs = []:=List.eq_nil_of_length_eq_zero (by omega);subst this;rfl
theorem Zq {s : Int} {zs : List Int} {n y x : Nat} : (fM s zs n y x).flatMap aX ++ (nL (lQ s zs x y) (lQ s zs (x + 1) y) (lQ s zs (x + 1) (y + 1)) (lQ s zs x (y + 1))).flatMap aX = (fM s zs n y (x + 1)).flatMap aX:=by
 rw [Hh,List.flatMap_append];rfl
theorem Zr {s : Int} {zs : List Int} {n y x : Nat} {a b c d : P3} : (fM s zs n y x).length + (nL a b c d).length = (fM s zs n y (x + 1)).length:=by
 rw [pI,pI];show _ + 2 = _
 omega
theorem uZ {s : Int} {zs : List Int} {n y x : Nat} (hn : n ≤ 6) (hy : y ≤ 6) (hx : x ≤ 6) : (fM s zs n y x).length ≤ 84:=by
 rw [pI];have : y * (n * 2) ≤ 6 * (6 * 2):=Nat.mul_le_mul hy (by omega);omega
theorem Vh {zs : List Int} {n : Nat} (hn : n ≤ 6) : ∀ t ∈ xI 10 zs n,SmT 200 t:=by
 rw [← tL];exact Mx hn (by omega) hn (.inl rfl)
theorem Vi {s : Int} {zs : List Int} {n : Nat} (hn : n ≤ 6) : (xI s zs n).length ≤ 84:=by
 rw [← tL];exact uZ hn hn (by omega)
def TS (E : TypeId) (ts : List T3) (w : World) (v : Value) (w' : World) : Prop:=∃ A cap n,n = ts.length ∧ v = .slice A n cap ∧ Ow w w' [] E 9 A n cap (ts.flatMap aX)
theorem Ow.tri {w0 w : World} {S : List (Option Nat)} {E : TypeId} {n cap g i : Nat} {ts : List T3} {t : T3} (h : Ow w0 w S E 9 (Option.some ⟨g,0,none⟩) n cap (ts.flatMap aX)) (ht : ts[i]? = Option.some t) : jK w ((⟨g,0,none⟩ : Addr).add (i * 9)) [.int .i64 t.a.x,.int .i64 t.a.y,.int .i64 t.a.z,.int .i64 t.b.x,.int .i64 t.b.y,.int .i64 t.b.z,.int .i64 t.c.x,.int .i64 t.c.y,.int .i64 t.c.z]:=by
 show jK w _ (aX t)
 intro j u hj;have hj' : j < (aX t).length:=(List.getElem?_eq_some_iff.1 hj).1;rw [iS];refine h.rows _ _ ?_;rw [← List.getElem?_drop,wB ts i t ht,List.getElem?_append_left hj'];exact hj
theorem ac3 {n : Nat} (h : n < 27) : Sm 100 (vP n):=by
 simp only[Sm,vP];omega
theorem Zs {p : P3} {n : Nat} (h : Sm 100 p) (hn : n < 8) : Sm 200 (cU p 8 n):=by
 simp only[Sm,cU] at h ⊢;omega
theorem Zt {p : P3} (h : Sm 100 p) : ∀ t ∈ uY p 8,SmT 200 t:=fun t ht=>by
 have c : ∀ n,n < 8 → Sm 200 (cU p 8 n):=fun n hn=>Zs h hn;simp only[uY,List.mem_append] at ht;rcases ht with ((((ht | ht) | ht) | ht) | ht) | ht <;> exact Ta (c _ (by decide)) (c _ (by decide)) (c _ (by decide)) (c _ (by decide)) t ht
theorem Zu {n f : Nat} (h : n < 27) : ∀ t ∈ uG n f,SmT 200 t:=fun t ht=>Zt (ac3 h) t (List.mem_of_mem_drop (List.mem_of_mem_take ht))
theorem Vj {b n f : Nat} (h : n < 27) : ∀ t ∈ oB b n f,SmT 200 t:=fun t ht=>by
 obtain ⟨k,_,h2⟩:=List.mem_flatMap.1 ht;split at h2
 · exact Zu h t h2
 · cases h2
theorem ab0 {b : Nat} : ∀ t ∈ Qs b,SmT 200 t:=fun t ht=>by
 obtain ⟨k,hk,h2⟩:=List.mem_flatMap.1 ht;split at h2
 · exact Vj (List.mem_range.1 hk) t h2
 · cases h2
theorem xJ {α β : Type} {f : α → List β} {k : Nat} : ∀ (l : List α),(∀ x ∈ l,(f x).length ≤ k) → (l.flatMap f).length ≤ l.length * k
 | [],_=>by simp
 | x :: l,h=>by
  have h1:=h x (by simp);have h2:=xJ l (fun y hy=>h y (by simp [hy]));rw [List.flatMap_cons,List.length_append,List.length_cons,Nat.add_mul,Nat.one_mul];omega
theorem Zv {n f : Nat} : (uG n f).length ≤ 2:=by unfold uG;rw [List.length_take];omega
theorem Ii {b n f : Nat} : (oB b n f).length ≤ f * 2:=by
 have:=xJ (f:=fun f=>if wV b n f then uG n f else []) (k:=2) (List.range f) (fun x _=>by
  show (if wV b n x = true then uG n x else []).length ≤ 2
  split
  · exact Zv
  · exact Nat.zero_le _)
 rwa [List.length_range] at this
theorem Ax {b n f : Nat} (hn : n ≤ 27) (hf : f ≤ 6) : (iF b n f).length ≤ 400:=by
 have h1:=xJ (f:=fun n=>if Aw b n then oB b n 6 else []) (k:=12) (List.range n) (fun x _=>by
  show (if Aw b x = true then oB b x 6 else []).length ≤ 12
  split
  · exact Ii
  · exact Nat.zero_le _)
 have h2:=Ii (b:=b) (n:=n) (f:=f);rw [List.length_range] at h1;unfold iF;rw [List.length_append];omega
theorem ab1 {b : Nat} : (Qs b).length ≤ 400:=by
 rw [← Em];exact Ax (by omega) (by omega)
def wC : List Value:=[.int .i64 0,.int .i64 0,.int .i64 (-1),.int .i64 0,.int .i64 0,.int .i64 1,.int .i64 0,.int .i64 (-1),.int .i64 0,.int .i64 0,.int .i64 1,.int .i64 0,.int .i64 (-1),.int .i64 0,.int .i64 0,.int .i64 1,.int .i64 0,.int .i64 0]
theorem yK {f : Nat} (h : f < 6) : f = 0 ∨ f = 1 ∨ f = 2 ∨ f = 3 ∨ f = 4 ∨ f = 5:=by omega
theorem ae5 {f : Nat} (h : f < 6) : wC[f * 3]? = some (.int .i64 (stx f)):=by rcases yK h with rfl | rfl | rfl | rfl | rfl | rfl <;> rfl
theorem ae6 {f : Nat} (h : f < 6) : wC[f * 3 + 1]? = some (.int .i64 (sty f)):=by rcases yK h with rfl | rfl | rfl | rfl | rfl | rfl <;> rfl
theorem ae7 {f : Nat} (h : f < 6) : wC[f * 3 + 2]? = some (.int .i64 (stz f)):=by rcases yK h with rfl | rfl | rfl | rfl | rfl | rfl <;> rfl
theorem ae8 (f : Nat) : (-1 ≤ stx f ∧ stx f ≤ 1) ∧ (-1 ≤ sty f ∧ sty f ≤ 1) ∧ (-1 ≤ stz f ∧ stz f ≤ 1):=by
 unfold stx sty stz
 repeat' split
 all_goals omega
theorem vin {u v w : Int} (hb : (!(!(decide (0 ≤ u) && decide (u < 3) && decide (0 ≤ v) && decide (v < 3) && decide (0 ≤ w) && decide (w < 3)))) = true) : (0 ≤ u ∧ u < 3) ∧ (0 ≤ v ∧ v < 3) ∧ 0 ≤ w ∧ w < 3:=by
 simp only[Bool.not_not,Bool.and_eq_true,decide_eq_true_eq] at hb;omega
theorem My {b n f : Nat} : (!(decide ((0 : Int) ≤ ((n % 3 : Nat) : Int) + stx f) && decide (((n % 3 : Nat) : Int) + stx f < 3) && decide ((0 : Int) ≤ ((n / 3 % 3 : Nat) : Int) + sty f) && decide (((n / 3 % 3 : Nat) : Int) + sty f < 3) && decide ((0 : Int) ≤ ((n / 9 : Nat) : Int) + stz f) && decide (((n / 9 : Nat) : Int) + stz f < 3)) ||
 decide (((b / 2 ^ (((((n / 9 : Nat) : Int) + stz f) * 3 + (((n / 3 % 3 : Nat) : Int) + sty f)) * 3 + (((n % 3 : Nat) : Int) + stx f)).toNat % 2 : Nat) : Int) = 0)) = wV b n f:=by
 unfold wV Aw;simp only
 congr 1
 rw [← decide_not]
 congr 1
 apply propext;constructor <;> intro h <;> omega
theorem Zw {n f : Nat} (h : f < 6) : ∃ t u,(uY (vP n) 8)[2 * f]? = some t ∧ (uY (vP n) 8)[2 * f + 1]? = some u ∧ uG n f = [t,u]:=by
 have h1 : 2 * f < (uY (vP n) 8).length:=by rw [pO];omega
 have h2 : 2 * f + 1 < (uY (vP n) 8).length:=by rw [pO];omega
 refine ⟨_,_,List.getElem?_eq_getElem h1,List.getElem?_eq_getElem h2,?_⟩;unfold uG;rw [List.drop_eq_getElem_cons h1,List.drop_eq_getElem_cons h2];rfl
theorem Vk {b n f : Nat} {t u : T3} (hp : uG n f = [t,u]) (h : wV b n f = true) : (iF b n f).flatMap aX ++ [.int .i64 t.a.x,.int .i64 t.a.y,.int .i64 t.a.z,.int .i64 t.b.x,.int .i64 t.b.y,.int .i64 t.b.z,.int .i64 t.c.x,.int .i64 t.c.y,.int .i64 t.c.z,.int .i64 u.a.x,.int .i64 u.a.y,.int .i64 u.a.z,.int .i64 u.b.x,.int .i64 u.b.y,.int .i64 u.b.z,.int .i64 u.c.x,.int .i64 u.c.y,.int .i64 u.c.z] = (iF b n (f + 1)).flatMap aX:=by
 rw [Ig h,List.flatMap_append,hp];rfl
theorem Tb {b n f : Nat} (hf : f < 6) (h : wV b n f = true) : (iF b n f).length + 2 = (iF b n (f + 1)).length:=by
 obtain ⟨t,u,_,_,hp⟩:=Zw (n:=n) hf;rw [Ig h,List.length_append,hp];rfl
def fN (kind bits : Int) (zs : List Int) : List T3:=if kind % 3 = 0 then Qs (bits % 134217728).toNat else xI 10 zs (1 + kind.tdiv 3 % 6).toNat
theorem Mz {z : Int} (h : nR z) : IntKind.i64.wrap (z.tdiv 3) = z.tdiv 3 ∧ nR (z.tdiv 3):=by
 obtain ⟨h1,h2⟩:=h;have hb : -9223372036854775808 ≤ z.tdiv 3 ∧ z.tdiv 3 < 9223372036854775808:=by
  rcases Int.le_total 0 z with hz | hz
  · rw [Int.tdiv_eq_ediv_of_nonneg hz];omega
  · have e : z.tdiv 3 = -((-z) / 3):=by
     rw [← Int.tdiv_eq_ediv_of_nonneg (show 0 ≤ -z by omega),Int.neg_tdiv,Int.neg_neg]
    rw [e];omega
 exact ⟨aM hb.1 hb.2,hb⟩
theorem Na {kind bits : Int} {zs : List Int} : ∀ t ∈ fN kind bits zs,SmT 200 t:=by
 unfold fN;split
 · exact ab0
 · exact Vh (by omega)
theorem Nb {kind bits : Int} {zs : List Int} : (fN kind bits zs).length ≤ 400:=by
 unfold fN;split
 · exact ab1
 · exact Nat.le_trans (Vi (by omega)) (by decide)
end Go.Lith
namespace Go.Lith
open Go.RowKit
theorem Vl (ts : List T3) (k : Nat) : (ts.take k).flatMap aX = (ts.flatMap aX).take (k * 9):=by
 induction ts generalizing k with
 | nil=>simp
 | cons t ts ih =>
  cases k with
  | zero=>simp
  | succ k =>
   rw [List.take_succ_cons,List.flatMap_cons,List.flatMap_cons,ih,List.take_append,dR,List.take_of_length_le (l:=aX t) (by rw [dR];omega),show (k + 1) * 9 - 9 = k * 9 by omega]
theorem Vm (ts : List T3) (k : Nat) : (ts.drop k).flatMap aX = (ts.flatMap aX).drop (k * 9):=by
 induction ts generalizing k with
 | nil=>simp
 | cons t ts ih =>
  cases k with
  | zero=>simp
  | succ k =>
   rw [List.drop_succ_cons,List.flatMap_cons,ih,List.drop_append,dR,List.drop_of_length_le (l:=aX t) (by rw [dR];omega),show (k + 1) * 9 - 9 = k * 9 by omega,List.nil_append]
theorem En {ts : List T3} {k : Nat} {t u : T3} (h : ts[k]? = some t) : bG (ts.flatMap aX) (k * 9) (aX u) = (ts.set k u).flatMap aX:=by
 induction ts generalizing k with
 | nil=>cases h
 | cons v ts ih =>
  cases k with
  | zero =>
   unfold bG;rw [Nat.zero_mul,List.take_zero,List.nil_append,List.set_cons_zero,List.flatMap_cons,List.flatMap_cons,dR,Nat.zero_add,List.drop_append,dR,List.drop_of_length_le (l:=aX v) (by rw [dR];omega)];rfl
  | succ k =>
   have:=ih (k:=k) h;unfold bG at this ⊢;rw [List.set_cons_succ,List.flatMap_cons,List.flatMap_cons,← this,dR];rw [List.take_append,dR,List.take_of_length_le (l:=aX v) (by rw [dR];omega),show (k + 1) * 9 - 9 = k * 9 by omega,List.drop_append,dR,List.drop_of_length_le (l:=aX v) (by rw [dR];omega),show (k + 1) * 9 + 9 - 9 = k * 9 + 9 by omega];simp only[List.append_assoc,List.nil_append]
def T3.cor (t : T3) (c : Nat) : P3:=if c = 0 then t.a else if c = 1 then t.b else t.c
def T3.setC (t : T3) (c : Nat) (p : P3) : T3:=if c = 0 then ⟨p,t.b,t.c⟩ else if c = 1 then ⟨t.a,p,t.c⟩ else ⟨t.a,t.b,p⟩
theorem aha {t : T3} {c : Nat} {p : P3} (hc : c < 3) : bG (aX t) (c * 3) [.int .i64 p.x,.int .i64 p.y,.int .i64 p.z] = aX (t.setC c p):=by
 have : c = 0 ∨ c = 1 ∨ c = 2:=by omega
 rcases this with rfl | rfl | rfl <;> rfl
section
variable {w0 w : World} {S : List (Option Nat)} {E : TypeId} {n cap : Nat} {A : Option Addr} {ts : List T3}
theorem Ow.takeT (h : Ow w0 w S E 9 A n cap (ts.flatMap aX)) {k : Nat} (hk : k ≤ n) : Ow w0 w S E 9 A k cap ((ts.take k).flatMap aX):=(h.take hk).as (Vl ts k).symm
theorem Ow.dropRow {q : Nat} (h : Ow w0 w S E 9 A n cap (ts.flatMap aX)) : ∀ j u,((ts.drop q).flatMap aX)[j]? = Option.some u → ∃ a,(if cap = q then A else A.map (·.add (q * 9))) = Option.some a ∧ w.cell? (a.add j) = Option.some u:=fun j u hj=>by
 rw [Vm,List.getElem?_drop] at hj;have hl : q * 9 + j < (ts.flatMap aX).length:=(List.getElem?_eq_some_iff.1 hj).1;obtain ⟨a,rfl,hc⟩:=h.row _ _ hj;have:=h.own.1;have:=h.le;rw [if_neg (by omega)];exact ⟨_,rfl,by rw [iS];exact hc⟩
theorem jK.cor {a : Addr} {t : T3} {c : Nat} (h : jK w a (aX t)) (hc : c < 3) : jK w (a.add (c * 3)) [.int .i64 (t.cor c).x,.int .i64 (t.cor c).y,.int .i64 (t.cor c).z]:=by
 have:=(h.sub (c * 3)).take 3;have e : c = 0 ∨ c = 1 ∨ c = 2:=by omega
 rcases e with rfl | rfl | rfl <;> exact this
theorem Qv {k : Nat} (h : k < ts.length) : ∃ t,ts[k]? = Option.some t:=⟨_,List.getElem?_eq_getElem h⟩
theorem Kp {q : Int} {N : Nat} (h : 0 < N) : ∃ k : Nat,q % (N : Int) = (k : Int) ∧ k < N:=by
 have:=nK (n:=q) (m:=(N : Int)) (by omega);exact ⟨(q % (N : Int)).toNat,by omega,by omega⟩
end
end Go.Lith
namespace Go.Lith
open Go.RowKit
section
variable {α : Type} {enc : α → List Value} {c : Nat} {w w' : World} {A : Option Addr} {n : Nat} {xs : List α}
structure nS (enc : α → List Value) (c : Nat) (w : World) (A : Option Addr) (n : Nat) (xs : List α) : Prop where
 len : xs.length = n
 row : ∀ i x,xs[i]? = some x → ∃ a,A = some a ∧ jK w (a.add (i * c)) (enc x)
theorem nS.ext (h : nS enc c w A n xs) (hE : dJ w w') : nS enc c w' A n xs:=⟨h.len,fun i x hi=>let ⟨a,e,hr⟩:=h.row i x hi;⟨a,e,hr.ext hE⟩⟩
theorem nS.nil (w : World) (A : Option Addr) : nS enc c w A 0 []:=⟨rfl,fun i x h=>by cases h⟩
theorem nS.get (h : nS enc c w A n xs) {i : Nat} (hi : i < n) : ∃ x,xs[i]? = some x ∧ ∃ a,A = some a ∧ jK w (a.add (i * c)) (enc x):=by
 have hl : i < xs.length:=by rw [h.len];exact hi
 exact ⟨xs[i],List.getElem?_eq_getElem hl,h.row i _ (List.getElem?_eq_getElem hl)⟩
theorem nS.take (h : nS enc c w A n xs) {k : Nat} (hk : k ≤ n) : nS enc c w A k (xs.take k) :=
 ⟨by rw [List.length_take,h.len];omega,fun i x hx=>h.row i x (by rw [List.getElem?_take] at hx;split at hx;exact hx;cases hx)⟩
theorem jN (hc : ∀ x,(enc x).length = c) : ∀ xs : List α,(xs.flatMap enc).length = xs.length * c
 | []=>by simp
 | x :: xs=>by rw [List.flatMap_cons,List.length_append,hc,jN hc xs,List.length_cons,Nat.add_mul,Nat.one_mul,Nat.add_comm]
theorem xK (hc : ∀ x,(enc x).length = c) : ∀ (xs : List α) (k : Nat),(xs.drop k).flatMap enc = (xs.flatMap enc).drop (k * c)
 | xs,0=>by simp
 | [],k + 1=>by simp
 | x :: xs,k + 1=>by
  rw [List.drop_succ_cons,List.flatMap_cons,xK hc xs k,List.drop_append,hc,List.drop_of_length_le (l:=enc x) (by rw [hc,Nat.add_mul];omega),Nat.add_mul,Nat.one_mul,Nat.add_sub_cancel,List.nil_append]
theorem Nc (hc : ∀ x,(enc x).length = c) {xs : List α} {i : Nat} {x : α} (h : xs[i]? = some x) : (xs.flatMap enc).drop (i * c) = enc x ++ (xs.drop (i + 1)).flatMap enc:=by
 rw [← xK hc,List.drop_eq_getElem_cons (List.getElem?_eq_some_iff.1 h).1,List.flatMap_cons,(List.getElem?_eq_some_iff.1 h).2]
theorem Ow.at {w0 : World} {S : List (Option Nat)} {E : TypeId} {cap g i : Nat} {x : α} (hc : ∀ x,(enc x).length = c) (h : Ow w0 w S E c (Option.some ⟨g,0,none⟩) n cap (xs.flatMap enc)) (hx : xs[i]? = Option.some x) : jK w ((⟨g,0,none⟩ : Addr).add (i * c)) (enc x):=by
 intro j u hj;have hj' : j < (enc x).length:=(List.getElem?_eq_some_iff.1 hj).1;rw [iS];refine h.rows _ _ ?_;rw [← List.getElem?_drop,Nc hc hx,List.getElem?_append_left hj'];exact hj
theorem Ow.num {w0 : World} {S : List (Option Nat)} {E : TypeId} {cap : Nat} (hc : ∀ x,(enc x).length = c) (h0 : 0 < c) (h : Ow w0 w S E c A n cap (xs.flatMap enc)) : xs.length = n:=by
 have:=h.own.1;rw [jN hc] at this;exact Nat.eq_of_mul_eq_mul_right h0 this
theorem Ow.lat {w0 : World} {S : List (Option Nat)} {E : TypeId} {cap : Nat} (hc : ∀ x,(enc x).length = c) (h0 : 0 < c) (h : Ow w0 w S E c A n cap (xs.flatMap enc)) : nS enc c w A n xs :=
 ⟨h.num hc h0,fun i x hx=>by
  have hi:=(List.getElem?_eq_some_iff.1 hx).1;have hn:=h.num hc h0;obtain ⟨g,rfl⟩:=h.some (by omega);exact ⟨_,rfl,h.at hc hx⟩⟩
theorem nS.cells (hc : ∀ x,(enc x).length = c) (h0 : 0 < c) (h : nS enc c w A n xs) : ∀ j u,(xs.flatMap enc)[j]? = some u → ∃ a,A = some a ∧ w.cell? (a.add j) = some u:=fun j u hj=>by
 have hj':=(List.getElem?_eq_some_iff.1 hj).1;rw [jN hc] at hj';have hi : j / c < xs.length:=(Nat.div_lt_iff_lt_mul h0).2 hj';obtain ⟨a,rfl,hr⟩:=h.row (j / c) _ (List.getElem?_eq_getElem hi);refine ⟨a,rfl,?_⟩;have hm:=Nat.mod_lt j h0;have e : j = j / c * c + j % c:=by rw [Nat.mul_comm];exact (Nat.div_add_mod j c).symm
 have:=hr (j % c) u (by
  rw [e,← List.getElem?_drop,Nc hc (List.getElem?_eq_getElem hi),List.getElem?_append_left (by rw [hc];exact hm)] at hj;exact hj)
 rw [iS,← e] at this;exact this
theorem nS.cellsD (hc : ∀ x,(enc x).length = c) (h0 : 0 < c) (h : nS enc c w A n xs) {cap q : Nat} (hcap : n ≤ cap) : ∀ j u,((xs.drop q).flatMap enc)[j]? = some u → ∃ a,(if cap = q then A else A.map (·.add (q * c))) = some a ∧ w.cell? (a.add j) = some u:=fun j u hj=>by
 rw [xK hc,List.getElem?_drop] at hj;have hl:=(List.getElem?_eq_some_iff.1 hj).1;rw [jN hc,h.len] at hl;obtain ⟨a,rfl,hcl⟩:=h.cells hc h0 _ _ hj;have : q < n:=by
  refine Nat.lt_of_mul_lt_mul_right (a:=c) ?_;omega
 rw [if_neg (by omega)];exact ⟨_,rfl,by rw [iS];exact hcl⟩
end
theorem dF {α : Type} {ps : List α} {k : Nat} {p : α} (h : ps[k]? = some p) : ps.take (k + 1) = ps.take k ++ [p]:=by
 rw [List.take_add_one,h];rfl
abbrev E3:=P3 × P3
def bU (e : E3) : List Value:=[.int .i64 e.1.x,.int .i64 e.1.y,.int .i64 e.1.z,.int .i64 e.2.x,.int .i64 e.2.y,.int .i64 e.2.z]
def ed (e : E3) : Value:=.agg #[.int .i64 e.1.x,.int .i64 e.1.y,.int .i64 e.1.z,.int .i64 e.2.x,.int .i64 e.2.y,.int .i64 e.2.z]
def vA (p : P3) : List Value:=[.int .i64 p.x,.int .i64 p.y,.int .i64 p.z]
theorem eO.lat {w : World} {A : Option Addr} {n : Nat} {ts : List T3} (h : eO w A n ts) : nS aX 9 w A n ts:=⟨h.len,h.row⟩
theorem Kq (es : List E3) : ∀ u ∈ es.flatMap bU,u.oneCell' = true:=fun u hu=>by
 obtain ⟨e,_,h⟩:=List.mem_flatMap.1 hu;simp only[bU,List.mem_cons,List.not_mem_nil,or_false] at h;rcases h with rfl | rfl | rfl | rfl | rfl | rfl <;> rfl
theorem Kr (ps : List P3) : ∀ u ∈ ps.flatMap vA,u.oneCell' = true:=fun u hu=>by
 obtain ⟨e,_,h⟩:=List.mem_flatMap.1 hu;simp only[vA,List.mem_cons,List.not_mem_nil,or_false] at h;rcases h with rfl | rfl | rfl <;> rfl
theorem adv (t : T3) : (aX t).length = 9:=rfl
theorem qT (e : E3) : (bU e).length = 6:=rfl
theorem Nd (p : P3) : (vA p).length = 3:=rfl
def aV (ts : List T3) : List E3:=ts.flatMap fun t=>[(t.a,t.b),(t.b,t.c),(t.c,t.a)]
theorem oC {ts : List T3} {k : Nat} {t : T3} (h : ts[k]? = some t) : aV (ts.take (k + 1)) = aV (ts.take k) ++ [(t.a,t.b),(t.b,t.c),(t.c,t.a)]:=by
 unfold aV;rw [dF h,List.flatMap_append];simp
theorem kW (ts : List T3) : (aV ts).length = ts.length * 3:=oY ts fun _ _=>rfl
def kJ (es : List E3) (e : E3) : Nat:=(es.filter fun x=>decide (x = e)).length
theorem Nf {es : List E3} {k : Nat} {x e : E3} (h : es[k]? = some x) : kJ (es.take (k + 1)) e = kJ (es.take k) e + if x = e then 1 else 0:=by
 unfold kJ;rw [dF h,List.filter_append,List.length_append];by_cases hx : x = e <;> simp [hx]
theorem adw {es : List E3} {e : E3} : kJ es e ≤ es.length:=List.length_filter_le _ _
end Go.Lith
namespace Go.Lith
open Go.RowKit
theorem adx {α : Type} {is : List α} {k : Nat} {i : α} (h : is[k]? = some i) : is.set k i = is:=by
 apply List.ext_getElem?;intro j;rw [List.getElem?_set];split
 · rename_i e
   subst e;rw [if_pos (List.getElem?_eq_some_iff.1 h).1,h]
 · rfl
theorem Ij {α : Type} : ∀ (l : List α) (j : Nat) (x : α),l[j]? = some x → (x :: l.eraseIdx j).Perm l
 | [],j,x,h=>by cases h
 | y :: l,0,x,h=>by cases h;exact .refl _
 | y :: l,j + 1,x,h=>((List.Perm.swap y x _)).trans ((Ij l j x h).cons y)
theorem cA.pull {w0 w : World} {is : List It} (m : cA w0 w is) (j : Nat) {x : It} (hj : is[j]? = some x) : cA w0 w (x :: is.eraseIdx j):=by
 have hp:=Ij is j x hj;exact ⟨m.ext,fun i hi=>m.all i (hp.mem_iff.1 hi),fun i hi=>m.ge i (hp.mem_iff.1 hi),(hp.pairwise_iff (fun {a b} (h : Ap a b)=>h.symm)).2 m.nd⟩
theorem cA.mv {w0 w : World} {is : List It} {y : It} (m : cA w0 w (y :: is)) (k : Nat) {x : It} (hk : is[k]? = some x) : cA w0 w (is.set k y):=by
 obtain ⟨h1,h2⟩:=List.pairwise_cons.1 m.nd;have hm : ∀ i ∈ is.set k y,i ∈ y :: is:=fun i hi=>(List.mem_or_eq_of_mem_set hi).elim (List.mem_cons_of_mem _) (fun e=>e ▸ List.mem_cons_self);exact ⟨m.ext,fun i hi=>m.all i (hm i hi),fun i hi=>m.ge i (hm i hi),Qp is k h2 hk fun x hx _=>h1 x hx⟩
theorem xL {α : Type} {a : α} {l : List α} : (a :: l).eraseIdx 0 = l:=rfl
theorem xM {α : Type} {a : α} {l : List α} {n : Nat} : (a :: l).eraseIdx (n + 1) = a :: l.eraseIdx n:=rfl
def SL (E : TypeId) (c : Nat) (cs : List Value) (n : Nat) (w : World) (v : Value) (w' : World) : Prop:=∃ A cap n',n' = n ∧ v = .slice A n' cap ∧ Ow w w' [] E c A n' cap cs
/-! ### Points put into a sorted list -/
def Vn (ps : List P3) (p : P3) : Nat:=(ps.takeWhile fun x=>decide (x.Lt p)).length
def iR (ps : List P3) (p : P3) : List P3:=if ps[Vn ps p]? = some p then ps else ps.take (Vn ps p) ++ [p] ++ ps.drop (Vn ps p)
def fB (ts : List T3) : List P3:=ts.foldl (fun ps t=>iR (iR (iR ps t.a) t.b) t.c) []
theorem yL {ts : List T3} {k : Nat} {t : T3} (h : ts[k]? = some t) : fB (ts.take (k + 1)) = iR (iR (iR (fB (ts.take k)) t.a) t.b) t.c:=by
 unfold fB;rw [dF h,List.foldl_append];rfl
theorem sB (ps : List P3) (p : P3) : (iR ps p).length ≤ ps.length + 1:=by
 unfold iR;split
 · omega
 · simp;omega
theorem Ca (ts : List T3) : (fB ts).length ≤ ts.length * 3:=by
 have : ∀ (ts : List T3) (ps : List P3),(ts.foldl (fun ps t=>iR (iR (iR ps t.a) t.b) t.c) ps).length ≤ ps.length + ts.length * 3:=by
  intro ts
  induction ts with
  | nil=>intro ps;simp
  | cons t ts ih =>
   intro ps;have h1:=ih (iR (iR (iR ps t.a) t.b) t.c);have h2:=sB ps t.a;have h3:=sB (iR ps t.a) t.b;have h4:=sB (iR (iR ps t.a) t.b) t.c;rw [List.foldl_cons,List.length_cons];omega
 have:=this ts [];simpa [fB] using this
section
variable {α : Type} {p : α → Bool} {l : List α} {k : Nat}
theorem ac4 (h : ∀ j x,j < k → l[j]? = some x → p x = true) (hk : k ≤ l.length) : k ≤ (l.takeWhile p).length:=by
 induction l generalizing k with
 | nil=>simp at hk;omega
 | cons x l ih =>
  cases k with
  | zero=>omega
  | succ k =>
   have hx:=h 0 x (by omega) rfl;rw [List.takeWhile_cons,if_pos hx,List.length_cons];have:=ih (k:=k) (fun j y hj hy=>h (j + 1) y (by omega) (by simpa using hy)) (by simp at hk;omega);omega
theorem afa {x : α} (hx : l[k]? = some x) (h : p x = false) : (l.takeWhile p).length ≤ k:=by
 induction l generalizing k with
 | nil=>cases hx
 | cons y l ih =>
  rw [List.takeWhile_cons];split
  · cases k with
    | zero =>
     rename_i hy;cases hx;rw [h] at hy;cases hy
    | succ k =>
     rw [List.length_cons];have:=ih (k:=k) (by simpa using hx);omega
  · simp
theorem ady : (l.takeWhile p).length ≤ l.length:=(List.takeWhile_sublist p).length_le
theorem ac5 {x : α} (h : ∀ j x,j < k → l[j]? = some x → p x = true) (hx : l[k]? = some x) (h2 : p x = false) : (l.takeWhile p).length = k:=Nat.le_antisymm (afa hx h2) (ac4 h (Nat.le_of_lt (List.getElem?_eq_some_iff.1 hx).1))
theorem Zx (h : ∀ j x,j < l.length → l[j]? = some x → p x = true) : (l.takeWhile p).length = l.length:=Nat.le_antisymm ady (ac4 h (Nat.le_refl _))
def Pre (p : α → Bool) (l : List α) (k : Nat) : Prop:=∀ j x,j < k → l[j]? = some x → p x = true
theorem Pre.zero : Pre p l 0:=fun j _ hj=>by omega
theorem Pre.step {x : α} (h : Pre p l k) (hx : l[k]? = some x) (hp : p x = true) : Pre p l (k + 1):=fun j y hj hy=>by
 rcases Nat.lt_or_ge j k with h1 | h1
 · exact h j y h1 hy
 · obtain rfl : j = k:=by omega
   rw [hx] at hy;cases hy;exact hp
end
/-! ### The border -/
def Tc (a b : E3) : Bool:=if a.1 ≠ b.1 then decide (a.1.Lt b.1) else decide (a.2.Lt b.2)
def Vo (es : List E3) (e : E3) : Nat:=(es.takeWhile fun x=>Tc x e).length
def Qw (es : List E3) (e : E3) : List E3:=es.take (Vo es e) ++ [e] ++ es.drop (Vo es e)
def nM (all : List E3) (out : List E3) (e : E3) : List E3:=if 0 < kJ all (e.2,e.1) ∨ 0 < kJ out e then out else Qw out e
def aQ (ts : List T3) : List E3:=(aV ts).foldl (nM (aV ts)) []
theorem Vp {all es : List E3} {k : Nat} {e : E3} (h : es[k]? = some e) : (es.take (k + 1)).foldl (nM all) [] = nM all ((es.take k).foldl (nM all) []) e:=by
 rw [dF h,List.foldl_append];rfl
theorem qF {all : List E3} : ∀ (es out : List E3),(es.foldl (nM all) out).length ≤ out.length + es.length
 | [],out=>by simp
 | e :: es,out=>by
  have h1:=qF (all:=all) es (nM all out e);have h2 : (nM all out e).length ≤ out.length + 1:=by
   unfold nM Qw;split
   · omega
   · simp;omega
  rw [List.foldl_cons,List.length_cons];omega
/-! ### Pinched corners -/
def T3.fnd (t : T3) (p q : P3) : Option P3:=if t.a = p ∧ t.b = q then some t.c else if t.b = p ∧ t.c = q then some t.a else if t.c = p ∧ t.a = q then some t.b else none
def bP : List T3 → P3 → P3 → Option P3
 | [],_,_=>none
 | t :: ts,p,q=>match t.fnd p q with
  | some x=>some x
  | none=>bP ts p q
theorem oZ {ts : List T3} {k : Nat} {t : T3} {p q : P3} (h : ts[k]? = some t) (h0 : bP (ts.take k) p q = none) : bP (ts.take (k + 1)) p q = t.fnd p q:=by
 rw [dF h];clear h;generalize ts.take k = us at h0 ⊢
 induction us with
 | nil=>simp only[List.nil_append,bP];cases t.fnd p q <;> rfl
 | cons u us ih =>
  rw [List.cons_append];simp only[bP] at h0 ⊢;cases hu : u.fnd p q with
  | some x=>rw [hu] at h0;cases h0
  | none=>rw [hu] at h0;exact ih h0
theorem vB {ts : List T3} {k : Nat} {p q x : P3} (h : bP (ts.take k) p q = some x) : bP ts p q = some x:=by
 induction ts generalizing k with
 | nil=>simp [bP] at h
 | cons u us ih =>
  cases k with
  | zero=>simp [bP] at h
  | succ k =>
   rw [List.take_succ_cons] at h;unfold bP at h ⊢;cases hu : u.fnd p q with
   | some y=>rw [hu] at h;exact h
   | none=>rw [hu] at h;exact ih h
def Eo (p : P3) (t : T3) (c : Nat) : List T3:=if t.cor c = p then [t] else []
def sC (p : P3) (t : T3) (c : Nat) : List T3:=(List.range c).flatMap (Eo p t)
def mB (ts : List T3) (p : P3) : List T3:=ts.flatMap fun t=>sC p t 3
def Ep (p : P3) (t : T3) (c : Nat) : List P3:=if t.cor c = p then [t.cor ((c + 1) % 3)] else []
def vC (p : P3) (t : T3) (c : Nat) : List P3:=(List.range c).flatMap (Ep p t)
def qG (ts : List T3) (p : P3) : List P3:=ts.flatMap fun t=>vC p t 3
theorem Er (p : P3) (t : T3) (c : Nat) : sC p t (c + 1) = sC p t c ++ Eo p t c:=by simp [sC,List.range_succ]
theorem Cb (p : P3) (t : T3) (c : Nat) : vC p t (c + 1) = vC p t c ++ Ep p t c:=by simp [vC,List.range_succ]
theorem Vq {ts : List T3} {k : Nat} {t : T3} {p : P3} (h : ts[k]? = some t) : mB (ts.take (k + 1)) p = mB (ts.take k) p ++ sC p t 3:=by
 unfold mB;rw [dF h,List.flatMap_append];simp
theorem Qx {ts : List T3} {k : Nat} {t : T3} {p : P3} (h : ts[k]? = some t) : qG (ts.take (k + 1)) p = qG (ts.take k) p ++ vC p t 3:=by
 unfold qG;rw [dF h,List.flatMap_append];simp
def wW (ts : List T3) (p : P3) (k : Nat) (t : T3) (c : Nat) : List T3:=mB (ts.take k) p ++ sC p t c
def rK (ts : List T3) (p : P3) (k : Nat) (t : T3) (c : Nat) : List P3:=qG (ts.take k) p ++ vC p t c
theorem Vr {ts : List T3} {p : P3} {k c : Nat} {t : T3} (h : t.cor c = p) : wW ts p k t (c + 1) = wW ts p k t c ++ [t]:=by
 unfold wW;rw [Er,Eo,if_pos h,List.append_assoc]
theorem Zy {ts : List T3} {p : P3} {k c : Nat} {t : T3} (h : ¬ t.cor c = p) : wW ts p k t (c + 1) = wW ts p k t c:=by
 unfold wW;rw [Er,Eo,if_neg h,List.append_nil]
theorem Qy {ts : List T3} {p : P3} {k c : Nat} {t : T3} (h : t.cor c = p) : rK ts p k t (c + 1) = rK ts p k t c ++ [t.cor ((c + 1) % 3)]:=by
 unfold rK;rw [Cb,Ep,if_pos h,List.append_assoc]
theorem Vs {ts : List T3} {p : P3} {k c : Nat} {t : T3} (h : ¬ t.cor c = p) : rK ts p k t (c + 1) = rK ts p k t c:=by
 unfold rK;rw [Cb,Ep,if_neg h,List.append_nil]
theorem ab3 {ts : List T3} {p : P3} {k : Nat} {t : T3} : wW ts p k t 0 = mB (ts.take k) p:=by simp [wW,sC]
theorem Zz {ts : List T3} {p : P3} {k : Nat} {t : T3} : rK ts p k t 0 = qG (ts.take k) p:=by simp [rK,vC]
theorem ab4 {ts : List T3} {p : P3} {k : Nat} {t : T3} (h : ts[k]? = some t) : wW ts p k t 3 = mB (ts.take (k + 1)) p:=by rw [Vq h];rfl
theorem aaa {ts : List T3} {p : P3} {k : Nat} {t : T3} (h : ts[k]? = some t) : rK ts p k t 3 = qG (ts.take (k + 1)) p:=by rw [Qx h];rfl
theorem gH {x y : P3} : (x.x = y.x ∧ x.y = y.y ∧ x.z = y.z) ↔ x = y:=⟨fun h=>P3.eq h.1 h.2.1 h.2.2,fun h=>by rw [h];exact ⟨rfl,rfl,rfl⟩⟩
theorem tN {x y u v : P3} : (decide (x.x = y.x ∧ x.y = y.y ∧ x.z = y.z) && decide (u.x = v.x ∧ u.y = v.y ∧ u.z = v.z)) = true ↔ x = y ∧ u = v:=by
 rw [Bool.and_eq_true,decide_eq_true_eq,decide_eq_true_eq,gH,gH]
theorem Ay {x y u v : P3} (h : (decide (x.x = y.x ∧ x.y = y.y ∧ x.z = y.z) && decide (u.x = v.x ∧ u.y = v.y ∧ u.z = v.z)) = false) : ¬ (x = y ∧ u = v):=fun k=>by
 rw [tN.2 k] at h;cases h
theorem afb {t : T3} {p q : P3} (h : t.cor 0 = p ∧ t.cor 1 = q) : t.fnd p q = some (t.cor 2):=if_pos h
theorem afc {t : T3} {p q : P3} (h0 : ¬ (t.cor 0 = p ∧ t.cor 1 = q)) (h : t.cor 1 = p ∧ t.cor 2 = q) : t.fnd p q = some (t.cor 0):=(if_neg h0).trans (if_pos h)
theorem afd {t : T3} {p q : P3} (h0 : ¬ (t.cor 0 = p ∧ t.cor 1 = q)) (h1 : ¬ (t.cor 1 = p ∧ t.cor 2 = q)) (h : t.cor 2 = p ∧ t.cor 0 = q) : t.fnd p q = some (t.cor 1):=(if_neg h0).trans ((if_neg h1).trans (if_pos h))
theorem afe {t : T3} {p q : P3} (h0 : ¬ (t.cor 0 = p ∧ t.cor 1 = q)) (h1 : ¬ (t.cor 1 = p ∧ t.cor 2 = q)) (h2 : ¬ (t.cor 2 = p ∧ t.cor 0 = q)) : t.fnd p q = none:=(if_neg h0).trans ((if_neg h1).trans (if_neg h2))
def mC (ms : List T3) (p s : P3) : Nat → P3 → Bool
 | 0,_=>false
 | n + 1,at_=>match bP ms p at_ with
  | none=>false
  | some x=>if x = s then true else mC ms p s n x
theorem Ik {ms : List T3} {p s x : P3} {n : Nat} (h : bP ms p x = none) : mC ms p s n x = false:=by
 cases n with
 | zero=>rfl
 | succ n=>simp only[mC,h]
theorem Ng {ms : List T3} {p s x : P3} {n : Nat} (h : bP ms p x = some s) : mC ms p s (n + 1) x = true:=by simp [mC,h]
theorem Il {ms : List T3} {p s x y : P3} {n : Nat} (h : bP ms p x = some y) (hy : ¬ y = s) : mC ms p s (n + 1) x = mC ms p s n y:=by simp [mC,h,hy]
def Es (ts : List T3) (p : P3) : Bool:=(qG ts p).any fun s=>mC (mB ts p) p s ((mB ts p).length - 1) s
def mM (t : T3) : Bool:=decide (t.a = t.b) || decide (t.b = t.c) || decide (t.c = t.a)
theorem Ks {t : T3} : (decide (t.a.x = t.b.x ∧ t.a.y = t.b.y ∧ t.a.z = t.b.z) || decide (t.b.x = t.c.x ∧ t.b.y = t.c.y ∧ t.b.z = t.c.z) || decide (t.c.x = t.a.x ∧ t.c.y = t.a.y ∧ t.c.z = t.a.z)) = mM t:=by
 simp only[gH,mM]
def dH (op : Bool) (ts : List T3) : Int :=
 if ts.any mM then 20 else if (aV ts).any (fun e=>decide (1 < kJ (aV ts) e)) then 21
 else if !op && decide (0 < (aQ ts).length) then 22 else if (fB ts).any (Es ts) then 23 else 0
theorem mD {α : Type} {p : α → Bool} {l : List α} {k : Nat} {x : α} (hx : l[k]? = some x) : (l.take (k + 1)).any p = ((l.take k).any p || p x):=by
 rw [dF hx,List.any_append];simp
theorem qZ {α : Type} {p : α → Bool} {l : List α} {k : Nat} {x : α} (hx : l[k]? = some x) (h : p x = true) : l.any p = true:=List.any_eq_true.2 ⟨x,List.mem_of_getElem? hx,h⟩
end Go.Lith
namespace Go.Proofs.YtfohfflkhpfjeaaGreatDoor
open Go.Proofs.Tryz
open Go.RowKit Go.Lith
abbrev vD:=@underlying120
abbrev oD:=@underlying126
abbrev mN:=@underlying131
abbrev kA:=@underlying143
abbrev rL:=@underlying153
abbrev bW:=@underlying22
abbrev yM:=@underlying23
abbrev Im:=@underlying25
abbrev bS:=@underlying29
abbrev jC:=@underlying3
abbrev kB:=@underlying30
abbrev Qz:=@underlying4
abbrev fI:=@underlying41
abbrev eD:=@underlying48
abbrev jI:=@underlying50
abbrev bL:=@underlying53
abbrev jQ:=@underlying57
abbrev gN:=@underlying65
abbrev jJ:=@underlying73
abbrev Et:=@underlying76
abbrev Eu:=@underlying77
abbrev qU:=@underlying9
abbrev kS:=@underlying98
set_option maxRecDepth 100000
theorem aO : prog.follows .mixedOrders = true:=by kernel_rfl
theorem ahg : bC prog 7:=⟨_,func7,by kernel_rfl,by kernel_rfl⟩
theorem aff : bC prog 11:=⟨_,func11,by kernel_rfl,by kernel_rfl⟩
theorem afg : bC prog 12:=⟨_,func12,by kernel_rfl,by kernel_rfl⟩
theorem afh : bC prog 13:=⟨_,func13,by kernel_rfl,by kernel_rfl⟩
theorem afi : bC prog 16:=⟨_,func16,by kernel_rfl,by kernel_rfl⟩
theorem afj : bC prog 17:=⟨_,func17,by kernel_rfl,by kernel_rfl⟩
theorem afk : bC prog 18:=⟨_,func18,by kernel_rfl,by kernel_rfl⟩
theorem afl : bC prog 19:=⟨_,func19,by kernel_rfl,by kernel_rfl⟩
theorem afm : bC prog 21:=⟨_,func21,by kernel_rfl,by kernel_rfl⟩
theorem afn : bC prog 22:=⟨_,func22,by kernel_rfl,by kernel_rfl⟩
theorem afo : bC prog 23:=⟨_,func23,by kernel_rfl,by kernel_rfl⟩
theorem afp : bC prog 24:=⟨_,func24,by kernel_rfl,by kernel_rfl⟩
theorem afq : bC prog 25:=⟨_,func25,by kernel_rfl,by kernel_rfl⟩
theorem afr : bC prog 28:=⟨_,func28,by kernel_rfl,by kernel_rfl⟩
theorem afs : bC prog 29:=⟨_,func29,by kernel_rfl,by kernel_rfl⟩
theorem aft : bC prog 30:=⟨_,func30,by kernel_rfl,by kernel_rfl⟩
theorem afu : bC prog 31:=⟨_,func31,by kernel_rfl,by kernel_rfl⟩
theorem afv : bC prog 32:=⟨_,func32,by kernel_rfl,by kernel_rfl⟩
theorem afw : bC prog 33:=⟨_,func33,by kernel_rfl,by kernel_rfl⟩
theorem afx : bC prog 34:=⟨_,func34,by kernel_rfl,by kernel_rfl⟩
theorem afy : bC prog 35:=⟨_,func35,by kernel_rfl,by kernel_rfl⟩
theorem afz : bC prog 36:=⟨_,func36,by kernel_rfl,by kernel_rfl⟩
theorem afA : bC prog 37:=⟨_,func37,by kernel_rfl,by kernel_rfl⟩
theorem afB : bC prog 38:=⟨_,func38,by kernel_rfl,by kernel_rfl⟩
theorem afC : bC prog 39:=⟨_,func39,by kernel_rfl,by kernel_rfl⟩
theorem afD : bC prog 40:=⟨_,func40,by kernel_rfl,by kernel_rfl⟩
theorem afE : bC prog 41:=⟨_,func41,by kernel_rfl,by kernel_rfl⟩
theorem afF : bC prog 42:=⟨_,func42,by kernel_rfl,by kernel_rfl⟩
theorem afG : bC prog 43:=⟨_,func43,by kernel_rfl,by kernel_rfl⟩
theorem afH : bC prog 44:=⟨_,func44,by kernel_rfl,by kernel_rfl⟩
theorem afI : bC prog 45:=⟨_,func45,by kernel_rfl,by kernel_rfl⟩
theorem afJ : bC prog 46:=⟨_,func46,by kernel_rfl,by kernel_rfl⟩
theorem afK : bC prog 47:=⟨_,func47,by kernel_rfl,by kernel_rfl⟩
theorem afL : bC prog 48:=⟨_,func48,by kernel_rfl,by kernel_rfl⟩
theorem afM : bC prog 49:=⟨_,func49,by kernel_rfl,by kernel_rfl⟩
theorem afN : bC prog 50:=⟨_,func50,by kernel_rfl,by kernel_rfl⟩
theorem afO : bC prog 51:=⟨_,func51,by kernel_rfl,by kernel_rfl⟩
theorem afP : bC prog 52:=⟨_,func52,by kernel_rfl,by kernel_rfl⟩
theorem afQ : bC prog 53:=⟨_,func53,by kernel_rfl,by kernel_rfl⟩
theorem afR : bC prog 54:=⟨_,func54,by kernel_rfl,by kernel_rfl⟩
theorem afS : bC prog 56:=⟨_,func56,by kernel_rfl,by kernel_rfl⟩
theorem afT : bC prog 58:=⟨_,func58,by kernel_rfl,by kernel_rfl⟩
theorem afU : bC prog 59:=⟨_,func59,by kernel_rfl,by kernel_rfl⟩
theorem afV : bC prog 60:=⟨_,func60,by kernel_rfl,by kernel_rfl⟩
theorem afW : bC prog 61:=⟨_,func61,by kernel_rfl,by kernel_rfl⟩
theorem afX : bC prog 62:=⟨_,func62,by kernel_rfl,by kernel_rfl⟩
theorem afY : bC prog 63:=⟨_,func63,by kernel_rfl,by kernel_rfl⟩
theorem afZ : bC prog 64:=⟨_,func64,by kernel_rfl,by kernel_rfl⟩
theorem af0 : bC prog 65:=⟨_,func65,by kernel_rfl,by kernel_rfl⟩
theorem af1 : bC prog 66:=⟨_,func66,by kernel_rfl,by kernel_rfl⟩
theorem af2 : bC prog 67:=⟨_,func67,by kernel_rfl,by kernel_rfl⟩
theorem af3 : bC prog 68:=⟨_,func68,by kernel_rfl,by kernel_rfl⟩
theorem af4 : bC prog 69:=⟨_,func69,by kernel_rfl,by kernel_rfl⟩
theorem af5 : bC prog 70:=⟨_,func70,by kernel_rfl,by kernel_rfl⟩
theorem af6 : bC prog 71:=⟨_,func71,by kernel_rfl,by kernel_rfl⟩
theorem af7 : bC prog 72:=⟨_,func72,by kernel_rfl,by kernel_rfl⟩
theorem af8 : bC prog 73:=⟨_,func73,by kernel_rfl,by kernel_rfl⟩
theorem af9 : bC prog 74:=⟨_,func74,by kernel_rfl,by kernel_rfl⟩
theorem aga : bC prog 75:=⟨_,func75,by kernel_rfl,by kernel_rfl⟩
theorem agb : bC prog 76:=⟨_,func76,by kernel_rfl,by kernel_rfl⟩
theorem agc : bC prog 77:=⟨_,func77,by kernel_rfl,by kernel_rfl⟩
theorem agd : bC prog 78:=⟨_,func78,by kernel_rfl,by kernel_rfl⟩
theorem age : bC prog 79:=⟨_,func79,by kernel_rfl,by kernel_rfl⟩
theorem agf : bC prog 80:=⟨_,func80,by kernel_rfl,by kernel_rfl⟩
theorem agh : bC prog 81:=⟨_,func81,by kernel_rfl,by kernel_rfl⟩
theorem agi : bC prog 82:=⟨_,func82,by kernel_rfl,by kernel_rfl⟩
theorem agj : bC prog 83:=⟨_,func83,by kernel_rfl,by kernel_rfl⟩
theorem agk : bC prog 84:=⟨_,func84,by kernel_rfl,by kernel_rfl⟩
theorem agl : bC prog 85:=⟨_,func85,by kernel_rfl,by kernel_rfl⟩
theorem agm : bC prog 86:=⟨_,func86,by kernel_rfl,by kernel_rfl⟩
theorem agn : bC prog 87:=⟨_,func87,by kernel_rfl,by kernel_rfl⟩
theorem ago : bC prog 88:=⟨_,func88,by kernel_rfl,by kernel_rfl⟩
theorem agp : bC prog 89:=⟨_,func89,by kernel_rfl,by kernel_rfl⟩
theorem agq : bC prog 90:=⟨_,func90,by kernel_rfl,by kernel_rfl⟩
theorem agr : bC prog 91:=⟨_,func91,by kernel_rfl,by kernel_rfl⟩
theorem ags : bC prog 92:=⟨_,func92,by kernel_rfl,by kernel_rfl⟩
theorem agt : bC prog 93:=⟨_,func93,by kernel_rfl,by kernel_rfl⟩
theorem agu : bC prog 94:=⟨_,func94,by kernel_rfl,by kernel_rfl⟩
theorem agv : bC prog 95:=⟨_,func95,by kernel_rfl,by kernel_rfl⟩
theorem agw : bC prog 96:=⟨_,func96,by kernel_rfl,by kernel_rfl⟩
theorem agx : bC prog 98:=⟨_,func98,by kernel_rfl,by kernel_rfl⟩
theorem Kt : bC prog 100:=⟨_,func100,by kernel_rfl,by kernel_rfl⟩
theorem adz : bC prog 101:=⟨_,func101,by kernel_rfl,by kernel_rfl⟩
theorem adA : bC prog 102:=⟨_,func102,by kernel_rfl,by kernel_rfl⟩
theorem adB : bC prog 103:=⟨_,func103,by kernel_rfl,by kernel_rfl⟩
theorem adC : bC prog 104:=⟨_,func104,by kernel_rfl,by kernel_rfl⟩
theorem adD : bC prog 105:=⟨_,func105,by kernel_rfl,by kernel_rfl⟩
theorem adE : bC prog 106:=⟨_,func106,by kernel_rfl,by kernel_rfl⟩
theorem adF : bC prog 107:=⟨_,func107,by kernel_rfl,by kernel_rfl⟩
theorem adG : bC prog 108:=⟨_,func108,by kernel_rfl,by kernel_rfl⟩
theorem Ra : bC prog 109:=⟨_,func109,by kernel_rfl,by kernel_rfl⟩
theorem adH : bC prog 110:=⟨_,func110,by kernel_rfl,by kernel_rfl⟩
theorem aab : bC prog 111:=⟨_,func111,by kernel_rfl,by kernel_rfl⟩
theorem adI : bC prog 112:=⟨_,func112,by kernel_rfl,by kernel_rfl⟩
theorem adJ : bC prog 113:=⟨_,func113,by kernel_rfl,by kernel_rfl⟩
theorem adK : bC prog 114:=⟨_,func114,by kernel_rfl,by kernel_rfl⟩
theorem adL : bC prog 115:=⟨_,func115,by kernel_rfl,by kernel_rfl⟩
theorem adM : bC prog 116:=⟨_,func116,by kernel_rfl,by kernel_rfl⟩
theorem adN : bC prog 117:=⟨_,func117,by kernel_rfl,by kernel_rfl⟩
theorem adO : bC prog 118:=⟨_,func118,by kernel_rfl,by kernel_rfl⟩
theorem adP : bC prog 119:=⟨_,func119,by kernel_rfl,by kernel_rfl⟩
theorem adQ : bC prog 120:=⟨_,func120,by kernel_rfl,by kernel_rfl⟩
theorem adR : bC prog 121:=⟨_,func121,by kernel_rfl,by kernel_rfl⟩
theorem adS : bC prog 123:=⟨_,func123,by kernel_rfl,by kernel_rfl⟩
theorem adT : bC prog 124:=⟨_,func124,by kernel_rfl,by kernel_rfl⟩
theorem Ku : bC prog 125:=⟨_,func125,by kernel_rfl,by kernel_rfl⟩
theorem adU : bC prog 126:=⟨_,func126,by kernel_rfl,by kernel_rfl⟩
theorem adV : bC prog 127:=⟨_,func127,by kernel_rfl,by kernel_rfl⟩
theorem adW : bC prog 128:=⟨_,func128,by kernel_rfl,by kernel_rfl⟩
theorem aac : bC prog 129:=⟨_,func129,by kernel_rfl,by kernel_rfl⟩
theorem aad : bC prog 130:=⟨_,func130,by kernel_rfl,by kernel_rfl⟩
theorem aae : bC prog 131:=⟨_,func131,by kernel_rfl,by kernel_rfl⟩
theorem adX : bC prog 132:=⟨_,func132,by kernel_rfl,by kernel_rfl⟩
theorem adY : bC prog 133:=⟨_,func133,by kernel_rfl,by kernel_rfl⟩
theorem adZ : bC prog 134:=⟨_,func134,by kernel_rfl,by kernel_rfl⟩
theorem ad0 : bC prog 135:=⟨_,func135,by kernel_rfl,by kernel_rfl⟩
theorem ad1 : bC prog 136:=⟨_,func136,by kernel_rfl,by kernel_rfl⟩
theorem ad2 : bC prog 137:=⟨_,func137,by kernel_rfl,by kernel_rfl⟩
theorem ad3 : bC prog 138:=⟨_,func138,by kernel_rfl,by kernel_rfl⟩
theorem ad4 : bC prog 142:=⟨_,func142,by kernel_rfl,by kernel_rfl⟩
theorem ad5 : bC prog 144:=⟨_,func144,by kernel_rfl,by kernel_rfl⟩
theorem bD : eN prog 3 1:=eF (by kernel_rfl)
theorem bT : gV prog 3 false:=eS _ jC rfl
theorem mO : mY prog 3 (.int .i64 0):=jF (by kernel_rfl)
theorem lE : (prog.info? 3).map (fun i=>(i.size,i.bytes,i.zero)) = some (1,8,some (.int .i64 0)):=by kernel_rfl
theorem fF : eN prog 4 1:=eF (by kernel_rfl)
theorem jR : gV prog 4 false:=eS _ Qz rfl
theorem mP : mY prog 4 (.bool false):=jF (by kernel_rfl)
theorem Io : (prog.info? 5).map (fun i=>(i.size,i.bytes,i.zero)) = some (1,1,some (.int .u8 0)):=by kernel_rfl
theorem rA : eN prog 9 1:=eF (by kernel_rfl)
theorem yN : gV prog 9 false:=eS _ qU rfl
theorem aaf : eN prog 22 1:=eF (by kernel_rfl)
theorem ad6 : gV prog 22 false:=eS _ bW rfl
theorem aag : eN prog 23 1:=eF (by kernel_rfl)
theorem ad7 : gV prog 23 false:=eS _ yM rfl
theorem aah : eN prog 25 4:=eF (by kernel_rfl)
theorem ad8 : gV prog 25 true:=eS _ Im rfl
theorem yO : eN prog 26 3:=eF (by kernel_rfl)
theorem ab5 : mY prog 26 (.agg #[.int .i64 0,.int .i64 0,.int .i64 0]):=jF (by kernel_rfl)
theorem jS : eN prog 29 1:=eF (by kernel_rfl)
theorem oE : gV prog 29 false:=eS _ bS rfl
theorem vE : eN prog 30 1:=eF (by kernel_rfl)
theorem Kv : gV prog 30 false:=eS _ kB rfl
theorem pA : eN prog 41 1:=eF (by kernel_rfl)
theorem Ev : gV prog 41 false:=eS _ fI rfl
theorem aF : eN prog 48 3:=eF (by kernel_rfl)
theorem aJ : gV prog 48 true:=eS _ eD rfl
theorem bQ : mY prog 48 (.agg #[.int .i64 0,.int .i64 0,.int .i64 0]):=jF (by kernel_rfl)
theorem vF : (prog.info? 48).map (fun i=>(i.size,i.bytes,i.zero)) = some (3,24,some (.agg #[.int .i64 0,.int .i64 0,.int .i64 0])):=by kernel_rfl
theorem fO : eN prog 50 6:=eF (by kernel_rfl)
theorem Rb : gV prog 50 true:=eS _ jI rfl
theorem yP : mY prog 50 (.agg #[.int .i64 0,.int .i64 0,.int .i64 0,.int .i64 0,.int .i64 0,.int .i64 0]):=jF (by kernel_rfl)
theorem aai : (prog.info? 50).map (fun i=>(i.size,i.bytes,i.zero)) = some (6,48,some (.agg #[.int .i64 0,.int .i64 0,.int .i64 0,.int .i64 0,.int .i64 0,.int .i64 0])):=by kernel_rfl
theorem aT : eN prog 53 9:=eF (by kernel_rfl)
theorem eQ : gV prog 53 true:=eS _ bL rfl
theorem jX : mY prog 53 (.agg #[.int .i64 0,.int .i64 0,.int .i64 0,.int .i64 0,.int .i64 0,.int .i64 0,.int .i64 0,.int .i64 0,.int .i64 0]):=jF (by kernel_rfl)
theorem nN : (prog.info? 53).map (fun i=>(i.size,i.bytes,i.zero)) = some (9,72,some (.agg #[.int .i64 0,.int .i64 0,.int .i64 0,.int .i64 0,.int .i64 0,.int .i64 0,.int .i64 0,.int .i64 0,.int .i64 0])):=by kernel_rfl
theorem cF : eN prog 57 6:=eF (by kernel_rfl)
theorem kK : gV prog 57 true:=eS _ jQ rfl
theorem tO : mY prog 57 (.agg #[.int .i64 0,.int .i64 0,.int .i64 0,.int .i64 0,.int .i64 0,.int .i64 0]):=jF (by kernel_rfl)
theorem vG : (prog.info? 57).map (fun i=>(i.size,i.bytes,i.zero)) = some (6,48,some (.agg #[.int .i64 0,.int .i64 0,.int .i64 0,.int .i64 0,.int .i64 0,.int .i64 0])):=by kernel_rfl
theorem aR : eN prog 65 2:=eF (by kernel_rfl)
theorem bY : gV prog 65 true:=eS _ gN rfl
theorem fC : mY prog 65 (.agg #[.bool false,.string ⟨#[]⟩]):=jF (by kernel_rfl)
theorem yQ : eN prog 71 1:=eF (by kernel_rfl)
theorem Rc : gV prog 71 false:=eS _ underlying71 rfl
theorem ab6 : mY prog 73 (.agg #[.slice none 0 0,.slice none 0 0,.slice none 0 0,.slice none 0 0,.map none,.int .i64 0]):=jF (by kernel_rfl)
theorem sD : eN prog 74 1:=eF (by kernel_rfl)
theorem Ew : gV prog 74 false:=eS _ underlying74 rfl
theorem jD : eN prog 76 1:=eF (by kernel_rfl)
theorem Ex : gV prog 76 true:=eS _ Et rfl
theorem wD : mY prog 76 (.agg #[.nilFunc]):=jF (by kernel_rfl)
theorem sE : eN prog 80 4:=eF (by kernel_rfl)
theorem Vt : eN prog 115 18:=eF (by kernel_rfl)
theorem Nh : mY prog 115 (.agg #[.int .i64 0,.int .i64 0,.int .i64 0,.int .i64 0,.int .i64 0,.int .i64 0,.int .i64 0,.int .i64 0,.int .i64 0,.int .i64 0,.int .i64 0,.int .i64 0,.int .i64 0,.int .i64 0,.int .i64 0,.int .i64 0,.int .i64 0,.int .i64 0]):=jF (by kernel_rfl)
theorem sF : eN prog 120 6:=eF (by kernel_rfl)
theorem Kw : gV prog 120 true:=eS _ vD rfl
theorem Ey : mY prog 120 (.agg #[.bool false,.string ⟨#[]⟩,.bool false,.string ⟨#[]⟩,.bool false,.string ⟨#[]⟩]):=jF (by kernel_rfl)
theorem aY : eN prog 126 1:=eF (by kernel_rfl)
theorem fD : gV prog 126 false:=eS _ oD rfl
theorem mJ : (prog.info? 126).map (fun i=>(i.size,i.bytes,i.zero)) = some (1,8,some (.int .u64 0)):=by kernel_rfl
theorem Vu : eN prog 131 1:=eF (by kernel_rfl)
theorem ab7 : gV prog 131 false:=eS _ mN rfl
theorem aaj : mY prog 131 (.slice none 0 0):=jF (by kernel_rfl)
theorem eB : eN prog 143 6:=eF (by kernel_rfl)
theorem kL : gV prog 143 true:=eS _ kA rfl
theorem nO : mY prog 143 (.agg #[.int .i64 0,.int .i64 0,.int .i64 0,.int .i64 0,.int .i64 0,.int .i64 0]):=jF (by kernel_rfl)
theorem ab8 : (prog.info? 143).map (fun i=>(i.size,i.bytes,i.zero)) = some (6,48,some (.agg #[.int .i64 0,.int .i64 0,.int .i64 0,.int .i64 0,.int .i64 0,.int .i64 0])):=by kernel_rfl
theorem wE : eN prog 149 1:=eF (by kernel_rfl)
theorem Kx : gV prog 149 false:=eS _ underlying149 rfl
theorem wF : eN prog 150 3:=eF (by kernel_rfl)
theorem Td : gV prog 150 true:=eS _ underlying150 rfl
theorem Ez : mY prog 150 (.agg #[.nilFunc,.nilFunc,.nilFunc]):=jF (by kernel_rfl)
theorem pW : eN prog 153 6:=eF (by kernel_rfl)
theorem De : gV prog 153 true:=eS _ rL rfl
theorem Fa : mY prog 153 (.agg #[.bool false,.string ⟨#[]⟩,.bool false,.string ⟨#[]⟩,.bool false,.string ⟨#[]⟩]):=jF (by kernel_rfl)
theorem aak : mY prog 166 (.agg #[.int .i64 0,.int .i64 0,.int .i64 0,.int .i64 0,.int .i64 0,.int .i64 0,.int .i64 0,.int .i64 0,.int .i64 0,.int .i64 0,.int .i64 0,.int .i64 0,.int .i64 0,.int .i64 0,.int .i64 0,.int .i64 0,.int .i64 0,.int .i64 0,.int .i64 0,.int .i64 0,.int .i64 0,.int .i64 0,.int .i64 0,.int .i64 0]):=jF (by kernel_rfl)
theorem Ip : eN prog 169 18:=eF (by kernel_rfl)
theorem ab9 : gV prog 169 true:=eS _ underlying169 rfl
theorem Ni : mY prog 169 (.agg #[.int .i64 0,.int .i64 0,.int .i64 0,.int .i64 0,.int .i64 0,.int .i64 0,.int .i64 0,.int .i64 0,.int .i64 0,.int .i64 0,.int .i64 0,.int .i64 0,.int .i64 0,.int .i64 0,.int .i64 0,.int .i64 0,.int .i64 0,.int .i64 0]):=jF (by kernel_rfl)
theorem Re {v0 v1 v2 : Value} {c0_0 : Value} (h0 : v0.cells = #[c0_0]) {c1_0 : Value} (h1 : v1.cells = #[c1_0]) {c2_0 : Value} (h2 : v2.cells = #[c2_0])  (w : World) : (Instr.build 26 #[(0,v0),(1,v1),(2,v2)]).run prog w = .ok (.agg #[c0_0,c1_0,c2_0]) w:=iP underlying26 ab5 bD (by simp [Instr.fill,fK,h0,h1,h2]) w
theorem iX {l : List Value} {ty : TypeId} {x0 x1 x2 : Operand} {c0_0 : Value} (h0 : (ev l x0).cells = #[c0_0]) {c1_0 : Value} (h1 : (ev l x1).cells = #[c1_0]) {c2_0 : Value} (h2 : (ev l x2).cells = #[c2_0]) : iH prog l (.build 26 #[(0,x0),(1,x1),(2,x2)]) ty (.agg #[c0_0,c1_0,c2_0]):=iT (vs:=#[(0,ev l x0),(1,ev l x1),(2,ev l x2)]) (by simp) fun w=>Re h0 h1 h2 w
theorem sG (w : World) : ((#[{ name := "X", type:=3,offset:=0,embedded:=false,tag := "", pkgPath := "", byteOffset:=0 },{ name := "Y", type:=3,offset:=1,embedded:=false,tag := "", pkgPath := "", byteOffset:=8 },{ name := "Z", type:=3,offset:=2,embedded:=false,tag := "", pkgPath := "", byteOffset:=16 }] : Array Field).mapM fun f=>do pure (f.offset,← sizeOf f.type) : Sem (Array (Nat × Nat))).run prog w = .ok #[(0,1),(1,1),(2,1)] w:=by
 simp [Array.mapM_eq_mapM_toList,fR bD]
theorem agy  (w : World) : (Instr.build 48 #[]).run prog w = .ok (.agg #[(.int .i64 0),(.int .i64 0),(.int .i64 0)]) w:=eA eD bQ sG (by simp [Instr.fill,fK]) w
theorem Nj {l : List Value} {ty : TypeId}  : iH prog l (.build 48 #[]) ty (.agg #[(.int .i64 0),(.int .i64 0),(.int .i64 0)]):=iT (vs:=#[]) (by simp) fun w=>agy  w
theorem ad9 {v0 : Value} {c0_0 : Value} (h0 : v0.cells = #[c0_0])  (w : World) : (Instr.build 48 #[(0,v0)]).run prog w = .ok (.agg #[c0_0,(.int .i64 0),(.int .i64 0)]) w:=eA eD bQ sG (by simp [Instr.fill,fK,h0]) w
theorem Ky {l : List Value} {ty : TypeId} {x0 : Operand} {c0_0 : Value} (h0 : (ev l x0).cells = #[c0_0]) : iH prog l (.build 48 #[(0,x0)]) ty (.agg #[c0_0,(.int .i64 0),(.int .i64 0)]):=iT (vs:=#[(0,ev l x0)]) (by simp) fun w=>ad9 h0 w
theorem Rf {v0 v1 v2 : Value} {c0_0 : Value} (h0 : v0.cells = #[c0_0]) {c1_0 : Value} (h1 : v1.cells = #[c1_0]) {c2_0 : Value} (h2 : v2.cells = #[c2_0])  (w : World) : (Instr.build 48 #[(0,v0),(1,v1),(2,v2)]).run prog w = .ok (.agg #[c0_0,c1_0,c2_0]) w:=eA eD bQ sG (by simp [Instr.fill,fK,h0,h1,h2]) w
theorem dP {l : List Value} {ty : TypeId} {x0 x1 x2 : Operand} {c0_0 : Value} (h0 : (ev l x0).cells = #[c0_0]) {c1_0 : Value} (h1 : (ev l x1).cells = #[c1_0]) {c2_0 : Value} (h2 : (ev l x2).cells = #[c2_0]) : iH prog l (.build 48 #[(0,x0),(1,x1),(2,x2)]) ty (.agg #[c0_0,c1_0,c2_0]):=iT (vs:=#[(0,ev l x0),(1,ev l x1),(2,ev l x2)]) (by simp) fun w=>Rf h0 h1 h2 w
theorem aea {v1 : Value} {c1_0 : Value} (h1 : v1.cells = #[c1_0])  (w : World) : (Instr.build 48 #[(1,v1)]).run prog w = .ok (.agg #[(.int .i64 0),c1_0,(.int .i64 0)]) w:=eA eD bQ sG (by simp [Instr.fill,fK,h1]) w
theorem Kz {l : List Value} {ty : TypeId} {x1 : Operand} {c1_0 : Value} (h1 : (ev l x1).cells = #[c1_0]) : iH prog l (.build 48 #[(1,x1)]) ty (.agg #[(.int .i64 0),c1_0,(.int .i64 0)]):=iT (vs:=#[(1,ev l x1)]) (by simp) fun w=>aea h1 w
theorem aeb {v2 : Value} {c2_0 : Value} (h2 : v2.cells = #[c2_0])  (w : World) : (Instr.build 48 #[(2,v2)]).run prog w = .ok (.agg #[(.int .i64 0),(.int .i64 0),c2_0]) w:=eA eD bQ sG (by simp [Instr.fill,fK,h2]) w
theorem yR {l : List Value} {ty : TypeId} {x2 : Operand} {c2_0 : Value} (h2 : (ev l x2).cells = #[c2_0]) : iH prog l (.build 48 #[(2,x2)]) ty (.agg #[(.int .i64 0),(.int .i64 0),c2_0]):=iT (vs:=#[(2,ev l x2)]) (by simp) fun w=>aeb h2 w
theorem Iq (w : World) : ((#[{ name := "From", type:=48,offset:=0,embedded:=false,tag := "", pkgPath := "", byteOffset:=0 },{ name := "To", type:=48,offset:=3,embedded:=false,tag := "", pkgPath := "", byteOffset:=24 }] : Array Field).mapM fun f=>do pure (f.offset,← sizeOf f.type) : Sem (Array (Nat × Nat))).run prog w = .ok #[(0,3),(3,3)] w:=by
 simp [Array.mapM_eq_mapM_toList,fR aF]
theorem aec {v0 : Value} {c0_0 c0_1 c0_2 : Value} (h0 : v0.cells = #[c0_0,c0_1,c0_2])  (w : World) : (Instr.build 50 #[(0,v0)]).run prog w = .ok (.agg #[c0_0,c0_1,c0_2,(.int .i64 0),(.int .i64 0),(.int .i64 0)]) w:=eA jI yP Iq (by simp [Instr.fill,fK,h0]) w
theorem yS {l : List Value} {ty : TypeId} {x0 : Operand} {c0_0 c0_1 c0_2 : Value} (h0 : (ev l x0).cells = #[c0_0,c0_1,c0_2]) : iH prog l (.build 50 #[(0,x0)]) ty (.agg #[c0_0,c0_1,c0_2,(.int .i64 0),(.int .i64 0),(.int .i64 0)]):=iT (vs:=#[(0,ev l x0)]) (by simp) fun w=>aec h0 w
theorem aal {v0 v1 : Value} {c0_0 c0_1 c0_2 : Value} (h0 : v0.cells = #[c0_0,c0_1,c0_2]) {c1_0 c1_1 c1_2 : Value} (h1 : v1.cells = #[c1_0,c1_1,c1_2])  (w : World) : (Instr.build 50 #[(0,v0),(1,v1)]).run prog w = .ok (.agg #[c0_0,c0_1,c0_2,c1_0,c1_1,c1_2]) w:=eA jI yP Iq (by simp [Instr.fill,fK,h0,h1]) w
theorem qH {l : List Value} {ty : TypeId} {x0 x1 : Operand} {c0_0 c0_1 c0_2 : Value} (h0 : (ev l x0).cells = #[c0_0,c0_1,c0_2]) {c1_0 c1_1 c1_2 : Value} (h1 : (ev l x1).cells = #[c1_0,c1_1,c1_2]) : iH prog l (.build 50 #[(0,x0),(1,x1)]) ty (.agg #[c0_0,c0_1,c0_2,c1_0,c1_1,c1_2]):=iT (vs:=#[(0,ev l x0),(1,ev l x1)]) (by simp) fun w=>aal h0 h1 w
theorem Rg {v0 v1 v2 : Value} {c0_0 c0_1 c0_2 : Value} (h0 : v0.cells = #[c0_0,c0_1,c0_2]) {c1_0 c1_1 c1_2 : Value} (h1 : v1.cells = #[c1_0,c1_1,c1_2]) {c2_0 c2_1 c2_2 : Value} (h2 : v2.cells = #[c2_0,c2_1,c2_2])  (w : World) : (Instr.build 53 #[(0,v0),(1,v1),(2,v2)]).run prog w = .ok (.agg #[c0_0,c0_1,c0_2,c1_0,c1_1,c1_2,c2_0,c2_1,c2_2]) w:=iP bL jX aF (by simp [Instr.fill,fK,h0,h1,h2]) w
theorem bM {l : List Value} {ty : TypeId} {x0 x1 x2 : Operand} {c0_0 c0_1 c0_2 : Value} (h0 : (ev l x0).cells = #[c0_0,c0_1,c0_2]) {c1_0 c1_1 c1_2 : Value} (h1 : (ev l x1).cells = #[c1_0,c1_1,c1_2]) {c2_0 c2_1 c2_2 : Value} (h2 : (ev l x2).cells = #[c2_0,c2_1,c2_2]) : iH prog l (.build 53 #[(0,x0),(1,x1),(2,x2)]) ty (.agg #[c0_0,c0_1,c0_2,c1_0,c1_1,c1_2,c2_0,c2_1,c2_2]):=iT (vs:=#[(0,ev l x0),(1,ev l x1),(2,ev l x2)]) (by simp) fun w=>Rg h0 h1 h2 w
theorem aam {v0 v1 : Value} {c0_0 c0_1 c0_2 : Value} (h0 : v0.cells = #[c0_0,c0_1,c0_2]) {c1_0 c1_1 c1_2 : Value} (h1 : v1.cells = #[c1_0,c1_1,c1_2])  (w : World) : (Instr.build 57 #[(0,v0),(1,v1)]).run prog w = .ok (.agg #[c0_0,c0_1,c0_2,c1_0,c1_1,c1_2]) w:=iP jQ tO aF (by simp [Instr.fill,fK,h0,h1]) w
theorem cP {l : List Value} {ty : TypeId} {x0 x1 : Operand} {c0_0 c0_1 c0_2 : Value} (h0 : (ev l x0).cells = #[c0_0,c0_1,c0_2]) {c1_0 c1_1 c1_2 : Value} (h1 : (ev l x1).cells = #[c1_0,c1_1,c1_2]) : iH prog l (.build 57 #[(0,x0),(1,x1)]) ty (.agg #[c0_0,c0_1,c0_2,c1_0,c1_1,c1_2]):=iT (vs:=#[(0,ev l x0),(1,ev l x1)]) (by simp) fun w=>aam h0 h1 w
theorem Ir (w : World) : ((#[{ name := "Neg", type:=4,offset:=0,embedded:=false,tag := "", pkgPath := "", byteOffset:=0 },{ name := "Mag", type:=9,offset:=1,embedded:=false,tag := "", pkgPath := "", byteOffset:=8 }] : Array Field).mapM fun f=>do pure (f.offset,← sizeOf f.type) : Sem (Array (Nat × Nat))).run prog w = .ok #[(0,1),(1,1)] w:=by
 simp [Array.mapM_eq_mapM_toList,fR fF,fR rA]
theorem agz  (w : World) : (Instr.build 65 #[]).run prog w = .ok (.agg #[(.bool false),(.string ⟨#[]⟩)]) w:=eA gN fC Ir (by simp [Instr.fill,fK]) w
theorem Cc {l : List Value} {ty : TypeId}  : iH prog l (.build 65 #[]) ty (.agg #[(.bool false),(.string ⟨#[]⟩)]):=iT (vs:=#[]) (by simp) fun w=>agz  w
theorem aan {v0 v1 : Value} {c0_0 : Value} (h0 : v0.cells = #[c0_0]) {c1_0 : Value} (h1 : v1.cells = #[c1_0])  (w : World) : (Instr.build 65 #[(0,v0),(1,v1)]).run prog w = .ok (.agg #[c0_0,c1_0]) w:=eA gN fC Ir (by simp [Instr.fill,fK,h0,h1]) w
theorem qI {l : List Value} {ty : TypeId} {x0 x1 : Operand} {c0_0 : Value} (h0 : (ev l x0).cells = #[c0_0]) {c1_0 : Value} (h1 : (ev l x1).cells = #[c1_0]) : iH prog l (.build 65 #[(0,x0),(1,x1)]) ty (.agg #[c0_0,c1_0]):=iT (vs:=#[(0,ev l x0),(1,ev l x1)]) (by simp) fun w=>aan h0 h1 w
theorem Vv (w : World) : ((#[{ name := "fine", type:=29,offset:=0,embedded:=false,tag := "", pkgPath := "lithophane/witness", byteOffset:=0 },{ name := "coarse", type:=29,offset:=1,embedded:=false,tag := "", pkgPath := "lithophane/witness", byteOffset:=24 },{ name := "moves", type:=30,offset:=2,embedded:=false,tag := "", pkgPath := "lithophane/witness", byteOffset:=48 },{ name := "rim", type:=41,offset:=3,embedded:=false,tag := "", pkgPath := "lithophane/witness", byteOffset:=72 },{ name := "to", type:=71,offset:=4,embedded:=false,tag := "", pkgPath := "lithophane/witness", byteOffset:=96 },{ name := "most", type:=3,offset:=5,embedded:=false,tag := "", pkgPath := "lithophane/witness", byteOffset:=104 }] : Array Field).mapM fun f=>do pure (f.offset,← sizeOf f.type) : Sem (Array (Nat × Nat))).run prog w = .ok #[(0,1),(1,1),(2,1),(3,1),(4,1),(5,1)] w:=by
 simp [Array.mapM_eq_mapM_toList,fR jS,fR bD,fR vE,fR pA,fR yQ]
theorem La {v0 v1 v2 v4 : Value} {c0_0 : Value} (h0 : v0.cells = #[c0_0]) {c1_0 : Value} (h1 : v1.cells = #[c1_0]) {c2_0 : Value} (h2 : v2.cells = #[c2_0]) {c4_0 : Value} (h4 : v4.cells = #[c4_0])  (w : World) : (Instr.build 73 #[(0,v0),(1,v1),(2,v2),(4,v4)]).run prog w = .ok (.agg #[c0_0,c1_0,c2_0,(.slice none 0 0),c4_0,(.int .i64 0)]) w:=eA jJ ab6 Vv (by simp [Instr.fill,fK,h0,h1,h2,h4]) w
theorem xN {l : List Value} {ty : TypeId} {x0 x1 x2 x4 : Operand} {c0_0 : Value} (h0 : (ev l x0).cells = #[c0_0]) {c1_0 : Value} (h1 : (ev l x1).cells = #[c1_0]) {c2_0 : Value} (h2 : (ev l x2).cells = #[c2_0]) {c4_0 : Value} (h4 : (ev l x4).cells = #[c4_0]) : iH prog l (.build 73 #[(0,x0),(1,x1),(2,x2),(4,x4)]) ty (.agg #[c0_0,c1_0,c2_0,(.slice none 0 0),c4_0,(.int .i64 0)]):=iT (vs:=#[(0,ev l x0),(1,ev l x1),(2,ev l x2),(4,ev l x4)]) (by simp) fun w=>La h0 h1 h2 h4 w
theorem Vw (w : World) : ((#[{ name := "run", type:=74,offset:=0,embedded:=false,tag := "", pkgPath := "lithophane/witness", byteOffset:=0 }] : Array Field).mapM fun f=>do pure (f.offset,← sizeOf f.type) : Sem (Array (Nat × Nat))).run prog w = .ok #[(0,1)] w:=by
 simp [Array.mapM_eq_mapM_toList,fR sD]
theorem aed {v0 : Value} {c0_0 : Value} (h0 : v0.cells = #[c0_0])  (w : World) : (Instr.build 76 #[(0,v0)]).run prog w = .ok (.agg #[c0_0]) w:=eA Et wD Vw (by simp [Instr.fill,fK,h0]) w
theorem nP {l : List Value} {ty : TypeId} {x0 : Operand} {c0_0 : Value} (h0 : (ev l x0).cells = #[c0_0]) : iH prog l (.build 76 #[(0,x0)]) ty (.agg #[c0_0]):=iT (vs:=#[(0,ev l x0)]) (by simp) fun w=>aed h0 w
theorem yT {v0 v1 v2 v3 v4 v5 : Value} {c0_0 c0_1 c0_2 : Value} (h0 : v0.cells = #[c0_0,c0_1,c0_2]) {c1_0 c1_1 c1_2 : Value} (h1 : v1.cells = #[c1_0,c1_1,c1_2]) {c2_0 c2_1 c2_2 : Value} (h2 : v2.cells = #[c2_0,c2_1,c2_2]) {c3_0 c3_1 c3_2 : Value} (h3 : v3.cells = #[c3_0,c3_1,c3_2]) {c4_0 c4_1 c4_2 : Value} (h4 : v4.cells = #[c4_0,c4_1,c4_2]) {c5_0 c5_1 c5_2 : Value} (h5 : v5.cells = #[c5_0,c5_1,c5_2])  (w : World) : (Instr.build 115 #[(0,v0),(1,v1),(2,v2),(3,v3),(4,v4),(5,v5)]).run prog w = .ok (.agg #[c0_0,c0_1,c0_2,c1_0,c1_1,c1_2,c2_0,c2_1,c2_2,c3_0,c3_1,c3_2,c4_0,c4_1,c4_2,c5_0,c5_1,c5_2]) w:=iP underlying115 Nh yO (by simp [Instr.fill,fK,h0,h1,h2,h3,h4,h5]) w
theorem sH {l : List Value} {ty : TypeId} {x0 x1 x2 x3 x4 x5 : Operand} {c0_0 c0_1 c0_2 : Value} (h0 : (ev l x0).cells = #[c0_0,c0_1,c0_2]) {c1_0 c1_1 c1_2 : Value} (h1 : (ev l x1).cells = #[c1_0,c1_1,c1_2]) {c2_0 c2_1 c2_2 : Value} (h2 : (ev l x2).cells = #[c2_0,c2_1,c2_2]) {c3_0 c3_1 c3_2 : Value} (h3 : (ev l x3).cells = #[c3_0,c3_1,c3_2]) {c4_0 c4_1 c4_2 : Value} (h4 : (ev l x4).cells = #[c4_0,c4_1,c4_2]) {c5_0 c5_1 c5_2 : Value} (h5 : (ev l x5).cells = #[c5_0,c5_1,c5_2]) : iH prog l (.build 115 #[(0,x0),(1,x1),(2,x2),(3,x3),(4,x4),(5,x5)]) ty (.agg #[c0_0,c0_1,c0_2,c1_0,c1_1,c1_2,c2_0,c2_1,c2_2,c3_0,c3_1,c3_2,c4_0,c4_1,c4_2,c5_0,c5_1,c5_2]):=iT (vs:=#[(0,ev l x0),(1,ev l x1),(2,ev l x2),(3,ev l x3),(4,ev l x4),(5,ev l x5)]) (by simp) fun w=>yT h0 h1 h2 h3 h4 h5 w
theorem Nk {v0 v1 v2 : Value} {c0_0 c0_1 : Value} (h0 : v0.cells = #[c0_0,c0_1]) {c1_0 c1_1 : Value} (h1 : v1.cells = #[c1_0,c1_1]) {c2_0 c2_1 : Value} (h2 : v2.cells = #[c2_0,c2_1])  (w : World) : (Instr.build 120 #[(0,v0),(1,v1),(2,v2)]).run prog w = .ok (.agg #[c0_0,c0_1,c1_0,c1_1,c2_0,c2_1]) w:=iP vD Ey aR (by simp [Instr.fill,fK,h0,h1,h2]) w
theorem yU {l : List Value} {ty : TypeId} {x0 x1 x2 : Operand} {c0_0 c0_1 : Value} (h0 : (ev l x0).cells = #[c0_0,c0_1]) {c1_0 c1_1 : Value} (h1 : (ev l x1).cells = #[c1_0,c1_1]) {c2_0 c2_1 : Value} (h2 : (ev l x2).cells = #[c2_0,c2_1]) : iH prog l (.build 120 #[(0,x0),(1,x1),(2,x2)]) ty (.agg #[c0_0,c0_1,c1_0,c1_1,c2_0,c2_1]):=iT (vs:=#[(0,ev l x0),(1,ev l x1),(2,ev l x2)]) (by simp) fun w=>Nk h0 h1 h2 w
theorem Rh (w : World) : ((#[{ name := "from", type:=48,offset:=0,embedded:=false,tag := "", pkgPath := "lithophane/mesh", byteOffset:=0 },{ name := "to", type:=48,offset:=3,embedded:=false,tag := "", pkgPath := "lithophane/mesh", byteOffset:=24 }] : Array Field).mapM fun f=>do pure (f.offset,← sizeOf f.type) : Sem (Array (Nat × Nat))).run prog w = .ok #[(0,3),(3,3)] w:=by
 simp [Array.mapM_eq_mapM_toList,fR aF]
theorem Vx {v0 v1 : Value} {c0_0 c0_1 c0_2 : Value} (h0 : v0.cells = #[c0_0,c0_1,c0_2]) {c1_0 c1_1 c1_2 : Value} (h1 : v1.cells = #[c1_0,c1_1,c1_2])  (w : World) : (Instr.build 143 #[(0,v0),(1,v1)]).run prog w = .ok (.agg #[c0_0,c0_1,c0_2,c1_0,c1_1,c1_2]) w:=eA kA nO Rh (by simp [Instr.fill,fK,h0,h1]) w
theorem gQ {l : List Value} {ty : TypeId} {x0 x1 : Operand} {c0_0 c0_1 c0_2 : Value} (h0 : (ev l x0).cells = #[c0_0,c0_1,c0_2]) {c1_0 c1_1 c1_2 : Value} (h1 : (ev l x1).cells = #[c1_0,c1_1,c1_2]) : iH prog l (.build 143 #[(0,x0),(1,x1)]) ty (.agg #[c0_0,c0_1,c0_2,c1_0,c1_1,c1_2]):=iT (vs:=#[(0,ev l x0),(1,ev l x1)]) (by simp) fun w=>Vx h0 h1 w
theorem Nl {v0 v1 v2 : Value} {c0_0 : Value} (h0 : v0.cells = #[c0_0]) {c1_0 : Value} (h1 : v1.cells = #[c1_0]) {c2_0 : Value} (h2 : v2.cells = #[c2_0])  (w : World) : (Instr.build 150 #[(0,v0),(1,v1),(2,v2)]).run prog w = .ok (.agg #[c0_0,c1_0,c2_0]) w:=iP underlying150 Ez wE (by simp [Instr.fill,fK,h0,h1,h2]) w
theorem rB {l : List Value} {ty : TypeId} {x0 x1 x2 : Operand} {c0_0 : Value} (h0 : (ev l x0).cells = #[c0_0]) {c1_0 : Value} (h1 : (ev l x1).cells = #[c1_0]) {c2_0 : Value} (h2 : (ev l x2).cells = #[c2_0]) : iH prog l (.build 150 #[(0,x0),(1,x1),(2,x2)]) ty (.agg #[c0_0,c1_0,c2_0]):=iT (vs:=#[(0,ev l x0),(1,ev l x1),(2,ev l x2)]) (by simp) fun w=>Nl h0 h1 h2 w
theorem Nm {v0 v1 v2 : Value} {c0_0 c0_1 c0_2 c0_3 c0_4 c0_5 : Value} (h0 : v0.cells = #[c0_0,c0_1,c0_2,c0_3,c0_4,c0_5]) {c1_0 c1_1 c1_2 c1_3 c1_4 c1_5 : Value} (h1 : v1.cells = #[c1_0,c1_1,c1_2,c1_3,c1_4,c1_5]) {c2_0 c2_1 c2_2 c2_3 c2_4 c2_5 : Value} (h2 : v2.cells = #[c2_0,c2_1,c2_2,c2_3,c2_4,c2_5])  (w : World) : (Instr.build 169 #[(0,v0),(1,v1),(2,v2)]).run prog w = .ok (.agg #[c0_0,c0_1,c0_2,c0_3,c0_4,c0_5,c1_0,c1_1,c1_2,c1_3,c1_4,c1_5,c2_0,c2_1,c2_2,c2_3,c2_4,c2_5]) w:=iP underlying169 Ni eB (by simp [Instr.fill,fK,h0,h1,h2]) w
theorem yV {l : List Value} {ty : TypeId} {x0 x1 x2 : Operand} {c0_0 c0_1 c0_2 c0_3 c0_4 c0_5 : Value} (h0 : (ev l x0).cells = #[c0_0,c0_1,c0_2,c0_3,c0_4,c0_5]) {c1_0 c1_1 c1_2 c1_3 c1_4 c1_5 : Value} (h1 : (ev l x1).cells = #[c1_0,c1_1,c1_2,c1_3,c1_4,c1_5]) {c2_0 c2_1 c2_2 c2_3 c2_4 c2_5 : Value} (h2 : (ev l x2).cells = #[c2_0,c2_1,c2_2,c2_3,c2_4,c2_5]) : iH prog l (.build 169 #[(0,x0),(1,x1),(2,x2)]) ty (.agg #[c0_0,c0_1,c0_2,c0_3,c0_4,c0_5,c1_0,c1_1,c1_2,c1_3,c1_4,c1_5,c2_0,c2_1,c2_2,c2_3,c2_4,c2_5]):=iT (vs:=#[(0,ev l x0),(1,ev l x1),(2,ev l x2)]) (by simp) fun w=>Nm h0 h1 h2 w
theorem rM (d : Nat) {x0 y0 : Int} {x1 y1 : Int} {x2 y2 : Int} : uE prog (d + 2) 48 (.agg #[.int .i64 x0,.int .i64 x1,.int .i64 x2]) (.agg #[.int .i64 y0,.int .i64 y1,.int .i64 y2]) (x0 = y0 ∧ x1 = y1 ∧ x2 = y2):=(uE.struct eD (by kernel_rfl) (wQ.cons (by decide) (dT bT rfl) (dT bT rfl) (uE.int (d:=d + 0) jC) (wQ.cons (by decide) (dT bT rfl) (dT bT rfl) (uE.int (d:=d + 0) jC) (wQ.cons (by decide) (dT bT rfl) (dT bT rfl) (uE.int (d:=d + 0) jC) wQ.nil)))).iff (by simp only[and_assoc,and_true])
theorem dB {l : List Value} {ty T' : TypeId} {x y : Operand} {x0 y0 : Int} {x1 y1 : Int} {x2 y2 : Int} (hx : ev l x = (.agg #[.int .i64 x0,.int .i64 x1,.int .i64 x2])) (hy : ev l y = (.agg #[.int .i64 y0,.int .i64 y1,.int .i64 y2])) : iH prog l (.binOp .eql 48 x y T') ty (.bool (decide (x0 = y0 ∧ x1 = y1 ∧ x2 = y2))):=Qh (by kernel_rfl) hx hy (rM 9998)
theorem gA {l : List Value} {ty T' : TypeId} {x y : Operand} {x0 y0 : Int} {x1 y1 : Int} {x2 y2 : Int} (hx : ev l x = (.agg #[.int .i64 x0,.int .i64 x1,.int .i64 x2])) (hy : ev l y = (.agg #[.int .i64 y0,.int .i64 y1,.int .i64 y2])) : iH prog l (.binOp .neq 48 x y T') ty (.bool (decide (¬ (x0 = y0 ∧ x1 = y1 ∧ x2 = y2)))):=Qi (by kernel_rfl) hx hy (rM 9998)
theorem aao (d : Nat) {x0 y0 : Int} {x1 y1 : Int} {x2 y2 : Int} {x3 y3 : Int} {x4 y4 : Int} {x5 y5 : Int} {x6 y6 : Int} {x7 y7 : Int} {x8 y8 : Int} : uE prog (d + 3) 53 (.agg #[.int .i64 x0,.int .i64 x1,.int .i64 x2,.int .i64 x3,.int .i64 x4,.int .i64 x5,.int .i64 x6,.int .i64 x7,.int .i64 x8]) (.agg #[.int .i64 y0,.int .i64 y1,.int .i64 y2,.int .i64 y3,.int .i64 y4,.int .i64 y5,.int .i64 y6,.int .i64 y7,.int .i64 y8]) (x0 = y0 ∧ x1 = y1 ∧ x2 = y2 ∧ x3 = y3 ∧ x4 = y4 ∧ x5 = y5 ∧ x6 = y6 ∧ x7 = y7 ∧ x8 = y8):=(uE.array bL aF (Au.cons (fS aJ aF rfl) (fS aJ aF rfl) (rM (d + 0)) (Au.cons (fS aJ aF rfl) (fS aJ aF rfl) (rM (d + 0)) (Au.cons (fS aJ aF rfl) (fS aJ aF rfl) (rM (d + 0)) Au.nil)))).iff (by simp only[and_assoc,and_true])
theorem Vy {l : List Value} {ty T' : TypeId} {x y : Operand} {x0 y0 : Int} {x1 y1 : Int} {x2 y2 : Int} {x3 y3 : Int} {x4 y4 : Int} {x5 y5 : Int} {x6 y6 : Int} {x7 y7 : Int} {x8 y8 : Int} (hx : ev l x = (.agg #[.int .i64 x0,.int .i64 x1,.int .i64 x2,.int .i64 x3,.int .i64 x4,.int .i64 x5,.int .i64 x6,.int .i64 x7,.int .i64 x8])) (hy : ev l y = (.agg #[.int .i64 y0,.int .i64 y1,.int .i64 y2,.int .i64 y3,.int .i64 y4,.int .i64 y5,.int .i64 y6,.int .i64 y7,.int .i64 y8])) : iH prog l (.binOp .eql 53 x y T') ty (.bool (decide (x0 = y0 ∧ x1 = y1 ∧ x2 = y2 ∧ x3 = y3 ∧ x4 = y4 ∧ x5 = y5 ∧ x6 = y6 ∧ x7 = y7 ∧ x8 = y8))):=Qh (by kernel_rfl) hx hy (aao 9997)
theorem Ri (d : Nat) {x0 y0 : Int} {x1 y1 : Int} {x2 y2 : Int} {x3 y3 : Int} {x4 y4 : Int} {x5 y5 : Int} : uE prog (d + 3) 57 (.agg #[.int .i64 x0,.int .i64 x1,.int .i64 x2,.int .i64 x3,.int .i64 x4,.int .i64 x5]) (.agg #[.int .i64 y0,.int .i64 y1,.int .i64 y2,.int .i64 y3,.int .i64 y4,.int .i64 y5]) (x0 = y0 ∧ x1 = y1 ∧ x2 = y2 ∧ x3 = y3 ∧ x4 = y4 ∧ x5 = y5):=(uE.array jQ aF (Au.cons (fS aJ aF rfl) (fS aJ aF rfl) (rM (d + 0)) (Au.cons (fS aJ aF rfl) (fS aJ aF rfl) (rM (d + 0)) Au.nil))).iff (by simp only[and_assoc,and_true])
theorem Vz {l : List Value} {ty T' : TypeId} {x y : Operand} {x0 y0 : Int} {x1 y1 : Int} {x2 y2 : Int} {x3 y3 : Int} {x4 y4 : Int} {x5 y5 : Int} (hx : ev l x = (.agg #[.int .i64 x0,.int .i64 x1,.int .i64 x2,.int .i64 x3,.int .i64 x4,.int .i64 x5])) (hy : ev l y = (.agg #[.int .i64 y0,.int .i64 y1,.int .i64 y2,.int .i64 y3,.int .i64 y4,.int .i64 y5])) : iH prog l (.binOp .eql 57 x y T') ty (.bool (decide (x0 = y0 ∧ x1 = y1 ∧ x2 = y2 ∧ x3 = y3 ∧ x4 = y4 ∧ x5 = y5))):=Qh (by kernel_rfl) hx hy (Ri 9997)
theorem Is {l : List Value} {ty T' : TypeId} {x y : Operand} {x0 y0 : Int} {x1 y1 : Int} {x2 y2 : Int} {x3 y3 : Int} {x4 y4 : Int} {x5 y5 : Int} (hx : ev l x = (.agg #[.int .i64 x0,.int .i64 x1,.int .i64 x2,.int .i64 x3,.int .i64 x4,.int .i64 x5])) (hy : ev l y = (.agg #[.int .i64 y0,.int .i64 y1,.int .i64 y2,.int .i64 y3,.int .i64 y4,.int .i64 y5])) : iH prog l (.binOp .neq 57 x y T') ty (.bool (decide (¬ (x0 = y0 ∧ x1 = y1 ∧ x2 = y2 ∧ x3 = y3 ∧ x4 = y4 ∧ x5 = y5)))):=Qi (by kernel_rfl) hx hy (Ri 9997)
theorem aee (d : Nat) {x0 y0 : Bool} {x1 y1 : ByteArray} : uE prog (d + 2) 65 (.agg #[.bool x0,.string x1]) (.agg #[.bool y0,.string y1]) (x0 = y0 ∧ x1 = y1):=(uE.struct gN (by kernel_rfl) (wQ.cons (by decide) (dT jR rfl) (dT jR rfl) (uE.bool (d:=d + 0) Qz) (wQ.cons (by decide) (dT yN rfl) (dT yN rfl) (uE.str (d:=d + 0) qU) wQ.nil))).iff (by simp only[and_assoc,and_true])
theorem Wa {l : List Value} {ty T' : TypeId} {x y : Operand} {x0 y0 : Bool} {x1 y1 : ByteArray} (hx : ev l x = (.agg #[.bool x0,.string x1])) (hy : ev l y = (.agg #[.bool y0,.string y1])) : iH prog l (.binOp .neq 65 x y T') ty (.bool (decide (¬ (x0 = y0 ∧ x1 = y1)))):=Qi (by kernel_rfl) hx hy (aee 9998)
theorem aca (d : Nat) {x0 y0 : Int} {x1 y1 : Int} {x2 y2 : Int} {x3 y3 : Int} {x4 y4 : Int} {x5 y5 : Int} : uE prog (d + 3) 143 (.agg #[.int .i64 x0,.int .i64 x1,.int .i64 x2,.int .i64 x3,.int .i64 x4,.int .i64 x5]) (.agg #[.int .i64 y0,.int .i64 y1,.int .i64 y2,.int .i64 y3,.int .i64 y4,.int .i64 y5]) (x0 = y0 ∧ x1 = y1 ∧ x2 = y2 ∧ x3 = y3 ∧ x4 = y4 ∧ x5 = y5):=(uE.struct kA (by kernel_rfl) (wQ.cons (by decide) (fS aJ aF rfl) (fS aJ aF rfl) (rM (d + 0)) (wQ.cons (by decide) (fS aJ aF rfl) (fS aJ aF rfl) (rM (d + 0)) wQ.nil))).iff (by simp only[and_assoc,and_true])
end Go.Proofs.YtfohfflkhpfjeaaGreatDoor
namespace Go.Proofs.YtfohfflkhpfjeaaGreatDoor
open Go.Proofs.Tryz
open Go.RowKit Go.Lith
theorem kM {l : List Value} {ty : TypeId} {x y : Operand} {k : IntKind} {c0 c1 c2 c3 c4 c5 c6 c7 c8 : Value} (hx : ev l x = .agg #[c0,c1,c2,c3,c4,c5,c6,c7,c8]) (hy : ev l y = .int k 0) : iH prog l (.index 53 x y) ty (.agg #[c0,c1,c2]):=rW bL aJ aF hx hy (by decide) (by decide) rfl
theorem kN {l : List Value} {ty : TypeId} {x y : Operand} {k : IntKind} {c0 c1 c2 c3 c4 c5 c6 c7 c8 : Value} (hx : ev l x = .agg #[c0,c1,c2,c3,c4,c5,c6,c7,c8]) (hy : ev l y = .int k 1) : iH prog l (.index 53 x y) ty (.agg #[c3,c4,c5]):=rW bL aJ aF hx hy (by decide) (by decide) rfl
theorem kO {l : List Value} {ty : TypeId} {x y : Operand} {k : IntKind} {c0 c1 c2 c3 c4 c5 c6 c7 c8 : Value} (hx : ev l x = .agg #[c0,c1,c2,c3,c4,c5,c6,c7,c8]) (hy : ev l y = .int k 2) : iH prog l (.index 53 x y) ty (.agg #[c6,c7,c8]):=rW bL aJ aF hx hy (by decide) (by decide) rfl
theorem wX {l : List Value} {ty : TypeId} {x y : Operand} {k : IntKind} {c0 c1 c2 : Value} (hx : ev l x = .agg #[c0,c1,c2]) (hy : ev l y = .int k 0) : iH prog l (.index 150 x y) ty c0:=Du underlying150 Kx wE hx hy (by decide) (by decide) rfl
theorem wY {l : List Value} {ty : TypeId} {x y : Operand} {k : IntKind} {c0 c1 c2 : Value} (hx : ev l x = .agg #[c0,c1,c2]) (hy : ev l y = .int k 1) : iH prog l (.index 150 x y) ty c1:=Du underlying150 Kx wE hx hy (by decide) (by decide) rfl
theorem wZ {l : List Value} {ty : TypeId} {x y : Operand} {k : IntKind} {c0 c1 c2 : Value} (hx : ev l x = .agg #[c0,c1,c2]) (hy : ev l y = .int k 2) : iH prog l (.index 150 x y) ty c2:=Du underlying150 Kx wE hx hy (by decide) (by decide) rfl
theorem Hi {l : List Value} {ty : TypeId} {x y : Operand} {k : IntKind} {c0 c1 c2 c3 c4 c5 c6 c7 c8 c9 c10 c11 c12 c13 c14 c15 c16 c17 : Value} (hx : ev l x = .agg #[c0,c1,c2,c3,c4,c5,c6,c7,c8,c9,c10,c11,c12,c13,c14,c15,c16,c17]) (hy : ev l y = .int k 0) : iH prog l (.index 169 x y) ty (.agg #[c0,c1,c2,c3,c4,c5]):=rW underlying169 kL eB hx hy (by decide) (by decide) rfl
theorem Hj {l : List Value} {ty : TypeId} {x y : Operand} {k : IntKind} {c0 c1 c2 c3 c4 c5 c6 c7 c8 c9 c10 c11 c12 c13 c14 c15 c16 c17 : Value} (hx : ev l x = .agg #[c0,c1,c2,c3,c4,c5,c6,c7,c8,c9,c10,c11,c12,c13,c14,c15,c16,c17]) (hy : ev l y = .int k 1) : iH prog l (.index 169 x y) ty (.agg #[c6,c7,c8,c9,c10,c11]):=rW underlying169 kL eB hx hy (by decide) (by decide) rfl
theorem Hk {l : List Value} {ty : TypeId} {x y : Operand} {k : IntKind} {c0 c1 c2 c3 c4 c5 c6 c7 c8 c9 c10 c11 c12 c13 c14 c15 c16 c17 : Value} (hx : ev l x = .agg #[c0,c1,c2,c3,c4,c5,c6,c7,c8,c9,c10,c11,c12,c13,c14,c15,c16,c17]) (hy : ev l y = .int k 2) : iH prog l (.index 169 x y) ty (.agg #[c12,c13,c14,c15,c16,c17]):=rW underlying169 kL eB hx hy (by decide) (by decide) rfl
theorem Iu {ds : List Deferred} {l : List Value} {ty : TypeId} {ops : Array Oper} {Q : Exit → Act → World → Prop} {rest : List Oper} {d : Nat} {pos : String} {after : Array Edge} {w : World} {x0 : Operand} {c0_0 c0_1 c0_2 c0_3 c0_4 c0_5 c0_6 c0_7 c0_8 : Value} (h0 : (ev l x0).cells = #[c0_0,c0_1,c0_2,c0_3,c0_4,c0_5,c0_6,c0_7,c0_8]) (h : ∀ w' g,dJ w w' → w.heap.size ≤ g → gJ w' g [c0_0,c0_1,c0_2,c0_3,c0_4,c0_5,c0_6,c0_7,c0_8] 53 → wpList prog ops Q rest (Fr (l.set d (.slice (some ⟨g,0,none⟩) 1 1)) ds) w') : wpList prog ops Q (Oper.mk (some d) (.buildSlice 29 1 #[(0,x0)]) ty pos after none :: rest) (Fr l ds) w :=
 lZ (vs:=#[(0,ev l x0)]) (base:=#[.int .i64 0,.int .i64 0,.int .i64 0,.int .i64 0,.int .i64 0,.int .i64 0,.int .i64 0,.int .i64 0,.int .i64 0]) (c:=9) (z:=(.agg #[.int .i64 0,.int .i64 0,.int .i64 0,.int .i64 0,.int .i64 0,.int .i64 0,.int .i64 0,.int .i64 0,.int .i64 0])) bS (by kernel_rfl) (by decide) (by decide) (by kernel_rfl) (by simp) (by simp [Instr.fill,h0]) h
theorem wG {ds : List Deferred} {l : List Value} {ty : TypeId} {ops : Array Oper} {Q : Exit → Act → World → Prop} {rest : List Oper} {d : Nat} {pos : String} {after : Array Edge} {w : World} {x0 x1 : Operand} {c0_0 c0_1 c0_2 c0_3 c0_4 c0_5 c0_6 c0_7 c0_8 c1_0 c1_1 c1_2 c1_3 c1_4 c1_5 c1_6 c1_7 c1_8 : Value} (h0 : (ev l x0).cells = #[c0_0,c0_1,c0_2,c0_3,c0_4,c0_5,c0_6,c0_7,c0_8]) (h1 : (ev l x1).cells = #[c1_0,c1_1,c1_2,c1_3,c1_4,c1_5,c1_6,c1_7,c1_8]) (h : ∀ w' g,dJ w w' → w.heap.size ≤ g → gJ w' g [c0_0,c0_1,c0_2,c0_3,c0_4,c0_5,c0_6,c0_7,c0_8,c1_0,c1_1,c1_2,c1_3,c1_4,c1_5,c1_6,c1_7,c1_8] 53 → wpList prog ops Q rest (Fr (l.set d (.slice (some ⟨g,0,none⟩) 2 2)) ds) w') : wpList prog ops Q (Oper.mk (some d) (.buildSlice 29 2 #[(0,x0),(1,x1)]) ty pos after none :: rest) (Fr l ds) w :=
 lZ (vs:=#[(0,ev l x0),(1,ev l x1)]) (base:=#[.int .i64 0,.int .i64 0,.int .i64 0,.int .i64 0,.int .i64 0,.int .i64 0,.int .i64 0,.int .i64 0,.int .i64 0,.int .i64 0,.int .i64 0,.int .i64 0,.int .i64 0,.int .i64 0,.int .i64 0,.int .i64 0,.int .i64 0,.int .i64 0]) (c:=9) (z:=(.agg #[.int .i64 0,.int .i64 0,.int .i64 0,.int .i64 0,.int .i64 0,.int .i64 0,.int .i64 0,.int .i64 0,.int .i64 0])) bS (by kernel_rfl) (by decide) (by decide) (by kernel_rfl) (by simp) (by simp [Instr.fill,h0,h1]) h
theorem Wb {ds : List Deferred} {l : List Value} {ty : TypeId} {ops : Array Oper} {Q : Exit → Act → World → Prop} {rest : List Oper} {d : Nat} {pos : String} {after : Array Edge} {w : World} {x0 x1 x2 x3 : Operand} {c0_0 c0_1 c0_2 c0_3 c0_4 c0_5 c0_6 c0_7 c0_8 c1_0 c1_1 c1_2 c1_3 c1_4 c1_5 c1_6 c1_7 c1_8 c2_0 c2_1 c2_2 c2_3 c2_4 c2_5 c2_6 c2_7 c2_8 c3_0 c3_1 c3_2 c3_3 c3_4 c3_5 c3_6 c3_7 c3_8 : Value} (h0 : (ev l x0).cells = #[c0_0,c0_1,c0_2,c0_3,c0_4,c0_5,c0_6,c0_7,c0_8]) (h1 : (ev l x1).cells = #[c1_0,c1_1,c1_2,c1_3,c1_4,c1_5,c1_6,c1_7,c1_8]) (h2 : (ev l x2).cells = #[c2_0,c2_1,c2_2,c2_3,c2_4,c2_5,c2_6,c2_7,c2_8]) (h3 : (ev l x3).cells = #[c3_0,c3_1,c3_2,c3_3,c3_4,c3_5,c3_6,c3_7,c3_8]) (h : ∀ w' g,dJ w w' → w.heap.size ≤ g → gJ w' g [c0_0,c0_1,c0_2,c0_3,c0_4,c0_5,c0_6,c0_7,c0_8,c1_0,c1_1,c1_2,c1_3,c1_4,c1_5,c1_6,c1_7,c1_8,c2_0,c2_1,c2_2,c2_3,c2_4,c2_5,c2_6,c2_7,c2_8,c3_0,c3_1,c3_2,c3_3,c3_4,c3_5,c3_6,c3_7,c3_8] 53 → wpList prog ops Q rest (Fr (l.set d (.slice (some ⟨g,0,none⟩) 4 4)) ds) w') : wpList prog ops Q (Oper.mk (some d) (.buildSlice 29 4 #[(0,x0),(1,x1),(2,x2),(3,x3)]) ty pos after none :: rest) (Fr l ds) w :=
 lZ (vs:=#[(0,ev l x0),(1,ev l x1),(2,ev l x2),(3,ev l x3)]) (base:=#[.int .i64 0,.int .i64 0,.int .i64 0,.int .i64 0,.int .i64 0,.int .i64 0,.int .i64 0,.int .i64 0,.int .i64 0,.int .i64 0,.int .i64 0,.int .i64 0,.int .i64 0,.int .i64 0,.int .i64 0,.int .i64 0,.int .i64 0,.int .i64 0,.int .i64 0,.int .i64 0,.int .i64 0,.int .i64 0,.int .i64 0,.int .i64 0,.int .i64 0,.int .i64 0,.int .i64 0,.int .i64 0,.int .i64 0,.int .i64 0,.int .i64 0,.int .i64 0,.int .i64 0,.int .i64 0,.int .i64 0,.int .i64 0]) (c:=9) (z:=(.agg #[.int .i64 0,.int .i64 0,.int .i64 0,.int .i64 0,.int .i64 0,.int .i64 0,.int .i64 0,.int .i64 0,.int .i64 0])) bS (by kernel_rfl) (by decide) (by decide) (by kernel_rfl) (by simp) (by simp [Instr.fill,h0,h1,h2,h3]) h
theorem Wc {ds : List Deferred} {l : List Value} {ty : TypeId} {ops : Array Oper} {Q : Exit → Act → World → Prop} {rest : List Oper} {d : Nat} {pos : String} {after : Array Edge} {w : World} {x0 x1 x2 x3 x4 x5 : Operand} {c0_0 c0_1 c0_2 c0_3 c0_4 c0_5 c0_6 c0_7 c0_8 c1_0 c1_1 c1_2 c1_3 c1_4 c1_5 c1_6 c1_7 c1_8 c2_0 c2_1 c2_2 c2_3 c2_4 c2_5 c2_6 c2_7 c2_8 c3_0 c3_1 c3_2 c3_3 c3_4 c3_5 c3_6 c3_7 c3_8 c4_0 c4_1 c4_2 c4_3 c4_4 c4_5 c4_6 c4_7 c4_8 c5_0 c5_1 c5_2 c5_3 c5_4 c5_5 c5_6 c5_7 c5_8 : Value} (h0 : (ev l x0).cells = #[c0_0,c0_1,c0_2,c0_3,c0_4,c0_5,c0_6,c0_7,c0_8]) (h1 : (ev l x1).cells = #[c1_0,c1_1,c1_2,c1_3,c1_4,c1_5,c1_6,c1_7,c1_8]) (h2 : (ev l x2).cells = #[c2_0,c2_1,c2_2,c2_3,c2_4,c2_5,c2_6,c2_7,c2_8]) (h3 : (ev l x3).cells = #[c3_0,c3_1,c3_2,c3_3,c3_4,c3_5,c3_6,c3_7,c3_8]) (h4 : (ev l x4).cells = #[c4_0,c4_1,c4_2,c4_3,c4_4,c4_5,c4_6,c4_7,c4_8]) (h5 : (ev l x5).cells = #[c5_0,c5_1,c5_2,c5_3,c5_4,c5_5,c5_6,c5_7,c5_8]) (h : ∀ w' g,dJ w w' → w.heap.size ≤ g → gJ w' g [c0_0,c0_1,c0_2,c0_3,c0_4,c0_5,c0_6,c0_7,c0_8,c1_0,c1_1,c1_2,c1_3,c1_4,c1_5,c1_6,c1_7,c1_8,c2_0,c2_1,c2_2,c2_3,c2_4,c2_5,c2_6,c2_7,c2_8,c3_0,c3_1,c3_2,c3_3,c3_4,c3_5,c3_6,c3_7,c3_8,c4_0,c4_1,c4_2,c4_3,c4_4,c4_5,c4_6,c4_7,c4_8,c5_0,c5_1,c5_2,c5_3,c5_4,c5_5,c5_6,c5_7,c5_8] 53 → wpList prog ops Q rest (Fr (l.set d (.slice (some ⟨g,0,none⟩) 6 6)) ds) w') : wpList prog ops Q (Oper.mk (some d) (.buildSlice 29 6 #[(0,x0),(1,x1),(2,x2),(3,x3),(4,x4),(5,x5)]) ty pos after none :: rest) (Fr l ds) w :=
 lZ (vs:=#[(0,ev l x0),(1,ev l x1),(2,ev l x2),(3,ev l x3),(4,ev l x4),(5,ev l x5)]) (base:=#[.int .i64 0,.int .i64 0,.int .i64 0,.int .i64 0,.int .i64 0,.int .i64 0,.int .i64 0,.int .i64 0,.int .i64 0,.int .i64 0,.int .i64 0,.int .i64 0,.int .i64 0,.int .i64 0,.int .i64 0,.int .i64 0,.int .i64 0,.int .i64 0,.int .i64 0,.int .i64 0,.int .i64 0,.int .i64 0,.int .i64 0,.int .i64 0,.int .i64 0,.int .i64 0,.int .i64 0,.int .i64 0,.int .i64 0,.int .i64 0,.int .i64 0,.int .i64 0,.int .i64 0,.int .i64 0,.int .i64 0,.int .i64 0,.int .i64 0,.int .i64 0,.int .i64 0,.int .i64 0,.int .i64 0,.int .i64 0,.int .i64 0,.int .i64 0,.int .i64 0,.int .i64 0,.int .i64 0,.int .i64 0,.int .i64 0,.int .i64 0,.int .i64 0,.int .i64 0,.int .i64 0,.int .i64 0]) (c:=9) (z:=(.agg #[.int .i64 0,.int .i64 0,.int .i64 0,.int .i64 0,.int .i64 0,.int .i64 0,.int .i64 0,.int .i64 0,.int .i64 0])) bS (by kernel_rfl) (by decide) (by decide) (by kernel_rfl) (by simp) (by simp [Instr.fill,h0,h1,h2,h3,h4,h5]) h
theorem sI {ds : List Deferred} {l : List Value} {ty : TypeId} {ops : Array Oper} {Q : Exit → Act → World → Prop} {rest : List Oper} {d : Nat} {pos : String} {after : Array Edge} {w : World} {x0 : Operand} {c0_0 c0_1 c0_2 c0_3 c0_4 c0_5 : Value} (h0 : (ev l x0).cells = #[c0_0,c0_1,c0_2,c0_3,c0_4,c0_5]) (h : ∀ w' g,dJ w w' → w.heap.size ≤ g → gJ w' g [c0_0,c0_1,c0_2,c0_3,c0_4,c0_5] 50 → wpList prog ops Q rest (Fr (l.set d (.slice (some ⟨g,0,none⟩) 1 1)) ds) w') : wpList prog ops Q (Oper.mk (some d) (.buildSlice 30 1 #[(0,x0)]) ty pos after none :: rest) (Fr l ds) w :=
 lZ (vs:=#[(0,ev l x0)]) (base:=#[.int .i64 0,.int .i64 0,.int .i64 0,.int .i64 0,.int .i64 0,.int .i64 0]) (c:=6) (z:=(.agg #[.int .i64 0,.int .i64 0,.int .i64 0,.int .i64 0,.int .i64 0,.int .i64 0])) kB (by kernel_rfl) (by decide) (by decide) (by kernel_rfl) (by simp) (by simp [Instr.fill,h0]) h
theorem Az {ds : List Deferred} {l : List Value} {ty : TypeId} {ops : Array Oper} {Q : Exit → Act → World → Prop} {rest : List Oper} {d : Nat} {pos : String} {after : Array Edge} {w : World} {x0 : Operand} {c0_0 c0_1 c0_2 c0_3 c0_4 c0_5 : Value} (h0 : (ev l x0).cells = #[c0_0,c0_1,c0_2,c0_3,c0_4,c0_5]) (h : ∀ w' g,dJ w w' → w.heap.size ≤ g → gJ w' g [c0_0,c0_1,c0_2,c0_3,c0_4,c0_5] 57 → wpList prog ops Q rest (Fr (l.set d (.slice (some ⟨g,0,none⟩) 1 1)) ds) w') : wpList prog ops Q (Oper.mk (some d) (.buildSlice 41 1 #[(0,x0)]) ty pos after none :: rest) (Fr l ds) w :=
 lZ (vs:=#[(0,ev l x0)]) (base:=#[.int .i64 0,.int .i64 0,.int .i64 0,.int .i64 0,.int .i64 0,.int .i64 0]) (c:=6) (z:=(.agg #[.int .i64 0,.int .i64 0,.int .i64 0,.int .i64 0,.int .i64 0,.int .i64 0])) fI (by kernel_rfl) (by decide) (by decide) (by kernel_rfl) (by simp) (by simp [Instr.fill,h0]) h
theorem Wd {ds : List Deferred} {l : List Value} {ty : TypeId} {ops : Array Oper} {Q : Exit → Act → World → Prop} {rest : List Oper} {d : Nat} {pos : String} {after : Array Edge} {w : World} {x0 x1 x2 : Operand} {c0_0 c0_1 c0_2 c0_3 c0_4 c0_5 c1_0 c1_1 c1_2 c1_3 c1_4 c1_5 c2_0 c2_1 c2_2 c2_3 c2_4 c2_5 : Value} (h0 : (ev l x0).cells = #[c0_0,c0_1,c0_2,c0_3,c0_4,c0_5]) (h1 : (ev l x1).cells = #[c1_0,c1_1,c1_2,c1_3,c1_4,c1_5]) (h2 : (ev l x2).cells = #[c2_0,c2_1,c2_2,c2_3,c2_4,c2_5]) (h : ∀ w' g,dJ w w' → w.heap.size ≤ g → gJ w' g [c0_0,c0_1,c0_2,c0_3,c0_4,c0_5,c1_0,c1_1,c1_2,c1_3,c1_4,c1_5,c2_0,c2_1,c2_2,c2_3,c2_4,c2_5] 57 → wpList prog ops Q rest (Fr (l.set d (.slice (some ⟨g,0,none⟩) 3 3)) ds) w') : wpList prog ops Q (Oper.mk (some d) (.buildSlice 41 3 #[(0,x0),(1,x1),(2,x2)]) ty pos after none :: rest) (Fr l ds) w :=
 lZ (vs:=#[(0,ev l x0),(1,ev l x1),(2,ev l x2)]) (base:=#[.int .i64 0,.int .i64 0,.int .i64 0,.int .i64 0,.int .i64 0,.int .i64 0,.int .i64 0,.int .i64 0,.int .i64 0,.int .i64 0,.int .i64 0,.int .i64 0,.int .i64 0,.int .i64 0,.int .i64 0,.int .i64 0,.int .i64 0,.int .i64 0]) (c:=6) (z:=(.agg #[.int .i64 0,.int .i64 0,.int .i64 0,.int .i64 0,.int .i64 0,.int .i64 0])) fI (by kernel_rfl) (by decide) (by decide) (by kernel_rfl) (by simp) (by simp [Instr.fill,h0,h1,h2]) h
theorem We {ds : List Deferred} {l : List Value} {ty : TypeId} {ops : Array Oper} {Q : Exit → Act → World → Prop} {rest : List Oper} {d : Nat} {pos : String} {after : Array Edge} {w : World} {x0 x1 x2 x3 x4 : Operand} {c0_0 c1_0 c2_0 c3_0 c4_0 : Value} (h0 : (ev l x0).cells = #[c0_0]) (h1 : (ev l x1).cells = #[c1_0]) (h2 : (ev l x2).cells = #[c2_0]) (h3 : (ev l x3).cells = #[c3_0]) (h4 : (ev l x4).cells = #[c4_0]) (h : ∀ w' g,dJ w w' → w.heap.size ≤ g → gJ w' g [c0_0,c1_0,c2_0,c3_0,c4_0] 76 → wpList prog ops Q rest (Fr (l.set d (.slice (some ⟨g,0,none⟩) 5 5)) ds) w') : wpList prog ops Q (Oper.mk (some d) (.buildSlice 77 5 #[(0,x0),(1,x1),(2,x2),(3,x3),(4,x4)]) ty pos after none :: rest) (Fr l ds) w :=
 lZ (vs:=#[(0,ev l x0),(1,ev l x1),(2,ev l x2),(3,ev l x3),(4,ev l x4)]) (base:=#[.nilFunc,.nilFunc,.nilFunc,.nilFunc,.nilFunc]) (c:=1) (z:=(.agg #[.nilFunc])) Eu (by kernel_rfl) (by decide) (by decide) (by kernel_rfl) (by simp) (by simp [Instr.fill,h0,h1,h2,h3,h4]) h
theorem wH {ds : List Deferred} {l : List Value} {ty : TypeId} {ops : Array Oper} {Q : Exit → Act → World → Prop} {rest : List Oper} {d : Nat} {pos : String} {after : Array Edge} {w : World} {x0 : Operand} {c0_0 c0_1 c0_2 : Value} (h0 : (ev l x0).cells = #[c0_0,c0_1,c0_2]) (h : ∀ w' g,dJ w w' → w.heap.size ≤ g → gJ w' g [c0_0,c0_1,c0_2] 48 → wpList prog ops Q rest (Fr (l.set d (.slice (some ⟨g,0,none⟩) 1 1)) ds) w') : wpList prog ops Q (Oper.mk (some d) (.buildSlice 98 1 #[(0,x0)]) ty pos after none :: rest) (Fr l ds) w :=
 lZ (vs:=#[(0,ev l x0)]) (base:=#[.int .i64 0,.int .i64 0,.int .i64 0]) (c:=3) (z:=(.agg #[.int .i64 0,.int .i64 0,.int .i64 0])) kS (by kernel_rfl) (by decide) (by decide) (by kernel_rfl) (by simp) (by simp [Instr.fill,h0]) h
theorem Rj {ds : List Deferred} {l : List Value} {ty : TypeId} {ops : Array Oper} {Q : Exit → Act → World → Prop} {rest : List Oper} {d : Nat} {pos : String} {after : Array Edge} {w : World} {x0 : Operand} {c0_0 c0_1 c0_2 c0_3 c0_4 c0_5 : Value} (h0 : (ev l x0).cells = #[c0_0,c0_1,c0_2,c0_3,c0_4,c0_5]) (h : ∀ w' g,dJ w w' → w.heap.size ≤ g → gJ w' g [c0_0,c0_1,c0_2,c0_3,c0_4,c0_5] 143 → wpList prog ops Q rest (Fr (l.set d (.slice (some ⟨g,0,none⟩) 1 1)) ds) w') : wpList prog ops Q (Oper.mk (some d) (.buildSlice 139 1 #[(0,x0)]) ty pos after none :: rest) (Fr l ds) w :=
 lZ (vs:=#[(0,ev l x0)]) (base:=#[.int .i64 0,.int .i64 0,.int .i64 0,.int .i64 0,.int .i64 0,.int .i64 0]) (c:=6) (z:=(.agg #[.int .i64 0,.int .i64 0,.int .i64 0,.int .i64 0,.int .i64 0,.int .i64 0])) underlying139 (by kernel_rfl) (by decide) (by decide) (by kernel_rfl) (by simp) (by simp [Instr.fill,h0]) h
end Go.Proofs.YtfohfflkhpfjeaaGreatDoor
namespace Go.Lith
open Go.RowKit
def kZ (w : World) (g : Nat) (es : Array MapEntry) (c : Nat) : Prop:=w.heap[g]? = some (.map es c)
def Cd (w : World) (r g s : Nat) (seen : Array Nat) (c : Nat) : Prop:=w.heap[r]? = some (.mapIter (some g) s seen c)
theorem kZ.ext {w w' : World} {g c : Nat} {es : Array MapEntry} (h : kZ w g es c) (hE : dJ w w') : kZ w' g es c:=hE.block h
theorem kZ.lt {w : World} {g c : Nat} {es : Array MapEntry} (h : kZ w g es c) : g < w.heap.size:=(Array.getElem?_eq_some_iff.1 h).1
theorem Cd.lt {w : World} {r g s c : Nat} {seen : Array Nat} (h : Cd w r g s seen c) : r < w.heap.size:=(Array.getElem?_eq_some_iff.1 h).1
section
variable {P : Program} {ds : List Deferred} {l : List Value} {x : Operand} {T ty : TypeId} {ops : Array Oper} {Q : Exit → Act → World → Prop} {rest : List Oper} {d : Nat} {pos : String} {after : Array Edge} {w : World}
theorem Wf (h : ∀ w' g,dJ w w' → w.heap.size ≤ g → kZ w' g #[] 0 → wpList P ops Q rest (Fr (l.set d (.map (some g))) ds) w') : wpList P ops Q (Oper.mk (some d) (.makeMap T none) ty pos after none :: rest) (Fr l ds) w :=
 kY (w':=w.alloc (.map #[] 0)) (v:=.map (some w.heap.size)) (fun o ho _=>by simp [execOp,ho,Instr.makeMap,newObj,Sem.run]) (h _ _ ((dJ.refl w).alloc _) (Nat.le_refl _) (heap_alloc_new w _))
theorem acb {k e : TypeId} {g c : Nat} {es : Array MapEntry} (hu : P.underlying T = some (.map k e)) (hx : ev l x = .map (some g)) (hM : kZ w g es c) (h : ∀ w' r,dJ w w' → w.heap.size ≤ r → Cd w' r g c #[] c → wpList P ops Q rest (Fr (l.set d (.pointer (some ⟨r,0,none⟩))) ds) w') :
 wpList P ops Q (Oper.mk (some d) (.range T x) ty pos after none :: rest) (Fr l ds) w :=
 kY (w':=w.alloc (.mapIter (some g) c #[] c)) (v:=.pointer (some ⟨w.heap.size,0,none⟩)) (fun o ho _=>by
  unfold kZ at hM;simp [execOp,ho,dC,hx,Instr.range,run_underlying hu,getObj,hM,newObj,Sem.run]) (h _ _ ((dJ.refl w).alloc _) (Nat.le_refl _) (heap_alloc_new w _))
end
end Go.Lith
namespace Go.Lith
open Go.RowKit Go.ChangeMaps Go.MapKept
/-! ### Lists of pairs -/
section
variable {K V : Type} [DecidableEq K]
def gS : List (K × V) → K → V → List (K × V)
 | [],k,v=>[(k,v)]
 | x :: D,k,v=>if x.1 = k then (k,v) :: D else x :: gS D k v
def dD : List (K × V) → K → Option V
 | [],_=>none
 | x :: D,k=>if x.1 = k then some x.2 else dD D k
def qJ : List (K × V) → K → List (K × V)
 | [],_=>[]
 | x :: D,k=>if x.1 = k then D else x :: qJ D k
def nT : List (K × V) → K → Nat → Option (Nat × V)
 | [],_,_=>none
 | x :: D,k,i=>if x.1 = k then some (i,x.2) else nT D k (i + 1)
theorem oF : ∀ (D : List (K × V)) (k : K) (i : Nat),nT D k i = none → dD D k = none ∧ (∀ u,gS D k u = D ++ [(k,u)]) ∧ qJ D k = D
 | [],_,_,_=>⟨rfl,fun _=>rfl,rfl⟩
 | x :: D,k,i,h=>by
  unfold nT at h;by_cases e : x.1 = k
  · rw [if_pos e] at h;cases h
  · rw [if_neg e] at h
    obtain ⟨h1,h2,h3⟩:=oF D k (i + 1) h;exact ⟨by simp [dD,e,h1],fun u=>by simp [gS,e,h2],by simp [qJ,e,h3]⟩
theorem oG : ∀ (D : List (K × V)) (k : K) (i j : Nat) (v : V),nT D k i = some (j,v) → ∃ p,j = i + p ∧ D[p]? = some (k,v) ∧ dD D k = some v ∧ (∀ u,gS D k u = D.set p (k,u)) ∧ qJ D k = D.eraseIdx p
 | [],_,_,_,_,h=>by cases h
 | x :: D,k,i,j,v,h=>by
  unfold nT at h;by_cases e : x.1 = k
  · rw [if_pos e] at h
    cases h;obtain ⟨a,b⟩:=x;obtain rfl : a = k:=e;exact ⟨0,rfl,rfl,by simp [dD],fun u=>by simp [gS],by simp [qJ]⟩
  · rw [if_neg e] at h
    obtain ⟨p,h1,h2,h3,h4,h5⟩:=oG D k (i + 1) j v h;exact ⟨p + 1,by omega,by simpa using h2,by simp [dD,e,h3],fun u=>by simp [gS,e,h4],by simp [qJ,e,h5]⟩
theorem mV : ∀ (D : List (K × V)) (k k' : K) (v : V),dD (gS D k v) k' = if k = k' then some v else dD D k'
 | [],k,k',v=>by simp [gS,dD]
 | x :: D,k,k',v=>by
  unfold gS;by_cases e : x.1 = k
  · rw [if_pos e]
    subst e;by_cases e' : x.1 = k' <;> simp [dD,e']
  · rw [if_neg e]
    unfold dD;rw [mV D k k' v];by_cases e' : x.1 = k'
    · rw [if_pos e',if_pos e',if_neg (fun h=>e (e'.trans h.symm))]
    · rw [if_neg e',if_neg e']
theorem yW : ∀ {D : List (K × V)} {k : K} {v : V},dD D k = some v → (k,v) ∈ D
 | [],_,_,h=>by cases h
 | x :: D,k,v,h=>by
  unfold dD at h;split at h
  · rename_i e;cases h;subst e;exact List.mem_cons_self ..
  · exact List.mem_cons_of_mem _ (yW h)
theorem sJ : ∀ {D : List (K × V)} {k : K},dD D k = none ↔ k ∉ D.map (·.1)
 | [],_=>by simp [dD]
 | x :: D,k=>by
  unfold dD;split
  · rename_i e;simp [e]
  · rename_i e
    rw [sJ (D:=D)];simp only[List.map_cons,List.mem_cons,not_or];exact ⟨fun h=>⟨fun h'=>e h'.symm,h⟩,fun h=>h.2⟩
theorem mW : ∀ {D : List (K × V)} {k : K} {v : V},(D.map (·.1)).Nodup → (k,v) ∈ D → dD D k = some v
 | [],_,_,_,h=>by cases h
 | x :: D,k,v,hn,h=>by
  have hn':=List.nodup_cons.1 hn;unfold dD;rcases List.mem_cons.1 h with rfl | h
  · simp
  · rw [if_neg fun e=>hn'.1 (by show x.1 ∈ _;rw [e];exact List.mem_map.2 ⟨_,h,rfl⟩)]
    exact mW hn'.2 h
theorem Ba : ∀ (D : List (K × V)) (k : K) (v : V),(gS D k v).map (·.1) = if k ∈ D.map (·.1) then D.map (·.1) else D.map (·.1) ++ [k]
 | [],k,v=>by simp [gS]
 | x :: D,k,v=>by
  unfold gS;by_cases e : x.1 = k
  · simp [e]
  · have e' : ¬ k = x.1:=fun h=>e h.symm
    simp only[if_neg e,List.map_cons,Ba D k v,List.mem_cons,e',false_or];split <;> simp
theorem xO {D : List (K × V)} (h : (D.map (·.1)).Nodup) (k : K) (v : V) : ((gS D k v).map (·.1)).Nodup:=by
 rw [Ba];split
 · exact h
 · rename_i hk
   exact List.nodup_append.2 ⟨h,by simp,fun a ha b hb e=>by rw [List.mem_singleton.1 hb] at e;exact hk (e ▸ ha)⟩
theorem Iv : ∀ {D : List (K × V)} (k k' : K),(D.map (·.1)).Nodup → dD (qJ D k) k' = if k = k' then none else dD D k'
 | [],k,k',_=>by simp [qJ,dD]
 | x :: D,k,k',hn=>by
  have hn':=List.nodup_cons.1 hn;unfold qJ;by_cases e : x.1 = k
  · rw [if_pos e]
    by_cases e' : k = k'
    · rw [if_pos e']
      exact sJ.2 (by rw [← e',← e];exact hn'.1)
    · rw [if_neg e']
      simp [dD,e,e']
  · rw [if_neg e]
    unfold dD;rw [Iv k k' hn'.2];by_cases e' : x.1 = k'
    · rw [if_pos e',if_pos e',if_neg (fun h=>e (e'.trans h.symm))]
    · rw [if_neg e',if_neg e']
theorem Nn : ∀ (D : List (K × V)) (k : K),(qJ D k).Sublist D
 | [],_=>List.Sublist.refl _
 | x :: D,k=>by
  unfold qJ;split
  · exact List.sublist_cons_self _ _
  · exact (Nn D k).cons_cons x
theorem Rk {D : List (K × V)} (h : (D.map (·.1)).Nodup) (k : K) : ((qJ D k).map (·.1)).Nodup:=h.sublist ((Nn D k).map _)
end
/-! ### A map's entries -/
def Wg (e : MapEntry) : Value × Value:=(e.key,e.val)
structure cO {K V : Type} (ek : K → Value) (ev : V → Value) (D : List (K × V)) (es : Array MapEntry) (c : Nat) : Prop where
 cells : es.toList.map Wg = D.map fun x=>(ek x.1,ev x.2)
 born : ∀ e ∈ es.toList,e.born < c
 nd : (es.toList.map (·.born)).Nodup
theorem cO.nil {K V : Type} (ek : K → Value) (ev : V → Value) : cO ek ev ([] : List (K × V)) #[] 0:=⟨rfl,fun _ h=>by simp at h,by simp⟩
theorem cO.len {K V : Type} {ek : K → Value} {ev : V → Value} {D : List (K × V)} {es : Array MapEntry} {c : Nat} (h : cO ek ev D es c) : es.size = D.length:=by
 have:=congrArg List.length h.cells;simpa using this
structure rN {K : Type} [DecidableEq K] (P : Program) (T : TypeId) (ek : K → Value) : Prop where
 chk : ∀ e k w,(Instr.checkKey e 10000 T (ek k)).run P w = .ok () w
 now : ∃ t,P.underlying T = some t ∧ ∀ a b,Instr.sameNow t (ek a) (ek b) = none ∨ Instr.sameNow t (ek a) (ek b) = some (decide (a = b))
 eq : ∀ a b w,(Op.equal T (ek a) (ek b)).run P w = .ok (decide (a = b)) w
 bits : ∀ a,Instr.sameBits 10000 (ek a) (ek a) = true
section
variable {K V : Type} [DecidableEq K] {P : Program} {T : TypeId} {ek : K → Value} {ev : V → Value}
theorem Ce (kt : rN P T ek) (k : K) (w : World) : ∀ (L : List MapEntry) (D : List (K × V)) (i : Nat),L.map Wg = D.map (fun x=>(ek x.1,ev x.2)) →
 (Instr.findAsking T (ek k) L i).run P w = .ok ((nT D k i).map fun p=>(p.1,ev p.2)) w
 | [],D,i,h=>by
  obtain rfl : D = []:=by simpa using h.symm
  simp [Instr.findAsking,nT]
 | e :: L,[],i,h=>by simp at h
 | e :: L,x :: D,i,h=>by
  simp only[List.map_cons,List.cons.injEq,Wg,Prod.mk.injEq] at h;obtain ⟨⟨h1,h2⟩,h3⟩:=h;have ih:=Ce kt k w L D (i + 1) h3;unfold Instr.findAsking nT;rw [h1,h2];simp only[Sem.run_bind,kt.eq,Result.andThen];by_cases e' : x.1 = k
  · rw [if_pos (decide_eq_true e'.symm),if_pos e']
    rfl
  · rw [if_neg (by rw [decide_eq_false (Ne.symm e')];exact Bool.false_ne_true),if_neg e']
    exact ih
theorem No (t : TypeDesc) (k : K) (hn : ∀ a b : K,Instr.sameNow t (ek a) (ek b) = none ∨ Instr.sameNow t (ek a) (ek b) = some (decide (a = b))) : ∀ (L : List MapEntry) (D : List (K × V)) (i : Nat),L.map Wg = D.map (fun x=>(ek x.1,ev x.2)) →
 Instr.findNow t (ek k) L i = none ∨ Instr.findNow t (ek k) L i = some ((nT D k i).map fun p=>(p.1,ev p.2))
 | [],D,i,h=>by
  obtain rfl : D = []:=by simpa using h.symm
  simp [Instr.findNow,nT]
 | e :: L,[],i,h=>by simp at h
 | e :: L,x :: D,i,h=>by
  simp only[List.map_cons,List.cons.injEq,Wg,Prod.mk.injEq] at h;obtain ⟨⟨h1,h2⟩,h3⟩:=h;have ih:=No t k hn L D (i + 1) h3;unfold Instr.findNow nT;rw [h1,h2];rcases hn k x.1 with e0 | e0
  · left;rw [e0]
  · rw [e0]
    by_cases e' : x.1 = k
    · right;simp [e']
    · rw [show decide (k = x.1) = false from decide_eq_false (Ne.symm e')]
      simpa [e'] using ih
theorem qK (kt : rN P T ek) (k : K) (w : World) {es : Array MapEntry} {D : List (K × V)} {c : Nat} (h : cO ek ev D es c) : (Instr.findKey T (ek k) es.toList).run P w = .ok ((nT D k 0).map fun p=>(p.1,ev p.2)) w:=by
 obtain ⟨t,ht,hn⟩:=kt.now;unfold Instr.findKey;simp only[Sem.run_bind,run_underlying ht,Result.andThen];rcases No t k hn es.toList D 0 h.cells with e | e
 · rw [e]
   exact Ce kt k w es.toList D 0 h.cells
 · rw [e]
   rfl
end
section
variable {K V : Type} [DecidableEq K] {P : Program} {T M E ty : TypeId} {ek : K → Value} {ev : V → Value} {w w0 : World} {g c : Nat} {es : Array MapEntry} {D : List (K × V)}
theorem Cf {v0 : V} (hu : P.underlying M = some (.map T E)) (kt : rN P T ek) (hM : kZ w g es c) (hD : cO ek ev D es c) (hz : mY P E (ev v0)) (k : K) (b : Bool) :
 (Instr.lookup M (.map (some g)) (ek k) b).run P w = .ok (if b then .tuple #[ev ((dD D k).getD v0),.bool (dD D k).isSome] else ev ((dD D k).getD v0)) w:=by
 unfold kZ at hM;obtain ⟨inf,hi,hz⟩:=hz;have hzv : (zeroValue E).run P w = .ok (ev v0) w:=by simp [zeroValue,typeInfo,program,Sem.run,hi,hz]
 simp only[Instr.lookup,Sem.run_bind,run_underlying hu,Result.andThen,getObj,Sem.run,hM,Sem.run_pure,kt.chk,qK kt k w hD];cases hf : nT D k 0 with
 | none =>
  obtain ⟨h1,_⟩:=oF D k 0 hf;rw [h1];simp only[Option.map_none,Sem.run_bind,hzv,Result.andThen,Sem.run_pure];cases b <;> rfl
 | some p =>
  obtain ⟨j,v⟩:=p;obtain ⟨_,_,_,h1,_⟩:=oG D k 0 j v hf;rw [h1];simp only[Option.map_some,Sem.run_pure,Result.andThen];cases b <;> rfl
theorem mE {g : Nat} {o o' : Obj} (hM : w.heap[g]? = some o) : (setBlock w g o').heap[g]? = some o':=by
 have:=(Array.getElem?_eq_some_iff.1 hM).1;simp [setBlock,this]
theorem pP {g : Nat} (o : Obj) : Uj w (setBlock w g o) g:=⟨rfl,rfl,rfl,by simp [setBlock],fun k hk=>by simp [setBlock,Array.getElem?_setIfInBounds_ne (Ne.symm hk)]⟩
theorem Fb {α β : Type} (f : α → β) (L : List α) (i : Nat) (x : α) (g : α → α) (hi : L[i]? = some x) : (L.modify i g).map f = (L.map f).set i (f (g x)):=by
 apply List.ext_getElem?;intro j;simp only[List.getElem?_map,List.getElem?_modify,List.getElem?_set,List.length_map];by_cases e : i = j
 · subst e
   rw [hi];have:=(List.getElem?_eq_some_iff.1 hi).1;simp [this]
 · simp [e]
theorem cO.set (hD : cO ek ev D es c) {p : Nat} {k : K} {v : V} (hp : D[p]? = some (k,v)) (u : V) : cO ek ev (D.set p (k,u)) (es.modify p fun e=>{ e with key:=ek k,val:=ev u }) c:=by
 have hl : es.toList.length = D.length:=by have:=congrArg List.length hD.cells;simpa using this
 have hlt : p < es.toList.length:=by rw [hl];exact (List.getElem?_eq_some_iff.1 hp).1
 have hx : es.toList[p]? = some es.toList[p]:=List.getElem?_eq_getElem hlt;have hb : (es.modify p fun e=>{ e with key:=ek k,val:=ev u }).toList.map (·.born) = es.toList.map (·.born):=by
  rw [Array.toList_modify,Fb _ _ _ _ _ hx];apply List.ext_getElem?;intro j;rw [List.getElem?_set];split
  · rename_i e;subst e;rw [if_pos (by simpa using hlt),List.getElem?_map,hx];rfl
  · rfl
 refine ⟨?_,fun e he=>?_,by rw [hb];exact hD.nd⟩
 · rw [Array.toList_modify,Fb _ _ _ _ _ hx,hD.cells,List.map_set]
   rfl
 · have : e.born ∈ (es.modify p fun e=>{ e with key:=ek k,val:=ev u }).toList.map (·.born):=List.mem_map.2 ⟨e,he,rfl⟩
   rw [hb] at this;obtain ⟨e',he',hh⟩:=List.mem_map.1 this;rw [← hh];exact hD.born e' he'
theorem cO.push (hD : cO ek ev D es c) (k : K) (u : V) : cO ek ev (D ++ [(k,u)]) (es.push { key:=ek k,val:=ev u,born:=c }) (c + 1):=by
 refine ⟨by simp [hD.cells,Wg],fun e he=>?_,?_⟩
 · rw [Array.toList_push] at he
   rcases List.mem_append.1 he with he | he
   · exact Nat.lt_succ_of_lt (hD.born e he)
   · rw [List.mem_singleton.1 he];exact Nat.lt_succ_self _
 · rw [Array.toList_push,List.map_append]
   refine List.nodup_append.2 ⟨hD.nd,by simp,fun a ha b hb e=>?_⟩;obtain ⟨e',he',rfl⟩:=List.mem_map.1 ha;have : b = c:=by simpa using hb
   have:=hD.born e' he';omega
theorem cO.erase (hD : cO ek ev D es c) (p : Nat) : cO ek ev (D.eraseIdx p) (es.eraseIdxIfInBounds p) c:=by
 have e : (es.eraseIdxIfInBounds p).toList = es.toList.eraseIdx p:=by
  by_cases h : p < es.size
  · simp [Array.eraseIdxIfInBounds,h]
  · simp only[Array.eraseIdxIfInBounds,h,dite_false]
    exact (List.eraseIdx_of_length_le (by simpa using Nat.le_of_not_lt h)).symm
 refine ⟨?_,fun x hx=>hD.born x ?_,?_⟩
 · rw [e,map_eraseIdx,hD.cells,map_eraseIdx]
 · rw [e] at hx;exact List.mem_of_mem_eraseIdx hx
 · rw [e];exact hD.nd.sublist ((List.eraseIdx_sublist _ _).map _)
theorem Np (hu : P.underlying M = some (.map T E)) (kt : rN P T ek) (hM : kZ w g es c) (hD : cO ek ev D es c) (k : K) (u : V) :
 ∃ es' c',(Instr.mapUpdate M (.map (some g)) (ek k) (ev u)).run P w = .ok () (setBlock w g (.map es' c')) ∧ cO ek ev (gS D k u) es' c':=by
 unfold kZ at hM;cases hf : nT D k 0 with
 | none =>
  obtain ⟨_,h1,_⟩:=oF D k 0 hf;refine ⟨_,_,?_,h1 u ▸ hD.push k u⟩;simp only[Instr.mapUpdate,Sem.run_bind,run_underlying hu,Result.andThen,getObj,Sem.run,hM,Sem.run_pure,kt.chk,qK kt k w hD,hf,Option.map_none];exact run_setObj_map _ hM
 | some p =>
  obtain ⟨j,v⟩:=p;obtain ⟨p,rfl,hp,_,h1,_⟩:=oG D k 0 j v hf;rw [Nat.zero_add] at hf;have hl : es.toList.length = D.length:=by have:=congrArg List.length hD.cells;simpa using this
  have hlt : p < es.toList.length:=by rw [hl];exact (List.getElem?_eq_some_iff.1 hp).1
  have hk : ((es[p]?).map (·.key)).getD (ek k) = ek k:=by
   have h2:=congrArg (fun L=>L[p]?) hD.cells;simp only[List.getElem?_map,hp,Option.map_some] at h2;rw [Array.getElem?_toList] at h2;cases h3 : es[p]? with
   | none=>rfl
   | some x =>
    rw [h3] at h2;simp only[Option.map_some,Option.some.injEq,Wg,Prod.mk.injEq] at h2;simpa using h2.1
  refine ⟨_,_,?_,h1 u ▸ hD.set hp u⟩;simp only[Instr.mapUpdate,Sem.run_bind,run_underlying hu,Result.andThen,getObj,Sem.run,hM,Sem.run_pure,kt.chk,qK kt k w hD,hf,Option.map_some,hk,Instr.keyThatStays,kt.bits,if_true];exact run_setObj_map _ hM
theorem Nq {T2 : TypeId} (hu : P.underlying M = some (.map T E)) (kt : rN P T ek) (hM : kZ w g es c) (hD : cO ek ev D es c) (k : K) :
 ∃ es' c',(Builtin.delete_ #[M,T2] ty #[.map (some g),ek k]).run P w = .ok (.tuple #[]) (setBlock w g (.map es' c')) ∧ cO ek ev (qJ D k) es' c':=by
 unfold kZ at hM;cases hf : nT D k 0 with
 | none =>
  obtain ⟨_,_,h1⟩:=oF D k 0 hf;refine ⟨es,c,?_,by rw [h1];exact hD⟩;simp [Builtin.delete_,run_underlying hu,getObj,Sem.run,hM,kt.chk,qK kt k w hD,hf,run_setObj_map _ hM,setBlock]
 | some p =>
  obtain ⟨j,v⟩:=p;obtain ⟨p,rfl,hp,_,_,h1⟩:=oG D k 0 j v hf;rw [Nat.zero_add] at hf;refine ⟨_,c,?_,h1 ▸ hD.erase p⟩;simp [Builtin.delete_,run_underlying hu,getObj,Sem.run,hM,kt.chk,qK kt k w hD,hf,run_setObj_map _ hM,setBlock]
/-! ### Ranges -/
def mQ (ek : K → Value) (ev : V → Value) (D : List (K × V)) (es : Array MapEntry) (seen : Array Nat) (dn rs : List (K × V)) : Prop :=
 (dn ++ rs).Perm D ∧ ∃ dE rE : List MapEntry,seen.toList = dE.map (·.born) ∧ (dE ++ rE).Perm es.toList ∧ dE.map Wg = dn.map (fun x=>(ek x.1,ev x.2)) ∧ rE.map Wg = rs.map (fun x=>(ek x.1,ev x.2))
theorem mQ.start (hD : cO ek ev D es c) : mQ ek ev D es #[] [] D:=⟨List.Perm.refl _,[],es.toList,rfl,List.Perm.refl _,rfl,hD.cells⟩
theorem mQ.done {seen : Array Nat} {dn : List (K × V)} (h : mQ ek ev D es seen dn []) : dn.Perm D:=by simpa using h.1
def Nxt (ek : K → Value) (ev : V → Value) (D : List (K × V)) (es : Array MapEntry) (dn rs : List (K × V)) (b : Bool) (kv vv : Value) (seen' : Array Nat) : Prop :=
 (b = false ∧ rs = []) ∨ (b = true ∧ ∃ k v rs',rs.Perm ((k,v) :: rs') ∧ kv = ek k ∧ vv = ev v ∧ mQ ek ev D es seen' (dn ++ [(k,v)]) rs')
def Nr (b : Bool) (k v : Value) : Value:=.tuple (if b then #[.bool true,k,v] else #[.bool false])
theorem Wh {r s : Nat} {seen : Array Nat} {dn rs : List (K × V)} (hI : Cd w r g c seen c) (hM : kZ w g es c) (hD : cO ek ev D es c) (hT : mQ ek ev D es seen dn rs) :
 ∃ b kv vv seen' w1,(w1 = w ∨ w1 = w.drew) ∧ (Instr.next (.pointer (some ⟨r,0,none⟩)) false ty).run P w = .ok (Nr b kv vv) (setBlock w1 r (.mapIter (some g) c seen' c)) ∧ Nxt ek ev D es dn rs b kv vv seen':=by
 obtain ⟨hp,dE,rE,h1,h2,h3,h4⟩:=hT;have hnd : ((dE ++ rE).map (·.born)).Nodup:=(h2.map (·.born)).nodup_iff.2 hD.nd;rw [List.map_append,List.nodup_append] at hnd;have hleft : ∀ e,e ∈ (leftOf es seen).toList ↔ e ∈ rE:=fun e=>by
  unfold leftOf;simp only[Array.toList_filter,List.mem_filter,Bool.not_eq_true',Array.contains_eq_mem,decide_eq_false_iff_not];rw [← Array.mem_toList_iff (xs:=seen),h1,← h2.mem_iff,List.mem_append];constructor
  · rintro ⟨h | h,hn⟩
    · exact absurd (List.mem_map.2 ⟨e,h,rfl⟩) hn
    · exact h
  · intro h
    exact ⟨.inr h,fun hm=>hnd.2.2 _ hm _ (List.mem_map.2 ⟨e,h,rfl⟩) rfl⟩
 rcases run_next_at (P:=P) w ty r g c c seen es c hI hM hD.born (Nat.le_refl _) with ⟨h0,hr⟩ | ⟨e,he,w1,hw1,hr⟩
 · refine ⟨false,default,default,seen,w,.inl rfl,?_,.inl ⟨rfl,?_⟩⟩
   · rw [hr]
     have : setBlock w r (.mapIter (some g) c seen c) = w:=by
      unfold setBlock;have hlt:=(Array.getElem?_eq_some_iff.1 hI).1;have : w.heap.setIfInBounds r (.mapIter (some g) c seen c) = w.heap:=by
       apply Array.ext_getElem?;intro i;rw [Array.getElem?_setIfInBounds];split
       · rename_i e;subst e;exact hI.symm
       · rfl
      rw [this]
     rw [this];rfl
   · cases rs with
     | nil=>rfl
     | cons x rs =>
      cases rE with
      | nil=>simp at h4
      | cons e rE =>
       have:=(hleft e).2 (List.mem_cons_self ..);rw [Array.eq_empty_of_size_eq_zero h0] at this;simp at this
 · obtain ⟨s,t,rfl⟩:=List.append_of_mem ((hleft e).1 he)
   rw [List.map_append,List.map_cons] at h4;obtain ⟨rs1,rs2,rfl,e1,e2⟩:=List.map_eq_append_iff.1 h4.symm;obtain ⟨x,rs3,rfl,e3,e4⟩:=List.map_eq_cons_iff.1 e2;obtain ⟨k,v⟩:=x;simp only[Wg,Prod.mk.injEq] at e3;refine ⟨true,e.key,e.val,seen.push e.born,w1,hw1,hr,.inr ⟨rfl,k,v,rs1 ++ rs3,List.perm_middle,e3.1.symm,e3.2.symm,?_,dE ++ [e],s ++ t,?_,?_,?_,?_⟩⟩
   · refine List.Perm.trans ?_ hp
     simp only[List.append_assoc,List.cons_append,List.nil_append];exact List.Perm.append_left _ List.perm_middle.symm
   · simp [h1]
   · refine List.Perm.trans ?_ h2
     simp only[List.append_assoc,List.cons_append,List.nil_append];exact List.Perm.append_left _ List.perm_middle.symm
   · simp [h3,Wg,e3]
   · simp [e1,e4]
theorem Rl {r : Nat} {seen : Array Nat} {dn rs : List (K × V)} {k : K} {v : V} (hI : Cd w r g c seen c) (hM : kZ w g es c) (hD : cO ek ev D es c) (hT : mQ ek ev D es seen (dn ++ [(k,v)]) rs) :
 (Instr.entry (.pointer (some ⟨r,0,none⟩))).run P w = .ok (.tuple #[ek k,ev v]) w:=by
 obtain ⟨hp,dE,rE,h1,h2,h3,h4⟩:=hT;rw [List.map_append,List.map_cons,List.map_nil] at h3;obtain ⟨d1,d2,rfl,e1,e2⟩:=List.map_eq_append_iff.1 h3;obtain ⟨e,d3,rfl,e3,e4⟩:=List.map_eq_cons_iff.1 e2;obtain rfl : d3 = []:=by simpa using e4
 simp only[Wg,Prod.mk.injEq] at e3;have hs : seen = (d1.map (·.born)).toArray.push e.born:=by
  apply Array.toList_inj.1;rw [h1];simp
 have hm : e ∈ es.toList:=h2.mem_iff.1 (by simp);rw [hs] at hI;have:=run_entry_at (P:=P) w r g c _ es c e hI hM hm hD.nd;rw [this,e3.1,e3.2]
end
/-! ### Things in memory -/
def mI (g : Nat) (es : Array MapEntry) (c : Nat) : It where
 own b:=some g = some b
 P w:=kZ w g es c
 lt w b h e:=by cases e;exact h.lt
 st w w' h _ k:=(k g rfl).trans h
def iI (r g c : Nat) (seen : Array Nat) : It where
 own b:=some r = some b
 P w:=Cd w r g c seen c
 lt w b h e:=by cases e;exact h.lt
 st w w' h _ k:=(k r rfl).trans h
theorem cA.p {w0 w : World} {is : List It} (m : cA w0 w is) (k : Nat) {g c : Nat} {es : Array MapEntry} (hk : is[k]? = some (mI g es c)) : kZ w g es c:=m.get k hk
theorem cA.r {w0 w : World} {is : List It} (m : cA w0 w is) (k : Nat) {r g c : Nat} {seen : Array Nat} (hk : is[k]? = some (iI r g c seen)) : Cd w r g c seen c:=m.get k hk
section
variable {K V : Type} [DecidableEq K] {P : Program} {T M E ty : TypeId} {ek : K → Value} {ev : V → Value} {w w0 : World} {g c : Nat} {es : Array MapEntry} {D : List (K × V)} {is : List It}
variable {ds : List Deferred} {l : List Value} {x y z : Operand} {ops : Array Oper} {Q : Exit → Act → World → Prop} {rest : List Oper} {d : Nat} {pos : String} {after : Array Edge}
theorem kT (m : cA w0 w is) (h : ∀ g u,cA w0 u (mI g #[] 0 :: is) → wpList P ops Q rest (Fr (l.set d (.map (some g))) ds) u) : wpList P ops Q (Oper.mk (some d) (.makeMap M none) ty pos after none :: rest) (Fr l ds) w :=
 Wf fun u g e hg hM=>h g u (m.new (i:=mI g #[] 0) e hM fun b h=>by cases h;exact hg)
theorem xP (m : cA w0 w is) (hu : P.underlying M = some (.map T E)) (hx : Go.Lith.ev l x = .map (some g)) (hM : kZ w g es c) (h : ∀ r u,cA w0 u (iI r g c #[] :: is) → wpList P ops Q rest (Fr (l.set d (.pointer (some ⟨r,0,none⟩))) ds) u) :
 wpList P ops Q (Oper.mk (some d) (.range M x) ty pos after none :: rest) (Fr l ds) w :=
 acb hu hx hM fun u r e hr hI=>h r u (m.new (i:=iI r g c #[]) e hI fun b h=>by cases h;exact hr)
end
end Go.Lith
namespace Go.Lith
open Go.RowKit Go.ChangeMaps Go.MapKept
section
variable {K V : Type} [DecidableEq K] {P : Program} {T M E ty : TypeId} {ek : K → Value} {en : V → Value} {w w0 : World} {g c : Nat} {es : Array MapEntry} {D : List (K × V)} {is : List It}
variable {ds : List Deferred} {l : List Value} {x y z : Operand} {ops : Array Oper} {Q : Exit → Act → World → Prop} {rest : List Oper} {d : Nat} {pos : String} {after : Array Edge}
theorem eV {v0 : V} {k : K} (hu : P.underlying M = some (.map T E)) (hz : mY P E (en v0)) (kt : rN P T ek) (hx : ev l x = .map (some g)) (hy : ev l y = ek k) (hM : kZ w g es c) (hD : cO ek en D es c) : xB P l (.lookup M x y false) ty (en ((dD D k).getD v0)) w:=fun o ho _=>by
 have:=Cf hu kt hM hD hz k false;simp only[Bool.false_eq_true,if_false] at this;simp [execOp,ho,dC,hx,hy,this]
theorem sK {v0 : V} {k : K} (hu : P.underlying M = some (.map T E)) (hz : mY P E (en v0)) (kt : rN P T ek) (hx : ev l x = .map (some g)) (hy : ev l y = ek k) (hM : kZ w g es c) (hD : cO ek en D es c) : xB P l (.lookup M x y true) ty (.tuple #[en ((dD D k).getD v0),.bool (dD D k).isSome]) w:=fun o ho _=>by
 have:=Cf hu kt hM hD hz k true;simp only[if_true] at this;simp [execOp,ho,dC,hx,hy,this]
theorem aap {a0 : Array TypeId} (ha : a0 = #[M]) (hu : P.underlying M = some (.map T E)) (hx : ev l x = .map (some g)) (hM : kZ w g es c) (hD : cO ek en D es c) : xB P l (.call { callee:=.builtin .len,args:=#[x],argTypes:=a0 }) ty (.int .i64 D.length) w:=fun o ho _=>by
 subst ha;unfold kZ at hM;simp [execOp,ho,resolve,invoke,builtin,Builtin.len_,dC,hx,run_underlying hu,getObj,Sem.run,hM,goInt,hD.len]
theorem fX {v : V} {a : K} (m : cA w0 w is) (k : Nat) (hk : is[k]? = some (mI g es c)) (hu : P.underlying M = some (.map T E)) (kt : rN P T ek) (hx : ev l x = .map (some g)) (hy : ev l y = ek a) (hz : ev l z = en v) (hD : cO ek en D es c)
 (h : ∀ es' c' u,cA w0 u (is.set k (mI g es' c')) → cO ek en (gS D a v) es' c' → wpList P ops Q rest (Fr l ds) u) : wpList P ops Q (Oper.mk none (.mapUpdate M x y z) ty pos after none :: rest) (Fr l ds) w:=by
 have hM:=m.p k hk;obtain ⟨es',c',hr,hD'⟩:=Np hu kt hM hD a v;have hC:=pP (w:=w) (g:=g) (.map es' c');refine Cs (w':=setBlock w g (.map es' c')) (fun o ho=>by simp [execOp,ho,dC,hx,hy,hz,hr]) (h es' c' _ ?_ hD');exact m.put k hk hC.os hC.tape hC.output (by rw [hC.size];exact Nat.le_refl _) (fun b _ hne=>hC.block b fun e=>hne (by rw [e];rfl)) (mE hM) (.inl fun _ h=>h)
theorem Fc {r : Nat} {seen : Array Nat} {dn rs : List (K × V)} (m : cA w0 w is) (k : Nat) (hk : is[k]? = some (iI r g c seen)) (hx : ev l x = .pointer (some ⟨r,0,none⟩)) (hM : kZ w g es c) (hD : cO ek en D es c) (hT : mQ ek en D es seen dn rs)
 (h : ∀ b kv vv seen' u,cA w0 u (is.set k (iI r g c seen')) → Nxt ek en D es dn rs b kv vv seen' → wpList P ops Q rest (Fr (l.set d (Nr b kv vv)) ds) u) :
 wpList P ops Q (Oper.mk (some d) (.next x false) ty pos after none :: rest) (Fr l ds) w:=by
 have hI:=m.r k hk;obtain ⟨b,kv,vv,seen',w1,hw1,hr,hN⟩:=Wh (P:=P) (ty:=ty) (s:=0) hI hM hD hT;refine kY (w':=setBlock w1 r (.mapIter (some g) c seen' c)) (v:=Nr b kv vv) (fun o ho hty=>by simp [execOp,ho,dC,hx,hty,hr]) (h b kv vv seen' _ ?_ hN);have e1 : w1.heap = w.heap ∧ w1.os = w.os ∧ w1.tape = w.tape ∧ w1.output = w.output:=by rcases hw1 with rfl | rfl <;> exact ⟨rfl,rfl,rfl,rfl⟩
 refine m.put k hk e1.2.1 e1.2.2.1 e1.2.2.2 (by simp [setBlock,e1.1]) (fun b' _ hne=>?_) ?_ (.inl fun _ h=>h)
 · have : b' ≠ r:=fun e=>hne (by rw [e];rfl)
   simp only[setBlock,e1.1];exact Array.getElem?_setIfInBounds_ne (Ne.symm this)
 · exact mE (w:=w1) (o:=.mapIter (some g) c seen c) (by rw [e1.1];exact hI)
theorem tP {b : Bool} {kv vv : Value} (hx : ev l x = Nr b kv vv) : iH P l (.extract x 0) ty (.bool b):=fun w o ho _=>by
 cases b <;> simp [execOp,ho,dC,hx,Nr,Instr.extract]
theorem tQ {r : Nat} {seen : Array Nat} {dn rs : List (K × V)} {k : K} {v : V} (hx : ev l x = .pointer (some ⟨r,0,none⟩)) (hI : Cd w r g c seen c) (hM : kZ w g es c) (hD : cO ek en D es c) (hT : mQ ek en D es seen (dn ++ [(k,v)]) rs) :
 xB P l (.entry x) ty (.tuple #[ek k,en v]) w:=fun o ho _=>by
 have:=Rl (P:=P) hI hM hD hT;simp [execOp,ho,dC,hx,this]
theorem pJ {f : FuncId} {fo : Operand} {xs : Array Operand} {args : List Value} {first cap : Array Value} {a0 : Array TypeId} {R : Value → It → Prop} (m : cA w0 w is) (k : Nat) (hE : bC P f) (hf : ev l fo = .func (.func f) first cap) (hxs : first.toList ++ xs.toList.map (ev l) ++ cap.toList = args)
 (hc : cA w0 w is → Calls P f args.toArray w fun e w'=>∃ v i,e = .returned v ∧ cA w0 w' (is.set k i) ∧ R v i) (h : ∀ v i u,cA w0 u (is.set k i) → R v i → wpList P ops Q rest (Fr (l.set d v) ds) u) :
 wpList P ops Q (Oper.mk (some d) (.call { callee:=.value fo,args:=xs,argTypes:=a0 }) ty pos after none :: rest) (Fr l ds) w:=by
 refine wpList_plain rfl fun K hK=>?_;unfold Oper.wp;rw [iK,lX hE hf hxs _ rfl];refine (hc m).mono ?_;rintro e w' ⟨v,i,rfl,hM,hR⟩;show K ((Fr l ds).put (some d) v) w'
 rw [jT];exact hK _ _ (h v i w' hM hR)
end
theorem eE {P : Program} {Q : Exit → Act → World → Prop} {l : List Value} {ds : List Deferred} {c1 c2 : Code} {w : World} {x : Operand} {b : Bool} (hx : ev l x = .bool b) (ht : b = true → c1.wp P Q (Fr l ds) w) (hf : b = false → c2.wp P Q (Fr l ds) w) : (Code.cond x c1 c2).wp P Q (Fr l ds) w:=lS hx ht hf
theorem Ns {α : Type} {is : List α} {k : Nat} {i : α} (h : is[k]? = some i) : is.set k i = is:=by
 apply List.ext_getElem?;intro j;rw [List.getElem?_set];split
 · rename_i e;subst e
   have:=(List.getElem?_eq_some_iff.1 h).1;rw [if_pos this,h]
 · rfl
theorem Bb {K V : Type} [DecidableEq K] : ∀ {D : List (K × V)} {k : K} {v : V},dD D k = some v → gS D k v = D
 | [],_,_,h=>by cases h
 | x :: D,k,v,h=>by
  unfold dD at h;unfold gS;split at h
  · rename_i e;cases h;subst e;rw [if_pos rfl]
  · rename_i e;rw [if_neg e,Bb h]
/-! ### Keys -/
def rU (P : Program) (e : Bool) (d : Nat) (T : TypeId) (x : Value) : Prop:=∀ w,(Instr.checkKey e d T x).run P w = .ok () w
section
variable {P : Program} {e : Bool} {d : Nat} {T E : TypeId}
theorem pK {β : Type} {w : World} (g : β → PUnit → Sem (ForInStep PUnit)) : ∀ (L : List β),(∀ x ∈ L,(g x ⟨⟩).run P w = .ok (.yield ⟨⟩) w) → (forIn L PUnit.unit g : Sem PUnit).run P w = .ok ⟨⟩ w
 | [],_=>by simp
 | x :: L,h=>by
  simp only[List.forIn_cons,Sem.run_bind,h x (List.mem_cons_self ..),Result.andThen_ok];exact pK g L fun y hy=>h y (List.mem_cons_of_mem _ hy)
theorem rU.int {k k' : IntKind} {n : Int} (hu : P.underlying T = some (.int k')) : rU P e (d + 1) T (.int k n):=fun w=>by
 unfold Instr.checkKey;simp [run_underlying hu]
theorem rU.struct {fs : Array Field} {cs : Array Value} (hu : P.underlying T = some (.struct fs)) (h : ∀ f ∈ fs.toList,∃ v,(∀ w,(part f.type cs f.offset).run P w = .ok v w) ∧ rU P e d f.type v) : rU P e (d + 1) T (.agg cs):=fun w=>by
 unfold Instr.checkKey;simp only[Sem.run_bind,run_underlying hu,Result.andThen_ok];rw [← Array.forIn_toList];refine (congrArg (fun r=>Result.andThen r _) (pK _ fs.toList fun f hf=>?_)).trans (by rfl);obtain ⟨v,h1,h2⟩:=h f hf;by_cases hn : f.name = "_"
 · simp [hn]
 · simp [hn,h1 w,h2 w]
theorem rU.array {n c : Nat} {cs : Array Value} (hu : P.underlying T = some (.array n E)) (hc : eN P E c) (h : ∀ i,i < n → ∃ v,(∀ w,(part E cs (i * c)).run P w = .ok v w) ∧ rU P e d E v) : rU P e (d + 1) T (.agg cs):=fun w=>by
 unfold Instr.checkKey;simp only[Sem.run_bind,run_underlying hu,Result.andThen_ok];simp only[Std.Legacy.Range.forIn_eq_forIn_range',Std.Legacy.Range.size,Nat.sub_zero,Nat.add_one_sub_one,Nat.div_one];refine (congrArg (fun r=>Result.andThen r _) (pK _ (List.range' 0 n) fun i hi=>?_)).trans (by rfl);obtain ⟨v,h1,h2⟩:=h i (by simpa using hi);simp [fR hc,h1 w,h2 w]
theorem rN.agg {K : Type} [DecidableEq K] {ek : K → Value} {cs : K → Array Value} (ha : ∀ k,ek k = .agg (cs k)) {t : TypeDesc} (ht : P.underlying T = some t) (hc : ∀ e k,rU P e 10000 T (ek k)) (he : ∀ a b,uE P 10000 T (ek a) (ek b) (a = b)) (hb : ∀ a,Instr.sameBits 10000 (ek a) (ek a) = true) : rN P T ek where
 chk e k w:=hc e k w
 now:=⟨t,ht,fun a b=>.inl (by rw [ha,ha];cases t <;> rfl)⟩
 eq a b w:=tC (he a b) w
 bits:=hb
end
end Go.Lith
