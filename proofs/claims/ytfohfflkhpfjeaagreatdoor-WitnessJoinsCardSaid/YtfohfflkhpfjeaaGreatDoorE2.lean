/-
 Texts of one claim, laid together: Own, Al, Mem, Grow, Pts, Guard, Geo6, Open, Surf, Surf2, Lat, Chk, Facts, Facts2, Map0, Map, Map2.
-/
import Derived.Sort.Grow
import Derived.Deep.Draws
import Derived.OpenShut
import Derived.Lib.SmallJoins
import Derived.Deep.Slices
import Derived.Test.YtfohfflkhpfjeaaGreatDoorProg
import Derived.Maps.RangeRun
import Derived.Test.YtfohfflkhpfjeaaGreatDoorE1
set_option linter.unusedSimpArgs false
set_option linter.unusedVariables false
set_option linter.unusedSectionVars false
namespace Go.Lith
open Go.RowKit
abbrev Df (A : Option Addr) : Option Nat:=A.map (·.block)
structure Ow (w0 w : World) (S : List (Option Nat)) (E : TypeId) (c : Nat) (A : Option Addr) (n cap : Nat) (xs : List Value) : Prop where
 own : w.ownsRow w0.heap.size E c (.slice A n cap) n xs
 sep : ∀ b,Df A = some b → some b ∉ S
 bd : ∀ b,some b ∈ S → b < w.heap.size
structure Wr (w w' : World) (A : Option Addr) : Prop where
 os : w'.os = w.os
 tape : w'.tape = w.tape
 output : w'.output = w.output
 size : w.heap.size ≤ w'.heap.size
 block : ∀ k,k < w.heap.size → Df A ≠ some k → w'.heap[k]? = w.heap[k]?
theorem lP {w : World} {base c n cap : Nat} {E : TypeId} {A : Option Addr} {xs : List Value} (h : w.ownsRow base E c (.slice A n cap) n xs) :
 (A = none ∧ n = 0 ∧ cap = 0 ∧ xs = []) ∨ ∃ g cur,A = some ⟨g,0,none⟩ ∧ base ≤ g ∧ w.heap[g]? = some (.cells cur E (0,0)) ∧ n ≤ cap ∧ cap ≤ maxLen ∧ cur.size = cap * c ∧ cur.toList.take (n * c) = xs:=by
 rcases h.2 with ⟨h1,h2⟩ | ⟨g,cap',cur,h1,h2,h3,h4,h5,h6,h7⟩
 · cases h1
   exact .inl ⟨rfl,h2,rfl,List.eq_nil_of_length_eq_zero (by rw [h.1,h2,Nat.zero_mul])⟩
 · cases h1
   exact .inr ⟨g,cur,rfl,h2,h3,h4,h5,h6,h7⟩
section
variable {w0 w w' : World} {S : List (Option Nat)} {E : TypeId} {c n cap : Nat} {A : Option Addr} {xs : List Value}
theorem Ow.cases (h : Ow w0 w S E c A n cap xs) : (A = none ∧ n = 0 ∧ cap = 0 ∧ xs = []) ∨ ∃ g cur,A = some ⟨g,0,none⟩ ∧ w0.heap.size ≤ g ∧ w.heap[g]? = some (.cells cur E (0,0)) ∧ n ≤ cap ∧ cap ≤ maxLen ∧ cur.size = cap * c ∧ cur.toList.take (n * c) = xs:=lP h.own
theorem Ow.ge (h : Ow w0 w S E c A n cap xs) : ∀ b,Df A = some b → w0.heap.size ≤ b:=fun b hb=>by
 rcases h.cases with ⟨rfl,_⟩ | ⟨g,cur,rfl,hg,_⟩
 · cases hb
 · cases hb
   exact hg
theorem Ow.le (h : Ow w0 w S E c A n cap xs) : n ≤ cap:=by
 rcases h.cases with ⟨_,rfl,rfl,_⟩ | ⟨g,cur,_,_,_,h1,_⟩
 · exact Nat.le_refl _
 · exact h1
theorem Ow.some (h : Ow w0 w S E c A n cap xs) (hn : 0 < n) : ∃ g,A = some ⟨g,0,none⟩:=by
 rcases h.cases with ⟨_,rfl,_⟩ | ⟨g,cur,rfl,_⟩
 · omega
 · exact ⟨g,rfl⟩
theorem Ow.row (h : Ow w0 w S E c A n cap xs) : ∀ j u,xs[j]? = Option.some u → ∃ a,A = Option.some a ∧ w.cell? (a.add j) = Option.some u:=fun j u hj=>by
 rcases h.cases with ⟨_,_,_,rfl⟩ | ⟨g,cur,rfl,_,hg,_,_,_,h4⟩
 · cases hj
 · refine ⟨_,rfl,?_⟩
   rw [gE,Nat.zero_add,cell_of_row w g j cur E (0,0) hg];rw [← h4,List.getElem?_take] at hj;split at hj
   · simpa using hj
   · cases hj
theorem Ow.rows {g : Nat} (h : Ow w0 w S E c (Option.some ⟨g,0,none⟩) n cap xs) : jL w ⟨g,0,none⟩ xs:=fun j u hj=>by
 obtain ⟨a,e,h1⟩:=h.row j u hj;cases e;exact h1
theorem Ow.nil (w0 w : World) (E : TypeId) (c : Nat) : Ow w0 w [] E c none 0 0 []:=⟨World.ownsRow_nil w _ E c,fun _ h=>(by cases h),fun _ h=>(by cases h)⟩
theorem Ow.mk' {g : Nat} {cs : List Value} (hB : gD w g cs E) (hg : w0.heap.size ≤ g) (hl : cs.length = n * c) (hm : n ≤ maxLen) : Ow w0 w [] E c (Option.some ⟨g,0,none⟩) n n cs :=
 ⟨⟨hl,.inr ⟨g,n,_,rfl,hg,hB,Nat.le_refl _,hm,by simpa using hl,by simp [← hl]⟩⟩,fun _ _ h=>(by cases h),fun _ h=>(by cases h)⟩
theorem Ow.as {ys : List Value} (h : Ow w0 w S E c A n cap xs) (e : xs = ys) : Ow w0 w S E c A n cap ys:=e ▸ h
end
section
variable {P : Program} {ds : List Deferred} {l : List Value} {x y : Operand} {T ty : TypeId}
variable {ops : Array Oper} {Q : Exit → Act → World → Prop} {rest : List Oper} {d : Nat} {pos : String} {after : Array Edge} {w w0 : World} {S : List (Option Nat)} {E : TypeId} {c n cap m mcap : Nat} {A B : Option Addr} {xs news : List Value}
theorem Wr.refl (w : World) (A : Option Addr) : Wr w w A:=⟨rfl,rfl,rfl,Nat.le_refl _,fun _ _ _=>rfl⟩
theorem Fy {t : TypeId} {i : TypeInfo} {z : Value} {bytes : Nat} (ht : P.underlying t = some (.slice E)) (hi : P.info? E = some i) (hz : i.zero = some z) (hsize : i.size = c) (hby : i.bytes = bytes) (hzs : z.cells.size = c) (hsz : 0 < c)
 (hown : Ow w0 w S E c A n cap xs) (hl : news.length = m * c) (hnews : ∀ j u,news[j]? = some u → ∃ a,B = some a ∧ w.cell? (a.add j) = some u) (h1 : ∀ u ∈ news,u.oneCell' = true)
 (h63 : n + m ≤ maxLen) (hbytes : (n + m) * bytes ≤ 140737488355328) (hbase : w0.heap.size ≤ w.heap.size) :
 ∃ A' cap' w',(Builtin.append_ #[t,t] ty #[.slice A n cap,.slice B m mcap]).run P w = .ok (.slice A' (n + m) cap') w' ∧ Ow w0 w' S E c A' (n + m) cap' (xs ++ news) ∧ Wr w w' A ∧ (A' = A ∨ Df A' = some w.heap.size):=by
 subst hsize;subst hby;have hsmall : n + m ≤ 9223372036854775807:=by simp only[maxLen] at h63;omega
 have hlen : (xs ++ news).length = (n + m) * i.size:=by rw [List.length_append,hown.own.1,hl,Nat.add_mul]
 have grown : ∀ (old : Nat),old < n + m →
  Ow w0 (w.drew.alloc (.cells (xs.toArray ++ news.toArray ++ Builtin.zeroCells z.cells (grownCap w (n + m) old E - (n + m))) E)) S E i.size
   (some ⟨w.heap.size,0,none⟩) (n + m) (grownCap w (n + m) old E) (xs ++ news) ∧
  Wr w (w.drew.alloc (.cells (xs.toArray ++ news.toArray ++ Builtin.zeroCells z.cells (grownCap w (n + m) old E - (n + m))) E)) A:=by
  intro old ho;have hge:=grownCap_ge w (n + m) old E;have hcm : grownCap w (n + m) old E ≤ maxLen:=grownCap_le_maxLen w (n + m) old E h63;refine ⟨⟨⟨hlen,.inr ⟨w.heap.size,_,_,rfl,hbase,heap_alloc_new w.drew _,hge,hcm,?_,?_⟩⟩,fun b hb hm=>?_,fun b hb=>?_⟩,⟨rfl,rfl,rfl,by simp,fun k hk _=>heap_alloc_old w.drew _ (h:=hk)⟩⟩
  · simp only[Array.size_append,List.size_toArray,size_zeroCells,hzs,hown.own.1,hl,← Nat.add_mul]
    congr 1
    omega
  · simp only[Array.toList_append,List.append_assoc]
    rw [← List.append_assoc,← hlen];exact List.take_left
  · have hb' : w.heap.size = b:=by simpa using hb
    subst hb';exact absurd (hown.bd _ hm) (Nat.lt_irrefl _)
  · have:=hown.bd _ hb
    have h2 : (w.drew.alloc (.cells (xs.toArray ++ news.toArray ++ Builtin.zeroCells z.cells (grownCap w (n + m) old E - (n + m))) E)).heap.size = w.heap.size + 1:=by simp
    rw [h2];omega
 have hB0 : B = none → m = 0 ∧ news = []:=fun hB=>by
  have hn : news = []:=by
   cases news with
   | nil=>rfl
   | cons u us=>obtain ⟨a,e,_⟩:=hnews 0 u rfl;rw [hB] at e;cases e
  subst hn;refine ⟨?_,rfl⟩;rcases Nat.eq_zero_or_pos m with h0 | h0
  · exact h0
  · have:=Nat.mul_pos h0 hsz;simp at hl;omega
 rcases hown.cases with ⟨rfl,rfl,rfl,rfl⟩ | ⟨g,cur,rfl,hbg,hg,hnc,hcm,hcs,htake⟩
 · by_cases hm : m = 0
   · subst hm
     have hn : news = []:=List.eq_nil_of_length_eq_zero (by simpa using hl);subst hn;refine ⟨none,0,w,?_,by simpa using hown,Wr.refl _ _,.inl rfl⟩;cases B <;> simp [Builtin.append_,run_underlying ht,sizeOf,typeInfo,hi,Builtin.lenOf,Builtin.firstCells,loadCells,loadCellsFrom]
   · cases B with
     | none=>exact absurd (hB0 rfl).1 hm
     | some a =>
      have hr:=run_append_nil (P:=P) w t ty E i z ht hi hz a m mcap news hl (fun j u hj=>by obtain ⟨a',e,h⟩:=hnews j u hj;cases e;exact h) (by omega) (by omega) (by have hb:=hbytes;simp only[Nat.zero_add] at hb;omega);have hgr:=grown 0 (by omega);simp only[Nat.zero_add,List.nil_append,Array.empty_append] at hgr ⊢;exact ⟨_,_,_,hr,hgr.1,hgr.2,.inr rfl⟩
 · cases B with
   | none =>
    obtain ⟨rfl,rfl⟩:=hB0 rfl;refine ⟨some ⟨g,0,none⟩,cap,w,?_,by simpa using hown,Wr.refl _ _,.inl rfl⟩;simp [Builtin.append_,run_underlying ht,sizeOf,typeInfo,hi,Builtin.lenOf,Builtin.firstCells,hnc,storeCells]
   | some a =>
    have hnews' : ∀ j u,news[j]? = some u → w.cell? (a.add j) = some u:=fun j u hj=>by obtain ⟨a',e,h⟩:=hnews j u hj;cases e;exact h
    by_cases hroom : n + m ≤ cap
    · have hfit : n * i.size + news.length ≤ cur.size:=by rw [hl,hcs,← Nat.add_mul];exact Nat.mul_le_mul_right _ hroom
      have hr:=run_append_room (P:=P) w t ty E i ht hi g n cap cur hg a m mcap news hl hnews' h1 hroom hfit;refine ⟨_,_,_,hr,⟨⟨hlen,.inr ⟨g,cap,_,rfl,hbg,setRow_heap w g cur _ E _ hg,hroom,hcm,?_,?_⟩⟩,hown.sep,fun b hb=>by simpa using hown.bd b hb⟩,⟨rfl,rfl,rfl,by simp,fun k _ hk=>setRow_other w g k _ (fun e=>hk (by rw [e];rfl))⟩,.inl rfl⟩
      · simp only[List.size_toArray,List.length_append,List.length_take,List.length_drop,Array.length_toList]
        omega
      · rw [htake,← hlen]
        exact List.take_left
    · have hr:=run_append_grow (P:=P) w t ty E i z ht hi hz ⟨g,0,none⟩ n cap xs hown.own.1 hown.rows a m mcap news hl hnews' (by omega) (by omega) (growslice_fits (by omega) hbytes)
      have hgr:=grown cap (by omega);exact ⟨_,_,_,hr,hgr.1,hgr.2,.inr rfl⟩
theorem Tg {b : Nat} {z : Value} {a0 : Array TypeId} (ha : a0 = #[T,T]) (hu : P.underlying T = some (.slice E)) (hi : (P.info? E).map (fun i=>(i.size,i.bytes,i.zero)) = some (c,b,some z)) (hz : z.cells.size = c) (hc : 0 < c) (hX : dK w0 w)
 (hs : ev l x = .slice A n cap) (hown : Ow w0 w S E c A n cap xs) (hx : ev l y = .slice B m mcap) (hl : news.length = m * c) (hrow : ∀ j u,news[j]? = some u → ∃ a,B = some a ∧ w.cell? (a.add j) = some u) (h1 : ∀ u ∈ news,u.oneCell' = true) (h63 : n + m ≤ 9223372036854775807) (hbytes : (n + m) * b ≤ 140737488355328)
 (h : ∀ A' cap' w',Ow w0 w' S E c A' (n + m) cap' (xs ++ news) → Wr w w' A → (A' = A ∨ Df A' = some w.heap.size) → wpList P ops Q rest (Fr (l.set d (.slice A' (n + m) cap')) ds) w') :
 wpList P ops Q (Oper.mk (some d) (.call { callee:=.builtin .append,args:=#[x,y],argTypes:=a0 }) ty pos after none :: rest) (Fr l ds) w:=by
 subst ha;cases hq : P.info? E with
 | none=>rw [hq] at hi;cases hi
 | some i =>
  rw [hq] at hi;simp only[Option.map_some,Option.some.injEq,Prod.mk.injEq] at hi;obtain ⟨e1,e2,e3⟩:=hi;obtain ⟨A',cap',w',hr,h2,h3,h4⟩:=Fy (P:=P) (w:=w) (ty:=ty) (mcap:=mcap) hu hq e3 e1 e2 hz hc hown hl hrow h1 (by simpa [maxLen] using h63) hbytes hX.size;exact kN (fun o ho hty=>by simp [execOp,ho,hty,resolve,invoke,builtin,dD,hs,hx,hr]) (h A' cap' w' h2 h3 h4)
end
theorem aaZ (ts : List T3) : (ts.flatMap bQ).length = ts.length * 9:=by
 induction ts with
 | nil=>rfl
 | cons t ts ih=>rw [List.flatMap_cons,List.length_append,ih,tL,List.length_cons];omega
theorem Ow.tris {w0 w : World} {S : List (Option Nat)} {E : TypeId} {A : Option Addr} {n cap : Nat} {ts : List T3} (h : Ow w0 w S E 9 A n cap (ts.flatMap bQ)) (hi : ∀ t ∈ ts,IT t) : fA w A n ts:=by
 refine ⟨?_,hi,fun i t ht=>?_⟩
 · have:=h.own.1;rw [aaZ] at this;omega
 · have hr : ∀ j u,(bQ t)[j]? = Option.some u → (ts.flatMap bQ)[i * 9 + j]? = Option.some u:=fun j u hj=>by
    have hj' : j < (bQ t).length:=(List.getElem?_eq_some_iff.1 hj).1;rw [← List.getElem?_drop,yQ ts i t ht,List.getElem?_append_left hj'];exact hj
   obtain ⟨a,e,_⟩:=h.row _ _ (hr 0 _ rfl);refine ⟨a,e,fun j u hj=>?_⟩;obtain ⟨a',e',hc⟩:=h.row _ _ (hr j u hj);rw [e] at e';cases e';rw [jV];exact hc
theorem aa0 : ∀ (t : T3),∀ u ∈ bQ t,u.oneCell' = true:=fun t u hu=>by
 simp only[bQ,List.mem_cons,List.not_mem_nil,or_false] at hu;rcases hu with rfl | rfl | rfl | rfl | rfl | rfl | rfl | rfl | rfl <;> rfl
theorem rP (ts : List T3) : ∀ u ∈ ts.flatMap bQ,u.oneCell' = true:=fun u hu=>by
 obtain ⟨t,_,h⟩:=List.mem_flatMap.1 hu;exact aa0 t u h
theorem gD.rowsO {w : World} {g : Nat} {cs : List Value} {t : TypeId} (h : gD w g cs t) : ∀ j u,cs[j]? = some u → ∃ a,some (⟨g,0,none⟩ : Addr) = some a ∧ w.cell? (a.add j) = some u:=fun j u hj=>⟨_,rfl,by have:=h.row 0;rw [List.drop_zero] at this;exact this j u hj⟩
section
variable {w0 w w' : World} {S : List (Option Nat)} {E : TypeId} {c n cap : Nat} {A : Option Addr} {xs : List Value}
end
end Go.Lith
namespace Go.Lith
open Go.RowKit
/-! ### Names that are short -/
theorem zA {l : List Value} (t : Nat) : ev l (.tmp t) = l.getD t undef:=rfl
theorem zB {l : List Value} (v : Value) : ev l (.const v) = v:=rfl
theorem zC {l : List Value} (f : Nat) : ev l (.func f) = .func (.func f) #[] #[]:=rfl
theorem zD {α : Type} {x : α} {xs : List α} {n : Nat} {d : α} : (x :: xs).getD (n + 1) d = xs.getD n d:=rfl
theorem zE {α : Type} {x : α} {xs : List α} {d : α} : (x :: xs).getD 0 d = x:=rfl
theorem zF {α : Type} {x : α} {xs : List α} {n : Nat} {a : α} : (x :: xs).set (n + 1) a = x :: xs.set n a:=rfl
theorem zG {α : Type} {x : α} {xs : List α} {a : α} : (x :: xs).set 0 a = a :: xs:=rfl
theorem zH {α : Type} {x : α} {xs : List α} {n : Nat} : (x :: xs).take (n + 1) = x :: xs.take n:=rfl
theorem zI {α : Type} {xs : List α} : xs.take 0 = []:=List.take_zero
theorem zJ {α : Type} {x : α} {xs : List α} {n : Nat} : (x :: xs).drop (n + 1) = xs.drop n:=rfl
theorem zK {α : Type} {xs : List α} : xs.drop 0 = xs:=rfl
theorem zL {α : Type} {x : α} {xs ys : List α} : (x :: xs) ++ ys = x :: (xs ++ ys):=rfl
theorem zM {α : Type} {ys : List α} : [] ++ ys = ys:=rfl
theorem zN {α : Type} {ys : List α} : ys ++ [] = ys:=List.append_nil ys
theorem zO {α : Type} {x : α} {xs : List α} : (x :: xs).length = xs.length + 1:=rfl
theorem zP {α : Type} : ([] : List α).length = 0:=rfl
theorem zQ {α β : Type} {f : α → β} {x : α} {xs : List α} : (x :: xs).map f = f x :: xs.map f:=rfl
theorem zR {α β : Type} {f : α → β} : ([] : List α).map f = []:=rfl
theorem zS {α : Type} {l : List α} {i : Nat} : l.toArray[i]? = l[i]?:=List.getElem?_toArray
theorem zT {α : Type} {x : α} {xs : List α} {n : Nat} : (x :: xs)[n + 1]? = xs[n]?:=rfl
theorem zU {α : Type} {x : α} {xs : List α} : (x :: xs)[0]? = some x:=rfl
theorem zV {α : Type} {x d : α} : (some x).getD d = x:=rfl
theorem zz : (∀ (l : List Go.Value) (t : Nat), ev l (.tmp t) = l.getD t undef) ∧ (∀ (l : List Go.Value) (v : Go.Value), ev l (.const v) = v) ∧ (∀ (l : List Go.Value) (f : Nat), ev l (.func f) = .func (.func f) #[] #[]) ∧ (∀ {α : Type} (x : α) (xs : List α) (n : Nat) (d : α), (x :: xs).getD (n + 1) d = xs.getD n d) ∧ (∀ {α : Type} (x : α) (xs : List α) (d : α), (x :: xs).getD 0 d = x) ∧ (∀ {α : Type} (x : α) (xs : List α) (n : Nat) (a : α), (x :: xs).set (n + 1) a = x :: xs.set n a) ∧ (∀ {α : Type} (x : α) (xs : List α) (a : α), (x :: xs).set 0 a = a :: xs) := ⟨fun _ _ => rfl, fun _ _ => rfl, fun _ _ => rfl, fun _ _ _ _ => rfl, fun _ _ _ => rfl, fun _ _ _ _ => rfl, fun _ _ _ => rfl⟩
theorem zy : (∀ {α : Type} (x : α) (xs : List α) (n : Nat), (x :: xs).take (n + 1) = x :: xs.take n) ∧ (∀ {α : Type} (xs : List α), xs.take 0 = []) ∧ (∀ {α : Type} (x : α) (xs : List α) (n : Nat), (x :: xs).drop (n + 1) = xs.drop n) ∧ (∀ {α : Type} (xs : List α), xs.drop 0 = xs) := ⟨fun _ _ _ => rfl, fun _ => List.take_zero, fun _ _ _ => rfl, fun _ => rfl⟩
theorem zx : (∀ {α : Type} (x : α) (xs ys : List α), (x :: xs) ++ ys = x :: (xs ++ ys)) ∧ (∀ {α : Type} (ys : List α), [] ++ ys = ys) ∧ (∀ {α : Type} (ys : List α), ys ++ [] = ys) ∧ (∀ {α : Type} (x : α) (xs : List α), (x :: xs).length = xs.length + 1) ∧ (∀ {α : Type}, ([] : List α).length = 0) := ⟨fun _ _ _ => rfl, fun _ => rfl, fun _ => List.append_nil _, fun _ _ => rfl, rfl⟩
theorem zw : (∀ {α : Type} (l : List α) (i : Nat), l.toArray[i]? = l[i]?) ∧ (∀ {α : Type} (x : α) (xs : List α) (n : Nat), (x :: xs)[n + 1]? = xs[n]?) ∧ (∀ {α : Type} (x : α) (xs : List α), (x :: xs)[0]? = some x) ∧ (∀ {α : Type} (x d : α), (some x).getD d = x) := ⟨fun _ _ => List.getElem?_toArray, fun _ _ _ => rfl, fun _ _ => rfl, fun _ _ => rfl⟩
theorem zu : (∀ (l : List Go.Value) (t : Nat) (ts : List Nat) (v : Go.Value) (vs : List Go.Value), gM l (t :: ts) (v :: vs) = gM (l.set t v) ts vs) ∧ (∀ (l vs : List Go.Value), gM l [] vs = l) ∧ (∀ (l : List Go.Value) (t : Nat) (ts : List Nat) (g : Nat → Go.Value), pS l (t :: ts) g = pS (l.set t (g t)) ts g) ∧ (∀ (l : List Go.Value) (g : Nat → Go.Value), pS l [] g = l) := ⟨fun _ _ _ _ _ => rfl, fun _ _ => tP, fun _ _ _ _ => rfl, fun _ _ => rfl⟩
theorem zv : (∀ {α β : Type} (f : α → β) (x : α) (xs : List α), (x :: xs).map f = f x :: xs.map f) ∧ (∀ {α β : Type} (f : α → β), ([] : List α).map f = []) ∧ (∀ (l : List Go.Value) (t : Nat) (ts : List Nat) (v : Go.Value) (vs : List Go.Value), gM l (t :: ts) (v :: vs) = gM (l.set t v) ts vs) ∧ (∀ (l vs : List Go.Value), gM l [] vs = l) ∧ (∀ (l : List Go.Value) (t : Nat) (ts : List Nat) (g : Nat → Go.Value), pS l (t :: ts) g = pS (l.set t (g t)) ts g) ∧ (∀ (l : List Go.Value) (g : Nat → Go.Value), pS l [] g = l) := ⟨fun _ _ _ => rfl, fun _ => rfl, fun _ _ _ _ _ => rfl, fun _ _ => tP, fun _ _ _ _ => rfl, fun _ _ => rfl⟩
end Go.Lith
namespace Go.Lith
open Go.RowKit
structure It where
 own : Nat → Prop
 P : World → Prop
 lt : ∀ w b,P w → own b → b < w.heap.size
 st : ∀ w w',P w → w.heap.size ≤ w'.heap.size → (∀ b,own b → w'.heap[b]? = w.heap[b]?) → P w'
def bI (g : Nat) (cs : List Value) (t : TypeId) : It where
 own b:=some g = some b
 P w:=gD w g cs t
 lt w b h e:=by cases e;exact h.lt
 st w w' h _ k:=(k g rfl).trans h
def oI (E : TypeId) (c : Nat) (A : Option Addr) (n cap : Nat) (xs : List Value) : It where
 own b:=Df A = some b
 P w:=w.ownsRow 0 E c (.slice A n cap) n xs
 lt w b h e:=by
  rcases lP h with ⟨rfl,_⟩ | ⟨g,cur,rfl,_,hg,_⟩
  · cases e
  · cases e;exact (Array.getElem?_eq_some_iff.1 hg).1
 st w w' h _ k:=by
  refine ⟨h.1,?_⟩;rcases lP h with ⟨rfl,rfl,rfl,_⟩ | ⟨g,cur,rfl,h1,h2,h3⟩
  · exact .inl ⟨rfl,rfl⟩
  · exact .inr ⟨g,cap,cur,rfl,h1,(k g rfl).trans h2,h3⟩
def Ap (i j : It) : Prop:=∀ b,i.own b → j.own b → False
theorem Ap.symm {i j : It} (h : Ap i j) : Ap j i:=fun b h1 h2=>h b h2 h1
structure cF (w0 w : World) (is : List It) : Prop where
 ext : dK w0 w
 all : ∀ i ∈ is,i.P w
 ge : ∀ i ∈ is,∀ b,i.own b → w0.heap.size ≤ b
 nd : is.Pairwise Ap
def Kw : List Bool → List It → List It
 | true :: bs,i :: is=>i :: Kw bs is
 | false :: bs,_ :: is=>Kw bs is
 | _,_=>[]
theorem tZ : ∀ (bs : List Bool) (is : List It),(Kw bs is).Sublist is
 | true :: bs,i :: is=>(tZ bs is).cons_cons i
 | false :: bs,i :: is=>(tZ bs is).cons i
 | [],is=>List.nil_sublist _
 | true :: bs,[]=>List.nil_sublist _
 | false :: bs,[]=>List.nil_sublist _
section
variable {w0 w w' : World} {is : List It}
theorem cF.refl (w : World) : cF w w []:=⟨dK.refl w,fun _ h=>(by cases h),fun _ h=>(by cases h),.nil⟩
theorem cF.ext' (m : cF w0 w is) (e : dK w w') : cF w0 w' is :=
 ⟨m.ext.trans e,fun i hi=>i.st w w' (m.all i hi) e.size fun b hb=>Below.block e b (i.lt w b (m.all i hi) hb),m.ge,m.nd⟩
theorem cF.sel (m : cF w0 w is) (bs : List Bool) : cF w0 w (Kw bs is) :=
 ⟨m.ext,fun i hi=>m.all i ((tZ bs is).subset hi),fun i hi=>m.ge i ((tZ bs is).subset hi),m.nd.sublist (tZ bs is)⟩
theorem cF.tl {i : It} (m : cF w0 w (i :: is)) : cF w0 w is:=⟨m.ext,fun j hj=>m.all j (List.mem_cons_of_mem _ hj),fun j hj=>m.ge j (List.mem_cons_of_mem _ hj),(List.pairwise_cons.1 m.nd).2⟩
theorem cF.get (m : cF w0 w is) (k : Nat) {i : It} (hk : is[k]? = some i) : i.P w:=m.all i (List.mem_of_getElem? hk)
theorem cF.b (m : cF w0 w is) (k : Nat) {g : Nat} {cs : List Value} {t : TypeId} (hk : is[k]? = some (bI g cs t)) : gD w g cs t:=m.get k hk
theorem cF.o (m : cF w0 w is) (k : Nat) {E : TypeId} {c n cap : Nat} {A : Option Addr} {xs : List Value} (hk : is[k]? = some (oI E c A n cap xs)) : Ow w0 w [] E c A n cap xs:=by
 have h : w.ownsRow 0 E c (.slice A n cap) n xs:=m.get k hk;refine ⟨⟨h.1,?_⟩,fun _ _ h=>(by cases h),fun _ h=>(by cases h)⟩;rcases lP h with ⟨rfl,rfl,rfl,_⟩ | ⟨g,cur,rfl,_,h2,h3⟩
 · exact .inl ⟨rfl,rfl⟩
 · exact .inr ⟨g,cap,cur,rfl,m.ge _ (List.mem_of_getElem? hk) g rfl,h2,h3⟩
theorem cF.bo (m : cF w0 w is) (k : Nat) {g : Nat} {cs : List Value} {t : TypeId} (hk : is[k]? = some (bI g cs t)) {n c : Nat} (hl : cs.length = n * c) (hm : n ≤ maxLen) : Ow w0 w [] t c (some ⟨g,0,none⟩) n n cs :=
 Ow.mk' (m.b k hk) (m.ge _ (List.mem_of_getElem? hk) g rfl) hl hm
theorem cF.toO (m : cF w0 w is) (k : Nat) {g : Nat} {cs : List Value} {t : TypeId} (hk : is[k]? = some (bI g cs t)) {n c : Nat} (hl : cs.length = n * c) (hm : n ≤ maxLen) : ∃ i,i = oI t c (some ⟨g,0,none⟩) n n cs ∧ i.P w:=⟨_,rfl,(m.bo k hk hl hm).own.1,.inr ⟨g,n,_,rfl,Nat.zero_le _,m.b k hk,Nat.le_refl _,hm,by simpa using hl,by simp [← hl]⟩⟩
theorem cF.new {i : It} (m : cF w0 w is) (e : dK w w') (hi : i.P w') (hg : ∀ b,i.own b → w.heap.size ≤ b) : cF w0 w' (i :: is):=by
 have m':=m.ext' e;refine ⟨m'.ext,fun j hj=>?_,fun j hj=>?_,List.pairwise_cons.2 ⟨fun j hj b h1 h2=>?_,m'.nd⟩⟩
 · rcases List.mem_cons.1 hj with rfl | hj
   · exact hi
   · exact m'.all j hj
 · rcases List.mem_cons.1 hj with rfl | hj
   · exact fun b hb=>Nat.le_trans m.ext.size (hg b hb)
   · exact m'.ge j hj
 · have:=j.lt w b (m.all j hj) h2
   have:=hg b h1;omega
theorem cF.newB {g : Nat} {cs : List Value} {t : TypeId} (m : cF w0 w is) (e : dK w w') (hg : w.heap.size ≤ g) (hB : gD w' g cs t) : cF w0 w' (bI g cs t :: is):=m.new e hB (fun b h=>by cases h;exact hg)
theorem cF.newO {S : List (Option Nat)} {E : TypeId} {c n cap : Nat} {A : Option Addr} {xs : List Value} (m : cF w0 w is) (e : dK w w') (h : Ow w w' S E c A n cap xs) : cF w0 w' (oI E c A n cap xs :: is):=by
 refine m.new e (i:=oI E c A n cap xs) ?_ h.ge;refine ⟨h.own.1,?_⟩;rcases h.cases with ⟨rfl,rfl,rfl,_⟩ | ⟨g,cur,rfl,_,h2,h3⟩
 · exact .inl ⟨rfl,rfl⟩
 · exact .inr ⟨g,cap,cur,rfl,Nat.zero_le _,h2,h3⟩
theorem cF.nilO (m : cF w0 w is) (E : TypeId) (c : Nat) : cF w0 w (oI E c none 0 0 [] :: is):=m.newO (dK.refl w) (Ow.nil w w E c)
theorem Ol {i i' : It} : ∀ (is : List It) (k : Nat),is.Pairwise Ap → is[k]? = some i → (∀ x ∈ is,Ap i x → Ap i' x) → (is.set k i').Pairwise Ap
 | [],_,_,h,_=>by cases h
 | j :: is,0,hp,h,hc=>by
  cases h;rw [List.set_cons_zero];have:=List.pairwise_cons.1 hp;exact List.pairwise_cons.2 ⟨fun x hx=>hc x (List.mem_cons_of_mem _ hx) (this.1 x hx),this.2⟩
 | j :: is,k + 1,hp,h,hc=>by
  rw [List.set_cons_succ];have hp':=List.pairwise_cons.1 hp;have h' : is[k]? = some i:=h;refine List.pairwise_cons.2 ⟨fun x hx=>?_,Ol is k hp'.2 h' fun x hx=>hc x (List.mem_cons_of_mem _ hx)⟩;rcases List.mem_or_eq_of_mem_set hx with hx | rfl
  · exact hp'.1 x hx
  · exact (hc j (List.mem_cons_self ..) (hp'.1 i (List.mem_of_getElem? h')).symm).symm
theorem cF.put {i i' : It} (m : cF w0 w is) (k : Nat) (hk : is[k]? = some i) (hos : w'.os = w.os) (ht : w'.tape = w.tape) (ho : w'.output = w.output) (hs : w.heap.size ≤ w'.heap.size) (hb : ∀ b,b < w.heap.size → ¬ i.own b → w'.heap[b]? = w.heap[b]?)
 (hi : i'.P w') (hid : (∀ b,i'.own b → i.own b) ∨ ∀ b,i'.own b → w.heap.size ≤ b) : cF w0 w' (is.set k i'):=by
 have hmem:=List.mem_of_getElem? hk;refine ⟨⟨hos.trans m.ext.os,ht.trans m.ext.tape,ho.trans m.ext.output,Nat.le_trans m.ext.size hs,fun b hlt=>(hb b (Nat.lt_of_lt_of_le hlt m.ext.size) fun e=>?_).trans (Below.block m.ext b hlt)⟩,fun j hj=>?_,fun j hj b hjb=>?_,Ol is k m.nd hk fun x hx ha b h1 h2=>?_⟩
 · have:=m.ge i hmem b e
   omega
 · obtain ⟨q,hq,e⟩:=List.getElem_of_mem hj
   rw [List.getElem_set] at e;split at e
   · subst e;exact hi
   · rename_i hne
     rw [List.length_set] at hq;have hj' : j ∈ is:=e ▸ List.getElem_mem hq;have hq' : is[q]? = some j:=by rw [← e];exact List.getElem?_eq_getElem hq
     refine j.st w w' (m.all j hj') hs fun b hjb=>hb b (j.lt w b (m.all j hj') hjb) fun hib=>?_;have hklt : k < is.length:=(List.getElem?_eq_some_iff.1 hk).1;have hki : is[k] = i:=(List.getElem?_eq_some_iff.1 hk).2;rcases Nat.lt_or_gt_of_ne hne with h | h
     · have:=List.pairwise_iff_getElem.1 m.nd k q hklt hq h
       rw [hki,e] at this;exact this b hib hjb
     · have:=List.pairwise_iff_getElem.1 m.nd q k hq hklt h
       rw [hki,e] at this;exact this b hjb hib
 · rcases List.mem_or_eq_of_mem_set hj with hj | rfl
   · exact m.ge j hj b hjb
   · rcases hid with hid | hid
     · exact m.ge i hmem b (hid b hjb)
     · exact Nat.le_trans m.ext.size (hid b hjb)
 · rcases hid with hid | hid
   · exact ha b (hid b h1) h2
   · have:=hid b h1
     have:=x.lt w b (m.all x hx) h2;omega
theorem cF.reO (m : cF w0 w is) (k : Nat) {E : TypeId} {c n cap n' cap' : Nat} {A : Option Addr} {xs xs' : List Value} (hk : is[k]? = some (oI E c A n cap xs)) (h : Ow w0 w [] E c A n' cap' xs') : cF w0 w (is.set k (oI E c A n' cap' xs')):=by
 refine m.put k hk rfl rfl rfl (Nat.le_refl _) (fun _ _ _=>rfl) ?_ (.inl fun _ h=>h);refine ⟨h.own.1,?_⟩;rcases h.cases with ⟨rfl,rfl,rfl,_⟩ | ⟨g,cur,rfl,_,h2,h3⟩
 · exact .inl ⟨rfl,rfl⟩
 · exact .inr ⟨g,cap',cur,rfl,Nat.zero_le _,h2,h3⟩
theorem cF.own (m : cF w0 w is) (k : Nat) {g : Nat} {cs : List Value} {t : TypeId} (hk : is[k]? = some (bI g cs t)) {n c : Nat} (hl : cs.length = n * c) (hm : n ≤ maxLen) : cF w0 w (is.set k (oI t c (some ⟨g,0,none⟩) n n cs)):=by
 obtain ⟨i,rfl,h⟩:=m.toO k hk hl hm;exact m.put k hk rfl rfl rfl (Nat.le_refl _) (fun _ _ _=>rfl) h (.inl fun _ h=>h)
theorem dX {a b : Nat} (h : Nat.ble a b = true) : a ≤ b:=Nat.le_of_ble_eq_true h
theorem qX {us : List Value} (h : (us.all (·.oneCell')) = true) : ∀ u ∈ us,u.oneCell' = true:=fun u hu=>List.all_eq_true.1 h u hu
end
section
variable {P : Program} {ds : List Deferred} {l : List Value} {x y : Operand} {T ty : TypeId}
variable {ops : Array Oper} {Q : Exit → Act → World → Prop} {rest : List Oper} {d : Nat} {pos : String} {after : Array Edge} {w w0 : World} {is : List It}
theorem agh {cs : List Value} (m : cF w0 w is) (hv : (ev l x).cells = cs.toArray) (h : ∀ g u,cF w0 u (bI g cs T :: is) → wpList P ops Q rest (Fr (l.set d (.pointer (some ⟨g,0,none⟩))) ds) u) :
 wpList P ops Q (Oper.mk (some d) (.box T x) ty pos after none :: rest) (Fr l ds) w:=kR hv fun u g e hg hB=>h g u (m.newB e hg hB)
theorem bH {cs : List Value} {z : Value} (m : cF w0 w is) (hZ : mT P T z) (hv : z.cells = cs.toArray) (h : ∀ g u,cF w0 u (bI g cs T :: is) → wpList P ops Q rest (Fr (l.set d (.pointer (some ⟨g,0,none⟩))) ds) u) :
 wpList P ops Q (Oper.mk (some d) (.alloc T) ty pos after none :: rest) (Fr l ds) w:=jM hZ hv fun u g e hg hB=>h g u (m.newB e hg hB)
theorem Xn {g off : Nat} {cs us : List Value} {t : TypeId} (m : cF w0 w is) (k : Nat) (hk : is[k]? = some (bI g cs t)) (hx : ev l x = .pointer (some ⟨g,off,none⟩)) (hv : (ev l y).cells = us.toArray) (hc : fB P T us.length) (hfit : off + us.length ≤ cs.length) (h1 : (us.all (·.oneCell')) = true)
 (h : ∀ u,cF w0 u (is.set k (bI g (bK cs off us) t)) → wpList P ops Q rest (Fr l ds) u) : wpList P ops Q (Oper.mk none (.store T x y) ty pos after none :: rest) (Fr l ds) w :=
 dA hx hv hc (m.b k hk) hfit (qX h1) fun u hC hB=>h u (m.put k hk hC.os hC.tape hC.output (by rw [hC.size];exact Nat.le_refl _) (fun b _ hne=>hC.block b fun e=>hne (by rw [e];rfl)) hB (.inl fun _ h=>h))
theorem gJ {v : Value} {f : FuncId} {fo : Operand} {xs : Array Operand} {args : List Value} {first cap : Array Value} {a0 : Array TypeId} (m : cF w0 w is) (hf : ev l fo = .func (.func f) first cap) (hxs : first.toList ++ xs.toList.map (ev l) ++ cap.toList = args) (hc : iX P f args v)
 (h : ∀ u,cF w0 u is → wpList P ops Q rest (Fr (l.set d v) ds) u) : wpList P ops Q (Oper.mk (some d) (.call { callee:=.value fo,args:=xs,argTypes:=a0 }) ty pos after none :: rest) (Fr l ds) w :=
 uT hf hxs hc fun u e=>h u (m.ext' e)
theorem eQ {f : FuncId} {fo : Operand} {xs : Array Operand} {args : List Value} {first cap : Array Value} {a0 : Array TypeId} {R : Value → World → Prop} (m : cF w0 w is) (hf : ev l fo = .func (.func f) first cap) (hxs : first.toList ++ xs.toList.map (ev l) ++ cap.toList = args) (hc : eL P f args w R)
 (h : ∀ v u,cF w0 u is → R v u → wpList P ops Q rest (Fr (l.set d v) ds) u) : wpList P ops Q (Oper.mk (some d) (.call { callee:=.value fo,args:=xs,argTypes:=a0 }) ty pos after none :: rest) (Fr l ds) w :=
 bE hf hxs hc fun v u e hR=>h v u (m.ext' e) hR
def OR (E : TypeId) (c : Nat) (R : List Value → Prop) (w : World) (v : Value) (w' : World) : Prop:=∃ A n cap xs,v = .slice A n cap ∧ Ow w w' [] E c A n cap xs ∧ R xs
theorem eG {E : TypeId} {c n cap b nm mcap : Nat} {A B : Option Addr} {z : Value} {xs news : List Value} {a0 : Array TypeId} (m : cF w0 w is) (k : Nat) (hk : is[k]? = some (oI E c A n cap xs)) (ha : a0 = #[T,T]) (hu : P.underlying T = some (.slice E)) (hi : (P.info? E).map (fun i=>(i.size,i.bytes,i.zero)) = some (c,b,some z)) (hz : z.cells.size = c) (hc : 0 < c)
 (hs : ev l x = .slice A n cap) (hx : ev l y = .slice B nm mcap) (hl : news.length = nm * c) (hrow : ∀ j u,news[j]? = some u → ∃ a,B = some a ∧ w.cell? (a.add j) = some u) (h1 : ∀ u ∈ news,u.oneCell' = true) (h63 : n + nm ≤ 9223372036854775807) (hbytes : (n + nm) * b ≤ 140737488355328)
 (h : ∀ A' cap' u,cF w0 u (is.set k (oI E c A' (n + nm) cap' (xs ++ news))) → wpList P ops Q rest (Fr (l.set d (.slice A' (n + nm) cap')) ds) u) :
 wpList P ops Q (Oper.mk (some d) (.call { callee:=.builtin .append,args:=#[x,y],argTypes:=a0 }) ty pos after none :: rest) (Fr l ds) w :=
 Tg ha hu hi hz hc m.ext hs (m.o k hk) hx hl hrow h1 h63 hbytes fun A' cap' u hO hW hF=>h A' cap' u (m.put k hk hW.os hW.tape hW.output hW.size (fun b hb hne=>hW.block b hb hne) (by
  refine ⟨hO.own.1,?_⟩;rcases hO.cases with ⟨rfl,e1,rfl,_⟩ | ⟨g,cur,rfl,_,h2,h3⟩
  · exact .inl ⟨by rw [e1],e1⟩
  · exact .inr ⟨g,cap',cur,rfl,Nat.zero_le _,h2,h3⟩) (by
  rcases hF with rfl | hF
  · exact .inl fun _ h=>h
  · exact .inr fun b hb=>by
     have e : Df A' = some b:=hb;rw [hF] at e;cases e;exact Nat.le_refl _))
theorem eP {cs : List Value} (m : cF w0 w is) (hv : ev l x = .agg cs.toArray) (h : ∀ g u,cF w0 u (bI g cs T :: is) → wpList P ops Q rest (Fr (l.set d (.pointer (some ⟨g,0,none⟩))) ds) u) :
 wpList P ops Q (Oper.mk (some d) (.box T x) ty pos after none :: rest) (Fr l ds) w:=agh m (by rw [hv];rfl) h
theorem aT {g off : Nat} {cs us : List Value} {t : TypeId} (m : cF w0 w is) (k : Nat) (hk : is[k]? = some (bI g cs t)) (hx : ev l x = .pointer (some ⟨g,off,none⟩)) (hv : ev l y = .agg us.toArray) (hc : fB P T us.length) (hfit : off + us.length ≤ cs.length) (h1 : (us.all (·.oneCell')) = true)
 (h : ∀ u,cF w0 u (is.set k (bI g (bK cs off us) t)) → wpList P ops Q rest (Fr l ds) u) : wpList P ops Q (Oper.mk none (.store T x y) ty pos after none :: rest) (Fr l ds) w:=Xn m k hk hx (by rw [hv];rfl) hc hfit h1 h
theorem Bz {g off : Nat} {cs : List Value} {v : Value} {t : TypeId} (m : cF w0 w is) (k : Nat) (hk : is[k]? = some (bI g cs t)) (hx : ev l x = .pointer (some ⟨g,off,none⟩)) (hv : ev l y = v) (hc : fB P T 1) (hfit : off + 1 ≤ cs.length) (h1 : v.oneCell' = true ∧ v.cells = #[v])
 (h : ∀ u,cF w0 u (is.set k (bI g (bK cs off [v]) t)) → wpList P ops Q rest (Fr l ds) u) : wpList P ops Q (Oper.mk none (.store T x y) ty pos after none :: rest) (Fr l ds) w:=Xn (us:=[v]) m k hk hx (by rw [hv,h1.2]) hc hfit (by simp [h1.1]) h
theorem gD.full {g : Nat} {cs : List Value} {t : TypeId} (h : gD w g cs t) (hA : gW P T true) (hc : fB P T cs.length) : vL P w T ⟨g,0,none⟩ (.agg cs.toArray):=by
 have:=h.row 0;rw [List.drop_zero] at this;exact this.lies hA hc
/-! ### Regions -/
theorem gN {id : Nat} {a : Act} {l : List Oper} (m : cF w0 w is) (n : Nat) (hm : P.follows .mixedOrders = true) (hB : Region.lexTailB .any l.toArray n = true)
 (h : wpQuiet P l.toArray (fun u=>cF w0 u is) (fun a'=>∀ u,cF w0 u is → wpList P l.toArray Q (l.drop n) a' u) (l.take n) a) : (Code.region id l.toArray true).wp P Q a w :=
 kV (C:=fun u=>cF w0 u is) n hm hB (m.ext' (dK.refl w).drawn) h
theorem mq {id : Nat} {a : Act} {l : List Oper} (m : cF w0 w is) (hm : P.follows .mixedOrders = true) (hB : Region.lexB .any l.toArray = true)
 (h : wpQuiet P l.toArray (fun u=>cF w0 u is) (fun a'=>∀ u,cF w0 u is → Q .normal a' u) l a) : (Code.region id l.toArray true).wp P Q a w :=
 wp_region_quiet (C:=fun u=>cF w0 u is) hm hB (m.ext' (dK.refl w).drawn) (by simpa using h)
theorem mh {id : Nat} {a : Act} {l : List Oper} (m : cF w0 w is) (bs : List Bool) (o : List (Nat × Bool)) (hm : P.follows .mixedOrders = true) (hB : (Region.noSelect l.toArray && decide (o.length = l.length) && yL .any l.toArray o (Array.replicate l.toArray.size false)) = true)
 (hQ : ∀ c d v a w,Q (.panic c) (Act.put a d v) w → Q (.panic c) a w) {ol : List (Oper × Bool)} (hol : (o.map fun x=>((l.toArray[x.1]?).getD default,x.2)) = ol)
 (h : ∀ u,cF w0 u is → dO P l.toArray (fun u=>cF w0 u (Kw bs is)) Q ol a u) : (Code.region id l.toArray true).wp P Q a w :=
 eH o hm hB hQ hol fun u e=>⟨fun u=>cF w0 u (Kw bs is),(m.ext' e).sel bs,h u (m.ext' e)⟩
theorem Qx {id : Nat} {a : Act} {l : List Oper} (m : cF w0 w is) (bs : List Bool) (t : pB) (hm : P.follows .mixedOrders = true) (hB : (Region.noSelect l.toArray && t.ok .any l.toArray l.toArray.size (Array.replicate l.toArray.size false)) = true)
 (hQ : ∀ c d v a w,Q (.panic c) (Act.put a d v) w → Q (.panic c) a w)
 (h : ∀ u,cF w0 u is → dN P l.toArray (fun u=>cF w0 u (Kw bs is)) Q t a u) : (Code.region id l.toArray true).wp P Q a w :=
 tW t hm hB hQ fun u e=>⟨fun u=>cF w0 u (Kw bs is),(m.ext' e).sel bs,h u (m.ext' e)⟩
theorem mf1 {tl : List Oper} {i d : Nat} {T : TypeId} {cs : List Value} (m : cF w0 w is) (h : ∀ g u,cF w0 u (bI g cs T :: is) → wpList P ops Q tl (Fr (l.set d (.pointer (some ⟨g,0,none⟩))) ds) u) :
 ∀ E w',dK w w' → De w.heap.size E [⟨i,d,T,cs⟩] w' → (∀ x ∈ [(⟨i,d,T,cs⟩ : Al)],∃ v,E x.i = some v) → wpList P ops Q tl (gA E [⟨i,d,T,cs⟩] (Fr l ds)) w' :=
 acz fun u g e hg hB=>h g u (m.newB e hg hB)
end
section
variable {P : Program} {w0 : World} {is : List It} {l : List Value} {x y : Operand} {T ty : TypeId}
variable {ops : Array Oper} {Q : Act → Prop} {rest : List Oper} {d : Nat} {pos : String} {after : Array Edge} {v : Value} {ds : List Deferred}
theorem ql {a : Addr} (hx : ev l x = .pointer (some a)) (hv : ∀ u,cF w0 u is → vL P u T a v) (h : wpQuiet P ops (fun u=>cF w0 u is) Q rest (Fr (l.set d v) ds)) : wpQuiet P ops (fun u=>cF w0 u is) Q (Oper.mk (some d) (.load T x) ty pos after none :: rest) (Fr l ds) :=
 wA (fun u m=>cM hx (hv u m)) h
theorem qc {f : FuncId} {fo : Operand} {xs : Array Operand} {args : List Value} {first cap : Array Value} {a0 : Array TypeId} (hf : ev l fo = .func (.func f) first cap) (hxs : first.toList ++ xs.toList.map (ev l) ++ cap.toList = args) (hc : ∀ u,cF w0 u is → eL P f args u fun x _=>x = v)
 (h : wpQuiet P ops (fun u=>cF w0 u is) Q rest (Fr (l.set d v) ds)) : wpQuiet P ops (fun u=>cF w0 u is) Q (Oper.mk (some d) (.call { callee:=.value fo,args:=xs,argTypes:=a0 }) ty pos after none :: rest) (Fr l ds):=by
 refine wpQuiet_step fun K hK=>?_;rw [if_pos (by simp [Region.wanted])];refine ⟨v,fun w' hw=>?_,?_⟩
 · unfold Oper.quietAt
   rw [iF,lM (hc w' hw).1 hf hxs _ rfl];refine ⟨rfl,(hc w' hw).2.mono ?_⟩;rintro e w'' ⟨u,rfl,hE,rfl⟩;exact ⟨rfl,hw.ext' hE⟩
 · show K ((Fr l ds).put (some d) v)
   rw [jA];exact hK _ h
theorem sS {f : FuncId} {fo : Operand} {xs : Array Operand} {args : List Value} {first cap : Array Value} {a0 : Array TypeId} (hf : ev l fo = .func (.func f) first cap) (hxs : first.toList ++ xs.toList.map (ev l) ++ cap.toList = args) (hc : iX P f args v)
 (h : wpQuiet P ops (fun u=>cF w0 u is) Q rest (Fr (l.set d v) ds)) : wpQuiet P ops (fun u=>cF w0 u is) Q (Oper.mk (some d) (.call { callee:=.value fo,args:=xs,argTypes:=a0 }) ty pos after none :: rest) (Fr l ds):=qc hf hxs (fun u _=>hc u) h
end
end Go.Lith
namespace Go.Lith
open Go.RowKit
structure GX (w w' : World) : Prop where
 ext : dK w w'
 dr : w.drawn ≤ w'.drawn
theorem GX.grow {w w' : World} (h : GX w w') : ∃ q os,w' = Sort.grow (w.drewN q) os:=by
 refine ⟨w'.drawn - w.drawn,w'.heap.extract w.heap.size w'.heap.size,?_⟩;have e1 : w.heap ++ w'.heap.extract w.heap.size w'.heap.size = w'.heap:=by
  apply Array.ext_getElem?;intro i;rw [Array.getElem?_append];split
  · rename_i hi
    exact (Below.block h.ext i hi).symm
  · rename_i hi
    rw [Array.getElem?_extract];have:=h.ext.size;split
    · congr 1;omega
    · rw [Array.getElem?_eq_none (by omega)]
 have e2 : w.drawn + (w'.drawn - w.drawn) = w'.drawn:=by have:=h.dr;omega
 have h1:=h.ext.os;have h2:=h.ext.tape;have h3:=h.ext.output;cases w;cases w';simp only[Sort.grow,World.drewN] at *
 subst h1 h2 h3;rw [e1,e2]
structure iJ (w0 w : World) (is : List It) : Prop where
 ext : GX w0 w
 mem : cF w0 w is
def tM (P : Program) (f : FuncId) (args : List Value) (v : Value) : Prop:=∀ w,bF P f ∧ Calls P f args.toArray w fun e w'=>∃ u,e = .returned u ∧ GX w w' ∧ u = v
theorem tM.pure {P : Program} {f : FuncId} {args : List Value} {v : Value} (h : tM P f args v) : iX P f args v:=fun w=>⟨(h w).1,(h w).2.mono fun _ _ ⟨u,he,hX,hv⟩=>⟨u,he,hX.ext,hv⟩⟩
section
variable {w0 w w' : World} {is : List It}
theorem iJ.refl (w : World) : iJ w w []:=⟨⟨dK.refl w,Nat.le_refl _⟩,cF.refl w⟩
theorem iJ.go (m : iJ w0 w is) {js : List It} (h : cF w0 w' js) (d : w.drawn ≤ w'.drawn) : iJ w0 w' js:=⟨⟨h.ext,Nat.le_trans m.ext.dr d⟩,h⟩
theorem iJ.ext' (m : iJ w0 w is) (e : GX w w') : iJ w0 w' is:=m.go (m.mem.ext' e.ext) e.dr
theorem iJ.b (m : iJ w0 w is) (k : Nat) {g : Nat} {cs : List Value} {t : TypeId} (hk : is[k]? = some (bI g cs t)) : gD w g cs t:=m.mem.b k hk
end
section
variable {P : Program} {ds : List Deferred} {l : List Value} {x y : Operand} {T ty : TypeId}
variable {ops : Array Oper} {Q : Exit → Act → World → Prop} {rest : List Oper} {d : Nat} {pos : String} {after : Array Edge} {w w0 : World} {is : List It} {v : Value}
theorem ad7 {cs : List Value} (m : iJ w0 w is) (hv : (ev l x).cells = cs.toArray) (h : ∀ g u,iJ w0 u (bI g cs T :: is) → wpList P ops Q rest (Fr (l.set d (.pointer (some ⟨g,0,none⟩))) ds) u) :
 wpList P ops Q (Oper.mk (some d) (.box T x) ty pos after none :: rest) (Fr l ds) w :=
 kN (w':=w.alloc (.cells cs.toArray T)) (v:=.pointer (some ⟨w.heap.size,0,none⟩)) (fun o ho _=>by simp [execOp,ho,dD,Instr.box,newVar,newRow,hv,newObj,Sem.run]) (h _ _ (m.go (m.mem.newB ((dK.refl w).alloc _) (Nat.le_refl _) (iN w cs T)) (Nat.le_refl _)))
theorem sT {cs : List Value} (m : iJ w0 w is) (hv : ev l x = .agg cs.toArray) (h : ∀ g u,iJ w0 u (bI g cs T :: is) → wpList P ops Q rest (Fr (l.set d (.pointer (some ⟨g,0,none⟩))) ds) u) :
 wpList P ops Q (Oper.mk (some d) (.box T x) ty pos after none :: rest) (Fr l ds) w:=ad7 m (by rw [hv];rfl) h
theorem aa1 {cs : List Value} {z : Value} (m : iJ w0 w is) (hZ : mT P T z) (hv : z.cells = cs.toArray) (h : ∀ g u,iJ w0 u (bI g cs T :: is) → wpList P ops Q rest (Fr (l.set d (.pointer (some ⟨g,0,none⟩))) ds) u) :
 wpList P ops Q (Oper.mk (some d) (.alloc T) ty pos after none :: rest) (Fr l ds) w:=by
 obtain ⟨inf,hi,hz⟩:=hZ;exact kN (w':=w.alloc (.cells cs.toArray T)) (v:=.pointer (some ⟨w.heap.size,0,none⟩)) (fun o ho _=>by simp [execOp,ho,Instr.alloc,zeroValue,typeInfo,hi,hz,newVar,newRow,hv,newObj,Sem.run]) (h _ _ (m.go (m.mem.newB ((dK.refl w).alloc _) (Nat.le_refl _) (iN w cs T)) (Nat.le_refl _)))
theorem aa2 {g off : Nat} {cs us : List Value} {t : TypeId} (m : iJ w0 w is) (k : Nat) (hk : is[k]? = some (bI g cs t)) (hx : ev l x = .pointer (some ⟨g,off,none⟩)) (hv : (ev l y).cells = us.toArray) (hc : fB P T us.length) (hfit : off + us.length ≤ cs.length) (h1 : (us.all (·.oneCell')) = true)
 (h : ∀ u,iJ w0 u (is.set k (bI g (bK cs off us) t)) → wpList P ops Q rest (Fr l ds) u) : wpList P ops Q (Oper.mk none (.store T x y) ty pos after none :: rest) (Fr l ds) w:=by
 have hB:=m.b k hk;have hC:=sJ w g (bK cs off us).toArray;exact Bm (w':=w.setRow g (bK cs off us).toArray) (fun o ho=>by simp [execOp,ho,dD,hx,Instr.storeAt,Instr.sureAddr,wT hc hv hB hfit (qX h1)])
  (h _ (m.go (m.mem.put k hk hC.os hC.tape hC.output (by rw [hC.size];exact Nat.le_refl _) (fun b _ hne=>hC.block b fun e=>hne (by rw [e];rfl)) (setRow_heap w g cs.toArray _ t _ hB) (.inl fun _ h=>h)) (Nat.le_refl _)))
theorem Xo {g off : Nat} {cs us : List Value} {t : TypeId} (m : iJ w0 w is) (k : Nat) (hk : is[k]? = some (bI g cs t)) (hx : ev l x = .pointer (some ⟨g,off,none⟩)) (hv : ev l y = .agg us.toArray) (hc : fB P T us.length) (hfit : off + us.length ≤ cs.length) (h1 : (us.all (·.oneCell')) = true)
 (h : ∀ u,iJ w0 u (is.set k (bI g (bK cs off us) t)) → wpList P ops Q rest (Fr l ds) u) : wpList P ops Q (Oper.mk none (.store T x y) ty pos after none :: rest) (Fr l ds) w:=aa2 m k hk hx (by rw [hv];rfl) hc hfit h1 h
theorem Iv {f : FuncId} {fo : Operand} {xs : Array Operand} {args : List Value} {first cap : Array Value} {a0 : Array TypeId} (m : iJ w0 w is) (hf : ev l fo = .func (.func f) first cap) (hxs : first.toList ++ xs.toList.map (ev l) ++ cap.toList = args) (hc : tM P f args v)
 (h : ∀ u,iJ w0 u is → wpList P ops Q rest (Fr (l.set d v) ds) u) : wpList P ops Q (Oper.mk (some d) (.call { callee:=.value fo,args:=xs,argTypes:=a0 }) ty pos after none :: rest) (Fr l ds) w:=by
 refine wpList_plain rfl fun K hK=>?_;unfold Oper.wp;rw [iF,lM (hc w).1 hf hxs _ rfl];refine (hc w).2.mono ?_;rintro e w' ⟨u,rfl,hE,rfl⟩;show K ((Fr l ds).put (some d) u) w'
 rw [jA];exact hK _ _ (h w' (m.ext' hE))
theorem iJ.drew (m : iJ w0 w is) : iJ w0 { w with drawn:=w.drawn + 1 } is:=m.ext' ⟨(dK.refl w).drawn,Nat.le_succ _⟩
theorem Xp {id : Nat} {a : Act} {l : List Oper} (m : iJ w0 w is) (n : Nat) (hm : P.follows .mixedOrders = true) (hB : Region.lexTailB .any l.toArray n = true)
 (h : wpQuiet P l.toArray (fun u=>iJ w0 u is) (fun a'=>∀ u,iJ w0 u is → wpList P l.toArray Q (l.drop n) a' u) (l.take n) a) : (Code.region id l.toArray true).wp P Q a w :=
 kV (C:=fun u=>iJ w0 u is) n hm hB m.drew h
theorem Gmq {id : Nat} {a : Act} {l : List Oper} (m : iJ w0 w is) (hm : P.follows .mixedOrders = true) (hB : Region.lexB .any l.toArray = true)
 (h : wpQuiet P l.toArray (fun u=>iJ w0 u is) (fun a'=>∀ u,iJ w0 u is → Q .normal a' u) l a) : (Code.region id l.toArray true).wp P Q a w :=
 wp_region_quiet (C:=fun u=>iJ w0 u is) hm hB m.drew (by simpa using h)
end
section
variable {P : Program} {w0 : World} {is : List It} {l : List Value} {x y : Operand} {T ty : TypeId}
variable {ops : Array Oper} {Q : Act → Prop} {rest : List Oper} {d : Nat} {pos : String} {after : Array Edge} {v : Value} {ds : List Deferred}
theorem Gql {a : Addr} (hx : ev l x = .pointer (some a)) (hv : ∀ u,iJ w0 u is → vL P u T a v) (h : wpQuiet P ops (fun u=>iJ w0 u is) Q rest (Fr (l.set d v) ds)) : wpQuiet P ops (fun u=>iJ w0 u is) Q (Oper.mk (some d) (.load T x) ty pos after none :: rest) (Fr l ds) :=
 wA (fun u m=>cM hx (hv u m)) h
theorem Kx {f : FuncId} {fo : Operand} {xs : Array Operand} {args : List Value} {first cap : Array Value} {a0 : Array TypeId} (hf : ev l fo = .func (.func f) first cap) (hxs : first.toList ++ xs.toList.map (ev l) ++ cap.toList = args) (hc : tM P f args v)
 (h : wpQuiet P ops (fun u=>iJ w0 u is) Q rest (Fr (l.set d v) ds)) : wpQuiet P ops (fun u=>iJ w0 u is) Q (Oper.mk (some d) (.call { callee:=.value fo,args:=xs,argTypes:=a0 }) ty pos after none :: rest) (Fr l ds):=by
 refine wpQuiet_step fun K hK=>?_;rw [if_pos (by simp [Region.wanted])];refine ⟨v,fun w' hw=>?_,?_⟩
 · unfold Oper.quietAt
   rw [iF,lM (hc w').1 hf hxs _ rfl];refine ⟨rfl,(hc w').2.mono ?_⟩;rintro e w'' ⟨u,rfl,hE,rfl⟩;exact ⟨rfl,hw.ext' hE⟩
 · show K ((Fr l ds).put (some d) v)
   rw [jA];exact hK _ h
end
end Go.Lith
namespace Go.Lith
open Go.RowKit
def P3.Lt (p q : P3) : Prop:=p.x < q.x ∨ p.x = q.x ∧ (p.y < q.y ∨ p.y = q.y ∧ p.z < q.z)
instance (p q : P3) : Decidable (p.Lt q):=by unfold P3.Lt;infer_instance
def xC (p q : P3) : Int:=if p.Lt q then -1 else if q.Lt p then 1 else 0
theorem P3.eq {p q : P3} (h1 : p.x = q.x) (h2 : p.y = q.y) (h3 : p.z = q.z) : p = q:=by
 cases p;cases q;simp_all
instance : DecidableEq P3:=fun p q=>if h : p.x = q.x ∧ p.y = q.y ∧ p.z = q.z then isTrue (P3.eq h.1 h.2.1 h.2.2) else isFalse fun e=>h (by subst e;exact ⟨rfl,rfl,rfl⟩)
theorem P3.lt_irrefl (p : P3) : ¬ p.Lt p:=by unfold P3.Lt;omega
theorem P3.lt_trans {p q r : P3} (h : p.Lt q) (k : q.Lt r) : p.Lt r:=by unfold P3.Lt at *;omega
theorem P3.lt_tri (p q : P3) : p.Lt q ∨ p = q ∨ q.Lt p:=by
 by_cases h1 : p.x = q.x
 · by_cases h2 : p.y = q.y
   · by_cases h3 : p.z = q.z
     · exact .inr (.inl (P3.eq h1 h2 h3))
     · unfold P3.Lt;omega
   · unfold P3.Lt;omega
 · unfold P3.Lt;omega
theorem P3.lt_x {p q : P3} (h : ¬ p.x = q.x) : p.Lt q ↔ p.x < q.x:=by unfold P3.Lt;omega
theorem P3.lt_y {p q : P3} (h : p.x = q.x) (h2 : ¬ p.y = q.y) : p.Lt q ↔ p.y < q.y:=by unfold P3.Lt;omega
theorem P3.lt_z {p q : P3} (h : p.x = q.x) (h2 : p.y = q.y) : p.Lt q ↔ p.z < q.z:=by unfold P3.Lt;omega
end Go.Lith
namespace Go.Lith
open Go.RowKit
@[irreducible] def Ky (c : Bool) (v : Value) : Value:=if c then v else undef
theorem pA {v : Value} : Ky true v = v:=by simp [Ky]
theorem Kz {v : Value} : Ky false v = undef:=by simp [Ky]
theorem bO {c : Bool} {u v : Value} (hb : c = true) (h : u = Ky c v) : u = v:=by rw [h,hb,pA]
section
variable {P : Program} {ds : List Deferred} {l : List Value} {x y : Operand} {T ty : TypeId} {b c : Bool} {v : Value}
theorem dC {z : Operand} (hz : ev l z = .bool b) (hx : ev l x = Ky b (.bool c)) (hy : ev l y = .bool false) : gX P l (.pick z x y) ty (.bool (b && c)):=by
 have:=If (P:=P) (ty:=ty) (x:=x) (y:=y) hz;cases b with
 | false=>simpa [hy] using this
 | true=>simpa [hx,pA] using this
theorem fQ {z : Operand} (hz : ev l z = .bool b) (hx : ev l x = .bool true) (hy : ev l y = Ky (!b) (.bool c)) : gX P l (.pick z x y) ty (.bool (b || c)):=by
 have:=If (P:=P) (ty:=ty) (x:=x) (y:=y) hz;cases b with
 | false=>simpa [hy,pA] using this
 | true=>simpa [hx] using this
end
section
variable {P : Program} {ops : Array Oper} {Q : Exit → Act → World → Prop} {rest : List Oper} {d j : Nat} {op : Op} {ty : TypeId} {pos : String} {after : Array Edge} {v : Value} {b : Bool} {ds : List Deferred} {l : List Value} {w w0 : World} {is : List It}
theorem eC (hw : yielded ops l.toArray j = some b) (hr : b = true → vZ P l op ty v w) (h : wpList P ops Q rest (Fr (l.set d (Ky b v)) ds) w) : wpList P ops Q (Oper.mk (some d) op ty pos after (some (j,true)) :: rest) (Fr l ds) w:=by
 cases b with
 | false=>rw [Kz] at h;exact cN hw h
 | true=>rw [pA] at h;exact bN hw (fL (hr rfl) h)
theorem nB (hw : yielded ops l.toArray j = some b) (hr : (!b) = true → vZ P l op ty v w) (h : wpList P ops Q rest (Fr (l.set d (Ky (!b) v)) ds) w) : wpList P ops Q (Oper.mk (some d) op ty pos after (some (j,false)) :: rest) (Fr l ds) w:=by
 cases b with
 | true=>rw [Bool.not_true,Kz] at h;exact fM hw h
 | false=>rw [Bool.not_false,pA] at h;exact bN hw (fL (hr rfl) h)
theorem dF (hw : yielded ops l.toArray j = some b) (hr : b = true → gX P l op ty v) (h : wpList P ops Q rest (Fr (l.set d (Ky b v)) ds) w) : wpList P ops Q (Oper.mk (some d) op ty pos after (some (j,true)) :: rest) (Fr l ds) w:=eC hw (fun e=>hr e w) h
theorem fE (hw : yielded ops l.toArray j = some b) (hr : (!b) = true → gX P l op ty v) (h : wpList P ops Q rest (Fr (l.set d (Ky (!b) v)) ds) w) : wpList P ops Q (Oper.mk (some d) op ty pos after (some (j,false)) :: rest) (Fr l ds) w:=nB hw (fun e=>hr e w) h
end
section
variable {P : Program} {ops : Array Oper} {Q : Act → Prop} {C : World → Prop} {rest : List Oper} {d j : Nat} {op : Op} {ty : TypeId} {pos : String} {after : Array Edge} {v : Value} {b : Bool} {ds : List Deferred} {l : List Value} {w0 : World} {is : List It}
theorem jY (hw : yielded ops l.toArray j = some b) (hr : b = true → ∀ u,C u → vZ P l op ty v u) (h : wpQuiet P ops C Q rest (Fr (l.set d (Ky b v)) ds)) : wpQuiet P ops C Q (Oper.mk (some d) op ty pos after (some (j,true)) :: rest) (Fr l ds):=by
 cases b with
 | false=>rw [Kz] at h;exact aV hw h
 | true=>rw [pA] at h;exact aN hw (wA (hr rfl) h)
theorem gV (hw : yielded ops l.toArray j = some b) (hr : (!b) = true → ∀ u,C u → vZ P l op ty v u) (h : wpQuiet P ops C Q rest (Fr (l.set d (Ky (!b) v)) ds)) : wpQuiet P ops C Q (Oper.mk (some d) op ty pos after (some (j,false)) :: rest) (Fr l ds):=by
 cases b with
 | true=>rw [Bool.not_true,Kz] at h;exact dV hw h
 | false=>rw [Bool.not_false,pA] at h;exact aN hw (wA (hr rfl) h)
theorem dH (hw : yielded ops l.toArray j = some b) (hr : b = true → gX P l op ty v) (h : wpQuiet P ops C Q rest (Fr (l.set d (Ky b v)) ds)) : wpQuiet P ops C Q (Oper.mk (some d) op ty pos after (some (j,true)) :: rest) (Fr l ds):=jY hw (fun e u _=>hr e u) h
theorem dS (hw : yielded ops l.toArray j = some b) (hr : (!b) = true → gX P l op ty v) (h : wpQuiet P ops C Q rest (Fr (l.set d (Ky (!b) v)) ds)) : wpQuiet P ops C Q (Oper.mk (some d) op ty pos after (some (j,false)) :: rest) (Fr l ds):=gV hw (fun e u _=>hr e u) h
end
section
variable {P : Program} {ops : Array Oper} {S : World → Prop} {Q : Exit → Act → World → Prop} {rest : List (Oper × Bool)} {d j : Nat} {op : Op} {ty : TypeId} {pos : String} {after : Array Edge} {v : Value} {b : Bool} {ds : List Deferred} {l : List Value} {w : World}
end
end Go.Lith
namespace Go.Lith
open Go.RowKit
end Go.Lith
namespace Go.Lith
open Go.RowKit Go.ChangeShapes
variable {H : Type} {enc : TypeId × Value → H} {P : Program} {w : World} {base : Nat} {spare : Nat → Bool} {held : Bool}
def nC (P : Program) : Nat → TypeId → Bool
 | 0,_=>false
 | n + 1,t=>match P.underlying t with
  | some (.int .i64)=>decide (P.cellsOf t = 1)
  | some (.struct fs)=>(fs.toList.all fun f=>nC P n f.type) && (List.range (P.cellsOf t)).all fun i=>fs.toList.any fun f=>decide (f.offset ≤ i) && decide (i < f.offset + P.cellsOf f.type)
  | some (.array m e)=>nC P n e && decide (P.cellsOf t = m * P.cellsOf e)
  | _=>false
theorem Xq {n : Int} (h : (Lit.int .i64 n).wf = true) : oJ n:=by
 have:=bounds_i64 h;exact ⟨by omega,by omega⟩
theorem pC : ∀ (n : Nat) (t : TypeId) (m : Nat) (cs : List Value) (x : DataW H × List MemPlace),nC P n t = true → DataW.trod enc P w base spare held m t cs = some x →
 cs.length = P.cellsOf t ∧ ∀ v ∈ cs,∃ z,v = .int .i64 z ∧ oJ z
 | 0,t,m,cs,x,h,_=>by cases h
 | n + 1,t,m,cs,x,h,hx=>by
  unfold nC at h;split at h
  · rename_i hu
    obtain ⟨z,rfl,_,hz⟩:=DataW.trod_int hu hx;refine ⟨by rw [of_decide_eq_true h];rfl,fun v hv=>⟨z,by simpa using hv,Xq hz⟩⟩
  · rename_i fs hu
    simp only[Bool.and_eq_true,List.all_eq_true,List.any_eq_true,decide_eq_true_eq,List.mem_range] at h;obtain ⟨ys,k,_,_,hl,hlen,hf⟩:=DataW.trod_struct hu hx;refine ⟨hl,fun v hv=>?_⟩;obtain ⟨i,hi,rfl⟩:=List.getElem_of_mem hv;obtain ⟨f,hfm,h1,h2⟩:=h.2 i (by rw [← hl];exact hi);obtain ⟨j,hj,rfl⟩:=List.getElem_of_mem hfm;have hj' : j < fs.size:=by simpa using hj
    have:=hf j fs[j] (Array.getElem?_eq_getElem hj');rw [List.getElem?_eq_getElem (by rw [hlen];exact hj')] at this;have hr:=(pC n _ _ _ _ (h.1 _ (List.getElem_mem hj)) this).2;refine hr _ ?_;simp only[Array.getElem_toList] at h1 h2;refine List.mem_of_getElem? (i:=i - fs[j].offset) ?_;rw [List.getElem?_take,if_pos (by omega),List.getElem?_drop,show fs[j].offset + (i - fs[j].offset) = i by omega];exact List.getElem?_eq_getElem hi
  · rename_i q e hu
    simp only[Bool.and_eq_true,decide_eq_true_eq] at h;obtain ⟨ys,k,_,_,hl,hlen,hf⟩:=DataW.trod_array hu hx;refine ⟨hl,fun v hv=>?_⟩;obtain ⟨i,hi,rfl⟩:=List.getElem_of_mem hv;rw [hl,h.2] at hi;have hc : 0 < P.cellsOf e:=by
     rcases Nat.eq_zero_or_pos (P.cellsOf e) with h0 | h0
     · rw [h0] at hi;omega
     · exact h0
    have hq : i / P.cellsOf e < q:=Nat.div_lt_of_lt_mul (by rw [Nat.mul_comm];exact hi);have:=hf _ hq;rw [List.getElem?_eq_getElem (by rw [hlen];exact hq)] at this;have hr:=(pC n _ _ _ _ h.1 this).2;refine hr _ (List.mem_of_getElem? (i:=i % P.cellsOf e) ?_);rw [List.getElem?_take,if_pos (Nat.mod_lt _ hc),List.getElem?_drop,Nat.mul_comm,Nat.div_add_mod];exact List.getElem?_eq_getElem _
  · cases h
theorem yR : ∀ (n : Nat) (cs : List Value),cs.length = n → (∀ v ∈ cs,∃ z,v = .int .i64 z ∧ oJ z) → ∃ zs : List Int,zs.length = n ∧ cs = zs.map (.int .i64 ·) ∧ ∀ z ∈ zs,oJ z
 | 0,[],_,_=>⟨[],rfl,rfl,fun _ h=>by cases h⟩
 | n + 1,v :: vs,h,hv=>by
  obtain ⟨zs,h1,h2,h3⟩:=yR n vs (by simpa using h) (fun u hu=>hv u (by simp [hu]));obtain ⟨z,rfl,hz⟩:=hv v (by simp);exact ⟨z :: zs,by simp [h1],by simp [h2],fun u hu=>by rcases List.mem_cons.1 hu with rfl | hu;exact hz;exact h3 _ hu⟩
theorem Th {r : Reach} {b0 n m : Nat} {t : TypeId} {v : Value} {d : DataW H} {p : List MemPlace} (ha : gW P t true) (hi : nC P n t = true) (hc : P.cellsOf t = m) (hv : Value.okWide P w r b0 t v) (h : DataW.Trod enc P w base spare held t v d p) :
 ∃ zs : List Int,zs.length = m ∧ v = .agg (zs.map (.int .i64 ·)).toArray ∧ ∀ z ∈ zs,oJ z:=by
 obtain ⟨dd,hu,hd⟩:=ha;obtain ⟨fuel,hf⟩:=h;unfold Value.okWide at hv;rw [hu] at hv;have : ∃ cs,v = .agg cs:=by
  cases dd <;> first | (obtain ⟨cs,rfl,_⟩:=hv;exact ⟨cs,rfl⟩) | (cases hd)
 obtain ⟨cs,rfl⟩:=this;obtain ⟨h1,h2⟩:=pC n t fuel _ _ hi hf;obtain ⟨zs,h3,h4,h5⟩:=yR m cs.toList (by rw [← hc];exact h1) h2;exact ⟨zs,h3,by rw [← h4],h5⟩
theorem three {zs : List Int} (h : zs.length = 3) : ∃ a b c,zs = [a,b,c]:=by
 match zs,h with
 | [a,b,c],_=>exact ⟨a,b,c,rfl⟩
theorem aa3 {r : Reach} {b0 n : Nat} {t : TypeId} {v : Value} {d : DataW H} {p : List MemPlace} (ha : gW P t true) (hi : nC P n t = true) (hc : P.cellsOf t = 3) (hv : Value.okWide P w r b0 t v) (h : DataW.Trod enc P w base spare held t v d p) : ∃ q : P3,I3 q ∧ v = pt q:=by
 obtain ⟨zs,h1,rfl,h2⟩:=Th ha hi hc hv h;obtain ⟨a,b,c,rfl⟩:=three h1;exact ⟨⟨a,b,c⟩,⟨h2 _ (by simp),h2 _ (by simp),h2 _ (by simp)⟩,rfl⟩
theorem Om {a : Addr} {n : Nat} {cs : List Value} (h : w.cells? base a n = some cs) : jL w a cs ∧ base ≤ a.block:=by
 unfold World.cells? at h;split at h
 · rename_i hb
   refine ⟨fun j u hj=>?_,hb⟩;have hl:=mapM_some_length h;have hj' : j < cs.length:=(List.getElem?_eq_some_iff.1 hj).1;rw [hl] at hj';have:=mapM_some_get h j j (List.getElem?_eq_getElem hj' ▸ by simp);rw [this,hj]
 · cases h
theorem Ti {n m : Nat} {t e : TypeId} {fuel : Nat} {cs : List Value} {x : DataW H × List MemPlace} (hu : P.underlying t = some (.slice e)) (hi : nC P n e = true) (hc : P.cellsOf e = m) (h : DataW.trod enc P w base spare held fuel t cs = some x) :
 ∃ (A : Option Addr) (len cap : Nat),cs = [.slice A len cap] ∧ len ≤ cap ∧ cap ≤ maxLen ∧ (A = none → len = 0) ∧ ∀ i,i < len → ∃ (a : Addr) (zs : List Int),A = some a ∧ base ≤ a.block ∧ jL w (a.add (i * m)) (zs.map (Value.int .i64 ·)) ∧ zs.length = m ∧ ∀ z ∈ zs,oJ z:=by
 rcases Deep.open_slice hu h with ⟨rfl,_⟩ | ⟨a,len,cap,k,q,D,Pl,rfl,hb,hl,hm,hk,_,hx⟩
 · exact ⟨none,0,0,rfl,Nat.le_refl _,Nat.zero_le _,fun _=>rfl,fun i hi=>absurd hi (Nat.not_lt_zero _)⟩
 · refine ⟨some a,len,cap,rfl,hl,hm,fun h=>(by cases h),fun i hi'=>?_⟩
   obtain ⟨cs',h1,h2⟩:=hx i (by rw [hk];split <;> omega);obtain ⟨h3,h4⟩:=pC n e q _ _ hi h2;obtain ⟨zs,h5,rfl,h6⟩:=yR m cs' (by rw [← hc];exact h3) h4;rw [hc] at h1;exact ⟨a,zs,rfl,hb,(Om h1).1,h5,h6⟩
theorem An {α : Type} {p : Nat → α → Prop} : ∀ (n : Nat),(∀ i,i < n → ∃ x,p i x) → ∃ l : List α,l.length = n ∧ ∀ i x,l[i]? = some x → p i x
 | 0,_=>⟨[],rfl,fun i x h=>by simp at h⟩
 | n + 1,h=>by
  obtain ⟨l,h1,h2⟩:=An n (fun i hi=>h i (by omega));obtain ⟨x,hx⟩:=h n (by omega);refine ⟨l ++ [x],by simp [h1],fun i y hy=>?_⟩;rcases Nat.lt_trichotomy i n with hi | hi | hi
  · exact h2 i y (by rwa [List.getElem?_append_left (by omega)] at hy)
  · subst hi
    rw [List.getElem?_append_right (by omega),h1,Nat.sub_self] at hy;cases hy;exact hx
  · rw [List.getElem?_append_right (by omega),h1] at hy
    have : i - n ≠ 0:=by omega
    cases hd : i - n with
    | zero=>omega
    | succ j=>rw [hd] at hy;simp at hy
structure pU (w : World) (A : Option Addr) (n : Nat) (zs : List Int) : Prop where
 len : zs.length = n
 it : ∀ z ∈ zs,oJ z
 row : ∀ i z,zs[i]? = some z → ∃ a,A = some a ∧ w.cell? (a.add i) = some (.int .i64 z)
theorem pU.ext {w' : World} {A : Option Addr} {n : Nat} {zs : List Int} (h : pU w A n zs) (hE : dK w w') : pU w' A n zs :=
 ⟨h.len,h.it,fun i z hi=>let ⟨a,e,hr⟩:=h.row i z hi;⟨a,e,hE.cell hr⟩⟩
theorem pU.get {A : Option Addr} {n : Nat} {zs : List Int} (h : pU w A n zs) {i : Nat} (hi : i < n) : ∃ z,zs[i]? = some z ∧ Iw z ∧ ∃ a,A = some a ∧ w.cell? (a.add i) = some (.int .i64 z):=by
 have hl : i < zs.length:=by rw [h.len];exact hi
 exact ⟨zs[i],List.getElem?_eq_getElem hl,⟨h.it _ (List.getElem_mem hl)⟩,h.row i _ (List.getElem?_eq_getElem hl)⟩
theorem On {n : Nat} {t e : TypeId} {fuel : Nat} {cs : List Value} {x : DataW H × List MemPlace} (hu : P.underlying t = some (.slice e)) (hi : nC P n e = true) (hc : P.cellsOf e = 1) (h : DataW.trod enc P w base spare held fuel t cs = some x) :
 ∃ (A : Option Addr) (len cap : Nat) (zs : List Int),cs = [.slice A len cap] ∧ len ≤ cap ∧ cap ≤ maxLen ∧ (A = none → len = 0) ∧ pU w A len zs:=by
 obtain ⟨A,len,cap,rfl,h1,h2,h3,h4⟩:=Ti hu hi hc h;obtain ⟨zs,h5,h6⟩:=An (p:=fun i (z : Int)=>oJ z ∧ ∃ a,A = some a ∧ w.cell? (a.add i) = some (.int .i64 z)) len (fun i hi=>by
  obtain ⟨a,zs,rfl,_,hr,hl,hz⟩:=h4 i hi
  match zs,hl with
  | [z],_=>exact ⟨z,hz _ (by simp),a,rfl,by have:=hr 0 _ rfl;rwa [Nat.mul_one,jV,Nat.add_zero] at this⟩)
 refine ⟨A,len,cap,zs,rfl,h1,h2,h3,h5,fun z hz=>?_,fun i z hz=>(h6 i z hz).2⟩;obtain ⟨i,hi,rfl⟩:=List.getElem_of_mem hz;exact (h6 i _ (List.getElem?_eq_getElem hi)).1
end Go.Lith
namespace Go.Lith
open Go.RowKit
theorem Xr {n m : Int} (hm : 0 < m) : -m < n.tmod m ∧ n.tmod m < m:=by
 have h1:=Int.tmod_lt_of_pos n hm;have h2:=Int.tmod_lt_of_pos (-n) hm;rw [Int.neg_tmod] at h2;omega
theorem Qy {n m : Int} (hm : 0 < m) : (n.tmod m + m).tmod m = n % m:=by
 have hb:=Xr (n:=n) hm;rw [Int.tmod_eq_emod_of_nonneg (by omega)];rcases Int.le_total 0 n with h | h
 · rw [Int.tmod_eq_emod_of_nonneg h]
   simp
 · have e : n.tmod m = -((-n) % m):=by
    rw [← Int.tmod_eq_emod_of_nonneg (show 0 ≤ -n by omega),Int.neg_tmod,Int.neg_neg]
   rw [e,Int.add_emod_right];have h2:=Int.emod_add_mul_ediv (-n) m;have h3 : -((-n) % m) = n + m * (-n / m):=by omega
   rw [h3,Int.add_mul_emod_self_left]
theorem uZ {n m : Int} (hm : 0 < m) : 0 ≤ n % m ∧ n % m < m:=⟨Int.emod_nonneg _ (by omega),Int.emod_lt_of_pos _ hm⟩
/-! ### Hills -/
def Vz (zs : List Int) (x y : Nat) : Int:=(zs[(y * 7 + x) % zs.length]?.getD 0) % 64
theorem acB (zs : List Int) (x y : Nat) : 0 ≤ Vz zs x y ∧ Vz zs x y < 64:=uZ (by decide)
def jP (s : Int) (zs : List Int) (x y : Nat) : P3:=⟨(x : Int) * s,(y : Int) * s,100 + Vz zs x y⟩
def qM (a b c d : P3) : List T3:=[⟨a,b,c⟩,⟨a,c,d⟩]
def Dg (s : Int) (zs : List Int) (y x : Nat) : List T3:=qM (jP s zs x y) (jP s zs (x + 1) y) (jP s zs (x + 1) (y + 1)) (jP s zs x (y + 1))
def fJ (s : Int) (zs : List Int) (n y x : Nat) : List T3:=((List.range y).flatMap fun y=>(List.range n).flatMap (Dg s zs y)) ++ (List.range x).flatMap (Dg s zs y)
def kX (s : Int) (zs : List Int) (n : Nat) : List T3:=(List.range n).flatMap fun y=>(List.range n).flatMap (Dg s zs y)
theorem pD {s : Int} {zs : List Int} {n : Nat} : fJ s zs n n 0 = kX s zs n:=by simp [fJ,kX]
theorem Ix {s : Int} {zs : List Int} {n y : Nat} : fJ s zs n y n = fJ s zs n (y + 1) 0:=by
 simp [fJ,List.range_succ,List.flatMap_append]
theorem Fz {s : Int} {zs : List Int} {n y x : Nat} : fJ s zs n y (x + 1) = fJ s zs n y x ++ Dg s zs y x:=by
 simp [fJ,List.range_succ,List.flatMap_append]
theorem oL {α β : Type} {f : α → List β} {k : Nat} : ∀ (l : List α),(∀ x ∈ l,(f x).length = k) → (l.flatMap f).length = l.length * k
 | [],_=>by simp
 | x :: l,h=>by
  rw [List.flatMap_cons,List.length_append,h x (by simp),oL l (fun y hy=>h y (by simp [hy])),List.length_cons,Nat.add_mul,Nat.one_mul,Nat.add_comm]
theorem lX {s : Int} {zs : List Int} {n y x : Nat} : (fJ s zs n y x).length = y * (n * 2) + x * 2:=by
 unfold fJ;rw [List.length_append,oL (k:=n * 2) _ (fun y _=>by rw [oL (k:=2) _ (fun _ _=>rfl),List.length_range]),oL (k:=2) _ (fun _ _=>rfl),List.length_range,List.length_range]
def Sm (k : Int) (p : P3) : Prop:=(0 ≤ p.x ∧ p.x ≤ k) ∧ (0 ≤ p.y ∧ p.y ≤ k) ∧ (0 ≤ p.z ∧ p.z ≤ k)
def SmT (k : Int) (t : T3) : Prop:=Sm k t.a ∧ Sm k t.b ∧ Sm k t.c
theorem Qz {k : Int} {a b c d : P3} (ha : Sm k a) (hb : Sm k b) (hc : Sm k c) (hd : Sm k d) : ∀ t ∈ qM a b c d,SmT k t:=fun t ht=>by
 simp only[qM,List.mem_cons,List.not_mem_nil,or_false] at ht;rcases ht with rfl | rfl
 · exact ⟨ha,hb,hc⟩
 · exact ⟨ha,hc,hd⟩
theorem xD {zs : List Int} {x y : Nat} (hx : x ≤ 6) (hy : y ≤ 6) : Sm 200 (jP 10 zs x y):=by
 have:=acB zs x y;simp only[Sm,jP];omega
theorem La {zs : List Int} {x y : Nat} (hx : x < 6) (hy : y < 6) : ∀ t ∈ Dg 10 zs y x,SmT 200 t :=
 Qz (xD (by omega) (by omega)) (xD (by omega) (by omega)) (xD (by omega) (by omega)) (xD (by omega) (by omega))
theorem Lb {zs : List Int} {n x y : Nat} (hn : n ≤ 6) (hx : x ≤ 6) (hy : y ≤ 6) (hxy : x = 0 ∨ y < 6) : ∀ t ∈ fJ 10 zs n y x,SmT 200 t:=fun t ht=>by
 rcases List.mem_append.1 ht with h | h
 · obtain ⟨v,hv,h⟩:=List.mem_flatMap.1 h
   obtain ⟨u,hu,h⟩:=List.mem_flatMap.1 h;exact La (by have:=List.mem_range.1 hu;omega) (by have:=List.mem_range.1 hv;omega) t h
 · obtain ⟨u,hu,h⟩:=List.mem_flatMap.1 h
   have:=List.mem_range.1 hu;exact La (by omega) (by omega) t h
/-! ### Cubes -/
def dI (p : P3) (s : Int) (n : Nat) : P3:=⟨p.x + ((n % 2 : Nat) : Int) * s,p.y + ((n / 2 % 2 : Nat) : Int) * s,p.z + ((n / 4 : Nat) : Int) * s⟩
def uA (p : P3) (s : Int) : List T3:=qM (dI p s 0) (dI p s 2) (dI p s 3) (dI p s 1) ++ qM (dI p s 4) (dI p s 5) (dI p s 7) (dI p s 6) ++ qM (dI p s 0) (dI p s 1) (dI p s 5) (dI p s 4)
 ++ qM (dI p s 2) (dI p s 6) (dI p s 7) (dI p s 3) ++ qM (dI p s 0) (dI p s 4) (dI p s 6) (dI p s 2) ++ qM (dI p s 1) (dI p s 3) (dI p s 7) (dI p s 5)
theorem pE (p : P3) (s : Int) : (uA p s).length = 12:=rfl
def vP (n : Nat) : P3:=⟨4 + ((n % 3 : Nat) : Int) * 8,5 + ((n / 3 % 3 : Nat) : Int) * 8,6 + ((n / 9 : Nat) : Int) * 8⟩
def stx (f : Nat) : Int:=if f = 4 then -1 else if f = 5 then 1 else 0
def sty (f : Nat) : Int:=if f = 2 then -1 else if f = 3 then 1 else 0
def stz (f : Nat) : Int:=if f = 0 then -1 else if f = 1 then 1 else 0
def Bi (b : Nat) (n : Nat) : Bool:=decide (b / 2 ^ n % 2 = 1)
def xE (b n f : Nat) : Bool :=
 let u:=((n % 3 : Nat) : Int) + stx f
 let v:=((n / 3 % 3 : Nat) : Int) + sty f
 let w:=((n / 9 : Nat) : Int) + stz f
 !(decide (0 ≤ u) && decide (u < 3) && decide (0 ≤ v) && decide (v < 3) && decide (0 ≤ w) && decide (w < 3)) || !Bi b ((w * 3 + v) * 3 + u).toNat
def vR (n f : Nat) : List T3:=((uA (vP n) 8).drop (2 * f)).take 2
def oW (b n f : Nat) : List T3:=(List.range f).flatMap fun f=>if xE b n f then vR n f else []
def iB (b n f : Nat) : List T3:=((List.range n).flatMap fun n=>if Bi b n then oW b n 6 else []) ++ oW b n f
def Tj (b : Nat) : List T3:=(List.range 27).flatMap fun n=>if Bi b n then oW b n 6 else []
theorem Dh {b : Nat} : iB b 27 0 = Tj b:=by simp [iB,Tj,oW]
theorem Oo {b n : Nat} (h : Bi b n = true) : iB b n 6 = iB b (n + 1) 0:=by
 simp [iB,List.range_succ (n:=n),List.flatMap_append,h,oW]
theorem Tk {b n : Nat} (h : Bi b n = false) : iB b n 0 = iB b (n + 1) 0:=by
 simp [iB,List.range_succ (n:=n),List.flatMap_append,h,oW]
theorem Gt {b n f : Nat} (h : xE b n f = true) : iB b n (f + 1) = iB b n f ++ vR n f:=by
 simp [iB,oW,List.range_succ (n:=f),List.flatMap_append,h]
theorem Oq {b n f : Nat} (h : xE b n f = false) : iB b n (f + 1) = iB b n f:=by
 simp [iB,oW,List.range_succ (n:=f),List.flatMap_append,h]
/-! ### What the walks ask for -/
theorem Ra {k c : Nat} : (k : Int).tmod (c : Int) = ((k % c : Nat) : Int):=rfl
theorem ad8 {b : Nat} {n : Int} (h0 : 0 ≤ n) (h : n ≤ 63) : (b : Int).fdiv (2 ^ (min n.toNat IntKind.i64.bits)) = ((b / 2 ^ n.toNat : Nat) : Int):=by
 have e : min n.toNat IntKind.i64.bits = n.toNat:=Nat.min_eq_left (by show n.toNat ≤ 64;omega);rw [e,Int.fdiv_eq_ediv_of_nonneg _ (by exact Int.le_of_lt (Int.pow_pos (by decide)))];simp
theorem ad9 {x : Nat} (h : x < 9223372036854775808) : IntKind.i64.wrap ((BitVec.ofInt IntKind.i64.bits (x : Int) &&& BitVec.ofInt IntKind.i64.bits 1).toNat : Int) = ((x % 2 : Nat) : Int):=by
 have e : (BitVec.ofInt IntKind.i64.bits (x : Int) &&& BitVec.ofInt IntKind.i64.bits 1).toNat = x % 2:=by
  show (BitVec.ofInt 64 (x : Int) &&& BitVec.ofInt 64 1).toNat = x % 2
  rw [BitVec.toNat_and,BitVec.toNat_ofInt,BitVec.toNat_ofInt];have h1 : ((x : Int) % ((2 ^ 64 : Nat) : Int)).toNat = x:=by
   have : ((2 ^ 64 : Nat) : Int) = 18446744073709551616:=rfl;rw [this];omega
  have h2 : ((1 : Int) % ((2 ^ 64 : Nat) : Int)).toNat = 1:=rfl;rw [h1,h2,Nat.and_one_is_mod]
 rw [e];exact aM (by omega) (by omega)
theorem Xs {b n : Nat} (h : b < 134217728) : b / 2 ^ n < 9223372036854775808:=Nat.lt_of_le_of_lt (Nat.div_le_self _ _) (by omega)
theorem Xt {zs : List Int} {x y N : Nat} {z : Int} (hl : zs.length = N) (hz : zs[(y * 7 + x) % N]? = some z) : Vz zs x y = z % 64:=by
 unfold Vz;rw [hl,hz];rfl
theorem aa4 {zs : List Int} {x y N : Nat} (hl : zs.length = N) (h : ¬ (0 : Int) < (N : Int)) : Vz zs x y = 0:=by
 have : zs = []:=List.eq_nil_of_length_eq_zero (by omega);subst this;rfl
theorem Xu {s : Int} {zs : List Int} {n y x : Nat} : (fJ s zs n y x).flatMap bQ ++ (qM (jP s zs x y) (jP s zs (x + 1) y) (jP s zs (x + 1) (y + 1)) (jP s zs x (y + 1))).flatMap bQ = (fJ s zs n y (x + 1)).flatMap bQ:=by
 rw [Fz,List.flatMap_append];rfl
theorem Xv {s : Int} {zs : List Int} {n y x : Nat} {a b c d : P3} : (fJ s zs n y x).length + (qM a b c d).length = (fJ s zs n y (x + 1)).length:=by
 rw [lX,lX];show _ + 2 = _
 omega
theorem uB {s : Int} {zs : List Int} {n y x : Nat} (hn : n ≤ 6) (hy : y ≤ 6) (hx : x ≤ 6) : (fJ s zs n y x).length ≤ 84:=by
 rw [lX];have : y * (n * 2) ≤ 6 * (6 * 2):=Nat.mul_le_mul hy (by omega);omega
theorem Tl {zs : List Int} {n : Nat} (hn : n ≤ 6) : ∀ t ∈ kX 10 zs n,SmT 200 t:=by
 rw [← pD];exact Lb hn (by omega) hn (.inl rfl)
theorem Tm {s : Int} {zs : List Int} {n : Nat} (hn : n ≤ 6) : (kX s zs n).length ≤ 84:=by
 rw [← pD];exact uB hn hn (by omega)
def TS (E : TypeId) (ts : List T3) (w : World) (v : Value) (w' : World) : Prop:=∃ A cap n,n = ts.length ∧ v = .slice A n cap ∧ Ow w w' [] E 9 A n cap (ts.flatMap bQ)
theorem Ow.tri {w0 w : World} {S : List (Option Nat)} {E : TypeId} {n cap g i : Nat} {ts : List T3} {t : T3} (h : Ow w0 w S E 9 (Option.some ⟨g,0,none⟩) n cap (ts.flatMap bQ)) (ht : ts[i]? = Option.some t) : jL w ((⟨g,0,none⟩ : Addr).add (i * 9)) [.int .i64 t.a.x,.int .i64 t.a.y,.int .i64 t.a.z,.int .i64 t.b.x,.int .i64 t.b.y,.int .i64 t.b.z,.int .i64 t.c.x,.int .i64 t.c.y,.int .i64 t.c.z]:=by
 show jL w _ (bQ t)
 intro j u hj;have hj' : j < (bQ t).length:=(List.getElem?_eq_some_iff.1 hj).1;rw [jV];refine h.rows _ _ ?_;rw [← List.getElem?_drop,yQ ts i t ht,List.getElem?_append_left hj'];exact hj
theorem ab6 {n : Nat} (h : n < 27) : Sm 100 (vP n):=by
 simp only[Sm,vP];omega
theorem Xw {p : P3} {n : Nat} (h : Sm 100 p) (hn : n < 8) : Sm 200 (dI p 8 n):=by
 simp only[Sm,dI] at h ⊢;omega
theorem Xx {p : P3} (h : Sm 100 p) : ∀ t ∈ uA p 8,SmT 200 t:=fun t ht=>by
 have c : ∀ n,n < 8 → Sm 200 (dI p 8 n):=fun n hn=>Xw h hn;simp only[uA,List.mem_append] at ht;rcases ht with ((((ht | ht) | ht) | ht) | ht) | ht <;> exact Qz (c _ (by decide)) (c _ (by decide)) (c _ (by decide)) (c _ (by decide)) t ht
theorem Xy {n f : Nat} (h : n < 27) : ∀ t ∈ vR n f,SmT 200 t:=fun t ht=>Xx (ab6 h) t (List.mem_of_mem_drop (List.mem_of_mem_take ht))
theorem Tn {b n f : Nat} (h : n < 27) : ∀ t ∈ oW b n f,SmT 200 t:=fun t ht=>by
 obtain ⟨k,_,h2⟩:=List.mem_flatMap.1 ht;split at h2
 · exact Xy h t h2
 · cases h2
theorem aa5 {b : Nat} : ∀ t ∈ Tj b,SmT 200 t:=fun t ht=>by
 obtain ⟨k,hk,h2⟩:=List.mem_flatMap.1 ht;split at h2
 · exact Tn (List.mem_range.1 hk) t h2
 · cases h2
theorem wG {α β : Type} {f : α → List β} {k : Nat} : ∀ (l : List α),(∀ x ∈ l,(f x).length ≤ k) → (l.flatMap f).length ≤ l.length * k
 | [],_=>by simp
 | x :: l,h=>by
  have h1:=h x (by simp);have h2:=wG l (fun y hy=>h y (by simp [hy]));rw [List.flatMap_cons,List.length_append,List.length_cons,Nat.add_mul,Nat.one_mul];omega
theorem Xz {n f : Nat} : (vR n f).length ≤ 2:=by unfold vR;rw [List.length_take];omega
theorem Gu {b n f : Nat} : (oW b n f).length ≤ f * 2:=by
 have:=wG (f:=fun f=>if xE b n f then vR n f else []) (k:=2) (List.range f) (fun x _=>by
  show (if xE b n x = true then vR n x else []).length ≤ 2
  split
  · exact Xz
  · exact Nat.zero_le _)
 rwa [List.length_range] at this
theorem yS {b n f : Nat} (hn : n ≤ 27) (hf : f ≤ 6) : (iB b n f).length ≤ 400:=by
 have h1:=wG (f:=fun n=>if Bi b n then oW b n 6 else []) (k:=12) (List.range n) (fun x _=>by
  show (if Bi b x = true then oW b x 6 else []).length ≤ 12
  split
  · exact Gu
  · exact Nat.zero_le _)
 have h2:=Gu (b:=b) (n:=n) (f:=f);rw [List.length_range] at h1;unfold iB;rw [List.length_append];omega
theorem aa6 {b : Nat} : (Tj b).length ≤ 400:=by
 rw [← Dh];exact yS (by omega) (by omega)
def vA : List Value:=[.int .i64 0,.int .i64 0,.int .i64 (-1),.int .i64 0,.int .i64 0,.int .i64 1,.int .i64 0,.int .i64 (-1),.int .i64 0,.int .i64 0,.int .i64 1,.int .i64 0,.int .i64 (-1),.int .i64 0,.int .i64 0,.int .i64 1,.int .i64 0,.int .i64 0]
theorem Di {f : Nat} (h : f < 6) : f = 0 ∨ f = 1 ∨ f = 2 ∨ f = 3 ∨ f = 4 ∨ f = 5:=by omega
theorem aea {f : Nat} (h : f < 6) : vA[f * 3]? = some (.int .i64 (stx f)):=by rcases Di h with rfl | rfl | rfl | rfl | rfl | rfl <;> rfl
theorem aeb {f : Nat} (h : f < 6) : vA[f * 3 + 1]? = some (.int .i64 (sty f)):=by rcases Di h with rfl | rfl | rfl | rfl | rfl | rfl <;> rfl
theorem aec {f : Nat} (h : f < 6) : vA[f * 3 + 2]? = some (.int .i64 (stz f)):=by rcases Di h with rfl | rfl | rfl | rfl | rfl | rfl <;> rfl
theorem aed (f : Nat) : (-1 ≤ stx f ∧ stx f ≤ 1) ∧ (-1 ≤ sty f ∧ sty f ≤ 1) ∧ (-1 ≤ stz f ∧ stz f ≤ 1):=by
 unfold stx sty stz
 repeat' split
 all_goals omega
theorem vin {u v w : Int} (hb : (!(!(decide (0 ≤ u) && decide (u < 3) && decide (0 ≤ v) && decide (v < 3) && decide (0 ≤ w) && decide (w < 3)))) = true) : (0 ≤ u ∧ u < 3) ∧ (0 ≤ v ∧ v < 3) ∧ 0 ≤ w ∧ w < 3:=by
 simp only[Bool.not_not,Bool.and_eq_true,decide_eq_true_eq] at hb;omega
theorem Lc {b n f : Nat} : (!(decide ((0 : Int) ≤ ((n % 3 : Nat) : Int) + stx f) && decide (((n % 3 : Nat) : Int) + stx f < 3) && decide ((0 : Int) ≤ ((n / 3 % 3 : Nat) : Int) + sty f) && decide (((n / 3 % 3 : Nat) : Int) + sty f < 3) && decide ((0 : Int) ≤ ((n / 9 : Nat) : Int) + stz f) && decide (((n / 9 : Nat) : Int) + stz f < 3)) ||
 decide (((b / 2 ^ (((((n / 9 : Nat) : Int) + stz f) * 3 + (((n / 3 % 3 : Nat) : Int) + sty f)) * 3 + (((n % 3 : Nat) : Int) + stx f)).toNat % 2 : Nat) : Int) = 0)) = xE b n f:=by
 unfold xE Bi;simp only
 congr 1
 rw [← decide_not]
 congr 1
 apply propext;constructor <;> intro h <;> omega
theorem Ya {n f : Nat} (h : f < 6) : ∃ t u,(uA (vP n) 8)[2 * f]? = some t ∧ (uA (vP n) 8)[2 * f + 1]? = some u ∧ vR n f = [t,u]:=by
 have h1 : 2 * f < (uA (vP n) 8).length:=by rw [pE];omega
 have h2 : 2 * f + 1 < (uA (vP n) 8).length:=by rw [pE];omega
 refine ⟨_,_,List.getElem?_eq_getElem h1,List.getElem?_eq_getElem h2,?_⟩;unfold vR;rw [List.drop_eq_getElem_cons h1,List.drop_eq_getElem_cons h2];rfl
theorem To {b n f : Nat} {t u : T3} (hp : vR n f = [t,u]) (h : xE b n f = true) : (iB b n f).flatMap bQ ++ [.int .i64 t.a.x,.int .i64 t.a.y,.int .i64 t.a.z,.int .i64 t.b.x,.int .i64 t.b.y,.int .i64 t.b.z,.int .i64 t.c.x,.int .i64 t.c.y,.int .i64 t.c.z,.int .i64 u.a.x,.int .i64 u.a.y,.int .i64 u.a.z,.int .i64 u.b.x,.int .i64 u.b.y,.int .i64 u.b.z,.int .i64 u.c.x,.int .i64 u.c.y,.int .i64 u.c.z] = (iB b n (f + 1)).flatMap bQ:=by
 rw [Gt h,List.flatMap_append,hp];rfl
theorem Rb {b n f : Nat} (hf : f < 6) (h : xE b n f = true) : (iB b n f).length + 2 = (iB b n (f + 1)).length:=by
 obtain ⟨t,u,_,_,hp⟩:=Ya (n:=n) hf;rw [Gt h,List.length_append,hp];rfl
def vS (kind bits : Int) (zs : List Int) : List T3:=if kind % 3 = 0 then Tj (bits % 134217728).toNat else kX 10 zs (1 + kind.tdiv 3 % 6).toNat
theorem Ld {z : Int} (h : oJ z) : IntKind.i64.wrap (z.tdiv 3) = z.tdiv 3 ∧ oJ (z.tdiv 3):=by
 obtain ⟨h1,h2⟩:=h;have hb : -9223372036854775808 ≤ z.tdiv 3 ∧ z.tdiv 3 < 9223372036854775808:=by
  rcases Int.le_total 0 z with hz | hz
  · rw [Int.tdiv_eq_ediv_of_nonneg hz];omega
  · have e : z.tdiv 3 = -((-z) / 3):=by
     rw [← Int.tdiv_eq_ediv_of_nonneg (show 0 ≤ -z by omega),Int.neg_tdiv,Int.neg_neg]
    rw [e];omega
 exact ⟨aM hb.1 hb.2,hb⟩
theorem Yb {kind bits : Int} {zs : List Int} : ∀ t ∈ vS kind bits zs,SmT 200 t:=by
 unfold vS;split
 · exact aa5
 · exact Tl (by omega)
theorem Yc {kind bits : Int} {zs : List Int} : (vS kind bits zs).length ≤ 400:=by
 unfold vS;split
 · exact aa6
 · exact Nat.le_trans (Tm (by omega)) (by decide)
end Go.Lith
namespace Go.Lith
open Go.RowKit
def T3.cor (t : T3) (c : Nat) : P3:=if c = 0 then t.a else if c = 1 then t.b else t.c
def T3.setC (t : T3) (c : Nat) (p : P3) : T3:=if c = 0 then ⟨p,t.b,t.c⟩ else if c = 1 then ⟨t.a,p,t.c⟩ else ⟨t.a,t.b,p⟩
theorem agd {t : T3} {c : Nat} {p : P3} (hc : c < 3) : bK (bQ t) (c * 3) [.int .i64 p.x,.int .i64 p.y,.int .i64 p.z] = bQ (t.setC c p):=by
 have : c = 0 ∨ c = 1 ∨ c = 2:=by omega
 rcases this with rfl | rfl | rfl <;> rfl
section
variable {w0 w : World} {S : List (Option Nat)} {E : TypeId} {n cap : Nat} {A : Option Addr} {ts : List T3}
theorem jL.cor {a : Addr} {t : T3} {c : Nat} (h : jL w a (bQ t)) (hc : c < 3) : jL w (a.add (c * 3)) [.int .i64 (t.cor c).x,.int .i64 (t.cor c).y,.int .i64 (t.cor c).z]:=by
 have:=(h.sub (c * 3)).take 3;have e : c = 0 ∨ c = 1 ∨ c = 2:=by omega
 rcases e with rfl | rfl | rfl <;> exact this
theorem Ot {k : Nat} (h : k < ts.length) : ∃ t,ts[k]? = Option.some t:=⟨_,List.getElem?_eq_getElem h⟩
theorem aa7 {q : Int} {N : Nat} (h : 0 < N) : ∃ k : Nat,q % (N : Int) = (k : Int) ∧ k < N:=by
 have:=uZ (n:=q) (m:=(N : Int)) (by omega);exact ⟨(q % (N : Int)).toNat,by omega,by omega⟩
end
end Go.Lith
namespace Go.Lith
open Go.RowKit
section
variable {α : Type} {enc : α → List Value} {c : Nat} {w w' : World} {A : Option Addr} {n : Nat} {xs : List α}
structure oU (enc : α → List Value) (c : Nat) (w : World) (A : Option Addr) (n : Nat) (xs : List α) : Prop where
 len : xs.length = n
 row : ∀ i x,xs[i]? = some x → ∃ a,A = some a ∧ jL w (a.add (i * c)) (enc x)
theorem oU.ext (h : oU enc c w A n xs) (hE : dK w w') : oU enc c w' A n xs:=⟨h.len,fun i x hi=>let ⟨a,e,hr⟩:=h.row i x hi;⟨a,e,hr.ext hE⟩⟩
theorem oU.nil (w : World) (A : Option Addr) : oU enc c w A 0 []:=⟨rfl,fun i x h=>by cases h⟩
theorem oU.get (h : oU enc c w A n xs) {i : Nat} (hi : i < n) : ∃ x,xs[i]? = some x ∧ ∃ a,A = some a ∧ jL w (a.add (i * c)) (enc x):=by
 have hl : i < xs.length:=by rw [h.len];exact hi
 exact ⟨xs[i],List.getElem?_eq_getElem hl,h.row i _ (List.getElem?_eq_getElem hl)⟩
theorem oU.take (h : oU enc c w A n xs) {k : Nat} (hk : k ≤ n) : oU enc c w A k (xs.take k) :=
 ⟨by rw [List.length_take,h.len];omega,fun i x hx=>h.row i x (by rw [List.getElem?_take] at hx;split at hx;exact hx;cases hx)⟩
theorem jC (hc : ∀ x,(enc x).length = c) : ∀ xs : List α,(xs.flatMap enc).length = xs.length * c
 | []=>by simp
 | x :: xs=>by rw [List.flatMap_cons,List.length_append,hc,jC hc xs,List.length_cons,Nat.add_mul,Nat.one_mul,Nat.add_comm]
theorem wH (hc : ∀ x,(enc x).length = c) : ∀ (xs : List α) (k : Nat),(xs.drop k).flatMap enc = (xs.flatMap enc).drop (k * c)
 | xs,0=>by simp
 | [],k + 1=>by simp
 | x :: xs,k + 1=>by
  rw [List.drop_succ_cons,List.flatMap_cons,wH hc xs k,List.drop_append,hc,List.drop_of_length_le (l:=enc x) (by rw [hc,Nat.add_mul];omega),Nat.add_mul,Nat.one_mul,Nat.add_sub_cancel,List.nil_append]
theorem Le (hc : ∀ x,(enc x).length = c) {xs : List α} {i : Nat} {x : α} (h : xs[i]? = some x) : (xs.flatMap enc).drop (i * c) = enc x ++ (xs.drop (i + 1)).flatMap enc:=by
 rw [← wH hc,List.drop_eq_getElem_cons (List.getElem?_eq_some_iff.1 h).1,List.flatMap_cons,(List.getElem?_eq_some_iff.1 h).2]
theorem Ow.at {w0 : World} {S : List (Option Nat)} {E : TypeId} {cap g i : Nat} {x : α} (hc : ∀ x,(enc x).length = c) (h : Ow w0 w S E c (Option.some ⟨g,0,none⟩) n cap (xs.flatMap enc)) (hx : xs[i]? = Option.some x) : jL w ((⟨g,0,none⟩ : Addr).add (i * c)) (enc x):=by
 intro j u hj;have hj' : j < (enc x).length:=(List.getElem?_eq_some_iff.1 hj).1;rw [jV];refine h.rows _ _ ?_;rw [← List.getElem?_drop,Le hc hx,List.getElem?_append_left hj'];exact hj
theorem Ow.num {w0 : World} {S : List (Option Nat)} {E : TypeId} {cap : Nat} (hc : ∀ x,(enc x).length = c) (h0 : 0 < c) (h : Ow w0 w S E c A n cap (xs.flatMap enc)) : xs.length = n:=by
 have:=h.own.1;rw [jC hc] at this;exact Nat.eq_of_mul_eq_mul_right h0 this
theorem Ow.lat {w0 : World} {S : List (Option Nat)} {E : TypeId} {cap : Nat} (hc : ∀ x,(enc x).length = c) (h0 : 0 < c) (h : Ow w0 w S E c A n cap (xs.flatMap enc)) : oU enc c w A n xs :=
 ⟨h.num hc h0,fun i x hx=>by
  have hi:=(List.getElem?_eq_some_iff.1 hx).1;have hn:=h.num hc h0;obtain ⟨g,rfl⟩:=h.some (by omega);exact ⟨_,rfl,h.at hc hx⟩⟩
theorem oU.cells (hc : ∀ x,(enc x).length = c) (h0 : 0 < c) (h : oU enc c w A n xs) : ∀ j u,(xs.flatMap enc)[j]? = some u → ∃ a,A = some a ∧ w.cell? (a.add j) = some u:=fun j u hj=>by
 have hj':=(List.getElem?_eq_some_iff.1 hj).1;rw [jC hc] at hj';have hi : j / c < xs.length:=(Nat.div_lt_iff_lt_mul h0).2 hj';obtain ⟨a,rfl,hr⟩:=h.row (j / c) _ (List.getElem?_eq_getElem hi);refine ⟨a,rfl,?_⟩;have hm:=Nat.mod_lt j h0;have e : j = j / c * c + j % c:=by rw [Nat.mul_comm];exact (Nat.div_add_mod j c).symm
 have:=hr (j % c) u (by
  rw [e,← List.getElem?_drop,Le hc (List.getElem?_eq_getElem hi),List.getElem?_append_left (by rw [hc];exact hm)] at hj;exact hj)
 rw [jV,← e] at this;exact this
theorem oU.cellsD (hc : ∀ x,(enc x).length = c) (h0 : 0 < c) (h : oU enc c w A n xs) {cap q : Nat} (hcap : n ≤ cap) : ∀ j u,((xs.drop q).flatMap enc)[j]? = some u → ∃ a,(if cap = q then A else A.map (·.add (q * c))) = some a ∧ w.cell? (a.add j) = some u:=fun j u hj=>by
 rw [wH hc,List.getElem?_drop] at hj;have hl:=(List.getElem?_eq_some_iff.1 hj).1;rw [jC hc,h.len] at hl;obtain ⟨a,rfl,hcl⟩:=h.cells hc h0 _ _ hj;have : q < n:=by
  refine Nat.lt_of_mul_lt_mul_right (a:=c) ?_;omega
 rw [if_neg (by omega)];exact ⟨_,rfl,by rw [jV];exact hcl⟩
end
theorem dJ {α : Type} {ps : List α} {k : Nat} {p : α} (h : ps[k]? = some p) : ps.take (k + 1) = ps.take k ++ [p]:=by
 rw [List.take_add_one,h];rfl
abbrev E3:=P3 × P3
def cB (e : E3) : List Value:=[.int .i64 e.1.x,.int .i64 e.1.y,.int .i64 e.1.z,.int .i64 e.2.x,.int .i64 e.2.y,.int .i64 e.2.z]
def ed (e : E3) : Value:=.agg #[.int .i64 e.1.x,.int .i64 e.1.y,.int .i64 e.1.z,.int .i64 e.2.x,.int .i64 e.2.y,.int .i64 e.2.z]
def uC (p : P3) : List Value:=[.int .i64 p.x,.int .i64 p.y,.int .i64 p.z]
theorem fA.lat {w : World} {A : Option Addr} {n : Nat} {ts : List T3} (h : fA w A n ts) : oU bQ 9 w A n ts:=⟨h.len,h.row⟩
theorem Iy (es : List E3) : ∀ u ∈ es.flatMap cB,u.oneCell' = true:=fun u hu=>by
 obtain ⟨e,_,h⟩:=List.mem_flatMap.1 hu;simp only[cB,List.mem_cons,List.not_mem_nil,or_false] at h;rcases h with rfl | rfl | rfl | rfl | rfl | rfl <;> rfl
theorem Iz (ps : List P3) : ∀ u ∈ ps.flatMap uC,u.oneCell' = true:=fun u hu=>by
 obtain ⟨e,_,h⟩:=List.mem_flatMap.1 hu;simp only[uC,List.mem_cons,List.not_mem_nil,or_false] at h;rcases h with rfl | rfl | rfl <;> rfl
theorem acC (t : T3) : (bQ t).length = 9:=rfl
theorem rQ (e : E3) : (cB e).length = 6:=rfl
theorem Lf (p : P3) : (uC p).length = 3:=rfl
def bB (ts : List T3) : List E3:=ts.flatMap fun t=>[(t.a,t.b),(t.b,t.c),(t.c,t.a)]
theorem jZ {ts : List T3} {k : Nat} {t : T3} (h : ts[k]? = some t) : bB (ts.take (k + 1)) = bB (ts.take k) ++ [(t.a,t.b),(t.b,t.c),(t.c,t.a)]:=by
 unfold bB;rw [dJ h,List.flatMap_append];simp
theorem jD (ts : List T3) : (bB ts).length = ts.length * 3:=oL ts fun _ _=>rfl
def kA (es : List E3) (e : E3) : Nat:=(es.filter fun x=>decide (x = e)).length
theorem Lg {es : List E3} {k : Nat} {x e : E3} (h : es[k]? = some x) : kA (es.take (k + 1)) e = kA (es.take k) e + if x = e then 1 else 0:=by
 unfold kA;rw [dJ h,List.filter_append,List.length_append];by_cases hx : x = e <;> simp [hx]
theorem acD {es : List E3} {e : E3} : kA es e ≤ es.length:=List.length_filter_le _ _
end Go.Lith
namespace Go.Lith
open Go.RowKit
theorem acE {α : Type} {is : List α} {k : Nat} {i : α} (h : is[k]? = some i) : is.set k i = is:=by
 apply List.ext_getElem?;intro j;rw [List.getElem?_set];split
 · rename_i e
   subst e;rw [if_pos (List.getElem?_eq_some_iff.1 h).1,h]
 · rfl
theorem Gv {α : Type} : ∀ (l : List α) (j : Nat) (x : α),l[j]? = some x → (x :: l.eraseIdx j).Perm l
 | [],j,x,h=>by cases h
 | y :: l,0,x,h=>by cases h;exact .refl _
 | y :: l,j + 1,x,h=>((List.Perm.swap y x _)).trans ((Gv l j x h).cons y)
theorem cF.pull {w0 w : World} {is : List It} (m : cF w0 w is) (j : Nat) {x : It} (hj : is[j]? = some x) : cF w0 w (x :: is.eraseIdx j):=by
 have hp:=Gv is j x hj;exact ⟨m.ext,fun i hi=>m.all i (hp.mem_iff.1 hi),fun i hi=>m.ge i (hp.mem_iff.1 hi),(hp.pairwise_iff (fun {a b} (h : Ap a b)=>h.symm)).2 m.nd⟩
theorem cF.mv {w0 w : World} {is : List It} {y : It} (m : cF w0 w (y :: is)) (k : Nat) {x : It} (hk : is[k]? = some x) : cF w0 w (is.set k y):=by
 obtain ⟨h1,h2⟩:=List.pairwise_cons.1 m.nd;have hm : ∀ i ∈ is.set k y,i ∈ y :: is:=fun i hi=>(List.mem_or_eq_of_mem_set hi).elim (List.mem_cons_of_mem _) (fun e=>e ▸ List.mem_cons_self);exact ⟨m.ext,fun i hi=>m.all i (hm i hi),fun i hi=>m.ge i (hm i hi),Ol is k h2 hk fun x hx _=>h1 x hx⟩
theorem wI {α : Type} {a : α} {l : List α} : (a :: l).eraseIdx 0 = l:=rfl
theorem wJ {α : Type} {a : α} {l : List α} {n : Nat} : (a :: l).eraseIdx (n + 1) = a :: l.eraseIdx n:=rfl
def SL (E : TypeId) (c : Nat) (cs : List Value) (n : Nat) (w : World) (v : Value) (w' : World) : Prop:=∃ A cap n',n' = n ∧ v = .slice A n' cap ∧ Ow w w' [] E c A n' cap cs
/-! ### Points put into a sorted list -/
def Tp (ps : List P3) (p : P3) : Nat:=(ps.takeWhile fun x=>decide (x.Lt p)).length
def iK (ps : List P3) (p : P3) : List P3:=if ps[Tp ps p]? = some p then ps else ps.take (Tp ps p) ++ [p] ++ ps.drop (Tp ps p)
def eJ (ts : List T3) : List P3:=ts.foldl (fun ps t=>iK (iK (iK ps t.a) t.b) t.c) []
theorem xF {ts : List T3} {k : Nat} {t : T3} (h : ts[k]? = some t) : eJ (ts.take (k + 1)) = iK (iK (iK (eJ (ts.take k)) t.a) t.b) t.c:=by
 unfold eJ;rw [dJ h,List.foldl_append];rfl
theorem rR (ps : List P3) (p : P3) : (iK ps p).length ≤ ps.length + 1:=by
 unfold iK;split
 · omega
 · simp;omega
theorem Ao (ts : List T3) : (eJ ts).length ≤ ts.length * 3:=by
 have : ∀ (ts : List T3) (ps : List P3),(ts.foldl (fun ps t=>iK (iK (iK ps t.a) t.b) t.c) ps).length ≤ ps.length + ts.length * 3:=by
  intro ts
  induction ts with
  | nil=>intro ps;simp
  | cons t ts ih =>
   intro ps;have h1:=ih (iK (iK (iK ps t.a) t.b) t.c);have h2:=rR ps t.a;have h3:=rR (iK ps t.a) t.b;have h4:=rR (iK (iK ps t.a) t.b) t.c;rw [List.foldl_cons,List.length_cons];omega
 have:=this ts [];simpa [eJ] using this
section
variable {α : Type} {p : α → Bool} {l : List α} {k : Nat}
theorem ab7 (h : ∀ j x,j < k → l[j]? = some x → p x = true) (hk : k ≤ l.length) : k ≤ (l.takeWhile p).length:=by
 induction l generalizing k with
 | nil=>simp at hk;omega
 | cons x l ih =>
  cases k with
  | zero=>omega
  | succ k =>
   have hx:=h 0 x (by omega) rfl;rw [List.takeWhile_cons,if_pos hx,List.length_cons];have:=ih (k:=k) (fun j y hj hy=>h (j + 1) y (by omega) (by simpa using hy)) (by simp at hk;omega);omega
theorem aef {x : α} (hx : l[k]? = some x) (h : p x = false) : (l.takeWhile p).length ≤ k:=by
 induction l generalizing k with
 | nil=>cases hx
 | cons y l ih =>
  rw [List.takeWhile_cons];split
  · cases k with
    | zero =>
     rename_i hy;cases hx;rw [h] at hy;cases hy
    | succ k =>
     rw [List.length_cons];have:=ih (k:=k) (by simpa using hx);omega
  · simp
theorem acF : (l.takeWhile p).length ≤ l.length:=(List.takeWhile_sublist p).length_le
theorem ab8 {x : α} (h : ∀ j x,j < k → l[j]? = some x → p x = true) (hx : l[k]? = some x) (h2 : p x = false) : (l.takeWhile p).length = k:=Nat.le_antisymm (aef hx h2) (ab7 h (Nat.le_of_lt (List.getElem?_eq_some_iff.1 hx).1))
theorem Yd (h : ∀ j x,j < l.length → l[j]? = some x → p x = true) : (l.takeWhile p).length = l.length:=Nat.le_antisymm acF (ab7 h (Nat.le_refl _))
def Pre (p : α → Bool) (l : List α) (k : Nat) : Prop:=∀ j x,j < k → l[j]? = some x → p x = true
theorem Pre.zero : Pre p l 0:=fun j _ hj=>by omega
theorem Pre.step {x : α} (h : Pre p l k) (hx : l[k]? = some x) (hp : p x = true) : Pre p l (k + 1):=fun j y hj hy=>by
 rcases Nat.lt_or_ge j k with h1 | h1
 · exact h j y h1 hy
 · obtain rfl : j = k:=by omega
   rw [hx] at hy;cases hy;exact hp
end
/-! ### The border -/
def Rc (a b : E3) : Bool:=if a.1 ≠ b.1 then decide (a.1.Lt b.1) else decide (a.2.Lt b.2)
def Tq (es : List E3) (e : E3) : Nat:=(es.takeWhile fun x=>Rc x e).length
def Ou (es : List E3) (e : E3) : List E3:=es.take (Tq es e) ++ [e] ++ es.drop (Tq es e)
def nD (all : List E3) (out : List E3) (e : E3) : List E3:=if 0 < kA all (e.2,e.1) ∨ 0 < kA out e then out else Ou out e
def aU (ts : List T3) : List E3:=(bB ts).foldl (nD (bB ts)) []
theorem Tr {all es : List E3} {k : Nat} {e : E3} (h : es[k]? = some e) : (es.take (k + 1)).foldl (nD all) [] = nD all ((es.take k).foldl (nD all) []) e:=by
 rw [dJ h,List.foldl_append];rfl
theorem rS {all : List E3} : ∀ (es out : List E3),(es.foldl (nD all) out).length ≤ out.length + es.length
 | [],out=>by simp
 | e :: es,out=>by
  have h1:=rS (all:=all) es (nD all out e);have h2 : (nD all out e).length ≤ out.length + 1:=by
   unfold nD Ou;split
   · omega
   · simp;omega
  rw [List.foldl_cons,List.length_cons];omega
/-! ### Pinched corners -/
def T3.fnd (t : T3) (p q : P3) : Option P3:=if t.a = p ∧ t.b = q then some t.c else if t.b = p ∧ t.c = q then some t.a else if t.c = p ∧ t.a = q then some t.b else none
def bP : List T3 → P3 → P3 → Option P3
 | [],_,_=>none
 | t :: ts,p,q=>match t.fnd p q with
  | some x=>some x
  | none=>bP ts p q
theorem oM {ts : List T3} {k : Nat} {t : T3} {p q : P3} (h : ts[k]? = some t) (h0 : bP (ts.take k) p q = none) : bP (ts.take (k + 1)) p q = t.fnd p q:=by
 rw [dJ h];clear h;generalize ts.take k = us at h0 ⊢
 induction us with
 | nil=>simp only[List.nil_append,bP];cases t.fnd p q <;> rfl
 | cons u us ih =>
  rw [List.cons_append];simp only[bP] at h0 ⊢;cases hu : u.fnd p q with
  | some x=>rw [hu] at h0;cases h0
  | none=>rw [hu] at h0;exact ih h0
theorem uD {ts : List T3} {k : Nat} {p q x : P3} (h : bP (ts.take k) p q = some x) : bP ts p q = some x:=by
 induction ts generalizing k with
 | nil=>simp [bP] at h
 | cons u us ih =>
  cases k with
  | zero=>simp [bP] at h
  | succ k =>
   rw [List.take_succ_cons] at h;unfold bP at h ⊢;cases hu : u.fnd p q with
   | some y=>rw [hu] at h;exact h
   | none=>rw [hu] at h;exact ih h
def Dj (p : P3) (t : T3) (c : Nat) : List T3:=if t.cor c = p then [t] else []
def rT (p : P3) (t : T3) (c : Nat) : List T3:=(List.range c).flatMap (Dj p t)
def lQ (ts : List T3) (p : P3) : List T3:=ts.flatMap fun t=>rT p t 3
def Dk (p : P3) (t : T3) (c : Nat) : List P3:=if t.cor c = p then [t.cor ((c + 1) % 3)] else []
def uE (p : P3) (t : T3) (c : Nat) : List P3:=(List.range c).flatMap (Dk p t)
def pV (ts : List T3) (p : P3) : List P3:=ts.flatMap fun t=>uE p t 3
theorem Dl (p : P3) (t : T3) (c : Nat) : rT p t (c + 1) = rT p t c ++ Dj p t c:=by simp [rT,List.range_succ]
theorem Aq (p : P3) (t : T3) (c : Nat) : uE p t (c + 1) = uE p t c ++ Dk p t c:=by simp [uE,List.range_succ]
theorem Ts {ts : List T3} {k : Nat} {t : T3} {p : P3} (h : ts[k]? = some t) : lQ (ts.take (k + 1)) p = lQ (ts.take k) p ++ rT p t 3:=by
 unfold lQ;rw [dJ h,List.flatMap_append];simp
theorem Ov {ts : List T3} {k : Nat} {t : T3} {p : P3} (h : ts[k]? = some t) : pV (ts.take (k + 1)) p = pV (ts.take k) p ++ uE p t 3:=by
 unfold pV;rw [dJ h,List.flatMap_append];simp
def vT (ts : List T3) (p : P3) (k : Nat) (t : T3) (c : Nat) : List T3:=lQ (ts.take k) p ++ rT p t c
def qY (ts : List T3) (p : P3) (k : Nat) (t : T3) (c : Nat) : List P3:=pV (ts.take k) p ++ uE p t c
theorem Tt {ts : List T3} {p : P3} {k c : Nat} {t : T3} (h : t.cor c = p) : vT ts p k t (c + 1) = vT ts p k t c ++ [t]:=by
 unfold vT;rw [Dl,Dj,if_pos h,List.append_assoc]
theorem Ye {ts : List T3} {p : P3} {k c : Nat} {t : T3} (h : ¬ t.cor c = p) : vT ts p k t (c + 1) = vT ts p k t c:=by
 unfold vT;rw [Dl,Dj,if_neg h,List.append_nil]
theorem Ox {ts : List T3} {p : P3} {k c : Nat} {t : T3} (h : t.cor c = p) : qY ts p k t (c + 1) = qY ts p k t c ++ [t.cor ((c + 1) % 3)]:=by
 unfold qY;rw [Aq,Dk,if_pos h,List.append_assoc]
theorem Tu {ts : List T3} {p : P3} {k c : Nat} {t : T3} (h : ¬ t.cor c = p) : qY ts p k t (c + 1) = qY ts p k t c:=by
 unfold qY;rw [Aq,Dk,if_neg h,List.append_nil]
theorem aa9 {ts : List T3} {p : P3} {k : Nat} {t : T3} : vT ts p k t 0 = lQ (ts.take k) p:=by simp [vT,rT]
theorem Yf {ts : List T3} {p : P3} {k : Nat} {t : T3} : qY ts p k t 0 = pV (ts.take k) p:=by simp [qY,uE]
theorem aba {ts : List T3} {p : P3} {k : Nat} {t : T3} (h : ts[k]? = some t) : vT ts p k t 3 = lQ (ts.take (k + 1)) p:=by rw [Ts h];rfl
theorem Yg {ts : List T3} {p : P3} {k : Nat} {t : T3} (h : ts[k]? = some t) : qY ts p k t 3 = pV (ts.take (k + 1)) p:=by rw [Ov h];rfl
theorem gK {x y : P3} : (x.x = y.x ∧ x.y = y.y ∧ x.z = y.z) ↔ x = y:=⟨fun h=>P3.eq h.1 h.2.1 h.2.2,fun h=>by rw [h];exact ⟨rfl,rfl,rfl⟩⟩
theorem sU {x y u v : P3} : (decide (x.x = y.x ∧ x.y = y.y ∧ x.z = y.z) && decide (u.x = v.x ∧ u.y = v.y ∧ u.z = v.z)) = true ↔ x = y ∧ u = v:=by
 rw [Bool.and_eq_true,decide_eq_true_eq,decide_eq_true_eq,gK,gK]
theorem yT {x y u v : P3} (h : (decide (x.x = y.x ∧ x.y = y.y ∧ x.z = y.z) && decide (u.x = v.x ∧ u.y = v.y ∧ u.z = v.z)) = false) : ¬ (x = y ∧ u = v):=fun k=>by
 rw [sU.2 k] at h;cases h
theorem aeg {t : T3} {p q : P3} (h : t.cor 0 = p ∧ t.cor 1 = q) : t.fnd p q = some (t.cor 2):=if_pos h
theorem aeh {t : T3} {p q : P3} (h0 : ¬ (t.cor 0 = p ∧ t.cor 1 = q)) (h : t.cor 1 = p ∧ t.cor 2 = q) : t.fnd p q = some (t.cor 0):=(if_neg h0).trans (if_pos h)
theorem aei {t : T3} {p q : P3} (h0 : ¬ (t.cor 0 = p ∧ t.cor 1 = q)) (h1 : ¬ (t.cor 1 = p ∧ t.cor 2 = q)) (h : t.cor 2 = p ∧ t.cor 0 = q) : t.fnd p q = some (t.cor 1):=(if_neg h0).trans ((if_neg h1).trans (if_pos h))
theorem aej {t : T3} {p q : P3} (h0 : ¬ (t.cor 0 = p ∧ t.cor 1 = q)) (h1 : ¬ (t.cor 1 = p ∧ t.cor 2 = q)) (h2 : ¬ (t.cor 2 = p ∧ t.cor 0 = q)) : t.fnd p q = none:=(if_neg h0).trans ((if_neg h1).trans (if_neg h2))
def lR (ms : List T3) (p s : P3) : Nat → P3 → Bool
 | 0,_=>false
 | n + 1,at_=>match bP ms p at_ with
  | none=>false
  | some x=>if x = s then true else lR ms p s n x
theorem Gw {ms : List T3} {p s x : P3} {n : Nat} (h : bP ms p x = none) : lR ms p s n x = false:=by
 cases n with
 | zero=>rfl
 | succ n=>simp only[lR,h]
theorem Lh {ms : List T3} {p s x : P3} {n : Nat} (h : bP ms p x = some s) : lR ms p s (n + 1) x = true:=by simp [lR,h]
theorem Gx {ms : List T3} {p s x y : P3} {n : Nat} (h : bP ms p x = some y) (hy : ¬ y = s) : lR ms p s (n + 1) x = lR ms p s n y:=by simp [lR,h,hy]
def xG (ts : List T3) (p : P3) : Bool:=(pV ts p).any fun s=>lR (lQ ts p) p s ((lQ ts p).length - 1) s
def pW (t : T3) : Bool:=decide (t.a = t.b) || decide (t.b = t.c) || decide (t.c = t.a)
theorem Ja {t : T3} : (decide (t.a.x = t.b.x ∧ t.a.y = t.b.y ∧ t.a.z = t.b.z) || decide (t.b.x = t.c.x ∧ t.b.y = t.c.y ∧ t.b.z = t.c.z) || decide (t.c.x = t.a.x ∧ t.c.y = t.a.y ∧ t.c.z = t.a.z)) = pW t:=by
 simp only[gK,pW]
def cX (op : Bool) (ts : List T3) : Int :=
 if ts.any pW then 20 else if (bB ts).any (fun e=>decide (1 < kA (bB ts) e)) then 21
 else if !op && decide (0 < (aU ts).length) then 22 else if (eJ ts).any (xG ts) then 23 else 0
theorem lS {α : Type} {p : α → Bool} {l : List α} {k : Nat} {x : α} (hx : l[k]? = some x) : (l.take (k + 1)).any p = ((l.take k).any p || p x):=by
 rw [dJ hx,List.any_append];simp
theorem qN {α : Type} {p : α → Bool} {l : List α} {k : Nat} {x : α} (hx : l[k]? = some x) (h : p x = true) : l.any p = true:=List.any_eq_true.2 ⟨x,List.mem_of_getElem? hx,h⟩
end Go.Lith
namespace Go.Proofs.YtfohfflkhpfjeaaGreatDoor
open Go.Proofs.Tryz
open Go.RowKit Go.Lith
abbrev uF:=@underlying120
abbrev nR:=@underlying126
abbrev mB:=@underlying131
abbrev jQ:=@underlying143
abbrev qZ:=@underlying153
abbrev bV:=@underlying29
abbrev iT:=@underlying3
abbrev kJ:=@underlying30
abbrev Oy:=@underlying4
abbrev eU:=@underlying41
abbrev dW:=@underlying48
abbrev iY:=@underlying50
abbrev aY:=@underlying53
abbrev cH:=@underlying57
abbrev gG:=@underlying65
abbrev iZ:=@underlying73
abbrev Dm:=@underlying76
abbrev Dn:=@underlying77
abbrev qH:=@underlying9
abbrev kK:=@underlying98
set_option maxRecDepth 100000
theorem aP : prog.follows .mixedOrders = true:=by kernel_rfl
theorem agj : bF prog 8:=⟨_,func8,by kernel_rfl,by kernel_rfl⟩
theorem aek : bF prog 11:=⟨_,func11,by kernel_rfl,by kernel_rfl⟩
theorem ael : bF prog 13:=⟨_,func13,by kernel_rfl,by kernel_rfl⟩
theorem aem : bF prog 16:=⟨_,func16,by kernel_rfl,by kernel_rfl⟩
theorem aen : bF prog 17:=⟨_,func17,by kernel_rfl,by kernel_rfl⟩
theorem aeo : bF prog 18:=⟨_,func18,by kernel_rfl,by kernel_rfl⟩
theorem aep : bF prog 21:=⟨_,func21,by kernel_rfl,by kernel_rfl⟩
theorem aeq : bF prog 22:=⟨_,func22,by kernel_rfl,by kernel_rfl⟩
theorem aer : bF prog 23:=⟨_,func23,by kernel_rfl,by kernel_rfl⟩
theorem aes : bF prog 24:=⟨_,func24,by kernel_rfl,by kernel_rfl⟩
theorem aet : bF prog 25:=⟨_,func25,by kernel_rfl,by kernel_rfl⟩
theorem aeu : bF prog 28:=⟨_,func28,by kernel_rfl,by kernel_rfl⟩
theorem aev : bF prog 29:=⟨_,func29,by kernel_rfl,by kernel_rfl⟩
theorem aew : bF prog 30:=⟨_,func30,by kernel_rfl,by kernel_rfl⟩
theorem aex : bF prog 31:=⟨_,func31,by kernel_rfl,by kernel_rfl⟩
theorem aey : bF prog 32:=⟨_,func32,by kernel_rfl,by kernel_rfl⟩
theorem aez : bF prog 33:=⟨_,func33,by kernel_rfl,by kernel_rfl⟩
theorem aeA : bF prog 34:=⟨_,func34,by kernel_rfl,by kernel_rfl⟩
theorem aeB : bF prog 35:=⟨_,func35,by kernel_rfl,by kernel_rfl⟩
theorem aeC : bF prog 36:=⟨_,func36,by kernel_rfl,by kernel_rfl⟩
theorem aeD : bF prog 37:=⟨_,func37,by kernel_rfl,by kernel_rfl⟩
theorem aeE : bF prog 38:=⟨_,func38,by kernel_rfl,by kernel_rfl⟩
theorem aeF : bF prog 39:=⟨_,func39,by kernel_rfl,by kernel_rfl⟩
theorem aeG : bF prog 40:=⟨_,func40,by kernel_rfl,by kernel_rfl⟩
theorem aeH : bF prog 41:=⟨_,func41,by kernel_rfl,by kernel_rfl⟩
theorem aeI : bF prog 42:=⟨_,func42,by kernel_rfl,by kernel_rfl⟩
theorem aeJ : bF prog 43:=⟨_,func43,by kernel_rfl,by kernel_rfl⟩
theorem aeK : bF prog 44:=⟨_,func44,by kernel_rfl,by kernel_rfl⟩
theorem aeL : bF prog 45:=⟨_,func45,by kernel_rfl,by kernel_rfl⟩
theorem aeM : bF prog 46:=⟨_,func46,by kernel_rfl,by kernel_rfl⟩
theorem aeN : bF prog 47:=⟨_,func47,by kernel_rfl,by kernel_rfl⟩
theorem aeO : bF prog 48:=⟨_,func48,by kernel_rfl,by kernel_rfl⟩
theorem aeP : bF prog 49:=⟨_,func49,by kernel_rfl,by kernel_rfl⟩
theorem aeQ : bF prog 50:=⟨_,func50,by kernel_rfl,by kernel_rfl⟩
theorem aeR : bF prog 51:=⟨_,func51,by kernel_rfl,by kernel_rfl⟩
theorem aeS : bF prog 52:=⟨_,func52,by kernel_rfl,by kernel_rfl⟩
theorem aeT : bF prog 53:=⟨_,func53,by kernel_rfl,by kernel_rfl⟩
theorem aeU : bF prog 54:=⟨_,func54,by kernel_rfl,by kernel_rfl⟩
theorem aeV : bF prog 56:=⟨_,func56,by kernel_rfl,by kernel_rfl⟩
theorem aeW : bF prog 58:=⟨_,func58,by kernel_rfl,by kernel_rfl⟩
theorem aeX : bF prog 59:=⟨_,func59,by kernel_rfl,by kernel_rfl⟩
theorem aeY : bF prog 60:=⟨_,func60,by kernel_rfl,by kernel_rfl⟩
theorem aeZ : bF prog 61:=⟨_,func61,by kernel_rfl,by kernel_rfl⟩
theorem ae0 : bF prog 62:=⟨_,func62,by kernel_rfl,by kernel_rfl⟩
theorem ae1 : bF prog 63:=⟨_,func63,by kernel_rfl,by kernel_rfl⟩
theorem ae2 : bF prog 64:=⟨_,func64,by kernel_rfl,by kernel_rfl⟩
theorem ae3 : bF prog 65:=⟨_,func65,by kernel_rfl,by kernel_rfl⟩
theorem ae4 : bF prog 66:=⟨_,func66,by kernel_rfl,by kernel_rfl⟩
theorem ae5 : bF prog 67:=⟨_,func67,by kernel_rfl,by kernel_rfl⟩
theorem ae6 : bF prog 68:=⟨_,func68,by kernel_rfl,by kernel_rfl⟩
theorem ae7 : bF prog 69:=⟨_,func69,by kernel_rfl,by kernel_rfl⟩
theorem ae8 : bF prog 70:=⟨_,func70,by kernel_rfl,by kernel_rfl⟩
theorem ae9 : bF prog 71:=⟨_,func71,by kernel_rfl,by kernel_rfl⟩
theorem afa : bF prog 72:=⟨_,func72,by kernel_rfl,by kernel_rfl⟩
theorem afb : bF prog 73:=⟨_,func73,by kernel_rfl,by kernel_rfl⟩
theorem afc : bF prog 74:=⟨_,func74,by kernel_rfl,by kernel_rfl⟩
theorem afd : bF prog 75:=⟨_,func75,by kernel_rfl,by kernel_rfl⟩
theorem afe : bF prog 76:=⟨_,func76,by kernel_rfl,by kernel_rfl⟩
theorem aff : bF prog 77:=⟨_,func77,by kernel_rfl,by kernel_rfl⟩
theorem afg : bF prog 78:=⟨_,func78,by kernel_rfl,by kernel_rfl⟩
theorem afh : bF prog 79:=⟨_,func79,by kernel_rfl,by kernel_rfl⟩
theorem afi : bF prog 80:=⟨_,func80,by kernel_rfl,by kernel_rfl⟩
theorem afj : bF prog 81:=⟨_,func81,by kernel_rfl,by kernel_rfl⟩
theorem afk : bF prog 82:=⟨_,func82,by kernel_rfl,by kernel_rfl⟩
theorem afl : bF prog 83:=⟨_,func83,by kernel_rfl,by kernel_rfl⟩
theorem afm : bF prog 84:=⟨_,func84,by kernel_rfl,by kernel_rfl⟩
theorem afn : bF prog 85:=⟨_,func85,by kernel_rfl,by kernel_rfl⟩
theorem afo : bF prog 86:=⟨_,func86,by kernel_rfl,by kernel_rfl⟩
theorem afp : bF prog 87:=⟨_,func87,by kernel_rfl,by kernel_rfl⟩
theorem afq : bF prog 88:=⟨_,func88,by kernel_rfl,by kernel_rfl⟩
theorem afr : bF prog 89:=⟨_,func89,by kernel_rfl,by kernel_rfl⟩
theorem afs : bF prog 90:=⟨_,func90,by kernel_rfl,by kernel_rfl⟩
theorem aft : bF prog 91:=⟨_,func91,by kernel_rfl,by kernel_rfl⟩
theorem afu : bF prog 92:=⟨_,func92,by kernel_rfl,by kernel_rfl⟩
theorem afv : bF prog 93:=⟨_,func93,by kernel_rfl,by kernel_rfl⟩
theorem afw : bF prog 94:=⟨_,func94,by kernel_rfl,by kernel_rfl⟩
theorem afx : bF prog 95:=⟨_,func95,by kernel_rfl,by kernel_rfl⟩
theorem afy : bF prog 96:=⟨_,func96,by kernel_rfl,by kernel_rfl⟩
theorem afz : bF prog 98:=⟨_,func98,by kernel_rfl,by kernel_rfl⟩
theorem Jb : bF prog 100:=⟨_,func100,by kernel_rfl,by kernel_rfl⟩
theorem acG : bF prog 101:=⟨_,func101,by kernel_rfl,by kernel_rfl⟩
theorem acH : bF prog 102:=⟨_,func102,by kernel_rfl,by kernel_rfl⟩
theorem acI : bF prog 103:=⟨_,func103,by kernel_rfl,by kernel_rfl⟩
theorem acJ : bF prog 104:=⟨_,func104,by kernel_rfl,by kernel_rfl⟩
theorem acK : bF prog 105:=⟨_,func105,by kernel_rfl,by kernel_rfl⟩
theorem acL : bF prog 106:=⟨_,func106,by kernel_rfl,by kernel_rfl⟩
theorem acM : bF prog 107:=⟨_,func107,by kernel_rfl,by kernel_rfl⟩
theorem acN : bF prog 108:=⟨_,func108,by kernel_rfl,by kernel_rfl⟩
theorem Oz : bF prog 109:=⟨_,func109,by kernel_rfl,by kernel_rfl⟩
theorem acO : bF prog 110:=⟨_,func110,by kernel_rfl,by kernel_rfl⟩
theorem Yh : bF prog 111:=⟨_,func111,by kernel_rfl,by kernel_rfl⟩
theorem acP : bF prog 112:=⟨_,func112,by kernel_rfl,by kernel_rfl⟩
theorem acQ : bF prog 113:=⟨_,func113,by kernel_rfl,by kernel_rfl⟩
theorem acR : bF prog 114:=⟨_,func114,by kernel_rfl,by kernel_rfl⟩
theorem acS : bF prog 115:=⟨_,func115,by kernel_rfl,by kernel_rfl⟩
theorem acT : bF prog 116:=⟨_,func116,by kernel_rfl,by kernel_rfl⟩
theorem acU : bF prog 117:=⟨_,func117,by kernel_rfl,by kernel_rfl⟩
theorem acV : bF prog 118:=⟨_,func118,by kernel_rfl,by kernel_rfl⟩
theorem acW : bF prog 119:=⟨_,func119,by kernel_rfl,by kernel_rfl⟩
theorem acX : bF prog 120:=⟨_,func120,by kernel_rfl,by kernel_rfl⟩
theorem acY : bF prog 121:=⟨_,func121,by kernel_rfl,by kernel_rfl⟩
theorem acZ : bF prog 123:=⟨_,func123,by kernel_rfl,by kernel_rfl⟩
theorem ac0 : bF prog 124:=⟨_,func124,by kernel_rfl,by kernel_rfl⟩
theorem Jc : bF prog 125:=⟨_,func125,by kernel_rfl,by kernel_rfl⟩
theorem ac1 : bF prog 126:=⟨_,func126,by kernel_rfl,by kernel_rfl⟩
theorem ac2 : bF prog 127:=⟨_,func127,by kernel_rfl,by kernel_rfl⟩
theorem ac3 : bF prog 128:=⟨_,func128,by kernel_rfl,by kernel_rfl⟩
theorem Yi : bF prog 129:=⟨_,func129,by kernel_rfl,by kernel_rfl⟩
theorem Yj : bF prog 130:=⟨_,func130,by kernel_rfl,by kernel_rfl⟩
theorem Yk : bF prog 131:=⟨_,func131,by kernel_rfl,by kernel_rfl⟩
theorem ac4 : bF prog 132:=⟨_,func132,by kernel_rfl,by kernel_rfl⟩
theorem ac5 : bF prog 133:=⟨_,func133,by kernel_rfl,by kernel_rfl⟩
theorem ac6 : bF prog 134:=⟨_,func134,by kernel_rfl,by kernel_rfl⟩
theorem ac7 : bF prog 135:=⟨_,func135,by kernel_rfl,by kernel_rfl⟩
theorem ac8 : bF prog 136:=⟨_,func136,by kernel_rfl,by kernel_rfl⟩
theorem ac9 : bF prog 137:=⟨_,func137,by kernel_rfl,by kernel_rfl⟩
theorem ada : bF prog 138:=⟨_,func138,by kernel_rfl,by kernel_rfl⟩
theorem adb : bF prog 142:=⟨_,func142,by kernel_rfl,by kernel_rfl⟩
theorem adc : bF prog 144:=⟨_,func144,by kernel_rfl,by kernel_rfl⟩
theorem bG : fB prog 3 1:=eV (by kernel_rfl)
theorem bZ : gW prog 3 false:=fH _ iT rfl
theorem mC : mT prog 3 (.int .i64 0):=iW (by kernel_rfl)
theorem kU : (prog.info? 3).map (fun i=>(i.size,i.bytes,i.zero)) = some (1,8,some (.int .i64 0)):=by kernel_rfl
theorem fC : fB prog 4 1:=eV (by kernel_rfl)
theorem jG : gW prog 4 false:=fH _ Oy rfl
theorem mD : mT prog 4 (.bool false):=iW (by kernel_rfl)
theorem Gy : (prog.info? 5).map (fun i=>(i.size,i.bytes,i.zero)) = some (1,1,some (.int .u8 0)):=by kernel_rfl
theorem qO : fB prog 9 1:=eV (by kernel_rfl)
theorem xH : gW prog 9 false:=fH _ qH rfl
theorem xI : fB prog 26 3:=eV (by kernel_rfl)
theorem abb : mT prog 26 (.agg #[.int .i64 0,.int .i64 0,.int .i64 0]):=iW (by kernel_rfl)
theorem jH : fB prog 29 1:=eV (by kernel_rfl)
theorem nS : gW prog 29 false:=fH _ bV rfl
theorem uG : fB prog 30 1:=eV (by kernel_rfl)
theorem Jd : gW prog 30 false:=fH _ kJ rfl
theorem oN : fB prog 41 1:=eV (by kernel_rfl)
theorem Do : gW prog 41 false:=fH _ eU rfl
theorem aC : fB prog 48 3:=eV (by kernel_rfl)
theorem aJ : gW prog 48 true:=fH _ dW rfl
theorem bU : mT prog 48 (.agg #[.int .i64 0,.int .i64 0,.int .i64 0]):=iW (by kernel_rfl)
theorem uH : (prog.info? 48).map (fun i=>(i.size,i.bytes,i.zero)) = some (3,24,some (.agg #[.int .i64 0,.int .i64 0,.int .i64 0])):=by kernel_rfl
theorem fK : fB prog 50 6:=eV (by kernel_rfl)
theorem Pa : gW prog 50 true:=fH _ iY rfl
theorem xJ : mT prog 50 (.agg #[.int .i64 0,.int .i64 0,.int .i64 0,.int .i64 0,.int .i64 0,.int .i64 0]):=iW (by kernel_rfl)
theorem aS : fB prog 53 9:=eV (by kernel_rfl)
theorem eF : gW prog 53 true:=fH _ aY rfl
theorem kB : mT prog 53 (.agg #[.int .i64 0,.int .i64 0,.int .i64 0,.int .i64 0,.int .i64 0,.int .i64 0,.int .i64 0,.int .i64 0,.int .i64 0]):=iW (by kernel_rfl)
theorem mE : (prog.info? 53).map (fun i=>(i.size,i.bytes,i.zero)) = some (9,72,some (.agg #[.int .i64 0,.int .i64 0,.int .i64 0,.int .i64 0,.int .i64 0,.int .i64 0,.int .i64 0,.int .i64 0,.int .i64 0])):=by kernel_rfl
theorem cK : fB prog 57 6:=eV (by kernel_rfl)
theorem jR : gW prog 57 true:=fH _ cH rfl
theorem qP : mT prog 57 (.agg #[.int .i64 0,.int .i64 0,.int .i64 0,.int .i64 0,.int .i64 0,.int .i64 0]):=iW (by kernel_rfl)
theorem sV : (prog.info? 57).map (fun i=>(i.size,i.bytes,i.zero)) = some (6,48,some (.agg #[.int .i64 0,.int .i64 0,.int .i64 0,.int .i64 0,.int .i64 0,.int .i64 0])):=by kernel_rfl
theorem aR : fB prog 65 2:=eV (by kernel_rfl)
theorem cA : gW prog 65 true:=fH _ gG rfl
theorem eX : mT prog 65 (.agg #[.bool false,.string ⟨#[]⟩]):=iW (by kernel_rfl)
theorem xK : fB prog 71 1:=eV (by kernel_rfl)
theorem Pb : gW prog 71 false:=fH _ underlying71 rfl
theorem abc : mT prog 73 (.agg #[.slice none 0 0,.slice none 0 0,.slice none 0 0,.slice none 0 0,.map none,.int .i64 0]):=iW (by kernel_rfl)
theorem rU : fB prog 74 1:=eV (by kernel_rfl)
theorem Dp : gW prog 74 false:=fH _ underlying74 rfl
theorem iU : fB prog 76 1:=eV (by kernel_rfl)
theorem Dq : gW prog 76 true:=fH _ Dm rfl
theorem vB : mT prog 76 (.agg #[.nilFunc]):=iW (by kernel_rfl)
theorem Tv : fB prog 115 18:=eV (by kernel_rfl)
theorem Li : mT prog 115 (.agg #[.int .i64 0,.int .i64 0,.int .i64 0,.int .i64 0,.int .i64 0,.int .i64 0,.int .i64 0,.int .i64 0,.int .i64 0,.int .i64 0,.int .i64 0,.int .i64 0,.int .i64 0,.int .i64 0,.int .i64 0,.int .i64 0,.int .i64 0,.int .i64 0]):=iW (by kernel_rfl)
theorem rV : fB prog 120 6:=eV (by kernel_rfl)
theorem Je : gW prog 120 true:=fH _ uF rfl
theorem Dr : mT prog 120 (.agg #[.bool false,.string ⟨#[]⟩,.bool false,.string ⟨#[]⟩,.bool false,.string ⟨#[]⟩]):=iW (by kernel_rfl)
theorem bC : fB prog 126 1:=eV (by kernel_rfl)
theorem eY : gW prog 126 false:=fH _ nR rfl
theorem lY : (prog.info? 126).map (fun i=>(i.size,i.bytes,i.zero)) = some (1,8,some (.int .u64 0)):=by kernel_rfl
theorem Tw : fB prog 131 1:=eV (by kernel_rfl)
theorem abd : gW prog 131 false:=fH _ mB rfl
theorem Yl : mT prog 131 (.slice none 0 0):=iW (by kernel_rfl)
theorem eB : fB prog 143 6:=eV (by kernel_rfl)
theorem kC : gW prog 143 true:=fH _ jQ rfl
theorem nE : mT prog 143 (.agg #[.int .i64 0,.int .i64 0,.int .i64 0,.int .i64 0,.int .i64 0,.int .i64 0]):=iW (by kernel_rfl)
theorem abe : (prog.info? 143).map (fun i=>(i.size,i.bytes,i.zero)) = some (6,48,some (.agg #[.int .i64 0,.int .i64 0,.int .i64 0,.int .i64 0,.int .i64 0,.int .i64 0])):=by kernel_rfl
theorem vC : fB prog 149 1:=eV (by kernel_rfl)
theorem Jf : gW prog 149 false:=fH _ underlying149 rfl
theorem vD : fB prog 150 3:=eV (by kernel_rfl)
theorem Re : gW prog 150 true:=fH _ underlying150 rfl
theorem Ds : mT prog 150 (.agg #[.nilFunc,.nilFunc,.nilFunc]):=iW (by kernel_rfl)
theorem pL : fB prog 153 6:=eV (by kernel_rfl)
theorem Ca : gW prog 153 true:=fH _ qZ rfl
theorem Dt : mT prog 153 (.agg #[.bool false,.string ⟨#[]⟩,.bool false,.string ⟨#[]⟩,.bool false,.string ⟨#[]⟩]):=iW (by kernel_rfl)
theorem Ym : mT prog 166 (.agg #[.int .i64 0,.int .i64 0,.int .i64 0,.int .i64 0,.int .i64 0,.int .i64 0,.int .i64 0,.int .i64 0,.int .i64 0,.int .i64 0,.int .i64 0,.int .i64 0,.int .i64 0,.int .i64 0,.int .i64 0,.int .i64 0,.int .i64 0,.int .i64 0,.int .i64 0,.int .i64 0,.int .i64 0,.int .i64 0,.int .i64 0,.int .i64 0]):=iW (by kernel_rfl)
theorem Gz : fB prog 169 18:=eV (by kernel_rfl)
theorem abf : gW prog 169 true:=fH _ underlying169 rfl
theorem Lj : mT prog 169 (.agg #[.int .i64 0,.int .i64 0,.int .i64 0,.int .i64 0,.int .i64 0,.int .i64 0,.int .i64 0,.int .i64 0,.int .i64 0,.int .i64 0,.int .i64 0,.int .i64 0,.int .i64 0,.int .i64 0,.int .i64 0,.int .i64 0,.int .i64 0,.int .i64 0]):=iW (by kernel_rfl)
theorem Pc {v0 v1 v2 : Value} {c0_0 : Value} (h0 : v0.cells = #[c0_0]) {c1_0 : Value} (h1 : v1.cells = #[c1_0]) {c2_0 : Value} (h2 : v2.cells = #[c2_0])  (w : World) : (Instr.build 26 #[(0,v0),(1,v1),(2,v2)]).run prog w = .ok (.agg #[c0_0,c1_0,c2_0]) w:=iH underlying26 abb bG (by simp [Instr.fill,fG,h0,h1,h2]) w
theorem iO {l : List Value} {ty : TypeId} {x0 x1 x2 : Operand} {c0_0 : Value} (h0 : (ev l x0).cells = #[c0_0]) {c1_0 : Value} (h1 : (ev l x1).cells = #[c1_0]) {c2_0 : Value} (h2 : (ev l x2).cells = #[c2_0]) : gX prog l (.build 26 #[(0,x0),(1,x1),(2,x2)]) ty (.agg #[c0_0,c1_0,c2_0]):=iL (vs:=#[(0,ev l x0),(1,ev l x1),(2,ev l x2)]) (by simp) fun w=>Pc h0 h1 h2 w
theorem rW (w : World) : ((#[{ name := "X", type:=3,offset:=0,embedded:=false,tag := "", pkgPath := "", byteOffset:=0 },{ name := "Y", type:=3,offset:=1,embedded:=false,tag := "", pkgPath := "", byteOffset:=8 },{ name := "Z", type:=3,offset:=2,embedded:=false,tag := "", pkgPath := "", byteOffset:=16 }] : Array Field).mapM fun f=>do pure (f.offset,← sizeOf f.type) : Sem (Array (Nat × Nat))).run prog w = .ok #[(0,1),(1,1),(2,1)] w:=by
 simp [Array.mapM_eq_mapM_toList,fO bG]
theorem afA  (w : World) : (Instr.build 48 #[]).run prog w = .ok (.agg #[(.int .i64 0),(.int .i64 0),(.int .i64 0)]) w:=eA dW bU rW (by simp [Instr.fill,fG]) w
theorem Lk {l : List Value} {ty : TypeId}  : gX prog l (.build 48 #[]) ty (.agg #[(.int .i64 0),(.int .i64 0),(.int .i64 0)]):=iL (vs:=#[]) (by simp) fun w=>afA  w
theorem ade {v0 : Value} {c0_0 : Value} (h0 : v0.cells = #[c0_0])  (w : World) : (Instr.build 48 #[(0,v0)]).run prog w = .ok (.agg #[c0_0,(.int .i64 0),(.int .i64 0)]) w:=eA dW bU rW (by simp [Instr.fill,fG,h0]) w
theorem Jg {l : List Value} {ty : TypeId} {x0 : Operand} {c0_0 : Value} (h0 : (ev l x0).cells = #[c0_0]) : gX prog l (.build 48 #[(0,x0)]) ty (.agg #[c0_0,(.int .i64 0),(.int .i64 0)]):=iL (vs:=#[(0,ev l x0)]) (by simp) fun w=>ade h0 w
theorem Pd {v0 v1 v2 : Value} {c0_0 : Value} (h0 : v0.cells = #[c0_0]) {c1_0 : Value} (h1 : v1.cells = #[c1_0]) {c2_0 : Value} (h2 : v2.cells = #[c2_0])  (w : World) : (Instr.build 48 #[(0,v0),(1,v1),(2,v2)]).run prog w = .ok (.agg #[c0_0,c1_0,c2_0]) w:=eA dW bU rW (by simp [Instr.fill,fG,h0,h1,h2]) w
theorem dT {l : List Value} {ty : TypeId} {x0 x1 x2 : Operand} {c0_0 : Value} (h0 : (ev l x0).cells = #[c0_0]) {c1_0 : Value} (h1 : (ev l x1).cells = #[c1_0]) {c2_0 : Value} (h2 : (ev l x2).cells = #[c2_0]) : gX prog l (.build 48 #[(0,x0),(1,x1),(2,x2)]) ty (.agg #[c0_0,c1_0,c2_0]):=iL (vs:=#[(0,ev l x0),(1,ev l x1),(2,ev l x2)]) (by simp) fun w=>Pd h0 h1 h2 w
theorem adf {v1 : Value} {c1_0 : Value} (h1 : v1.cells = #[c1_0])  (w : World) : (Instr.build 48 #[(1,v1)]).run prog w = .ok (.agg #[(.int .i64 0),c1_0,(.int .i64 0)]) w:=eA dW bU rW (by simp [Instr.fill,fG,h1]) w
theorem Jh {l : List Value} {ty : TypeId} {x1 : Operand} {c1_0 : Value} (h1 : (ev l x1).cells = #[c1_0]) : gX prog l (.build 48 #[(1,x1)]) ty (.agg #[(.int .i64 0),c1_0,(.int .i64 0)]):=iL (vs:=#[(1,ev l x1)]) (by simp) fun w=>adf h1 w
theorem adg {v2 : Value} {c2_0 : Value} (h2 : v2.cells = #[c2_0])  (w : World) : (Instr.build 48 #[(2,v2)]).run prog w = .ok (.agg #[(.int .i64 0),(.int .i64 0),c2_0]) w:=eA dW bU rW (by simp [Instr.fill,fG,h2]) w
theorem xL {l : List Value} {ty : TypeId} {x2 : Operand} {c2_0 : Value} (h2 : (ev l x2).cells = #[c2_0]) : gX prog l (.build 48 #[(2,x2)]) ty (.agg #[(.int .i64 0),(.int .i64 0),c2_0]):=iL (vs:=#[(2,ev l x2)]) (by simp) fun w=>adg h2 w
theorem Ha (w : World) : ((#[{ name := "From", type:=48,offset:=0,embedded:=false,tag := "", pkgPath := "", byteOffset:=0 },{ name := "To", type:=48,offset:=3,embedded:=false,tag := "", pkgPath := "", byteOffset:=24 }] : Array Field).mapM fun f=>do pure (f.offset,← sizeOf f.type) : Sem (Array (Nat × Nat))).run prog w = .ok #[(0,3),(3,3)] w:=by
 simp [Array.mapM_eq_mapM_toList,fO aC]
theorem adh {v0 : Value} {c0_0 c0_1 c0_2 : Value} (h0 : v0.cells = #[c0_0,c0_1,c0_2])  (w : World) : (Instr.build 50 #[(0,v0)]).run prog w = .ok (.agg #[c0_0,c0_1,c0_2,(.int .i64 0),(.int .i64 0),(.int .i64 0)]) w:=eA iY xJ Ha (by simp [Instr.fill,fG,h0]) w
theorem xM {l : List Value} {ty : TypeId} {x0 : Operand} {c0_0 c0_1 c0_2 : Value} (h0 : (ev l x0).cells = #[c0_0,c0_1,c0_2]) : gX prog l (.build 50 #[(0,x0)]) ty (.agg #[c0_0,c0_1,c0_2,(.int .i64 0),(.int .i64 0),(.int .i64 0)]):=iL (vs:=#[(0,ev l x0)]) (by simp) fun w=>adh h0 w
theorem Yn {v0 v1 : Value} {c0_0 c0_1 c0_2 : Value} (h0 : v0.cells = #[c0_0,c0_1,c0_2]) {c1_0 c1_1 c1_2 : Value} (h1 : v1.cells = #[c1_0,c1_1,c1_2])  (w : World) : (Instr.build 50 #[(0,v0),(1,v1)]).run prog w = .ok (.agg #[c0_0,c0_1,c0_2,c1_0,c1_1,c1_2]) w:=eA iY xJ Ha (by simp [Instr.fill,fG,h0,h1]) w
theorem nF {l : List Value} {ty : TypeId} {x0 x1 : Operand} {c0_0 c0_1 c0_2 : Value} (h0 : (ev l x0).cells = #[c0_0,c0_1,c0_2]) {c1_0 c1_1 c1_2 : Value} (h1 : (ev l x1).cells = #[c1_0,c1_1,c1_2]) : gX prog l (.build 50 #[(0,x0),(1,x1)]) ty (.agg #[c0_0,c0_1,c0_2,c1_0,c1_1,c1_2]):=iL (vs:=#[(0,ev l x0),(1,ev l x1)]) (by simp) fun w=>Yn h0 h1 w
theorem Pe {v0 v1 v2 : Value} {c0_0 c0_1 c0_2 : Value} (h0 : v0.cells = #[c0_0,c0_1,c0_2]) {c1_0 c1_1 c1_2 : Value} (h1 : v1.cells = #[c1_0,c1_1,c1_2]) {c2_0 c2_1 c2_2 : Value} (h2 : v2.cells = #[c2_0,c2_1,c2_2])  (w : World) : (Instr.build 53 #[(0,v0),(1,v1),(2,v2)]).run prog w = .ok (.agg #[c0_0,c0_1,c0_2,c1_0,c1_1,c1_2,c2_0,c2_1,c2_2]) w:=iH aY kB aC (by simp [Instr.fill,fG,h0,h1,h2]) w
theorem bR {l : List Value} {ty : TypeId} {x0 x1 x2 : Operand} {c0_0 c0_1 c0_2 : Value} (h0 : (ev l x0).cells = #[c0_0,c0_1,c0_2]) {c1_0 c1_1 c1_2 : Value} (h1 : (ev l x1).cells = #[c1_0,c1_1,c1_2]) {c2_0 c2_1 c2_2 : Value} (h2 : (ev l x2).cells = #[c2_0,c2_1,c2_2]) : gX prog l (.build 53 #[(0,x0),(1,x1),(2,x2)]) ty (.agg #[c0_0,c0_1,c0_2,c1_0,c1_1,c1_2,c2_0,c2_1,c2_2]):=iL (vs:=#[(0,ev l x0),(1,ev l x1),(2,ev l x2)]) (by simp) fun w=>Pe h0 h1 h2 w
theorem Yo {v0 v1 : Value} {c0_0 c0_1 c0_2 : Value} (h0 : v0.cells = #[c0_0,c0_1,c0_2]) {c1_0 c1_1 c1_2 : Value} (h1 : v1.cells = #[c1_0,c1_1,c1_2])  (w : World) : (Instr.build 57 #[(0,v0),(1,v1)]).run prog w = .ok (.agg #[c0_0,c0_1,c0_2,c1_0,c1_1,c1_2]) w:=iH cH qP aC (by simp [Instr.fill,fG,h0,h1]) w
theorem cL {l : List Value} {ty : TypeId} {x0 x1 : Operand} {c0_0 c0_1 c0_2 : Value} (h0 : (ev l x0).cells = #[c0_0,c0_1,c0_2]) {c1_0 c1_1 c1_2 : Value} (h1 : (ev l x1).cells = #[c1_0,c1_1,c1_2]) : gX prog l (.build 57 #[(0,x0),(1,x1)]) ty (.agg #[c0_0,c0_1,c0_2,c1_0,c1_1,c1_2]):=iL (vs:=#[(0,ev l x0),(1,ev l x1)]) (by simp) fun w=>Yo h0 h1 w
theorem Hb (w : World) : ((#[{ name := "Neg", type:=4,offset:=0,embedded:=false,tag := "", pkgPath := "", byteOffset:=0 },{ name := "Mag", type:=9,offset:=1,embedded:=false,tag := "", pkgPath := "", byteOffset:=8 }] : Array Field).mapM fun f=>do pure (f.offset,← sizeOf f.type) : Sem (Array (Nat × Nat))).run prog w = .ok #[(0,1),(1,1)] w:=by
 simp [Array.mapM_eq_mapM_toList,fO fC,fO qO]
theorem afB  (w : World) : (Instr.build 65 #[]).run prog w = .ok (.agg #[(.bool false),(.string ⟨#[]⟩)]) w:=eA gG eX Hb (by simp [Instr.fill,fG]) w
theorem Ar {l : List Value} {ty : TypeId}  : gX prog l (.build 65 #[]) ty (.agg #[(.bool false),(.string ⟨#[]⟩)]):=iL (vs:=#[]) (by simp) fun w=>afB  w
theorem Yp {v0 v1 : Value} {c0_0 : Value} (h0 : v0.cells = #[c0_0]) {c1_0 : Value} (h1 : v1.cells = #[c1_0])  (w : World) : (Instr.build 65 #[(0,v0),(1,v1)]).run prog w = .ok (.agg #[c0_0,c1_0]) w:=eA gG eX Hb (by simp [Instr.fill,fG,h0,h1]) w
theorem pX {l : List Value} {ty : TypeId} {x0 x1 : Operand} {c0_0 : Value} (h0 : (ev l x0).cells = #[c0_0]) {c1_0 : Value} (h1 : (ev l x1).cells = #[c1_0]) : gX prog l (.build 65 #[(0,x0),(1,x1)]) ty (.agg #[c0_0,c1_0]):=iL (vs:=#[(0,ev l x0),(1,ev l x1)]) (by simp) fun w=>Yp h0 h1 w
theorem Tx (w : World) : ((#[{ name := "fine", type:=29,offset:=0,embedded:=false,tag := "", pkgPath := "lithophane/witness", byteOffset:=0 },{ name := "coarse", type:=29,offset:=1,embedded:=false,tag := "", pkgPath := "lithophane/witness", byteOffset:=24 },{ name := "moves", type:=30,offset:=2,embedded:=false,tag := "", pkgPath := "lithophane/witness", byteOffset:=48 },{ name := "rim", type:=41,offset:=3,embedded:=false,tag := "", pkgPath := "lithophane/witness", byteOffset:=72 },{ name := "to", type:=71,offset:=4,embedded:=false,tag := "", pkgPath := "lithophane/witness", byteOffset:=96 },{ name := "most", type:=3,offset:=5,embedded:=false,tag := "", pkgPath := "lithophane/witness", byteOffset:=104 }] : Array Field).mapM fun f=>do pure (f.offset,← sizeOf f.type) : Sem (Array (Nat × Nat))).run prog w = .ok #[(0,1),(1,1),(2,1),(3,1),(4,1),(5,1)] w:=by
 simp [Array.mapM_eq_mapM_toList,fO jH,fO bG,fO uG,fO oN,fO xK]
theorem Ji {v0 v1 v2 v4 : Value} {c0_0 : Value} (h0 : v0.cells = #[c0_0]) {c1_0 : Value} (h1 : v1.cells = #[c1_0]) {c2_0 : Value} (h2 : v2.cells = #[c2_0]) {c4_0 : Value} (h4 : v4.cells = #[c4_0])  (w : World) : (Instr.build 73 #[(0,v0),(1,v1),(2,v2),(4,v4)]).run prog w = .ok (.agg #[c0_0,c1_0,c2_0,(.slice none 0 0),c4_0,(.int .i64 0)]) w:=eA iZ abc Tx (by simp [Instr.fill,fG,h0,h1,h2,h4]) w
theorem wK {l : List Value} {ty : TypeId} {x0 x1 x2 x4 : Operand} {c0_0 : Value} (h0 : (ev l x0).cells = #[c0_0]) {c1_0 : Value} (h1 : (ev l x1).cells = #[c1_0]) {c2_0 : Value} (h2 : (ev l x2).cells = #[c2_0]) {c4_0 : Value} (h4 : (ev l x4).cells = #[c4_0]) : gX prog l (.build 73 #[(0,x0),(1,x1),(2,x2),(4,x4)]) ty (.agg #[c0_0,c1_0,c2_0,(.slice none 0 0),c4_0,(.int .i64 0)]):=iL (vs:=#[(0,ev l x0),(1,ev l x1),(2,ev l x2),(4,ev l x4)]) (by simp) fun w=>Ji h0 h1 h2 h4 w
theorem Ty (w : World) : ((#[{ name := "run", type:=74,offset:=0,embedded:=false,tag := "", pkgPath := "lithophane/witness", byteOffset:=0 }] : Array Field).mapM fun f=>do pure (f.offset,← sizeOf f.type) : Sem (Array (Nat × Nat))).run prog w = .ok #[(0,1)] w:=by
 simp [Array.mapM_eq_mapM_toList,fO rU]
theorem adi {v0 : Value} {c0_0 : Value} (h0 : v0.cells = #[c0_0])  (w : World) : (Instr.build 76 #[(0,v0)]).run prog w = .ok (.agg #[c0_0]) w:=eA Dm vB Ty (by simp [Instr.fill,fG,h0]) w
theorem nG {l : List Value} {ty : TypeId} {x0 : Operand} {c0_0 : Value} (h0 : (ev l x0).cells = #[c0_0]) : gX prog l (.build 76 #[(0,x0)]) ty (.agg #[c0_0]):=iL (vs:=#[(0,ev l x0)]) (by simp) fun w=>adi h0 w
theorem xN {v0 v1 v2 v3 v4 v5 : Value} {c0_0 c0_1 c0_2 : Value} (h0 : v0.cells = #[c0_0,c0_1,c0_2]) {c1_0 c1_1 c1_2 : Value} (h1 : v1.cells = #[c1_0,c1_1,c1_2]) {c2_0 c2_1 c2_2 : Value} (h2 : v2.cells = #[c2_0,c2_1,c2_2]) {c3_0 c3_1 c3_2 : Value} (h3 : v3.cells = #[c3_0,c3_1,c3_2]) {c4_0 c4_1 c4_2 : Value} (h4 : v4.cells = #[c4_0,c4_1,c4_2]) {c5_0 c5_1 c5_2 : Value} (h5 : v5.cells = #[c5_0,c5_1,c5_2])  (w : World) : (Instr.build 115 #[(0,v0),(1,v1),(2,v2),(3,v3),(4,v4),(5,v5)]).run prog w = .ok (.agg #[c0_0,c0_1,c0_2,c1_0,c1_1,c1_2,c2_0,c2_1,c2_2,c3_0,c3_1,c3_2,c4_0,c4_1,c4_2,c5_0,c5_1,c5_2]) w:=iH underlying115 Li xI (by simp [Instr.fill,fG,h0,h1,h2,h3,h4,h5]) w
theorem rX {l : List Value} {ty : TypeId} {x0 x1 x2 x3 x4 x5 : Operand} {c0_0 c0_1 c0_2 : Value} (h0 : (ev l x0).cells = #[c0_0,c0_1,c0_2]) {c1_0 c1_1 c1_2 : Value} (h1 : (ev l x1).cells = #[c1_0,c1_1,c1_2]) {c2_0 c2_1 c2_2 : Value} (h2 : (ev l x2).cells = #[c2_0,c2_1,c2_2]) {c3_0 c3_1 c3_2 : Value} (h3 : (ev l x3).cells = #[c3_0,c3_1,c3_2]) {c4_0 c4_1 c4_2 : Value} (h4 : (ev l x4).cells = #[c4_0,c4_1,c4_2]) {c5_0 c5_1 c5_2 : Value} (h5 : (ev l x5).cells = #[c5_0,c5_1,c5_2]) : gX prog l (.build 115 #[(0,x0),(1,x1),(2,x2),(3,x3),(4,x4),(5,x5)]) ty (.agg #[c0_0,c0_1,c0_2,c1_0,c1_1,c1_2,c2_0,c2_1,c2_2,c3_0,c3_1,c3_2,c4_0,c4_1,c4_2,c5_0,c5_1,c5_2]):=iL (vs:=#[(0,ev l x0),(1,ev l x1),(2,ev l x2),(3,ev l x3),(4,ev l x4),(5,ev l x5)]) (by simp) fun w=>xN h0 h1 h2 h3 h4 h5 w
theorem Ll {v0 v1 v2 : Value} {c0_0 c0_1 : Value} (h0 : v0.cells = #[c0_0,c0_1]) {c1_0 c1_1 : Value} (h1 : v1.cells = #[c1_0,c1_1]) {c2_0 c2_1 : Value} (h2 : v2.cells = #[c2_0,c2_1])  (w : World) : (Instr.build 120 #[(0,v0),(1,v1),(2,v2)]).run prog w = .ok (.agg #[c0_0,c0_1,c1_0,c1_1,c2_0,c2_1]) w:=iH uF Dr aR (by simp [Instr.fill,fG,h0,h1,h2]) w
theorem xO {l : List Value} {ty : TypeId} {x0 x1 x2 : Operand} {c0_0 c0_1 : Value} (h0 : (ev l x0).cells = #[c0_0,c0_1]) {c1_0 c1_1 : Value} (h1 : (ev l x1).cells = #[c1_0,c1_1]) {c2_0 c2_1 : Value} (h2 : (ev l x2).cells = #[c2_0,c2_1]) : gX prog l (.build 120 #[(0,x0),(1,x1),(2,x2)]) ty (.agg #[c0_0,c0_1,c1_0,c1_1,c2_0,c2_1]):=iL (vs:=#[(0,ev l x0),(1,ev l x1),(2,ev l x2)]) (by simp) fun w=>Ll h0 h1 h2 w
theorem Pf (w : World) : ((#[{ name := "from", type:=48,offset:=0,embedded:=false,tag := "", pkgPath := "lithophane/mesh", byteOffset:=0 },{ name := "to", type:=48,offset:=3,embedded:=false,tag := "", pkgPath := "lithophane/mesh", byteOffset:=24 }] : Array Field).mapM fun f=>do pure (f.offset,← sizeOf f.type) : Sem (Array (Nat × Nat))).run prog w = .ok #[(0,3),(3,3)] w:=by
 simp [Array.mapM_eq_mapM_toList,fO aC]
theorem Tz {v0 v1 : Value} {c0_0 c0_1 c0_2 : Value} (h0 : v0.cells = #[c0_0,c0_1,c0_2]) {c1_0 c1_1 c1_2 : Value} (h1 : v1.cells = #[c1_0,c1_1,c1_2])  (w : World) : (Instr.build 143 #[(0,v0),(1,v1)]).run prog w = .ok (.agg #[c0_0,c0_1,c0_2,c1_0,c1_1,c1_2]) w:=eA jQ nE Pf (by simp [Instr.fill,fG,h0,h1]) w
theorem gH {l : List Value} {ty : TypeId} {x0 x1 : Operand} {c0_0 c0_1 c0_2 : Value} (h0 : (ev l x0).cells = #[c0_0,c0_1,c0_2]) {c1_0 c1_1 c1_2 : Value} (h1 : (ev l x1).cells = #[c1_0,c1_1,c1_2]) : gX prog l (.build 143 #[(0,x0),(1,x1)]) ty (.agg #[c0_0,c0_1,c0_2,c1_0,c1_1,c1_2]):=iL (vs:=#[(0,ev l x0),(1,ev l x1)]) (by simp) fun w=>Tz h0 h1 w
theorem Lm {v0 v1 v2 : Value} {c0_0 : Value} (h0 : v0.cells = #[c0_0]) {c1_0 : Value} (h1 : v1.cells = #[c1_0]) {c2_0 : Value} (h2 : v2.cells = #[c2_0])  (w : World) : (Instr.build 150 #[(0,v0),(1,v1),(2,v2)]).run prog w = .ok (.agg #[c0_0,c1_0,c2_0]) w:=iH underlying150 Ds vC (by simp [Instr.fill,fG,h0,h1,h2]) w
theorem qQ {l : List Value} {ty : TypeId} {x0 x1 x2 : Operand} {c0_0 : Value} (h0 : (ev l x0).cells = #[c0_0]) {c1_0 : Value} (h1 : (ev l x1).cells = #[c1_0]) {c2_0 : Value} (h2 : (ev l x2).cells = #[c2_0]) : gX prog l (.build 150 #[(0,x0),(1,x1),(2,x2)]) ty (.agg #[c0_0,c1_0,c2_0]):=iL (vs:=#[(0,ev l x0),(1,ev l x1),(2,ev l x2)]) (by simp) fun w=>Lm h0 h1 h2 w
theorem Ln {v0 v1 v2 : Value} {c0_0 c0_1 c0_2 c0_3 c0_4 c0_5 : Value} (h0 : v0.cells = #[c0_0,c0_1,c0_2,c0_3,c0_4,c0_5]) {c1_0 c1_1 c1_2 c1_3 c1_4 c1_5 : Value} (h1 : v1.cells = #[c1_0,c1_1,c1_2,c1_3,c1_4,c1_5]) {c2_0 c2_1 c2_2 c2_3 c2_4 c2_5 : Value} (h2 : v2.cells = #[c2_0,c2_1,c2_2,c2_3,c2_4,c2_5])  (w : World) : (Instr.build 169 #[(0,v0),(1,v1),(2,v2)]).run prog w = .ok (.agg #[c0_0,c0_1,c0_2,c0_3,c0_4,c0_5,c1_0,c1_1,c1_2,c1_3,c1_4,c1_5,c2_0,c2_1,c2_2,c2_3,c2_4,c2_5]) w:=iH underlying169 Lj eB (by simp [Instr.fill,fG,h0,h1,h2]) w
theorem xP {l : List Value} {ty : TypeId} {x0 x1 x2 : Operand} {c0_0 c0_1 c0_2 c0_3 c0_4 c0_5 : Value} (h0 : (ev l x0).cells = #[c0_0,c0_1,c0_2,c0_3,c0_4,c0_5]) {c1_0 c1_1 c1_2 c1_3 c1_4 c1_5 : Value} (h1 : (ev l x1).cells = #[c1_0,c1_1,c1_2,c1_3,c1_4,c1_5]) {c2_0 c2_1 c2_2 c2_3 c2_4 c2_5 : Value} (h2 : (ev l x2).cells = #[c2_0,c2_1,c2_2,c2_3,c2_4,c2_5]) : gX prog l (.build 169 #[(0,x0),(1,x1),(2,x2)]) ty (.agg #[c0_0,c0_1,c0_2,c0_3,c0_4,c0_5,c1_0,c1_1,c1_2,c1_3,c1_4,c1_5,c2_0,c2_1,c2_2,c2_3,c2_4,c2_5]):=iL (vs:=#[(0,ev l x0),(1,ev l x1),(2,ev l x2)]) (by simp) fun w=>Ln h0 h1 h2 w
theorem rA (d : Nat) {x0 y0 : Int} {x1 y1 : Int} {x2 y2 : Int} : tJ prog (d + 2) 48 (.agg #[.int .i64 x0,.int .i64 x1,.int .i64 x2]) (.agg #[.int .i64 y0,.int .i64 y1,.int .i64 y2]) (x0 = y0 ∧ x1 = y1 ∧ x2 = y2):=(tJ.struct dW (by kernel_rfl) (vM.cons (by decide) (dR bZ rfl) (dR bZ rfl) (tJ.int (d:=d + 0) iT) (vM.cons (by decide) (dR bZ rfl) (dR bZ rfl) (tJ.int (d:=d + 0) iT) (vM.cons (by decide) (dR bZ rfl) (dR bZ rfl) (tJ.int (d:=d + 0) iT) vM.nil)))).iff (by simp only[and_assoc,and_true])
theorem aW {l : List Value} {ty T' : TypeId} {x y : Operand} {x0 y0 : Int} {x1 y1 : Int} {x2 y2 : Int} (hx : ev l x = (.agg #[.int .i64 x0,.int .i64 x1,.int .i64 x2])) (hy : ev l y = (.agg #[.int .i64 y0,.int .i64 y1,.int .i64 y2])) : gX prog l (.binOp .eql 48 x y T') ty (.bool (decide (x0 = y0 ∧ x1 = y1 ∧ x2 = y2))):=Oc (by kernel_rfl) hx hy (rA 9998)
theorem fW {l : List Value} {ty T' : TypeId} {x y : Operand} {x0 y0 : Int} {x1 y1 : Int} {x2 y2 : Int} (hx : ev l x = (.agg #[.int .i64 x0,.int .i64 x1,.int .i64 x2])) (hy : ev l y = (.agg #[.int .i64 y0,.int .i64 y1,.int .i64 y2])) : gX prog l (.binOp .neq 48 x y T') ty (.bool (decide (¬ (x0 = y0 ∧ x1 = y1 ∧ x2 = y2)))):=Od (by kernel_rfl) hx hy (rA 9998)
theorem Yq (d : Nat) {x0 y0 : Int} {x1 y1 : Int} {x2 y2 : Int} {x3 y3 : Int} {x4 y4 : Int} {x5 y5 : Int} {x6 y6 : Int} {x7 y7 : Int} {x8 y8 : Int} : tJ prog (d + 3) 53 (.agg #[.int .i64 x0,.int .i64 x1,.int .i64 x2,.int .i64 x3,.int .i64 x4,.int .i64 x5,.int .i64 x6,.int .i64 x7,.int .i64 x8]) (.agg #[.int .i64 y0,.int .i64 y1,.int .i64 y2,.int .i64 y3,.int .i64 y4,.int .i64 y5,.int .i64 y6,.int .i64 y7,.int .i64 y8]) (x0 = y0 ∧ x1 = y1 ∧ x2 = y2 ∧ x3 = y3 ∧ x4 = y4 ∧ x5 = y5 ∧ x6 = y6 ∧ x7 = y7 ∧ x8 = y8):=(tJ.array aY aC (yO.cons (fP aJ aC rfl) (fP aJ aC rfl) (rA (d + 0)) (yO.cons (fP aJ aC rfl) (fP aJ aC rfl) (rA (d + 0)) (yO.cons (fP aJ aC rfl) (fP aJ aC rfl) (rA (d + 0)) yO.nil)))).iff (by simp only[and_assoc,and_true])
theorem Ua {l : List Value} {ty T' : TypeId} {x y : Operand} {x0 y0 : Int} {x1 y1 : Int} {x2 y2 : Int} {x3 y3 : Int} {x4 y4 : Int} {x5 y5 : Int} {x6 y6 : Int} {x7 y7 : Int} {x8 y8 : Int} (hx : ev l x = (.agg #[.int .i64 x0,.int .i64 x1,.int .i64 x2,.int .i64 x3,.int .i64 x4,.int .i64 x5,.int .i64 x6,.int .i64 x7,.int .i64 x8])) (hy : ev l y = (.agg #[.int .i64 y0,.int .i64 y1,.int .i64 y2,.int .i64 y3,.int .i64 y4,.int .i64 y5,.int .i64 y6,.int .i64 y7,.int .i64 y8])) : gX prog l (.binOp .eql 53 x y T') ty (.bool (decide (x0 = y0 ∧ x1 = y1 ∧ x2 = y2 ∧ x3 = y3 ∧ x4 = y4 ∧ x5 = y5 ∧ x6 = y6 ∧ x7 = y7 ∧ x8 = y8))):=Oc (by kernel_rfl) hx hy (Yq 9997)
theorem Pg (d : Nat) {x0 y0 : Int} {x1 y1 : Int} {x2 y2 : Int} {x3 y3 : Int} {x4 y4 : Int} {x5 y5 : Int} : tJ prog (d + 3) 57 (.agg #[.int .i64 x0,.int .i64 x1,.int .i64 x2,.int .i64 x3,.int .i64 x4,.int .i64 x5]) (.agg #[.int .i64 y0,.int .i64 y1,.int .i64 y2,.int .i64 y3,.int .i64 y4,.int .i64 y5]) (x0 = y0 ∧ x1 = y1 ∧ x2 = y2 ∧ x3 = y3 ∧ x4 = y4 ∧ x5 = y5):=(tJ.array cH aC (yO.cons (fP aJ aC rfl) (fP aJ aC rfl) (rA (d + 0)) (yO.cons (fP aJ aC rfl) (fP aJ aC rfl) (rA (d + 0)) yO.nil))).iff (by simp only[and_assoc,and_true])
theorem Ub {l : List Value} {ty T' : TypeId} {x y : Operand} {x0 y0 : Int} {x1 y1 : Int} {x2 y2 : Int} {x3 y3 : Int} {x4 y4 : Int} {x5 y5 : Int} (hx : ev l x = (.agg #[.int .i64 x0,.int .i64 x1,.int .i64 x2,.int .i64 x3,.int .i64 x4,.int .i64 x5])) (hy : ev l y = (.agg #[.int .i64 y0,.int .i64 y1,.int .i64 y2,.int .i64 y3,.int .i64 y4,.int .i64 y5])) : gX prog l (.binOp .eql 57 x y T') ty (.bool (decide (x0 = y0 ∧ x1 = y1 ∧ x2 = y2 ∧ x3 = y3 ∧ x4 = y4 ∧ x5 = y5))):=Oc (by kernel_rfl) hx hy (Pg 9997)
theorem Hd {l : List Value} {ty T' : TypeId} {x y : Operand} {x0 y0 : Int} {x1 y1 : Int} {x2 y2 : Int} {x3 y3 : Int} {x4 y4 : Int} {x5 y5 : Int} (hx : ev l x = (.agg #[.int .i64 x0,.int .i64 x1,.int .i64 x2,.int .i64 x3,.int .i64 x4,.int .i64 x5])) (hy : ev l y = (.agg #[.int .i64 y0,.int .i64 y1,.int .i64 y2,.int .i64 y3,.int .i64 y4,.int .i64 y5])) : gX prog l (.binOp .neq 57 x y T') ty (.bool (decide (¬ (x0 = y0 ∧ x1 = y1 ∧ x2 = y2 ∧ x3 = y3 ∧ x4 = y4 ∧ x5 = y5)))):=Od (by kernel_rfl) hx hy (Pg 9997)
theorem adj (d : Nat) {x0 y0 : Bool} {x1 y1 : ByteArray} : tJ prog (d + 2) 65 (.agg #[.bool x0,.string x1]) (.agg #[.bool y0,.string y1]) (x0 = y0 ∧ x1 = y1):=(tJ.struct gG (by kernel_rfl) (vM.cons (by decide) (dR jG rfl) (dR jG rfl) (tJ.bool (d:=d + 0) Oy) (vM.cons (by decide) (dR xH rfl) (dR xH rfl) (tJ.str (d:=d + 0) qH) vM.nil))).iff (by simp only[and_assoc,and_true])
theorem Uc {l : List Value} {ty T' : TypeId} {x y : Operand} {x0 y0 : Bool} {x1 y1 : ByteArray} (hx : ev l x = (.agg #[.bool x0,.string x1])) (hy : ev l y = (.agg #[.bool y0,.string y1])) : gX prog l (.binOp .neq 65 x y T') ty (.bool (decide (¬ (x0 = y0 ∧ x1 = y1)))):=Od (by kernel_rfl) hx hy (adj 9998)
theorem abg (d : Nat) {x0 y0 : Int} {x1 y1 : Int} {x2 y2 : Int} {x3 y3 : Int} {x4 y4 : Int} {x5 y5 : Int} : tJ prog (d + 3) 143 (.agg #[.int .i64 x0,.int .i64 x1,.int .i64 x2,.int .i64 x3,.int .i64 x4,.int .i64 x5]) (.agg #[.int .i64 y0,.int .i64 y1,.int .i64 y2,.int .i64 y3,.int .i64 y4,.int .i64 y5]) (x0 = y0 ∧ x1 = y1 ∧ x2 = y2 ∧ x3 = y3 ∧ x4 = y4 ∧ x5 = y5):=(tJ.struct jQ (by kernel_rfl) (vM.cons (by decide) (fP aJ aC rfl) (fP aJ aC rfl) (rA (d + 0)) (vM.cons (by decide) (fP aJ aC rfl) (fP aJ aC rfl) (rA (d + 0)) vM.nil))).iff (by simp only[and_assoc,and_true])
end Go.Proofs.YtfohfflkhpfjeaaGreatDoor
namespace Go.Proofs.YtfohfflkhpfjeaaGreatDoor
open Go.Proofs.Tryz
open Go.RowKit Go.Lith
theorem kD {l : List Value} {ty : TypeId} {x y : Operand} {k : IntKind} {c0 c1 c2 c3 c4 c5 c6 c7 c8 : Value} (hx : ev l x = .agg #[c0,c1,c2,c3,c4,c5,c6,c7,c8]) (hy : ev l y = .int k 0) : gX prog l (.index 53 x y) ty (.agg #[c0,c1,c2]):=rL aY aJ aC hx hy (by decide) (by decide) rfl
theorem kE {l : List Value} {ty : TypeId} {x y : Operand} {k : IntKind} {c0 c1 c2 c3 c4 c5 c6 c7 c8 : Value} (hx : ev l x = .agg #[c0,c1,c2,c3,c4,c5,c6,c7,c8]) (hy : ev l y = .int k 1) : gX prog l (.index 53 x y) ty (.agg #[c3,c4,c5]):=rL aY aJ aC hx hy (by decide) (by decide) rfl
theorem kF {l : List Value} {ty : TypeId} {x y : Operand} {k : IntKind} {c0 c1 c2 c3 c4 c5 c6 c7 c8 : Value} (hx : ev l x = .agg #[c0,c1,c2,c3,c4,c5,c6,c7,c8]) (hy : ev l y = .int k 2) : gX prog l (.index 53 x y) ty (.agg #[c6,c7,c8]):=rL aY aJ aC hx hy (by decide) (by decide) rfl
theorem vU {l : List Value} {ty : TypeId} {x y : Operand} {k : IntKind} {c0 c1 c2 : Value} (hx : ev l x = .agg #[c0,c1,c2]) (hy : ev l y = .int k 0) : gX prog l (.index 150 x y) ty c0:=Cp underlying150 Jf vC hx hy (by decide) (by decide) rfl
theorem vV {l : List Value} {ty : TypeId} {x y : Operand} {k : IntKind} {c0 c1 c2 : Value} (hx : ev l x = .agg #[c0,c1,c2]) (hy : ev l y = .int k 1) : gX prog l (.index 150 x y) ty c1:=Cp underlying150 Jf vC hx hy (by decide) (by decide) rfl
theorem vW {l : List Value} {ty : TypeId} {x y : Operand} {k : IntKind} {c0 c1 c2 : Value} (hx : ev l x = .agg #[c0,c1,c2]) (hy : ev l y = .int k 2) : gX prog l (.index 150 x y) ty c2:=Cp underlying150 Jf vC hx hy (by decide) (by decide) rfl
theorem Ga {l : List Value} {ty : TypeId} {x y : Operand} {k : IntKind} {c0 c1 c2 c3 c4 c5 c6 c7 c8 c9 c10 c11 c12 c13 c14 c15 c16 c17 : Value} (hx : ev l x = .agg #[c0,c1,c2,c3,c4,c5,c6,c7,c8,c9,c10,c11,c12,c13,c14,c15,c16,c17]) (hy : ev l y = .int k 0) : gX prog l (.index 169 x y) ty (.agg #[c0,c1,c2,c3,c4,c5]):=rL underlying169 kC eB hx hy (by decide) (by decide) rfl
theorem Gb {l : List Value} {ty : TypeId} {x y : Operand} {k : IntKind} {c0 c1 c2 c3 c4 c5 c6 c7 c8 c9 c10 c11 c12 c13 c14 c15 c16 c17 : Value} (hx : ev l x = .agg #[c0,c1,c2,c3,c4,c5,c6,c7,c8,c9,c10,c11,c12,c13,c14,c15,c16,c17]) (hy : ev l y = .int k 1) : gX prog l (.index 169 x y) ty (.agg #[c6,c7,c8,c9,c10,c11]):=rL underlying169 kC eB hx hy (by decide) (by decide) rfl
theorem Gc {l : List Value} {ty : TypeId} {x y : Operand} {k : IntKind} {c0 c1 c2 c3 c4 c5 c6 c7 c8 c9 c10 c11 c12 c13 c14 c15 c16 c17 : Value} (hx : ev l x = .agg #[c0,c1,c2,c3,c4,c5,c6,c7,c8,c9,c10,c11,c12,c13,c14,c15,c16,c17]) (hy : ev l y = .int k 2) : gX prog l (.index 169 x y) ty (.agg #[c12,c13,c14,c15,c16,c17]):=rL underlying169 kC eB hx hy (by decide) (by decide) rfl
theorem mO {ds : List Deferred} {l : List Value} {ty : TypeId} {ops : Array Oper} {Q : Exit → Act → World → Prop} {rest : List Oper} {d : Nat} {pos : String} {after : Array Edge} {w : World} {x0 : Operand} {c0_0 c0_1 c0_2 c0_3 c0_4 c0_5 c0_6 c0_7 c0_8 : Value} (h0 : (ev l x0).cells = #[c0_0,c0_1,c0_2,c0_3,c0_4,c0_5,c0_6,c0_7,c0_8]) (h : ∀ w' g,dK w w' → w.heap.size ≤ g → gD w' g [c0_0,c0_1,c0_2,c0_3,c0_4,c0_5,c0_6,c0_7,c0_8] 53 → wpList prog ops Q rest (Fr (l.set d (.slice (some ⟨g,0,none⟩) 1 1)) ds) w') : wpList prog ops Q (Oper.mk (some d) (.buildSlice 29 1 #[(0,x0)]) ty pos after none :: rest) (Fr l ds) w :=
 lO (vs:=#[(0,ev l x0)]) (base:=#[.int .i64 0,.int .i64 0,.int .i64 0,.int .i64 0,.int .i64 0,.int .i64 0,.int .i64 0,.int .i64 0,.int .i64 0]) (c:=9) (z:=(.agg #[.int .i64 0,.int .i64 0,.int .i64 0,.int .i64 0,.int .i64 0,.int .i64 0,.int .i64 0,.int .i64 0,.int .i64 0])) bV (by kernel_rfl) (by decide) (by decide) (by kernel_rfl) (by simp) (by simp [Instr.fill,h0]) h
theorem He {ds : List Deferred} {l : List Value} {ty : TypeId} {ops : Array Oper} {Q : Exit → Act → World → Prop} {rest : List Oper} {d : Nat} {pos : String} {after : Array Edge} {w : World} {x0 x1 : Operand} {c0_0 c0_1 c0_2 c0_3 c0_4 c0_5 c0_6 c0_7 c0_8 c1_0 c1_1 c1_2 c1_3 c1_4 c1_5 c1_6 c1_7 c1_8 : Value} (h0 : (ev l x0).cells = #[c0_0,c0_1,c0_2,c0_3,c0_4,c0_5,c0_6,c0_7,c0_8]) (h1 : (ev l x1).cells = #[c1_0,c1_1,c1_2,c1_3,c1_4,c1_5,c1_6,c1_7,c1_8]) (h : ∀ w' g,dK w w' → w.heap.size ≤ g → gD w' g [c0_0,c0_1,c0_2,c0_3,c0_4,c0_5,c0_6,c0_7,c0_8,c1_0,c1_1,c1_2,c1_3,c1_4,c1_5,c1_6,c1_7,c1_8] 53 → wpList prog ops Q rest (Fr (l.set d (.slice (some ⟨g,0,none⟩) 2 2)) ds) w') : wpList prog ops Q (Oper.mk (some d) (.buildSlice 29 2 #[(0,x0),(1,x1)]) ty pos after none :: rest) (Fr l ds) w :=
 lO (vs:=#[(0,ev l x0),(1,ev l x1)]) (base:=#[.int .i64 0,.int .i64 0,.int .i64 0,.int .i64 0,.int .i64 0,.int .i64 0,.int .i64 0,.int .i64 0,.int .i64 0,.int .i64 0,.int .i64 0,.int .i64 0,.int .i64 0,.int .i64 0,.int .i64 0,.int .i64 0,.int .i64 0,.int .i64 0]) (c:=9) (z:=(.agg #[.int .i64 0,.int .i64 0,.int .i64 0,.int .i64 0,.int .i64 0,.int .i64 0,.int .i64 0,.int .i64 0,.int .i64 0])) bV (by kernel_rfl) (by decide) (by decide) (by kernel_rfl) (by simp) (by simp [Instr.fill,h0,h1]) h
theorem Ud {ds : List Deferred} {l : List Value} {ty : TypeId} {ops : Array Oper} {Q : Exit → Act → World → Prop} {rest : List Oper} {d : Nat} {pos : String} {after : Array Edge} {w : World} {x0 x1 x2 x3 : Operand} {c0_0 c0_1 c0_2 c0_3 c0_4 c0_5 c0_6 c0_7 c0_8 c1_0 c1_1 c1_2 c1_3 c1_4 c1_5 c1_6 c1_7 c1_8 c2_0 c2_1 c2_2 c2_3 c2_4 c2_5 c2_6 c2_7 c2_8 c3_0 c3_1 c3_2 c3_3 c3_4 c3_5 c3_6 c3_7 c3_8 : Value} (h0 : (ev l x0).cells = #[c0_0,c0_1,c0_2,c0_3,c0_4,c0_5,c0_6,c0_7,c0_8]) (h1 : (ev l x1).cells = #[c1_0,c1_1,c1_2,c1_3,c1_4,c1_5,c1_6,c1_7,c1_8]) (h2 : (ev l x2).cells = #[c2_0,c2_1,c2_2,c2_3,c2_4,c2_5,c2_6,c2_7,c2_8]) (h3 : (ev l x3).cells = #[c3_0,c3_1,c3_2,c3_3,c3_4,c3_5,c3_6,c3_7,c3_8]) (h : ∀ w' g,dK w w' → w.heap.size ≤ g → gD w' g [c0_0,c0_1,c0_2,c0_3,c0_4,c0_5,c0_6,c0_7,c0_8,c1_0,c1_1,c1_2,c1_3,c1_4,c1_5,c1_6,c1_7,c1_8,c2_0,c2_1,c2_2,c2_3,c2_4,c2_5,c2_6,c2_7,c2_8,c3_0,c3_1,c3_2,c3_3,c3_4,c3_5,c3_6,c3_7,c3_8] 53 → wpList prog ops Q rest (Fr (l.set d (.slice (some ⟨g,0,none⟩) 4 4)) ds) w') : wpList prog ops Q (Oper.mk (some d) (.buildSlice 29 4 #[(0,x0),(1,x1),(2,x2),(3,x3)]) ty pos after none :: rest) (Fr l ds) w :=
 lO (vs:=#[(0,ev l x0),(1,ev l x1),(2,ev l x2),(3,ev l x3)]) (base:=#[.int .i64 0,.int .i64 0,.int .i64 0,.int .i64 0,.int .i64 0,.int .i64 0,.int .i64 0,.int .i64 0,.int .i64 0,.int .i64 0,.int .i64 0,.int .i64 0,.int .i64 0,.int .i64 0,.int .i64 0,.int .i64 0,.int .i64 0,.int .i64 0,.int .i64 0,.int .i64 0,.int .i64 0,.int .i64 0,.int .i64 0,.int .i64 0,.int .i64 0,.int .i64 0,.int .i64 0,.int .i64 0,.int .i64 0,.int .i64 0,.int .i64 0,.int .i64 0,.int .i64 0,.int .i64 0,.int .i64 0,.int .i64 0]) (c:=9) (z:=(.agg #[.int .i64 0,.int .i64 0,.int .i64 0,.int .i64 0,.int .i64 0,.int .i64 0,.int .i64 0,.int .i64 0,.int .i64 0])) bV (by kernel_rfl) (by decide) (by decide) (by kernel_rfl) (by simp) (by simp [Instr.fill,h0,h1,h2,h3]) h
theorem Ue {ds : List Deferred} {l : List Value} {ty : TypeId} {ops : Array Oper} {Q : Exit → Act → World → Prop} {rest : List Oper} {d : Nat} {pos : String} {after : Array Edge} {w : World} {x0 x1 x2 x3 x4 x5 : Operand} {c0_0 c0_1 c0_2 c0_3 c0_4 c0_5 c0_6 c0_7 c0_8 c1_0 c1_1 c1_2 c1_3 c1_4 c1_5 c1_6 c1_7 c1_8 c2_0 c2_1 c2_2 c2_3 c2_4 c2_5 c2_6 c2_7 c2_8 c3_0 c3_1 c3_2 c3_3 c3_4 c3_5 c3_6 c3_7 c3_8 c4_0 c4_1 c4_2 c4_3 c4_4 c4_5 c4_6 c4_7 c4_8 c5_0 c5_1 c5_2 c5_3 c5_4 c5_5 c5_6 c5_7 c5_8 : Value} (h0 : (ev l x0).cells = #[c0_0,c0_1,c0_2,c0_3,c0_4,c0_5,c0_6,c0_7,c0_8]) (h1 : (ev l x1).cells = #[c1_0,c1_1,c1_2,c1_3,c1_4,c1_5,c1_6,c1_7,c1_8]) (h2 : (ev l x2).cells = #[c2_0,c2_1,c2_2,c2_3,c2_4,c2_5,c2_6,c2_7,c2_8]) (h3 : (ev l x3).cells = #[c3_0,c3_1,c3_2,c3_3,c3_4,c3_5,c3_6,c3_7,c3_8]) (h4 : (ev l x4).cells = #[c4_0,c4_1,c4_2,c4_3,c4_4,c4_5,c4_6,c4_7,c4_8]) (h5 : (ev l x5).cells = #[c5_0,c5_1,c5_2,c5_3,c5_4,c5_5,c5_6,c5_7,c5_8]) (h : ∀ w' g,dK w w' → w.heap.size ≤ g → gD w' g [c0_0,c0_1,c0_2,c0_3,c0_4,c0_5,c0_6,c0_7,c0_8,c1_0,c1_1,c1_2,c1_3,c1_4,c1_5,c1_6,c1_7,c1_8,c2_0,c2_1,c2_2,c2_3,c2_4,c2_5,c2_6,c2_7,c2_8,c3_0,c3_1,c3_2,c3_3,c3_4,c3_5,c3_6,c3_7,c3_8,c4_0,c4_1,c4_2,c4_3,c4_4,c4_5,c4_6,c4_7,c4_8,c5_0,c5_1,c5_2,c5_3,c5_4,c5_5,c5_6,c5_7,c5_8] 53 → wpList prog ops Q rest (Fr (l.set d (.slice (some ⟨g,0,none⟩) 6 6)) ds) w') : wpList prog ops Q (Oper.mk (some d) (.buildSlice 29 6 #[(0,x0),(1,x1),(2,x2),(3,x3),(4,x4),(5,x5)]) ty pos after none :: rest) (Fr l ds) w :=
 lO (vs:=#[(0,ev l x0),(1,ev l x1),(2,ev l x2),(3,ev l x3),(4,ev l x4),(5,ev l x5)]) (base:=#[.int .i64 0,.int .i64 0,.int .i64 0,.int .i64 0,.int .i64 0,.int .i64 0,.int .i64 0,.int .i64 0,.int .i64 0,.int .i64 0,.int .i64 0,.int .i64 0,.int .i64 0,.int .i64 0,.int .i64 0,.int .i64 0,.int .i64 0,.int .i64 0,.int .i64 0,.int .i64 0,.int .i64 0,.int .i64 0,.int .i64 0,.int .i64 0,.int .i64 0,.int .i64 0,.int .i64 0,.int .i64 0,.int .i64 0,.int .i64 0,.int .i64 0,.int .i64 0,.int .i64 0,.int .i64 0,.int .i64 0,.int .i64 0,.int .i64 0,.int .i64 0,.int .i64 0,.int .i64 0,.int .i64 0,.int .i64 0,.int .i64 0,.int .i64 0,.int .i64 0,.int .i64 0,.int .i64 0,.int .i64 0,.int .i64 0,.int .i64 0,.int .i64 0,.int .i64 0,.int .i64 0,.int .i64 0]) (c:=9) (z:=(.agg #[.int .i64 0,.int .i64 0,.int .i64 0,.int .i64 0,.int .i64 0,.int .i64 0,.int .i64 0,.int .i64 0,.int .i64 0])) bV (by kernel_rfl) (by decide) (by decide) (by kernel_rfl) (by simp) (by simp [Instr.fill,h0,h1,h2,h3,h4,h5]) h
theorem pM {ds : List Deferred} {l : List Value} {ty : TypeId} {ops : Array Oper} {Q : Exit → Act → World → Prop} {rest : List Oper} {d : Nat} {pos : String} {after : Array Edge} {w : World} {x0 : Operand} {c0_0 c0_1 c0_2 c0_3 c0_4 c0_5 : Value} (h0 : (ev l x0).cells = #[c0_0,c0_1,c0_2,c0_3,c0_4,c0_5]) (h : ∀ w' g,dK w w' → w.heap.size ≤ g → gD w' g [c0_0,c0_1,c0_2,c0_3,c0_4,c0_5] 50 → wpList prog ops Q rest (Fr (l.set d (.slice (some ⟨g,0,none⟩) 1 1)) ds) w') : wpList prog ops Q (Oper.mk (some d) (.buildSlice 30 1 #[(0,x0)]) ty pos after none :: rest) (Fr l ds) w :=
 lO (vs:=#[(0,ev l x0)]) (base:=#[.int .i64 0,.int .i64 0,.int .i64 0,.int .i64 0,.int .i64 0,.int .i64 0]) (c:=6) (z:=(.agg #[.int .i64 0,.int .i64 0,.int .i64 0,.int .i64 0,.int .i64 0,.int .i64 0])) kJ (by kernel_rfl) (by decide) (by decide) (by kernel_rfl) (by simp) (by simp [Instr.fill,h0]) h
theorem yU {ds : List Deferred} {l : List Value} {ty : TypeId} {ops : Array Oper} {Q : Exit → Act → World → Prop} {rest : List Oper} {d : Nat} {pos : String} {after : Array Edge} {w : World} {x0 : Operand} {c0_0 c0_1 c0_2 c0_3 c0_4 c0_5 : Value} (h0 : (ev l x0).cells = #[c0_0,c0_1,c0_2,c0_3,c0_4,c0_5]) (h : ∀ w' g,dK w w' → w.heap.size ≤ g → gD w' g [c0_0,c0_1,c0_2,c0_3,c0_4,c0_5] 57 → wpList prog ops Q rest (Fr (l.set d (.slice (some ⟨g,0,none⟩) 1 1)) ds) w') : wpList prog ops Q (Oper.mk (some d) (.buildSlice 41 1 #[(0,x0)]) ty pos after none :: rest) (Fr l ds) w :=
 lO (vs:=#[(0,ev l x0)]) (base:=#[.int .i64 0,.int .i64 0,.int .i64 0,.int .i64 0,.int .i64 0,.int .i64 0]) (c:=6) (z:=(.agg #[.int .i64 0,.int .i64 0,.int .i64 0,.int .i64 0,.int .i64 0,.int .i64 0])) eU (by kernel_rfl) (by decide) (by decide) (by kernel_rfl) (by simp) (by simp [Instr.fill,h0]) h
theorem Hf {ds : List Deferred} {l : List Value} {ty : TypeId} {ops : Array Oper} {Q : Exit → Act → World → Prop} {rest : List Oper} {d : Nat} {pos : String} {after : Array Edge} {w : World} {x0 x1 x2 : Operand} {c0_0 c0_1 c0_2 c0_3 c0_4 c0_5 c1_0 c1_1 c1_2 c1_3 c1_4 c1_5 c2_0 c2_1 c2_2 c2_3 c2_4 c2_5 : Value} (h0 : (ev l x0).cells = #[c0_0,c0_1,c0_2,c0_3,c0_4,c0_5]) (h1 : (ev l x1).cells = #[c1_0,c1_1,c1_2,c1_3,c1_4,c1_5]) (h2 : (ev l x2).cells = #[c2_0,c2_1,c2_2,c2_3,c2_4,c2_5]) (h : ∀ w' g,dK w w' → w.heap.size ≤ g → gD w' g [c0_0,c0_1,c0_2,c0_3,c0_4,c0_5,c1_0,c1_1,c1_2,c1_3,c1_4,c1_5,c2_0,c2_1,c2_2,c2_3,c2_4,c2_5] 57 → wpList prog ops Q rest (Fr (l.set d (.slice (some ⟨g,0,none⟩) 3 3)) ds) w') : wpList prog ops Q (Oper.mk (some d) (.buildSlice 41 3 #[(0,x0),(1,x1),(2,x2)]) ty pos after none :: rest) (Fr l ds) w :=
 lO (vs:=#[(0,ev l x0),(1,ev l x1),(2,ev l x2)]) (base:=#[.int .i64 0,.int .i64 0,.int .i64 0,.int .i64 0,.int .i64 0,.int .i64 0,.int .i64 0,.int .i64 0,.int .i64 0,.int .i64 0,.int .i64 0,.int .i64 0,.int .i64 0,.int .i64 0,.int .i64 0,.int .i64 0,.int .i64 0,.int .i64 0]) (c:=6) (z:=(.agg #[.int .i64 0,.int .i64 0,.int .i64 0,.int .i64 0,.int .i64 0,.int .i64 0])) eU (by kernel_rfl) (by decide) (by decide) (by kernel_rfl) (by simp) (by simp [Instr.fill,h0,h1,h2]) h
theorem Uf {ds : List Deferred} {l : List Value} {ty : TypeId} {ops : Array Oper} {Q : Exit → Act → World → Prop} {rest : List Oper} {d : Nat} {pos : String} {after : Array Edge} {w : World} {x0 x1 x2 x3 x4 : Operand} {c0_0 c1_0 c2_0 c3_0 c4_0 : Value} (h0 : (ev l x0).cells = #[c0_0]) (h1 : (ev l x1).cells = #[c1_0]) (h2 : (ev l x2).cells = #[c2_0]) (h3 : (ev l x3).cells = #[c3_0]) (h4 : (ev l x4).cells = #[c4_0]) (h : ∀ w' g,dK w w' → w.heap.size ≤ g → gD w' g [c0_0,c1_0,c2_0,c3_0,c4_0] 76 → wpList prog ops Q rest (Fr (l.set d (.slice (some ⟨g,0,none⟩) 5 5)) ds) w') : wpList prog ops Q (Oper.mk (some d) (.buildSlice 77 5 #[(0,x0),(1,x1),(2,x2),(3,x3),(4,x4)]) ty pos after none :: rest) (Fr l ds) w :=
 lO (vs:=#[(0,ev l x0),(1,ev l x1),(2,ev l x2),(3,ev l x3),(4,ev l x4)]) (base:=#[.nilFunc,.nilFunc,.nilFunc,.nilFunc,.nilFunc]) (c:=1) (z:=(.agg #[.nilFunc])) Dn (by kernel_rfl) (by decide) (by decide) (by kernel_rfl) (by simp) (by simp [Instr.fill,h0,h1,h2,h3,h4]) h
theorem vE {ds : List Deferred} {l : List Value} {ty : TypeId} {ops : Array Oper} {Q : Exit → Act → World → Prop} {rest : List Oper} {d : Nat} {pos : String} {after : Array Edge} {w : World} {x0 : Operand} {c0_0 c0_1 c0_2 : Value} (h0 : (ev l x0).cells = #[c0_0,c0_1,c0_2]) (h : ∀ w' g,dK w w' → w.heap.size ≤ g → gD w' g [c0_0,c0_1,c0_2] 48 → wpList prog ops Q rest (Fr (l.set d (.slice (some ⟨g,0,none⟩) 1 1)) ds) w') : wpList prog ops Q (Oper.mk (some d) (.buildSlice 98 1 #[(0,x0)]) ty pos after none :: rest) (Fr l ds) w :=
 lO (vs:=#[(0,ev l x0)]) (base:=#[.int .i64 0,.int .i64 0,.int .i64 0]) (c:=3) (z:=(.agg #[.int .i64 0,.int .i64 0,.int .i64 0])) kK (by kernel_rfl) (by decide) (by decide) (by kernel_rfl) (by simp) (by simp [Instr.fill,h0]) h
theorem Ph {ds : List Deferred} {l : List Value} {ty : TypeId} {ops : Array Oper} {Q : Exit → Act → World → Prop} {rest : List Oper} {d : Nat} {pos : String} {after : Array Edge} {w : World} {x0 : Operand} {c0_0 c0_1 c0_2 c0_3 c0_4 c0_5 : Value} (h0 : (ev l x0).cells = #[c0_0,c0_1,c0_2,c0_3,c0_4,c0_5]) (h : ∀ w' g,dK w w' → w.heap.size ≤ g → gD w' g [c0_0,c0_1,c0_2,c0_3,c0_4,c0_5] 143 → wpList prog ops Q rest (Fr (l.set d (.slice (some ⟨g,0,none⟩) 1 1)) ds) w') : wpList prog ops Q (Oper.mk (some d) (.buildSlice 139 1 #[(0,x0)]) ty pos after none :: rest) (Fr l ds) w :=
 lO (vs:=#[(0,ev l x0)]) (base:=#[.int .i64 0,.int .i64 0,.int .i64 0,.int .i64 0,.int .i64 0,.int .i64 0]) (c:=6) (z:=(.agg #[.int .i64 0,.int .i64 0,.int .i64 0,.int .i64 0,.int .i64 0,.int .i64 0])) underlying139 (by kernel_rfl) (by decide) (by decide) (by kernel_rfl) (by simp) (by simp [Instr.fill,h0]) h
end Go.Proofs.YtfohfflkhpfjeaaGreatDoor
namespace Go.Lith
open Go.RowKit
def kO (w : World) (g : Nat) (es : Array MapEntry) (c : Nat) : Prop:=w.heap[g]? = some (.map es c)
def As (w : World) (r g s : Nat) (seen : Array Nat) (c : Nat) : Prop:=w.heap[r]? = some (.mapIter (some g) s seen c)
theorem kO.ext {w w' : World} {g c : Nat} {es : Array MapEntry} (h : kO w g es c) (hE : dK w w') : kO w' g es c:=hE.block h
theorem kO.lt {w : World} {g c : Nat} {es : Array MapEntry} (h : kO w g es c) : g < w.heap.size:=(Array.getElem?_eq_some_iff.1 h).1
theorem As.lt {w : World} {r g s c : Nat} {seen : Array Nat} (h : As w r g s seen c) : r < w.heap.size:=(Array.getElem?_eq_some_iff.1 h).1
section
variable {P : Program} {ds : List Deferred} {l : List Value} {x : Operand} {T ty : TypeId} {ops : Array Oper} {Q : Exit → Act → World → Prop} {rest : List Oper} {d : Nat} {pos : String} {after : Array Edge} {w : World}
theorem Ug (h : ∀ w' g,dK w w' → w.heap.size ≤ g → kO w' g #[] 0 → wpList P ops Q rest (Fr (l.set d (.map (some g))) ds) w') : wpList P ops Q (Oper.mk (some d) (.makeMap T none) ty pos after none :: rest) (Fr l ds) w :=
 kN (w':=w.alloc (.map #[] 0)) (v:=.map (some w.heap.size)) (fun o ho _=>by simp [execOp,ho,Instr.makeMap,newObj,Sem.run]) (h _ _ ((dK.refl w).alloc _) (Nat.le_refl _) (heap_alloc_new w _))
theorem abh {k e : TypeId} {g c : Nat} {es : Array MapEntry} (hu : P.underlying T = some (.map k e)) (hx : ev l x = .map (some g)) (hM : kO w g es c) (h : ∀ w' r,dK w w' → w.heap.size ≤ r → As w' r g c #[] c → wpList P ops Q rest (Fr (l.set d (.pointer (some ⟨r,0,none⟩))) ds) w') :
 wpList P ops Q (Oper.mk (some d) (.range T x) ty pos after none :: rest) (Fr l ds) w :=
 kN (w':=w.alloc (.mapIter (some g) c #[] c)) (v:=.pointer (some ⟨w.heap.size,0,none⟩)) (fun o ho _=>by
  unfold kO at hM;simp [execOp,ho,dD,hx,Instr.range,run_underlying hu,getObj,hM,newObj,Sem.run]) (h _ _ ((dK.refl w).alloc _) (Nat.le_refl _) (heap_alloc_new w _))
end
end Go.Lith
namespace Go.Lith
open Go.RowKit Go.ChangeMaps Go.MapKept
/-! ### Lists of pairs -/
section
variable {K V : Type} [DecidableEq K]
def gL : List (K × V) → K → V → List (K × V)
 | [],k,v=>[(k,v)]
 | x :: D,k,v=>if x.1 = k then (k,v) :: D else x :: gL D k v
def dG : List (K × V) → K → Option V
 | [],_=>none
 | x :: D,k=>if x.1 = k then some x.2 else dG D k
def pY : List (K × V) → K → List (K × V)
 | [],_=>[]
 | x :: D,k=>if x.1 = k then D else x :: pY D k
def nI : List (K × V) → K → Nat → Option (Nat × V)
 | [],_,_=>none
 | x :: D,k,i=>if x.1 = k then some (i,x.2) else nI D k (i + 1)
theorem nT : ∀ (D : List (K × V)) (k : K) (i : Nat),nI D k i = none → dG D k = none ∧ (∀ u,gL D k u = D ++ [(k,u)]) ∧ pY D k = D
 | [],_,_,_=>⟨rfl,fun _=>rfl,rfl⟩
 | x :: D,k,i,h=>by
  unfold nI at h;by_cases e : x.1 = k
  · rw [if_pos e] at h;cases h
  · rw [if_neg e] at h
    obtain ⟨h1,h2,h3⟩:=nT D k (i + 1) h;exact ⟨by simp [dG,e,h1],fun u=>by simp [gL,e,h2],by simp [pY,e,h3]⟩
theorem nU : ∀ (D : List (K × V)) (k : K) (i j : Nat) (v : V),nI D k i = some (j,v) → ∃ p,j = i + p ∧ D[p]? = some (k,v) ∧ dG D k = some v ∧ (∀ u,gL D k u = D.set p (k,u)) ∧ pY D k = D.eraseIdx p
 | [],_,_,_,_,h=>by cases h
 | x :: D,k,i,j,v,h=>by
  unfold nI at h;by_cases e : x.1 = k
  · rw [if_pos e] at h
    cases h;obtain ⟨a,b⟩:=x;obtain rfl : a = k:=e;exact ⟨0,rfl,rfl,by simp [dG],fun u=>by simp [gL],by simp [pY]⟩
  · rw [if_neg e] at h
    obtain ⟨p,h1,h2,h3,h4,h5⟩:=nU D k (i + 1) j v h;exact ⟨p + 1,by omega,by simpa using h2,by simp [dG,e,h3],fun u=>by simp [gL,e,h4],by simp [pY,e,h5]⟩
theorem mP : ∀ (D : List (K × V)) (k k' : K) (v : V),dG (gL D k v) k' = if k = k' then some v else dG D k'
 | [],k,k',v=>by simp [gL,dG]
 | x :: D,k,k',v=>by
  unfold gL;by_cases e : x.1 = k
  · rw [if_pos e]
    subst e;by_cases e' : x.1 = k' <;> simp [dG,e']
  · rw [if_neg e]
    unfold dG;rw [mP D k k' v];by_cases e' : x.1 = k'
    · rw [if_pos e',if_pos e',if_neg (fun h=>e (e'.trans h.symm))]
    · rw [if_neg e',if_neg e']
theorem xQ : ∀ {D : List (K × V)} {k : K} {v : V},dG D k = some v → (k,v) ∈ D
 | [],_,_,h=>by cases h
 | x :: D,k,v,h=>by
  unfold dG at h;split at h
  · rename_i e;cases h;subst e;exact List.mem_cons_self ..
  · exact List.mem_cons_of_mem _ (xQ h)
theorem rY : ∀ {D : List (K × V)} {k : K},dG D k = none ↔ k ∉ D.map (·.1)
 | [],_=>by simp [dG]
 | x :: D,k=>by
  unfold dG;split
  · rename_i e;simp [e]
  · rename_i e
    rw [rY (D:=D)];simp only[List.map_cons,List.mem_cons,not_or];exact ⟨fun h=>⟨fun h'=>e h'.symm,h⟩,fun h=>h.2⟩
theorem mQ : ∀ {D : List (K × V)} {k : K} {v : V},(D.map (·.1)).Nodup → (k,v) ∈ D → dG D k = some v
 | [],_,_,_,h=>by cases h
 | x :: D,k,v,hn,h=>by
  have hn':=List.nodup_cons.1 hn;unfold dG;rcases List.mem_cons.1 h with rfl | h
  · simp
  · rw [if_neg fun e=>hn'.1 (by show x.1 ∈ _;rw [e];exact List.mem_map.2 ⟨_,h,rfl⟩)]
    exact mQ hn'.2 h
theorem yV : ∀ (D : List (K × V)) (k : K) (v : V),(gL D k v).map (·.1) = if k ∈ D.map (·.1) then D.map (·.1) else D.map (·.1) ++ [k]
 | [],k,v=>by simp [gL]
 | x :: D,k,v=>by
  unfold gL;by_cases e : x.1 = k
  · simp [e]
  · have e' : ¬ k = x.1:=fun h=>e h.symm
    simp only[if_neg e,List.map_cons,yV D k v,List.mem_cons,e',false_or];split <;> simp
theorem wL {D : List (K × V)} (h : (D.map (·.1)).Nodup) (k : K) (v : V) : ((gL D k v).map (·.1)).Nodup:=by
 rw [yV];split
 · exact h
 · rename_i hk
   exact List.nodup_append.2 ⟨h,by simp,fun a ha b hb e=>by rw [List.mem_singleton.1 hb] at e;exact hk (e ▸ ha)⟩
theorem Hg : ∀ {D : List (K × V)} (k k' : K),(D.map (·.1)).Nodup → dG (pY D k) k' = if k = k' then none else dG D k'
 | [],k,k',_=>by simp [pY,dG]
 | x :: D,k,k',hn=>by
  have hn':=List.nodup_cons.1 hn;unfold pY;by_cases e : x.1 = k
  · rw [if_pos e]
    by_cases e' : k = k'
    · rw [if_pos e']
      exact rY.2 (by rw [← e',← e];exact hn'.1)
    · rw [if_neg e']
      simp [dG,e,e']
  · rw [if_neg e]
    unfold dG;rw [Hg k k' hn'.2];by_cases e' : x.1 = k'
    · rw [if_pos e',if_pos e',if_neg (fun h=>e (e'.trans h.symm))]
    · rw [if_neg e',if_neg e']
theorem Lo : ∀ (D : List (K × V)) (k : K),(pY D k).Sublist D
 | [],_=>List.Sublist.refl _
 | x :: D,k=>by
  unfold pY;split
  · exact List.sublist_cons_self _ _
  · exact (Lo D k).cons_cons x
theorem Pi {D : List (K × V)} (h : (D.map (·.1)).Nodup) (k : K) : ((pY D k).map (·.1)).Nodup:=h.sublist ((Lo D k).map _)
end
/-! ### A map's entries -/
def Uh (e : MapEntry) : Value × Value:=(e.key,e.val)
structure cS {K V : Type} (ek : K → Value) (ev : V → Value) (D : List (K × V)) (es : Array MapEntry) (c : Nat) : Prop where
 cells : es.toList.map Uh = D.map fun x=>(ek x.1,ev x.2)
 born : ∀ e ∈ es.toList,e.born < c
 nd : (es.toList.map (·.born)).Nodup
theorem cS.nil {K V : Type} (ek : K → Value) (ev : V → Value) : cS ek ev ([] : List (K × V)) #[] 0:=⟨rfl,fun _ h=>by simp at h,by simp⟩
theorem cS.len {K V : Type} {ek : K → Value} {ev : V → Value} {D : List (K × V)} {es : Array MapEntry} {c : Nat} (h : cS ek ev D es c) : es.size = D.length:=by
 have:=congrArg List.length h.cells;simpa using this
structure rB {K : Type} [DecidableEq K] (P : Program) (T : TypeId) (ek : K → Value) : Prop where
 chk : ∀ e k w,(Instr.checkKey e 10000 T (ek k)).run P w = .ok () w
 now : ∃ t,P.underlying T = some t ∧ ∀ a b,Instr.sameNow t (ek a) (ek b) = none ∨ Instr.sameNow t (ek a) (ek b) = some (decide (a = b))
 eq : ∀ a b w,(Op.equal T (ek a) (ek b)).run P w = .ok (decide (a = b)) w
 bits : ∀ a,Instr.sameBits 10000 (ek a) (ek a) = true
section
variable {K V : Type} [DecidableEq K] {P : Program} {T : TypeId} {ek : K → Value} {ev : V → Value}
theorem Au (kt : rB P T ek) (k : K) (w : World) : ∀ (L : List MapEntry) (D : List (K × V)) (i : Nat),L.map Uh = D.map (fun x=>(ek x.1,ev x.2)) →
 (Instr.findAsking T (ek k) L i).run P w = .ok ((nI D k i).map fun p=>(p.1,ev p.2)) w
 | [],D,i,h=>by
  obtain rfl : D = []:=by simpa using h.symm
  simp [Instr.findAsking,nI]
 | e :: L,[],i,h=>by simp at h
 | e :: L,x :: D,i,h=>by
  simp only[List.map_cons,List.cons.injEq,Uh,Prod.mk.injEq] at h;obtain ⟨⟨h1,h2⟩,h3⟩:=h;have ih:=Au kt k w L D (i + 1) h3;unfold Instr.findAsking nI;rw [h1,h2];simp only[Sem.run_bind,kt.eq,Result.andThen];by_cases e' : x.1 = k
  · rw [if_pos (decide_eq_true e'.symm),if_pos e']
    rfl
  · rw [if_neg (by rw [decide_eq_false (Ne.symm e')];exact Bool.false_ne_true),if_neg e']
    exact ih
theorem Lp (t : TypeDesc) (k : K) (hn : ∀ a b : K,Instr.sameNow t (ek a) (ek b) = none ∨ Instr.sameNow t (ek a) (ek b) = some (decide (a = b))) : ∀ (L : List MapEntry) (D : List (K × V)) (i : Nat),L.map Uh = D.map (fun x=>(ek x.1,ev x.2)) →
 Instr.findNow t (ek k) L i = none ∨ Instr.findNow t (ek k) L i = some ((nI D k i).map fun p=>(p.1,ev p.2))
 | [],D,i,h=>by
  obtain rfl : D = []:=by simpa using h.symm
  simp [Instr.findNow,nI]
 | e :: L,[],i,h=>by simp at h
 | e :: L,x :: D,i,h=>by
  simp only[List.map_cons,List.cons.injEq,Uh,Prod.mk.injEq] at h;obtain ⟨⟨h1,h2⟩,h3⟩:=h;have ih:=Lp t k hn L D (i + 1) h3;unfold Instr.findNow nI;rw [h1,h2];rcases hn k x.1 with e0 | e0
  · left;rw [e0]
  · rw [e0]
    by_cases e' : x.1 = k
    · right;simp [e']
    · rw [show decide (k = x.1) = false from decide_eq_false (Ne.symm e')]
      simpa [e'] using ih
theorem pZ (kt : rB P T ek) (k : K) (w : World) {es : Array MapEntry} {D : List (K × V)} {c : Nat} (h : cS ek ev D es c) : (Instr.findKey T (ek k) es.toList).run P w = .ok ((nI D k 0).map fun p=>(p.1,ev p.2)) w:=by
 obtain ⟨t,ht,hn⟩:=kt.now;unfold Instr.findKey;simp only[Sem.run_bind,run_underlying ht,Result.andThen];rcases Lp t k hn es.toList D 0 h.cells with e | e
 · rw [e]
   exact Au kt k w es.toList D 0 h.cells
 · rw [e]
   rfl
end
section
variable {K V : Type} [DecidableEq K] {P : Program} {T M E ty : TypeId} {ek : K → Value} {ev : V → Value} {w w0 : World} {g c : Nat} {es : Array MapEntry} {D : List (K × V)}
theorem Av {v0 : V} (hu : P.underlying M = some (.map T E)) (kt : rB P T ek) (hM : kO w g es c) (hD : cS ek ev D es c) (hz : mT P E (ev v0)) (k : K) (b : Bool) :
 (Instr.lookup M (.map (some g)) (ek k) b).run P w = .ok (if b then .tuple #[ev ((dG D k).getD v0),.bool (dG D k).isSome] else ev ((dG D k).getD v0)) w:=by
 unfold kO at hM;obtain ⟨inf,hi,hz⟩:=hz;have hzv : (zeroValue E).run P w = .ok (ev v0) w:=by simp [zeroValue,typeInfo,program,Sem.run,hi,hz]
 simp only[Instr.lookup,Sem.run_bind,run_underlying hu,Result.andThen,getObj,Sem.run,hM,Sem.run_pure,kt.chk,pZ kt k w hD];cases hf : nI D k 0 with
 | none =>
  obtain ⟨h1,_⟩:=nT D k 0 hf;rw [h1];simp only[Option.map_none,Sem.run_bind,hzv,Result.andThen,Sem.run_pure];cases b <;> rfl
 | some p =>
  obtain ⟨j,v⟩:=p;obtain ⟨_,_,_,h1,_⟩:=nU D k 0 j v hf;rw [h1];simp only[Option.map_some,Sem.run_pure,Result.andThen];cases b <;> rfl
theorem lT {g : Nat} {o o' : Obj} (hM : w.heap[g]? = some o) : (setBlock w g o').heap[g]? = some o':=by
 have:=(Array.getElem?_eq_some_iff.1 hM).1;simp [setBlock,this]
theorem pF {g : Nat} (o : Obj) : Sj w (setBlock w g o) g:=⟨rfl,rfl,rfl,by simp [setBlock],fun k hk=>by simp [setBlock,Array.getElem?_setIfInBounds_ne (Ne.symm hk)]⟩
theorem Du {α β : Type} (f : α → β) (L : List α) (i : Nat) (x : α) (g : α → α) (hi : L[i]? = some x) : (L.modify i g).map f = (L.map f).set i (f (g x)):=by
 apply List.ext_getElem?;intro j;simp only[List.getElem?_map,List.getElem?_modify,List.getElem?_set,List.length_map];by_cases e : i = j
 · subst e
   rw [hi];have:=(List.getElem?_eq_some_iff.1 hi).1;simp [this]
 · simp [e]
theorem cS.set (hD : cS ek ev D es c) {p : Nat} {k : K} {v : V} (hp : D[p]? = some (k,v)) (u : V) : cS ek ev (D.set p (k,u)) (es.modify p fun e=>{ e with key:=ek k,val:=ev u }) c:=by
 have hl : es.toList.length = D.length:=by have:=congrArg List.length hD.cells;simpa using this
 have hlt : p < es.toList.length:=by rw [hl];exact (List.getElem?_eq_some_iff.1 hp).1
 have hx : es.toList[p]? = some es.toList[p]:=List.getElem?_eq_getElem hlt;have hb : (es.modify p fun e=>{ e with key:=ek k,val:=ev u }).toList.map (·.born) = es.toList.map (·.born):=by
  rw [Array.toList_modify,Du _ _ _ _ _ hx];apply List.ext_getElem?;intro j;rw [List.getElem?_set];split
  · rename_i e;subst e;rw [if_pos (by simpa using hlt),List.getElem?_map,hx];rfl
  · rfl
 refine ⟨?_,fun e he=>?_,by rw [hb];exact hD.nd⟩
 · rw [Array.toList_modify,Du _ _ _ _ _ hx,hD.cells,List.map_set]
   rfl
 · have : e.born ∈ (es.modify p fun e=>{ e with key:=ek k,val:=ev u }).toList.map (·.born):=List.mem_map.2 ⟨e,he,rfl⟩
   rw [hb] at this;obtain ⟨e',he',hh⟩:=List.mem_map.1 this;rw [← hh];exact hD.born e' he'
theorem cS.push (hD : cS ek ev D es c) (k : K) (u : V) : cS ek ev (D ++ [(k,u)]) (es.push { key:=ek k,val:=ev u,born:=c }) (c + 1):=by
 refine ⟨by simp [hD.cells,Uh],fun e he=>?_,?_⟩
 · rw [Array.toList_push] at he
   rcases List.mem_append.1 he with he | he
   · exact Nat.lt_succ_of_lt (hD.born e he)
   · rw [List.mem_singleton.1 he];exact Nat.lt_succ_self _
 · rw [Array.toList_push,List.map_append]
   refine List.nodup_append.2 ⟨hD.nd,by simp,fun a ha b hb e=>?_⟩;obtain ⟨e',he',rfl⟩:=List.mem_map.1 ha;have : b = c:=by simpa using hb
   have:=hD.born e' he';omega
theorem cS.erase (hD : cS ek ev D es c) (p : Nat) : cS ek ev (D.eraseIdx p) (es.eraseIdxIfInBounds p) c:=by
 have e : (es.eraseIdxIfInBounds p).toList = es.toList.eraseIdx p:=by
  by_cases h : p < es.size
  · simp [Array.eraseIdxIfInBounds,h]
  · simp only[Array.eraseIdxIfInBounds,h,dite_false]
    exact (List.eraseIdx_of_length_le (by simpa using Nat.le_of_not_lt h)).symm
 refine ⟨?_,fun x hx=>hD.born x ?_,?_⟩
 · rw [e,map_eraseIdx,hD.cells,map_eraseIdx]
 · rw [e] at hx;exact List.mem_of_mem_eraseIdx hx
 · rw [e];exact hD.nd.sublist ((List.eraseIdx_sublist _ _).map _)
theorem Lr (hu : P.underlying M = some (.map T E)) (kt : rB P T ek) (hM : kO w g es c) (hD : cS ek ev D es c) (k : K) (u : V) :
 ∃ es' c',(Instr.mapUpdate M (.map (some g)) (ek k) (ev u)).run P w = .ok () (setBlock w g (.map es' c')) ∧ cS ek ev (gL D k u) es' c':=by
 unfold kO at hM;cases hf : nI D k 0 with
 | none =>
  obtain ⟨_,h1,_⟩:=nT D k 0 hf;refine ⟨_,_,?_,h1 u ▸ hD.push k u⟩;simp only[Instr.mapUpdate,Sem.run_bind,run_underlying hu,Result.andThen,getObj,Sem.run,hM,Sem.run_pure,kt.chk,pZ kt k w hD,hf,Option.map_none];exact run_setObj_map _ hM
 | some p =>
  obtain ⟨j,v⟩:=p;obtain ⟨p,rfl,hp,_,h1,_⟩:=nU D k 0 j v hf;rw [Nat.zero_add] at hf;have hl : es.toList.length = D.length:=by have:=congrArg List.length hD.cells;simpa using this
  have hlt : p < es.toList.length:=by rw [hl];exact (List.getElem?_eq_some_iff.1 hp).1
  have hk : ((es[p]?).map (·.key)).getD (ek k) = ek k:=by
   have h2:=congrArg (fun L=>L[p]?) hD.cells;simp only[List.getElem?_map,hp,Option.map_some] at h2;rw [Array.getElem?_toList] at h2;cases h3 : es[p]? with
   | none=>rfl
   | some x =>
    rw [h3] at h2;simp only[Option.map_some,Option.some.injEq,Uh,Prod.mk.injEq] at h2;simpa using h2.1
  refine ⟨_,_,?_,h1 u ▸ hD.set hp u⟩;simp only[Instr.mapUpdate,Sem.run_bind,run_underlying hu,Result.andThen,getObj,Sem.run,hM,Sem.run_pure,kt.chk,pZ kt k w hD,hf,Option.map_some,hk,Instr.keyThatStays,kt.bits,if_true];exact run_setObj_map _ hM
theorem Ls {T2 : TypeId} (hu : P.underlying M = some (.map T E)) (kt : rB P T ek) (hM : kO w g es c) (hD : cS ek ev D es c) (k : K) :
 ∃ es' c',(Builtin.delete_ #[M,T2] ty #[.map (some g),ek k]).run P w = .ok (.tuple #[]) (setBlock w g (.map es' c')) ∧ cS ek ev (pY D k) es' c':=by
 unfold kO at hM;cases hf : nI D k 0 with
 | none =>
  obtain ⟨_,_,h1⟩:=nT D k 0 hf;refine ⟨es,c,?_,by rw [h1];exact hD⟩;simp [Builtin.delete_,run_underlying hu,getObj,Sem.run,hM,kt.chk,pZ kt k w hD,hf,run_setObj_map _ hM,setBlock]
 | some p =>
  obtain ⟨j,v⟩:=p;obtain ⟨p,rfl,hp,_,_,h1⟩:=nU D k 0 j v hf;rw [Nat.zero_add] at hf;refine ⟨_,c,?_,h1 ▸ hD.erase p⟩;simp [Builtin.delete_,run_underlying hu,getObj,Sem.run,hM,kt.chk,pZ kt k w hD,hf,run_setObj_map _ hM,setBlock]
/-! ### Ranges -/
def mF (ek : K → Value) (ev : V → Value) (D : List (K × V)) (es : Array MapEntry) (seen : Array Nat) (dn rs : List (K × V)) : Prop :=
 (dn ++ rs).Perm D ∧ ∃ dE rE : List MapEntry,seen.toList = dE.map (·.born) ∧ (dE ++ rE).Perm es.toList ∧ dE.map Uh = dn.map (fun x=>(ek x.1,ev x.2)) ∧ rE.map Uh = rs.map (fun x=>(ek x.1,ev x.2))
theorem mF.start (hD : cS ek ev D es c) : mF ek ev D es #[] [] D:=⟨List.Perm.refl _,[],es.toList,rfl,List.Perm.refl _,rfl,hD.cells⟩
theorem mF.done {seen : Array Nat} {dn : List (K × V)} (h : mF ek ev D es seen dn []) : dn.Perm D:=by simpa using h.1
def Nxt (ek : K → Value) (ev : V → Value) (D : List (K × V)) (es : Array MapEntry) (dn rs : List (K × V)) (b : Bool) (kv vv : Value) (seen' : Array Nat) : Prop :=
 (b = false ∧ rs = []) ∨ (b = true ∧ ∃ k v rs',rs.Perm ((k,v) :: rs') ∧ kv = ek k ∧ vv = ev v ∧ mF ek ev D es seen' (dn ++ [(k,v)]) rs')
def Lu (b : Bool) (k v : Value) : Value:=.tuple (if b then #[.bool true,k,v] else #[.bool false])
theorem Ui {r s : Nat} {seen : Array Nat} {dn rs : List (K × V)} (hI : As w r g c seen c) (hM : kO w g es c) (hD : cS ek ev D es c) (hT : mF ek ev D es seen dn rs) :
 ∃ b kv vv seen' w1,(w1 = w ∨ w1 = w.drew) ∧ (Instr.next (.pointer (some ⟨r,0,none⟩)) false ty).run P w = .ok (Lu b kv vv) (setBlock w1 r (.mapIter (some g) c seen' c)) ∧ Nxt ek ev D es dn rs b kv vv seen':=by
 obtain ⟨hp,dE,rE,h1,h2,h3,h4⟩:=hT;have hnd : ((dE ++ rE).map (·.born)).Nodup:=(h2.map (·.born)).nodup_iff.2 hD.nd;rw [List.map_append,List.nodup_append] at hnd;have hleft : ∀ e,e ∈ (leftOf es seen).toList ↔ e ∈ rE:=fun e=>by
  unfold leftOf;simp only[Array.toList_filter,List.mem_filter,Bool.not_eq_true',Array.contains_eq_mem,decide_eq_false_iff_not];rw [← Array.mem_toList_iff (xs:=seen),h1,← h2.mem_iff,List.mem_append];constructor
  · rintro ⟨h | h,hn⟩
    · exact absurd (List.mem_map.2 ⟨e,h,rfl⟩) hn
    · exact h
  · intro h
    exact ⟨.inr h,fun hm=>hnd.2.2 _ hm _ (List.mem_map.2 ⟨e,h,rfl⟩) rfl⟩
 rcases run_next_at (P:=P) w ty r g c c seen es c hI hM hD.born (Nat.le_refl _) with ⟨h0,hr⟩ | ⟨e,he,w1,hw1,hr⟩
 · refine ⟨false,default,default,seen,w,.inl rfl,?_,.inl ⟨rfl,?_⟩⟩
   · rw [hr]
     have : setBlock w r (.mapIter (some g) c seen c) = w:=by
      unfold setBlock;have hlt:=(Array.getElem?_eq_some_iff.1 hI).1;have : w.heap.setIfInBounds r (.mapIter (some g) c seen c) = w.heap:=by
       apply Array.ext_getElem?;intro i;rw [Array.getElem?_setIfInBounds];split
       · rename_i e;subst e;exact hI.symm
       · rfl
      rw [this]
     rw [this];rfl
   · cases rs with
     | nil=>rfl
     | cons x rs =>
      cases rE with
      | nil=>simp at h4
      | cons e rE =>
       have:=(hleft e).2 (List.mem_cons_self ..);rw [Array.eq_empty_of_size_eq_zero h0] at this;simp at this
 · obtain ⟨s,t,rfl⟩:=List.append_of_mem ((hleft e).1 he)
   rw [List.map_append,List.map_cons] at h4;obtain ⟨rs1,rs2,rfl,e1,e2⟩:=List.map_eq_append_iff.1 h4.symm;obtain ⟨x,rs3,rfl,e3,e4⟩:=List.map_eq_cons_iff.1 e2;obtain ⟨k,v⟩:=x;simp only[Uh,Prod.mk.injEq] at e3;refine ⟨true,e.key,e.val,seen.push e.born,w1,hw1,hr,.inr ⟨rfl,k,v,rs1 ++ rs3,List.perm_middle,e3.1.symm,e3.2.symm,?_,dE ++ [e],s ++ t,?_,?_,?_,?_⟩⟩
   · refine List.Perm.trans ?_ hp
     simp only[List.append_assoc,List.cons_append,List.nil_append];exact List.Perm.append_left _ List.perm_middle.symm
   · simp [h1]
   · refine List.Perm.trans ?_ h2
     simp only[List.append_assoc,List.cons_append,List.nil_append];exact List.Perm.append_left _ List.perm_middle.symm
   · simp [h3,Uh,e3]
   · simp [e1,e4]
theorem Pj {r : Nat} {seen : Array Nat} {dn rs : List (K × V)} {k : K} {v : V} (hI : As w r g c seen c) (hM : kO w g es c) (hD : cS ek ev D es c) (hT : mF ek ev D es seen (dn ++ [(k,v)]) rs) :
 (Instr.entry (.pointer (some ⟨r,0,none⟩))).run P w = .ok (.tuple #[ek k,ev v]) w:=by
 obtain ⟨hp,dE,rE,h1,h2,h3,h4⟩:=hT;rw [List.map_append,List.map_cons,List.map_nil] at h3;obtain ⟨d1,d2,rfl,e1,e2⟩:=List.map_eq_append_iff.1 h3;obtain ⟨e,d3,rfl,e3,e4⟩:=List.map_eq_cons_iff.1 e2;obtain rfl : d3 = []:=by simpa using e4
 simp only[Uh,Prod.mk.injEq] at e3;have hs : seen = (d1.map (·.born)).toArray.push e.born:=by
  apply Array.toList_inj.1;rw [h1];simp
 have hm : e ∈ es.toList:=h2.mem_iff.1 (by simp);rw [hs] at hI;have:=run_entry_at (P:=P) w r g c _ es c e hI hM hm hD.nd;rw [this,e3.1,e3.2]
end
/-! ### Things in memory -/
def mI (g : Nat) (es : Array MapEntry) (c : Nat) : It where
 own b:=some g = some b
 P w:=kO w g es c
 lt w b h e:=by cases e;exact h.lt
 st w w' h _ k:=(k g rfl).trans h
def iI (r g c : Nat) (seen : Array Nat) : It where
 own b:=some r = some b
 P w:=As w r g c seen c
 lt w b h e:=by cases e;exact h.lt
 st w w' h _ k:=(k r rfl).trans h
theorem cF.p {w0 w : World} {is : List It} (m : cF w0 w is) (k : Nat) {g c : Nat} {es : Array MapEntry} (hk : is[k]? = some (mI g es c)) : kO w g es c:=m.get k hk
theorem cF.r {w0 w : World} {is : List It} (m : cF w0 w is) (k : Nat) {r g c : Nat} {seen : Array Nat} (hk : is[k]? = some (iI r g c seen)) : As w r g c seen c:=m.get k hk
section
variable {K V : Type} [DecidableEq K] {P : Program} {T M E ty : TypeId} {ek : K → Value} {ev : V → Value} {w w0 : World} {g c : Nat} {es : Array MapEntry} {D : List (K × V)} {is : List It}
variable {ds : List Deferred} {l : List Value} {x y z : Operand} {ops : Array Oper} {Q : Exit → Act → World → Prop} {rest : List Oper} {d : Nat} {pos : String} {after : Array Edge}
theorem kL (m : cF w0 w is) (h : ∀ g u,cF w0 u (mI g #[] 0 :: is) → wpList P ops Q rest (Fr (l.set d (.map (some g))) ds) u) : wpList P ops Q (Oper.mk (some d) (.makeMap M none) ty pos after none :: rest) (Fr l ds) w :=
 Ug fun u g e hg hM=>h g u (m.new (i:=mI g #[] 0) e hM fun b h=>by cases h;exact hg)
theorem wM (m : cF w0 w is) (hu : P.underlying M = some (.map T E)) (hx : Go.Lith.ev l x = .map (some g)) (hM : kO w g es c) (h : ∀ r u,cF w0 u (iI r g c #[] :: is) → wpList P ops Q rest (Fr (l.set d (.pointer (some ⟨r,0,none⟩))) ds) u) :
 wpList P ops Q (Oper.mk (some d) (.range M x) ty pos after none :: rest) (Fr l ds) w :=
 abh hu hx hM fun u r e hr hI=>h r u (m.new (i:=iI r g c #[]) e hI fun b h=>by cases h;exact hr)
end
end Go.Lith
namespace Go.Lith
open Go.RowKit Go.ChangeMaps Go.MapKept
section
variable {K V : Type} [DecidableEq K] {P : Program} {T M E ty : TypeId} {ek : K → Value} {en : V → Value} {w w0 : World} {g c : Nat} {es : Array MapEntry} {D : List (K × V)} {is : List It}
variable {ds : List Deferred} {l : List Value} {x y z : Operand} {ops : Array Oper} {Q : Exit → Act → World → Prop} {rest : List Oper} {d : Nat} {pos : String} {after : Array Edge}
theorem eR {v0 : V} {k : K} (hu : P.underlying M = some (.map T E)) (hz : mT P E (en v0)) (kt : rB P T ek) (hx : ev l x = .map (some g)) (hy : ev l y = ek k) (hM : kO w g es c) (hD : cS ek en D es c) : vZ P l (.lookup M x y false) ty (en ((dG D k).getD v0)) w:=fun o ho _=>by
 have:=Av hu kt hM hD hz k false;simp only[Bool.false_eq_true,if_false] at this;simp [execOp,ho,dD,hx,hy,this]
theorem rZ {v0 : V} {k : K} (hu : P.underlying M = some (.map T E)) (hz : mT P E (en v0)) (kt : rB P T ek) (hx : ev l x = .map (some g)) (hy : ev l y = ek k) (hM : kO w g es c) (hD : cS ek en D es c) : vZ P l (.lookup M x y true) ty (.tuple #[en ((dG D k).getD v0),.bool (dG D k).isSome]) w:=fun o ho _=>by
 have:=Av hu kt hM hD hz k true;simp only[if_true] at this;simp [execOp,ho,dD,hx,hy,this]
theorem Yr {a0 : Array TypeId} (ha : a0 = #[M]) (hu : P.underlying M = some (.map T E)) (hx : ev l x = .map (some g)) (hM : kO w g es c) (hD : cS ek en D es c) : vZ P l (.call { callee:=.builtin .len,args:=#[x],argTypes:=a0 }) ty (.int .i64 D.length) w:=fun o ho _=>by
 subst ha;unfold kO at hM;simp [execOp,ho,resolve,invoke,builtin,Builtin.len_,dD,hx,run_underlying hu,getObj,Sem.run,hM,goInt,hD.len]
theorem fT {v : V} {a : K} (m : cF w0 w is) (k : Nat) (hk : is[k]? = some (mI g es c)) (hu : P.underlying M = some (.map T E)) (kt : rB P T ek) (hx : ev l x = .map (some g)) (hy : ev l y = ek a) (hz : ev l z = en v) (hD : cS ek en D es c)
 (h : ∀ es' c' u,cF w0 u (is.set k (mI g es' c')) → cS ek en (gL D a v) es' c' → wpList P ops Q rest (Fr l ds) u) : wpList P ops Q (Oper.mk none (.mapUpdate M x y z) ty pos after none :: rest) (Fr l ds) w:=by
 have hM:=m.p k hk;obtain ⟨es',c',hr,hD'⟩:=Lr hu kt hM hD a v;have hC:=pF (w:=w) (g:=g) (.map es' c');refine Bm (w':=setBlock w g (.map es' c')) (fun o ho=>by simp [execOp,ho,dD,hx,hy,hz,hr]) (h es' c' _ ?_ hD');exact m.put k hk hC.os hC.tape hC.output (by rw [hC.size];exact Nat.le_refl _) (fun b _ hne=>hC.block b fun e=>hne (by rw [e];rfl)) (lT hM) (.inl fun _ h=>h)
theorem Dv {r : Nat} {seen : Array Nat} {dn rs : List (K × V)} (m : cF w0 w is) (k : Nat) (hk : is[k]? = some (iI r g c seen)) (hx : ev l x = .pointer (some ⟨r,0,none⟩)) (hM : kO w g es c) (hD : cS ek en D es c) (hT : mF ek en D es seen dn rs)
 (h : ∀ b kv vv seen' u,cF w0 u (is.set k (iI r g c seen')) → Nxt ek en D es dn rs b kv vv seen' → wpList P ops Q rest (Fr (l.set d (Lu b kv vv)) ds) u) :
 wpList P ops Q (Oper.mk (some d) (.next x false) ty pos after none :: rest) (Fr l ds) w:=by
 have hI:=m.r k hk;obtain ⟨b,kv,vv,seen',w1,hw1,hr,hN⟩:=Ui (P:=P) (ty:=ty) (s:=0) hI hM hD hT;refine kN (w':=setBlock w1 r (.mapIter (some g) c seen' c)) (v:=Lu b kv vv) (fun o ho hty=>by simp [execOp,ho,dD,hx,hty,hr]) (h b kv vv seen' _ ?_ hN);have e1 : w1.heap = w.heap ∧ w1.os = w.os ∧ w1.tape = w.tape ∧ w1.output = w.output:=by rcases hw1 with rfl | rfl <;> exact ⟨rfl,rfl,rfl,rfl⟩
 refine m.put k hk e1.2.1 e1.2.2.1 e1.2.2.2 (by simp [setBlock,e1.1]) (fun b' _ hne=>?_) ?_ (.inl fun _ h=>h)
 · have : b' ≠ r:=fun e=>hne (by rw [e];rfl)
   simp only[setBlock,e1.1];exact Array.getElem?_setIfInBounds_ne (Ne.symm this)
 · exact lT (w:=w1) (o:=.mapIter (some g) c seen c) (by rw [e1.1];exact hI)
theorem sW {b : Bool} {kv vv : Value} (hx : ev l x = Lu b kv vv) : gX P l (.extract x 0) ty (.bool b):=fun w o ho _=>by
 cases b <;> simp [execOp,ho,dD,hx,Lu,Instr.extract]
theorem sX {r : Nat} {seen : Array Nat} {dn rs : List (K × V)} {k : K} {v : V} (hx : ev l x = .pointer (some ⟨r,0,none⟩)) (hI : As w r g c seen c) (hM : kO w g es c) (hD : cS ek en D es c) (hT : mF ek en D es seen (dn ++ [(k,v)]) rs) :
 vZ P l (.entry x) ty (.tuple #[ek k,en v]) w:=fun o ho _=>by
 have:=Pj (P:=P) hI hM hD hT;simp [execOp,ho,dD,hx,this]
theorem oX {f : FuncId} {fo : Operand} {xs : Array Operand} {args : List Value} {first cap : Array Value} {a0 : Array TypeId} {R : Value → It → Prop} (m : cF w0 w is) (k : Nat) (hE : bF P f) (hf : ev l fo = .func (.func f) first cap) (hxs : first.toList ++ xs.toList.map (ev l) ++ cap.toList = args)
 (hc : cF w0 w is → Calls P f args.toArray w fun e w'=>∃ v i,e = .returned v ∧ cF w0 w' (is.set k i) ∧ R v i) (h : ∀ v i u,cF w0 u (is.set k i) → R v i → wpList P ops Q rest (Fr (l.set d v) ds) u) :
 wpList P ops Q (Oper.mk (some d) (.call { callee:=.value fo,args:=xs,argTypes:=a0 }) ty pos after none :: rest) (Fr l ds) w:=by
 refine wpList_plain rfl fun K hK=>?_;unfold Oper.wp;rw [iF,lM hE hf hxs _ rfl];refine (hc m).mono ?_;rintro e w' ⟨v,i,rfl,hM,hR⟩;show K ((Fr l ds).put (some d) v) w'
 rw [jA];exact hK _ _ (h v i w' hM hR)
end
theorem eD {P : Program} {Q : Exit → Act → World → Prop} {l : List Value} {ds : List Deferred} {c1 c2 : Code} {w : World} {x : Operand} {b : Bool} (hx : ev l x = .bool b) (ht : b = true → c1.wp P Q (Fr l ds) w) (hf : b = false → c2.wp P Q (Fr l ds) w) : (Code.cond x c1 c2).wp P Q (Fr l ds) w:=lI hx ht hf
theorem Lv {α : Type} {is : List α} {k : Nat} {i : α} (h : is[k]? = some i) : is.set k i = is:=by
 apply List.ext_getElem?;intro j;rw [List.getElem?_set];split
 · rename_i e;subst e
   have:=(List.getElem?_eq_some_iff.1 h).1;rw [if_pos this,h]
 · rfl
theorem yW {K V : Type} [DecidableEq K] : ∀ {D : List (K × V)} {k : K} {v : V},dG D k = some v → gL D k v = D
 | [],_,_,h=>by cases h
 | x :: D,k,v,h=>by
  unfold dG at h;unfold gL;split at h
  · rename_i e;cases h;subst e;rw [if_pos rfl]
  · rename_i e;rw [if_neg e,yW h]
/-! ### Keys -/
def rI (P : Program) (e : Bool) (d : Nat) (T : TypeId) (x : Value) : Prop:=∀ w,(Instr.checkKey e d T x).run P w = .ok () w
section
variable {P : Program} {e : Bool} {d : Nat} {T E : TypeId}
theorem oY {β : Type} {w : World} (g : β → PUnit → Sem (ForInStep PUnit)) : ∀ (L : List β),(∀ x ∈ L,(g x ⟨⟩).run P w = .ok (.yield ⟨⟩) w) → (forIn L PUnit.unit g : Sem PUnit).run P w = .ok ⟨⟩ w
 | [],_=>by simp
 | x :: L,h=>by
  simp only[List.forIn_cons,Sem.run_bind,h x (List.mem_cons_self ..),Result.andThen_ok];exact oY g L fun y hy=>h y (List.mem_cons_of_mem _ hy)
theorem rI.int {k k' : IntKind} {n : Int} (hu : P.underlying T = some (.int k')) : rI P e (d + 1) T (.int k n):=fun w=>by
 unfold Instr.checkKey;simp [run_underlying hu]
theorem rI.struct {fs : Array Field} {cs : Array Value} (hu : P.underlying T = some (.struct fs)) (h : ∀ f ∈ fs.toList,∃ v,(∀ w,(part f.type cs f.offset).run P w = .ok v w) ∧ rI P e d f.type v) : rI P e (d + 1) T (.agg cs):=fun w=>by
 unfold Instr.checkKey;simp only[Sem.run_bind,run_underlying hu,Result.andThen_ok];rw [← Array.forIn_toList];refine (congrArg (fun r=>Result.andThen r _) (oY _ fs.toList fun f hf=>?_)).trans (by rfl);obtain ⟨v,h1,h2⟩:=h f hf;by_cases hn : f.name = "_"
 · simp [hn]
 · simp [hn,h1 w,h2 w]
theorem rI.array {n c : Nat} {cs : Array Value} (hu : P.underlying T = some (.array n E)) (hc : fB P E c) (h : ∀ i,i < n → ∃ v,(∀ w,(part E cs (i * c)).run P w = .ok v w) ∧ rI P e d E v) : rI P e (d + 1) T (.agg cs):=fun w=>by
 unfold Instr.checkKey;simp only[Sem.run_bind,run_underlying hu,Result.andThen_ok];simp only[Std.Legacy.Range.forIn_eq_forIn_range',Std.Legacy.Range.size,Nat.sub_zero,Nat.add_one_sub_one,Nat.div_one];refine (congrArg (fun r=>Result.andThen r _) (oY _ (List.range' 0 n) fun i hi=>?_)).trans (by rfl);obtain ⟨v,h1,h2⟩:=h i (by simpa using hi);simp [fO hc,h1 w,h2 w]
theorem rB.agg {K : Type} [DecidableEq K] {ek : K → Value} {cs : K → Array Value} (ha : ∀ k,ek k = .agg (cs k)) {t : TypeDesc} (ht : P.underlying T = some t) (hc : ∀ e k,rI P e 10000 T (ek k)) (he : ∀ a b,tJ P 10000 T (ek a) (ek b) (a = b)) (hb : ∀ a,Instr.sameBits 10000 (ek a) (ek a) = true) : rB P T ek where
 chk e k w:=hc e k w
 now:=⟨t,ht,fun a b=>.inl (by rw [ha,ha];cases t <;> rfl)⟩
 eq a b w:=sO (he a b) w
 bits:=hb
end
end Go.Lith
