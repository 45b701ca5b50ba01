/-
  Texts of one claim, laid together: Open, Surf, Surf2, Surf1, Surf3, Surf1b, Surf4, Areas, Law1, Join, JoinMeasureDistances.
-/
import Derived.OpenShut
import Derived.Lib.SmallJoins
import Derived.Deep.Slices
import Derived.OpenVars
import Derived.WalkKit
import Derived.ProofKit
import Derived.Test.YtmcgcnpgkkfkoaaGreatDoorCards
import Derived.Test.YtmcgcnpgkkfkoaaGreatDoorTie
import Derived.Deep.DeepHandedRow
import Derived.Lib.LaidTab
import Derived.Test.YtmcgcnpgkkfkoaaGreatDoorB6
set_option linter.unusedSimpArgs false
set_option linter.unusedVariables false
namespace Go.Lith
open Go.RowKit Go.ChangeShapes
variable {H : Type} {enc : TypeId × Value → H} {P : Program} {w : World} {base : Nat} {spare : Nat → Bool} {held : Bool}
def intsOnly (P : Program) : Nat → TypeId → Bool
  | 0,_ => false
  | n + 1,t => match P.underlying t with
    | some (.int .i64) => decide (P.cellsOf t = 1)
    | some (.struct fs) => (fs.toList.all fun f => intsOnly P n f.type) && (List.range (P.cellsOf t)).all fun i => fs.toList.any fun f => decide (f.offset ≤ i) && decide (i < f.offset + P.cellsOf f.type)
    | some (.array m e) => intsOnly P n e && decide (P.cellsOf t = m * P.cellsOf e)
    | _ => false
theorem i64_of {n : Int} (h : (Lit.int .i64 n).wf = true) : I64 n := by
  have := bounds_i64 h
  exact ⟨by omega,by omega⟩
theorem ints_of_trod : ∀ (n : Nat) (t : TypeId) (m : Nat) (cs : List Value) (x : DataW H × List MemPlace),intsOnly P n t = true → DataW.trod enc P w base spare held m t cs = some x →
    cs.length = P.cellsOf t ∧ ∀ v ∈ cs,∃ z,v = .int .i64 z ∧ I64 z
  | 0,t,m,cs,x,h,_ => by cases h
  | n + 1,t,m,cs,x,h,hx => by
    unfold intsOnly at h
    split at h
    · rename_i hu
      obtain ⟨z,rfl,_,hz⟩ := DataW.trod_int hu hx
      refine ⟨by rw [of_decide_eq_true h]; rfl,fun v hv => ⟨z,by simpa using hv,i64_of hz⟩⟩
    · rename_i fs hu
      simp only [Bool.and_eq_true,List.all_eq_true,List.any_eq_true,decide_eq_true_eq,List.mem_range] at h
      obtain ⟨ys,k,_,_,hl,hlen,hf⟩ := DataW.trod_struct hu hx
      refine ⟨hl,fun v hv => ?_⟩
      obtain ⟨i,hi,rfl⟩ := List.getElem_of_mem hv
      obtain ⟨f,hfm,h1,h2⟩ := h.2 i (by rw [← hl]; exact hi)
      obtain ⟨j,hj,rfl⟩ := List.getElem_of_mem hfm
      have hj' : j < fs.size := by simpa using hj
      have := hf j fs[j] (Array.getElem?_eq_getElem hj')
      rw [List.getElem?_eq_getElem (by rw [hlen]; exact hj')] at this
      have hr := (ints_of_trod n _ _ _ _ (h.1 _ (List.getElem_mem hj)) this).2
      refine hr _ ?_
      simp only [Array.getElem_toList] at h1 h2
      refine List.mem_of_getElem? (i := i - fs[j].offset) ?_
      rw [List.getElem?_take,if_pos (by omega),List.getElem?_drop,show fs[j].offset + (i - fs[j].offset) = i by omega]
      exact List.getElem?_eq_getElem hi
    · rename_i q e hu
      simp only [Bool.and_eq_true,decide_eq_true_eq] at h
      obtain ⟨ys,k,_,_,hl,hlen,hf⟩ := DataW.trod_array hu hx
      refine ⟨hl,fun v hv => ?_⟩
      obtain ⟨i,hi,rfl⟩ := List.getElem_of_mem hv
      rw [hl,h.2] at hi
      have hc : 0 < P.cellsOf e := by
        rcases Nat.eq_zero_or_pos (P.cellsOf e) with h0 | h0
        · rw [h0] at hi; omega
        · exact h0
      have hq : i / P.cellsOf e < q := Nat.div_lt_of_lt_mul (by rw [Nat.mul_comm]; exact hi)
      have := hf _ hq
      rw [List.getElem?_eq_getElem (by rw [hlen]; exact hq)] at this
      have hr := (ints_of_trod n _ _ _ _ h.1 this).2
      refine hr _ (List.mem_of_getElem? (i := i % P.cellsOf e) ?_)
      rw [List.getElem?_take,if_pos (Nat.mod_lt _ hc),List.getElem?_drop,Nat.mul_comm,Nat.div_add_mod]
      exact List.getElem?_eq_getElem _
    · cases h
theorem ints_list : ∀ (n : Nat) (cs : List Value),cs.length = n → (∀ v ∈ cs,∃ z,v = .int .i64 z ∧ I64 z) → ∃ zs : List Int,zs.length = n ∧ cs = zs.map (.int .i64 ·) ∧ ∀ z ∈ zs,I64 z
  | 0,[],_,_ => ⟨[],rfl,rfl,fun _ h => by cases h⟩
  | n + 1,v :: vs,h,hv => by
    obtain ⟨zs,h1,h2,h3⟩ := ints_list n vs (by simpa using h) (fun u hu => hv u (by simp [hu]))
    obtain ⟨z,rfl,hz⟩ := hv v (by simp)
    exact ⟨z :: zs,by simp [h1],by simp [h2],fun u hu => by rcases List.mem_cons.1 hu with rfl | hu; exact hz; exact h3 _ hu⟩
theorem open_ints {r : Reach} {b0 n m : Nat} {t : TypeId} {v : Value} {d : DataW H} {p : List MemPlace} (ha : IsAgg P t true) (hi : intsOnly P n t = true) (hc : P.cellsOf t = m) (hv : Value.okWide P w r b0 t v) (h : DataW.Trod enc P w base spare held t v d p) :
    ∃ zs : List Int,zs.length = m ∧ v = .agg (zs.map (.int .i64 ·)).toArray ∧ ∀ z ∈ zs,I64 z := by
  obtain ⟨dd,hu,hd⟩ := ha
  obtain ⟨fuel,hf⟩ := h
  unfold Value.okWide at hv
  rw [hu] at hv
  have : ∃ cs,v = .agg cs := by
    cases dd <;> first | (obtain ⟨cs,rfl,_⟩ := hv; exact ⟨cs,rfl⟩) | (cases hd)
  obtain ⟨cs,rfl⟩ := this
  obtain ⟨h1,h2⟩ := ints_of_trod n t fuel _ _ hi hf
  obtain ⟨zs,h3,h4,h5⟩ := ints_list m cs.toList (by rw [← hc]; exact h1) h2
  exact ⟨zs,h3,by rw [← h4],h5⟩
theorem three {zs : List Int} (h : zs.length = 3) : ∃ a b c,zs = [a,b,c] := by
  match zs,h with
  | [a,b,c],_ => exact ⟨a,b,c,rfl⟩
theorem nine {zs : List Int} (h : zs.length = 9) : ∃ a b c d e f g i j,zs = [a,b,c,d,e,f,g,i,j] := by
  match zs,h with
  | [a,b,c,d,e,f,g,i,j],_ => exact ⟨a,b,c,d,e,f,g,i,j,rfl⟩
theorem open_pt {r : Reach} {b0 n : Nat} {t : TypeId} {v : Value} {d : DataW H} {p : List MemPlace} (ha : IsAgg P t true) (hi : intsOnly P n t = true) (hc : P.cellsOf t = 3) (hv : Value.okWide P w r b0 t v) (h : DataW.Trod enc P w base spare held t v d p) : ∃ q : P3,I3 q ∧ v = pt q := by
  obtain ⟨zs,h1,rfl,h2⟩ := open_ints ha hi hc hv h
  obtain ⟨a,b,c,rfl⟩ := three h1
  exact ⟨⟨a,b,c⟩,⟨h2 _ (by simp),h2 _ (by simp),h2 _ (by simp)⟩,rfl⟩
theorem cells?_row {a : Addr} {n : Nat} {cs : List Value} (h : w.cells? base a n = some cs) : Row w a cs ∧ base ≤ a.block := by
  unfold World.cells? at h
  split at h
  · rename_i hb
    refine ⟨fun j u hj => ?_,hb⟩
    have hl := mapM_some_length h
    have hj' : j < cs.length := (List.getElem?_eq_some_iff.1 hj).1
    rw [hl] at hj'
    have := mapM_some_get h j j (List.getElem?_eq_getElem hj' ▸ by simp)
    rw [this,hj]
  · cases h
theorem open_rows {n m : Nat} {t e : TypeId} {fuel : Nat} {cs : List Value} {x : DataW H × List MemPlace} (hu : P.underlying t = some (.slice e)) (hi : intsOnly P n e = true) (hc : P.cellsOf e = m) (h : DataW.trod enc P w base spare held fuel t cs = some x) :
    ∃ (A : Option Addr) (len cap : Nat),cs = [.slice A len cap] ∧ len ≤ cap ∧ cap ≤ maxLen ∧ (A = none → len = 0) ∧ ∀ i,i < len → ∃ (a : Addr) (zs : List Int),A = some a ∧ base ≤ a.block ∧ Row w (a.add (i * m)) (zs.map (Value.int .i64 ·)) ∧ zs.length = m ∧ ∀ z ∈ zs,I64 z := by
  rcases Deep.open_slice hu h with ⟨rfl,_⟩ | ⟨a,len,cap,k,q,D,Pl,rfl,hb,hl,hm,hk,_,hx⟩
  · exact ⟨none,0,0,rfl,Nat.le_refl _,Nat.zero_le _,fun _ => rfl,fun i hi => absurd hi (Nat.not_lt_zero _)⟩
  · refine ⟨some a,len,cap,rfl,hl,hm,fun h => (by cases h),fun i hi' => ?_⟩
    obtain ⟨cs',h1,h2⟩ := hx i (by rw [hk]; split <;> omega)
    obtain ⟨h3,h4⟩ := ints_of_trod n e q _ _ hi h2
    obtain ⟨zs,h5,rfl,h6⟩ := ints_list m cs' (by rw [← hc]; exact h3) h4
    rw [hc] at h1
    exact ⟨a,zs,rfl,hb,(cells?_row h1).1,h5,h6⟩
theorem choose_list {α : Type} {p : Nat → α → Prop} : ∀ (n : Nat),(∀ i,i < n → ∃ x,p i x) → ∃ l : List α,l.length = n ∧ ∀ i x,l[i]? = some x → p i x
  | 0,_ => ⟨[],rfl,fun i x h => by simp at h⟩
  | n + 1,h => by
    obtain ⟨l,h1,h2⟩ := choose_list n (fun i hi => h i (by omega))
    obtain ⟨x,hx⟩ := h n (by omega)
    refine ⟨l ++ [x],by simp [h1],fun i y hy => ?_⟩
    rcases Nat.lt_trichotomy i n with hi | hi | hi
    · exact h2 i y (by rwa [List.getElem?_append_left (by omega)] at hy)
    · subst hi
      rw [List.getElem?_append_right (by omega),h1,Nat.sub_self] at hy
      cases hy
      exact hx
    · rw [List.getElem?_append_right (by omega),h1] at hy
      have : i - n ≠ 0 := by omega
      cases hd : i - n with
      | zero => omega
      | succ j => rw [hd] at hy; simp at hy
theorem open_tris {n : Nat} {t e : TypeId} {fuel : Nat} {cs : List Value} {x : DataW H × List MemPlace} (hu : P.underlying t = some (.slice e)) (hi : intsOnly P n e = true) (hc : P.cellsOf e = 9) (h : DataW.trod enc P w base spare held fuel t cs = some x) :
    ∃ (A : Option Addr) (len cap : Nat) (ts : List T3),cs = [.slice A len cap] ∧ len ≤ cap ∧ cap ≤ maxLen ∧ (A = none → len = 0) ∧ TrisAt w A len ts := by
  obtain ⟨A,len,cap,rfl,h1,h2,h3,h4⟩ := open_rows hu hi hc h
  obtain ⟨ts,h5,h6⟩ := choose_list (p := fun i (t : T3) => IT t ∧ ∃ a,A = some a ∧ Row w (a.add (i * 9)) (triCells t)) len (fun i hi => by
    obtain ⟨a,zs,rfl,_,hr,hl,hz⟩ := h4 i hi
    obtain ⟨x1,x2,x3,y1,y2,y3,z1,z2,z3,rfl⟩ := nine hl
    exact ⟨⟨⟨x1,x2,x3⟩,⟨y1,y2,y3⟩,⟨z1,z2,z3⟩⟩,⟨⟨hz _ (by simp),hz _ (by simp),hz _ (by simp)⟩,⟨hz _ (by simp),hz _ (by simp),hz _ (by simp)⟩,⟨hz _ (by simp),hz _ (by simp),hz _ (by simp)⟩⟩,a,rfl,hr⟩)
  refine ⟨A,len,cap,ts,rfl,h1,h2,h3,h5,fun t ht => ?_,fun i t ht => (h6 i t ht).2⟩
  obtain ⟨i,hi,rfl⟩ := List.getElem_of_mem ht
  exact (h6 i _ (List.getElem?_eq_getElem hi)).1
structure IntsAt (w : World) (A : Option Addr) (n : Nat) (zs : List Int) : Prop where
  len : zs.length = n
  it : ∀ z ∈ zs,I64 z
  row : ∀ i z,zs[i]? = some z → ∃ a,A = some a ∧ w.cell? (a.add i) = some (.int .i64 z)
theorem IntsAt.ext {w' : World} {A : Option Addr} {n : Nat} {zs : List Int} (h : IntsAt w A n zs) (hE : Ext w w') : IntsAt w' A n zs :=
  ⟨h.len,h.it,fun i z hi => let ⟨a,e,hr⟩ := h.row i z hi; ⟨a,e,hE.cell hr⟩⟩
theorem IntsAt.get {A : Option Addr} {n : Nat} {zs : List Int} (h : IntsAt w A n zs) {i : Nat} (hi : i < n) : ∃ z,zs[i]? = some z ∧ Iw z ∧ ∃ a,A = some a ∧ w.cell? (a.add i) = some (.int .i64 z) := by
  have hl : i < zs.length := by rw [h.len]; exact hi
  exact ⟨zs[i],List.getElem?_eq_getElem hl,⟨h.it _ (List.getElem_mem hl)⟩,h.row i _ (List.getElem?_eq_getElem hl)⟩
theorem open_intsl {n : Nat} {t e : TypeId} {fuel : Nat} {cs : List Value} {x : DataW H × List MemPlace} (hu : P.underlying t = some (.slice e)) (hi : intsOnly P n e = true) (hc : P.cellsOf e = 1) (h : DataW.trod enc P w base spare held fuel t cs = some x) :
    ∃ (A : Option Addr) (len cap : Nat) (zs : List Int),cs = [.slice A len cap] ∧ len ≤ cap ∧ cap ≤ maxLen ∧ (A = none → len = 0) ∧ IntsAt w A len zs := by
  obtain ⟨A,len,cap,rfl,h1,h2,h3,h4⟩ := open_rows hu hi hc h
  obtain ⟨zs,h5,h6⟩ := choose_list (p := fun i (z : Int) => I64 z ∧ ∃ a,A = some a ∧ w.cell? (a.add i) = some (.int .i64 z)) len (fun i hi => by
    obtain ⟨a,zs,rfl,_,hr,hl,hz⟩ := h4 i hi
    match zs,hl with
    | [z],_ => exact ⟨z,hz _ (by simp),a,rfl,by have := hr 0 _ rfl; rwa [Nat.mul_one,addr_add_add,Nat.add_zero] at this⟩)
  refine ⟨A,len,cap,zs,rfl,h1,h2,h3,h5,fun z hz => ?_,fun i z hz => (h6 i z hz).2⟩
  obtain ⟨i,hi,rfl⟩ := List.getElem_of_mem hz
  exact (h6 i _ (List.getElem?_eq_getElem hi)).1
theorem open_shape {r : Reach} {b0 n : Nat} {t tI tH tQ tM tT : TypeId} {fs : Array Field} {v : Value} {d : DataW H} {p : List MemPlace} (hs : P.underlying t = some (.struct fs)) (hf : fs.map (fun f => (f.type,f.offset)) = #[(tI,0),(tI,1),(tH,2),(tQ,3),(tM,6)]) (ct : P.cellsOf t = 7)
    (hI : intsOnly P n tI = true) (cI : P.cellsOf tI = 1) (hH : P.underlying tH = some (.slice tI)) (cH : P.cellsOf tH = 1) (hQ : intsOnly P n tQ = true) (cQ : P.cellsOf tQ = 3) (hM : P.underlying tM = some (.slice tT)) (cM : P.cellsOf tM = 1) (hT : intsOnly P n tT = true) (cT : P.cellsOf tT = 9)
    (hv : Value.okWide P w r b0 t v) (h : DataW.Trod enc P w base spare held t v d p) :
    ∃ (kind bits q0 q1 q2 : Int) (HA MA : Option Addr) (HN Hc MN Mc : Nat) (zs : List Int) (ms : List T3),v = .agg #[.int .i64 kind,.int .i64 bits,.slice HA HN Hc,.int .i64 q0,.int .i64 q1,.int .i64 q2,.slice MA MN Mc] ∧
      Iw kind ∧ Iw bits ∧ Iw q0 ∧ Iw q1 ∧ Iw q2 ∧ IntsAt w HA HN zs ∧ TrisAt w MA MN ms ∧ MN ≤ Mc := by
  obtain ⟨fuel,hfu⟩ := h
  unfold Value.okWide at hv
  rw [hs] at hv
  obtain ⟨cs,rfl,hz,_⟩ := hv
  obtain ⟨xs,m,_,_,hl,hxl,hx⟩ := DataW.trod_struct hs hfu
  have field : ∀ (i : Nat) (ty : TypeId) (off : Nat),(#[(tI,0),(tI,1),(tH,2),(tQ,3),(tM,6)] : Array (TypeId × Nat))[i]? = some (ty,off) → ∃ y,DataW.trod enc P w base spare held m ty ((cs.toList.drop off).take (P.cellsOf ty)) = some y := fun i ty off hi => by
    rw [← hf,Array.getElem?_map] at hi
    cases hq : fs[i]? with
    | none => rw [hq] at hi; cases hi
    | some f =>
      rw [hq] at hi
      simp only [Option.map_some,Option.some.injEq,Prod.mk.injEq] at hi
      obtain ⟨rfl,rfl⟩ := hi
      have hi' : i < fs.size := (Array.getElem?_eq_some_iff.1 hq).1
      exact ⟨xs[i]'(by omega),(hx i f hq).trans (List.getElem?_eq_getElem (by omega))⟩
  rw [ct] at hz
  obtain ⟨l⟩ := cs
  match l,hz with
  | [c0,c1,c2,c3,c4,c5,c6],_ =>
    obtain ⟨y0,h0⟩ := field 0 tI 0 rfl
    obtain ⟨y1,h1⟩ := field 1 tI 1 rfl
    obtain ⟨y2,h2⟩ := field 2 tH 2 rfl
    obtain ⟨y3,h3⟩ := field 3 tQ 3 rfl
    obtain ⟨y4,h4⟩ := field 4 tM 6 rfl
    simp only [cI,cH,cQ,cM] at h0 h1 h2 h3 h4
    have e0 := (ints_of_trod n tI m [c0] _ hI h0).2
    have e1 := (ints_of_trod n tI m [c1] _ hI h1).2
    have e3 := (ints_of_trod n tQ m [c3,c4,c5] _ hQ h3).2
    obtain ⟨kind,rfl,k0⟩ := e0 c0 (by simp)
    obtain ⟨bits,rfl,k1⟩ := e1 c1 (by simp)
    obtain ⟨q0,rfl,k2⟩ := e3 c3 (by simp)
    obtain ⟨q1,rfl,k3⟩ := e3 c4 (by simp)
    obtain ⟨q2,rfl,k4⟩ := e3 c5 (by simp)
    obtain ⟨HA,HN,Hc,zs,hc2,_,_,_,hZ⟩ := open_intsl (n := n) (cs := [c2]) hH hI cI h2
    obtain ⟨MA,MN,Mc,ms,hc6,hle,_,_,hMs⟩ := open_tris (n := n) (cs := [c6]) hM hT cT h4
    simp only [List.cons.injEq,and_true] at hc2 hc6
    subst hc2
    subst hc6
    exact ⟨kind,bits,q0,q1,q2,HA,MA,HN,Hc,MN,Mc,zs,ms,rfl,⟨k0⟩,⟨k1⟩,⟨k2⟩,⟨k3⟩,⟨k4⟩,hZ,hMs,hle⟩
end Go.Lith
namespace Go.Lith
open Go.RowKit
theorem tm_bd {n m : Int} (hm : 0 < m) : -m < n.tmod m ∧ n.tmod m < m := by
  have h1 := Int.tmod_lt_of_pos n hm
  have h2 := Int.tmod_lt_of_pos (-n) hm
  rw [Int.neg_tmod] at h2
  omega
theorem mod_law {n m : Int} (hm : 0 < m) : (n.tmod m + m).tmod m = n % m := by
  have hb := tm_bd (n := n) hm
  rw [Int.tmod_eq_emod_of_nonneg (by omega)]
  rcases Int.le_total 0 n with h | h
  · rw [Int.tmod_eq_emod_of_nonneg h]
    simp
  · have e : n.tmod m = -((-n) % m) := by
      rw [← Int.tmod_eq_emod_of_nonneg (show 0 ≤ -n by omega),Int.neg_tmod,Int.neg_neg]
    rw [e,Int.add_emod_right]
    have h2 := Int.emod_add_mul_ediv (-n) m
    have h3 : -((-n) % m) = n + m * (-n / m) := by omega
    rw [h3,Int.add_mul_emod_self_left]
theorem emod_bd {n m : Int} (hm : 0 < m) : 0 ≤ n % m ∧ n % m < m := ⟨Int.emod_nonneg _ (by omega),Int.emod_lt_of_pos _ hm⟩
/-! ### Hills -/
def hgt (zs : List Int) (x y : Nat) : Int := (zs[(y * 7 + x) % zs.length]?.getD 0) % 64
theorem hgt_bd (zs : List Int) (x y : Nat) : 0 ≤ hgt zs x y ∧ hgt zs x y < 64 := emod_bd (by decide)
def hillP (s : Int) (zs : List Int) (x y : Nat) : P3 := ⟨(x : Int) * s,(y : Int) * s,100 + hgt zs x y⟩
def quadT (a b c d : P3) : List T3 := [⟨a,b,c⟩,⟨a,c,d⟩]
def hillQ (s : Int) (zs : List Int) (y x : Nat) : List T3 := quadT (hillP s zs x y) (hillP s zs (x + 1) y) (hillP s zs (x + 1) (y + 1)) (hillP s zs x (y + 1))
def hillsPre (s : Int) (zs : List Int) (n y x : Nat) : List T3 := ((List.range y).flatMap fun y => (List.range n).flatMap (hillQ s zs y)) ++ (List.range x).flatMap (hillQ s zs y)
def hillsT (s : Int) (zs : List Int) (n : Nat) : List T3 := (List.range n).flatMap fun y => (List.range n).flatMap (hillQ s zs y)
theorem hillsPre_end {s : Int} {zs : List Int} {n : Nat} : hillsPre s zs n n 0 = hillsT s zs n := by simp [hillsPre,hillsT]
theorem hillsPre_row {s : Int} {zs : List Int} {n y : Nat} : hillsPre s zs n y n = hillsPre s zs n (y + 1) 0 := by
  simp [hillsPre,List.range_succ,List.flatMap_append]
theorem hillsPre_step {s : Int} {zs : List Int} {n y x : Nat} : hillsPre s zs n y (x + 1) = hillsPre s zs n y x ++ hillQ s zs y x := by
  simp [hillsPre,List.range_succ,List.flatMap_append]
theorem flatMap_len {α β : Type} {f : α → List β} {k : Nat} : ∀ (l : List α),(∀ x ∈ l,(f x).length = k) → (l.flatMap f).length = l.length * k
  | [],_ => by simp
  | x :: l,h => by
    rw [List.flatMap_cons,List.length_append,h x (by simp),flatMap_len l (fun y hy => h y (by simp [hy])),List.length_cons,Nat.add_mul,Nat.one_mul,Nat.add_comm]
theorem hillsPre_length {s : Int} {zs : List Int} {n y x : Nat} : (hillsPre s zs n y x).length = y * (n * 2) + x * 2 := by
  unfold hillsPre
  rw [List.length_append,flatMap_len (k := n * 2) _ (fun y _ => by rw [flatMap_len (k := 2) _ (fun _ _ => rfl),List.length_range]),flatMap_len (k := 2) _ (fun _ _ => rfl),List.length_range,List.length_range]
def Sm (k : Int) (p : P3) : Prop := (0 ≤ p.x ∧ p.x ≤ k) ∧ (0 ≤ p.y ∧ p.y ≤ k) ∧ (0 ≤ p.z ∧ p.z ≤ k)
def SmT (k : Int) (t : T3) : Prop := Sm k t.a ∧ Sm k t.b ∧ Sm k t.c
theorem Sm.i3 {k : Int} {p : P3} (h : Sm k p) (hk : k < 9223372036854775808) : I3 p := ⟨⟨by have := h.1; omega,by have := h.1; omega⟩,⟨by have := h.2.1; omega,by have := h.2.1; omega⟩,⟨by have := h.2.2; omega,by have := h.2.2; omega⟩⟩
theorem SmT.it {k : Int} {t : T3} (h : SmT k t) (hk : k < 9223372036854775808) : IT t := ⟨h.1.i3 hk,h.2.1.i3 hk,h.2.2.i3 hk⟩
theorem quad_sm {k : Int} {a b c d : P3} (ha : Sm k a) (hb : Sm k b) (hc : Sm k c) (hd : Sm k d) : ∀ t ∈ quadT a b c d,SmT k t := fun t ht => by
  simp only [quadT,List.mem_cons,List.not_mem_nil,or_false] at ht
  rcases ht with rfl | rfl
  · exact ⟨ha,hb,hc⟩
  · exact ⟨ha,hc,hd⟩
theorem hillP_sm {zs : List Int} {x y : Nat} (hx : x ≤ 6) (hy : y ≤ 6) : Sm 200 (hillP 10 zs x y) := by
  have := hgt_bd zs x y
  simp only [Sm,hillP]
  omega
theorem hillQ_sm {zs : List Int} {x y : Nat} (hx : x < 6) (hy : y < 6) : ∀ t ∈ hillQ 10 zs y x,SmT 200 t :=
  quad_sm (hillP_sm (by omega) (by omega)) (hillP_sm (by omega) (by omega)) (hillP_sm (by omega) (by omega)) (hillP_sm (by omega) (by omega))
theorem hillsPre_sm {zs : List Int} {n x y : Nat} (hn : n ≤ 6) (hx : x ≤ 6) (hy : y ≤ 6) (hxy : x = 0 ∨ y < 6) : ∀ t ∈ hillsPre 10 zs n y x,SmT 200 t := fun t ht => by
  rcases List.mem_append.1 ht with h | h
  · obtain ⟨v,hv,h⟩ := List.mem_flatMap.1 h
    obtain ⟨u,hu,h⟩ := List.mem_flatMap.1 h
    exact hillQ_sm (by have := List.mem_range.1 hu; omega) (by have := List.mem_range.1 hv; omega) t h
  · obtain ⟨u,hu,h⟩ := List.mem_flatMap.1 h
    have := List.mem_range.1 hu
    exact hillQ_sm (by omega) (by omega) t h
/-! ### Cubes -/
def cubeC (p : P3) (s : Int) (n : Nat) : P3 := ⟨p.x + ((n % 2 : Nat) : Int) * s,p.y + ((n / 2 % 2 : Nat) : Int) * s,p.z + ((n / 4 : Nat) : Int) * s⟩
def cubeT (p : P3) (s : Int) : List T3 := quadT (cubeC p s 0) (cubeC p s 2) (cubeC p s 3) (cubeC p s 1) ++ quadT (cubeC p s 4) (cubeC p s 5) (cubeC p s 7) (cubeC p s 6) ++ quadT (cubeC p s 0) (cubeC p s 1) (cubeC p s 5) (cubeC p s 4)
  ++ quadT (cubeC p s 2) (cubeC p s 6) (cubeC p s 7) (cubeC p s 3) ++ quadT (cubeC p s 0) (cubeC p s 4) (cubeC p s 6) (cubeC p s 2) ++ quadT (cubeC p s 1) (cubeC p s 3) (cubeC p s 7) (cubeC p s 5)
theorem cubeT_length (p : P3) (s : Int) : (cubeT p s).length = 12 := rfl
def vP (n : Nat) : P3 := ⟨4 + ((n % 3 : Nat) : Int) * 8,5 + ((n / 3 % 3 : Nat) : Int) * 8,6 + ((n / 9 : Nat) : Int) * 8⟩
def stx (f : Nat) : Int := if f = 4 then -1 else if f = 5 then 1 else 0
def sty (f : Nat) : Int := if f = 2 then -1 else if f = 3 then 1 else 0
def stz (f : Nat) : Int := if f = 0 then -1 else if f = 1 then 1 else 0
def vbit (b : Nat) (n : Nat) : Bool := decide (b / 2 ^ n % 2 = 1)
def vface (b n f : Nat) : Bool :=
  let u := ((n % 3 : Nat) : Int) + stx f
  let v := ((n / 3 % 3 : Nat) : Int) + sty f
  let w := ((n / 9 : Nat) : Int) + stz f
  !(decide (0 ≤ u) && decide (u < 3) && decide (0 ≤ v) && decide (v < 3) && decide (0 ≤ w) && decide (w < 3)) || !vbit b ((w * 3 + v) * 3 + u).toNat
def vpair (n f : Nat) : List T3 := ((cubeT (vP n) 8).drop (2 * f)).take 2
def vfaces (b n f : Nat) : List T3 := (List.range f).flatMap fun f => if vface b n f then vpair n f else []
def voxPre (b n f : Nat) : List T3 := ((List.range n).flatMap fun n => if vbit b n then vfaces b n 6 else []) ++ vfaces b n f
def voxT (b : Nat) : List T3 := (List.range 27).flatMap fun n => if vbit b n then vfaces b n 6 else []
theorem voxPre_end {b : Nat} : voxPre b 27 0 = voxT b := by simp [voxPre,voxT,vfaces]
theorem voxPre_yes {b n : Nat} (h : vbit b n = true) : voxPre b n 6 = voxPre b (n + 1) 0 := by
  simp [voxPre,List.range_succ (n := n),List.flatMap_append,h,vfaces]
theorem voxPre_no {b n : Nat} (h : vbit b n = false) : voxPre b n 0 = voxPre b (n + 1) 0 := by
  simp [voxPre,List.range_succ (n := n),List.flatMap_append,h,vfaces]
theorem voxPre_in {b n f : Nat} (h : vface b n f = true) : voxPre b n (f + 1) = voxPre b n f ++ vpair n f := by
  simp [voxPre,vfaces,List.range_succ (n := f),List.flatMap_append,h]
theorem voxPre_out {b n f : Nat} (h : vface b n f = false) : voxPre b n (f + 1) = voxPre b n f := by
  simp [voxPre,vfaces,List.range_succ (n := f),List.flatMap_append,h]
/-! ### What the walks ask for -/
theorem tmodN {k c : Nat} : (k : Int).tmod (c : Int) = ((k % c : Nat) : Int) := rfl
theorem shrI {b : Nat} {n : Int} (h0 : 0 ≤ n) (h : n ≤ 63) : (b : Int).fdiv (2 ^ (min n.toNat IntKind.i64.bits)) = ((b / 2 ^ n.toNat : Nat) : Int) := by
  have e : min n.toNat IntKind.i64.bits = n.toNat := Nat.min_eq_left (by show n.toNat ≤ 64; omega)
  rw [e,Int.fdiv_eq_ediv_of_nonneg _ (by exact Int.le_of_lt (Int.pow_pos (by decide)))]
  simp
theorem and1 {x : Nat} (h : x < 9223372036854775808) : IntKind.i64.wrap ((BitVec.ofInt IntKind.i64.bits (x : Int) &&& BitVec.ofInt IntKind.i64.bits 1).toNat : Int) = ((x % 2 : Nat) : Int) := by
  have e : (BitVec.ofInt IntKind.i64.bits (x : Int) &&& BitVec.ofInt IntKind.i64.bits 1).toNat = x % 2 := by
    show (BitVec.ofInt 64 (x : Int) &&& BitVec.ofInt 64 1).toNat = x % 2
    rw [BitVec.toNat_and,BitVec.toNat_ofInt,BitVec.toNat_ofInt]
    have h1 : ((x : Int) % ((2 ^ 64 : Nat) : Int)).toNat = x := by
      have : ((2 ^ 64 : Nat) : Int) = 18446744073709551616 := rfl
      rw [this]; omega
    have h2 : ((1 : Int) % ((2 ^ 64 : Nat) : Int)).toNat = 1 := rfl
    rw [h1,h2,Nat.and_one_is_mod]
  rw [e]
  exact wrap_i64 (by omega) (by omega)
theorem div_le {b n : Nat} (h : b < 134217728) : b / 2 ^ n < 9223372036854775808 := Nat.lt_of_le_of_lt (Nat.div_le_self _ _) (by omega)
theorem hgt_some {zs : List Int} {x y N : Nat} {z : Int} (hl : zs.length = N) (hz : zs[(y * 7 + x) % N]? = some z) : hgt zs x y = z % 64 := by
  unfold hgt
  rw [hl,hz]
  rfl
theorem hgt_nil {zs : List Int} {x y N : Nat} (hl : zs.length = N) (h : ¬ (0 : Int) < (N : Int)) : hgt zs x y = 0 := by
  have : zs = [] := List.eq_nil_of_length_eq_zero (by omega)
  subst this
  rfl
theorem hp_cells {s : Int} {zs : List Int} {n y x : Nat} : (hillsPre s zs n y x).flatMap triCells ++ (quadT (hillP s zs x y) (hillP s zs (x + 1) y) (hillP s zs (x + 1) (y + 1)) (hillP s zs x (y + 1))).flatMap triCells = (hillsPre s zs n y (x + 1)).flatMap triCells := by
  rw [hillsPre_step,List.flatMap_append]
  rfl
theorem hp_len {s : Int} {zs : List Int} {n y x : Nat} {a b c d : P3} : (hillsPre s zs n y x).length + (quadT a b c d).length = (hillsPre s zs n y (x + 1)).length := by
  rw [hillsPre_length,hillsPre_length]
  show _ + 2 = _
  omega
theorem hillsPre_le {s : Int} {zs : List Int} {n y x : Nat} (hn : n ≤ 6) (hy : y ≤ 6) (hx : x ≤ 6) : (hillsPre s zs n y x).length ≤ 84 := by
  rw [hillsPre_length]
  have : y * (n * 2) ≤ 6 * (6 * 2) := Nat.mul_le_mul hy (by omega)
  omega
theorem hillsT_sm {zs : List Int} {n : Nat} (hn : n ≤ 6) : ∀ t ∈ hillsT 10 zs n,SmT 200 t := by
  rw [← hillsPre_end]
  exact hillsPre_sm hn (by omega) hn (.inl rfl)
theorem hillsT_le {s : Int} {zs : List Int} {n : Nat} (hn : n ≤ 6) : (hillsT s zs n).length ≤ 84 := by
  rw [← hillsPre_end]
  exact hillsPre_le hn hn (by omega)
def TS (E : TypeId) (ts : List T3) (w : World) (v : Value) (w' : World) : Prop := ∃ A cap n,n = ts.length ∧ v = .slice A n cap ∧ Ow w w' [] E 9 A n cap (ts.flatMap triCells)
theorem Ow.tri {w0 w : World} {S : List (Option Nat)} {E : TypeId} {n cap g i : Nat} {ts : List T3} {t : T3} (h : Ow w0 w S E 9 (Option.some ⟨g,0,none⟩) n cap (ts.flatMap triCells)) (ht : ts[i]? = Option.some t) : Row w ((⟨g,0,none⟩ : Addr).add (i * 9)) [.int .i64 t.a.x,.int .i64 t.a.y,.int .i64 t.a.z,.int .i64 t.b.x,.int .i64 t.b.y,.int .i64 t.b.z,.int .i64 t.c.x,.int .i64 t.c.y,.int .i64 t.c.z] := by
  show Row w _ (triCells t)
  intro j u hj
  have hj' : j < (triCells t).length := (List.getElem?_eq_some_iff.1 hj).1
  rw [addr_add_add]
  refine h.rows _ _ ?_
  rw [← List.getElem?_drop,drop_flat ts i t ht,List.getElem?_append_left hj']
  exact hj
theorem vP_sm {n : Nat} (h : n < 27) : Sm 100 (vP n) := by
  simp only [Sm,vP]
  omega
theorem cubeC_sm {p : P3} {n : Nat} (h : Sm 100 p) (hn : n < 8) : Sm 200 (cubeC p 8 n) := by
  simp only [Sm,cubeC] at h ⊢
  omega
theorem cubeT_sm {p : P3} (h : Sm 100 p) : ∀ t ∈ cubeT p 8,SmT 200 t := fun t ht => by
  have c : ∀ n,n < 8 → Sm 200 (cubeC p 8 n) := fun n hn => cubeC_sm h hn
  simp only [cubeT,List.mem_append] at ht
  rcases ht with ((((ht | ht) | ht) | ht) | ht) | ht <;> exact quad_sm (c _ (by decide)) (c _ (by decide)) (c _ (by decide)) (c _ (by decide)) t ht
theorem vpair_sm {n f : Nat} (h : n < 27) : ∀ t ∈ vpair n f,SmT 200 t := fun t ht => cubeT_sm (vP_sm h) t (List.mem_of_mem_drop (List.mem_of_mem_take ht))
theorem vfaces_sm {b n f : Nat} (h : n < 27) : ∀ t ∈ vfaces b n f,SmT 200 t := fun t ht => by
  obtain ⟨k,_,h2⟩ := List.mem_flatMap.1 ht
  split at h2
  · exact vpair_sm h t h2
  · cases h2
theorem voxT_sm {b : Nat} : ∀ t ∈ voxT b,SmT 200 t := fun t ht => by
  obtain ⟨k,hk,h2⟩ := List.mem_flatMap.1 ht
  split at h2
  · exact vfaces_sm (List.mem_range.1 hk) t h2
  · cases h2
theorem flatMap_le {α β : Type} {f : α → List β} {k : Nat} : ∀ (l : List α),(∀ x ∈ l,(f x).length ≤ k) → (l.flatMap f).length ≤ l.length * k
  | [],_ => by simp
  | x :: l,h => by
    have h1 := h x (by simp)
    have h2 := flatMap_le l (fun y hy => h y (by simp [hy]))
    rw [List.flatMap_cons,List.length_append,List.length_cons,Nat.add_mul,Nat.one_mul]
    omega
theorem vpair_le {n f : Nat} : (vpair n f).length ≤ 2 := by unfold vpair; rw [List.length_take]; omega
theorem vfaces_le {b n f : Nat} : (vfaces b n f).length ≤ f * 2 := by
  have := flatMap_le (f := fun f => if vface b n f then vpair n f else []) (k := 2) (List.range f) (fun x _ => by
    show (if vface b n x = true then vpair n x else []).length ≤ 2
    split
    · exact vpair_le
    · exact Nat.zero_le _)
  rwa [List.length_range] at this
theorem voxPre_le {b n f : Nat} (hn : n ≤ 27) (hf : f ≤ 6) : (voxPre b n f).length ≤ 400 := by
  have h1 := flatMap_le (f := fun n => if vbit b n then vfaces b n 6 else []) (k := 12) (List.range n) (fun x _ => by
    show (if vbit b x = true then vfaces b x 6 else []).length ≤ 12
    split
    · exact vfaces_le
    · exact Nat.zero_le _)
  have h2 := vfaces_le (b := b) (n := n) (f := f)
  rw [List.length_range] at h1
  unfold voxPre
  rw [List.length_append]
  omega
theorem voxT_le {b : Nat} : (voxT b).length ≤ 400 := by
  rw [← voxPre_end]
  exact voxPre_le (by omega) (by omega)
def stepCells : List Value := [.int .i64 0,.int .i64 0,.int .i64 (-1),.int .i64 0,.int .i64 0,.int .i64 1,.int .i64 0,.int .i64 (-1),.int .i64 0,.int .i64 0,.int .i64 1,.int .i64 0,.int .i64 (-1),.int .i64 0,.int .i64 0,.int .i64 1,.int .i64 0,.int .i64 0]
theorem st_cases {f : Nat} (h : f < 6) : f = 0 ∨ f = 1 ∨ f = 2 ∨ f = 3 ∨ f = 4 ∨ f = 5 := by omega
theorem stc_x {f : Nat} (h : f < 6) : stepCells[f * 3]? = some (.int .i64 (stx f)) := by rcases st_cases h with rfl | rfl | rfl | rfl | rfl | rfl <;> rfl
theorem stc_y {f : Nat} (h : f < 6) : stepCells[f * 3 + 1]? = some (.int .i64 (sty f)) := by rcases st_cases h with rfl | rfl | rfl | rfl | rfl | rfl <;> rfl
theorem stc_z {f : Nat} (h : f < 6) : stepCells[f * 3 + 2]? = some (.int .i64 (stz f)) := by rcases st_cases h with rfl | rfl | rfl | rfl | rfl | rfl <;> rfl
theorem st_bd (f : Nat) : (-1 ≤ stx f ∧ stx f ≤ 1) ∧ (-1 ≤ sty f ∧ sty f ≤ 1) ∧ (-1 ≤ stz f ∧ stz f ≤ 1) := by
  unfold stx sty stz
  repeat' split
  all_goals omega
theorem vin {u v w : Int} (hb : (!(!(decide (0 ≤ u) && decide (u < 3) && decide (0 ≤ v) && decide (v < 3) && decide (0 ≤ w) && decide (w < 3)))) = true) : (0 ≤ u ∧ u < 3) ∧ (0 ≤ v ∧ v < 3) ∧ 0 ≤ w ∧ w < 3 := by
  simp only [Bool.not_not,Bool.and_eq_true,decide_eq_true_eq] at hb
  omega
theorem vface_eq {b n f : Nat} : (!(decide ((0 : Int) ≤ ((n % 3 : Nat) : Int) + stx f) && decide (((n % 3 : Nat) : Int) + stx f < 3) && decide ((0 : Int) ≤ ((n / 3 % 3 : Nat) : Int) + sty f) && decide (((n / 3 % 3 : Nat) : Int) + sty f < 3) && decide ((0 : Int) ≤ ((n / 9 : Nat) : Int) + stz f) && decide (((n / 9 : Nat) : Int) + stz f < 3)) ||
    decide (((b / 2 ^ (((((n / 9 : Nat) : Int) + stz f) * 3 + (((n / 3 % 3 : Nat) : Int) + sty f)) * 3 + (((n % 3 : Nat) : Int) + stx f)).toNat % 2 : Nat) : Int) = 0)) = vface b n f := by
  unfold vface vbit
  simp only
  congr 1
  rw [← decide_not]
  congr 1
  apply propext
  constructor <;> intro h <;> omega
theorem vox_at {n f : Nat} (h : f < 6) : ∃ t u,(cubeT (vP n) 8)[2 * f]? = some t ∧ (cubeT (vP n) 8)[2 * f + 1]? = some u ∧ vpair n f = [t,u] := by
  have h1 : 2 * f < (cubeT (vP n) 8).length := by rw [cubeT_length]; omega
  have h2 : 2 * f + 1 < (cubeT (vP n) 8).length := by rw [cubeT_length]; omega
  refine ⟨_,_,List.getElem?_eq_getElem h1,List.getElem?_eq_getElem h2,?_⟩
  unfold vpair
  rw [List.drop_eq_getElem_cons h1,List.drop_eq_getElem_cons h2]
  rfl
theorem vox_cells {b n f : Nat} {t u : T3} (hp : vpair n f = [t,u]) (h : vface b n f = true) : (voxPre b n f).flatMap triCells ++ [.int .i64 t.a.x,.int .i64 t.a.y,.int .i64 t.a.z,.int .i64 t.b.x,.int .i64 t.b.y,.int .i64 t.b.z,.int .i64 t.c.x,.int .i64 t.c.y,.int .i64 t.c.z,.int .i64 u.a.x,.int .i64 u.a.y,.int .i64 u.a.z,.int .i64 u.b.x,.int .i64 u.b.y,.int .i64 u.b.z,.int .i64 u.c.x,.int .i64 u.c.y,.int .i64 u.c.z] = (voxPre b n (f + 1)).flatMap triCells := by
  rw [voxPre_in h,List.flatMap_append,hp]
  rfl
theorem vox_len {b n f : Nat} (hf : f < 6) (h : vface b n f = true) : (voxPre b n f).length + 2 = (voxPre b n (f + 1)).length := by
  obtain ⟨t,u,_,_,hp⟩ := vox_at (n := n) hf
  rw [voxPre_in h,List.length_append,hp]
  rfl
def baseT (kind bits : Int) (zs : List Int) : List T3 := if kind % 3 = 0 then voxT (bits % 134217728).toNat else hillsT 10 zs (1 + kind.tdiv 3 % 6).toNat
theorem tdiv3_bd {z : Int} (h : I64 z) : IntKind.i64.wrap (z.tdiv 3) = z.tdiv 3 ∧ I64 (z.tdiv 3) := by
  obtain ⟨h1,h2⟩ := h
  have hb : -9223372036854775808 ≤ z.tdiv 3 ∧ z.tdiv 3 < 9223372036854775808 := by
    rcases Int.le_total 0 z with hz | hz
    · rw [Int.tdiv_eq_ediv_of_nonneg hz]; omega
    · have e : z.tdiv 3 = -((-z) / 3) := by
        rw [← Int.tdiv_eq_ediv_of_nonneg (show 0 ≤ -z by omega),Int.neg_tdiv,Int.neg_neg]
      rw [e]; omega
  exact ⟨wrap_i64 hb.1 hb.2,hb⟩
theorem baseT_sm {kind bits : Int} {zs : List Int} : ∀ t ∈ baseT kind bits zs,SmT 200 t := by
  unfold baseT
  split
  · exact voxT_sm
  · exact hillsT_sm (by omega)
theorem baseT_le {kind bits : Int} {zs : List Int} : (baseT kind bits zs).length ≤ 400 := by
  unfold baseT
  split
  · exact voxT_le
  · exact Nat.le_trans (hillsT_le (by omega)) (by decide)
end Go.Lith
namespace Go.Lith
open Go.RowKit
def Pts (ts : List T3) (p : P3) : Prop := ∃ u ∈ ts,p = u.a ∨ p = u.b ∨ p = u.c
def SubT (us ts : List T3) : Prop := ∀ p,Pts us p → Pts ts p
theorem SubT.refl (ts : List T3) : SubT ts ts := fun _ h => h
theorem SubT.trans {a b c : List T3} (h : SubT a b) (k : SubT b c) : SubT a c := fun p hp => k p (h p hp)
theorem SubT.of_sub {us ts : List T3} (h : ∀ u ∈ us,u ∈ ts) : SubT us ts := fun p ⟨u,hu,hp⟩ => ⟨u,h u hu,hp⟩
theorem SubT.app {us vs ts : List T3} (h : SubT us ts) (k : SubT vs ts) : SubT (us ++ vs) ts := fun p ⟨u,hu,hp⟩ => by
  rcases List.mem_append.1 hu with hu | hu
  · exact h p ⟨u,hu,hp⟩
  · exact k p ⟨u,hu,hp⟩
theorem SubT.one {ts : List T3} {a b c : P3} (ha : Pts ts a) (hb : Pts ts b) (hc : Pts ts c) : SubT [⟨a,b,c⟩] ts := fun p ⟨u,hu,hp⟩ => by
  obtain rfl := List.mem_singleton.1 hu
  rcases hp with rfl | rfl | rfl
  · exact ha
  · exact hb
  · exact hc
theorem SubT.set {us ts : List T3} {k : Nat} {a b c : P3} (h : SubT us ts) (ha : Pts ts a) (hb : Pts ts b) (hc : Pts ts c) : SubT (us.set k ⟨a,b,c⟩) ts := fun p ⟨u,hu,hp⟩ => by
  rcases List.mem_or_eq_of_mem_set hu with hu | rfl
  · exact h p ⟨u,hu,hp⟩
  · rcases hp with rfl | rfl | rfl
    · exact ha
    · exact hb
    · exact hc
theorem pts_a {ts : List T3} {k : Nat} {t : T3} (h : ts[k]? = some t) : Pts ts t.a := ⟨t,List.mem_of_getElem? h,.inl rfl⟩
theorem pts_b {ts : List T3} {k : Nat} {t : T3} (h : ts[k]? = some t) : Pts ts t.b := ⟨t,List.mem_of_getElem? h,.inr (.inl rfl)⟩
theorem pts_c {ts : List T3} {k : Nat} {t : T3} (h : ts[k]? = some t) : Pts ts t.c := ⟨t,List.mem_of_getElem? h,.inr (.inr rfl)⟩
theorem SubT.sm {us ts : List T3} {k : Int} (h : SubT us ts) (hs : ∀ t ∈ ts,SmT k t) : ∀ t ∈ us,SmT k t := fun t ht => by
  have p : ∀ p,Pts us p → Sm k p := fun p hp => by
    obtain ⟨u,hu,hp⟩ := h p hp
    rcases hp with rfl | rfl | rfl
    · exact (hs u hu).1
    · exact (hs u hu).2.1
    · exact (hs u hu).2.2
  exact ⟨p _ ⟨t,ht,.inl rfl⟩,p _ ⟨t,ht,.inr (.inl rfl)⟩,p _ ⟨t,ht,.inr (.inr rfl)⟩⟩
theorem SubT.it {us ts : List T3} (h : SubT us ts) (hs : ∀ t ∈ ts,IT t) : ∀ t ∈ us,IT t := fun t ht => by
  have p : ∀ p,Pts us p → I3 p := fun p hp => by
    obtain ⟨u,hu,hp⟩ := h p hp
    have := hs u hu
    rcases hp with rfl | rfl | rfl
    · exact this.a
    · exact this.b
    · exact this.c
  exact ⟨p _ ⟨t,ht,.inl rfl⟩,p _ ⟨t,ht,.inr (.inl rfl)⟩,p _ ⟨t,ht,.inr (.inr rfl)⟩⟩
theorem flat_take (ts : List T3) (k : Nat) : (ts.take k).flatMap triCells = (ts.flatMap triCells).take (k * 9) := by
  induction ts generalizing k with
  | nil => simp
  | cons t ts ih =>
    cases k with
    | zero => simp
    | succ k =>
      rw [List.take_succ_cons,List.flatMap_cons,List.flatMap_cons,ih,List.take_append,triCells_length,List.take_of_length_le (l := triCells t) (by rw [triCells_length]; omega),show (k + 1) * 9 - 9 = k * 9 by omega]
theorem flat_drop (ts : List T3) (k : Nat) : (ts.drop k).flatMap triCells = (ts.flatMap triCells).drop (k * 9) := by
  induction ts generalizing k with
  | nil => simp
  | cons t ts ih =>
    cases k with
    | zero => simp
    | succ k =>
      rw [List.drop_succ_cons,List.flatMap_cons,ih,List.drop_append,triCells_length,List.drop_of_length_le (l := triCells t) (by rw [triCells_length]; omega),show (k + 1) * 9 - 9 = k * 9 by omega,List.nil_append]
theorem flat_set {ts : List T3} {k : Nat} {t u : T3} (h : ts[k]? = some t) : over (ts.flatMap triCells) (k * 9) (triCells u) = (ts.set k u).flatMap triCells := by
  induction ts generalizing k with
  | nil => cases h
  | cons v ts ih =>
    cases k with
    | zero =>
      unfold over
      rw [Nat.zero_mul,List.take_zero,List.nil_append,List.set_cons_zero,List.flatMap_cons,List.flatMap_cons,triCells_length,Nat.zero_add,List.drop_append,triCells_length,List.drop_of_length_le (l := triCells v) (by rw [triCells_length]; omega)]
      rfl
    | succ k =>
      have := ih (k := k) h
      unfold over at this ⊢
      rw [List.set_cons_succ,List.flatMap_cons,List.flatMap_cons,← this,triCells_length]
      rw [List.take_append,triCells_length,List.take_of_length_le (l := triCells v) (by rw [triCells_length]; omega),show (k + 1) * 9 - 9 = k * 9 by omega,List.drop_append,triCells_length,List.drop_of_length_le (l := triCells v) (by rw [triCells_length]; omega),show (k + 1) * 9 + 9 - 9 = k * 9 + 9 by omega]
      simp only [List.append_assoc,List.nil_append]
def T3.cor (t : T3) (c : Nat) : P3 := if c = 0 then t.a else if c = 1 then t.b else t.c
def T3.setC (t : T3) (c : Nat) (p : P3) : T3 := if c = 0 then ⟨p,t.b,t.c⟩ else if c = 1 then ⟨t.a,p,t.c⟩ else ⟨t.a,t.b,p⟩
theorem over_in {t : T3} {c : Nat} {p : P3} (hc : c < 3) : over (triCells t) (c * 3) [.int .i64 p.x,.int .i64 p.y,.int .i64 p.z] = triCells (t.setC c p) := by
  have : c = 0 ∨ c = 1 ∨ c = 2 := by omega
  rcases this with rfl | rfl | rfl <;> rfl
theorem over_part {cs us : List Value} {off k d : Nat} (h : off + k ≤ cs.length) (hu : us.length + d ≤ k) : over cs (off + d) us = over cs off (over ((cs.drop off).take k) d us) := by
  have e0 : ((cs.drop off).take k).length = k := by rw [List.length_take,List.length_drop]; omega
  have e1 : (over ((cs.drop off).take k) d us).length = k := by rw [over_length (by omega)]; exact e0
  unfold over at e1 ⊢
  rw [e1]
  apply List.ext_getElem?
  intro j
  simp only [List.append_assoc]
  rcases Nat.lt_or_ge j off with h1 | h1
  · rw [List.getElem?_append_left (by rw [List.length_take]; omega),List.getElem?_append_left (by rw [List.length_take]; omega),List.getElem?_take,List.getElem?_take,if_pos (by omega),if_pos h1]
  · rw [List.getElem?_append_right (l₁ := cs.take off) (by rw [List.length_take]; omega)]
    have e2 : (cs.take off).length = off := by rw [List.length_take]; omega
    have e3 : (cs.take (off + d)).length = off + d := by rw [List.length_take]; omega
    rw [e2]
    rcases Nat.lt_or_ge j (off + d) with h2 | h2
    · rw [List.getElem?_append_left (by rw [e3]; exact h2),List.getElem?_append_left (by rw [List.length_take,e0]; omega),List.getElem?_take,List.getElem?_take,List.getElem?_take,List.getElem?_drop,if_pos h2,if_pos (by omega),if_pos (by omega),show off + (j - off) = j by omega]
    · rw [List.getElem?_append_right (by rw [e3]; exact h2),e3,List.getElem?_append_right (l₁ := ((cs.drop off).take k).take d) (by rw [List.length_take,e0]; omega),List.length_take (l := (cs.drop off).take k),e0,Nat.min_eq_left (by omega),show j - off - d = j - (off + d) by omega]
      rcases Nat.lt_or_ge (j - (off + d)) us.length with h3 | h3
      · rw [List.getElem?_append_left h3,List.getElem?_append_left h3]
      · rw [List.getElem?_append_right h3,List.getElem?_append_right h3]
        rcases Nat.lt_or_ge j (off + k) with h4 | h4
        · rw [List.getElem?_append_left (by rw [List.length_drop,e0]; omega),List.getElem?_drop,List.getElem?_drop,List.getElem?_take,List.getElem?_drop,if_pos (by omega)]
          congr 1
          omega
        · rw [List.getElem?_append_right (by rw [List.length_drop,e0]; omega),List.getElem?_drop,List.getElem?_drop,List.length_drop,e0]
          congr 1
          omega
theorem flat_cor {ts : List T3} {k c : Nat} {t : T3} {p : P3} (h : ts[k]? = some t) (hc : c < 3) : over (ts.flatMap triCells) (k * 9 + c * 3) [.int .i64 p.x,.int .i64 p.y,.int .i64 p.z] = (ts.set k (t.setC c p)).flatMap triCells := by
  have hk : k < ts.length := (List.getElem?_eq_some_iff.1 h).1
  have hd := drop_flat ts k t h
  rw [over_part (k := 9) (by rw [tri_len]; omega) (by show 3 + _ ≤ 9; omega),hd,List.take_append,triCells_length,List.take_of_length_le (l := triCells t) (by rw [triCells_length]; omega),show 9 - 9 = 0 from rfl,List.take_zero,List.append_nil,over_in hc,flat_set h]
theorem flat_cor0 {ts : List T3} {k : Nat} {t : T3} {p : P3} (h : ts[k]? = some t) : over (ts.flatMap triCells) (k * 9) [.int .i64 p.x,.int .i64 p.y,.int .i64 p.z] = (ts.set k (t.setC 0 p)).flatMap triCells := flat_cor (c := 0) h (by decide)
theorem flat_cor1 {ts : List T3} {k : Nat} {t : T3} {p : P3} (h : ts[k]? = some t) : over (ts.flatMap triCells) (k * 9 + 3) [.int .i64 p.x,.int .i64 p.y,.int .i64 p.z] = (ts.set k (t.setC 1 p)).flatMap triCells := flat_cor (c := 1) h (by decide)
theorem set_cor_sub {us ts : List T3} {k c : Nat} {t : T3} {p : P3} (hs : SubT us ts) (h : us[k]? = some t) (hp : Pts ts p) : SubT (us.set k (t.setC c p)) ts := by
  have a := hs _ (pts_a h); have b := hs _ (pts_b h); have d := hs _ (pts_c h)
  unfold T3.setC
  split
  · exact hs.set hp b d
  · split
    · exact hs.set a hp d
    · exact hs.set a b hp
section
variable {w0 w : World} {S : List (Option Nat)} {E : TypeId} {n cap : Nat} {A : Option Addr} {ts : List T3}
theorem Ow.takeT (h : Ow w0 w S E 9 A n cap (ts.flatMap triCells)) {k : Nat} (hk : k ≤ n) : Ow w0 w S E 9 A k cap ((ts.take k).flatMap triCells) := (h.take hk).as (flat_take ts k).symm
theorem Ow.dropRow {q : Nat} (h : Ow w0 w S E 9 A n cap (ts.flatMap triCells)) : ∀ j u,((ts.drop q).flatMap triCells)[j]? = Option.some u → ∃ a,(if cap = q then A else A.map (·.add (q * 9))) = Option.some a ∧ w.cell? (a.add j) = Option.some u := fun j u hj => by
  rw [flat_drop,List.getElem?_drop] at hj
  have hl : q * 9 + j < (ts.flatMap triCells).length := (List.getElem?_eq_some_iff.1 hj).1
  obtain ⟨a,rfl,hc⟩ := h.row _ _ hj
  have := h.own.1
  have := h.le
  rw [if_neg (by omega)]
  exact ⟨_,rfl,by rw [addr_add_add]; exact hc⟩
theorem Row.cor {a : Addr} {t : T3} {c : Nat} (h : Row w a (triCells t)) (hc : c < 3) : Row w (a.add (c * 3)) [.int .i64 (t.cor c).x,.int .i64 (t.cor c).y,.int .i64 (t.cor c).z] := by
  have := (h.sub (c * 3)).take 3
  have e : c = 0 ∨ c = 1 ∨ c = 2 := by omega
  rcases e with rfl | rfl | rfl <;> exact this
theorem TrisAt.take {N k : Nat} (h : TrisAt w A N ts) (hk : k ≤ N) : TrisAt w A k (ts.take k) :=
  ⟨by rw [List.length_take,h.len]; omega,fun t ht => h.it t (List.mem_of_mem_take ht),fun i t ht => h.row i t (by rw [List.getElem?_take] at ht; split at ht; exact ht; cases ht)⟩
theorem addrBO {g off c q : Nat} {z : Int} (h : z.toNat = q) : (⟨g,off,none⟩ : Addr).add (z.toNat * c) = ⟨g,off + q * c,none⟩ := by rw [h,addr_add_mk]
theorem get_lt {k : Nat} (h : k < ts.length) : ∃ t,ts[k]? = Option.some t := ⟨_,List.getElem?_eq_getElem h⟩
theorem mod_nat {q : Int} {N : Nat} (h : 0 < N) : ∃ k : Nat,q % (N : Int) = (k : Int) ∧ k < N := by
  have := emod_bd (n := q) (m := (N : Int)) (by omega)
  exact ⟨(q % (N : Int)).toNat,by omega,by omega⟩
theorem min_law {a b : Nat} : (if (b : Int) < (a : Int) then (b : Int) else (a : Int)) = ((min a b : Nat) : Int) := by
  split <;> omega
end
end Go.Lith
namespace Go.Proofs.YtmcgcnpgkkfkoaaGreatDoor
open Go.RowKit Go.Lith
set_option maxRecDepth 100000
attribute [local irreducible] wpList wpQuiet wpMix wpMixH wpTree Code.wp
set_option maxHeartbeats 400000 in
theorem r4Mod_c {n k : Int} [Iw n] (h0 : 0 < k) (h1 : k < 4611686018427387904) : Pure Tryz.prog 91 [.int .i64 n,.int .i64 k] (.int .i64 (n % k)) := by
 intro w
 refine ⟨en_91,?_⟩
 have m := Mem.refl w
 have hb := tm_bd (n := n) h0
 go_enter Tryz.func91,Tryz.ntmps91
 refine c_seq fun K1 k1 => wp_region_lit (n_val (r_assign) (n_nil (k1 _ _ ?_)))
 refine c_seq fun K2 k2 => wp_region_lit (n_val (r_move) (n_val (r_move) ?_))
 simp only [ev,zD,zE,zF,zG]
 refine n_val (r_rem rfl rfl (by omega) rfl) (n_val (r_move) ?_)
 simp only [ev,zD,zE,zF,zG]
 refine n_val (r_add rfl rfl (wrap_i64 (by omega) (by omega))) (n_val (r_move) ?_)
 simp only [ev,zD,zE,zF,zG]
 refine n_val (r_rem rfl rfl (by omega) (mod_law h0)) (n_val (r_assign) (n_nil (k2 _ _ ?_)))
 refine wp_ret ?_
 simp only [ev,zD,zE,zF,zG]
 try simp only [Exit.inBlock,Exit.then,if_true]
 refine fin1 rfl rfl ?_
 try simp only [zD,zE]
 exact ⟨_,rfl,m.ext,rfl⟩

set_option maxHeartbeats 400000 in
theorem r1Mod_c {n k : Int} [Iw n] (h0 : 0 < k) (h1 : k < 4611686018427387904) : Pure Tryz.prog 92 [.int .i64 n,.int .i64 k] (.int .i64 (n % k)) := by
 intro w
 refine ⟨en_92,?_⟩
 have m := Mem.refl w
 have hb := tm_bd (n := n) h0
 go_enter Tryz.func92,Tryz.ntmps92
 refine c_seq fun K1 k1 => wp_region_lit (n_val (r_assign) (n_nil (k1 _ _ ?_)))
 refine c_seq fun K2 k2 => wp_region_lit (n_val (r_move) (n_val (r_move) ?_))
 simp only [ev,zD,zE,zF,zG]
 refine n_val (r_rem rfl rfl (by omega) rfl) (n_val (r_move) ?_)
 simp only [ev,zD,zE,zF,zG]
 refine n_val (r_add rfl rfl (wrap_i64 (by omega) (by omega))) (n_val (r_move) ?_)
 simp only [ev,zD,zE,zF,zG]
 refine n_val (r_rem rfl rfl (by omega) (mod_law h0)) (n_val (r_assign) (n_nil (k2 _ _ ?_)))
 refine wp_ret ?_
 simp only [ev,zD,zE,zF,zG]
 try simp only [Exit.inBlock,Exit.then,if_true]
 refine fin1 rfl rfl ?_
 try simp only [zD,zE]
 exact ⟨_,rfl,m.ext,rfl⟩

set_option maxHeartbeats 400000 in
theorem hill_c {x y N cap : Nat} {A : Option Addr} {zs : List Int} (w : World) (hZ : IntsAt w A N zs) (hx : x ≤ 6) (hy : y ≤ 6) : Does Tryz.prog 147 [.int .i64 (x : Int),.int .i64 (y : Int),.int .i64 10,.slice A N cap] w (fun v _ => v = pt (hillP 10 zs x y)) := by
 refine ⟨en_147,?_⟩
 have m := Mem.refl w
 go_enter Tryz.func147,Tryz.ntmps147
 refine c_seq fun K1 k1 => wp_region_lit (malloc m zero_28 rfl ?_)
 clear m; intro g1 u m
 refine n_nil (k1 _ _ ?_)
 refine c_seq fun K2 k2 => wp_region_lit (n_val (r_assign) (n_nil (k2 _ _ ?_)))
 refine c_seq fun K3 k3 => c_seq fun K4 k4 => wp_region_lit (n_val (r_move) (n_val (r_lenS rfl Tryz.underlying22 rfl) ?_))
 simp only [ev,zD,zE,zF,zG]
 refine n_val (r_gtr rfl rfl) (n_nil (k4 _ _ ?_))
 simp only [ev,zD,zE,zF,zG]
 refine c_if rfl (fun hc1 => ?_) (fun hc1 => ?_)
 ·
  have hi : (y * 7 + x) % N < N := Nat.mod_lt _ (by omega)
  obtain ⟨z,hz,hzI,a,rfl,hcell⟩ := hZ.get hi
  have hz6 := emod_bd (n := z) (m := 64) (by decide)
  refine wp_region_lit (n_val (r_move) (n_val (r_move) ?_))
  simp only [ev,zD,zE,zF,zG]
  refine n_val (r_mul rfl rfl (wrap_i64 (by omega) (by omega))) (n_val (r_move) ?_)
  simp only [ev,zD,zE,zF,zG]
  refine n_val (r_add rfl rfl (wrap_i64 (by omega) (by omega))) (n_val (r_move) (n_val (r_lenS rfl Tryz.underlying22 rfl) ?_))
  simp only [ev,zD,zE,zF,zG]
  refine n_val (r_rem rfl rfl (by omega) (tmodN (k := y * 7 + x))) (n_val (r_indexAddrS Tryz.underlying22 cells_3 rfl rfl (Int.natCast_nonneg _) (Int.ofNat_lt.2 hi) (addr1 (Int.toNat_natCast _))) ?_)
  simp only [ev,zD,zE,zF,zG]
  refine n_load rfl (lies1 (m.ext.cell hcell) agg_3) ?_
  simp only [ev,zD,zE,zF,zG]
  refine mcallP m rfl rfl (r4Mod_c (n := z) (k := 64) (by decide) (by decide)) ?_
  clear m; intro u m
  refine n_val (r_assign) (n_nil (k3 _ _ ?_))
  refine c_seq fun K5 k5 => wp_region_lit (n_val (r_move) (n_val (r_move) ?_))
  simp only [ev,zD,zE,zF,zG]
  refine n_val (r_mul rfl rfl (wrap_i64 (by omega) (by omega))) (n_val (r_move) (n_val (r_move) ?_))
  simp only [ev,zD,zE,zF,zG]
  refine n_val (r_mul rfl rfl (wrap_i64 (by omega) (by omega))) (n_val (r_move) ?_)
  simp only [ev,zD,zE,zF,zG]
  refine n_val (r_add rfl rfl (wrap_i64 (by omega) (by omega))) (n_val (r_build_28_0_1_2 rfl rfl rfl) ?_)
  simp only [ev,zD,zE,zF,zG]
  refine mstoreA m 0 rfl rfl rfl cells_28 (leT rfl) rfl ?_
  clear m; intro u m; simp only [over,zH,zI,zJ,zK,zL,zM,zN,zO,zP,zF,zG,Nat.reduceAdd] at m
  refine n_nil (k5 _ _ ?_)
  refine wp_ret ?_
  try simp only [Exit.inBlock,Exit.then,if_true]
  refine fin1 rfl ⟨_,rfl,((m.b 0 rfl).full agg_28 cells_28)⟩ ?_
  try simp only [zD,zE]
  exact ⟨_,rfl,m.ext,by simp only [pt,hillP,hgt_some hZ.len hz]⟩
 ·
  refine wp_skip (k3 _ _ ?_)
  refine c_seq fun K6 k6 => wp_region_lit (n_val (r_move) (n_val (r_move) ?_))
  simp only [ev,zD,zE,zF,zG]
  refine n_val (r_mul rfl rfl (wrap_i64 (by omega) (by omega))) (n_val (r_move) (n_val (r_move) ?_))
  simp only [ev,zD,zE,zF,zG]
  refine n_val (r_mul rfl rfl (wrap_i64 (by omega) (by omega))) (n_val (r_move) (n_val (r_add (m := 100) (n := 0) (r := 100) rfl rfl (by decide)) (n_val (r_build_28_0_1_2 rfl rfl rfl) ?_)))
  simp only [ev,zD,zE,zF,zG]
  refine mstoreA m 0 rfl rfl rfl cells_28 (leT rfl) rfl ?_
  clear m; intro u m; simp only [over,zH,zI,zJ,zK,zL,zM,zN,zO,zP,zF,zG,Nat.reduceAdd] at m
  refine n_nil (k6 _ _ ?_)
  refine wp_ret ?_
  try simp only [Exit.inBlock,Exit.then,if_true]
  refine fin1 rfl ⟨_,rfl,((m.b 0 rfl).full agg_28 cells_28)⟩ ?_
  try simp only [zD,zE]
  exact ⟨_,rfl,m.ext,by simp [pt,hillP,hgt_nil hZ.len hc1]⟩

set_option maxHeartbeats 400000 in
theorem quad_c {a b c d : P3} (w : World) : Does Tryz.prog 119 [pt a,pt b,pt c,pt d] w (TS 59 (quadT a b c d) w) := by
 refine ⟨en_119,?_⟩
 have m := Mem.refl w
 go_enter Tryz.func119,Tryz.ntmps119
 refine c_seq fun K1 k1 => wp_region_lit (mboxA m rfl ?_)
 clear m; intro g1 u m
 simp only [ev,zD,zE,zF,zG]
 refine mboxA m rfl ?_
 clear m; intro g2 u m
 simp only [ev,zD,zE,zF,zG]
 refine mboxA m rfl ?_
 clear m; intro g3 u m
 simp only [ev,zD,zE,zF,zG]
 refine mboxA m rfl ?_
 clear m; intro g4 u m
 refine n_val (r_assign) (n_nil (k1 _ _ ?_))
 refine c_seq fun K2 k2 => wp_region_lit ?_
 simp only [ev,zD,zE,zF,zG]
 refine n_load rfl ((m.b 3 rfl).full agg_28 cells_28) ?_
 simp only [ev,zD,zE,zF,zG]
 refine n_load rfl ((m.b 2 rfl).full agg_28 cells_28) ?_
 simp only [ev,zD,zE,zF,zG]
 refine n_load rfl ((m.b 1 rfl).full agg_28 cells_28) ?_
 simp only [ev,zD,zE,zF,zG]
 refine n_val (r_build_59_0_1_2 rfl rfl rfl) ?_
 simp only [ev,zD,zE,zF,zG]
 refine n_load rfl ((m.b 3 rfl).full agg_28 cells_28) ?_
 simp only [ev,zD,zE,zF,zG]
 refine n_load rfl ((m.b 1 rfl).full agg_28 cells_28) ?_
 simp only [ev,zD,zE,zF,zG]
 refine n_load rfl ((m.b 0 rfl).full agg_28 cells_28) ?_
 simp only [ev,zD,zE,zF,zG]
 refine n_val (r_build_59_0_1_2 rfl rfl rfl) ?_
 simp only [ev,zD,zE,zF,zG]
 refine n_bs_24_2 rfl rfl ?_
 intro u g5 e hg hB; replace m := m.newB e hg hB; clear e hg hB
 refine n_val (r_assign) (n_nil (k2 _ _ ?_))
 refine wp_ret ?_
 simp only [ev,zD,zE,zF,zG]
 try simp only [Exit.inBlock,Exit.then,if_true]
 refine fin1 rfl rfl ?_
 try simp only [zD,zE]
 exact ⟨_,rfl,m.ext,⟨_,_,_,rfl,rfl,m.bo 0 rfl rfl (leT rfl)⟩⟩

set_option maxHeartbeats 1000000 in
theorem Hills_c {n0 : Int} [Iw n0] {N cap : Nat} {A : Option Addr} {zs : List Int} (w : World) (hZ : IntsAt w A N zs) : Does Tryz.prog 93 [.int .i64 n0,.int .i64 10,.slice A N cap] w (TS 59 (hillsT 10 zs (1 + n0 % 6).toNat) w) := by
 refine ⟨en_93,?_⟩
 have m := Mem.refl w
 have hb := emod_bd (n := n0) (m := 6) (by decide)
 obtain ⟨q,hq⟩ : ∃ q : Nat,q = (1 + n0 % 6).toNat := ⟨_,rfl⟩
 rw [← hq]
 have hq2 : 1 + n0 % 6 = (q : Int) := by omega
 go_enter Tryz.func93,Tryz.ntmps93
 refine c_seq fun K1 k1 => wp_region_lit (n_val (r_assign) (n_nil (k1 _ _ ?_)))
 refine c_seq fun K2 k2 => wp_region_lit (n_val (r_move) ?_)
 simp only [ev,zD,zE,zF,zG]
 refine mcallP m rfl rfl (r4Mod_c (n := n0) (k := 6) (by decide) (by decide)) ?_
 clear m; intro u m
 simp only [ev,zD,zE,zF,zG]
 refine n_val (r_add rfl rfl (wrap_i64 (by omega) (by omega))) (n_val (r_assign) (n_nil ?_))
 simp only [ev,zD,zE,zF,zG]
 rw [hq2]
 refine k2 _ _ ?_
 refine c_seq fun K3 k3 => wp_region_lit (n_val (r_assign) ?_)
 replace m := m.nilO 59 9
 refine n_nil (k3 _ _ ?_)
 refine c_seq fun K4 k4 => c_seq fun K5 k5 => wp_region_lit (n_val (r_assign) (n_nil (k5 _ _ ?_)))
 refine wp_block ?_
 simp only [ev,zD,zE,zF,zG]
 try simp only [Nat.zero_add,Nat.reduceAdd,Nat.reduceMul,Int.reduceToNat]
 refine c_loopg [7,8] [9,10,11,12,13,17,18,19,20,21,22,23,24,25,26,27,28,29,30,31,32,33,34,35,36,37,38,39,40,41,42,43,44,45,46,47,48,49,50,51,52,53,54,55,56,57] (fun n vs wl => ∃ (A1 : Option Addr) (cap1 y : Nat),vs = [.slice A1 (hillsPre 10 zs q (y) (0)).length cap1,.int .i64 (y:Int)] ∧ Mem w wl [oI 59 9 A1 (hillsPre 10 zs q (y) (0)).length cap1 ((hillsPre 10 zs q (y) (0)).flatMap triCells)] ∧ (y ≤ q) ∧ (n = q - y)) ?_ ?_
 ·
  apply Exists.intro
  simp only [zQ,zR,zD,zE]
  exact ⟨none,0,0,rfl,m,Nat.zero_le _,rfl⟩
 ·
  intro n vs wr hI u
  clear m
  obtain ⟨A1,cap1,y,rfl,m,hy,hn⟩ := hI
  simp only [setG_cons,setG_nil,setMany_cons,setMany_nil,zF,zG]
  refine c_seq fun K6 k6 => c_seq fun K7 k7 => wp_region_lit (n_val (r_move) (n_val (r_move) (n_val (r_lss rfl rfl) (n_nil (k7 _ _ ?_)))))
  simp only [ev,zD,zE,zF,zG]
  refine c_if rfl (fun hc1 => ?_) (fun hc1 => ?_)
  ·
   refine wp_skip (k6 _ _ ?_)
   refine c_seq fun K8 k8 => wp_block (c_seq fun K9 k9 => wp_region_lit (n_val (r_assign) (n_nil (k9 _ _ ?_))))
   refine wp_block ?_
   simp only [ev,zD,zE,zF,zG]
   try simp only [Nat.zero_add,Nat.reduceAdd,Nat.reduceMul,Int.reduceToNat]
   refine c_loopg [7,9] [10,11,12,13,22,23,24,25,26,27,28,29,30,31,32,33,34,35,36,37,38,39,40,41,42,43,44,45,46,47,48,49,50,51,52,53,54,55,56,57] (fun n vs wl => ∃ (A1 : Option Addr) (cap1 x : Nat),vs = [.slice A1 (hillsPre 10 zs q (y) (x)).length cap1,.int .i64 (x:Int)] ∧ Mem w wl [oI 59 9 A1 (hillsPre 10 zs q (y) (x)).length cap1 ((hillsPre 10 zs q (y) (x)).flatMap triCells)] ∧ (x ≤ q) ∧ (n = q - x)) ?_ ?_
   ·
    apply Exists.intro
    simp only [zQ,zR,zD,zE]
    exact ⟨_,_,0,rfl,m,Nat.zero_le _,rfl⟩
   ·
    intro n vs wr hI u
    clear m
    obtain ⟨A1,cap1,x,rfl,m,hx,hn2⟩ := hI
    simp only [setG_cons,setG_nil,setMany_cons,setMany_nil,zF,zG]
    refine c_seq fun K10 k10 => c_seq fun K11 k11 => wp_region_lit (n_val (r_move) (n_val (r_move) (n_val (r_lss rfl rfl) (n_nil (k11 _ _ ?_)))))
    simp only [ev,zD,zE,zF,zG]
    refine c_if rfl (fun hc2 => ?_) (fun hc2 => ?_)
    ·
     refine wp_skip (k10 _ _ ?_)
     refine c_seq fun K12 k12 => wp_block (c_seq fun K13 k13 => wp_region_lit (n_val (r_move) (n_val (r_move) (n_val (r_move) (n_val (r_move) ?_)))))
     simp only [ev,zD,zE,zF,zG]
     refine mcall m rfl rfl (hill_c (x := x) (y := y) _ (hZ.ext m.ext) (by omega) (by omega)) ?_
     clear m; rintro v u m rfl
     simp only [ev,zD,zE,zF,zG]
     refine malloc m zero_28 rfl ?_
     clear m; intro g1 u m
     simp only [ev,zD,zE,zF,zG]
     refine mstoreA m 0 rfl rfl rfl cells_28 (leT rfl) rfl ?_
     clear m; intro u m; simp only [over,zH,zI,zJ,zK,zL,zM,zN,zO,zP,zF,zG,Nat.reduceAdd] at m
     refine n_nil (k13 _ _ ?_)
     refine c_seq fun K14 k14 => wp_region_lit (n_val (r_move) ?_)
     simp only [ev,zD,zE,zF,zG]
     refine n_val (r_add rfl rfl (wrap_i64 (by omega) (by omega))) (n_val (r_move) (n_val (r_move) (n_val (r_move) ?_)))
     simp only [ev,zD,zE,zF,zG]
     refine mcall m rfl rfl (hill_c (x := x + 1) (y := y) _ (hZ.ext m.ext) (by omega) (by omega)) ?_
     clear m; rintro v u m rfl
     simp only [ev,zD,zE,zF,zG]
     refine malloc m zero_28 rfl ?_
     clear m; intro g2 u m
     simp only [ev,zD,zE,zF,zG]
     refine mstoreA m 0 rfl rfl rfl cells_28 (leT rfl) rfl ?_
     clear m; intro u m; simp only [over,zH,zI,zJ,zK,zL,zM,zN,zO,zP,zF,zG,Nat.reduceAdd] at m
     refine n_nil (k14 _ _ ?_)
     refine c_seq fun K15 k15 => wp_region_lit (n_val (r_move) ?_)
     simp only [ev,zD,zE,zF,zG]
     refine n_val (r_add rfl rfl (wrap_i64 (by omega) (by omega))) (n_val (r_move) ?_)
     simp only [ev,zD,zE,zF,zG]
     refine n_val (r_add rfl rfl (wrap_i64 (by omega) (by omega))) (n_val (r_move) (n_val (r_move) ?_))
     simp only [ev,zD,zE,zF,zG]
     refine mcall m rfl rfl (hill_c (x := x + 1) (y := y + 1) _ (hZ.ext m.ext) (by omega) (by omega)) ?_
     clear m; rintro v u m rfl
     simp only [ev,zD,zE,zF,zG]
     refine malloc m zero_28 rfl ?_
     clear m; intro g3 u m
     simp only [ev,zD,zE,zF,zG]
     refine mstoreA m 0 rfl rfl rfl cells_28 (leT rfl) rfl ?_
     clear m; intro u m; simp only [over,zH,zI,zJ,zK,zL,zM,zN,zO,zP,zF,zG,Nat.reduceAdd] at m
     refine n_nil (k15 _ _ ?_)
     refine c_seq fun K16 k16 => wp_region_lit (n_val (r_move) (n_val (r_move) ?_))
     simp only [ev,zD,zE,zF,zG]
     refine n_val (r_add rfl rfl (wrap_i64 (by omega) (by omega))) (n_val (r_move) (n_val (r_move) ?_))
     simp only [ev,zD,zE,zF,zG]
     refine mcall m rfl rfl (hill_c (x := x) (y := y + 1) _ (hZ.ext m.ext) (by omega) (by omega)) ?_
     clear m; rintro v u m rfl
     simp only [ev,zD,zE,zF,zG]
     refine malloc m zero_28 rfl ?_
     clear m; intro g4 u m
     simp only [ev,zD,zE,zF,zG]
     refine mstoreA m 0 rfl rfl rfl cells_28 (leT rfl) rfl ?_
     clear m; intro u m; simp only [over,zH,zI,zJ,zK,zL,zM,zN,zO,zP,zF,zG,Nat.reduceAdd] at m
     refine n_nil (k16 _ _ ?_)
     refine wp_region_lit (n_val (r_move) ?_)
     simp only [ev,zD,zE,zF,zG]
     refine n_load rfl ((m.b 3 rfl).full agg_28 cells_28) ?_
     simp only [ev,zD,zE,zF,zG]
     refine n_load rfl ((m.b 2 rfl).full agg_28 cells_28) ?_
     simp only [ev,zD,zE,zF,zG]
     refine n_load rfl ((m.b 1 rfl).full agg_28 cells_28) ?_
     simp only [ev,zD,zE,zF,zG]
     refine n_load rfl ((m.b 0 rfl).full agg_28 cells_28) ?_
     simp only [ev,zD,zE,zF,zG]
     refine n_call rfl rfl (quad_c (a := hillP 10 zs x y) (b := hillP 10 zs (x + 1) y) (c := hillP 10 zs (x + 1) (y + 1)) (d := hillP 10 zs x (y + 1)) _) ?_
     rintro v u e ⟨A2,cap2,_,rfl,rfl,hN⟩; replace m := m.newO e hN; clear e hN
     simp only [ev,zD,zE,zF,zG]
     refine mappend m 5 rfl rfl Tryz.underlying24 inf_59 rfl (by decide) rfl rfl (m.o 0 rfl).own.1 (m.o 0 rfl).row (tris_one _) (by have := hillsPre_le (s := 10) (zs := zs) (n := q) (y := y) (x := x) (by omega) (by omega) (by omega); show _ + 2 ≤ _; omega) (by have := hillsPre_le (s := 10) (zs := zs) (n := q) (y := y) (x := x) (by omega) (by omega) (by omega); show (_ + 2) * 72 ≤ _; omega) ?_
     clear m; intro A1 cap1 u m; simp only [zF,zG] at m
     rw [hp_cells,hp_len] at m
     rw [hp_len]
     refine n_val (r_assign) (n_nil (k12 _ _ ?_))
     refine wp_region_lit (n_val (r_move) ?_)
     simp only [ev,zD,zE,zF,zG]
     refine n_val (r_add rfl rfl (wrap_i64 (by omega) (by omega))) (n_val (r_assign) (n_nil ?_))
     simp only [ev,zD,zE,zF,zG]
     simp only [Exit.inBlock,Exit.then]
     refine ⟨q - (x + 1),_,?_,rfl,?_,?_⟩
     · omega
     · simp only [zQ,zR,zD,zE,setG_cons,setG_nil,setMany_cons,setMany_nil,zF,zG]
     ·
      simp only [zQ,zR,zD,zE]
      exact ⟨_,_,x + 1,rfl,(m.sel [false,false,false,false,false,true]),by omega,rfl⟩
    ·
     have hxq : x = q := by omega
     rw [hxq,hillsPre_row] at m ⊢
     refine wp_exit (k8 _ _ ?_)
     refine wp_region_lit (n_val (r_move) ?_)
     simp only [ev,zD,zE,zF,zG]
     refine n_val (r_add rfl rfl (wrap_i64 (by omega) (by omega))) (n_val (r_assign) (n_nil ?_))
     simp only [ev,zD,zE,zF,zG]
     simp only [Exit.inBlock,Exit.then]
     refine ⟨q - (y + 1),_,?_,rfl,?_,?_⟩
     · omega
     · simp only [zQ,zR,zD,zE,setG_cons,setG_nil,setMany_cons,setMany_nil,zF,zG]
     ·
      simp only [zQ,zR,zD,zE]
      exact ⟨_,_,y + 1,rfl,m,by omega,rfl⟩
  ·
   have hyq : y = q := by omega
   rw [hyq,hillsPre_end] at m ⊢
   refine wp_exit (k4 _ _ ?_)
   refine c_seq fun K17 k17 => wp_region_lit (n_val (r_move) (n_val (r_assign) (n_nil (k17 _ _ ?_))))
   refine wp_ret ?_
   simp only [ev,zD,zE,zF,zG]
   try simp only [Exit.inBlock,Exit.then,if_true]
   refine fin1 rfl rfl ?_
   try simp only [zD,zE]
   exact ⟨_,rfl,m.ext,⟨_,_,_,rfl,rfl,(m.o 0 rfl)⟩⟩

end Go.Proofs.YtmcgcnpgkkfkoaaGreatDoor
namespace Go.Proofs.YtmcgcnpgkkfkoaaGreatDoor
open Go.RowKit Go.Lith
set_option maxRecDepth 100000
attribute [local irreducible] wpList wpQuiet wpMix wpMixH wpTree Code.wp
set_option maxHeartbeats 8000000 in
theorem Spoiled_c {ts : List T3} {q0 q1 q2 : Int} [Iw q0] [Iw q1] [Iw q2] {N cap : Nat} {A : Option Addr} (w : World) (hT : TrisAt w A N ts) (hN : N ≤ 100000) : Does Tryz.prog 40 [.slice A N cap,.agg #[.int .i64 q0,.int .i64 q1,.int .i64 q2]] w (fun v w' => ∃ us,TS 59 us w v w' ∧ SubT us ts ∧ us.length ≤ ts.length + 1) := by
 refine ⟨en_40,?_⟩
 have m := Mem.refl w
 obtain rfl : ts.length = N := hT.len
 go_enter Tryz.func40,Tryz.ntmps40
 refine c_seq fun K1 k1 => wp_region_lit (mboxA m rfl ?_)
 clear m; intro g1 u m
 refine n_val (r_assign) (n_nil (k1 _ _ ?_))
 refine c_seq fun K2 k2 => wp_region_lit ?_
 simp only [ev,zD,zE,zF,zG]
 refine n_build0 Tryz.underlying24 (c := 9) (by kernel_rfl)  ?_
 intro u g2 e hg hB; replace m := m.newB e hg hB; clear e hg hB
 simp only [ev,zD,zE,zF,zG]
 replace m := m.own 0 rfl (n := 0) (c := 9) rfl (leT rfl); simp only [zG] at m
 refine n_val (r_move) ?_
 simp only [ev,zD,zE,zF,zG]
 refine mappend m 0 rfl rfl Tryz.underlying24 inf_59 rfl (by decide) rfl rfl (by rw [tri_len,hT.len]) (TrisAt.cells (hT.ext m.ext)) (tris_one _) (by omega) (by omega) ?_
 clear m; intro A1 cap1 u m; simp only [zF,zG] at m
 rw [List.nil_append,Nat.zero_add] at m
 rw [Nat.zero_add]
 refine n_val (r_assign) (n_nil (k2 _ _ ?_))
 refine c_seq fun K3 k3 => c_seq fun K4 k4 => wp_region_lit (n_val (r_move) (n_val (r_lenS rfl Tryz.underlying24 rfl) ?_))
 simp only [ev,zD,zE,zF,zG]
 refine n_val (r_eql rfl rfl) (n_nil (k4 _ _ ?_))
 simp only [ev,zD,zE,zF,zG]
 refine c_if rfl (fun hc1 => ?_) (fun hc1 => ?_)
 ·
  refine c_seq fun K5 k5 => wp_region_lit (n_val (r_move) (n_val (r_assign) (n_nil (k5 _ _ ?_))))
  refine wp_ret ?_
  simp only [ev,zD,zE,zF,zG]
  try simp only [Exit.inBlock,Exit.then,if_true]
  refine fin1 rfl rfl ?_
  try simp only [zD,zE]
  exact ⟨_,rfl,m.ext,ts,⟨_,_,_,by simp,rfl,(m.o 0 rfl)⟩,SubT.refl ts,by simp⟩
 ·
  have hpos : 0 < ts.length := by omega
  obtain ⟨gO,rfl⟩ := (m.o 0 rfl).some hpos
  obtain ⟨k,hk,hkl⟩ := mod_nat (q := q1) hpos
  obtain ⟨j,hj,hjl⟩ := mod_nat (q := q2) hpos
  obtain ⟨t,htk⟩ := get_lt hkl
  obtain ⟨t2,htj⟩ := get_lt hjl
  have hle := (m.o 0 rfl).le
  refine wp_skip (k3 _ _ ?_)
  refine c_seq fun K6 k6 => wp_region_lit (n_val (r_indexAddrA Tryz.underlying23 cells_3 rfl rfl (by decide) (by decide) rfl) ?_)
  simp only [ev,zD,zE,zF,zG]
  refine n_load rfl ((m.b 1 rfl).lies1 agg_3 rfl) ?_
  simp only [ev,zD,zE,zF,zG]
  refine n_val (r_move) (n_val (r_lenS rfl Tryz.underlying24 rfl) ?_)
  simp only [ev,zD,zE,zF,zG]
  refine mcallP m rfl rfl (r4Mod_c (n := q1) (k := (ts.length : Int)) (by omega) (by omega)) ?_
  clear m; intro u m
  refine n_val (r_assign) (n_nil ?_)
  simp only [ev,zD,zE,zF,zG]
  rw [hk]
  refine k6 _ _ ?_
  refine c_seq fun K7 k7 => wp_region_lit (n_val (r_indexAddrA Tryz.underlying23 cells_3 rfl rfl (by decide) (by decide) rfl) ?_)
  simp only [ev,zD,zE,zF,zG]
  refine n_load rfl ((m.b 1 rfl).lies1 agg_3 rfl) ?_
  simp only [ev,zD,zE,zF,zG]
  refine n_val (r_move) (n_val (r_lenS rfl Tryz.underlying24 rfl) ?_)
  simp only [ev,zD,zE,zF,zG]
  refine mcallP m rfl rfl (r4Mod_c (n := q2) (k := (ts.length : Int)) (by omega) (by omega)) ?_
  clear m; intro u m
  refine n_val (r_assign) (n_nil ?_)
  simp only [ev,zD,zE,zF,zG]
  rw [hj]
  refine k7 _ _ ?_
  refine c_seq fun K8 k8 => wp_region_lit (n_val (r_move) (n_val (r_move) ?_))
  simp only [ev,zD,zE,zF,zG]
  refine n_val (r_indexAddrS Tryz.underlying24 cells_59 rfl rfl (by omega) (by omega) (addrN (Int.toNat_natCast _))) ?_
  simp only [ev,zD,zE,zF,zG]
  refine n_load rfl (((m.o 0 rfl).tri htk).lies agg_59 cells_59) ?_
  simp only [ev,zD,zE,zF,zG]
  refine malloc m zero_59 rfl ?_
  clear m; intro g3 u m
  simp only [ev,zD,zE,zF,zG]
  refine mstoreA m 0 rfl rfl rfl cells_59 (leT rfl) rfl ?_
  clear m; intro u m; simp only [over,zH,zI,zJ,zK,zL,zM,zN,zO,zP,zF,zG,Nat.reduceAdd] at m
  refine n_nil (k8 _ _ ?_)
  refine c_seq fun K9 k9 => c_seq fun K10 k10 => wp_region_lit (n_val (r_indexAddrA Tryz.underlying23 cells_3 rfl rfl (by decide) (by decide) rfl) ?_)
  simp only [ev,zD,zE,zF,zG]
  refine n_load rfl ((m.b 2 rfl).lies1 agg_3 rfl) ?_
  simp only [ev,zD,zE,zF,zG]
  refine mcallP m rfl rfl (r4Mod_c (n := q0) (k := 12) (by decide) (by decide)) ?_
  clear m; intro u m
  refine n_nil (k10 _ _ ?_)
  refine wp_block (c_seq fun K11 k11 => wp_region_lit (n_val (r_eql rfl rfl) (n_val (r_assign) (n_nil (k11 _ _ ?_)))))
  simp only [ev,zD,zE,zF,zG]
  refine c_if rfl (fun hc2 => ?_) (fun hc2 => ?_)
  ·
   refine c_seq fun K12 k12 => wp_region_lit (n_val (r_assign) ?_)
   replace m := m.nilO 59 9
   refine n_nil (k12 _ _ ?_)
   refine c_seq fun K13 k13 => wp_region_lit (n_val (r_move) (n_val (r_move) (n_val (r_move) ?_)))
   simp only [ev,zD,zE,zF,zG]
   refine n_val (r_sliceHi Tryz.underlying24 cells_59 rfl rfl (Int.toNat_natCast _) (by omega) (by omega)) ?_
   simp only [ev,zD,zE,zF,zG]
   refine mappend m 0 rfl rfl Tryz.underlying24 inf_59 rfl (by decide) rfl rfl ((m.o 2 rfl).takeT (Nat.le_of_lt hkl)).own.1 ((m.o 2 rfl).takeT (Nat.le_of_lt hkl)).row (tris_one _) (by omega) (by omega) ?_
   clear m; intro A2 cap2 u m; simp only [zF,zG] at m
   rw [List.nil_append,Nat.zero_add] at m
   rw [Nat.zero_add]
   refine n_val (r_assign) (n_nil (k13 _ _ ?_))
   refine wp_region_lit (n_val (r_move) (n_val (r_move) ?_))
   simp only [ev,zD,zE,zF,zG]
   refine n_val (r_move) ?_
   simp only [ev,zD,zE,zF,zG]
   refine n_val (r_add rfl rfl (wrap_i64 (by omega) (by omega))) ?_
   simp only [ev,zD,zE,zF,zG]
   refine n_val (r_sliceLo Tryz.underlying24 cells_59 rfl rfl (show _ = k + 1 by omega) (by omega) (by omega) rfl) ?_
   simp only [ev,zD,zE,zF,zG]
   refine mappend m 0 rfl rfl Tryz.underlying24 inf_59 rfl (by decide) rfl rfl (by rw [tri_len,List.length_drop]) (m.o 2 rfl).dropRow (tris_one _) (by omega) (by omega) ?_
   clear m; intro A2 cap2 u m; simp only [zF,zG] at m
   rw [← List.flatMap_append] at m
   refine n_val (r_assign) (n_nil (k9 _ _ ?_))
   refine c_seq fun K14 k14 => wp_region_lit (n_val (r_move) (n_val (r_assign) ?_))
   simp only [ev,zD,zE,zF,zG]
   refine n_nil (k14 _ _ ?_)
   refine wp_ret ?_
   try simp only [Exit.inBlock,Exit.then,if_true]
   refine fin1 rfl rfl ?_
   try simp only [zD,zE]
   exact ⟨_,rfl,m.ext,ts.take k ++ ts.drop (k + 1),⟨_,_,_,by simp; omega,rfl,(m.o 0 rfl)⟩,SubT.of_sub (fun u hu => (List.mem_append.1 hu).elim List.mem_of_mem_take List.mem_of_mem_drop),by simp; omega⟩
  ·
   refine c_seq fun K15 k15 => wp_region_lit (n_val (r_eql rfl rfl) (n_val (r_assign) (n_nil (k15 _ _ ?_))))
   simp only [ev,zD,zE,zF,zG]
   refine c_if rfl (fun hc3 => ?_) (fun hc3 => ?_)
   ·
    refine wp_region_lit (n_val (r_move) (n_val (r_move) (n_val (r_indexAddrA Tryz.underlying59 cells_28 rfl rfl (by decide) (by decide) rfl) ?_)))
    simp only [ev,zD,zE,zF,zG]
    refine n_load rfl ((m.b 0 rfl).lies agg_28 cells_28 rfl rfl) ?_
    simp only [ev,zD,zE,zF,zG,zH,zI,zJ,zK,Nat.zero_add,Nat.reduceAdd,Nat.reduceMul,Int.reduceToNat]
    refine n_val (r_indexAddrA Tryz.underlying59 cells_28 rfl rfl (by decide) (by decide) rfl) ?_
    simp only [ev,zD,zE,zF,zG]
    refine n_load rfl ((m.b 0 rfl).lies agg_28 cells_28 rfl rfl) ?_
    simp only [ev,zD,zE,zF,zG,zH,zI,zJ,zK,Nat.zero_add,Nat.reduceAdd,Nat.reduceMul,Int.reduceToNat]
    refine n_val (r_indexAddrA Tryz.underlying59 cells_28 rfl rfl (by decide) (by decide) rfl) ?_
    simp only [ev,zD,zE,zF,zG]
    refine n_load rfl ((m.b 0 rfl).lies agg_28 cells_28 rfl rfl) ?_
    simp only [ev,zD,zE,zF,zG,zH,zI,zJ,zK,Nat.zero_add,Nat.reduceAdd,Nat.reduceMul,Int.reduceToNat]
    refine n_val (r_build_59_0_1_2 rfl rfl rfl) ?_
    simp only [ev,zD,zE,zF,zG]
    refine n_val (r_indexAddrS Tryz.underlying24 cells_59 rfl rfl (by omega) (by omega) (addrBN (Int.toNat_natCast _))) ?_
    simp only [ev,zD,zE,zF,zG]
    refine mstoreO m 1 rfl rfl rfl cells_59 (by simp only [List.length_cons,List.length_nil,Nat.zero_add,Nat.reduceAdd,Int.reduceToNat,Nat.reduceMul]; omega) rfl ?_
    clear m; intro u m; simp only [zF,zG] at m
    try simp only [Nat.zero_add] at m
    rw [show over (ts.flatMap triCells) (k * 9) [.int .i64 t.a.x,.int .i64 t.a.y,.int .i64 t.a.z,.int .i64 t.c.x,.int .i64 t.c.y,.int .i64 t.c.z,.int .i64 t.b.x,.int .i64 t.b.y,.int .i64 t.b.z] = (ts.set k (⟨t.a,t.c,t.b⟩ : T3)).flatMap triCells from flat_set (u := (⟨t.a,t.c,t.b⟩ : T3)) htk] at m
    refine n_nil (k9 _ _ ?_)
    refine c_seq fun K16 k16 => wp_region_lit (n_val (r_move) (n_val (r_assign) (n_nil (k16 _ _ ?_))))
    refine wp_ret ?_
    simp only [ev,zD,zE,zF,zG]
    try simp only [Exit.inBlock,Exit.then,if_true]
    refine fin1 rfl rfl ?_
    try simp only [zD,zE]
    exact ⟨_,rfl,m.ext,ts.set k (⟨t.a,t.c,t.b⟩ : T3),⟨_,_,_,by simp,rfl,(m.o 1 rfl)⟩,(SubT.refl ts).set (pts_a htk) (pts_c htk) (pts_b htk),by simp⟩
   ·
    refine c_seq fun K17 k17 => wp_region_lit (n_val (r_eql rfl rfl) (n_val (r_assign) (n_nil (k17 _ _ ?_))))
    simp only [ev,zD,zE,zF,zG]
    refine c_if rfl (fun hc4 => ?_) (fun hc4 => ?_)
    ·
     refine wp_region_lit (n_val (r_move) (n_val (r_move) (n_val (r_move) ?_)))
     simp only [ev,zD,zE,zF,zG]
     refine n_val (r_indexAddrS Tryz.underlying24 cells_59 rfl rfl (by omega) (by omega) (addrN (Int.toNat_natCast _))) ?_
     simp only [ev,zD,zE,zF,zG]
     refine n_load rfl (((m.o 1 rfl).tri htj).lies agg_59 cells_59) ?_
     simp only [ev,zD,zE,zF,zG]
     refine n_bs_24_1 rfl ?_
     intro u g4 e hg hB; replace m := m.newB e hg hB; clear e hg hB
     simp only [ev,zD,zE,zF,zG]
     refine mappend m 2 rfl rfl Tryz.underlying24 inf_59 rfl (by decide) rfl rfl rfl (m.b 0 rfl).rowsO (allT rfl) (by omega) (by omega) ?_
     clear m; intro A1 cap1 u m; simp only [zF,zG] at m
     rw [show ts.flatMap triCells ++ [.int .i64 t2.a.x,.int .i64 t2.a.y,.int .i64 t2.a.z,.int .i64 t2.b.x,.int .i64 t2.b.y,.int .i64 t2.b.z,.int .i64 t2.c.x,.int .i64 t2.c.y,.int .i64 t2.c.z] = (ts ++ [t2]).flatMap triCells by rw [List.flatMap_append]; rfl] at m
     refine n_val (r_assign) (n_nil (k9 _ _ ?_))
     refine c_seq fun K18 k18 => wp_region_lit (n_val (r_move) (n_val (r_assign) ?_))
     simp only [ev,zD,zE,zF,zG]
     refine n_nil (k18 _ _ ?_)
     refine wp_ret ?_
     try simp only [Exit.inBlock,Exit.then,if_true]
     refine fin1 rfl rfl ?_
     try simp only [zD,zE]
     exact ⟨_,rfl,m.ext,ts ++ [t2],⟨_,_,_,by simp,rfl,(m.o 2 rfl)⟩,(SubT.refl ts).app (SubT.of_sub (fun u hu => by rw [List.mem_singleton.1 hu]; exact List.mem_of_getElem? htj)),by simp⟩
    ·
     refine c_seq fun K19 k19 => wp_region_lit (n_val (r_eql rfl rfl) (n_val (r_assign) (n_nil (k19 _ _ ?_))))
     simp only [ev,zD,zE,zF,zG]
     refine c_if rfl (fun hc5 => ?_) (fun hc5 => ?_)
     ·
      refine mq_tail m 9 follows_mixed (by kernel_rfl) ?_
      simp only [zH,zI,zJ,zK]
      refine q_val (r_move) (q_val (r_move) (q_val (r_move) (q_val (r_move) ?_)))
      simp only [ev,zD,zE,zF,zG]
      refine q_val (r_indexAddrS Tryz.underlying24 cells_59 rfl rfl (by omega) (by omega) (addrN (Int.toNat_natCast _))) (q_val (r_indexAddrA Tryz.underlying59 cells_28 rfl rfl (by decide) (by decide) rfl) ?_)
      simp only [ev,zD,zE,zF,zG]
      refine ql rfl (fun u m => ((((m.o 1 rfl).tri htj).cor (c := 1) (by decide)).lies agg_28 cells_28)) ?_
      simp only [ev,zD,zE,zF,zG]
      refine q_val (r_indexAddrS Tryz.underlying24 cells_59 rfl rfl (by omega) (by omega) (addrBN (Int.toNat_natCast _))) (q_val (r_indexAddrA Tryz.underlying59 cells_28 rfl rfl (by decide) (by decide) rfl) (q_nil ?_))
      clear m; intro u m
      simp only [ev,zD,zE,zF,zG]
      refine mstoreO m 1 rfl rfl rfl cells_28 (by simp only [List.length_cons,List.length_nil,Nat.zero_add,Nat.reduceAdd,Int.reduceToNat,Nat.reduceMul]; omega) rfl ?_
      clear m; intro u m; simp only [zF,zG] at m
      try simp only [Nat.zero_add] at m
      rw [flat_cor0 (p := t2.cor 1) htk] at m
      refine n_nil (k9 _ _ ?_)
      refine c_seq fun K20 k20 => wp_region_lit (n_val (r_move) (n_val (r_assign) (n_nil (k20 _ _ ?_))))
      refine wp_ret ?_
      simp only [ev,zD,zE,zF,zG]
      try simp only [Exit.inBlock,Exit.then,if_true]
      refine fin1 rfl rfl ?_
      try simp only [zD,zE]
      exact ⟨_,rfl,m.ext,ts.set k (t.setC 0 (t2.cor 1)),⟨_,_,_,by simp,rfl,(m.o 1 rfl)⟩,set_cor_sub (SubT.refl ts) htk (pts_b htj),by simp⟩
     ·
      refine c_seq fun K21 k21 => wp_region_lit (n_val (r_eql rfl rfl) (n_val (r_assign) (n_nil (k21 _ _ ?_))))
      simp only [ev,zD,zE,zF,zG]
      refine c_if rfl (fun hc6 => ?_) (fun hc6 => ?_)
      ·
       refine mq_tail m 6 follows_mixed (by kernel_rfl) ?_
       simp only [zH,zI,zJ,zK]
       refine q_val (r_move) (q_val (r_move) (q_val (r_indexAddrA Tryz.underlying59 cells_28 rfl rfl (by decide) (by decide) rfl) ?_))
       simp only [ev,zD,zE,zF,zG]
       refine ql rfl (fun u m => ((m.b 0 rfl).lies agg_28 cells_28 rfl rfl)) ?_
       simp only [ev,zD,zE,zF,zG,zH,zI,zJ,zK,Nat.zero_add,Nat.reduceAdd,Nat.reduceMul,Int.reduceToNat]
       refine q_val (r_indexAddrS Tryz.underlying24 cells_59 rfl rfl (by omega) (by omega) (addrBN (Int.toNat_natCast _))) (q_val (r_indexAddrA Tryz.underlying59 cells_28 rfl rfl (by decide) (by decide) rfl) (q_nil ?_))
       clear m; intro u m
       simp only [ev,zD,zE,zF,zG]
       refine mstoreO m 1 rfl rfl rfl cells_28 (by simp only [List.length_cons,List.length_nil,Nat.zero_add,Nat.reduceAdd,Int.reduceToNat,Nat.reduceMul]; omega) rfl ?_
       clear m; intro u m; simp only [zF,zG] at m
       try simp only [Nat.zero_add,Int.reduceToNat,Nat.reduceMul] at m
       rw [flat_cor1 (p := t.a) htk] at m
       refine n_nil (k9 _ _ ?_)
       refine c_seq fun K22 k22 => wp_region_lit (n_val (r_move) (n_val (r_assign) (n_nil (k22 _ _ ?_))))
       refine wp_ret ?_
       simp only [ev,zD,zE,zF,zG]
       try simp only [Exit.inBlock,Exit.then,if_true]
       refine fin1 rfl rfl ?_
       try simp only [zD,zE]
       exact ⟨_,rfl,m.ext,ts.set k (t.setC 1 t.a),⟨_,_,_,by simp,rfl,(m.o 1 rfl)⟩,set_cor_sub (SubT.refl ts) htk (pts_a htk),by simp⟩
      ·
       refine c_seq fun K23 k23 => wp_region_lit (n_val (r_eql rfl rfl) (n_val (r_assign) (n_nil (k23 _ _ ?_))))
       simp only [ev,zD,zE,zF,zG]
       refine c_if rfl (fun hc7 => ?_) (fun hc7 => ?_)
       ·
        refine wp_region_lit (n_val (r_move) (n_val (r_indexAddrA Tryz.underlying59 cells_28 rfl rfl (by decide) (by decide) rfl) ?_))
        simp only [ev,zD,zE,zF,zG]
        refine n_load rfl ((m.b 0 rfl).lies agg_28 cells_28 rfl rfl) ?_
        simp only [ev,zD,zE,zF,zG,zH,zI,zJ,zK,Nat.zero_add,Nat.reduceAdd,Nat.reduceMul,Int.reduceToNat]
        refine n_val (r_indexAddrA Tryz.underlying59 cells_28 rfl rfl (by decide) (by decide) rfl) ?_
        simp only [ev,zD,zE,zF,zG]
        refine n_load rfl ((m.b 0 rfl).lies agg_28 cells_28 rfl rfl) ?_
        simp only [ev,zD,zE,zF,zG,zH,zI,zJ,zK,Nat.zero_add,Nat.reduceAdd,Nat.reduceMul,Int.reduceToNat]
        refine n_val (r_indexAddrA Tryz.underlying59 cells_28 rfl rfl (by decide) (by decide) rfl) ?_
        simp only [ev,zD,zE,zF,zG]
        refine n_load rfl ((m.b 0 rfl).lies agg_28 cells_28 rfl rfl) ?_
        simp only [ev,zD,zE,zF,zG,zH,zI,zJ,zK,Nat.zero_add,Nat.reduceAdd,Nat.reduceMul,Int.reduceToNat]
        refine n_val (r_build_59_0_1_2 rfl rfl rfl) ?_
        simp only [ev,zD,zE,zF,zG]
        refine n_bs_24_1 rfl ?_
        intro u g4 e hg hB; replace m := m.newB e hg hB; clear e hg hB
        simp only [ev,zD,zE,zF,zG]
        refine mappend m 2 rfl rfl Tryz.underlying24 inf_59 rfl (by decide) rfl rfl rfl (m.b 0 rfl).rowsO (allT rfl) (by omega) (by omega) ?_
        clear m; intro A1 cap1 u m; simp only [zF,zG] at m
        rw [show ts.flatMap triCells ++ [.int .i64 t.a.x,.int .i64 t.a.y,.int .i64 t.a.z,.int .i64 t.c.x,.int .i64 t.c.y,.int .i64 t.c.z,.int .i64 t.b.x,.int .i64 t.b.y,.int .i64 t.b.z] = (ts ++ [(⟨t.a,t.c,t.b⟩ : T3)]).flatMap triCells by rw [List.flatMap_append]; rfl] at m
        refine n_val (r_assign) (n_nil (k9 _ _ ?_))
        refine c_seq fun K24 k24 => wp_region_lit (n_val (r_move) (n_val (r_assign) ?_))
        simp only [ev,zD,zE,zF,zG]
        refine n_nil (k24 _ _ ?_)
        refine wp_ret ?_
        try simp only [Exit.inBlock,Exit.then,if_true]
        refine fin1 rfl rfl ?_
        try simp only [zD,zE]
        exact ⟨_,rfl,m.ext,ts ++ [(⟨t.a,t.c,t.b⟩ : T3)],⟨_,_,_,by simp,rfl,(m.o 2 rfl)⟩,(SubT.refl ts).app (SubT.one (pts_a htk) (pts_c htk) (pts_b htk)),by simp⟩
       ·
        refine c_seq fun K25 k25 => wp_region_lit (n_val (r_eql rfl rfl) (n_val (r_assign) (n_nil (k25 _ _ ?_))))
        simp only [ev,zD,zE,zF,zG]
        refine c_if rfl (fun hc8 => ?_) (fun hc8 => ?_)
        ·
         refine c_seq fun K26 k26 => wp_region_lit (n_val (r_move) (n_val (r_move) ?_))
         simp only [ev,zD,zE,zF,zG]
         refine n_val (r_indexAddrS Tryz.underlying24 cells_59 rfl rfl (by omega) (by omega) (addrN (Int.toNat_natCast _))) (n_val (r_indexAddrA Tryz.underlying59 cells_28 rfl rfl (by decide) (by decide) rfl) ?_)
         simp only [ev,zD,zE,zF,zG]
         refine n_load rfl ((((m.o 1 rfl).tri htj).cor (c := 2) (by decide)).lies agg_28 cells_28) ?_
         simp only [ev,zD,zE,zF,zG]
         refine malloc m zero_28 rfl ?_
         clear m; intro g4 u m
         simp only [ev,zD,zE,zF,zG]
         refine mstoreA m 0 rfl rfl rfl cells_28 (leT rfl) rfl ?_
         clear m; intro u m; simp only [over,zH,zI,zJ,zK,zL,zM,zN,zO,zP,zF,zG,Nat.reduceAdd] at m
         refine n_nil (k26 _ _ ?_)
         refine c_seq fun K27 k27 => wp_region_lit (n_val (r_assign) (n_nil (k27 _ _ ?_)))
         refine wp_block ?_
         simp only [ev,zD,zE,zF,zG]
         try simp only [Nat.zero_add,Nat.reduceAdd,Nat.reduceMul,Int.reduceToNat]
         refine c_loopg [11] [12,109,110,111,112,113,114,115,116,117,118,119,120,121,122,123,124,125,126,127,128,129,130,131,132,133] (fun n vs wl => ∃ (us : List T3) (i : Nat),vs = [.int .i64 (i:Int)] ∧ Mem w wl [bI g4 [.int .i64 (t2.cor 2).x,.int .i64 (t2.cor 2).y,.int .i64 (t2.cor 2).z] 28,bI g3 [.int .i64 t.a.x,.int .i64 t.a.y,.int .i64 t.a.z,.int .i64 t.b.x,.int .i64 t.b.y,.int .i64 t.b.z,.int .i64 t.c.x,.int .i64 t.c.y,.int .i64 t.c.z] 59,oI 59 9 (some ⟨gO,0,none⟩) ts.length cap1 ((us).flatMap triCells),bI g1 [.int .i64 q0,.int .i64 q1,.int .i64 q2] 23] ∧ (us.length = ts.length) ∧ (SubT us ts) ∧ (i ≤ ts.length) ∧ (n = ts.length - i)) ?_ ?_
         ·
          apply Exists.intro
          simp only [zQ,zR,zD,zE]
          exact ⟨_,0,rfl,m,rfl,SubT.refl ts,Nat.zero_le _,rfl⟩
         ·
          intro n vs wr hI u
          clear m
          obtain ⟨us,i,rfl,m,hul,hsub,hi,hn⟩ := hI
          simp only [setG_cons,setG_nil,setMany_cons,setMany_nil,zF,zG]
          refine c_seq fun K28 k28 => c_seq fun K29 k29 => wp_region_lit (n_val (r_move) (n_val (r_move) (n_val (r_lenS rfl Tryz.underlying24 rfl) (n_val (r_lss rfl rfl) ?_))))
          simp only [ev,zD,zE,zF,zG]
          refine n_nil (k29 _ _ ?_)
          refine c_if rfl (fun hc9 => ?_) (fun hc9 => ?_)
          ·
           have hil : i < ts.length := by omega
           refine wp_skip (k28 _ _ ?_)
           refine c_seq fun K30 k30 => wp_block (c_seq fun K31 k31 => wp_region_lit (n_val (r_assign) (n_nil (k31 _ _ ?_))))
           refine wp_block ?_
           simp only [ev,zD,zE,zF,zG]
           try simp only [Nat.zero_add,Nat.reduceAdd,Nat.reduceMul,Int.reduceToNat]
           refine c_loopg [12] [115,116,117,118,119,120,121,122,123,124,125,126,127,128,129,130,131,132,133] (fun n vs wl => ∃ (vs1 : List T3) (c : Nat),vs = [.int .i64 (c:Int)] ∧ Mem w wl [bI g4 [.int .i64 (t2.cor 2).x,.int .i64 (t2.cor 2).y,.int .i64 (t2.cor 2).z] 28,bI g3 [.int .i64 t.a.x,.int .i64 t.a.y,.int .i64 t.a.z,.int .i64 t.b.x,.int .i64 t.b.y,.int .i64 t.b.z,.int .i64 t.c.x,.int .i64 t.c.y,.int .i64 t.c.z] 59,oI 59 9 (some ⟨gO,0,none⟩) ts.length cap1 ((vs1).flatMap triCells),bI g1 [.int .i64 q0,.int .i64 q1,.int .i64 q2] 23] ∧ (vs1.length = ts.length) ∧ (SubT vs1 ts) ∧ (c ≤ 3) ∧ (n = 3 - c)) ?_ ?_
           ·
            apply Exists.intro
            simp only [zQ,zR,zD,zE]
            exact ⟨_,0,rfl,m,hul,hsub,Nat.zero_le _,rfl⟩
           ·
            intro n vs wr hI u
            clear m
            obtain ⟨vs1,c,rfl,m,hvl,hsv,hc,hn2⟩ := hI
            simp only [setG_cons,setG_nil,setMany_cons,setMany_nil,zF,zG]
            refine c_seq fun K32 k32 => c_seq fun K33 k33 => wp_region_lit (n_val (r_move) (n_val (r_lss rfl rfl) (n_nil (k33 _ _ ?_))))
            simp only [ev,zD,zE,zF,zG]
            refine c_if rfl (fun hc10 => ?_) (fun hc10 => ?_)
            ·
             have hc3 : c < 3 := by omega
             obtain ⟨ti,hti⟩ := get_lt (ts := vs1) (k := i) (by omega)
             refine wp_skip (k32 _ _ ?_)
             refine c_seq fun K34 k34 => wp_block (c_seq fun K35 k35 => mq m follows_mixed (by kernel_rfl) (q_val (r_move) (q_val (r_move) (q_val (r_move) ?_))))
             simp only [ev,zD,zE,zF,zG]
             refine q_val (r_indexAddrS Tryz.underlying24 cells_59 rfl rfl (by omega) (by omega) (addrN (Int.toNat_natCast _))) ?_
             simp only [ev,zD,zE,zF,zG]
             refine q_val (r_indexAddrA Tryz.underlying59 cells_28 rfl rfl (by omega) (by omega) (addrN (Int.toNat_natCast _))) ?_
             simp only [ev,zD,zE,zF,zG]
             refine ql rfl (fun u m => ((((m.o 2 rfl).tri hti).cor hc3).lies agg_28 cells_28)) ?_
             simp only [ev,zD,zE,zF,zG]
             refine ql rfl (fun u m => ((m.b 0 rfl).full agg_28 cells_28)) ?_
             simp only [ev,zD,zE,zF,zG]
             refine q_val (eq_eql_28 rfl rfl) (q_nil ?_)
             clear m; intro u m
             refine k35 _ _ ?_
             simp only [ev,zD,zE,zF,zG]
             refine c_if rfl (fun hc11 => ?_) (fun hc11 => ?_)
             ·
              refine mq_tail m 7 follows_mixed (by kernel_rfl) ?_
              simp only [zH,zI,zJ,zK]
              refine q_val (r_move) (q_val (r_move) (q_val (r_move) (q_val (r_indexAddrA Tryz.underlying59 cells_28 rfl rfl (by decide) (by decide) rfl) ?_)))
              simp only [ev,zD,zE,zF,zG]
              refine ql rfl (fun u m => ((m.b 1 rfl).lies agg_28 cells_28 rfl rfl)) ?_
              simp only [ev,zD,zE,zF,zG,zH,zI,zJ,zK,Nat.zero_add,Nat.reduceAdd,Nat.reduceMul,Int.reduceToNat]
              refine q_val (r_indexAddrS Tryz.underlying24 cells_59 rfl rfl (by omega) (by omega) (addrBN (Int.toNat_natCast _))) ?_
              simp only [ev,zD,zE,zF,zG]
              refine q_val (r_indexAddrA Tryz.underlying59 cells_28 rfl rfl (by omega) (by omega) (addrBO (Int.toNat_natCast _))) (q_nil ?_)
              clear m; intro u m
              simp only [ev,zD,zE,zF,zG]
              refine mstoreO m 2 rfl rfl rfl cells_28 (by simp only [List.length_cons,List.length_nil,Nat.zero_add,Nat.reduceAdd,Int.reduceToNat,Nat.reduceMul]; omega) rfl ?_
              clear m; intro u m; simp only [zF,zG] at m
              try simp only [Nat.zero_add] at m
              rw [flat_cor (p := t.a) hti hc3] at m
              refine n_nil (k34 _ _ ?_)
              refine wp_region_lit (n_val (r_move) ?_)
              simp only [ev,zD,zE,zF,zG]
              refine n_val (r_add rfl rfl (wrap_i64 (by omega) (by omega))) (n_val (r_assign) (n_nil ?_))
              simp only [ev,zD,zE,zF,zG]
              simp only [Exit.inBlock,Exit.then]
              refine ⟨3 - (c + 1),_,?_,rfl,?_,?_⟩
              · omega
              · simp only [zQ,zR,zD,zE,setG_cons,setG_nil,setMany_cons,setMany_nil,zF,zG]
              ·
               simp only [zQ,zR,zD,zE]
               exact ⟨_,c + 1,rfl,m,by rw [List.length_set]; exact hvl,set_cor_sub hsv hti (pts_a htk),by omega,rfl⟩
             ·
              refine wp_skip (k34 _ _ ?_)
              refine wp_region_lit (n_val (r_move) ?_)
              simp only [ev,zD,zE,zF,zG]
              refine n_val (r_add rfl rfl (wrap_i64 (by omega) (by omega))) (n_val (r_assign) (n_nil ?_))
              simp only [ev,zD,zE,zF,zG]
              simp only [Exit.inBlock,Exit.then]
              refine ⟨3 - (c + 1),_,?_,rfl,?_,?_⟩
              · omega
              · simp only [zQ,zR,zD,zE,setG_cons,setG_nil,setMany_cons,setMany_nil,zF,zG]
              ·
               simp only [zQ,zR,zD,zE]
               exact ⟨_,c + 1,rfl,m,hvl,hsv,by omega,rfl⟩
            ·
             refine wp_exit (k30 _ _ ?_)
             refine wp_region_lit (n_val (r_move) ?_)
             simp only [ev,zD,zE,zF,zG]
             refine n_val (r_add rfl rfl (wrap_i64 (by omega) (by omega))) (n_val (r_assign) (n_nil ?_))
             simp only [ev,zD,zE,zF,zG]
             simp only [Exit.inBlock,Exit.then]
             refine ⟨ts.length - (i + 1),_,?_,rfl,?_,?_⟩
             · omega
             · simp only [zQ,zR,zD,zE,setG_cons,setG_nil,setMany_cons,setMany_nil,zF,zG]
             ·
              simp only [zQ,zR,zD,zE]
              exact ⟨_,i + 1,rfl,m,hvl,hsv,by omega,rfl⟩
          ·
           refine wp_exit (k9 _ _ ?_)
           refine c_seq fun K36 k36 => wp_region_lit (n_val (r_move) (n_val (r_assign) (n_nil (k36 _ _ ?_))))
           refine wp_ret ?_
           simp only [ev,zD,zE,zF,zG]
           try simp only [Exit.inBlock,Exit.then,if_true]
           refine fin1 rfl rfl ?_
           try simp only [zD,zE]
           exact ⟨_,rfl,m.ext,us,⟨_,_,_,hul.symm,rfl,(m.o 2 rfl)⟩,hsub,by omega⟩
        ·
         refine c_seq fun K37 k37 => wp_region_lit (n_val (r_eql rfl rfl) (n_val (r_assign) (n_nil (k37 _ _ ?_))))
         simp only [ev,zD,zE,zF,zG]
         refine c_if rfl (fun hc12 => ?_) (fun hc12 => ?_)
         ·
          refine wp_region_lit (n_val (r_move) (n_val (r_move) ?_))
          simp only [ev,zD,zE,zF,zG]
          refine n_val (r_add rfl rfl (wrap_i64 (by omega) (by omega))) ?_
          simp only [ev,zD,zE,zF,zG]
          refine n_val (r_sliceHi Tryz.underlying24 cells_59 rfl rfl (show _ = 1 + k by omega) (by omega) (by omega)) (n_val (r_assign) (n_nil (k9 _ _ ?_)))
          refine c_seq fun K38 k38 => wp_region_lit (n_val (r_move) (n_val (r_assign) ?_))
          simp only [ev,zD,zE,zF,zG]
          refine n_nil (k38 _ _ ?_)
          refine wp_ret ?_
          try simp only [Exit.inBlock,Exit.then,if_true]
          refine fin1 rfl rfl ?_
          try simp only [zD,zE]
          exact ⟨_,rfl,m.ext,ts.take (1 + k),⟨_,_,_,by simp; omega,rfl,(m.o 1 rfl).takeT (by omega)⟩,SubT.of_sub (fun u hu => List.mem_of_mem_take hu),by simp; omega⟩
         ·
          refine c_seq fun K39 k39 => wp_region_lit (n_val (r_eql rfl rfl) (n_val (r_assign) (n_nil (k39 _ _ ?_))))
          simp only [ev,zD,zE,zF,zG]
          refine c_if rfl (fun hc13 => ?_) (fun hc13 => ?_)
          ·
           refine wp_region_lit (n_val (r_move) (n_val (r_move) (n_val (r_indexAddrA Tryz.underlying59 cells_28 rfl rfl (by decide) (by decide) rfl) ?_)))
           simp only [ev,zD,zE,zF,zG]
           refine n_load rfl ((m.b 0 rfl).lies agg_28 cells_28 rfl rfl) ?_
           simp only [ev,zD,zE,zF,zG,zH,zI,zJ,zK,Nat.zero_add,Nat.reduceAdd,Nat.reduceMul,Int.reduceToNat]
           refine n_val (r_indexAddrA Tryz.underlying59 cells_28 rfl rfl (by decide) (by decide) rfl) ?_
           simp only [ev,zD,zE,zF,zG]
           refine n_load rfl ((m.b 0 rfl).lies agg_28 cells_28 rfl rfl) ?_
           simp only [ev,zD,zE,zF,zG,zH,zI,zJ,zK,Nat.zero_add,Nat.reduceAdd,Nat.reduceMul,Int.reduceToNat]
           refine n_val (r_indexAddrA Tryz.underlying59 cells_28 rfl rfl (by decide) (by decide) rfl) ?_
           simp only [ev,zD,zE,zF,zG]
           refine n_load rfl ((m.b 0 rfl).lies agg_28 cells_28 rfl rfl) ?_
           simp only [ev,zD,zE,zF,zG,zH,zI,zJ,zK,Nat.zero_add,Nat.reduceAdd,Nat.reduceMul,Int.reduceToNat]
           refine n_val (r_build_59_0_1_2 rfl rfl rfl) ?_
           simp only [ev,zD,zE,zF,zG]
           refine n_val (r_indexAddrS Tryz.underlying24 cells_59 rfl rfl (by omega) (by omega) (addrBN (Int.toNat_natCast _))) ?_
           simp only [ev,zD,zE,zF,zG]
           refine mstoreO m 1 rfl rfl rfl cells_59 (by simp only [List.length_cons,List.length_nil,Nat.zero_add,Nat.reduceAdd,Int.reduceToNat,Nat.reduceMul]; omega) rfl ?_
           clear m; intro u m; simp only [zF,zG] at m
           try simp only [Nat.zero_add] at m
           rw [show over (ts.flatMap triCells) (k * 9) [.int .i64 t.c.x,.int .i64 t.c.y,.int .i64 t.c.z,.int .i64 t.a.x,.int .i64 t.a.y,.int .i64 t.a.z,.int .i64 t.b.x,.int .i64 t.b.y,.int .i64 t.b.z] = (ts.set k (⟨t.c,t.a,t.b⟩ : T3)).flatMap triCells from flat_set (u := (⟨t.c,t.a,t.b⟩ : T3)) htk] at m
           refine n_nil (k9 _ _ ?_)
           refine c_seq fun K40 k40 => wp_region_lit (n_val (r_move) (n_val (r_assign) (n_nil (k40 _ _ ?_))))
           refine wp_ret ?_
           simp only [ev,zD,zE,zF,zG]
           try simp only [Exit.inBlock,Exit.then,if_true]
           refine fin1 rfl rfl ?_
           try simp only [zD,zE]
           exact ⟨_,rfl,m.ext,ts.set k (⟨t.c,t.a,t.b⟩ : T3),⟨_,_,_,by simp,rfl,(m.o 1 rfl)⟩,(SubT.refl ts).set (pts_c htk) (pts_a htk) (pts_b htk),by simp⟩
          ·
           refine wp_skip (k9 _ _ ?_)
           refine c_seq fun K41 k41 => wp_region_lit (n_val (r_move) (n_val (r_assign) (n_nil (k41 _ _ ?_))))
           refine wp_ret ?_
           simp only [ev,zD,zE,zF,zG]
           try simp only [Exit.inBlock,Exit.then,if_true]
           refine fin1 rfl rfl ?_
           try simp only [zD,zE]
           exact ⟨_,rfl,m.ext,ts,⟨_,_,_,by simp,rfl,(m.o 1 rfl)⟩,SubT.refl ts,by simp⟩

end Go.Proofs.YtmcgcnpgkkfkoaaGreatDoor
namespace Go.Proofs.YtmcgcnpgkkfkoaaGreatDoor
open Go.RowKit Go.Lith
set_option maxRecDepth 100000
attribute [local irreducible] wpList wpQuiet wpMix wpMixH wpTree Code.wp
set_option maxHeartbeats 2000000 in
theorem cube_c {p : P3} (w : World) (hp : Sm 100 p) : Does Tryz.prog 62 [pt p,.int .i64 8] w (TS 59 (cubeT p 8) w) := by
 refine ⟨en_62,?_⟩
 have m := Mem.refl w
 have hp1 := hp.1; have hp2 := hp.2.1; have hp3 := hp.2.2
 go_enter Tryz.func62,Tryz.ntmps62
 refine c_seq fun K1 k1 => wp_region_lit (mboxA m rfl ?_)
 clear m; intro g1 u m
 refine n_val (r_assign) (n_nil (k1 _ _ ?_))
 refine c_seq fun K2 k2 => wp_region_lit ?_
 simp only [ev,zD,zE,zF,zG]
 refine malloc m zero_148 rfl ?_
 clear m; intro g2 u m
 refine n_nil (k2 _ _ ?_)
 refine c_seq fun K3 k3 => c_seq fun K4 k4 => wp_region_lit (n_val (r_assign) (n_nil (k4 _ _ ?_)))
 refine wp_block (wp_loop_rounds 9 (rounds_step (c_seq fun K5 k5 => c_seq fun K6 k6 => wp_region_lit (n_val (r_move) (n_val (r_lssT (m := 0) (n := 8) rfl rfl (by decide)) ?_)))))
 simp only [ev,zD,zE,zF,zG]
 refine n_nil (k6 _ _ ?_)
 refine c_yes rfl (wp_skip (k5 _ _ ?_))
 refine c_seq fun K7 k7 => wp_block (wp_region_lit (n_val (r_move) (n_val (r_fieldAddr (c := 0) Tryz.underlying28 rfl cells_3 rfl rfl) ?_)))
 simp only [ev,zD,zE,zF,zG]
 refine n_load rfl ((m.b 1 rfl).lies1 agg_3 rfl) ?_
 simp only [ev,zD,zE,zF,zG]
 refine n_val (r_move) (n_val (r_rem (m := 0) (n := 2) (r := 0) rfl rfl (by decide) (by decide)) (n_val (r_move) (n_val (r_mul (m := 0) (n := 8) (r := 0) rfl rfl (by decide)) ?_)))
 simp only [ev,zD,zE,zF,zG]
 refine n_val (r_add rfl rfl (wrap_i64 (by omega) (by omega))) (n_val (r_fieldAddr (c := 0) Tryz.underlying28 rfl cells_3 rfl rfl) ?_)
 simp only [ev,zD,zE,zF,zG]
 refine n_load rfl ((m.b 1 rfl).lies1 agg_3 rfl) ?_
 simp only [ev,zD,zE,zF,zG]
 refine n_val (r_move) (n_val (r_quo (m := 0) (n := 2) (r := 0) rfl rfl (by decide) (by decide)) (n_val (r_rem (m := 0) (n := 2) (r := 0) rfl rfl (by decide) (by decide)) (n_val (r_move) ?_)))
 simp only [ev,zD,zE,zF,zG]
 refine n_val (r_mul (m := 0) (n := 8) (r := 0) rfl rfl (by decide)) ?_
 simp only [ev,zD,zE,zF,zG]
 refine n_val (r_add rfl rfl (wrap_i64 (by omega) (by omega))) (n_val (r_fieldAddr (c := 0) Tryz.underlying28 rfl cells_3 rfl rfl) ?_)
 simp only [ev,zD,zE,zF,zG]
 refine n_load rfl ((m.b 1 rfl).lies1 agg_3 rfl) ?_
 simp only [ev,zD,zE,zF,zG]
 refine n_val (r_move) (n_val (r_quo (m := 0) (n := 4) (r := 0) rfl rfl (by decide) (by decide)) (n_val (r_move) (n_val (r_mul (m := 0) (n := 8) (r := 0) rfl rfl (by decide)) ?_)))
 simp only [ev,zD,zE,zF,zG]
 refine n_val (r_add rfl rfl (wrap_i64 (by omega) (by omega))) (n_val (r_build_28_0_1_2 rfl rfl rfl) (n_val (r_indexAddrA Tryz.underlying148 cells_28 rfl rfl (by decide) (by decide) rfl) ?_))
 simp only [ev,zD,zE,zF,zG]
 refine mstoreA m 0 rfl rfl rfl cells_28 (leT rfl) rfl ?_
 clear m; intro u m; simp only [over,zH,zI,zJ,zK,zL,zM,zN,zO,zP,zF,zG,Nat.reduceAdd] at m
 refine n_nil (k7 _ _ ?_)
 refine wp_region_lit (n_val (r_move) (n_val (r_add (m := 0) (n := 1) (r := 1) rfl rfl (by decide)) (n_val (r_assign) (n_nil (then_rounds (c_seq fun K8 k8 => c_seq fun K9 k9 => wp_region_lit (n_val (r_move) ?_)))))))
 simp only [ev,zD,zE,zF,zG]
 refine n_val (r_lssT (m := 1) (n := 8) rfl rfl (by decide)) (n_nil (k9 _ _ ?_))
 refine c_yes rfl (wp_skip (k8 _ _ ?_))
 refine c_seq fun K10 k10 => wp_block (wp_region_lit (n_val (r_move) (n_val (r_fieldAddr (c := 0) Tryz.underlying28 rfl cells_3 rfl rfl) ?_)))
 simp only [ev,zD,zE,zF,zG]
 refine n_load rfl ((m.b 1 rfl).lies1 agg_3 rfl) ?_
 simp only [ev,zD,zE,zF,zG]
 refine n_val (r_move) (n_val (r_rem (m := 1) (n := 2) (r := 1) rfl rfl (by decide) (by decide)) (n_val (r_move) (n_val (r_mul (m := 1) (n := 8) (r := 8) rfl rfl (by decide)) ?_)))
 simp only [ev,zD,zE,zF,zG]
 refine n_val (r_add rfl rfl (wrap_i64 (by omega) (by omega))) (n_val (r_fieldAddr (c := 0) Tryz.underlying28 rfl cells_3 rfl rfl) ?_)
 simp only [ev,zD,zE,zF,zG]
 refine n_load rfl ((m.b 1 rfl).lies1 agg_3 rfl) ?_
 simp only [ev,zD,zE,zF,zG]
 refine n_val (r_move) (n_val (r_quo (m := 1) (n := 2) (r := 0) rfl rfl (by decide) (by decide)) (n_val (r_rem (m := 0) (n := 2) (r := 0) rfl rfl (by decide) (by decide)) (n_val (r_move) ?_)))
 simp only [ev,zD,zE,zF,zG]
 refine n_val (r_mul (m := 0) (n := 8) (r := 0) rfl rfl (by decide)) ?_
 simp only [ev,zD,zE,zF,zG]
 refine n_val (r_add rfl rfl (wrap_i64 (by omega) (by omega))) (n_val (r_fieldAddr (c := 0) Tryz.underlying28 rfl cells_3 rfl rfl) ?_)
 simp only [ev,zD,zE,zF,zG]
 refine n_load rfl ((m.b 1 rfl).lies1 agg_3 rfl) ?_
 simp only [ev,zD,zE,zF,zG]
 refine n_val (r_move) (n_val (r_quo (m := 1) (n := 4) (r := 0) rfl rfl (by decide) (by decide)) (n_val (r_move) (n_val (r_mul (m := 0) (n := 8) (r := 0) rfl rfl (by decide)) ?_)))
 simp only [ev,zD,zE,zF,zG]
 refine n_val (r_add rfl rfl (wrap_i64 (by omega) (by omega))) (n_val (r_build_28_0_1_2 rfl rfl rfl) (n_val (r_indexAddrA Tryz.underlying148 cells_28 rfl rfl (by decide) (by decide) rfl) ?_))
 simp only [ev,zD,zE,zF,zG]
 refine mstoreA m 0 rfl rfl rfl cells_28 (leT rfl) rfl ?_
 clear m; intro u m; simp only [over,zH,zI,zJ,zK,zL,zM,zN,zO,zP,zF,zG,Nat.reduceAdd] at m
 refine n_nil (k10 _ _ ?_)
 refine wp_region_lit (n_val (r_move) (n_val (r_add (m := 1) (n := 1) (r := 2) rfl rfl (by decide)) (n_val (r_assign) (n_nil (then_rounds (c_seq fun K11 k11 => c_seq fun K12 k12 => wp_region_lit (n_val (r_move) ?_)))))))
 simp only [ev,zD,zE,zF,zG]
 refine n_val (r_lssT (m := 2) (n := 8) rfl rfl (by decide)) (n_nil (k12 _ _ ?_))
 refine c_yes rfl (wp_skip (k11 _ _ ?_))
 refine c_seq fun K13 k13 => wp_block (wp_region_lit (n_val (r_move) (n_val (r_fieldAddr (c := 0) Tryz.underlying28 rfl cells_3 rfl rfl) ?_)))
 simp only [ev,zD,zE,zF,zG]
 refine n_load rfl ((m.b 1 rfl).lies1 agg_3 rfl) ?_
 simp only [ev,zD,zE,zF,zG]
 refine n_val (r_move) (n_val (r_rem (m := 2) (n := 2) (r := 0) rfl rfl (by decide) (by decide)) (n_val (r_move) (n_val (r_mul (m := 0) (n := 8) (r := 0) rfl rfl (by decide)) ?_)))
 simp only [ev,zD,zE,zF,zG]
 refine n_val (r_add rfl rfl (wrap_i64 (by omega) (by omega))) (n_val (r_fieldAddr (c := 0) Tryz.underlying28 rfl cells_3 rfl rfl) ?_)
 simp only [ev,zD,zE,zF,zG]
 refine n_load rfl ((m.b 1 rfl).lies1 agg_3 rfl) ?_
 simp only [ev,zD,zE,zF,zG]
 refine n_val (r_move) (n_val (r_quo (m := 2) (n := 2) (r := 1) rfl rfl (by decide) (by decide)) (n_val (r_rem (m := 1) (n := 2) (r := 1) rfl rfl (by decide) (by decide)) (n_val (r_move) ?_)))
 simp only [ev,zD,zE,zF,zG]
 refine n_val (r_mul (m := 1) (n := 8) (r := 8) rfl rfl (by decide)) ?_
 simp only [ev,zD,zE,zF,zG]
 refine n_val (r_add rfl rfl (wrap_i64 (by omega) (by omega))) (n_val (r_fieldAddr (c := 0) Tryz.underlying28 rfl cells_3 rfl rfl) ?_)
 simp only [ev,zD,zE,zF,zG]
 refine n_load rfl ((m.b 1 rfl).lies1 agg_3 rfl) ?_
 simp only [ev,zD,zE,zF,zG]
 refine n_val (r_move) (n_val (r_quo (m := 2) (n := 4) (r := 0) rfl rfl (by decide) (by decide)) (n_val (r_move) (n_val (r_mul (m := 0) (n := 8) (r := 0) rfl rfl (by decide)) ?_)))
 simp only [ev,zD,zE,zF,zG]
 refine n_val (r_add rfl rfl (wrap_i64 (by omega) (by omega))) (n_val (r_build_28_0_1_2 rfl rfl rfl) (n_val (r_indexAddrA Tryz.underlying148 cells_28 rfl rfl (by decide) (by decide) rfl) ?_))
 simp only [ev,zD,zE,zF,zG]
 refine mstoreA m 0 rfl rfl rfl cells_28 (leT rfl) rfl ?_
 clear m; intro u m; simp only [over,zH,zI,zJ,zK,zL,zM,zN,zO,zP,zF,zG,Nat.reduceAdd] at m
 refine n_nil (k13 _ _ ?_)
 refine wp_region_lit (n_val (r_move) (n_val (r_add (m := 2) (n := 1) (r := 3) rfl rfl (by decide)) (n_val (r_assign) (n_nil (then_rounds (c_seq fun K14 k14 => c_seq fun K15 k15 => wp_region_lit (n_val (r_move) ?_)))))))
 simp only [ev,zD,zE,zF,zG]
 refine n_val (r_lssT (m := 3) (n := 8) rfl rfl (by decide)) (n_nil (k15 _ _ ?_))
 refine c_yes rfl (wp_skip (k14 _ _ ?_))
 refine c_seq fun K16 k16 => wp_block (wp_region_lit (n_val (r_move) (n_val (r_fieldAddr (c := 0) Tryz.underlying28 rfl cells_3 rfl rfl) ?_)))
 simp only [ev,zD,zE,zF,zG]
 refine n_load rfl ((m.b 1 rfl).lies1 agg_3 rfl) ?_
 simp only [ev,zD,zE,zF,zG]
 refine n_val (r_move) (n_val (r_rem (m := 3) (n := 2) (r := 1) rfl rfl (by decide) (by decide)) (n_val (r_move) (n_val (r_mul (m := 1) (n := 8) (r := 8) rfl rfl (by decide)) ?_)))
 simp only [ev,zD,zE,zF,zG]
 refine n_val (r_add rfl rfl (wrap_i64 (by omega) (by omega))) (n_val (r_fieldAddr (c := 0) Tryz.underlying28 rfl cells_3 rfl rfl) ?_)
 simp only [ev,zD,zE,zF,zG]
 refine n_load rfl ((m.b 1 rfl).lies1 agg_3 rfl) ?_
 simp only [ev,zD,zE,zF,zG]
 refine n_val (r_move) (n_val (r_quo (m := 3) (n := 2) (r := 1) rfl rfl (by decide) (by decide)) (n_val (r_rem (m := 1) (n := 2) (r := 1) rfl rfl (by decide) (by decide)) (n_val (r_move) ?_)))
 simp only [ev,zD,zE,zF,zG]
 refine n_val (r_mul (m := 1) (n := 8) (r := 8) rfl rfl (by decide)) ?_
 simp only [ev,zD,zE,zF,zG]
 refine n_val (r_add rfl rfl (wrap_i64 (by omega) (by omega))) (n_val (r_fieldAddr (c := 0) Tryz.underlying28 rfl cells_3 rfl rfl) ?_)
 simp only [ev,zD,zE,zF,zG]
 refine n_load rfl ((m.b 1 rfl).lies1 agg_3 rfl) ?_
 simp only [ev,zD,zE,zF,zG]
 refine n_val (r_move) (n_val (r_quo (m := 3) (n := 4) (r := 0) rfl rfl (by decide) (by decide)) (n_val (r_move) (n_val (r_mul (m := 0) (n := 8) (r := 0) rfl rfl (by decide)) ?_)))
 simp only [ev,zD,zE,zF,zG]
 refine n_val (r_add rfl rfl (wrap_i64 (by omega) (by omega))) (n_val (r_build_28_0_1_2 rfl rfl rfl) (n_val (r_indexAddrA Tryz.underlying148 cells_28 rfl rfl (by decide) (by decide) rfl) ?_))
 simp only [ev,zD,zE,zF,zG]
 refine mstoreA m 0 rfl rfl rfl cells_28 (leT rfl) rfl ?_
 clear m; intro u m; simp only [over,zH,zI,zJ,zK,zL,zM,zN,zO,zP,zF,zG,Nat.reduceAdd] at m
 refine n_nil (k16 _ _ ?_)
 refine wp_region_lit (n_val (r_move) (n_val (r_add (m := 3) (n := 1) (r := 4) rfl rfl (by decide)) (n_val (r_assign) (n_nil (then_rounds (c_seq fun K17 k17 => c_seq fun K18 k18 => wp_region_lit (n_val (r_move) ?_)))))))
 simp only [ev,zD,zE,zF,zG]
 refine n_val (r_lssT (m := 4) (n := 8) rfl rfl (by decide)) (n_nil (k18 _ _ ?_))
 refine c_yes rfl (wp_skip (k17 _ _ ?_))
 refine c_seq fun K19 k19 => wp_block (wp_region_lit (n_val (r_move) (n_val (r_fieldAddr (c := 0) Tryz.underlying28 rfl cells_3 rfl rfl) ?_)))
 simp only [ev,zD,zE,zF,zG]
 refine n_load rfl ((m.b 1 rfl).lies1 agg_3 rfl) ?_
 simp only [ev,zD,zE,zF,zG]
 refine n_val (r_move) (n_val (r_rem (m := 4) (n := 2) (r := 0) rfl rfl (by decide) (by decide)) (n_val (r_move) (n_val (r_mul (m := 0) (n := 8) (r := 0) rfl rfl (by decide)) ?_)))
 simp only [ev,zD,zE,zF,zG]
 refine n_val (r_add rfl rfl (wrap_i64 (by omega) (by omega))) (n_val (r_fieldAddr (c := 0) Tryz.underlying28 rfl cells_3 rfl rfl) ?_)
 simp only [ev,zD,zE,zF,zG]
 refine n_load rfl ((m.b 1 rfl).lies1 agg_3 rfl) ?_
 simp only [ev,zD,zE,zF,zG]
 refine n_val (r_move) (n_val (r_quo (m := 4) (n := 2) (r := 2) rfl rfl (by decide) (by decide)) (n_val (r_rem (m := 2) (n := 2) (r := 0) rfl rfl (by decide) (by decide)) (n_val (r_move) ?_)))
 simp only [ev,zD,zE,zF,zG]
 refine n_val (r_mul (m := 0) (n := 8) (r := 0) rfl rfl (by decide)) ?_
 simp only [ev,zD,zE,zF,zG]
 refine n_val (r_add rfl rfl (wrap_i64 (by omega) (by omega))) (n_val (r_fieldAddr (c := 0) Tryz.underlying28 rfl cells_3 rfl rfl) ?_)
 simp only [ev,zD,zE,zF,zG]
 refine n_load rfl ((m.b 1 rfl).lies1 agg_3 rfl) ?_
 simp only [ev,zD,zE,zF,zG]
 refine n_val (r_move) (n_val (r_quo (m := 4) (n := 4) (r := 1) rfl rfl (by decide) (by decide)) (n_val (r_move) (n_val (r_mul (m := 1) (n := 8) (r := 8) rfl rfl (by decide)) ?_)))
 simp only [ev,zD,zE,zF,zG]
 refine n_val (r_add rfl rfl (wrap_i64 (by omega) (by omega))) (n_val (r_build_28_0_1_2 rfl rfl rfl) (n_val (r_indexAddrA Tryz.underlying148 cells_28 rfl rfl (by decide) (by decide) rfl) ?_))
 simp only [ev,zD,zE,zF,zG]
 refine mstoreA m 0 rfl rfl rfl cells_28 (leT rfl) rfl ?_
 clear m; intro u m; simp only [over,zH,zI,zJ,zK,zL,zM,zN,zO,zP,zF,zG,Nat.reduceAdd] at m
 refine n_nil (k19 _ _ ?_)
 refine wp_region_lit (n_val (r_move) (n_val (r_add (m := 4) (n := 1) (r := 5) rfl rfl (by decide)) (n_val (r_assign) (n_nil (then_rounds (c_seq fun K20 k20 => c_seq fun K21 k21 => wp_region_lit (n_val (r_move) ?_)))))))
 simp only [ev,zD,zE,zF,zG]
 refine n_val (r_lssT (m := 5) (n := 8) rfl rfl (by decide)) (n_nil (k21 _ _ ?_))
 refine c_yes rfl (wp_skip (k20 _ _ ?_))
 refine c_seq fun K22 k22 => wp_block (wp_region_lit (n_val (r_move) (n_val (r_fieldAddr (c := 0) Tryz.underlying28 rfl cells_3 rfl rfl) ?_)))
 simp only [ev,zD,zE,zF,zG]
 refine n_load rfl ((m.b 1 rfl).lies1 agg_3 rfl) ?_
 simp only [ev,zD,zE,zF,zG]
 refine n_val (r_move) (n_val (r_rem (m := 5) (n := 2) (r := 1) rfl rfl (by decide) (by decide)) (n_val (r_move) (n_val (r_mul (m := 1) (n := 8) (r := 8) rfl rfl (by decide)) ?_)))
 simp only [ev,zD,zE,zF,zG]
 refine n_val (r_add rfl rfl (wrap_i64 (by omega) (by omega))) (n_val (r_fieldAddr (c := 0) Tryz.underlying28 rfl cells_3 rfl rfl) ?_)
 simp only [ev,zD,zE,zF,zG]
 refine n_load rfl ((m.b 1 rfl).lies1 agg_3 rfl) ?_
 simp only [ev,zD,zE,zF,zG]
 refine n_val (r_move) (n_val (r_quo (m := 5) (n := 2) (r := 2) rfl rfl (by decide) (by decide)) (n_val (r_rem (m := 2) (n := 2) (r := 0) rfl rfl (by decide) (by decide)) (n_val (r_move) ?_)))
 simp only [ev,zD,zE,zF,zG]
 refine n_val (r_mul (m := 0) (n := 8) (r := 0) rfl rfl (by decide)) ?_
 simp only [ev,zD,zE,zF,zG]
 refine n_val (r_add rfl rfl (wrap_i64 (by omega) (by omega))) (n_val (r_fieldAddr (c := 0) Tryz.underlying28 rfl cells_3 rfl rfl) ?_)
 simp only [ev,zD,zE,zF,zG]
 refine n_load rfl ((m.b 1 rfl).lies1 agg_3 rfl) ?_
 simp only [ev,zD,zE,zF,zG]
 refine n_val (r_move) (n_val (r_quo (m := 5) (n := 4) (r := 1) rfl rfl (by decide) (by decide)) (n_val (r_move) (n_val (r_mul (m := 1) (n := 8) (r := 8) rfl rfl (by decide)) ?_)))
 simp only [ev,zD,zE,zF,zG]
 refine n_val (r_add rfl rfl (wrap_i64 (by omega) (by omega))) (n_val (r_build_28_0_1_2 rfl rfl rfl) (n_val (r_indexAddrA Tryz.underlying148 cells_28 rfl rfl (by decide) (by decide) rfl) ?_))
 simp only [ev,zD,zE,zF,zG]
 refine mstoreA m 0 rfl rfl rfl cells_28 (leT rfl) rfl ?_
 clear m; intro u m; simp only [over,zH,zI,zJ,zK,zL,zM,zN,zO,zP,zF,zG,Nat.reduceAdd] at m
 refine n_nil (k22 _ _ ?_)
 refine wp_region_lit (n_val (r_move) (n_val (r_add (m := 5) (n := 1) (r := 6) rfl rfl (by decide)) (n_val (r_assign) (n_nil (then_rounds (c_seq fun K23 k23 => c_seq fun K24 k24 => wp_region_lit (n_val (r_move) ?_)))))))
 simp only [ev,zD,zE,zF,zG]
 refine n_val (r_lssT (m := 6) (n := 8) rfl rfl (by decide)) (n_nil (k24 _ _ ?_))
 refine c_yes rfl (wp_skip (k23 _ _ ?_))
 refine c_seq fun K25 k25 => wp_block (wp_region_lit (n_val (r_move) (n_val (r_fieldAddr (c := 0) Tryz.underlying28 rfl cells_3 rfl rfl) ?_)))
 simp only [ev,zD,zE,zF,zG]
 refine n_load rfl ((m.b 1 rfl).lies1 agg_3 rfl) ?_
 simp only [ev,zD,zE,zF,zG]
 refine n_val (r_move) (n_val (r_rem (m := 6) (n := 2) (r := 0) rfl rfl (by decide) (by decide)) (n_val (r_move) (n_val (r_mul (m := 0) (n := 8) (r := 0) rfl rfl (by decide)) ?_)))
 simp only [ev,zD,zE,zF,zG]
 refine n_val (r_add rfl rfl (wrap_i64 (by omega) (by omega))) (n_val (r_fieldAddr (c := 0) Tryz.underlying28 rfl cells_3 rfl rfl) ?_)
 simp only [ev,zD,zE,zF,zG]
 refine n_load rfl ((m.b 1 rfl).lies1 agg_3 rfl) ?_
 simp only [ev,zD,zE,zF,zG]
 refine n_val (r_move) (n_val (r_quo (m := 6) (n := 2) (r := 3) rfl rfl (by decide) (by decide)) (n_val (r_rem (m := 3) (n := 2) (r := 1) rfl rfl (by decide) (by decide)) (n_val (r_move) ?_)))
 simp only [ev,zD,zE,zF,zG]
 refine n_val (r_mul (m := 1) (n := 8) (r := 8) rfl rfl (by decide)) ?_
 simp only [ev,zD,zE,zF,zG]
 refine n_val (r_add rfl rfl (wrap_i64 (by omega) (by omega))) (n_val (r_fieldAddr (c := 0) Tryz.underlying28 rfl cells_3 rfl rfl) ?_)
 simp only [ev,zD,zE,zF,zG]
 refine n_load rfl ((m.b 1 rfl).lies1 agg_3 rfl) ?_
 simp only [ev,zD,zE,zF,zG]
 refine n_val (r_move) (n_val (r_quo (m := 6) (n := 4) (r := 1) rfl rfl (by decide) (by decide)) (n_val (r_move) (n_val (r_mul (m := 1) (n := 8) (r := 8) rfl rfl (by decide)) ?_)))
 simp only [ev,zD,zE,zF,zG]
 refine n_val (r_add rfl rfl (wrap_i64 (by omega) (by omega))) (n_val (r_build_28_0_1_2 rfl rfl rfl) (n_val (r_indexAddrA Tryz.underlying148 cells_28 rfl rfl (by decide) (by decide) rfl) ?_))
 simp only [ev,zD,zE,zF,zG]
 refine mstoreA m 0 rfl rfl rfl cells_28 (leT rfl) rfl ?_
 clear m; intro u m; simp only [over,zH,zI,zJ,zK,zL,zM,zN,zO,zP,zF,zG,Nat.reduceAdd] at m
 refine n_nil (k25 _ _ ?_)
 refine wp_region_lit (n_val (r_move) (n_val (r_add (m := 6) (n := 1) (r := 7) rfl rfl (by decide)) (n_val (r_assign) (n_nil (then_rounds (c_seq fun K26 k26 => c_seq fun K27 k27 => wp_region_lit (n_val (r_move) ?_)))))))
 simp only [ev,zD,zE,zF,zG]
 refine n_val (r_lssT (m := 7) (n := 8) rfl rfl (by decide)) (n_nil (k27 _ _ ?_))
 refine c_yes rfl (wp_skip (k26 _ _ ?_))
 refine c_seq fun K28 k28 => wp_block (wp_region_lit (n_val (r_move) (n_val (r_fieldAddr (c := 0) Tryz.underlying28 rfl cells_3 rfl rfl) ?_)))
 simp only [ev,zD,zE,zF,zG]
 refine n_load rfl ((m.b 1 rfl).lies1 agg_3 rfl) ?_
 simp only [ev,zD,zE,zF,zG]
 refine n_val (r_move) (n_val (r_rem (m := 7) (n := 2) (r := 1) rfl rfl (by decide) (by decide)) (n_val (r_move) (n_val (r_mul (m := 1) (n := 8) (r := 8) rfl rfl (by decide)) ?_)))
 simp only [ev,zD,zE,zF,zG]
 refine n_val (r_add rfl rfl (wrap_i64 (by omega) (by omega))) (n_val (r_fieldAddr (c := 0) Tryz.underlying28 rfl cells_3 rfl rfl) ?_)
 simp only [ev,zD,zE,zF,zG]
 refine n_load rfl ((m.b 1 rfl).lies1 agg_3 rfl) ?_
 simp only [ev,zD,zE,zF,zG]
 refine n_val (r_move) (n_val (r_quo (m := 7) (n := 2) (r := 3) rfl rfl (by decide) (by decide)) (n_val (r_rem (m := 3) (n := 2) (r := 1) rfl rfl (by decide) (by decide)) (n_val (r_move) ?_)))
 simp only [ev,zD,zE,zF,zG]
 refine n_val (r_mul (m := 1) (n := 8) (r := 8) rfl rfl (by decide)) ?_
 simp only [ev,zD,zE,zF,zG]
 refine n_val (r_add rfl rfl (wrap_i64 (by omega) (by omega))) (n_val (r_fieldAddr (c := 0) Tryz.underlying28 rfl cells_3 rfl rfl) ?_)
 simp only [ev,zD,zE,zF,zG]
 refine n_load rfl ((m.b 1 rfl).lies1 agg_3 rfl) ?_
 simp only [ev,zD,zE,zF,zG]
 refine n_val (r_move) (n_val (r_quo (m := 7) (n := 4) (r := 1) rfl rfl (by decide) (by decide)) (n_val (r_move) (n_val (r_mul (m := 1) (n := 8) (r := 8) rfl rfl (by decide)) ?_)))
 simp only [ev,zD,zE,zF,zG]
 refine n_val (r_add rfl rfl (wrap_i64 (by omega) (by omega))) (n_val (r_build_28_0_1_2 rfl rfl rfl) (n_val (r_indexAddrA Tryz.underlying148 cells_28 rfl rfl (by decide) (by decide) rfl) ?_))
 simp only [ev,zD,zE,zF,zG]
 refine mstoreA m 0 rfl rfl rfl cells_28 (leT rfl) rfl ?_
 clear m; intro u m; simp only [over,zH,zI,zJ,zK,zL,zM,zN,zO,zP,zF,zG,Nat.reduceAdd] at m
 refine n_nil (k28 _ _ ?_)
 refine wp_region_lit (n_val (r_move) (n_val (r_add (m := 7) (n := 1) (r := 8) rfl rfl (by decide)) (n_val (r_assign) (n_nil (then_rounds (c_seq fun K29 k29 => c_seq fun K30 k30 => wp_region_lit (n_val (r_move) ?_)))))))
 simp only [ev,zD,zE,zF,zG]
 refine n_val (r_lssF (m := 8) (n := 8) rfl rfl (by decide)) (n_nil (k30 _ _ ?_))
 refine c_no rfl (wp_exit (k3 _ _ ?_))
 refine c_seq fun K31 k31 => ?_
 simp only [ev,zD,zE,zF,zG]
 change Mem w _ [bI g2 [.int .i64 (cubeC p 8 0).x,.int .i64 (cubeC p 8 0).y,.int .i64 (cubeC p 8 0).z,.int .i64 (cubeC p 8 1).x,.int .i64 (cubeC p 8 1).y,.int .i64 (cubeC p 8 1).z,.int .i64 (cubeC p 8 2).x,.int .i64 (cubeC p 8 2).y,.int .i64 (cubeC p 8 2).z,.int .i64 (cubeC p 8 3).x,.int .i64 (cubeC p 8 3).y,.int .i64 (cubeC p 8 3).z,.int .i64 (cubeC p 8 4).x,.int .i64 (cubeC p 8 4).y,.int .i64 (cubeC p 8 4).z,.int .i64 (cubeC p 8 5).x,.int .i64 (cubeC p 8 5).y,.int .i64 (cubeC p 8 5).z,.int .i64 (cubeC p 8 6).x,.int .i64 (cubeC p 8 6).y,.int .i64 (cubeC p 8 6).z,.int .i64 (cubeC p 8 7).x,.int .i64 (cubeC p 8 7).y,.int .i64 (cubeC p 8 7).z] _,_] at m
 refine wp_region_lit (n_val (r_indexAddrA Tryz.underlying148 cells_28 rfl rfl (by decide) (by decide) rfl) ?_)
 simp only [ev,zD,zE,zF,zG]
 refine n_load rfl ((m.b 0 rfl).lies agg_28 cells_28 rfl rfl) ?_
 simp only [ev,zD,zE,zF,zG,zH,zI,zJ,zK,Nat.zero_add,Nat.reduceAdd,Nat.reduceMul,Int.reduceToNat]
 refine n_val (r_indexAddrA Tryz.underlying148 cells_28 rfl rfl (by decide) (by decide) rfl) ?_
 simp only [ev,zD,zE,zF,zG]
 refine n_load rfl ((m.b 0 rfl).lies agg_28 cells_28 rfl rfl) ?_
 simp only [ev,zD,zE,zF,zG,zH,zI,zJ,zK,Nat.zero_add,Nat.reduceAdd,Nat.reduceMul,Int.reduceToNat]
 refine n_val (r_indexAddrA Tryz.underlying148 cells_28 rfl rfl (by decide) (by decide) rfl) ?_
 simp only [ev,zD,zE,zF,zG]
 refine n_load rfl ((m.b 0 rfl).lies agg_28 cells_28 rfl rfl) ?_
 simp only [ev,zD,zE,zF,zG,zH,zI,zJ,zK,Nat.zero_add,Nat.reduceAdd,Nat.reduceMul,Int.reduceToNat]
 refine n_val (r_indexAddrA Tryz.underlying148 cells_28 rfl rfl (by decide) (by decide) rfl) ?_
 simp only [ev,zD,zE,zF,zG]
 refine n_load rfl ((m.b 0 rfl).lies agg_28 cells_28 rfl rfl) ?_
 simp only [ev,zD,zE,zF,zG,zH,zI,zJ,zK,Nat.zero_add,Nat.reduceAdd,Nat.reduceMul,Int.reduceToNat]
 refine n_call rfl rfl (quad_c (a := cubeC p 8 0) (b := cubeC p 8 2) (c := cubeC p 8 3) (d := cubeC p 8 1) _) ?_
 rintro v u e ⟨A1,cap1,_,rfl,rfl,hN⟩; replace m := m.newO e hN; clear e hN
 refine n_val (r_assign) (n_nil (k31 _ _ ?_))
 refine c_seq fun K32 k32 => wp_region_lit (n_val (r_move) (n_val (r_indexAddrA Tryz.underlying148 cells_28 rfl rfl (by decide) (by decide) rfl) ?_))
 simp only [ev,zD,zE,zF,zG]
 refine n_load rfl ((m.b 1 rfl).lies agg_28 cells_28 rfl rfl) ?_
 simp only [ev,zD,zE,zF,zG,zH,zI,zJ,zK,Nat.zero_add,Nat.reduceAdd,Nat.reduceMul,Int.reduceToNat]
 refine n_val (r_indexAddrA Tryz.underlying148 cells_28 rfl rfl (by decide) (by decide) rfl) ?_
 simp only [ev,zD,zE,zF,zG]
 refine n_load rfl ((m.b 1 rfl).lies agg_28 cells_28 rfl rfl) ?_
 simp only [ev,zD,zE,zF,zG,zH,zI,zJ,zK,Nat.zero_add,Nat.reduceAdd,Nat.reduceMul,Int.reduceToNat]
 refine n_val (r_indexAddrA Tryz.underlying148 cells_28 rfl rfl (by decide) (by decide) rfl) ?_
 simp only [ev,zD,zE,zF,zG]
 refine n_load rfl ((m.b 1 rfl).lies agg_28 cells_28 rfl rfl) ?_
 simp only [ev,zD,zE,zF,zG,zH,zI,zJ,zK,Nat.zero_add,Nat.reduceAdd,Nat.reduceMul,Int.reduceToNat]
 refine n_val (r_indexAddrA Tryz.underlying148 cells_28 rfl rfl (by decide) (by decide) rfl) ?_
 simp only [ev,zD,zE,zF,zG]
 refine n_load rfl ((m.b 1 rfl).lies agg_28 cells_28 rfl rfl) ?_
 simp only [ev,zD,zE,zF,zG,zH,zI,zJ,zK,Nat.zero_add,Nat.reduceAdd,Nat.reduceMul,Int.reduceToNat]
 refine n_call rfl rfl (quad_c (a := cubeC p 8 4) (b := cubeC p 8 5) (c := cubeC p 8 7) (d := cubeC p 8 6) _) ?_
 rintro v u e ⟨A2,cap2,_,rfl,rfl,hN⟩; replace m := m.newO e hN; clear e hN
 simp only [ev,zD,zE,zF,zG]
 refine mappend m 1 rfl rfl Tryz.underlying24 inf_59 rfl (by decide) rfl rfl (m.o 0 rfl).own.1 (m.o 0 rfl).row (tris_one _) (leT rfl) (leT rfl) ?_
 clear m; intro A1 cap1 u m; simp only [zF,zG] at m
 refine n_val (r_assign) (n_nil (k32 _ _ ?_))
 refine c_seq fun K33 k33 => wp_region_lit (n_val (r_move) (n_val (r_indexAddrA Tryz.underlying148 cells_28 rfl rfl (by decide) (by decide) rfl) ?_))
 simp only [ev,zD,zE,zF,zG]
 refine n_load rfl ((m.b 2 rfl).lies agg_28 cells_28 rfl rfl) ?_
 simp only [ev,zD,zE,zF,zG,zH,zI,zJ,zK,Nat.zero_add,Nat.reduceAdd,Nat.reduceMul,Int.reduceToNat]
 refine n_val (r_indexAddrA Tryz.underlying148 cells_28 rfl rfl (by decide) (by decide) rfl) ?_
 simp only [ev,zD,zE,zF,zG]
 refine n_load rfl ((m.b 2 rfl).lies agg_28 cells_28 rfl rfl) ?_
 simp only [ev,zD,zE,zF,zG,zH,zI,zJ,zK,Nat.zero_add,Nat.reduceAdd,Nat.reduceMul,Int.reduceToNat]
 refine n_val (r_indexAddrA Tryz.underlying148 cells_28 rfl rfl (by decide) (by decide) rfl) ?_
 simp only [ev,zD,zE,zF,zG]
 refine n_load rfl ((m.b 2 rfl).lies agg_28 cells_28 rfl rfl) ?_
 simp only [ev,zD,zE,zF,zG,zH,zI,zJ,zK,Nat.zero_add,Nat.reduceAdd,Nat.reduceMul,Int.reduceToNat]
 refine n_val (r_indexAddrA Tryz.underlying148 cells_28 rfl rfl (by decide) (by decide) rfl) ?_
 simp only [ev,zD,zE,zF,zG]
 refine n_load rfl ((m.b 2 rfl).lies agg_28 cells_28 rfl rfl) ?_
 simp only [ev,zD,zE,zF,zG,zH,zI,zJ,zK,Nat.zero_add,Nat.reduceAdd,Nat.reduceMul,Int.reduceToNat]
 refine n_call rfl rfl (quad_c (a := cubeC p 8 0) (b := cubeC p 8 1) (c := cubeC p 8 5) (d := cubeC p 8 4) _) ?_
 rintro v u e ⟨A3,cap3,_,rfl,rfl,hN⟩; replace m := m.newO e hN; clear e hN
 simp only [ev,zD,zE,zF,zG]
 refine mappend m 2 rfl rfl Tryz.underlying24 inf_59 rfl (by decide) rfl rfl (m.o 0 rfl).own.1 (m.o 0 rfl).row (tris_one _) (leT rfl) (leT rfl) ?_
 clear m; intro A1 cap1 u m; simp only [zF,zG] at m
 refine n_val (r_assign) (n_nil (k33 _ _ ?_))
 refine c_seq fun K34 k34 => wp_region_lit (n_val (r_move) (n_val (r_indexAddrA Tryz.underlying148 cells_28 rfl rfl (by decide) (by decide) rfl) ?_))
 simp only [ev,zD,zE,zF,zG]
 refine n_load rfl ((m.b 3 rfl).lies agg_28 cells_28 rfl rfl) ?_
 simp only [ev,zD,zE,zF,zG,zH,zI,zJ,zK,Nat.zero_add,Nat.reduceAdd,Nat.reduceMul,Int.reduceToNat]
 refine n_val (r_indexAddrA Tryz.underlying148 cells_28 rfl rfl (by decide) (by decide) rfl) ?_
 simp only [ev,zD,zE,zF,zG]
 refine n_load rfl ((m.b 3 rfl).lies agg_28 cells_28 rfl rfl) ?_
 simp only [ev,zD,zE,zF,zG,zH,zI,zJ,zK,Nat.zero_add,Nat.reduceAdd,Nat.reduceMul,Int.reduceToNat]
 refine n_val (r_indexAddrA Tryz.underlying148 cells_28 rfl rfl (by decide) (by decide) rfl) ?_
 simp only [ev,zD,zE,zF,zG]
 refine n_load rfl ((m.b 3 rfl).lies agg_28 cells_28 rfl rfl) ?_
 simp only [ev,zD,zE,zF,zG,zH,zI,zJ,zK,Nat.zero_add,Nat.reduceAdd,Nat.reduceMul,Int.reduceToNat]
 refine n_val (r_indexAddrA Tryz.underlying148 cells_28 rfl rfl (by decide) (by decide) rfl) ?_
 simp only [ev,zD,zE,zF,zG]
 refine n_load rfl ((m.b 3 rfl).lies agg_28 cells_28 rfl rfl) ?_
 simp only [ev,zD,zE,zF,zG,zH,zI,zJ,zK,Nat.zero_add,Nat.reduceAdd,Nat.reduceMul,Int.reduceToNat]
 refine n_call rfl rfl (quad_c (a := cubeC p 8 2) (b := cubeC p 8 6) (c := cubeC p 8 7) (d := cubeC p 8 3) _) ?_
 rintro v u e ⟨A4,cap4,_,rfl,rfl,hN⟩; replace m := m.newO e hN; clear e hN
 simp only [ev,zD,zE,zF,zG]
 refine mappend m 3 rfl rfl Tryz.underlying24 inf_59 rfl (by decide) rfl rfl (m.o 0 rfl).own.1 (m.o 0 rfl).row (tris_one _) (leT rfl) (leT rfl) ?_
 clear m; intro A1 cap1 u m; simp only [zF,zG] at m
 refine n_val (r_assign) (n_nil (k34 _ _ ?_))
 refine c_seq fun K35 k35 => wp_region_lit (n_val (r_move) (n_val (r_indexAddrA Tryz.underlying148 cells_28 rfl rfl (by decide) (by decide) rfl) ?_))
 simp only [ev,zD,zE,zF,zG]
 refine n_load rfl ((m.b 4 rfl).lies agg_28 cells_28 rfl rfl) ?_
 simp only [ev,zD,zE,zF,zG,zH,zI,zJ,zK,Nat.zero_add,Nat.reduceAdd,Nat.reduceMul,Int.reduceToNat]
 refine n_val (r_indexAddrA Tryz.underlying148 cells_28 rfl rfl (by decide) (by decide) rfl) ?_
 simp only [ev,zD,zE,zF,zG]
 refine n_load rfl ((m.b 4 rfl).lies agg_28 cells_28 rfl rfl) ?_
 simp only [ev,zD,zE,zF,zG,zH,zI,zJ,zK,Nat.zero_add,Nat.reduceAdd,Nat.reduceMul,Int.reduceToNat]
 refine n_val (r_indexAddrA Tryz.underlying148 cells_28 rfl rfl (by decide) (by decide) rfl) ?_
 simp only [ev,zD,zE,zF,zG]
 refine n_load rfl ((m.b 4 rfl).lies agg_28 cells_28 rfl rfl) ?_
 simp only [ev,zD,zE,zF,zG,zH,zI,zJ,zK,Nat.zero_add,Nat.reduceAdd,Nat.reduceMul,Int.reduceToNat]
 refine n_val (r_indexAddrA Tryz.underlying148 cells_28 rfl rfl (by decide) (by decide) rfl) ?_
 simp only [ev,zD,zE,zF,zG]
 refine n_load rfl ((m.b 4 rfl).lies agg_28 cells_28 rfl rfl) ?_
 simp only [ev,zD,zE,zF,zG,zH,zI,zJ,zK,Nat.zero_add,Nat.reduceAdd,Nat.reduceMul,Int.reduceToNat]
 refine n_call rfl rfl (quad_c (a := cubeC p 8 0) (b := cubeC p 8 4) (c := cubeC p 8 6) (d := cubeC p 8 2) _) ?_
 rintro v u e ⟨A5,cap5,_,rfl,rfl,hN⟩; replace m := m.newO e hN; clear e hN
 simp only [ev,zD,zE,zF,zG]
 refine mappend m 4 rfl rfl Tryz.underlying24 inf_59 rfl (by decide) rfl rfl (m.o 0 rfl).own.1 (m.o 0 rfl).row (tris_one _) (leT rfl) (leT rfl) ?_
 clear m; intro A1 cap1 u m; simp only [zF,zG] at m
 refine n_val (r_assign) (n_nil (k35 _ _ ?_))
 refine c_seq fun K36 k36 => wp_region_lit (n_val (r_move) (n_val (r_indexAddrA Tryz.underlying148 cells_28 rfl rfl (by decide) (by decide) rfl) ?_))
 simp only [ev,zD,zE,zF,zG]
 refine n_load rfl ((m.b 5 rfl).lies agg_28 cells_28 rfl rfl) ?_
 simp only [ev,zD,zE,zF,zG,zH,zI,zJ,zK,Nat.zero_add,Nat.reduceAdd,Nat.reduceMul,Int.reduceToNat]
 refine n_val (r_indexAddrA Tryz.underlying148 cells_28 rfl rfl (by decide) (by decide) rfl) ?_
 simp only [ev,zD,zE,zF,zG]
 refine n_load rfl ((m.b 5 rfl).lies agg_28 cells_28 rfl rfl) ?_
 simp only [ev,zD,zE,zF,zG,zH,zI,zJ,zK,Nat.zero_add,Nat.reduceAdd,Nat.reduceMul,Int.reduceToNat]
 refine n_val (r_indexAddrA Tryz.underlying148 cells_28 rfl rfl (by decide) (by decide) rfl) ?_
 simp only [ev,zD,zE,zF,zG]
 refine n_load rfl ((m.b 5 rfl).lies agg_28 cells_28 rfl rfl) ?_
 simp only [ev,zD,zE,zF,zG,zH,zI,zJ,zK,Nat.zero_add,Nat.reduceAdd,Nat.reduceMul,Int.reduceToNat]
 refine n_val (r_indexAddrA Tryz.underlying148 cells_28 rfl rfl (by decide) (by decide) rfl) ?_
 simp only [ev,zD,zE,zF,zG]
 refine n_load rfl ((m.b 5 rfl).lies agg_28 cells_28 rfl rfl) ?_
 simp only [ev,zD,zE,zF,zG,zH,zI,zJ,zK,Nat.zero_add,Nat.reduceAdd,Nat.reduceMul,Int.reduceToNat]
 refine n_call rfl rfl (quad_c (a := cubeC p 8 1) (b := cubeC p 8 3) (c := cubeC p 8 7) (d := cubeC p 8 5) _) ?_
 rintro v u e ⟨A6,cap6,_,rfl,rfl,hN⟩; replace m := m.newO e hN; clear e hN
 simp only [ev,zD,zE,zF,zG]
 refine mappend m 5 rfl rfl Tryz.underlying24 inf_59 rfl (by decide) rfl rfl (m.o 0 rfl).own.1 (m.o 0 rfl).row (tris_one _) (leT rfl) (leT rfl) ?_
 clear m; intro A1 cap1 u m; simp only [zF,zG] at m
 refine n_val (r_assign) (n_nil (k36 _ _ ?_))
 refine wp_ret ?_
 simp only [ev,zD,zE,zF,zG]
 try simp only [Exit.inBlock,Exit.then,if_true]
 refine fin1 rfl rfl ?_
 try simp only [zD,zE]
 exact ⟨_,rfl,m.ext,⟨_,_,_,rfl,rfl,((m.o 5 rfl)).as (by simp only [cubeT,List.flatMap_append])⟩⟩

set_option maxHeartbeats 2000000 in
theorem Voxels_c {b : Nat} (w : World) (hb : b < 134217728) : Does Tryz.prog 19 [.int .i64 (b : Int),.int .i64 8,.agg #[.int .i64 4,.int .i64 5,.int .i64 6]] w (TS 59 (voxT b) w) := by
 refine ⟨en_19,?_⟩
 have m := Mem.refl w
 have hb0 := hb
 go_enter Tryz.func19,Tryz.ntmps19
 refine c_seq fun K1 k1 => wp_region_lit (mboxA m rfl ?_)
 clear m; intro g1 u m
 refine n_val (r_assign) (n_nil (k1 _ _ ?_))
 refine c_seq fun K2 k2 => wp_region_lit (n_val (r_assign) ?_)
 replace m := m.nilO 59 9
 refine n_nil (k2 _ _ ?_)
 refine c_seq fun K3 k3 => c_seq fun K4 k4 => wp_region_lit (n_val (r_assign) ?_)
 simp only [ev,zD,zE,zF,zG]
 refine n_nil (k4 _ _ ?_)
 refine wp_block ?_
 try simp only [Nat.zero_add,Nat.reduceAdd,Nat.reduceMul,Int.reduceToNat]
 refine c_loopg [7,8] [9,10,11,12,13,14,15,16,17,18,19,20,21,22,23,24,25,26,27,28,29,30,31,32,33,34,35,36,37,38,39,40,41,42,43,44,45,46,47,48,49,50,51,52,53,54,55,56,57,58,59,60,61,62,63,64,65,66,67,68,69,70,71,72,73,74,75,76,77,78,79,80,81,82,83,84,85,86,87,88,89,90,91,92,93,94,95,96,97,98,99,100,101,102,103,104,105,106,107,108,109,110,111,112,113,114,115,116,117,118,119,120,121,122,123,124,125,126,127,128,129,130,131,132,133,134,135,136,137,138,139] (fun n vs wl => ∃ (A1 : Option Addr) (cap1 k : Nat),vs = [.slice A1 (voxPre b (k) (0)).length cap1,.int .i64 (k:Int)] ∧ Mem w wl [oI 59 9 A1 (voxPre b (k) (0)).length cap1 ((voxPre b (k) (0)).flatMap triCells),bI g1 [.int .i64 4,.int .i64 5,.int .i64 6] 28] ∧ (k ≤ 27) ∧ (n = 27 - k)) ?_ ?_
 ·
  apply Exists.intro
  simp only [zQ,zR,zD,zE]
  exact ⟨none,0,0,rfl,m,Nat.zero_le _,rfl⟩
 ·
  intro n vs wr hI u
  clear m
  obtain ⟨A1,cap1,k,rfl,m,hk,hn⟩ := hI
  simp only [setG_cons,setG_nil,setMany_cons,setMany_nil,zF,zG]
  refine c_seq fun K5 k5 => c_seq fun K6 k6 => wp_region_lit (n_val (r_move) (n_val (r_lss rfl rfl) (n_nil (k6 _ _ ?_))))
  simp only [ev,zD,zE,zF,zG]
  refine c_if rfl (fun hc1 => ?_) (fun hc1 => ?_)
  ·
   refine wp_skip (k5 _ _ ?_)
   refine c_seq fun K7 k7 => wp_block (c_seq fun K8 k8 => wp_region_lit (n_val (r_move) ?_))
   simp only [ev,zD,zE,zF,zG]
   refine n_val (r_rem rfl rfl (by omega) (tmodN (k := k) (c := 3))) (n_val (r_assign) (n_nil (k8 _ _ ?_)))
   refine c_seq fun K9 k9 => wp_region_lit (n_val (r_move) ?_)
   simp only [ev,zD,zE,zF,zG]
   refine n_val (r_quo rfl rfl (by omega) (quo_i64' (n := 3) (by omega))) ?_
   simp only [ev,zD,zE,zF,zG]
   refine n_val (r_rem rfl rfl (by omega) (tmodN (k := k / 3) (c := 3))) (n_val (r_assign) (n_nil (k9 _ _ ?_)))
   refine c_seq fun K10 k10 => wp_region_lit (n_val (r_move) ?_)
   simp only [ev,zD,zE,zF,zG]
   refine n_val (r_quo rfl rfl (by omega) (quo_i64' (n := 9) (by omega))) (n_val (r_assign) (n_nil (k10 _ _ ?_)))
   refine c_seq fun K11 k11 => c_seq fun K12 k12 => wp_region_lit (n_val (r_move) (n_val (r_move) ?_))
   simp only [ev,zD,zE,zF,zG]
   refine n_val (r_conv Tryz.underlying89 Tryz.underlying3 rfl (wrap_u64 (by omega) (by omega))) ?_
   simp only [ev,zD,zE,zF,zG]
   refine n_val (r_shr rfl rfl (by omega) (shrI (by omega) (by omega))) (n_val (r_and rfl rfl (and1 (div_le hb))) (n_val (r_eql rfl rfl) (n_nil (k12 _ _ ?_))))
   simp only [ev,zD,zE,zF,zG]
   refine c_if rfl (fun hc2 => ?_) (fun hc2 => ?_)
   ·
    have hv : vbit b k = false := by unfold vbit; exact decide_eq_false (by have := hc2; simp only [Int.toNat_natCast] at this; omega)
    rw [voxPre_no hv] at m ⊢
    refine wp_exit (k7 _ _ ?_)
    refine wp_region_lit (n_val (r_move) ?_)
    simp only [ev,zD,zE,zF,zG]
    refine n_val (r_add rfl rfl (wrap_i64 (by omega) (by omega))) (n_val (r_assign) (n_nil ?_))
    simp only [ev,zD,zE,zF,zG]
    simp only [Exit.inBlock,Exit.then]
    refine ⟨27 - (k + 1),_,?_,rfl,?_,?_⟩
    · omega
    · simp only [zQ,zR,zD,zE,setG_cons,setG_nil,setMany_cons,setMany_nil,zF,zG]
    ·
     simp only [zQ,zR,zD,zE]
     exact ⟨_,_,k + 1,rfl,m,by omega,rfl⟩
   ·
    have hv : vbit b k = true := by unfold vbit; exact decide_eq_true (by have := hc2; simp only [Int.toNat_natCast] at this; omega)
    refine wp_skip (k11 _ _ ?_)
    refine c_seq fun K13 k13 => wp_region_lit (n_val (r_fieldAddr (c := 0) Tryz.underlying28 rfl cells_3 rfl rfl) ?_)
    simp only [ev,zD,zE,zF,zG]
    refine n_load rfl ((m.b 1 rfl).lies1 agg_3 rfl) ?_
    simp only [ev,zD,zE,zF,zG]
    refine n_val (r_move) (n_val (r_move) ?_)
    simp only [ev,zD,zE,zF,zG]
    refine n_val (r_mul rfl rfl (wrap_i64 (by omega) (by omega))) ?_
    simp only [ev,zD,zE,zF,zG]
    refine n_val (r_add rfl rfl (wrap_i64 (by omega) (by omega))) (n_val (r_fieldAddr (c := 0) Tryz.underlying28 rfl cells_3 rfl rfl) ?_)
    simp only [ev,zD,zE,zF,zG]
    refine n_load rfl ((m.b 1 rfl).lies1 agg_3 rfl) ?_
    simp only [ev,zD,zE,zF,zG]
    refine n_val (r_move) (n_val (r_move) ?_)
    simp only [ev,zD,zE,zF,zG]
    refine n_val (r_mul rfl rfl (wrap_i64 (by omega) (by omega))) ?_
    simp only [ev,zD,zE,zF,zG]
    refine n_val (r_add rfl rfl (wrap_i64 (by omega) (by omega))) (n_val (r_fieldAddr (c := 0) Tryz.underlying28 rfl cells_3 rfl rfl) ?_)
    simp only [ev,zD,zE,zF,zG]
    refine n_load rfl ((m.b 1 rfl).lies1 agg_3 rfl) ?_
    simp only [ev,zD,zE,zF,zG]
    refine n_val (r_move) (n_val (r_move) ?_)
    simp only [ev,zD,zE,zF,zG]
    refine n_val (r_mul rfl rfl (wrap_i64 (by omega) (by omega))) ?_
    simp only [ev,zD,zE,zF,zG]
    refine n_val (r_add rfl rfl (wrap_i64 (by omega) (by omega))) (n_val (r_build_28_0_1_2 rfl rfl rfl) ?_)
    simp only [ev,zD,zE,zF,zG]
    refine malloc m zero_28 rfl ?_
    clear m; intro g2 u m
    simp only [ev,zD,zE,zF,zG]
    refine mstoreA m 0 rfl rfl rfl cells_28 (leT rfl) rfl ?_
    clear m; intro u m; simp only [over,zH,zI,zJ,zK,zL,zM,zN,zO,zP,zF,zG,Nat.reduceAdd] at m
    refine n_nil (k13 _ _ ?_)
    refine c_seq fun K14 k14 => wp_region_lit (n_load rfl ((m.b 0 rfl).full agg_28 cells_28) ?_)
    simp only [ev,zD,zE,zF,zG]
    refine n_val (r_move) ?_
    simp only [ev,zD,zE,zF,zG]
    refine n_call rfl rfl (cube_c (p := vP k) _ (vP_sm (by omega))) ?_
    rintro v u e ⟨A2,cap2,_,rfl,rfl,hN⟩; replace m := m.newO e hN; clear e hN
    obtain ⟨gc,rfl⟩ := (m.o 0 rfl).some (by rw [cubeT_length]; decide)
    rw [cubeT_length] at m ⊢
    refine n_val (r_assign) (n_nil (k14 _ _ ?_))
    refine c_seq fun K15 k15 => wp_region_lit (n_val (r_build_23_0_1_2 rfl rfl rfl) (n_val (r_build_23_0_1_2 rfl rfl rfl) ?_))
    simp only [ev,zD,zE,zF,zG]
    refine n_val (r_build_23_0_1_2 rfl rfl rfl) (n_val (r_build_23_0_1_2 rfl rfl rfl) (n_val (r_build_23_0_1_2 rfl rfl rfl) (n_val (r_build_23_0_1_2 rfl rfl rfl) ?_)))
    simp only [ev,zD,zE,zF,zG]
    refine n_val (r_build_91_0_1_2_3_4_5 rfl rfl rfl rfl rfl rfl) ?_
    simp only [ev,zD,zE,zF,zG]
    refine malloc m zero_91 rfl ?_
    clear m; intro g3 u m
    simp only [ev,zD,zE,zF,zG]
    refine mstoreA m 0 rfl rfl rfl cells_91 (leT rfl) rfl ?_
    clear m; intro u m; simp only [over,zH,zI,zJ,zK,zL,zM,zN,zO,zP,zF,zG,Nat.reduceAdd] at m
    refine n_nil (k15 _ _ ?_)
    refine c_seq fun K16 k16 => wp_region_lit (n_val (r_assign) (n_nil (k16 _ _ ?_)))
    refine wp_block ?_
    simp only [ev,zD,zE,zF,zG]
    try simp only [Nat.zero_add,Nat.reduceAdd,Nat.reduceMul,Int.reduceToNat]
    refine c_loopg [7,15] [16,17,18,19,66,67,68,69,70,71,72,73,74,75,76,77,78,79,80,81,82,83,84,85,86,87,88,89,90,91,92,93,94,95,96,97,98,99,100,101,102,103,104,105,106,107,108,109,110,111,112,113,114,115,116,117,118,119,120,121,122,123,124,125,126,127,128,129,130,131,132,133,134,135,136,137,138,139] (fun n vs wl => ∃ (A1 : Option Addr) (cap1 f : Nat),vs = [.slice A1 (voxPre b (k) (f)).length cap1,.int .i64 (f:Int)] ∧ Mem w wl [bI g3 stepCells 91,oI 59 9 (some ⟨gc,0,none⟩) 12 cap2 ((cubeT (vP k) 8).flatMap triCells),oI 59 9 A1 (voxPre b (k) (f)).length cap1 ((voxPre b (k) (f)).flatMap triCells),bI g1 [.int .i64 4,.int .i64 5,.int .i64 6] 28] ∧ (f ≤ 6) ∧ (n = 6 - f)) ?_ ?_
    ·
     apply Exists.intro
     simp only [zQ,zR,zD,zE]
     exact ⟨_,_,0,rfl,(m.sel [true,true,false,true,true]),Nat.zero_le _,rfl⟩
    ·
     intro n vs wr hI u
     clear m
     obtain ⟨A1,cap1,f,rfl,m,hf6,hn2⟩ := hI
     simp only [setG_cons,setG_nil,setMany_cons,setMany_nil,zF,zG]
     refine c_seq fun K17 k17 => c_seq fun K18 k18 => wp_region_lit (n_val (r_move) (n_val (r_lss rfl rfl) (n_nil (k18 _ _ ?_))))
     simp only [ev,zD,zE,zF,zG]
     refine c_if rfl (fun hc3 => ?_) (fun hc3 => ?_)
     ·
      have hf : f < 6 := by omega
      have hs := st_bd f
      obtain ⟨t,u0,ht,hu,hpr⟩ := vox_at (n := k) hf
      refine wp_skip (k17 _ _ ?_)
      refine c_seq fun K19 k19 => wp_block (c_seq fun K20 k20 => wp_region_lit (n_val (r_move) (n_val (r_move) ?_)))
      simp only [ev,zD,zE,zF,zG]
      refine n_val (r_indexAddrA Tryz.underlying91 cells_23 rfl rfl (by omega) (by omega) (addrBN (Int.toNat_natCast _))) (n_val (r_indexAddrA Tryz.underlying23 cells_3 rfl rfl (by decide) (by decide) rfl) ?_)
      simp only [ev,zD,zE,zF,zG]
      refine n_load rfl ((m.b 0 rfl).lies1 (i := f * 3) agg_3 (stc_x hf)) ?_
      simp only [ev,zD,zE,zF,zG]
      refine n_val (r_add rfl rfl (wrap_i64 (by omega) (by omega))) (n_val (r_assign) (n_nil (k20 _ _ ?_)))
      refine c_seq fun K21 k21 => wp_region_lit (n_val (r_move) (n_val (r_move) ?_))
      simp only [ev,zD,zE,zF,zG]
      refine n_val (r_indexAddrA Tryz.underlying91 cells_23 rfl rfl (by omega) (by omega) (addrBN (Int.toNat_natCast _))) (n_val (r_indexAddrA Tryz.underlying23 cells_3 rfl rfl (by decide) (by decide) rfl) ?_)
      simp only [ev,zD,zE,zF,zG]
      refine n_load rfl ((m.b 0 rfl).lies1 (i := f * 3 + 1) agg_3 (stc_y hf)) ?_
      simp only [ev,zD,zE,zF,zG]
      refine n_val (r_add rfl rfl (wrap_i64 (by omega) (by omega))) (n_val (r_assign) (n_nil (k21 _ _ ?_)))
      refine c_seq fun K22 k22 => wp_region_lit (n_val (r_move) (n_val (r_move) ?_))
      simp only [ev,zD,zE,zF,zG]
      refine n_val (r_indexAddrA Tryz.underlying91 cells_23 rfl rfl (by omega) (by omega) (addrBN (Int.toNat_natCast _))) (n_val (r_indexAddrA Tryz.underlying23 cells_3 rfl rfl (by decide) (by decide) rfl) ?_)
      simp only [ev,zD,zE,zF,zG]
      refine n_load rfl ((m.b 0 rfl).lies1 (i := f * 3 + 2) agg_3 (stc_z hf)) ?_
      simp only [ev,zD,zE,zF,zG]
      refine n_val (r_add rfl rfl (wrap_i64 (by omega) (by omega))) (n_val (r_assign) (n_nil (k22 _ _ ?_)))
      refine c_seq fun K23 k23 => wp_region_lit (n_val (r_move) (n_val (r_geq rfl rfl) ?_))
      simp only [ev,zD,zE,zF,zG]
      refine n_val (r_move) (n_mayT rfl (fun hb => r_move) (n_mayT rfl (fun hb => r_lss (mayE hb rfl) rfl) (n_val (r_pickAnd rfl rfl rfl) ?_)))
      simp only [ev,zD,zE,zF,zG]
      refine n_val (r_move) (n_mayT rfl (fun hb => r_move) (n_mayT rfl (fun hb => r_geq (mayE hb rfl) rfl) (n_val (r_pickAnd rfl rfl rfl) ?_)))
      simp only [ev,zD,zE,zF,zG]
      refine n_val (r_move) (n_mayT rfl (fun hb => r_move) (n_mayT rfl (fun hb => r_lss (mayE hb rfl) rfl) (n_val (r_pickAnd rfl rfl rfl) ?_)))
      simp only [ev,zD,zE,zF,zG]
      refine n_val (r_move) (n_mayT rfl (fun hb => r_move) (n_mayT rfl (fun hb => r_geq (mayE hb rfl) rfl) (n_val (r_pickAnd rfl rfl rfl) ?_)))
      simp only [ev,zD,zE,zF,zG]
      refine n_val (r_move) (n_mayT rfl (fun hb => r_move) (n_mayT rfl (fun hb => r_lss (mayE hb rfl) rfl) (n_val (r_pickAnd rfl rfl rfl) ?_)))
      simp only [ev,zD,zE,zF,zG]
      refine n_val (r_assign) (n_nil (k23 _ _ ?_))
      refine c_seq fun K24 k24 => wp_region_lit (n_val (r_move) (n_val (r_not rfl) (n_val (r_move) ?_)))
      simp only [ev,zD,zE,zF,zG]
      refine n_mayF rfl (fun hb => r_move) (n_mayF rfl (fun hb => r_move) ?_)
      simp only [ev,zD,zE,zF,zG]
      refine n_mayF rfl (fun hb => r_mul (mayE hb rfl) rfl (wrap_i64 (by omega) (by omega))) (n_mayF rfl (fun hb => r_move) ?_)
      simp only [ev,zD,zE,zF,zG]
      refine n_mayF rfl (fun hb => r_add (mayE hb rfl) (mayE hb rfl) (wrap_i64 (by omega) (by omega))) ?_
      simp only [ev,zD,zE,zF,zG]
      refine n_mayF rfl (fun hb => r_mul (mayE hb rfl) rfl (wrap_i64 (by omega) (by omega))) (n_mayF rfl (fun hb => r_move) ?_)
      simp only [ev,zD,zE,zF,zG]
      refine n_mayF rfl (fun hb => r_add (mayE hb rfl) (mayE hb rfl) (wrap_i64 (by omega) (by omega))) (n_mayF rfl (fun hb => r_conv Tryz.underlying89 Tryz.underlying3 (mayE hb rfl) (wrap_u64 (by have h := vin hb; omega) (by have h := vin hb; omega))) ?_)
      simp only [ev,zD,zE,zF,zG]
      refine n_mayF rfl (fun hb => r_shr (mayE hb rfl) (mayE hb rfl) (by have h := vin hb; omega) (shrI (by have h := vin hb; omega) (by have h := vin hb; omega))) (n_mayF rfl (fun hb => r_and (mayE hb rfl) rfl (and1 (div_le hb0))) (n_mayF rfl (fun hb => r_eql (mayE hb rfl) rfl) (n_val (r_pickOr rfl rfl rfl) ?_)))
      simp only [ev,zD,zE,zF,zG]
      refine n_nil (k24 _ _ ?_)
      refine c_cond rfl (fun hc4 => ?_) (fun hc4 => ?_)
      ·
       have hvf := (vface_eq (b := b) (n := k) (f := f)).symm.trans hc4
       refine mh m [true,true,false,true] [(0,true),(1,true),(2,true),(3,true),(4,true),(6,true),(7,true),(8,true),(9,true),(10,true),(5,true),(11,true),(12,false),(13,false),(14,true)] follows_mixed (by kernel_rfl) (panic_put (fun _ _ _ _ _ h => h)) (ol := ?_) ?hol ?_
       case hol => simp only [zQ,zR,zS,zT,zU,zV]; try rfl
       clear m; intro u m
       refine h_val (r_move) (h_val (r_move) (h_val (r_move) ?_))
       simp only [ev,zD,zE,zF,zG]
       refine h_val (r_mul rfl rfl (wrap_i64 (by omega) (by omega))) ?_
       simp only [ev,zD,zE,zF,zG]
       refine h_val (r_indexAddrS Tryz.underlying24 cells_59 rfl rfl (by omega) (by omega) (addrN (show _ = 2 * f by omega))) (h_val (r_move) (h_val (r_move) ?_))
       simp only [ev,zD,zE,zF,zG]
       refine h_val (r_mul rfl rfl (wrap_i64 (by omega) (by omega))) ?_
       simp only [ev,zD,zE,zF,zG]
       refine h_val (r_add rfl rfl (wrap_i64 (by omega) (by omega))) ?_
       simp only [ev,zD,zE,zF,zG]
       refine h_val (r_indexAddrS Tryz.underlying24 cells_59 rfl rfl (by omega) (by omega) (addrN (show _ = 2 * f + 1 by omega))) ?_
       simp only [ev,zD,zE,zF,zG]
       refine h_load rfl (fun u m => (((m.o 1 rfl).tri ht).lies agg_59 cells_59)) ?_
       simp only [ev,zD,zE,zF,zG]
       refine h_load rfl (fun u m => (((m.o 1 rfl).tri hu).lies agg_59 cells_59)) ?_
       simp only [ev,zD,zE,zF,zG]
       refine h_step (n_bs_24_2 rfl rfl ?_)
       intro u g4 e hg hB; replace m := m.newB e hg hB; clear e hg hB
       refine n_nil ?_
       refine ⟨m.sel [false,true,true,false,true],?_⟩
       refine h_step ?_
       simp only [ev,zD,zE,zF,zG]
       refine mappend m 3 rfl rfl Tryz.underlying24 inf_59 rfl (by decide) rfl rfl rfl (m.b 0 rfl).rowsO (allT rfl) (by have := voxPre_le (b := b) (n := k) (f := f) (by omega) (by omega); omega) (by have := voxPre_le (b := b) (n := k) (f := f) (by omega) (by omega); omega) ?_
       clear m; intro A1 cap1 u m; simp only [zF,zG] at m
       rw [vox_cells hpr hvf,vox_len hf hvf] at m
       rw [vox_len hf hvf]
       refine n_nil ?_
       refine ⟨m.sel [false,true,true,false,true],?_⟩
       refine h_val (r_assign) (h_nil (k19 _ _ ?_))
       refine wp_region_lit (n_val (r_move) ?_)
       simp only [ev,zD,zE,zF,zG]
       refine n_val (r_add rfl rfl (wrap_i64 (by omega) (by omega))) (n_val (r_assign) (n_nil ?_))
       simp only [ev,zD,zE,zF,zG]
       simp only [Exit.inBlock,Exit.then]
       refine ⟨6 - (f + 1),_,?_,rfl,?_,?_⟩
       · omega
       · simp only [zQ,zR,zD,zE,setG_cons,setG_nil,setMany_cons,setMany_nil,zF,zG]
       ·
        simp only [zQ,zR,zD,zE]
        exact ⟨_,_,f + 1,rfl,(m.sel [false,true,true,true,true]),by omega,rfl⟩
      ·
       have hvf := (vface_eq (b := b) (n := k) (f := f)).symm.trans hc4
       rw [← voxPre_out hvf] at m ⊢
       refine wp_skip (k19 _ _ ?_)
       refine wp_region_lit (n_val (r_move) ?_)
       simp only [ev,zD,zE,zF,zG]
       refine n_val (r_add rfl rfl (wrap_i64 (by omega) (by omega))) (n_val (r_assign) (n_nil ?_))
       simp only [ev,zD,zE,zF,zG]
       simp only [Exit.inBlock,Exit.then]
       refine ⟨6 - (f + 1),_,?_,rfl,?_,?_⟩
       · omega
       · simp only [zQ,zR,zD,zE,setG_cons,setG_nil,setMany_cons,setMany_nil,zF,zG]
       ·
        simp only [zQ,zR,zD,zE]
        exact ⟨_,_,f + 1,rfl,m,by omega,rfl⟩
     ·
      have hfq : f = 6 := by omega
      rw [hfq,voxPre_yes hv] at m ⊢
      refine wp_exit (k7 _ _ ?_)
      refine wp_region_lit (n_val (r_move) ?_)
      simp only [ev,zD,zE,zF,zG]
      refine n_val (r_add rfl rfl (wrap_i64 (by omega) (by omega))) (n_val (r_assign) (n_nil ?_))
      simp only [ev,zD,zE,zF,zG]
      simp only [Exit.inBlock,Exit.then]
      refine ⟨27 - (k + 1),_,?_,rfl,?_,?_⟩
      · omega
      · simp only [zQ,zR,zD,zE,setG_cons,setG_nil,setMany_cons,setMany_nil,zF,zG]
      ·
       simp only [zQ,zR,zD,zE]
       exact ⟨_,_,k + 1,rfl,(m.sel [false,false,true,true]),by omega,rfl⟩
  ·
   have hkq : k = 27 := by omega
   rw [hkq,voxPre_end] at m ⊢
   refine wp_exit (k3 _ _ ?_)
   refine c_seq fun K25 k25 => wp_region_lit (n_val (r_move) (n_val (r_assign) (n_nil (k25 _ _ ?_))))
   refine wp_ret ?_
   simp only [ev,zD,zE,zF,zG]
   try simp only [Exit.inBlock,Exit.then,if_true]
   refine fin1 rfl rfl ?_
   try simp only [zD,zE]
   exact ⟨_,rfl,m.ext,⟨_,_,_,rfl,rfl,(m.o 0 rfl)⟩⟩

set_option maxHeartbeats 400000 in
theorem Base_c {kind bits : Int} [Iw kind] [Iw bits] {N cap : Nat} {A : Option Addr} {zs : List Int} (w : World) (hZ : IntsAt w A N zs) : Does Tryz.prog 41 [.int .i64 kind,.int .i64 bits,.slice A N cap] w (TS 59 (baseT kind bits zs) w) := by
 refine ⟨en_41,?_⟩
 have m := Mem.refl w
 have hbb := emod_bd (n := bits) (m := 134217728) (by decide)
 haveI : Iw (kind.tdiv 3) := ⟨(tdiv3_bd (Iw.h (n := kind))).2⟩
 go_enter Tryz.func41,Tryz.ntmps41
 refine c_seq fun K1 k1 => wp_region_lit (n_val (r_assign) (n_nil (k1 _ _ ?_)))
 refine c_seq fun K2 k2 => c_seq fun K3 k3 => wp_region_lit (n_val (r_move) ?_)
 simp only [ev,zD,zE,zF,zG]
 refine mcallP m rfl rfl (r1Mod_c (n := kind) (k := 3) (by decide) (by decide)) ?_
 clear m; intro u m
 refine n_val (r_eql rfl rfl) (n_nil (k3 _ _ ?_))
 simp only [ev,zD,zE,zF,zG]
 refine c_if rfl (fun hc1 => ?_) (fun hc1 => ?_)
 ·
  refine c_seq fun K4 k4 => wp_region_lit (n_val (r_move) ?_)
  simp only [ev,zD,zE,zF,zG]
  refine mcallP m rfl rfl (r1Mod_c (n := bits) (k := 134217728) (by decide) (by decide)) ?_
  clear m; intro u m
  refine n_val (r_build_28_0_1_2 rfl rfl rfl) ?_
  simp only [ev,zD,zE,zF,zG]
  rw [show bits % 134217728 = (((bits % 134217728).toNat : Nat) : Int) by omega]
  refine n_call rfl rfl (Voxels_c (b := (bits % 134217728).toNat) _ (by omega)) ?_
  rintro v u e ⟨A1,cap1,_,rfl,rfl,hN⟩; replace m := m.newO e hN; clear e hN
  refine n_val (r_assign) (n_nil (k4 _ _ ?_))
  refine wp_ret ?_
  simp only [ev,zD,zE,zF,zG]
  try simp only [Exit.inBlock,Exit.then,if_true]
  refine fin1 rfl rfl ?_
  try simp only [zD,zE]
  exact ⟨_,rfl,m.ext,by rw [baseT,if_pos hc1]; exact ⟨_,_,_,rfl,rfl,(m.o 0 rfl)⟩⟩
 ·
  refine wp_skip (k2 _ _ ?_)
  refine c_seq fun K5 k5 => wp_region_lit (n_val (r_move) ?_)
  simp only [ev,zD,zE,zF,zG]
  refine n_val (r_quo rfl rfl (by omega) (tdiv3_bd (Iw.h (n := kind))).1) (n_val (r_move) ?_)
  simp only [ev,zD,zE,zF,zG]
  refine n_call rfl rfl (Hills_c (n0 := kind.tdiv 3) _ (hZ.ext m.ext)) ?_
  rintro v u e ⟨A1,cap1,_,rfl,rfl,hN⟩; replace m := m.newO e hN; clear e hN
  refine n_val (r_assign) (n_nil (k5 _ _ ?_))
  refine wp_ret ?_
  simp only [ev,zD,zE,zF,zG]
  try simp only [Exit.inBlock,Exit.then,if_true]
  refine fin1 rfl rfl ?_
  try simp only [zD,zE]
  exact ⟨_,rfl,m.ext,by rw [baseT,if_neg hc1]; exact ⟨_,_,_,rfl,rfl,(m.o 0 rfl)⟩⟩

end Go.Proofs.YtmcgcnpgkkfkoaaGreatDoor
namespace Go.Proofs.YtmcgcnpgkkfkoaaGreatDoor
open Go.RowKit Go.Lith
set_option maxRecDepth 100000
attribute [local irreducible] wpList wpQuiet wpMix wpMixH wpTree Code.wp
theorem take_min {α : Type} (l : List α) (k : Nat) : l.take (min l.length k) = l.take k := by
 rcases Nat.le_total l.length k with h | h
 · rw [Nat.min_eq_left h,List.take_length,List.take_of_length_le h]
 · rw [Nat.min_eq_right h]
set_option maxHeartbeats 1000000 in
theorem list_c {kind bits q0 q1 q2 : Int} [Iw kind] [Iw bits] [Iw q0] [Iw q1] [Iw q2] {HA MA : Option Addr} {HN Hc MN Mc : Nat} {zs : List Int} {ms : List T3} (w : World) (hZ : IntsAt w HA HN zs) (hM : TrisAt w MA MN ms) (hMc : MN ≤ Mc) : Does Tryz.prog 11 [.agg #[.int .i64 kind,.int .i64 bits,.slice HA HN Hc,.int .i64 q0,.int .i64 q1,.int .i64 q2,.slice MA MN Mc]] w (fun v w' => ∃ bs,TS 59 (bs ++ ms.take 6) w v w' ∧ bs.length ≤ 40 ∧ (∀ t ∈ bs,SmT 200 t)) := by
 refine ⟨en_11,?_⟩
 have m := Mem.refl w
 obtain rfl : ms.length = MN := hM.len
 go_enter Tryz.func11,Tryz.ntmps11
 refine c_seq fun K1 k1 => wp_region_lit (mboxA m rfl ?_)
 clear m; intro g1 u m
 refine n_val (r_assign) (n_nil (k1 _ _ ?_))
 refine c_seq fun K2 k2 => ?_
 simp only [ev,zD,zE,zF,zG]
 refine mh m [true] [(0,true),(2,true),(4,true),(7,true),(1,true),(3,true),(5,true),(8,true),(6,false),(9,false),(10,true)] follows_mixed (by kernel_rfl) (panic_put (fun _ _ _ _ _ h => h)) (ol := ?_) ?hol ?_
 case hol => simp only [zQ,zR,zS,zT,zU,zV]; try rfl
 clear m; intro u m
 refine h_val (r_fieldAddr (c := 0) Tryz.underlying26 rfl cells_3 rfl rfl) (h_val (r_fieldAddr (c := 0) Tryz.underlying26 rfl cells_3 rfl rfl) (h_val (r_fieldAddr (c := 0) Tryz.underlying26 rfl cells_22 rfl rfl) (h_val (r_fieldAddr (c := 2) Tryz.underlying26 rfl cells_23 rfl rfl) ?_)))
 simp only [ev,zD,zE,zF,zG]
 refine h_load rfl (fun u m => ((m.b 0 rfl).lies1 agg_3 rfl)) ?_
 simp only [ev,zD,zE,zF,zG]
 refine h_load rfl (fun u m => ((m.b 0 rfl).lies1 agg_3 rfl)) ?_
 simp only [ev,zD,zE,zF,zG]
 refine h_load rfl (fun u m => ((m.b 0 rfl).lies1 agg_22 rfl)) ?_
 simp only [ev,zD,zE,zF,zG]
 refine h_load rfl (fun u m => ((m.b 0 rfl).lies agg_23 cells_23 rfl rfl)) ?_
 simp only [ev,zD,zE,zF,zG,zH,zI,zJ,zK,Nat.zero_add,Nat.reduceAdd,Nat.reduceMul,Int.reduceToNat]
 refine h_step (n_call rfl rfl (Base_c (kind := kind) (bits := bits) _ (hZ.ext m.ext)) ?_)
 rintro v u e ⟨A1,cap1,_,rfl,rfl,hN⟩; replace m := m.newO e hN; clear e hN
 refine n_nil ?_
 refine ⟨m.sel [false,true],?_⟩
 refine h_step ?_
 simp only [ev,zD,zE,zF,zG]
 refine n_call rfl rfl (Spoiled_c (q0 := q0) (q1 := q1) (q2 := q2) _ ((m.o 0 rfl).tris (fun t ht => (baseT_sm t ht).it (by decide))) (Nat.le_trans baseT_le (by decide))) ?_
 rintro v u e ⟨us,⟨A2,cap2,_,rfl,rfl,hN⟩,hsub,hle⟩; replace m := m.newO e hN; clear e hN
 refine n_nil ?_
 refine ⟨m.sel [false,false,true],?_⟩
 refine h_val (r_assign) (h_nil (k2 _ _ ?_))
 refine c_seq fun K3 k3 => ?_
 simp only [ev,zD,zE,zF,zG]
 have hle2 := (m.o 0 rfl).le
 refine mq_tail m 12 follows_mixed (by kernel_rfl) ?_
 simp only [zH,zI,zJ,zK]
 refine q_val (r_move) (q_val (r_move) (q_val (r_lenS rfl Tryz.underlying24 rfl) (q_val (r_min rfl rfl (min_law (a := us.length) (b := 40))) ?_)))
 simp only [ev,zD,zE,zF,zG]
 refine q_val (r_sliceHi Tryz.underlying24 cells_59 rfl rfl (Int.toNat_natCast _) (by omega) (by omega)) (q_val (r_fieldAddr (c := 0) Tryz.underlying26 rfl cells_24 rfl rfl) ?_)
 simp only [ev,zD,zE,zF,zG]
 refine ql rfl (fun u m => ((m.b 2 rfl).lies1 agg_24 rfl)) ?_
 simp only [ev,zD,zE,zF,zG]
 refine q_val (r_fieldAddr (c := 0) Tryz.underlying26 rfl cells_24 rfl rfl) ?_
 simp only [ev,zD,zE,zF,zG]
 refine ql rfl (fun u m => ((m.b 2 rfl).lies1 agg_24 rfl)) ?_
 simp only [ev,zD,zE,zF,zG]
 refine q_val (r_lenS rfl Tryz.underlying24 rfl) (q_val (r_min rfl rfl (min_law (a := ms.length) (b := 6))) ?_)
 simp only [ev,zD,zE,zF,zG]
 refine q_val (r_sliceHi Tryz.underlying24 cells_59 rfl rfl (Int.toNat_natCast _) (by omega) (by omega)) (q_nil ?_)
 clear m; intro u m
 simp only [ev,zD,zE,zF,zG]
 replace m := m.reO 0 rfl ((m.o 0 rfl).takeT (Nat.min_le_left us.length 40)); simp only [zF,zG] at m
 refine mappend m 0 rfl rfl Tryz.underlying24 inf_59 rfl (by decide) rfl rfl (by rw [tri_len,(hM.take (Nat.min_le_left _ _)).len]) (TrisAt.cells ((hM.take (Nat.min_le_left _ 6)).ext m.ext)) (tris_one _) (by omega) (by omega) ?_
 clear m; intro A2 cap2 u m; simp only [zF,zG] at m
 refine n_val (r_assign) (n_nil (k3 _ _ ?_))
 refine wp_ret ?_
 simp only [ev,zD,zE,zF,zG]
 try simp only [Exit.inBlock,Exit.then,if_true]
 refine fin1 rfl rfl ?_
 try simp only [zD,zE]
 exact ⟨_,rfl,m.ext,us.take (min us.length 40),⟨_,_,_,by simp only [List.length_append,List.length_take]; omega,rfl,(m.o 0 rfl).as (by rw [← List.flatMap_append,take_min ms 6])⟩,by rw [List.length_take]; omega,fun t ht => hsub.sm baseT_sm t (List.mem_of_mem_take ht)⟩

end Go.Proofs.YtmcgcnpgkkfkoaaGreatDoor
namespace Go.Lith
open Go.RowKit
theorem sumT_cons {f : T3 → Int} {t : T3} {ts : List T3} : sumT f (t :: ts) = f t + sumT f ts := by simp [sumT]
theorem low_high : ∀ (ts : List T3),sumT lowA ts ≤ sumT highA ts
  | [] => Int.le_refl _
  | t :: ts => by
    have h := low_high ts
    rw [sumT_cons,sumT_cons,highA]
    split <;> omega
theorem high_low : ∀ (ts : List T3),sumT highA ts ≤ sumT lowA ts + (ts.length : Int)
  | [] => Int.le_refl _
  | t :: ts => by
    have h := high_low ts
    rw [sumT_cons,sumT_cons,highA,List.length_cons]
    split <;> omega
theorem isign_sub_le {a b : Int} (h : a ≤ b) : isign (a - b) ≤ 0 := isign_le.2 (by omega)
end Go.Lith
namespace Go.Proofs.YtmcgcnpgkkfkoaaGreatDoor
open Go.RowKit Go.Lith
set_option maxRecDepth 100000
attribute [local irreducible] wpList wpQuiet wpMix wpMixH wpTree Code.wp
theorem list_it {bs ms : List T3} (hb : ∀ t ∈ bs,SmT 200 t) (hm : ∀ t ∈ ms,IT t) (hl : bs.length ≤ 40) : ∃ L,bs ++ ms.take 6 = L ∧ (∀ t ∈ L,IT t) ∧ L.length ≤ 46 :=
 ⟨_,rfl,fun t ht => (List.mem_append.1 ht).elim (fun h => (hb t h).it (by decide)) (fun h => hm t (List.mem_of_mem_take h)),by rw [List.length_append,List.length_take]; omega⟩
set_option maxHeartbeats 1000000 in
theorem MeasureAreas_c {kind bits q0 q1 q2 : Int} [Iw kind] [Iw bits] [Iw q0] [Iw q1] [Iw q2] {HA MA : Option Addr} {HN Hc MN Mc : Nat} {zs : List Int} {ms : List T3} (w : World) (hZ : IntsAt w HA HN zs) (hM : TrisAt w MA MN ms) (hMc : MN ≤ Mc) : Does Tryz.prog 4 [.agg #[.int .i64 kind,.int .i64 bits,.slice HA HN Hc,.int .i64 q0,.int .i64 q1,.int .i64 q2,.slice MA MN Mc]] w (fun v _ => v = .bool true) := by
 refine ⟨en_4,?_⟩
 have m := Mem.refl w
 go_enter Tryz.func4,Tryz.ntmps4
 refine c_seq fun K1 k1 => wp_region_lit (mboxA m rfl ?_)
 clear m; intro g1 u m
 refine n_val (r_assign) (n_nil (k1 _ _ ?_))
 refine c_seq fun K2 k2 => wp_region_lit ?_
 simp only [ev,zD,zE,zF,zG]
 refine mcallP m rfl rfl (sanity_c) ?_
 clear m; intro u m
 refine n_val (r_assign) (n_nil (k2 _ _ ?_))
 refine c_seq fun K3 k3 => wp_region_lit ?_
 simp only [ev,zD,zE,zF,zG]
 refine n_load rfl ((m.b 0 rfl).full agg_26 cells_26) ?_
 simp only [ev,zD,zE,zF,zG]
 refine n_call rfl rfl (list_c (kind := kind) (bits := bits) (q0 := q0) (q1 := q1) (q2 := q2) _ (hZ.ext m.ext) (hM.ext m.ext) hMc) ?_
 rintro v u e ⟨bs,⟨A1,cap1,_,rfl,rfl,hN⟩,hbl,hbs⟩; replace m := m.newO e hN; clear e hN
 obtain ⟨L,hL,hI,hl⟩ := list_it hbs (ms := ms) hM.it hbl
 rw [hL] at m ⊢
 clear hL hbs hbl
 refine n_val (r_assign) (n_nil (k3 _ _ ?_))
 refine c_seq fun K4 k4 => ?_
 simp only [ev,zD,zE,zF,zG]
 haveI : Iw (L.length : Int) := ⟨⟨by omega,by omega⟩⟩
 haveI : Bw 364 (sumT lowA L) := ⟨sumT_bd (m := 300) (fun u hu => by haveI := hI u hu; exact lowA_bd) (by omega)⟩
 haveI : Bw 365 (sumT highA L) := ⟨sumT_bd (m := 301) (fun u hu => by haveI := hI u hu; exact highA_bd) (by omega)⟩
 refine wp_region_lit (n_val (r_move) ?_)
 simp only [ev,zD,zE,zF,zG]
 refine mcall m rfl rfl (Area_c _ ((m.o 0 rfl).tris hI) (by omega)) ?_
 clear m; rintro v u m rfl
 refine n_val (r_move) (n_val (r_extract rfl rfl) (n_val (r_extract rfl rfl) ?_))
 simp only [ev,zD,zE,zF,zG]
 refine malloc m zero_32 rfl ?_
 clear m; intro g2 u m
 simp only [ev,zD,zE,zF,zG]
 refine malloc m zero_32 rfl ?_
 clear m; intro g3 u m
 simp only [ev,zD,zE,zF,zG]
 refine mstoreA m 1 rfl rfl rfl cells_32 (leT rfl) rfl ?_
 clear m; intro u m; simp only [over,zH,zI,zJ,zK,zL,zM,zN,zO,zP,zF,zG,Nat.reduceAdd] at m
 refine mstoreA m 0 rfl rfl rfl cells_32 (leT rfl) rfl ?_
 clear m; intro u m; simp only [over,zH,zI,zJ,zK,zL,zM,zN,zO,zP,zF,zG,Nat.reduceAdd] at m
 refine n_nil (k4 _ _ ?_)
 refine c_seq fun K5 k5 => wp_region_lit (n_val (r_move) ?_)
 simp only [ev,zD,zE,zF,zG]
 refine mcall m rfl rfl (rArea_c _ ((m.o 2 rfl).tris hI) (by omega)) ?_
 clear m; rintro v u m rfl
 refine n_val (r_move) (n_val (r_extract rfl rfl) (n_val (r_extract rfl rfl) ?_))
 simp only [ev,zD,zE,zF,zG]
 refine malloc m zero_32 rfl ?_
 clear m; intro g4 u m
 simp only [ev,zD,zE,zF,zG]
 refine malloc m zero_32 rfl ?_
 clear m; intro g5 u m
 simp only [ev,zD,zE,zF,zG]
 refine mstoreA m 1 rfl rfl rfl cells_32 (leT rfl) rfl ?_
 clear m; intro u m; simp only [over,zH,zI,zJ,zK,zL,zM,zN,zO,zP,zF,zG,Nat.reduceAdd] at m
 refine mstoreA m 0 rfl rfl rfl cells_32 (leT rfl) rfl ?_
 clear m; intro u m; simp only [over,zH,zI,zJ,zK,zL,zM,zN,zO,zP,zF,zG,Nat.reduceAdd] at m
 refine n_nil (k5 _ _ ?_)
 refine c_seq fun K6 k6 => mq m follows_mixed (by kernel_rfl) (q_val (r_move) (q_val (r_move) (q_want rfl ?_)))
 simp only [ev,zD,zE,zF,zG]
 refine ql rfl (fun u m => ((m.b 3 rfl).full agg_32 cells_32)) ?_
 simp only [ev,zD,zE,zF,zG]
 refine q_want rfl (ql rfl (fun u m => ((m.b 1 rfl).full agg_32 cells_32)) ?_)
 simp only [ev,zD,zE,zF,zG]
 refine q_want rfl (q_val (r_as (eq_eql_32 rfl rfl) (bool_as (decide_eq_true ⟨rfl,rfl⟩))) (q_val (r_pickT rfl) (q_val (r_move) (q_want rfl ?_))))
 simp only [ev,zD,zE,zF,zG]
 refine ql rfl (fun u m => ((m.b 2 rfl).full agg_32 cells_32)) ?_
 simp only [ev,zD,zE,zF,zG]
 refine q_want rfl (ql rfl (fun u m => ((m.b 0 rfl).full agg_32 cells_32)) ?_)
 simp only [ev,zD,zE,zF,zG]
 refine q_want rfl (q_val (r_as (eq_eql_32 rfl rfl) (bool_as (decide_eq_true ⟨rfl,rfl⟩))) (q_val (r_pickT rfl) (q_val (r_move) (q_want rfl ?_))))
 simp only [ev,zD,zE,zF,zG]
 refine ql rfl (fun u m => ((m.b 3 rfl).full agg_32 cells_32)) ?_
 simp only [ev,zD,zE,zF,zG]
 refine q_want rfl (ql rfl (fun u m => ((m.b 2 rfl).full agg_32 cells_32)) ?_)
 simp only [ev,zD,zE,zF,zG]
 refine q_want rfl (qcP rfl rfl (Cmp_c (a := sumT lowA L) (b := sumT highA L) Bw.up Bw.up) (q_want rfl (q_val (r_leqT rfl rfl (isign_sub_le (low_high L))) (q_val (r_pickT rfl) (q_val (r_move) ?_)))))
 simp only [ev,zD,zE,zF,zG]
 refine q_want rfl (ql rfl (fun u m => ((m.b 2 rfl).full agg_32 cells_32)) ?_)
 simp only [ev,zD,zE,zF,zG]
 refine q_want rfl (ql rfl (fun u m => ((m.b 3 rfl).full agg_32 cells_32)) ?_)
 simp only [ev,zD,zE,zF,zG]
 refine q_want rfl (q_val (r_move) (q_want rfl (q_val (r_lenS rfl Tryz.underlying24 rfl) (q_want rfl ?_))))
 simp only [ev,zD,zE,zF,zG]
 refine qcP rfl rfl (From_c (n := (L.length : Int)) Iw.h) (q_want rfl ?_)
 simp only [ev,zD,zE,zF,zG]
 refine qcP rfl rfl (Add_c (a := sumT lowA L) (b := (L.length : Int)) Bw.up Bw.up) (q_want rfl ?_)
 simp only [ev,zD,zE,zF,zG]
 refine qcP rfl rfl (Cmp_c (a := sumT highA L) (b := sumT lowA L + (L.length : Int)) Bw.up Bw.up) (q_want rfl (q_val (r_leqT rfl rfl (isign_sub_le (high_low L))) (q_val (r_pickT rfl) (q_val (r_assign) ?_))))
 simp only [ev,zD,zE,zF,zG]
 refine q_nil ?_
 clear m; intro u m
 refine k6 _ _ ?_
 refine wp_ret ?_
 try simp only [Exit.inBlock,Exit.then,if_true]
 refine fin1 rfl rfl ?_
 try simp only [zD,zE]
 exact ⟨_,rfl,m.ext,rfl⟩

set_option maxHeartbeats 1000000 in
theorem MeasureDistances_c {kind bits q0 q1 q2 : Int} [Iw kind] [Iw bits] [Iw q0] [Iw q1] [Iw q2] {HA MA : Option Addr} {HN Hc MN Mc : Nat} {zs : List Int} {ms : List T3} {p q : P3} [I3 p] [I3 q] (w : World) (hZ : IntsAt w HA HN zs) (hM : TrisAt w MA MN ms) (hMc : MN ≤ Mc) : Does Tryz.prog 3 [.agg #[.int .i64 kind,.int .i64 bits,.slice HA HN Hc,.int .i64 q0,.int .i64 q1,.int .i64 q2,.slice MA MN Mc],pt p,pt q] w (fun v _ => v = .bool true) := by
 refine ⟨en_3,?_⟩
 have m := Mem.refl w
 go_enter Tryz.func3,Tryz.ntmps3
 refine c_seq fun K1 k1 => wp_region_lit (mboxA m rfl ?_)
 clear m; intro g1 u m
 simp only [ev,zD,zE,zF,zG]
 refine mboxA m rfl ?_
 clear m; intro g2 u m
 simp only [ev,zD,zE,zF,zG]
 refine mboxA m rfl ?_
 clear m; intro g3 u m
 refine n_val (r_assign) (n_nil (k1 _ _ ?_))
 refine c_seq fun K2 k2 => wp_region_lit ?_
 simp only [ev,zD,zE,zF,zG]
 refine mcallP m rfl rfl (sanity_c) ?_
 clear m; intro u m
 refine n_val (r_assign) (n_nil (k2 _ _ ?_))
 refine c_seq fun K3 k3 => wp_region_lit ?_
 simp only [ev,zD,zE,zF,zG]
 refine n_load rfl ((m.b 2 rfl).full agg_26 cells_26) ?_
 simp only [ev,zD,zE,zF,zG]
 refine n_call rfl rfl (list_c (kind := kind) (bits := bits) (q0 := q0) (q1 := q1) (q2 := q2) _ (hZ.ext m.ext) (hM.ext m.ext) hMc) ?_
 rintro v u e ⟨bs,⟨A1,cap1,_,rfl,rfl,hN⟩,hbl,hbs⟩; replace m := m.newO e hN; clear e hN
 obtain ⟨L,hL,hI,hl⟩ := list_it hbs (ms := ms) hM.it hbl
 rw [hL] at m ⊢
 clear hL hbs hbl
 refine n_val (r_assign) (n_nil (k3 _ _ ?_))
 refine c_seq fun K4 k4 => wp_region_lit ?_
 simp only [ev,zD,zE,zF,zG]
 refine n_load rfl ((m.b 2 rfl).full agg_28 cells_28) ?_
 simp only [ev,zD,zE,zF,zG]
 refine n_val (r_move) ?_
 simp only [ev,zD,zE,zF,zG]
 refine mcall m rfl rfl (Far2_c (x := p) _ ((m.o 0 rfl).tris hI) (by omega)) ?_
 clear m; rintro v u m rfl
 refine n_val (r_move) (n_val (r_extract rfl rfl) (n_val (r_extract rfl rfl) ?_))
 simp only [ev,zD,zE,zF,zG]
 refine malloc m zero_34 rfl ?_
 clear m; intro g4 u m
 simp only [ev,zD,zE,zF,zG]
 refine mstoreA m 0 rfl rfl rfl cells_34 (leT rfl) rfl ?_
 clear m; intro u m; simp only [over,zH,zI,zJ,zK,zL,zM,zN,zO,zP,zF,zG,Nat.reduceAdd] at m
 refine n_val (r_assign) (n_nil (k4 _ _ ?_))
 refine c_seq fun K5 k5 => wp_region_lit ?_
 simp only [ev,zD,zE,zF,zG]
 refine n_load rfl ((m.b 3 rfl).full agg_28 cells_28) ?_
 simp only [ev,zD,zE,zF,zG]
 refine n_val (r_move) ?_
 simp only [ev,zD,zE,zF,zG]
 refine mcall m rfl rfl (rFar2_c (x := p) _ ((m.o 1 rfl).tris hI) (by omega)) ?_
 clear m; rintro v u m rfl
 refine n_val (r_move) (n_val (r_extract rfl rfl) (n_val (r_extract rfl rfl) ?_))
 simp only [ev,zD,zE,zF,zG]
 refine malloc m zero_34 rfl ?_
 clear m; intro g5 u m
 simp only [ev,zD,zE,zF,zG]
 refine mstoreA m 0 rfl rfl rfl cells_34 (leT rfl) rfl ?_
 clear m; intro u m; simp only [over,zH,zI,zJ,zK,zL,zM,zN,zO,zP,zF,zG,Nat.reduceAdd] at m
 refine n_val (r_assign) (n_nil (k5 _ _ ?_))
 refine c_seq fun K6 k6 => wp_region_lit ?_
 simp only [ev,zD,zE,zF,zG]
 refine n_load rfl ((m.b 3 rfl).full agg_28 cells_28) ?_
 simp only [ev,zD,zE,zF,zG]
 refine n_val (r_move) ?_
 simp only [ev,zD,zE,zF,zG]
 refine mcall m rfl rfl (Far2_c (x := q) _ ((m.o 2 rfl).tris hI) (by omega)) ?_
 clear m; rintro v u m rfl
 refine n_val (r_move) (n_val (r_extract rfl rfl) (n_val (r_extract rfl rfl) ?_))
 simp only [ev,zD,zE,zF,zG]
 refine malloc m zero_34 rfl ?_
 clear m; intro g6 u m
 simp only [ev,zD,zE,zF,zG]
 refine mstoreA m 0 rfl rfl rfl cells_34 (leT rfl) rfl ?_
 clear m; intro u m; simp only [over,zH,zI,zJ,zK,zL,zM,zN,zO,zP,zF,zG,Nat.reduceAdd] at m
 refine n_val (r_assign) (n_nil (k6 _ _ ?_))
 refine c_seq fun K7 k7 => wp_region_lit ?_
 simp only [ev,zD,zE,zF,zG]
 refine n_load rfl ((m.b 4 rfl).full agg_28 cells_28) ?_
 simp only [ev,zD,zE,zF,zG]
 refine n_val (r_move) ?_
 simp only [ev,zD,zE,zF,zG]
 refine mcall m rfl rfl (rFar2_c (x := q) _ ((m.o 3 rfl).tris hI) (by omega)) ?_
 clear m; rintro v u m rfl
 refine n_val (r_move) (n_val (r_extract rfl rfl) (n_val (r_extract rfl rfl) ?_))
 simp only [ev,zD,zE,zF,zG]
 refine malloc m zero_34 rfl ?_
 clear m; intro g7 u m
 simp only [ev,zD,zE,zF,zG]
 refine mstoreA m 0 rfl rfl rfl cells_34 (leT rfl) rfl ?_
 clear m; intro u m; simp only [over,zH,zI,zJ,zK,zL,zM,zN,zO,zP,zF,zG,Nat.reduceAdd] at m
 refine n_val (r_assign) (n_nil (k7 _ _ ?_))
 refine c_seq fun K8 k8 => wp_region_lit (n_val (r_move) (n_val (r_move) (n_want rfl ?_)))
 simp only [ev,zD,zE,zF,zG]
 refine n_load rfl ((m.b 3 rfl).full agg_34 cells_34) ?_
 simp only [ev,zD,zE,zF,zG]
 refine n_want rfl (n_load rfl ((m.b 2 rfl).full agg_34 cells_34) ?_)
 simp only [ev,zD,zE,zF,zG]
 refine n_want rfl (n_val (r_as (eq_eql_34 rfl rfl) (bool_as (decide_eq_true ⟨rfl,rfl,rfl,rfl⟩))) (n_val (r_pickT rfl) (n_val (r_move) (n_want rfl (n_val (r_move) ?_)))))
 simp only [ev,zD,zE,zF,zG]
 refine n_want rfl (n_val (r_move) (n_want rfl (n_val (r_as (r_eqlB Tryz.underlying4 rfl rfl) (bool_as (decide_eq_true rfl))) (n_val (r_pickT rfl) (n_val (r_move) ?_)))))
 simp only [ev,zD,zE,zF,zG]
 refine n_want rfl (n_load rfl ((m.b 1 rfl).full agg_34 cells_34) ?_)
 simp only [ev,zD,zE,zF,zG]
 refine n_want rfl (n_load rfl ((m.b 0 rfl).full agg_34 cells_34) ?_)
 simp only [ev,zD,zE,zF,zG]
 refine n_want rfl (n_val (r_as (eq_eql_34 rfl rfl) (bool_as (decide_eq_true ⟨rfl,rfl,rfl,rfl⟩))) (n_val (r_pickT rfl) (n_val (r_move) (n_want rfl (n_val (r_move) ?_)))))
 simp only [ev,zD,zE,zF,zG]
 refine n_want rfl (n_val (r_move) (n_want rfl (n_val (r_as (r_eqlB Tryz.underlying4 rfl rfl) (bool_as (decide_eq_true rfl))) (n_val (r_pickT rfl) (n_val (r_assign) ?_)))))
 simp only [ev,zD,zE,zF,zG]
 refine n_nil (k8 _ _ ?_)
 refine wp_ret ?_
 try simp only [Exit.inBlock,Exit.then,if_true]
 refine fin1 rfl rfl ?_
 try simp only [zD,zE]
 exact ⟨_,rfl,m.ext,rfl⟩

end Go.Proofs.YtmcgcnpgkkfkoaaGreatDoor
namespace Go.Lith
open Go.RowKit Go.ChangeShapes
variable {H : Type} {enc : TypeId × Value → H} {P : Program}
theorem trodAll_ext (hl : laidOutB P = true) {W W' : World} (hb : Ext W W') {sp : Nat → Bool} :
    ∀ {ts : List TypeId} {vs : List Value} {ds : List (DataW H)} {ps : List MemPlace},(ts.all fun t => P.readableRec t && decide (t < P.types.size)) = true → DataW.TrodAll enc P W 0 (fun _ => true) true ts vs ds ps → (∀ p ∈ ps,sp p.block = true) → DataW.TrodAll enc P W' 0 sp true ts vs ds ps
  | [],[],[],_,_,h,_ => h
  | [],[],_ :: _,_,_,h,_ => h.elim
  | [],_ :: _,_,_,_,h,_ => h.elim
  | _ :: _,[],_,_,_,h,_ => h.elim
  | _ :: _,_ :: _,[],_,_,h,_ => h.elim
  | t :: ts,v :: vs,d :: ds,ps,hv,h,hs => by
    obtain ⟨p,q,⟨n,h1⟩,h2,e⟩ := h
    subst e
    simp only [List.all_cons,Bool.and_eq_true,decide_eq_true_eq] at hv
    have hlt := DataW.trod_lt n _ _ _ h1
    exact ⟨p,q,⟨n,DataW.trod_stays (kids_book hl hv.1.1) (book_sized hv.1.1) (fun h => by cases h) ⟨hv.1.2,book_self t⟩ h1 (fun x hx => Below.same hb (hlt x hx)) (fun x hx => hs x (by simp [hx]))⟩,
      trodAll_ext hl hb (by simpa using hv.2) h2 (fun x hx => hs x (by simp [hx])),rfl⟩
theorem post_of_ext {f : Func} {s : ChangeSpec} {apart fresh handsOn again : Bool} {W W' : World} {args : Array Value} {t : TypeId} {ds gs : List (DataW H)} {before : List MemPlace}
    (hl : laidOutB P = true) (hps : (f.params.toList.all fun t => P.readableRec t && decide (t < P.types.size)) = true) (hv : s.vars = []) (hr : f.resultTypes = #[t]) (hu : P.underlying t = some .bool)
    (hW : DataW.Whole enc P f.params.toList s.vars apart W args.toList ds gs before) (hfn : (s.fn H (ds ++ gs)).results = [.lit (.bool true)] ∧ (s.fn H (ds ++ gs)).args = ds ∧ (s.fn H (ds ++ gs)).vars = []) (hb : Ext W W') :
    s.post enc P f apart fresh handsOn again W args (.bool true) W' := by
  have hW0 := hW
  obtain ⟨p,q,hA,hV,rfl,hz,hn⟩ := hW0
  rw [hv] at hV
  obtain ⟨rfl,rfl⟩ := trodVars_none hV
  have hargs : ∀ sp : Nat → Bool,(∀ x ∈ p ++ [],sp x.block = true) → DataW.TrodAll enc P W' 0 sp true f.params.toList args.toList (s.fn H (ds ++ [])).args p := fun sp hsp => by
    rw [hfn.2.1]
    exact trodAll_ext hl hb hps hA (fun x hx => hsp x (by simp [hx]))
  have hvars : ∀ sp : Nat → Bool,DataW.TrodVars enc P W' sp s.vars (s.fn H (ds ++ [])).vars [] := fun sp => by
    rw [hv,hfn.2.2]
    exact rfl
  have hres : ∀ (b : Nat) (sp : Nat → Bool) (hd : Bool),DataW.TrodAll enc P W' b sp hd f.resultTypes.toList ((Value.bool true).resultList f.resultTypes.size) (s.fn H (ds ++ [])).results [] := fun b sp hd => by
    rw [hr,hfn.1]
    exact trodAll_cons_mk (shut_bool hu true) trodAll_mk0
  have hok : ∀ (j : Nat) (t : TypeId) (r : Value),f.resultTypes[j]? = some t → ((Value.bool true).resultList f.resultTypes.size)[j]? = some r → Value.okWide P W' .any 0 t r := ok_one hr rfl (okWide_bool_mk hu _)
  have hlt : ∀ x ∈ p ++ [],x.block < W.heap.size := hW.lt
  have hold : ∀ x ∈ p ++ [],(fun b => decide (b < W.heap.size)) x.block = true := fun x hx => by simpa using hlt x hx
  refine ⟨ds,[],p ++ [],[],p,[],hW,hres _ _ _,hargs _ hold,hvars _,Below.frame hb _,fun _ => ?_⟩
  refine ⟨hok,_,_,([] ++ p) ++ [],⟨[] ++ p,[],trodAll_append (hargs _ (fun _ _ => rfl)) (hres _ _ _),hvars _,rfl,?_,?_⟩,?_⟩
  · intro b off hp
    have h1 : MemPlace.cell b off ∈ p ++ [] := by simpa using hp
    rw [Below.frozen hb (p := ⟨b,off,none⟩) (hlt _ h1)]
    exact hz b off h1
  · intro ha
    simpa using hn ha
  · intro x hp _
    simpa using hp
end Go.Lith
namespace Go.Proofs.YtmcgcnpgkkfkoaaGreatDoor.measureDistances
open Go.ChangeShapes Go.WideShapes Go.ChangeAt Go.RowKit Go.Lith
set_option maxRecDepth 100000
theorem own : ownKnob Tryz.prog.godebug = none := by kernel_rfl
theorem laidOut : laidOutB Tryz.prog = true := by kernel_rfl
theorem contract (H : Type) (enc : TypeId × Value → H) (W : World) (base : Nat) (args : Array Value) (ds gs : List (DataW H)) (before : List MemPlace)
    (hval : ∀ (j : Nat) t v,Tryz.f3.params[j]? = some t → args[j]? = some v → Value.okWide Tryz.prog W .any base t v)
    (hW : DataW.Whole enc Tryz.prog Tryz.f3.params.toList Rows.measureDistancesSpec.vars false W args.toList ds gs before) :
    Calls Tryz.prog 3 args W fun e W' => ∃ v,e = .returned v ∧ Rows.measureDistancesSpec.post enc Tryz.prog Tryz.f3 false true false false W args v W' := by
  have hW' := hW
  obtain ⟨p,q,hA,hV,rfl,hfz,hnd⟩ := hW
  rw [Tryz.params3] at hA hval
  obtain ⟨v0,vs0,d0,ds0,p0,q0,e0,rfl,rfl,h0,r0⟩ := trodAll_cons hA
  obtain ⟨v1,vs1,d1,ds1,p1,q1,e1,rfl,rfl,h1,r1⟩ := trodAll_cons r0
  obtain ⟨v2,vs2,d2,ds2,p2,q2,e2,rfl,rfl,h2,r2⟩ := trodAll_cons r1
  obtain ⟨rfl,rfl,rfl⟩ := trodAll_nil r2
  subst e2
  subst e1
  obtain rfl : args = #[v0,v1,v2] := by cases args; simp_all
  obtain ⟨rfl,rfl⟩ := trodVars_none hV
  obtain ⟨kind,bits,q0,q1,q2,HA,MA,HN,Hc,MN,Mc,zs,ms,rfl,i0,i1,i2,i3,i4,hZ,hM,hMc⟩ := open_shape (n := 5) (tI := 3) (tH := 22) (tQ := 23) (tM := 24) (tT := 59) Tryz.underlying26 (by kernel_rfl) (by kernel_rfl) (by kernel_rfl) (by kernel_rfl) Tryz.underlying22 (by kernel_rfl) (by kernel_rfl) (by kernel_rfl) Tryz.underlying24 (by kernel_rfl) (by kernel_rfl) (by kernel_rfl) (hval 0 26 v0 rfl rfl) h0
  obtain ⟨a1,ia1,rfl⟩ := open_pt agg_28 (n := 5) (by kernel_rfl) (by kernel_rfl) (hval 1 28 v1 rfl rfl) h1
  obtain ⟨a2,ia2,rfl⟩ := open_pt agg_28 (n := 5) (by kernel_rfl) (by kernel_rfl) (hval 2 28 v2 rfl rfl) h2
  refine (MeasureDistances_c W hZ hM hMc).2.mono ?_
  rintro e W' ⟨v,rfl,hE,rfl⟩
  exact ⟨_,rfl,post_of_ext laidOut (by kernel_rfl) rfl rfl Tryz.underlying4 hW' ⟨rfl,rfl,rfl⟩ hE⟩
def accepts : List Value := [128,191,160,191,128,159,144,191,128,143,0,0,0,0,0,0,0,0,0,0,0,0,0,0,0,0,0,0,0,0,0,0].map fun n => .int .u8 n
def firsts : List Value := Go.Pinned.utf8FirstZ.map fun (n : Nat) => Value.int .u8 (n : Int)
def relaid (cs : List Value) : Obj → Obj
  | .cells _ t frozen => .cells cs.toArray t frozen
  | o => o
noncomputable def laidWorld (os : Os) : World :=
  { World.holding Tryz.prog os ⟨#[],#[],[]⟩ with heap := ((World.holding Tryz.prog os ⟨#[],#[],[]⟩).heap.modify 0 (relaid firsts)).modify 1 (relaid accepts) }
def inp : Array Value := #[.agg #[.int .i64 0,.int .i64 0,.slice none 0 0,.int .i64 0,.int .i64 0,.int .i64 0,.slice none 0 0],.agg #[.int .i64 0,.int .i64 0,.int .i64 0],.agg #[.int .i64 0,.int .i64 0,.int .i64 0]]
theorem laid_met (os : Os) : laidMet Tryz.prog Rows.measureDistancesRow.laid ((laidWorld os).forCall (fun _ _ => 0) ⟨#[],inp,[]⟩).memory :=
  laidMet_of_run' 8 (by kernel_rfl) (by kernel_rfl)
theorem reads (os : Os) {H : Type} (enc : TypeId × Value → H) : ∃ places,DataW.whole enc Tryz.prog ((laidWorld os).forCall (fun _ _ => 0) ⟨#[],inp,[]⟩).memory Tryz.f3.params.toList Rows.measureDistancesSpec.vars false inp.toList 8 = some ([.agg [.lit (.int .i64 0),.lit (.int .i64 0),.nil,.agg [.lit (.int .i64 0),.lit (.int .i64 0),.lit (.int .i64 0)],.nil],.agg [.lit (.int .i64 0),.lit (.int .i64 0),.lit (.int .i64 0)],.agg [.lit (.int .i64 0),.lit (.int .i64 0),.lit (.int .i64 0)]],[],places) :=
  ⟨[],by kernel_rfl⟩
theorem lifted (os : Os) (started : os.Started) (H : Type) (enc : TypeId × Value → H) (F : Stop.Interp) :
    ReturnsInHanded {} Tryz.checked os 3 .any ((OpenSpec.ofChange Rows.measureDistancesSpec).preRow enc Tryz.prog Tryz.f3 Rows.measureDistancesRow.domain false Rows.measureDistancesRow.laid) (((OpenSpec.ofChange Rows.measureDistancesSpec).at F).post enc Tryz.prog Tryz.f3 false true false false) := by
  obtain ⟨places,hx⟩ := reads os enc
  refine returnsInHanded_of_row (C := Tryz.checked) (s := OpenSpec.ofChange Rows.measureDistancesSpec) own started (by kernel_rfl) Tryz.func3
    (witness_row_at (enc := enc) (C := Tryz.checked) false (laidWorld os) inp rfl (by kernel_rfl) (by kernel_rfl) (by kernel_rfl)
      (OpenSpec.preRow_of_cond 8 hx (by kernel_rfl) (fun k hk => by cases hk) (by kernel_rfl) (laid_met os))) ?_
  intro W base args ds gs before hval hW _ _ _ hL _ _
  exact contract H enc W base args ds gs before hval hW
theorem said : Rows.MeasureDistancesSaid :=
  OpenClaim.holds_of_cond 3 Tryz.f3 rfl rfl rfl rfl rfl rfl rfl ⟨rfl,rfl,rfl,rfl,rfl⟩ rfl rfl rfl rfl rfl (by kernel_rfl) Tryz.func3 (by kernel_rfl)
    (of_decide_eq_true (by kernel_rfl)) (by unfold Func.isWrapper; first | (rw [if_pos (by decide +kernel)]; kernel_rfl) | (rw [if_neg (by decide +kernel)]; exact ⟨rfl,rfl⟩))
    (fun os started H enc _ F => by rw [OpenClaim.pre_eq_preRow]; exact lifted os started H enc F)
theorem plain (f : FuncId) (fn : Func) (hf : Tryz.pinned.checked.prog.funcNamed Rows.measureDistancesRow.func = some f) (hfn : Tryz.pinned.checked.prog.funcs[f]? = some fn) :
    false = Tryz.pinned.checked.prog.looks [] ∧ ∀ (j : Nat) t,fn.params[j]? = some t → Tryz.pinned.checked.prog.wantsStandIn t = false := by
  obtain rfl : f = 3 := Option.some.inj ((show Tryz.prog.funcNamed Rows.measureDistancesRow.func = some 3 by kernel_rfl).symm.trans hf) |>.symm
  obtain rfl : fn = Tryz.f3 := (Option.some.inj (Tryz.func3.symm.trans hfn)).symm
  refine ⟨by kernel_rfl,fun j t ht => ?_⟩
  rw [Tryz.params3] at ht
  have hm : t ∈ [26,28,28] := by simpa using Array.mem_of_getElem? ht
  have hall : ([26,28,28].all fun u => !Tryz.prog.wantsStandIn u) = true := by kernel_rfl
  exact (show Tryz.prog.wantsStandIn t = false by simpa using List.all_eq_true.1 hall t hm)
theorem card : Rows.MeasureDistancesCardSaid :=
  Claim7.holds_tied_plain_at .later [] _ _ _ _ said (fun _ h => by cases h) (by kernel_rfl) (fun _ h => by cases h) measureDistances_row_tie rfl ⟨rfl,rfl⟩ (by kernel_rfl) rfl plain (by kernel_rfl)
end Go.Proofs.YtmcgcnpgkkfkoaaGreatDoor.measureDistances
