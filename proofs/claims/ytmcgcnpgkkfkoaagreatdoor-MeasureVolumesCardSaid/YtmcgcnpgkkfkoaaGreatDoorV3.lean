/-
  Texts of one claim, laid together: Dig, Surf1b, Surf4, Ref1, Ref2, Ref3, Dig2, Ref4, Ref5.
-/
import Derived.Test.YtmcgcnpgkkfkoaaGreatDoorV2
set_option maxHeartbeats 8000000
set_option linter.unusedSimpArgs false
set_option linter.unusedVariables false
namespace Go.Lith
open Go.RowKit
abbrev i64v (x : Nat) : Value:=.int .i64 (x : Int)
structure DigAt (w : World) (b : Nat) (A : Option Addr) (n cap : Nat) (xs : List Nat) : Prop where
  eq : n = xs.length
  row : ∀ (i x : Nat),xs[i]? = some x → ∃ a,A = some a ∧ a.block < b ∧ w.cell? (a.add i) = some (.int .i64 (x : Int))
  le : xs.length ≤ cap
  cap : cap ≤ 9223372036854775807
  len : xs.length ≤ 17592186044416
  digs : Digs 65536 xs
structure Base (w : World) (b : Nat) : Prop where
  h : b ≤ w.heap.size
theorem Base.ext {w w' : World} {b : Nat} (h : Base w b) (hE : Ext w w') : Base w' b:=⟨Nat.le_trans h.h hE.size⟩
theorem Base.chg {w w' : World} {b g : Nat} (h : Base w b) (hC : Chg w w' g) (_ : True:=trivial) : Base w' b:=⟨by rw [hC.size]; exact h.h⟩
theorem Base.grew {w w' : World} {b base : Nat} (h : Base w b) (hG : Grew w w' base) (_ : True:=trivial) : Base w' b:=⟨Nat.le_trans h.h hG.size⟩
theorem Ext.base {w0 w : World} (h : Ext w0 w) : ∃ b,b = w.heap.size ∧ w0.heap.size ≤ b:=⟨_,rfl,h.size⟩
theorem Base.of {w0 w : World} {b : Nat} (_ : Ext w0 w) (e : b = w.heap.size) : Base w b:=⟨Nat.le_of_eq e⟩
theorem Owns.nil_of {w0 w : World} (_ : Ext w0 w) (base : Nat) (E : TypeId) (c : Nat) : Owns w base E c (.slice none 0 0) 0 []:=Owns.nil w base E c
theorem Blk.row0 {w : World} {g : Nat} {cs : List Value} {t : TypeId} (h : Blk w g cs t) : Row w ⟨g,0,none⟩ cs:=h.row 0
section
variable {w w' : World} {b : Nat} {A : Option Addr} {n cap : Nat} {xs : List Nat}
theorem DigAt.ext (h : DigAt w b A n cap xs) (hE : Ext w w') : DigAt w' b A n cap xs :=
  ⟨h.eq,fun i x hi=>let ⟨a,e,hb,hc⟩:=h.row i x hi; ⟨a,e,hb,hE.cell hc⟩,h.le,h.cap,h.len,h.digs⟩
theorem DigAt.mono {b' : Nat} (h : DigAt w b A n cap xs) (hb : b ≤ b') : DigAt w b' A n cap xs :=
  ⟨h.eq,fun i x hi=>let ⟨a,e,h1,hc⟩:=h.row i x hi; ⟨a,e,by omega,hc⟩,h.le,h.cap,h.len,h.digs⟩
theorem DigAt.here (h : DigAt w b A n cap xs) : DigAt w w.heap.size A n cap xs :=
  ⟨h.eq,fun i x hi=>by
    obtain ⟨a,e,_,hc⟩:=h.row i x hi
    have:=World.block_lt_of_cell? _ _ hc
    rw [add_block] at this
    exact ⟨a,e,this,hc⟩,h.le,h.cap,h.len,h.digs⟩
theorem DigAt.chg {g : Nat} (h : DigAt w b A n cap xs) (hC : Chg w w' g) (hb : b ≤ g) : DigAt w' b A n cap xs :=
  ⟨h.eq,fun i x hi=>by
    obtain ⟨a,e,h1,hc⟩:=h.row i x hi
    exact ⟨a,e,h1,(hC.cell (by rw [add_block]; omega)).trans hc⟩,h.le,h.cap,h.len,h.digs⟩
theorem DigAt.grew {base : Nat} (h : DigAt w b A n cap xs) (hG : Grew w w' base) (hb : b ≤ base) : DigAt w' b A n cap xs :=
  ⟨h.eq,fun i x hi=>by
    obtain ⟨a,e,h1,hc⟩:=h.row i x hi
    exact ⟨a,e,h1,(World.cell?_of_block (hG.block _ (by rw [add_block]; omega))).trans hc⟩,h.le,h.cap,h.len,h.digs⟩
theorem DigAt.take (h : DigAt w b A n cap xs) (k : Nat) : DigAt w b A (xs.take k).length cap (xs.take k) :=
  ⟨rfl,fun i x hi=>h.row i x (by rw [List.getElem?_take] at hi; split at hi; exact hi; cases hi),Nat.le_trans (by simp; omega) h.le,h.cap,Nat.le_trans (by simp; omega) h.len,h.digs.take k⟩
theorem DigAt.as (h : DigAt w b A n cap xs) {ys : List Nat} (e : xs = ys) : DigAt w b A n cap ys:=e ▸ h
theorem DigAt.get (h : DigAt w b A n cap xs) {i : Nat} (hi : i < xs.length) : ∃ a,A = some a ∧ w.cell? (a.add i) = some (.int .i64 ((xs[i] : Nat) : Int)) ∧ xs[i] < 65536:=by
  obtain ⟨a,e,_,hc⟩:=h.row i xs[i] (List.getElem?_eq_getElem hi)
  exact ⟨a,e,hc,h.digs _ (List.getElem_mem hi)⟩
theorem DigAt.at {a : Addr} (h : DigAt w b (some a) n cap xs) {i : Nat} (hi : i < xs.length) : w.cell? (a.add i) = some (.int .i64 ((xs[i] : Nat) : Int)):=by
  obtain ⟨a',e,hc,_⟩:=h.get hi
  cases e
  exact hc
theorem DigAt.lt (h : DigAt w b A n cap xs) {i : Nat} (hi : i < xs.length) : xs[i] < 65536:=h.digs _ (List.getElem_mem hi)
theorem DigAt.nil (w : World) (b : Nat) : DigAt w b none 0 0 []:=⟨rfl,fun i x hi=>by simp at hi,Nat.le_refl _,by omega,by simp,fun x hx=>by cases hx⟩
theorem DigAt.of_blk {g : Nat} {os : List Nat} {t : TypeId} (h : Blk w g (os.map i64v) t) (hd : Digs 65536 os) (hn : n = os.length) (hl : n ≤ 17592186044416) : DigAt w w.heap.size (some ⟨g,0,none⟩) n n os :=
  ⟨hn,fun i x hi=>⟨_,rfl,h.lt,by rw [addr_add_mk,Nat.zero_add]; exact h.cell (by simp [hi])⟩,by omega,by omega,by omega,hd⟩
theorem DigAt.of_owns {base : Nat} {v : Value} {E : TypeId} (h : Owns w base E 1 v n (xs.map i64v)) (hn : n = xs.length) (hd : Digs 65536 xs) (hl : n ≤ 17592186044416) : ∃ A c,v = .slice A n c ∧ DigAt w w.heap.size A n c xs ∧ ∀ a,A = some a → base ≤ a.block:=by
  rcases h.row with ⟨rfl,rfl,hx⟩ | ⟨g,cap,rfl,hb,h1,h2,hg,hr⟩
  · obtain rfl : xs = []:=by simpa using hx
    exact ⟨none,0,rfl,DigAt.nil _ _,fun _ e=>by cases e⟩
  · exact ⟨_,cap,rfl,⟨hn,fun i x hi=>⟨_,rfl,hg,hr i _ (by simp [hi])⟩,by omega,h2,by omega,hd⟩,fun a e=>by cases e; exact hb⟩
theorem DigAt.rows (h : DigAt w b A n cap xs) : ∀ j u,(xs.map i64v)[j]? = some u → ∃ a,A = some a ∧ w.cell? (a.add j) = some u:=fun j u hj=>by
  rw [List.getElem?_map] at hj
  cases hx : xs[j]? with
  | none=>rw [hx] at hj; cases hj
  | some x =>
    rw [hx] at hj
    cases hj
    obtain ⟨a,e,_,hc⟩:=h.row j x hx
    exact ⟨a,e,hc⟩
theorem Hold.dig {S : World → Prop} (h : DigAt w b A n cap xs) (k : Hold w S) : Hold w (fun w=>DigAt w b A n cap xs ∧ S w):=⟨h,k⟩
end
theorem Owns.snoc {w : World} {b : Nat} {E : TypeId} {v : Value} {os : List Nat} {x : Nat} (h : Owns w b E 1 v (os.length + 1) (os.map i64v ++ [.int .i64 (x : Int)])) : Owns w b E 1 v (os ++ [x]).length ((os ++ [x]).map i64v):=by simpa using h
def DigRes (n : Nat) (v : Value) (w : World) : Prop:=∃ A cap,v = .slice A (digs 65536 n).length cap ∧ DigAt w w.heap.size A (digs 65536 n).length cap (digs 65536 n)
structure DigX (w : World) (g : Nat) (A : Option Addr) (n cap : Nat) (xs : List Nat) : Prop where
  dig : DigAt w w.heap.size A n cap xs
  ne : ∀ a,A = some a → a.block ≠ g
theorem DigX.ext {w w' : World} {g n cap : Nat} {A : Option Addr} {xs : List Nat} (h : DigX w g A n cap xs) (hE : Ext w w') : DigX w' g A n cap xs:=⟨(h.dig.ext hE).here,h.ne⟩
theorem DigX.chg {w w' : World} {g g' n cap : Nat} {A : Option Addr} {xs : List Nat} (h : DigX w g A n cap xs) (hC : Chg w w' g') (e : g' = g) : DigX w' g A n cap xs:=by
  subst e
  refine ⟨⟨h.dig.eq,fun i x hi=>?_,h.dig.le,h.dig.cap,h.dig.len,h.dig.digs⟩,h.ne⟩
  obtain ⟨a,ea,hb,hc⟩:=h.dig.row i x hi
  exact ⟨a,ea,by rw [hC.size]; exact hb,(hC.cell (by rw [add_block]; exact h.ne a ea)).trans hc⟩
theorem DigX.of_trim {w : World} {b g n cap : Nat} {A : Option Addr} {xs ys : List Nat} (h : DigAt w b A n cap xs) (e : trim xs = ys) (hne : ∀ a,A = some a → a.block ≠ g) : DigX w g A ys.length cap ys:=by
  refine ⟨?_,hne⟩
  have:=(h.take (trim xs).length).here
  rw [← trim_eq_take,e] at this
  exact this
theorem over_round {qs xs : List Nat} {k Y R low R1 : Nat} (hk : 0 < k) (hkl : k ≤ xs.length) (hlo : qs.length = xs.length) (hv : val 65536 (xs.drop k) = Y * val 65536 (qs.drop k) + R) (hR1 : R1 = xs[k - 1] + 65536 * R) (h1 : low * Y ≤ R1) (hd : Digs 65536 qs) (h16 : low < 65536) :
    val 65536 (xs.drop (k - 1)) = Y * val 65536 ((qs.set (k - 1) low).drop (k - 1)) + (R1 - Y * low) ∧ Digs 65536 (qs.set (k - 1) low):=by
  refine ⟨?_,hd.set h16⟩
  rw [val_drop_pred hk (by omega),val_drop_pred (xs:=qs.set (k - 1) low) hk (by simp; omega),List.getElem_set_self,hv]
  have e : (qs.set (k - 1) low).drop k = qs.drop k:=drop_set_ge (by omega)
  rw [e]
  generalize val 65536 (qs.drop k) = q at *
  generalize xs[k - 1] = x at *
  have h2 : Y * low = low * Y:=Nat.mul_comm _ _
  obtain ⟨z,hz⟩:=Nat.exists_eq_add_of_le h1
  rw [h2,show R1 - low * Y = z by omega]
  have : Y * (low + 65536 * q) = low * Y + 65536 * (Y * q):=by grind
  omega
theorem over_less {Y R1 low high : Nat} (h0 : 0 < Y) (hh : R1 < high * Y) (hl : ¬ ((1 : Int) < (high : Int) - (low : Int))) : R1 - Y * low < Y:=by
  have h1 : high ≤ low + 1:=by omega
  have h2 : high * Y ≤ (low + 1) * Y:=Nat.mul_le_mul_right _ h1
  rw [Nat.add_mul,Nat.one_mul,Nat.mul_comm low Y] at h2
  omega
theorem ord_le_iff {a b : Nat} : ord a b ≤ 0 ↔ a ≤ b:=by
  unfold ord
  split
  · omega
  · split <;> omega
def DigVal (n k : Nat) (v : Value) (w : World) : Prop:=∃ A cap os,v = .slice A os.length cap ∧ DigAt w w.heap.size A os.length cap os ∧ val 65536 os = n ∧ os.length ≤ k
theorem DigRes.of_trim {w : World} {b : Nat} {A : Option Addr} {xs : List Nat} {k cap n : Nat} (h : DigAt w b A k cap xs) (hv : val 65536 xs = n) : DigRes n (.slice A (trim xs).length cap) w:=by
  have e : trim xs = digs 65536 n:=trim_eq_digs (by omega) h.digs hv
  refine ⟨A,cap,by rw [e],?_⟩
  rw [← e]
  have:=(h.take (trim xs).length).here
  rwa [← trim_eq_take] at this
theorem DigRes.self {w : World} {b : Nat} {A : Option Addr} {xs : List Nat} {k cap : Nat} (h : DigAt w b A k cap xs) (t : Trimmed xs) : DigRes (val 65536 xs) (.slice A k cap) w:=by
  have e : xs = digs 65536 (val 65536 xs):=by rw [← trim_eq_digs (by omega) h.digs rfl,t]
  refine ⟨A,cap,by rw [h.eq,← e],?_⟩
  rw [← e,← h.eq]
  exact h.here
theorem replicate_i64 (n : Nat) : List.replicate n (Value.int .i64 0) = (List.replicate n 0).map i64v:=by simp [i64v]
theorem over_set_i64 {os : List Nat} {i d : Nat} (hi : i < os.length) : over (os.map i64v) i [i64v d] = (os.set i d).map i64v:=by
  simp only [over,List.length_singleton]
  apply List.ext_getElem?
  intro j
  rcases Nat.lt_trichotomy j i with h | h | h
  · rw [List.getElem?_append_left (by simp; omega),List.getElem?_append_left (by simp; omega)]
    simp [h,List.getElem?_set_ne (Nat.ne_of_gt h)]
  · subst h
    rw [List.getElem?_append_left (by simp; omega),List.getElem?_append_right (by simp; omega)]
    have e : j - min j os.length = 0:=by omega
    simp [hi,e]
  · rw [List.getElem?_append_right (by simp; omega)]
    simp only [List.length_append,List.length_take,List.length_map,List.length_singleton,List.getElem?_drop,List.getElem?_map]
    rw [List.getElem?_set_ne (by omega)]
    congr 2
    omega
theorem Blk.digit {w : World} {g : Nat} {os : List Nat} {t : TypeId} (h : Blk w g (os.map i64v) t) {i : Nat} (hi : i < os.length) : w.cell? ⟨g,i,none⟩ = some (.int .i64 ((os[i] : Nat) : Int)) :=
  h.cell (by simp [hi])
theorem val_digs16 (n : Nat) : val 65536 (digs 65536 n) = n:=val_digs (by omega) n
theorem trimmed_digs16 (n : Nat) : Trimmed (digs 65536 n):=trimmed_digs (by omega) n
theorem digs_digs16 (n : Nat) : Digs 65536 (digs 65536 n):=digs_digs (by omega) n
theorem lt_len16 {m n : Nat} (h : m ≤ n) : (digs 65536 m).length ≤ (digs 65536 n).length:=by
  refine length_digs_le (by omega) (Nat.lt_of_le_of_lt h ?_)
  have:=val_lt (digs_digs16 n)
  rwa [val_digs16] at this
theorem len_bd16 {k : Nat} {V : Nat} (h : V < 2 ^ k) : (digs 65536 V).length ≤ k:=by
  refine length_digs_le (by omega) (Nat.lt_of_lt_of_le h ?_)
  rw [show (65536 : Nat) = 2 ^ 16 from rfl,← Nat.pow_mul]
  exact Nat.pow_le_pow_right (by omega) (by omega)
theorem quo_i64' {m n : Nat} (h : m < 9223372036854775808) : IntKind.i64.wrap ((m : Int).tdiv (n : Int)) = ((m / n : Nat) : Int):=quo_i64 h
theorem Owns.grew {w w' : World} {base b' : Nat} {E : TypeId} {c n : Nat} {v : Value} {xs : List Value} (h : Owns w base E c v n xs) (hG : Grew w w' b') (hb : ∀ a m k,v = .slice (some a) m k → a.block < b') : Owns w' base E c v n xs:=by
  refine ⟨h.1,?_⟩
  rcases h.2 with h | ⟨g,cap,cur,rfl,hbg,hg,h1,h2,h3,h4⟩
  · exact .inl h
  · exact .inr ⟨g,cap,cur,rfl,hbg,(hG.block g (hb _ _ _ rfl)).trans hg,h1,h2,h3,h4⟩
section
variable {P : Program} {ds : List Deferred} {l : List Value} {T ty : TypeId}
variable {ops : Array Oper} {Q : Exit → Act → World → Prop} {rest : List Oper} {d : Nat} {pos : String} {after : Array Edge} {w : World}
theorem n_appendS {s0 x0 : Operand} {base c b nn mm cap : Nat} {E : TypeId} {z v : Value} {xs : List Value} {A : Option Addr} {a0 : Array TypeId} (ha : a0 = #[T,T]) (hu : P.underlying T = some (.slice E)) (hi : (P.info? E).map (fun i=>(i.size,i.bytes,i.zero)) = some (c,b,some z)) (hz : z.cells.size = c) (hc : 0 < c)
    (hs : ev l s0 = v) (hown : Owns w base E c v nn xs) (hx : ev l x0 = .slice A mm cap) {news : List Value} (hl : news.length = mm * c) (hrow : ∀ j u,news[j]? = some u → ∃ a,A = some a ∧ w.cell? (a.add j) = some u) (h1 : ∀ u ∈ news,u.oneCell' = true) (h63 : nn + mm ≤ 9223372036854775807) (hbytes : (nn + mm) * b ≤ 140737488355328) (hbase : base ≤ w.heap.size)
    (h : ∀ v' w',Owns w' base E c v' (nn + mm) (xs ++ news) → Grew w w' base → True → wpList P ops Q rest (Fr (l.set d v') ds) w') :
    wpList P ops Q (Oper.mk (some d) (.call { callee:=.builtin .append,args:=#[s0,x0],argTypes:=a0 }) ty pos after none :: rest) (Fr l ds) w:=by
  cases A with
  | none =>
    obtain rfl : news = []:=by
      cases news with
      | nil=>rfl
      | cons u us=>obtain ⟨a,e,_⟩:=hrow 0 u rfl; cases e
    have hm : mm = 0:=by
      rcases Nat.eq_zero_or_pos mm with h0 | h0
      · exact h0
      · have:=Nat.mul_pos h0 hc; simp at hl; omega
    subst hm
    exact n_append0 ha hu hi hs hown hx (h _ _ (by simpa using hown) (Grew.refl _ _) trivial)
  | some a =>
    refine n_append ha hu hi hz hc hs hown hx hl (fun j u hj=>?_) h1 h63 hbytes hbase (fun v' w' h2 h3 _=>h v' w' h2 h3 trivial)
    obtain ⟨a',e,hc'⟩:=hrow j u hj
    cases e
    exact hc'
end
theorem plus_round {os xs ys : List Nat} {i c s : Nat} (hl : os.length = i) (hv : val 65536 os + 65536 ^ i * c = val 65536 (xs.take i) + val 65536 (ys.take i)) (hd : Digs 65536 os)
    (hs : s = c + xs[i]?.getD 0 + ys[i]?.getD 0) :
    val 65536 (os ++ [s % 65536]) + 65536 ^ (i + 1) * (s / 65536) = val 65536 (xs.take (i + 1)) + val 65536 (ys.take (i + 1)) ∧ Digs 65536 (os ++ [s % 65536]):=by
  refine ⟨?_,hd.append (digs_cons (Nat.mod_lt _ (by omega)) (digs_nil _))⟩
  have ht : ∀ l : List Nat,val 65536 (l.take (i + 1)) = val 65536 (l.take i) + 65536 ^ i * l[i]?.getD 0:=fun l=>by
    rcases Nat.lt_or_ge i l.length with h | h
    · rw [val_take_succ h,List.getElem?_eq_getElem h]; rfl
    · rw [List.take_of_length_le (by omega),List.take_of_length_le h,List.getElem?_eq_none h]; simp
  rw [ht xs,ht ys,val_append,hl]
  simp only [val,Nat.mul_zero,Nat.add_zero]
  have e : s = s % 65536 + 65536 * (s / 65536):=by omega
  rw [Nat.pow_succ]
  generalize s / 65536 = q at *
  generalize s % 65536 = r at *
  generalize 65536 ^ i = p at *
  generalize xs[i]?.getD 0 = x at *
  generalize ys[i]?.getD 0 = y at *
  subst hs
  have e2 : p * (c + x + y) = p * r + p * 65536 * q:=by rw [e]; grind
  grind
theorem minus_round {os xs ys : List Nat} {i c s b : Nat} (hi : i < xs.length) (hl : os.length = i) (hv : val 65536 os + val 65536 (ys.take i) = val 65536 (xs.take i) + 65536 ^ i * c) (hd : Digs 65536 os)
    (hs : s + ys[i]?.getD 0 + c = xs[i] + 65536 * b) (h16 : s < 65536) :
    val 65536 (os ++ [s]) + val 65536 (ys.take (i + 1)) = val 65536 (xs.take (i + 1)) + 65536 ^ (i + 1) * b ∧ Digs 65536 (os ++ [s]):=by
  refine ⟨?_,hd.append (digs_cons h16 (digs_nil _))⟩
  have ht : val 65536 (ys.take (i + 1)) = val 65536 (ys.take i) + 65536 ^ i * ys[i]?.getD 0:=by
    rcases Nat.lt_or_ge i ys.length with h | h
    · rw [val_take_succ h,List.getElem?_eq_getElem h]; rfl
    · rw [List.take_of_length_le (by omega),List.take_of_length_le h,List.getElem?_eq_none h]; simp
  rw [ht,val_take_succ hi,val_append,hl]
  simp only [val,Nat.mul_zero,Nat.add_zero]
  rw [Nat.pow_succ]
  generalize 65536 ^ i = p at *
  generalize ys[i]?.getD 0 = y at *
  generalize xs[i] = x at *
  have e2 : p * (s + y + c) = p * x + p * 65536 * b:=by rw [hs]; grind
  grind
theorem minus_end {os xs ys : List Nat} {c : Nat} (hle : ys.length ≤ xs.length) (hl : os.length = xs.length) (hd : Digs 65536 os) (hv : val 65536 os + val 65536 (ys.take xs.length) = val 65536 (xs.take xs.length) + 65536 ^ xs.length * c) (hge : val 65536 ys ≤ val 65536 xs) : val 65536 os = val 65536 xs - val 65536 ys:=by
  rw [List.take_length,List.take_of_length_le hle] at hv
  have h1:=val_lt hd
  rw [hl] at h1
  rcases Nat.eq_zero_or_pos c with h | h
  · subst h; omega
  · have : 65536 ^ xs.length * 1 ≤ 65536 ^ xs.length * c:=Nat.mul_le_mul_left _ h
    omega
theorem sum_step16 {os : List Nat} {i d c c' s t T : Nat} (hi : i < os.length) (hs : os[i] + s + c = d + 65536 * c') (hT : val 65536 os + 65536 ^ i * c = T) (ht : T + 65536 ^ i * s = t) :
    val 65536 (os.set i d) + 65536 ^ (i + 1) * c' = t:=by
  have h:=val_set (B:=65536) (d:=d) hi
  rw [Nat.pow_succ]
  generalize 65536 ^ i = p at *
  have e : p * (os[i] + s + c) = p * d + p * 65536 * c':=by rw [hs]; grind
  grind
theorem times_round {os xs ys : List Nat} {i k c s : Nat} (hi : i < xs.length) (hk : k < ys.length) (hlo : os.length = xs.length + ys.length) (hv : val 65536 os + 65536 ^ (i + k) * c = val 65536 (xs.take i) * val 65536 ys + 65536 ^ i * (xs[i] * val 65536 (ys.take k)))
    (hs : s = os[i + k] + xs[i] * ys[k] + c) : val 65536 (os.set (i + k) (s % 65536)) + 65536 ^ (i + (k + 1)) * (s / 65536) = val 65536 (xs.take i) * val 65536 ys + 65536 ^ i * (xs[i] * val 65536 (ys.take (k + 1))):=by
  refine sum_step16 (s:=xs[i] * ys[k]) (i:=i + k) (by omega) (by omega) hv ?_
  rw [val_take_succ hk,Nat.pow_add]
  grind
theorem times_end {os xs ys : List Nat} {i c : Nat} (hi : i < xs.length) (hlo : os.length = xs.length + ys.length) (hv : val 65536 os + 65536 ^ (i + ys.length) * c = val 65536 (xs.take i) * val 65536 ys + 65536 ^ i * (xs[i] * val 65536 (ys.take ys.length))) (hz : os.drop (i + ys.length) = List.replicate (xs.length - i) 0) :
    val 65536 (os.set (i + ys.length) c) = val 65536 (xs.take (i + 1)) * val 65536 ys ∧ (os.set (i + ys.length) c).drop (i + 1 + ys.length) = List.replicate (xs.length - (i + 1)) 0:=by
  obtain ⟨z1,z2⟩:=drop_zero_get hz (by omega)
  have h:=val_set (B:=65536) (d:=c) (show i + ys.length < os.length by omega)
  rw [z1] at h
  rw [List.take_length] at hv
  refine ⟨?_,?_⟩
  · rw [val_take_succ hi]
    grind
  · rw [show i + 1 + ys.length = i + ys.length + 1 by omega,drop_set_succ,z2]
    congr 1
theorem mul_lt16 {x y : Nat} (hx : x < 65536) (hy : y < 65536) : x * y ≤ 4294836225:=by
  have:=Nat.mul_le_mul (Nat.le_sub_one_of_lt hx) (Nat.le_sub_one_of_lt hy)
  omega
theorem mul_lt16I {x y : Nat} (hx : x < 65536) (hy : y < 65536) : (0 : Int) ≤ (x : Int) * (y : Int) ∧ (x : Int) * (y : Int) ≤ 4294836225:=by
  have:=mul_lt16 hx hy
  rw [← Int.natCast_mul]
  omega
theorem cmp_lt16 {xs ys : List Nat} {k : Nat} (hx : Digs 65536 xs) (hk : 0 < k) (hlx : k - 1 < xs.length) (hly : k - 1 < ys.length) (hd : xs.drop k = ys.drop k) (h : ((xs[k-1] : Nat) : Int) < ((ys[k-1] : Nat) : Int)) : val 65536 xs < val 65536 ys :=
  val_lt_of_top (by omega) hx hlx hly (by rw [show k - 1 + 1 = k by omega]; exact hd) (by omega)
theorem cmp_same {xs ys : List Nat} {k : Nat} (hk : 0 < k) (hlx : k - 1 < xs.length) (hly : k - 1 < ys.length) (hd : xs.drop k = ys.drop k) (h1 : ((xs[k-1] : Nat) : Int) = ((ys[k-1] : Nat) : Int)) : xs.drop (k - 1) = ys.drop (k - 1):=by
  rw [List.drop_eq_getElem_cons hlx,List.drop_eq_getElem_cons hly,show k - 1 + 1 = k by omega,hd,show xs[k-1] = ys[k-1] by omega]
end Go.Lith
namespace Go.Proofs.YtmcgcnpgkkfkoaaGreatDoor
open Go.RowKit Go.Lith
set_option maxRecDepth 100000
attribute [local irreducible] wpList wpQuiet wpMix wpMixH wpTree Code.wp
theorem cube_c {p : P3} (w : World) (hp : Sm 100 p) : Does Tryz.prog 62 [pt p,.int .i64 8] w (TS 59 (cubeT p 8) w):=by
 refine ⟨en_62,?_⟩
 have m:=Mem.refl w
 have hp1:=hp.1; have hp2:=hp.2.1; have hp3:=hp.2.2
 go_enter Tryz.func62,Tryz.ntmps62
 refine c_seq fun K1 k1=>wp_region_lit (mboxA m rfl ?_)
 clear m; intro g1 u m
 refine n_val (r_assign) (n_nil (k1 _ _ ?_))
 refine c_seq fun K2 k2=>wp_region_lit ?_
 simp only [ev,zD,zE,zF,zG]
 refine malloc m zero_148 rfl ?_
 clear m; intro g2 u m
 refine n_nil (k2 _ _ ?_)
 refine c_seq fun K3 k3=>c_seq fun K4 k4=>wp_region_lit (n_val (r_assign) (n_nil (k4 _ _ ?_)))
 refine wp_block (wp_loop_rounds 9 (rounds_step (c_seq fun K5 k5=>c_seq fun K6 k6=>wp_region_lit (n_val (r_move) (n_val (r_lssT (m:=0) (n:=8) rfl rfl (by decide)) ?_)))))
 simp only [ev,zD,zE,zF,zG]
 refine n_nil (k6 _ _ ?_)
 refine c_yes rfl (wp_skip (k5 _ _ ?_))
 refine c_seq fun K7 k7=>wp_block (wp_region_lit (n_val (r_move) (n_val (r_fieldAddr (c:=0) Tryz.underlying28 rfl cells_3 rfl rfl) ?_)))
 simp only [ev,zD,zE,zF,zG]
 refine n_load rfl ((m.b 1 rfl).lies1 agg_3 rfl) ?_
 simp only [ev,zD,zE,zF,zG]
 refine n_val (r_move) (n_val (r_rem (m:=0) (n:=2) (r:=0) rfl rfl (by decide) (by decide)) (n_val (r_move) (n_val (r_mul (m:=0) (n:=8) (r:=0) rfl rfl (by decide)) ?_)))
 simp only [ev,zD,zE,zF,zG]
 refine n_val (r_add rfl rfl (wrap_i64 (by omega) (by omega))) (n_val (r_fieldAddr (c:=0) Tryz.underlying28 rfl cells_3 rfl rfl) ?_)
 simp only [ev,zD,zE,zF,zG]
 refine n_load rfl ((m.b 1 rfl).lies1 agg_3 rfl) ?_
 simp only [ev,zD,zE,zF,zG]
 refine n_val (r_move) (n_val (r_quo (m:=0) (n:=2) (r:=0) rfl rfl (by decide) (by decide)) (n_val (r_rem (m:=0) (n:=2) (r:=0) rfl rfl (by decide) (by decide)) (n_val (r_move) ?_)))
 simp only [ev,zD,zE,zF,zG]
 refine n_val (r_mul (m:=0) (n:=8) (r:=0) rfl rfl (by decide)) ?_
 simp only [ev,zD,zE,zF,zG]
 refine n_val (r_add rfl rfl (wrap_i64 (by omega) (by omega))) (n_val (r_fieldAddr (c:=0) Tryz.underlying28 rfl cells_3 rfl rfl) ?_)
 simp only [ev,zD,zE,zF,zG]
 refine n_load rfl ((m.b 1 rfl).lies1 agg_3 rfl) ?_
 simp only [ev,zD,zE,zF,zG]
 refine n_val (r_move) (n_val (r_quo (m:=0) (n:=4) (r:=0) rfl rfl (by decide) (by decide)) (n_val (r_move) (n_val (r_mul (m:=0) (n:=8) (r:=0) rfl rfl (by decide)) ?_)))
 simp only [ev,zD,zE,zF,zG]
 refine n_val (r_add rfl rfl (wrap_i64 (by omega) (by omega))) (n_val (r_build_28_0_1_2 rfl rfl rfl) (n_val (r_indexAddrA Tryz.underlying148 cells_28 rfl rfl (by decide) (by decide) rfl) ?_))
 simp only [ev,zD,zE,zF,zG]
 refine mstoreA m 0 rfl rfl rfl cells_28 (leT rfl) rfl ?_
 clear m; intro u m; simp only [over,zH,zI,zJ,zK,zL,zM,zN,zO,zP,zF,zG,Nat.reduceAdd] at m
 refine n_nil (k7 _ _ ?_)
 refine wp_region_lit (n_val (r_move) (n_val (r_add (m:=0) (n:=1) (r:=1) rfl rfl (by decide)) (n_val (r_assign) (n_nil (then_rounds (c_seq fun K8 k8=>c_seq fun K9 k9=>wp_region_lit (n_val (r_move) ?_)))))))
 simp only [ev,zD,zE,zF,zG]
 refine n_val (r_lssT (m:=1) (n:=8) rfl rfl (by decide)) (n_nil (k9 _ _ ?_))
 refine c_yes rfl (wp_skip (k8 _ _ ?_))
 refine c_seq fun K10 k10=>wp_block (wp_region_lit (n_val (r_move) (n_val (r_fieldAddr (c:=0) Tryz.underlying28 rfl cells_3 rfl rfl) ?_)))
 simp only [ev,zD,zE,zF,zG]
 refine n_load rfl ((m.b 1 rfl).lies1 agg_3 rfl) ?_
 simp only [ev,zD,zE,zF,zG]
 refine n_val (r_move) (n_val (r_rem (m:=1) (n:=2) (r:=1) rfl rfl (by decide) (by decide)) (n_val (r_move) (n_val (r_mul (m:=1) (n:=8) (r:=8) rfl rfl (by decide)) ?_)))
 simp only [ev,zD,zE,zF,zG]
 refine n_val (r_add rfl rfl (wrap_i64 (by omega) (by omega))) (n_val (r_fieldAddr (c:=0) Tryz.underlying28 rfl cells_3 rfl rfl) ?_)
 simp only [ev,zD,zE,zF,zG]
 refine n_load rfl ((m.b 1 rfl).lies1 agg_3 rfl) ?_
 simp only [ev,zD,zE,zF,zG]
 refine n_val (r_move) (n_val (r_quo (m:=1) (n:=2) (r:=0) rfl rfl (by decide) (by decide)) (n_val (r_rem (m:=0) (n:=2) (r:=0) rfl rfl (by decide) (by decide)) (n_val (r_move) ?_)))
 simp only [ev,zD,zE,zF,zG]
 refine n_val (r_mul (m:=0) (n:=8) (r:=0) rfl rfl (by decide)) ?_
 simp only [ev,zD,zE,zF,zG]
 refine n_val (r_add rfl rfl (wrap_i64 (by omega) (by omega))) (n_val (r_fieldAddr (c:=0) Tryz.underlying28 rfl cells_3 rfl rfl) ?_)
 simp only [ev,zD,zE,zF,zG]
 refine n_load rfl ((m.b 1 rfl).lies1 agg_3 rfl) ?_
 simp only [ev,zD,zE,zF,zG]
 refine n_val (r_move) (n_val (r_quo (m:=1) (n:=4) (r:=0) rfl rfl (by decide) (by decide)) (n_val (r_move) (n_val (r_mul (m:=0) (n:=8) (r:=0) rfl rfl (by decide)) ?_)))
 simp only [ev,zD,zE,zF,zG]
 refine n_val (r_add rfl rfl (wrap_i64 (by omega) (by omega))) (n_val (r_build_28_0_1_2 rfl rfl rfl) (n_val (r_indexAddrA Tryz.underlying148 cells_28 rfl rfl (by decide) (by decide) rfl) ?_))
 simp only [ev,zD,zE,zF,zG]
 refine mstoreA m 0 rfl rfl rfl cells_28 (leT rfl) rfl ?_
 clear m; intro u m; simp only [over,zH,zI,zJ,zK,zL,zM,zN,zO,zP,zF,zG,Nat.reduceAdd] at m
 refine n_nil (k10 _ _ ?_)
 refine wp_region_lit (n_val (r_move) (n_val (r_add (m:=1) (n:=1) (r:=2) rfl rfl (by decide)) (n_val (r_assign) (n_nil (then_rounds (c_seq fun K11 k11=>c_seq fun K12 k12=>wp_region_lit (n_val (r_move) ?_)))))))
 simp only [ev,zD,zE,zF,zG]
 refine n_val (r_lssT (m:=2) (n:=8) rfl rfl (by decide)) (n_nil (k12 _ _ ?_))
 refine c_yes rfl (wp_skip (k11 _ _ ?_))
 refine c_seq fun K13 k13=>wp_block (wp_region_lit (n_val (r_move) (n_val (r_fieldAddr (c:=0) Tryz.underlying28 rfl cells_3 rfl rfl) ?_)))
 simp only [ev,zD,zE,zF,zG]
 refine n_load rfl ((m.b 1 rfl).lies1 agg_3 rfl) ?_
 simp only [ev,zD,zE,zF,zG]
 refine n_val (r_move) (n_val (r_rem (m:=2) (n:=2) (r:=0) rfl rfl (by decide) (by decide)) (n_val (r_move) (n_val (r_mul (m:=0) (n:=8) (r:=0) rfl rfl (by decide)) ?_)))
 simp only [ev,zD,zE,zF,zG]
 refine n_val (r_add rfl rfl (wrap_i64 (by omega) (by omega))) (n_val (r_fieldAddr (c:=0) Tryz.underlying28 rfl cells_3 rfl rfl) ?_)
 simp only [ev,zD,zE,zF,zG]
 refine n_load rfl ((m.b 1 rfl).lies1 agg_3 rfl) ?_
 simp only [ev,zD,zE,zF,zG]
 refine n_val (r_move) (n_val (r_quo (m:=2) (n:=2) (r:=1) rfl rfl (by decide) (by decide)) (n_val (r_rem (m:=1) (n:=2) (r:=1) rfl rfl (by decide) (by decide)) (n_val (r_move) ?_)))
 simp only [ev,zD,zE,zF,zG]
 refine n_val (r_mul (m:=1) (n:=8) (r:=8) rfl rfl (by decide)) ?_
 simp only [ev,zD,zE,zF,zG]
 refine n_val (r_add rfl rfl (wrap_i64 (by omega) (by omega))) (n_val (r_fieldAddr (c:=0) Tryz.underlying28 rfl cells_3 rfl rfl) ?_)
 simp only [ev,zD,zE,zF,zG]
 refine n_load rfl ((m.b 1 rfl).lies1 agg_3 rfl) ?_
 simp only [ev,zD,zE,zF,zG]
 refine n_val (r_move) (n_val (r_quo (m:=2) (n:=4) (r:=0) rfl rfl (by decide) (by decide)) (n_val (r_move) (n_val (r_mul (m:=0) (n:=8) (r:=0) rfl rfl (by decide)) ?_)))
 simp only [ev,zD,zE,zF,zG]
 refine n_val (r_add rfl rfl (wrap_i64 (by omega) (by omega))) (n_val (r_build_28_0_1_2 rfl rfl rfl) (n_val (r_indexAddrA Tryz.underlying148 cells_28 rfl rfl (by decide) (by decide) rfl) ?_))
 simp only [ev,zD,zE,zF,zG]
 refine mstoreA m 0 rfl rfl rfl cells_28 (leT rfl) rfl ?_
 clear m; intro u m; simp only [over,zH,zI,zJ,zK,zL,zM,zN,zO,zP,zF,zG,Nat.reduceAdd] at m
 refine n_nil (k13 _ _ ?_)
 refine wp_region_lit (n_val (r_move) (n_val (r_add (m:=2) (n:=1) (r:=3) rfl rfl (by decide)) (n_val (r_assign) (n_nil (then_rounds (c_seq fun K14 k14=>c_seq fun K15 k15=>wp_region_lit (n_val (r_move) ?_)))))))
 simp only [ev,zD,zE,zF,zG]
 refine n_val (r_lssT (m:=3) (n:=8) rfl rfl (by decide)) (n_nil (k15 _ _ ?_))
 refine c_yes rfl (wp_skip (k14 _ _ ?_))
 refine c_seq fun K16 k16=>wp_block (wp_region_lit (n_val (r_move) (n_val (r_fieldAddr (c:=0) Tryz.underlying28 rfl cells_3 rfl rfl) ?_)))
 simp only [ev,zD,zE,zF,zG]
 refine n_load rfl ((m.b 1 rfl).lies1 agg_3 rfl) ?_
 simp only [ev,zD,zE,zF,zG]
 refine n_val (r_move) (n_val (r_rem (m:=3) (n:=2) (r:=1) rfl rfl (by decide) (by decide)) (n_val (r_move) (n_val (r_mul (m:=1) (n:=8) (r:=8) rfl rfl (by decide)) ?_)))
 simp only [ev,zD,zE,zF,zG]
 refine n_val (r_add rfl rfl (wrap_i64 (by omega) (by omega))) (n_val (r_fieldAddr (c:=0) Tryz.underlying28 rfl cells_3 rfl rfl) ?_)
 simp only [ev,zD,zE,zF,zG]
 refine n_load rfl ((m.b 1 rfl).lies1 agg_3 rfl) ?_
 simp only [ev,zD,zE,zF,zG]
 refine n_val (r_move) (n_val (r_quo (m:=3) (n:=2) (r:=1) rfl rfl (by decide) (by decide)) (n_val (r_rem (m:=1) (n:=2) (r:=1) rfl rfl (by decide) (by decide)) (n_val (r_move) ?_)))
 simp only [ev,zD,zE,zF,zG]
 refine n_val (r_mul (m:=1) (n:=8) (r:=8) rfl rfl (by decide)) ?_
 simp only [ev,zD,zE,zF,zG]
 refine n_val (r_add rfl rfl (wrap_i64 (by omega) (by omega))) (n_val (r_fieldAddr (c:=0) Tryz.underlying28 rfl cells_3 rfl rfl) ?_)
 simp only [ev,zD,zE,zF,zG]
 refine n_load rfl ((m.b 1 rfl).lies1 agg_3 rfl) ?_
 simp only [ev,zD,zE,zF,zG]
 refine n_val (r_move) (n_val (r_quo (m:=3) (n:=4) (r:=0) rfl rfl (by decide) (by decide)) (n_val (r_move) (n_val (r_mul (m:=0) (n:=8) (r:=0) rfl rfl (by decide)) ?_)))
 simp only [ev,zD,zE,zF,zG]
 refine n_val (r_add rfl rfl (wrap_i64 (by omega) (by omega))) (n_val (r_build_28_0_1_2 rfl rfl rfl) (n_val (r_indexAddrA Tryz.underlying148 cells_28 rfl rfl (by decide) (by decide) rfl) ?_))
 simp only [ev,zD,zE,zF,zG]
 refine mstoreA m 0 rfl rfl rfl cells_28 (leT rfl) rfl ?_
 clear m; intro u m; simp only [over,zH,zI,zJ,zK,zL,zM,zN,zO,zP,zF,zG,Nat.reduceAdd] at m
 refine n_nil (k16 _ _ ?_)
 refine wp_region_lit (n_val (r_move) (n_val (r_add (m:=3) (n:=1) (r:=4) rfl rfl (by decide)) (n_val (r_assign) (n_nil (then_rounds (c_seq fun K17 k17=>c_seq fun K18 k18=>wp_region_lit (n_val (r_move) ?_)))))))
 simp only [ev,zD,zE,zF,zG]
 refine n_val (r_lssT (m:=4) (n:=8) rfl rfl (by decide)) (n_nil (k18 _ _ ?_))
 refine c_yes rfl (wp_skip (k17 _ _ ?_))
 refine c_seq fun K19 k19=>wp_block (wp_region_lit (n_val (r_move) (n_val (r_fieldAddr (c:=0) Tryz.underlying28 rfl cells_3 rfl rfl) ?_)))
 simp only [ev,zD,zE,zF,zG]
 refine n_load rfl ((m.b 1 rfl).lies1 agg_3 rfl) ?_
 simp only [ev,zD,zE,zF,zG]
 refine n_val (r_move) (n_val (r_rem (m:=4) (n:=2) (r:=0) rfl rfl (by decide) (by decide)) (n_val (r_move) (n_val (r_mul (m:=0) (n:=8) (r:=0) rfl rfl (by decide)) ?_)))
 simp only [ev,zD,zE,zF,zG]
 refine n_val (r_add rfl rfl (wrap_i64 (by omega) (by omega))) (n_val (r_fieldAddr (c:=0) Tryz.underlying28 rfl cells_3 rfl rfl) ?_)
 simp only [ev,zD,zE,zF,zG]
 refine n_load rfl ((m.b 1 rfl).lies1 agg_3 rfl) ?_
 simp only [ev,zD,zE,zF,zG]
 refine n_val (r_move) (n_val (r_quo (m:=4) (n:=2) (r:=2) rfl rfl (by decide) (by decide)) (n_val (r_rem (m:=2) (n:=2) (r:=0) rfl rfl (by decide) (by decide)) (n_val (r_move) ?_)))
 simp only [ev,zD,zE,zF,zG]
 refine n_val (r_mul (m:=0) (n:=8) (r:=0) rfl rfl (by decide)) ?_
 simp only [ev,zD,zE,zF,zG]
 refine n_val (r_add rfl rfl (wrap_i64 (by omega) (by omega))) (n_val (r_fieldAddr (c:=0) Tryz.underlying28 rfl cells_3 rfl rfl) ?_)
 simp only [ev,zD,zE,zF,zG]
 refine n_load rfl ((m.b 1 rfl).lies1 agg_3 rfl) ?_
 simp only [ev,zD,zE,zF,zG]
 refine n_val (r_move) (n_val (r_quo (m:=4) (n:=4) (r:=1) rfl rfl (by decide) (by decide)) (n_val (r_move) (n_val (r_mul (m:=1) (n:=8) (r:=8) rfl rfl (by decide)) ?_)))
 simp only [ev,zD,zE,zF,zG]
 refine n_val (r_add rfl rfl (wrap_i64 (by omega) (by omega))) (n_val (r_build_28_0_1_2 rfl rfl rfl) (n_val (r_indexAddrA Tryz.underlying148 cells_28 rfl rfl (by decide) (by decide) rfl) ?_))
 simp only [ev,zD,zE,zF,zG]
 refine mstoreA m 0 rfl rfl rfl cells_28 (leT rfl) rfl ?_
 clear m; intro u m; simp only [over,zH,zI,zJ,zK,zL,zM,zN,zO,zP,zF,zG,Nat.reduceAdd] at m
 refine n_nil (k19 _ _ ?_)
 refine wp_region_lit (n_val (r_move) (n_val (r_add (m:=4) (n:=1) (r:=5) rfl rfl (by decide)) (n_val (r_assign) (n_nil (then_rounds (c_seq fun K20 k20=>c_seq fun K21 k21=>wp_region_lit (n_val (r_move) ?_)))))))
 simp only [ev,zD,zE,zF,zG]
 refine n_val (r_lssT (m:=5) (n:=8) rfl rfl (by decide)) (n_nil (k21 _ _ ?_))
 refine c_yes rfl (wp_skip (k20 _ _ ?_))
 refine c_seq fun K22 k22=>wp_block (wp_region_lit (n_val (r_move) (n_val (r_fieldAddr (c:=0) Tryz.underlying28 rfl cells_3 rfl rfl) ?_)))
 simp only [ev,zD,zE,zF,zG]
 refine n_load rfl ((m.b 1 rfl).lies1 agg_3 rfl) ?_
 simp only [ev,zD,zE,zF,zG]
 refine n_val (r_move) (n_val (r_rem (m:=5) (n:=2) (r:=1) rfl rfl (by decide) (by decide)) (n_val (r_move) (n_val (r_mul (m:=1) (n:=8) (r:=8) rfl rfl (by decide)) ?_)))
 simp only [ev,zD,zE,zF,zG]
 refine n_val (r_add rfl rfl (wrap_i64 (by omega) (by omega))) (n_val (r_fieldAddr (c:=0) Tryz.underlying28 rfl cells_3 rfl rfl) ?_)
 simp only [ev,zD,zE,zF,zG]
 refine n_load rfl ((m.b 1 rfl).lies1 agg_3 rfl) ?_
 simp only [ev,zD,zE,zF,zG]
 refine n_val (r_move) (n_val (r_quo (m:=5) (n:=2) (r:=2) rfl rfl (by decide) (by decide)) (n_val (r_rem (m:=2) (n:=2) (r:=0) rfl rfl (by decide) (by decide)) (n_val (r_move) ?_)))
 simp only [ev,zD,zE,zF,zG]
 refine n_val (r_mul (m:=0) (n:=8) (r:=0) rfl rfl (by decide)) ?_
 simp only [ev,zD,zE,zF,zG]
 refine n_val (r_add rfl rfl (wrap_i64 (by omega) (by omega))) (n_val (r_fieldAddr (c:=0) Tryz.underlying28 rfl cells_3 rfl rfl) ?_)
 simp only [ev,zD,zE,zF,zG]
 refine n_load rfl ((m.b 1 rfl).lies1 agg_3 rfl) ?_
 simp only [ev,zD,zE,zF,zG]
 refine n_val (r_move) (n_val (r_quo (m:=5) (n:=4) (r:=1) rfl rfl (by decide) (by decide)) (n_val (r_move) (n_val (r_mul (m:=1) (n:=8) (r:=8) rfl rfl (by decide)) ?_)))
 simp only [ev,zD,zE,zF,zG]
 refine n_val (r_add rfl rfl (wrap_i64 (by omega) (by omega))) (n_val (r_build_28_0_1_2 rfl rfl rfl) (n_val (r_indexAddrA Tryz.underlying148 cells_28 rfl rfl (by decide) (by decide) rfl) ?_))
 simp only [ev,zD,zE,zF,zG]
 refine mstoreA m 0 rfl rfl rfl cells_28 (leT rfl) rfl ?_
 clear m; intro u m; simp only [over,zH,zI,zJ,zK,zL,zM,zN,zO,zP,zF,zG,Nat.reduceAdd] at m
 refine n_nil (k22 _ _ ?_)
 refine wp_region_lit (n_val (r_move) (n_val (r_add (m:=5) (n:=1) (r:=6) rfl rfl (by decide)) (n_val (r_assign) (n_nil (then_rounds (c_seq fun K23 k23=>c_seq fun K24 k24=>wp_region_lit (n_val (r_move) ?_)))))))
 simp only [ev,zD,zE,zF,zG]
 refine n_val (r_lssT (m:=6) (n:=8) rfl rfl (by decide)) (n_nil (k24 _ _ ?_))
 refine c_yes rfl (wp_skip (k23 _ _ ?_))
 refine c_seq fun K25 k25=>wp_block (wp_region_lit (n_val (r_move) (n_val (r_fieldAddr (c:=0) Tryz.underlying28 rfl cells_3 rfl rfl) ?_)))
 simp only [ev,zD,zE,zF,zG]
 refine n_load rfl ((m.b 1 rfl).lies1 agg_3 rfl) ?_
 simp only [ev,zD,zE,zF,zG]
 refine n_val (r_move) (n_val (r_rem (m:=6) (n:=2) (r:=0) rfl rfl (by decide) (by decide)) (n_val (r_move) (n_val (r_mul (m:=0) (n:=8) (r:=0) rfl rfl (by decide)) ?_)))
 simp only [ev,zD,zE,zF,zG]
 refine n_val (r_add rfl rfl (wrap_i64 (by omega) (by omega))) (n_val (r_fieldAddr (c:=0) Tryz.underlying28 rfl cells_3 rfl rfl) ?_)
 simp only [ev,zD,zE,zF,zG]
 refine n_load rfl ((m.b 1 rfl).lies1 agg_3 rfl) ?_
 simp only [ev,zD,zE,zF,zG]
 refine n_val (r_move) (n_val (r_quo (m:=6) (n:=2) (r:=3) rfl rfl (by decide) (by decide)) (n_val (r_rem (m:=3) (n:=2) (r:=1) rfl rfl (by decide) (by decide)) (n_val (r_move) ?_)))
 simp only [ev,zD,zE,zF,zG]
 refine n_val (r_mul (m:=1) (n:=8) (r:=8) rfl rfl (by decide)) ?_
 simp only [ev,zD,zE,zF,zG]
 refine n_val (r_add rfl rfl (wrap_i64 (by omega) (by omega))) (n_val (r_fieldAddr (c:=0) Tryz.underlying28 rfl cells_3 rfl rfl) ?_)
 simp only [ev,zD,zE,zF,zG]
 refine n_load rfl ((m.b 1 rfl).lies1 agg_3 rfl) ?_
 simp only [ev,zD,zE,zF,zG]
 refine n_val (r_move) (n_val (r_quo (m:=6) (n:=4) (r:=1) rfl rfl (by decide) (by decide)) (n_val (r_move) (n_val (r_mul (m:=1) (n:=8) (r:=8) rfl rfl (by decide)) ?_)))
 simp only [ev,zD,zE,zF,zG]
 refine n_val (r_add rfl rfl (wrap_i64 (by omega) (by omega))) (n_val (r_build_28_0_1_2 rfl rfl rfl) (n_val (r_indexAddrA Tryz.underlying148 cells_28 rfl rfl (by decide) (by decide) rfl) ?_))
 simp only [ev,zD,zE,zF,zG]
 refine mstoreA m 0 rfl rfl rfl cells_28 (leT rfl) rfl ?_
 clear m; intro u m; simp only [over,zH,zI,zJ,zK,zL,zM,zN,zO,zP,zF,zG,Nat.reduceAdd] at m
 refine n_nil (k25 _ _ ?_)
 refine wp_region_lit (n_val (r_move) (n_val (r_add (m:=6) (n:=1) (r:=7) rfl rfl (by decide)) (n_val (r_assign) (n_nil (then_rounds (c_seq fun K26 k26=>c_seq fun K27 k27=>wp_region_lit (n_val (r_move) ?_)))))))
 simp only [ev,zD,zE,zF,zG]
 refine n_val (r_lssT (m:=7) (n:=8) rfl rfl (by decide)) (n_nil (k27 _ _ ?_))
 refine c_yes rfl (wp_skip (k26 _ _ ?_))
 refine c_seq fun K28 k28=>wp_block (wp_region_lit (n_val (r_move) (n_val (r_fieldAddr (c:=0) Tryz.underlying28 rfl cells_3 rfl rfl) ?_)))
 simp only [ev,zD,zE,zF,zG]
 refine n_load rfl ((m.b 1 rfl).lies1 agg_3 rfl) ?_
 simp only [ev,zD,zE,zF,zG]
 refine n_val (r_move) (n_val (r_rem (m:=7) (n:=2) (r:=1) rfl rfl (by decide) (by decide)) (n_val (r_move) (n_val (r_mul (m:=1) (n:=8) (r:=8) rfl rfl (by decide)) ?_)))
 simp only [ev,zD,zE,zF,zG]
 refine n_val (r_add rfl rfl (wrap_i64 (by omega) (by omega))) (n_val (r_fieldAddr (c:=0) Tryz.underlying28 rfl cells_3 rfl rfl) ?_)
 simp only [ev,zD,zE,zF,zG]
 refine n_load rfl ((m.b 1 rfl).lies1 agg_3 rfl) ?_
 simp only [ev,zD,zE,zF,zG]
 refine n_val (r_move) (n_val (r_quo (m:=7) (n:=2) (r:=3) rfl rfl (by decide) (by decide)) (n_val (r_rem (m:=3) (n:=2) (r:=1) rfl rfl (by decide) (by decide)) (n_val (r_move) ?_)))
 simp only [ev,zD,zE,zF,zG]
 refine n_val (r_mul (m:=1) (n:=8) (r:=8) rfl rfl (by decide)) ?_
 simp only [ev,zD,zE,zF,zG]
 refine n_val (r_add rfl rfl (wrap_i64 (by omega) (by omega))) (n_val (r_fieldAddr (c:=0) Tryz.underlying28 rfl cells_3 rfl rfl) ?_)
 simp only [ev,zD,zE,zF,zG]
 refine n_load rfl ((m.b 1 rfl).lies1 agg_3 rfl) ?_
 simp only [ev,zD,zE,zF,zG]
 refine n_val (r_move) (n_val (r_quo (m:=7) (n:=4) (r:=1) rfl rfl (by decide) (by decide)) (n_val (r_move) (n_val (r_mul (m:=1) (n:=8) (r:=8) rfl rfl (by decide)) ?_)))
 simp only [ev,zD,zE,zF,zG]
 refine n_val (r_add rfl rfl (wrap_i64 (by omega) (by omega))) (n_val (r_build_28_0_1_2 rfl rfl rfl) (n_val (r_indexAddrA Tryz.underlying148 cells_28 rfl rfl (by decide) (by decide) rfl) ?_))
 simp only [ev,zD,zE,zF,zG]
 refine mstoreA m 0 rfl rfl rfl cells_28 (leT rfl) rfl ?_
 clear m; intro u m; simp only [over,zH,zI,zJ,zK,zL,zM,zN,zO,zP,zF,zG,Nat.reduceAdd] at m
 refine n_nil (k28 _ _ ?_)
 refine wp_region_lit (n_val (r_move) (n_val (r_add (m:=7) (n:=1) (r:=8) rfl rfl (by decide)) (n_val (r_assign) (n_nil (then_rounds (c_seq fun K29 k29=>c_seq fun K30 k30=>wp_region_lit (n_val (r_move) ?_)))))))
 simp only [ev,zD,zE,zF,zG]
 refine n_val (r_lssF (m:=8) (n:=8) rfl rfl (by decide)) (n_nil (k30 _ _ ?_))
 refine c_no rfl (wp_exit (k3 _ _ ?_))
 refine c_seq fun K31 k31=>?_
 simp only [ev,zD,zE,zF,zG]
 change Mem w _ [bI g2 [.int .i64 (cubeC p 8 0).x,.int .i64 (cubeC p 8 0).y,.int .i64 (cubeC p 8 0).z,.int .i64 (cubeC p 8 1).x,.int .i64 (cubeC p 8 1).y,.int .i64 (cubeC p 8 1).z,.int .i64 (cubeC p 8 2).x,.int .i64 (cubeC p 8 2).y,.int .i64 (cubeC p 8 2).z,.int .i64 (cubeC p 8 3).x,.int .i64 (cubeC p 8 3).y,.int .i64 (cubeC p 8 3).z,.int .i64 (cubeC p 8 4).x,.int .i64 (cubeC p 8 4).y,.int .i64 (cubeC p 8 4).z,.int .i64 (cubeC p 8 5).x,.int .i64 (cubeC p 8 5).y,.int .i64 (cubeC p 8 5).z,.int .i64 (cubeC p 8 6).x,.int .i64 (cubeC p 8 6).y,.int .i64 (cubeC p 8 6).z,.int .i64 (cubeC p 8 7).x,.int .i64 (cubeC p 8 7).y,.int .i64 (cubeC p 8 7).z] _,_] at m
 refine wp_region_lit (n_val (r_indexAddrA Tryz.underlying148 cells_28 rfl rfl (by decide) (by decide) rfl) ?_)
 simp only [ev,zD,zE,zF,zG]
 refine n_load rfl ((m.b 0 rfl).lies agg_28 cells_28 rfl rfl) ?_
 simp only [ev,zD,zE,zF,zG,zH,zI,zJ,zK,Nat.zero_add,Nat.reduceAdd,Nat.reduceMul,Int.reduceToNat]
 refine n_val (r_indexAddrA Tryz.underlying148 cells_28 rfl rfl (by decide) (by decide) rfl) ?_
 simp only [ev,zD,zE,zF,zG]
 refine n_load rfl ((m.b 0 rfl).lies agg_28 cells_28 rfl rfl) ?_
 simp only [ev,zD,zE,zF,zG,zH,zI,zJ,zK,Nat.zero_add,Nat.reduceAdd,Nat.reduceMul,Int.reduceToNat]
 refine n_val (r_indexAddrA Tryz.underlying148 cells_28 rfl rfl (by decide) (by decide) rfl) ?_
 simp only [ev,zD,zE,zF,zG]
 refine n_load rfl ((m.b 0 rfl).lies agg_28 cells_28 rfl rfl) ?_
 simp only [ev,zD,zE,zF,zG,zH,zI,zJ,zK,Nat.zero_add,Nat.reduceAdd,Nat.reduceMul,Int.reduceToNat]
 refine n_val (r_indexAddrA Tryz.underlying148 cells_28 rfl rfl (by decide) (by decide) rfl) ?_
 simp only [ev,zD,zE,zF,zG]
 refine n_load rfl ((m.b 0 rfl).lies agg_28 cells_28 rfl rfl) ?_
 simp only [ev,zD,zE,zF,zG,zH,zI,zJ,zK,Nat.zero_add,Nat.reduceAdd,Nat.reduceMul,Int.reduceToNat]
 refine n_call rfl rfl (quad_c (a:=cubeC p 8 0) (b:=cubeC p 8 2) (c:=cubeC p 8 3) (d:=cubeC p 8 1) _) ?_
 rintro v u e ⟨A1,cap1,_,rfl,rfl,hN⟩; replace m:=m.newO e hN; clear e hN
 refine n_val (r_assign) (n_nil (k31 _ _ ?_))
 refine c_seq fun K32 k32=>wp_region_lit (n_val (r_move) (n_val (r_indexAddrA Tryz.underlying148 cells_28 rfl rfl (by decide) (by decide) rfl) ?_))
 simp only [ev,zD,zE,zF,zG]
 refine n_load rfl ((m.b 1 rfl).lies agg_28 cells_28 rfl rfl) ?_
 simp only [ev,zD,zE,zF,zG,zH,zI,zJ,zK,Nat.zero_add,Nat.reduceAdd,Nat.reduceMul,Int.reduceToNat]
 refine n_val (r_indexAddrA Tryz.underlying148 cells_28 rfl rfl (by decide) (by decide) rfl) ?_
 simp only [ev,zD,zE,zF,zG]
 refine n_load rfl ((m.b 1 rfl).lies agg_28 cells_28 rfl rfl) ?_
 simp only [ev,zD,zE,zF,zG,zH,zI,zJ,zK,Nat.zero_add,Nat.reduceAdd,Nat.reduceMul,Int.reduceToNat]
 refine n_val (r_indexAddrA Tryz.underlying148 cells_28 rfl rfl (by decide) (by decide) rfl) ?_
 simp only [ev,zD,zE,zF,zG]
 refine n_load rfl ((m.b 1 rfl).lies agg_28 cells_28 rfl rfl) ?_
 simp only [ev,zD,zE,zF,zG,zH,zI,zJ,zK,Nat.zero_add,Nat.reduceAdd,Nat.reduceMul,Int.reduceToNat]
 refine n_val (r_indexAddrA Tryz.underlying148 cells_28 rfl rfl (by decide) (by decide) rfl) ?_
 simp only [ev,zD,zE,zF,zG]
 refine n_load rfl ((m.b 1 rfl).lies agg_28 cells_28 rfl rfl) ?_
 simp only [ev,zD,zE,zF,zG,zH,zI,zJ,zK,Nat.zero_add,Nat.reduceAdd,Nat.reduceMul,Int.reduceToNat]
 refine n_call rfl rfl (quad_c (a:=cubeC p 8 4) (b:=cubeC p 8 5) (c:=cubeC p 8 7) (d:=cubeC p 8 6) _) ?_
 rintro v u e ⟨A2,cap2,_,rfl,rfl,hN⟩; replace m:=m.newO e hN; clear e hN
 simp only [ev,zD,zE,zF,zG]
 refine mappend m 1 rfl rfl Tryz.underlying24 inf_59 rfl (by decide) rfl rfl (m.o 0 rfl).own.1 (m.o 0 rfl).row (tris_one _) (leT rfl) (leT rfl) ?_
 clear m; intro A1 cap1 u m; simp only [zF,zG] at m
 refine n_val (r_assign) (n_nil (k32 _ _ ?_))
 refine c_seq fun K33 k33=>wp_region_lit (n_val (r_move) (n_val (r_indexAddrA Tryz.underlying148 cells_28 rfl rfl (by decide) (by decide) rfl) ?_))
 simp only [ev,zD,zE,zF,zG]
 refine n_load rfl ((m.b 2 rfl).lies agg_28 cells_28 rfl rfl) ?_
 simp only [ev,zD,zE,zF,zG,zH,zI,zJ,zK,Nat.zero_add,Nat.reduceAdd,Nat.reduceMul,Int.reduceToNat]
 refine n_val (r_indexAddrA Tryz.underlying148 cells_28 rfl rfl (by decide) (by decide) rfl) ?_
 simp only [ev,zD,zE,zF,zG]
 refine n_load rfl ((m.b 2 rfl).lies agg_28 cells_28 rfl rfl) ?_
 simp only [ev,zD,zE,zF,zG,zH,zI,zJ,zK,Nat.zero_add,Nat.reduceAdd,Nat.reduceMul,Int.reduceToNat]
 refine n_val (r_indexAddrA Tryz.underlying148 cells_28 rfl rfl (by decide) (by decide) rfl) ?_
 simp only [ev,zD,zE,zF,zG]
 refine n_load rfl ((m.b 2 rfl).lies agg_28 cells_28 rfl rfl) ?_
 simp only [ev,zD,zE,zF,zG,zH,zI,zJ,zK,Nat.zero_add,Nat.reduceAdd,Nat.reduceMul,Int.reduceToNat]
 refine n_val (r_indexAddrA Tryz.underlying148 cells_28 rfl rfl (by decide) (by decide) rfl) ?_
 simp only [ev,zD,zE,zF,zG]
 refine n_load rfl ((m.b 2 rfl).lies agg_28 cells_28 rfl rfl) ?_
 simp only [ev,zD,zE,zF,zG,zH,zI,zJ,zK,Nat.zero_add,Nat.reduceAdd,Nat.reduceMul,Int.reduceToNat]
 refine n_call rfl rfl (quad_c (a:=cubeC p 8 0) (b:=cubeC p 8 1) (c:=cubeC p 8 5) (d:=cubeC p 8 4) _) ?_
 rintro v u e ⟨A3,cap3,_,rfl,rfl,hN⟩; replace m:=m.newO e hN; clear e hN
 simp only [ev,zD,zE,zF,zG]
 refine mappend m 2 rfl rfl Tryz.underlying24 inf_59 rfl (by decide) rfl rfl (m.o 0 rfl).own.1 (m.o 0 rfl).row (tris_one _) (leT rfl) (leT rfl) ?_
 clear m; intro A1 cap1 u m; simp only [zF,zG] at m
 refine n_val (r_assign) (n_nil (k33 _ _ ?_))
 refine c_seq fun K34 k34=>wp_region_lit (n_val (r_move) (n_val (r_indexAddrA Tryz.underlying148 cells_28 rfl rfl (by decide) (by decide) rfl) ?_))
 simp only [ev,zD,zE,zF,zG]
 refine n_load rfl ((m.b 3 rfl).lies agg_28 cells_28 rfl rfl) ?_
 simp only [ev,zD,zE,zF,zG,zH,zI,zJ,zK,Nat.zero_add,Nat.reduceAdd,Nat.reduceMul,Int.reduceToNat]
 refine n_val (r_indexAddrA Tryz.underlying148 cells_28 rfl rfl (by decide) (by decide) rfl) ?_
 simp only [ev,zD,zE,zF,zG]
 refine n_load rfl ((m.b 3 rfl).lies agg_28 cells_28 rfl rfl) ?_
 simp only [ev,zD,zE,zF,zG,zH,zI,zJ,zK,Nat.zero_add,Nat.reduceAdd,Nat.reduceMul,Int.reduceToNat]
 refine n_val (r_indexAddrA Tryz.underlying148 cells_28 rfl rfl (by decide) (by decide) rfl) ?_
 simp only [ev,zD,zE,zF,zG]
 refine n_load rfl ((m.b 3 rfl).lies agg_28 cells_28 rfl rfl) ?_
 simp only [ev,zD,zE,zF,zG,zH,zI,zJ,zK,Nat.zero_add,Nat.reduceAdd,Nat.reduceMul,Int.reduceToNat]
 refine n_val (r_indexAddrA Tryz.underlying148 cells_28 rfl rfl (by decide) (by decide) rfl) ?_
 simp only [ev,zD,zE,zF,zG]
 refine n_load rfl ((m.b 3 rfl).lies agg_28 cells_28 rfl rfl) ?_
 simp only [ev,zD,zE,zF,zG,zH,zI,zJ,zK,Nat.zero_add,Nat.reduceAdd,Nat.reduceMul,Int.reduceToNat]
 refine n_call rfl rfl (quad_c (a:=cubeC p 8 2) (b:=cubeC p 8 6) (c:=cubeC p 8 7) (d:=cubeC p 8 3) _) ?_
 rintro v u e ⟨A4,cap4,_,rfl,rfl,hN⟩; replace m:=m.newO e hN; clear e hN
 simp only [ev,zD,zE,zF,zG]
 refine mappend m 3 rfl rfl Tryz.underlying24 inf_59 rfl (by decide) rfl rfl (m.o 0 rfl).own.1 (m.o 0 rfl).row (tris_one _) (leT rfl) (leT rfl) ?_
 clear m; intro A1 cap1 u m; simp only [zF,zG] at m
 refine n_val (r_assign) (n_nil (k34 _ _ ?_))
 refine c_seq fun K35 k35=>wp_region_lit (n_val (r_move) (n_val (r_indexAddrA Tryz.underlying148 cells_28 rfl rfl (by decide) (by decide) rfl) ?_))
 simp only [ev,zD,zE,zF,zG]
 refine n_load rfl ((m.b 4 rfl).lies agg_28 cells_28 rfl rfl) ?_
 simp only [ev,zD,zE,zF,zG,zH,zI,zJ,zK,Nat.zero_add,Nat.reduceAdd,Nat.reduceMul,Int.reduceToNat]
 refine n_val (r_indexAddrA Tryz.underlying148 cells_28 rfl rfl (by decide) (by decide) rfl) ?_
 simp only [ev,zD,zE,zF,zG]
 refine n_load rfl ((m.b 4 rfl).lies agg_28 cells_28 rfl rfl) ?_
 simp only [ev,zD,zE,zF,zG,zH,zI,zJ,zK,Nat.zero_add,Nat.reduceAdd,Nat.reduceMul,Int.reduceToNat]
 refine n_val (r_indexAddrA Tryz.underlying148 cells_28 rfl rfl (by decide) (by decide) rfl) ?_
 simp only [ev,zD,zE,zF,zG]
 refine n_load rfl ((m.b 4 rfl).lies agg_28 cells_28 rfl rfl) ?_
 simp only [ev,zD,zE,zF,zG,zH,zI,zJ,zK,Nat.zero_add,Nat.reduceAdd,Nat.reduceMul,Int.reduceToNat]
 refine n_val (r_indexAddrA Tryz.underlying148 cells_28 rfl rfl (by decide) (by decide) rfl) ?_
 simp only [ev,zD,zE,zF,zG]
 refine n_load rfl ((m.b 4 rfl).lies agg_28 cells_28 rfl rfl) ?_
 simp only [ev,zD,zE,zF,zG,zH,zI,zJ,zK,Nat.zero_add,Nat.reduceAdd,Nat.reduceMul,Int.reduceToNat]
 refine n_call rfl rfl (quad_c (a:=cubeC p 8 0) (b:=cubeC p 8 4) (c:=cubeC p 8 6) (d:=cubeC p 8 2) _) ?_
 rintro v u e ⟨A5,cap5,_,rfl,rfl,hN⟩; replace m:=m.newO e hN; clear e hN
 simp only [ev,zD,zE,zF,zG]
 refine mappend m 4 rfl rfl Tryz.underlying24 inf_59 rfl (by decide) rfl rfl (m.o 0 rfl).own.1 (m.o 0 rfl).row (tris_one _) (leT rfl) (leT rfl) ?_
 clear m; intro A1 cap1 u m; simp only [zF,zG] at m
 refine n_val (r_assign) (n_nil (k35 _ _ ?_))
 refine c_seq fun K36 k36=>wp_region_lit (n_val (r_move) (n_val (r_indexAddrA Tryz.underlying148 cells_28 rfl rfl (by decide) (by decide) rfl) ?_))
 simp only [ev,zD,zE,zF,zG]
 refine n_load rfl ((m.b 5 rfl).lies agg_28 cells_28 rfl rfl) ?_
 simp only [ev,zD,zE,zF,zG,zH,zI,zJ,zK,Nat.zero_add,Nat.reduceAdd,Nat.reduceMul,Int.reduceToNat]
 refine n_val (r_indexAddrA Tryz.underlying148 cells_28 rfl rfl (by decide) (by decide) rfl) ?_
 simp only [ev,zD,zE,zF,zG]
 refine n_load rfl ((m.b 5 rfl).lies agg_28 cells_28 rfl rfl) ?_
 simp only [ev,zD,zE,zF,zG,zH,zI,zJ,zK,Nat.zero_add,Nat.reduceAdd,Nat.reduceMul,Int.reduceToNat]
 refine n_val (r_indexAddrA Tryz.underlying148 cells_28 rfl rfl (by decide) (by decide) rfl) ?_
 simp only [ev,zD,zE,zF,zG]
 refine n_load rfl ((m.b 5 rfl).lies agg_28 cells_28 rfl rfl) ?_
 simp only [ev,zD,zE,zF,zG,zH,zI,zJ,zK,Nat.zero_add,Nat.reduceAdd,Nat.reduceMul,Int.reduceToNat]
 refine n_val (r_indexAddrA Tryz.underlying148 cells_28 rfl rfl (by decide) (by decide) rfl) ?_
 simp only [ev,zD,zE,zF,zG]
 refine n_load rfl ((m.b 5 rfl).lies agg_28 cells_28 rfl rfl) ?_
 simp only [ev,zD,zE,zF,zG,zH,zI,zJ,zK,Nat.zero_add,Nat.reduceAdd,Nat.reduceMul,Int.reduceToNat]
 refine n_call rfl rfl (quad_c (a:=cubeC p 8 1) (b:=cubeC p 8 3) (c:=cubeC p 8 7) (d:=cubeC p 8 5) _) ?_
 rintro v u e ⟨A6,cap6,_,rfl,rfl,hN⟩; replace m:=m.newO e hN; clear e hN
 simp only [ev,zD,zE,zF,zG]
 refine mappend m 5 rfl rfl Tryz.underlying24 inf_59 rfl (by decide) rfl rfl (m.o 0 rfl).own.1 (m.o 0 rfl).row (tris_one _) (leT rfl) (leT rfl) ?_
 clear m; intro A1 cap1 u m; simp only [zF,zG] at m
 refine n_val (r_assign) (n_nil (k36 _ _ ?_))
 refine wp_ret ?_
 simp only [ev,zD,zE,zF,zG]
 try simp only [Exit.inBlock,Exit.then,if_true]
 refine fin1 rfl rfl ?_
 try simp only [zD,zE]
 exact ⟨_,rfl,m.ext,⟨_,_,_,rfl,rfl,((m.o 5 rfl)).as (by simp only [cubeT,List.flatMap_append])⟩⟩
theorem Voxels_c {b : Nat} (w : World) (hb : b < 134217728) : Does Tryz.prog 19 [.int .i64 (b : Int),.int .i64 8,.agg #[.int .i64 4,.int .i64 5,.int .i64 6]] w (TS 59 (voxT b) w):=by
 refine ⟨en_19,?_⟩
 have m:=Mem.refl w
 have hb0:=hb
 go_enter Tryz.func19,Tryz.ntmps19
 refine c_seq fun K1 k1=>wp_region_lit (mboxA m rfl ?_)
 clear m; intro g1 u m
 refine n_val (r_assign) (n_nil (k1 _ _ ?_))
 refine c_seq fun K2 k2=>wp_region_lit (n_val (r_assign) ?_)
 replace m:=m.nilO 59 9
 refine n_nil (k2 _ _ ?_)
 refine c_seq fun K3 k3=>c_seq fun K4 k4=>wp_region_lit (n_val (r_assign) ?_)
 simp only [ev,zD,zE,zF,zG]
 refine n_nil (k4 _ _ ?_)
 refine wp_block ?_
 try simp only [Nat.zero_add,Nat.reduceAdd,Nat.reduceMul,Int.reduceToNat]
 refine c_loopg [7,8] [9,10,11,12,13,14,15,16,17,18,19,20,21,22,23,24,25,26,27,28,29,30,31,32,33,34,35,36,37,38,39,40,41,42,43,44,45,46,47,48,49,50,51,52,53,54,55,56,57,58,59,60,61,62,63,64,65,66,67,68,69,70,71,72,73,74,75,76,77,78,79,80,81,82,83,84,85,86,87,88,89,90,91,92,93,94,95,96,97,98,99,100,101,102,103,104,105,106,107,108,109,110,111,112,113,114,115,116,117,118,119,120,121,122,123,124,125,126,127,128,129,130,131,132,133,134,135,136,137,138,139] (fun n vs wl=>∃ (A1 : Option Addr) (cap1 k : Nat),vs = [.slice A1 (voxPre b (k) (0)).length cap1,.int .i64 (k:Int)] ∧ Mem w wl [oI 59 9 A1 (voxPre b (k) (0)).length cap1 ((voxPre b (k) (0)).flatMap triCells),bI g1 [.int .i64 4,.int .i64 5,.int .i64 6] 28] ∧ (k ≤ 27) ∧ (n = 27 - k)) ?_ ?_
 ·
  apply Exists.intro
  simp only [zQ,zR,zD,zE]
  exact ⟨none,0,0,rfl,m,Nat.zero_le _,rfl⟩
 ·
  intro n vs wr hI u
  clear m
  obtain ⟨A1,cap1,k,rfl,m,hk,hn⟩:=hI
  simp only [setG_cons,setG_nil,setMany_cons,setMany_nil,zF,zG]
  refine c_seq fun K5 k5=>c_seq fun K6 k6=>wp_region_lit (n_val (r_move) (n_val (r_lss rfl rfl) (n_nil (k6 _ _ ?_))))
  simp only [ev,zD,zE,zF,zG]
  refine c_if rfl (fun hc1=>?_) (fun hc1=>?_)
  ·
   refine wp_skip (k5 _ _ ?_)
   refine c_seq fun K7 k7=>wp_block (c_seq fun K8 k8=>wp_region_lit (n_val (r_move) ?_))
   simp only [ev,zD,zE,zF,zG]
   refine n_val (r_rem rfl rfl (by omega) (tmodN (k:=k) (c:=3))) (n_val (r_assign) (n_nil (k8 _ _ ?_)))
   refine c_seq fun K9 k9=>wp_region_lit (n_val (r_move) ?_)
   simp only [ev,zD,zE,zF,zG]
   refine n_val (r_quo rfl rfl (by omega) (quo_i64' (n:=3) (by omega))) ?_
   simp only [ev,zD,zE,zF,zG]
   refine n_val (r_rem rfl rfl (by omega) (tmodN (k:=k / 3) (c:=3))) (n_val (r_assign) (n_nil (k9 _ _ ?_)))
   refine c_seq fun K10 k10=>wp_region_lit (n_val (r_move) ?_)
   simp only [ev,zD,zE,zF,zG]
   refine n_val (r_quo rfl rfl (by omega) (quo_i64' (n:=9) (by omega))) (n_val (r_assign) (n_nil (k10 _ _ ?_)))
   refine c_seq fun K11 k11=>c_seq fun K12 k12=>wp_region_lit (n_val (r_move) (n_val (r_move) ?_))
   simp only [ev,zD,zE,zF,zG]
   refine n_val (r_conv Tryz.underlying89 Tryz.underlying3 rfl (wrap_u64 (by omega) (by omega))) ?_
   simp only [ev,zD,zE,zF,zG]
   refine n_val (r_shr rfl rfl (by omega) (shrI (by omega) (by omega))) (n_val (r_and rfl rfl (and1 (div_le hb))) (n_val (r_eql rfl rfl) (n_nil (k12 _ _ ?_))))
   simp only [ev,zD,zE,zF,zG]
   refine c_if rfl (fun hc2=>?_) (fun hc2=>?_)
   ·
    have hv : vbit b k = false:=by unfold vbit; exact decide_eq_false (by have:=hc2; simp only [Int.toNat_natCast] at this; omega)
    rw [voxPre_no hv] at m ⊢
    refine wp_exit (k7 _ _ ?_)
    refine wp_region_lit (n_val (r_move) ?_)
    simp only [ev,zD,zE,zF,zG]
    refine n_val (r_add rfl rfl (wrap_i64 (by omega) (by omega))) (n_val (r_assign) (n_nil ?_))
    simp only [ev,zD,zE,zF,zG]
    simp only [Exit.inBlock,Exit.then]
    refine ⟨27 - (k + 1),_,?_,rfl,?_,?_⟩
    · omega
    · simp only [zQ,zR,zD,zE,setG_cons,setG_nil,setMany_cons,setMany_nil,zF,zG]
    ·
     simp only [zQ,zR,zD,zE]
     exact ⟨_,_,k + 1,rfl,m,by omega,rfl⟩
   ·
    have hv : vbit b k = true:=by unfold vbit; exact decide_eq_true (by have:=hc2; simp only [Int.toNat_natCast] at this; omega)
    refine wp_skip (k11 _ _ ?_)
    refine c_seq fun K13 k13=>wp_region_lit (n_val (r_fieldAddr (c:=0) Tryz.underlying28 rfl cells_3 rfl rfl) ?_)
    simp only [ev,zD,zE,zF,zG]
    refine n_load rfl ((m.b 1 rfl).lies1 agg_3 rfl) ?_
    simp only [ev,zD,zE,zF,zG]
    refine n_val (r_move) (n_val (r_move) ?_)
    simp only [ev,zD,zE,zF,zG]
    refine n_val (r_mul rfl rfl (wrap_i64 (by omega) (by omega))) ?_
    simp only [ev,zD,zE,zF,zG]
    refine n_val (r_add rfl rfl (wrap_i64 (by omega) (by omega))) (n_val (r_fieldAddr (c:=0) Tryz.underlying28 rfl cells_3 rfl rfl) ?_)
    simp only [ev,zD,zE,zF,zG]
    refine n_load rfl ((m.b 1 rfl).lies1 agg_3 rfl) ?_
    simp only [ev,zD,zE,zF,zG]
    refine n_val (r_move) (n_val (r_move) ?_)
    simp only [ev,zD,zE,zF,zG]
    refine n_val (r_mul rfl rfl (wrap_i64 (by omega) (by omega))) ?_
    simp only [ev,zD,zE,zF,zG]
    refine n_val (r_add rfl rfl (wrap_i64 (by omega) (by omega))) (n_val (r_fieldAddr (c:=0) Tryz.underlying28 rfl cells_3 rfl rfl) ?_)
    simp only [ev,zD,zE,zF,zG]
    refine n_load rfl ((m.b 1 rfl).lies1 agg_3 rfl) ?_
    simp only [ev,zD,zE,zF,zG]
    refine n_val (r_move) (n_val (r_move) ?_)
    simp only [ev,zD,zE,zF,zG]
    refine n_val (r_mul rfl rfl (wrap_i64 (by omega) (by omega))) ?_
    simp only [ev,zD,zE,zF,zG]
    refine n_val (r_add rfl rfl (wrap_i64 (by omega) (by omega))) (n_val (r_build_28_0_1_2 rfl rfl rfl) ?_)
    simp only [ev,zD,zE,zF,zG]
    refine malloc m zero_28 rfl ?_
    clear m; intro g2 u m
    simp only [ev,zD,zE,zF,zG]
    refine mstoreA m 0 rfl rfl rfl cells_28 (leT rfl) rfl ?_
    clear m; intro u m; simp only [over,zH,zI,zJ,zK,zL,zM,zN,zO,zP,zF,zG,Nat.reduceAdd] at m
    refine n_nil (k13 _ _ ?_)
    refine c_seq fun K14 k14=>wp_region_lit (n_load rfl ((m.b 0 rfl).full agg_28 cells_28) ?_)
    simp only [ev,zD,zE,zF,zG]
    refine n_val (r_move) ?_
    simp only [ev,zD,zE,zF,zG]
    refine n_call rfl rfl (cube_c (p:=vP k) _ (vP_sm (by omega))) ?_
    rintro v u e ⟨A2,cap2,_,rfl,rfl,hN⟩; replace m:=m.newO e hN; clear e hN
    obtain ⟨gc,rfl⟩:=(m.o 0 rfl).some (by rw [cubeT_length]; decide)
    rw [cubeT_length] at m ⊢
    refine n_val (r_assign) (n_nil (k14 _ _ ?_))
    refine c_seq fun K15 k15=>wp_region_lit (n_val (r_build_23_0_1_2 rfl rfl rfl) (n_val (r_build_23_0_1_2 rfl rfl rfl) ?_))
    simp only [ev,zD,zE,zF,zG]
    refine n_val (r_build_23_0_1_2 rfl rfl rfl) (n_val (r_build_23_0_1_2 rfl rfl rfl) (n_val (r_build_23_0_1_2 rfl rfl rfl) (n_val (r_build_23_0_1_2 rfl rfl rfl) ?_)))
    simp only [ev,zD,zE,zF,zG]
    refine n_val (r_build_91_0_1_2_3_4_5 rfl rfl rfl rfl rfl rfl) ?_
    simp only [ev,zD,zE,zF,zG]
    refine malloc m zero_91 rfl ?_
    clear m; intro g3 u m
    simp only [ev,zD,zE,zF,zG]
    refine mstoreA m 0 rfl rfl rfl cells_91 (leT rfl) rfl ?_
    clear m; intro u m; simp only [over,zH,zI,zJ,zK,zL,zM,zN,zO,zP,zF,zG,Nat.reduceAdd] at m
    refine n_nil (k15 _ _ ?_)
    refine c_seq fun K16 k16=>wp_region_lit (n_val (r_assign) (n_nil (k16 _ _ ?_)))
    refine wp_block ?_
    simp only [ev,zD,zE,zF,zG]
    try simp only [Nat.zero_add,Nat.reduceAdd,Nat.reduceMul,Int.reduceToNat]
    refine c_loopg [7,15] [16,17,18,19,66,67,68,69,70,71,72,73,74,75,76,77,78,79,80,81,82,83,84,85,86,87,88,89,90,91,92,93,94,95,96,97,98,99,100,101,102,103,104,105,106,107,108,109,110,111,112,113,114,115,116,117,118,119,120,121,122,123,124,125,126,127,128,129,130,131,132,133,134,135,136,137,138,139] (fun n vs wl=>∃ (A1 : Option Addr) (cap1 f : Nat),vs = [.slice A1 (voxPre b (k) (f)).length cap1,.int .i64 (f:Int)] ∧ Mem w wl [bI g3 stepCells 91,oI 59 9 (some ⟨gc,0,none⟩) 12 cap2 ((cubeT (vP k) 8).flatMap triCells),oI 59 9 A1 (voxPre b (k) (f)).length cap1 ((voxPre b (k) (f)).flatMap triCells),bI g1 [.int .i64 4,.int .i64 5,.int .i64 6] 28] ∧ (f ≤ 6) ∧ (n = 6 - f)) ?_ ?_
    ·
     apply Exists.intro
     simp only [zQ,zR,zD,zE]
     exact ⟨_,_,0,rfl,(m.sel [true,true,false,true,true]),Nat.zero_le _,rfl⟩
    ·
     intro n vs wr hI u
     clear m
     obtain ⟨A1,cap1,f,rfl,m,hf6,hn2⟩:=hI
     simp only [setG_cons,setG_nil,setMany_cons,setMany_nil,zF,zG]
     refine c_seq fun K17 k17=>c_seq fun K18 k18=>wp_region_lit (n_val (r_move) (n_val (r_lss rfl rfl) (n_nil (k18 _ _ ?_))))
     simp only [ev,zD,zE,zF,zG]
     refine c_if rfl (fun hc3=>?_) (fun hc3=>?_)
     ·
      have hf : f < 6:=by omega
      have hs:=st_bd f
      obtain ⟨t,u0,ht,hu,hpr⟩:=vox_at (n:=k) hf
      refine wp_skip (k17 _ _ ?_)
      refine c_seq fun K19 k19=>wp_block (c_seq fun K20 k20=>wp_region_lit (n_val (r_move) (n_val (r_move) ?_)))
      simp only [ev,zD,zE,zF,zG]
      refine n_val (r_indexAddrA Tryz.underlying91 cells_23 rfl rfl (by omega) (by omega) (addrBN (Int.toNat_natCast _))) (n_val (r_indexAddrA Tryz.underlying23 cells_3 rfl rfl (by decide) (by decide) rfl) ?_)
      simp only [ev,zD,zE,zF,zG]
      refine n_load rfl ((m.b 0 rfl).lies1 (i:=f * 3) agg_3 (stc_x hf)) ?_
      simp only [ev,zD,zE,zF,zG]
      refine n_val (r_add rfl rfl (wrap_i64 (by omega) (by omega))) (n_val (r_assign) (n_nil (k20 _ _ ?_)))
      refine c_seq fun K21 k21=>wp_region_lit (n_val (r_move) (n_val (r_move) ?_))
      simp only [ev,zD,zE,zF,zG]
      refine n_val (r_indexAddrA Tryz.underlying91 cells_23 rfl rfl (by omega) (by omega) (addrBN (Int.toNat_natCast _))) (n_val (r_indexAddrA Tryz.underlying23 cells_3 rfl rfl (by decide) (by decide) rfl) ?_)
      simp only [ev,zD,zE,zF,zG]
      refine n_load rfl ((m.b 0 rfl).lies1 (i:=f * 3 + 1) agg_3 (stc_y hf)) ?_
      simp only [ev,zD,zE,zF,zG]
      refine n_val (r_add rfl rfl (wrap_i64 (by omega) (by omega))) (n_val (r_assign) (n_nil (k21 _ _ ?_)))
      refine c_seq fun K22 k22=>wp_region_lit (n_val (r_move) (n_val (r_move) ?_))
      simp only [ev,zD,zE,zF,zG]
      refine n_val (r_indexAddrA Tryz.underlying91 cells_23 rfl rfl (by omega) (by omega) (addrBN (Int.toNat_natCast _))) (n_val (r_indexAddrA Tryz.underlying23 cells_3 rfl rfl (by decide) (by decide) rfl) ?_)
      simp only [ev,zD,zE,zF,zG]
      refine n_load rfl ((m.b 0 rfl).lies1 (i:=f * 3 + 2) agg_3 (stc_z hf)) ?_
      simp only [ev,zD,zE,zF,zG]
      refine n_val (r_add rfl rfl (wrap_i64 (by omega) (by omega))) (n_val (r_assign) (n_nil (k22 _ _ ?_)))
      refine c_seq fun K23 k23=>wp_region_lit (n_val (r_move) (n_val (r_geq rfl rfl) ?_))
      simp only [ev,zD,zE,zF,zG]
      refine n_val (r_move) (n_mayT rfl (fun hb=>r_move) (n_mayT rfl (fun hb=>r_lss (mayE hb rfl) rfl) (n_val (r_pickAnd rfl rfl rfl) ?_)))
      simp only [ev,zD,zE,zF,zG]
      refine n_val (r_move) (n_mayT rfl (fun hb=>r_move) (n_mayT rfl (fun hb=>r_geq (mayE hb rfl) rfl) (n_val (r_pickAnd rfl rfl rfl) ?_)))
      simp only [ev,zD,zE,zF,zG]
      refine n_val (r_move) (n_mayT rfl (fun hb=>r_move) (n_mayT rfl (fun hb=>r_lss (mayE hb rfl) rfl) (n_val (r_pickAnd rfl rfl rfl) ?_)))
      simp only [ev,zD,zE,zF,zG]
      refine n_val (r_move) (n_mayT rfl (fun hb=>r_move) (n_mayT rfl (fun hb=>r_geq (mayE hb rfl) rfl) (n_val (r_pickAnd rfl rfl rfl) ?_)))
      simp only [ev,zD,zE,zF,zG]
      refine n_val (r_move) (n_mayT rfl (fun hb=>r_move) (n_mayT rfl (fun hb=>r_lss (mayE hb rfl) rfl) (n_val (r_pickAnd rfl rfl rfl) ?_)))
      simp only [ev,zD,zE,zF,zG]
      refine n_val (r_assign) (n_nil (k23 _ _ ?_))
      refine c_seq fun K24 k24=>wp_region_lit (n_val (r_move) (n_val (r_not rfl) (n_val (r_move) ?_)))
      simp only [ev,zD,zE,zF,zG]
      refine n_mayF rfl (fun hb=>r_move) (n_mayF rfl (fun hb=>r_move) ?_)
      simp only [ev,zD,zE,zF,zG]
      refine n_mayF rfl (fun hb=>r_mul (mayE hb rfl) rfl (wrap_i64 (by omega) (by omega))) (n_mayF rfl (fun hb=>r_move) ?_)
      simp only [ev,zD,zE,zF,zG]
      refine n_mayF rfl (fun hb=>r_add (mayE hb rfl) (mayE hb rfl) (wrap_i64 (by omega) (by omega))) ?_
      simp only [ev,zD,zE,zF,zG]
      refine n_mayF rfl (fun hb=>r_mul (mayE hb rfl) rfl (wrap_i64 (by omega) (by omega))) (n_mayF rfl (fun hb=>r_move) ?_)
      simp only [ev,zD,zE,zF,zG]
      refine n_mayF rfl (fun hb=>r_add (mayE hb rfl) (mayE hb rfl) (wrap_i64 (by omega) (by omega))) (n_mayF rfl (fun hb=>r_conv Tryz.underlying89 Tryz.underlying3 (mayE hb rfl) (wrap_u64 (by have h:=vin hb; omega) (by have h:=vin hb; omega))) ?_)
      simp only [ev,zD,zE,zF,zG]
      refine n_mayF rfl (fun hb=>r_shr (mayE hb rfl) (mayE hb rfl) (by have h:=vin hb; omega) (shrI (by have h:=vin hb; omega) (by have h:=vin hb; omega))) (n_mayF rfl (fun hb=>r_and (mayE hb rfl) rfl (and1 (div_le hb0))) (n_mayF rfl (fun hb=>r_eql (mayE hb rfl) rfl) (n_val (r_pickOr rfl rfl rfl) ?_)))
      simp only [ev,zD,zE,zF,zG]
      refine n_nil (k24 _ _ ?_)
      refine c_cond rfl (fun hc4=>?_) (fun hc4=>?_)
      ·
       have hvf:=(vface_eq (b:=b) (n:=k) (f:=f)).symm.trans hc4
       refine mh m [true,true,false,true] [(0,true),(1,true),(2,true),(3,true),(4,true),(6,true),(7,true),(8,true),(9,true),(10,true),(5,true),(11,true),(12,false),(13,false),(14,true)] follows_mixed (by kernel_rfl) (panic_put (fun _ _ _ _ _ h=>h)) (ol:=?_) ?hol ?_
       case hol=>simp only [zQ,zR,zS,zT,zU,zV]; try rfl
       clear m; intro u m
       refine h_val (r_move) (h_val (r_move) (h_val (r_move) ?_))
       simp only [ev,zD,zE,zF,zG]
       refine h_val (r_mul rfl rfl (wrap_i64 (by omega) (by omega))) ?_
       simp only [ev,zD,zE,zF,zG]
       refine h_val (r_indexAddrS Tryz.underlying24 cells_59 rfl rfl (by omega) (by omega) (addrN (show _ = 2 * f by omega))) (h_val (r_move) (h_val (r_move) ?_))
       simp only [ev,zD,zE,zF,zG]
       refine h_val (r_mul rfl rfl (wrap_i64 (by omega) (by omega))) ?_
       simp only [ev,zD,zE,zF,zG]
       refine h_val (r_add rfl rfl (wrap_i64 (by omega) (by omega))) ?_
       simp only [ev,zD,zE,zF,zG]
       refine h_val (r_indexAddrS Tryz.underlying24 cells_59 rfl rfl (by omega) (by omega) (addrN (show _ = 2 * f + 1 by omega))) ?_
       simp only [ev,zD,zE,zF,zG]
       refine h_load rfl (fun u m=>(((m.o 1 rfl).tri ht).lies agg_59 cells_59)) ?_
       simp only [ev,zD,zE,zF,zG]
       refine h_load rfl (fun u m=>(((m.o 1 rfl).tri hu).lies agg_59 cells_59)) ?_
       simp only [ev,zD,zE,zF,zG]
       refine h_step (n_bs_24_2 rfl rfl ?_)
       intro u g4 e hg hB; replace m:=m.newB e hg hB; clear e hg hB
       refine n_nil ?_
       refine ⟨m.sel [false,true,true,false,true],?_⟩
       refine h_step ?_
       simp only [ev,zD,zE,zF,zG]
       refine mappend m 3 rfl rfl Tryz.underlying24 inf_59 rfl (by decide) rfl rfl rfl (m.b 0 rfl).rowsO (allT rfl) (by have:=voxPre_le (b:=b) (n:=k) (f:=f) (by omega) (by omega); omega) (by have:=voxPre_le (b:=b) (n:=k) (f:=f) (by omega) (by omega); omega) ?_
       clear m; intro A1 cap1 u m; simp only [zF,zG] at m
       rw [vox_cells hpr hvf,vox_len hf hvf] at m
       rw [vox_len hf hvf]
       refine n_nil ?_
       refine ⟨m.sel [false,true,true,false,true],?_⟩
       refine h_val (r_assign) (h_nil (k19 _ _ ?_))
       refine wp_region_lit (n_val (r_move) ?_)
       simp only [ev,zD,zE,zF,zG]
       refine n_val (r_add rfl rfl (wrap_i64 (by omega) (by omega))) (n_val (r_assign) (n_nil ?_))
       simp only [ev,zD,zE,zF,zG]
       simp only [Exit.inBlock,Exit.then]
       refine ⟨6 - (f + 1),_,?_,rfl,?_,?_⟩
       · omega
       · simp only [zQ,zR,zD,zE,setG_cons,setG_nil,setMany_cons,setMany_nil,zF,zG]
       ·
        simp only [zQ,zR,zD,zE]
        exact ⟨_,_,f + 1,rfl,(m.sel [false,true,true,true,true]),by omega,rfl⟩
      ·
       have hvf:=(vface_eq (b:=b) (n:=k) (f:=f)).symm.trans hc4
       rw [← voxPre_out hvf] at m ⊢
       refine wp_skip (k19 _ _ ?_)
       refine wp_region_lit (n_val (r_move) ?_)
       simp only [ev,zD,zE,zF,zG]
       refine n_val (r_add rfl rfl (wrap_i64 (by omega) (by omega))) (n_val (r_assign) (n_nil ?_))
       simp only [ev,zD,zE,zF,zG]
       simp only [Exit.inBlock,Exit.then]
       refine ⟨6 - (f + 1),_,?_,rfl,?_,?_⟩
       · omega
       · simp only [zQ,zR,zD,zE,setG_cons,setG_nil,setMany_cons,setMany_nil,zF,zG]
       ·
        simp only [zQ,zR,zD,zE]
        exact ⟨_,_,f + 1,rfl,m,by omega,rfl⟩
     ·
      have hfq : f = 6:=by omega
      rw [hfq,voxPre_yes hv] at m ⊢
      refine wp_exit (k7 _ _ ?_)
      refine wp_region_lit (n_val (r_move) ?_)
      simp only [ev,zD,zE,zF,zG]
      refine n_val (r_add rfl rfl (wrap_i64 (by omega) (by omega))) (n_val (r_assign) (n_nil ?_))
      simp only [ev,zD,zE,zF,zG]
      simp only [Exit.inBlock,Exit.then]
      refine ⟨27 - (k + 1),_,?_,rfl,?_,?_⟩
      · omega
      · simp only [zQ,zR,zD,zE,setG_cons,setG_nil,setMany_cons,setMany_nil,zF,zG]
      ·
       simp only [zQ,zR,zD,zE]
       exact ⟨_,_,k + 1,rfl,(m.sel [false,false,true,true]),by omega,rfl⟩
  ·
   have hkq : k = 27:=by omega
   rw [hkq,voxPre_end] at m ⊢
   refine wp_exit (k3 _ _ ?_)
   refine c_seq fun K25 k25=>wp_region_lit (n_val (r_move) (n_val (r_assign) (n_nil (k25 _ _ ?_))))
   refine wp_ret ?_
   simp only [ev,zD,zE,zF,zG]
   try simp only [Exit.inBlock,Exit.then,if_true]
   refine fin1 rfl rfl ?_
   try simp only [zD,zE]
   exact ⟨_,rfl,m.ext,⟨_,_,_,rfl,rfl,(m.o 0 rfl)⟩⟩
theorem Base_c {kind bits : Int} [Iw kind] [Iw bits] {N cap : Nat} {A : Option Addr} {zs : List Int} (w : World) (hZ : IntsAt w A N zs) : Does Tryz.prog 41 [.int .i64 kind,.int .i64 bits,.slice A N cap] w (TS 59 (baseT kind bits zs) w):=by
 refine ⟨en_41,?_⟩
 have m:=Mem.refl w
 have hbb:=emod_bd (n:=bits) (m:=134217728) (by decide)
 haveI : Iw (kind.tdiv 3):=⟨(tdiv3_bd (Iw.h (n:=kind))).2⟩
 go_enter Tryz.func41,Tryz.ntmps41
 refine c_seq fun K1 k1=>wp_region_lit (n_val (r_assign) (n_nil (k1 _ _ ?_)))
 refine c_seq fun K2 k2=>c_seq fun K3 k3=>wp_region_lit (n_val (r_move) ?_)
 simp only [ev,zD,zE,zF,zG]
 refine mcallP m rfl rfl (r1Mod_c (n:=kind) (k:=3) (by decide) (by decide)) ?_
 clear m; intro u m
 refine n_val (r_eql rfl rfl) (n_nil (k3 _ _ ?_))
 simp only [ev,zD,zE,zF,zG]
 refine c_if rfl (fun hc1=>?_) (fun hc1=>?_)
 ·
  refine c_seq fun K4 k4=>wp_region_lit (n_val (r_move) ?_)
  simp only [ev,zD,zE,zF,zG]
  refine mcallP m rfl rfl (r1Mod_c (n:=bits) (k:=134217728) (by decide) (by decide)) ?_
  clear m; intro u m
  refine n_val (r_build_28_0_1_2 rfl rfl rfl) ?_
  simp only [ev,zD,zE,zF,zG]
  rw [show bits % 134217728 = (((bits % 134217728).toNat : Nat) : Int) by omega]
  refine n_call rfl rfl (Voxels_c (b:=(bits % 134217728).toNat) _ (by omega)) ?_
  rintro v u e ⟨A1,cap1,_,rfl,rfl,hN⟩; replace m:=m.newO e hN; clear e hN
  refine n_val (r_assign) (n_nil (k4 _ _ ?_))
  refine wp_ret ?_
  simp only [ev,zD,zE,zF,zG]
  try simp only [Exit.inBlock,Exit.then,if_true]
  refine fin1 rfl rfl ?_
  try simp only [zD,zE]
  exact ⟨_,rfl,m.ext,by rw [baseT,if_pos hc1]; exact ⟨_,_,_,rfl,rfl,(m.o 0 rfl)⟩⟩
 ·
  refine wp_skip (k2 _ _ ?_)
  refine c_seq fun K5 k5=>wp_region_lit (n_val (r_move) ?_)
  simp only [ev,zD,zE,zF,zG]
  refine n_val (r_quo rfl rfl (by omega) (tdiv3_bd (Iw.h (n:=kind))).1) (n_val (r_move) ?_)
  simp only [ev,zD,zE,zF,zG]
  refine n_call rfl rfl (Hills_c (n0:=kind.tdiv 3) _ (hZ.ext m.ext)) ?_
  rintro v u e ⟨A1,cap1,_,rfl,rfl,hN⟩; replace m:=m.newO e hN; clear e hN
  refine n_val (r_assign) (n_nil (k5 _ _ ?_))
  refine wp_ret ?_
  simp only [ev,zD,zE,zF,zG]
  try simp only [Exit.inBlock,Exit.then,if_true]
  refine fin1 rfl rfl ?_
  try simp only [zD,zE]
  exact ⟨_,rfl,m.ext,by rw [baseT,if_neg hc1]; exact ⟨_,_,_,rfl,rfl,(m.o 0 rfl)⟩⟩
end Go.Proofs.YtmcgcnpgkkfkoaaGreatDoor
namespace Go.Proofs.YtmcgcnpgkkfkoaaGreatDoor
open Go.RowKit Go.Lith
set_option maxRecDepth 100000
attribute [local irreducible] wpList wpQuiet wpMix wpMixH wpTree Code.wp
theorem take_min {α : Type} (l : List α) (k : Nat) : l.take (min l.length k) = l.take k:=by
 rcases Nat.le_total l.length k with h | h
 · rw [Nat.min_eq_left h,List.take_length,List.take_of_length_le h]
 · rw [Nat.min_eq_right h]
theorem list_c {kind bits q0 q1 q2 : Int} [Iw kind] [Iw bits] [Iw q0] [Iw q1] [Iw q2] {HA MA : Option Addr} {HN Hc MN Mc : Nat} {zs : List Int} {ms : List T3} (w : World) (hZ : IntsAt w HA HN zs) (hM : TrisAt w MA MN ms) (hMc : MN ≤ Mc) : Does Tryz.prog 11 [.agg #[.int .i64 kind,.int .i64 bits,.slice HA HN Hc,.int .i64 q0,.int .i64 q1,.int .i64 q2,.slice MA MN Mc]] w (fun v w'=>∃ bs,TS 59 (bs ++ ms.take 6) w v w' ∧ bs.length ≤ 40 ∧ (∀ t ∈ bs,SmT 200 t)):=by
 refine ⟨en_11,?_⟩
 have m:=Mem.refl w
 obtain rfl : ms.length = MN:=hM.len
 go_enter Tryz.func11,Tryz.ntmps11
 refine c_seq fun K1 k1=>wp_region_lit (mboxA m rfl ?_)
 clear m; intro g1 u m
 refine n_val (r_assign) (n_nil (k1 _ _ ?_))
 refine c_seq fun K2 k2=>?_
 simp only [ev,zD,zE,zF,zG]
 refine mh m [true] [(0,true),(2,true),(4,true),(7,true),(1,true),(3,true),(5,true),(8,true),(6,false),(9,false),(10,true)] follows_mixed (by kernel_rfl) (panic_put (fun _ _ _ _ _ h=>h)) (ol:=?_) ?hol ?_
 case hol=>simp only [zQ,zR,zS,zT,zU,zV]; try rfl
 clear m; intro u m
 refine h_val (r_fieldAddr (c:=0) Tryz.underlying26 rfl cells_3 rfl rfl) (h_val (r_fieldAddr (c:=0) Tryz.underlying26 rfl cells_3 rfl rfl) (h_val (r_fieldAddr (c:=0) Tryz.underlying26 rfl cells_22 rfl rfl) (h_val (r_fieldAddr (c:=2) Tryz.underlying26 rfl cells_23 rfl rfl) ?_)))
 simp only [ev,zD,zE,zF,zG]
 refine h_load rfl (fun u m=>((m.b 0 rfl).lies1 agg_3 rfl)) ?_
 simp only [ev,zD,zE,zF,zG]
 refine h_load rfl (fun u m=>((m.b 0 rfl).lies1 agg_3 rfl)) ?_
 simp only [ev,zD,zE,zF,zG]
 refine h_load rfl (fun u m=>((m.b 0 rfl).lies1 agg_22 rfl)) ?_
 simp only [ev,zD,zE,zF,zG]
 refine h_load rfl (fun u m=>((m.b 0 rfl).lies agg_23 cells_23 rfl rfl)) ?_
 simp only [ev,zD,zE,zF,zG,zH,zI,zJ,zK,Nat.zero_add,Nat.reduceAdd,Nat.reduceMul,Int.reduceToNat]
 refine h_step (n_call rfl rfl (Base_c (kind:=kind) (bits:=bits) _ (hZ.ext m.ext)) ?_)
 rintro v u e ⟨A1,cap1,_,rfl,rfl,hN⟩; replace m:=m.newO e hN; clear e hN
 refine n_nil ?_
 refine ⟨m.sel [false,true],?_⟩
 refine h_step ?_
 simp only [ev,zD,zE,zF,zG]
 refine n_call rfl rfl (Spoiled_c (q0:=q0) (q1:=q1) (q2:=q2) _ ((m.o 0 rfl).tris (fun t ht=>(baseT_sm t ht).it (by decide))) (Nat.le_trans baseT_le (by decide))) ?_
 rintro v u e ⟨us,⟨A2,cap2,_,rfl,rfl,hN⟩,hsub,hle⟩; replace m:=m.newO e hN; clear e hN
 refine n_nil ?_
 refine ⟨m.sel [false,false,true],?_⟩
 refine h_val (r_assign) (h_nil (k2 _ _ ?_))
 refine c_seq fun K3 k3=>?_
 simp only [ev,zD,zE,zF,zG]
 have hle2:=(m.o 0 rfl).le
 refine mq_tail m 12 follows_mixed (by kernel_rfl) ?_
 simp only [zH,zI,zJ,zK]
 refine q_val (r_move) (q_val (r_move) (q_val (r_lenS rfl Tryz.underlying24 rfl) (q_val (r_min rfl rfl (min_law (a:=us.length) (b:=40))) ?_)))
 simp only [ev,zD,zE,zF,zG]
 refine q_val (r_sliceHi Tryz.underlying24 cells_59 rfl rfl (Int.toNat_natCast _) (by omega) (by omega)) (q_val (r_fieldAddr (c:=0) Tryz.underlying26 rfl cells_24 rfl rfl) ?_)
 simp only [ev,zD,zE,zF,zG]
 refine ql rfl (fun u m=>((m.b 2 rfl).lies1 agg_24 rfl)) ?_
 simp only [ev,zD,zE,zF,zG]
 refine q_val (r_fieldAddr (c:=0) Tryz.underlying26 rfl cells_24 rfl rfl) ?_
 simp only [ev,zD,zE,zF,zG]
 refine ql rfl (fun u m=>((m.b 2 rfl).lies1 agg_24 rfl)) ?_
 simp only [ev,zD,zE,zF,zG]
 refine q_val (r_lenS rfl Tryz.underlying24 rfl) (q_val (r_min rfl rfl (min_law (a:=ms.length) (b:=6))) ?_)
 simp only [ev,zD,zE,zF,zG]
 refine q_val (r_sliceHi Tryz.underlying24 cells_59 rfl rfl (Int.toNat_natCast _) (by omega) (by omega)) (q_nil ?_)
 clear m; intro u m
 simp only [ev,zD,zE,zF,zG]
 replace m:=m.reO 0 rfl ((m.o 0 rfl).takeT (Nat.min_le_left us.length 40)); simp only [zF,zG] at m
 refine mappend m 0 rfl rfl Tryz.underlying24 inf_59 rfl (by decide) rfl rfl (by rw [tri_len,(hM.take (Nat.min_le_left _ _)).len]) (TrisAt.cells ((hM.take (Nat.min_le_left _ 6)).ext m.ext)) (tris_one _) (by omega) (by omega) ?_
 clear m; intro A2 cap2 u m; simp only [zF,zG] at m
 refine n_val (r_assign) (n_nil (k3 _ _ ?_))
 refine wp_ret ?_
 simp only [ev,zD,zE,zF,zG]
 try simp only [Exit.inBlock,Exit.then,if_true]
 refine fin1 rfl rfl ?_
 try simp only [zD,zE]
 exact ⟨_,rfl,m.ext,us.take (min us.length 40),⟨_,_,_,by simp only [List.length_append,List.length_take]; omega,rfl,(m.o 0 rfl).as (by rw [← List.flatMap_append,take_min ms 6])⟩,by rw [List.length_take]; omega,fun t ht=>hsub.sm baseT_sm t (List.mem_of_mem_take ht)⟩
end Go.Proofs.YtmcgcnpgkkfkoaaGreatDoor
namespace Go.Proofs.YtmcgcnpgkkfkoaaGreatDoor
open Go.RowKit Go.Lith
set_option maxRecDepth 100000
attribute [local irreducible] wpList wpQuiet wpMix Code.wp
theorem trim_c {A : Option Addr} {xs : List Nat} {b na cap : Nat} (w : World) (hS : DigAt w b A na cap xs) : Does Tryz.prog 111 [.slice A na cap] w (fun v _=>v = .slice A (trim xs).length cap):=by
 skip
 refine ⟨en_111,?_⟩
 have hX:=Ext.refl w
 obtain rfl:=hS.eq
 have hl:=hS.len
 have hle:=hS.le
 have hcp:=hS.cap
 go_enter Tryz.func111,Tryz.ntmps111
 refine c_seq (fun K1 hK1=>wp_region_lit (n_val (r_assign) ?_))
 simp only [ev,zD,zE,zF,zG]
 refine n_nil ?_
 refine hK1 _ _ ?_
 refine c_seq (fun K2 hK2=>wp_block ?_)
 refine c_loopg [0] [3,4,5,6,7,8,9,10,11,12,13,14,15,16,17,18,19] (fun n vs wl=>∃ (k : Nat),vs = [.slice A k cap] ∧ (Ext w wl) ∧ (k ≤ xs.length) ∧ (trim (xs.take k) = trim xs) ∧ (n = k)) ?_ ?_
 ·
  apply Exists.intro
  simp only [zQ,zR,zD,zE]
  exact ⟨xs.length,rfl,hX,Nat.le_refl _,by rw [List.take_length],rfl⟩
 ·
  intro n vs wr hI u
  obtain ⟨k,rfl,hX,hk,ht,hn⟩:=hI
  simp only [setG_cons,setG_nil,setMany_cons,setMany_nil,zF,zG]
  refine c_seq (fun K3 hK3=>c_seq (fun K4 hK4=>?_))
  by_cases hk0 : 0 < k
  ·
   obtain ⟨a,rfl,hcell,hlt⟩:=(hS.ext hX).get (show k - 1 < xs.length by omega)
   refine wp_region_lit (n_val (r_move) (n_val (r_lenS rfl Tryz.underlying22 rfl) (n_val (r_gtrT rfl rfl (by omega)) ?_)))
   simp only [ev,zD,zE,zF,zG]
   refine n_val (r_move) ?_
   simp only [ev,zD,zE,zF,zG]
   refine n_want rfl (n_val (r_move) ?_)
   simp only [ev,zD,zE,zF,zG]
   refine n_want rfl (n_val (r_move) ?_)
   simp only [ev,zD,zE,zF,zG]
   refine n_want rfl (n_val (r_lenS rfl Tryz.underlying22 rfl) ?_)
   simp only [ev,zD,zE,zF,zG]
   refine n_want rfl (n_val (r_sub rfl rfl (wrap_i64 (by omega) (by omega))) ?_)
   simp only [ev,zD,zE,zF,zG]
   refine n_want rfl (n_val (r_indexAddrS Tryz.underlying22 cells_3 rfl rfl (by omega) (by omega) (addr1 (show _ = k - 1 by omega))) ?_)
   simp only [ev,zD,zE,zF,zG]
   refine n_want rfl ?_
   refine n_load rfl (lies1 hcell agg_3) ?_
   simp only [ev,zD,zE,zF,zG]
   refine n_want rfl (n_val (r_eql rfl rfl) (n_val (r_pickT rfl) ?_))
   simp only [ev,zD,zE,zF,zG]
   refine n_nil ?_
   refine hK4 _ _ ?_
   refine c_if rfl (fun hc1=>?_) (fun hc1=>?_)
   ·
    refine wp_skip ?_
    refine hK3 _ _ ?_
    refine wp_block (wp_region_lit (n_val (r_move) (n_val (r_move) (n_val (r_lenS rfl Tryz.underlying22 rfl) ?_))))
    simp only [ev,zD,zE,zF,zG]
    refine n_val (r_sub rfl rfl (wrap_i64 (by omega) (by omega))) (n_val (r_sliceHi Tryz.underlying22 cells_3 rfl rfl (show _ = k - 1 by omega) (by omega) (by omega)) (n_val (r_assign) ?_))
    simp only [ev,zD,zE,zF,zG]
    refine n_nil ?_
    simp only [Exit.inBlock,Exit.then]
    refine ⟨k - 1,_,?_,rfl,?_,?_⟩
    · omega
    · simp only [zQ,zR,zD,zE,setG_cons,setG_nil,setMany_cons,setMany_nil,zF,zG]
    ·
     simp only [zQ,zR,zD,zE]
     exact ⟨k - 1,rfl,hX,by omega,norm_zero hk0 (by omega) hc1 ht,rfl⟩
   ·
    refine wp_exit ?_
    refine hK2 _ _ ?_
    refine c_seq (fun K5 hK5=>wp_region_lit (n_val (r_move) (n_val (r_assign) ?_)))
    simp only [ev,zD,zE,zF,zG]
    refine n_nil ?_
    refine hK5 _ _ ?_
    refine wp_ret ?_
    try simp only [Exit.inBlock,Exit.then]
    refine fin1 rfl rfl ?_
    try simp only [zD,zE]
    exact ⟨_,rfl,hX,by rw [← norm_pos hk0 (by omega) hc1 ht]⟩
  ·
   obtain rfl : k = 0:=by omega
   refine wp_region_lit (n_val (r_move) (n_val (r_lenS rfl Tryz.underlying22 rfl) (n_val (r_gtrF rfl rfl (by omega)) ?_)))
   simp only [ev,zD,zE,zF,zG]
   refine n_val (r_move) ?_
   simp only [ev,zD,zE,zF,zG]
   refine n_skipT rfl ?_
   simp only [ev,zD,zE,zF,zG]
   refine n_skipT rfl ?_
   simp only [ev,zD,zE,zF,zG]
   refine n_skipT rfl ?_
   simp only [ev,zD,zE,zF,zG]
   refine n_skipT rfl ?_
   simp only [ev,zD,zE,zF,zG]
   refine n_skipT rfl ?_
   simp only [ev,zD,zE,zF,zG]
   refine n_skipT rfl ?_
   simp only [ev,zD,zE,zF,zG]
   refine n_skipT rfl ?_
   simp only [ev,zD,zE,zF,zG]
   refine n_val (r_pickF rfl) ?_
   simp only [ev,zD,zE,zF,zG]
   refine n_nil ?_
   refine hK4 _ _ ?_
   refine c_no rfl (wp_exit ?_)
   refine hK2 _ _ ?_
   refine c_seq (fun K6 hK6=>wp_region_lit (n_val (r_move) (n_val (r_assign) ?_)))
   simp only [ev,zD,zE,zF,zG]
   refine n_nil ?_
   refine hK6 _ _ ?_
   refine wp_ret ?_
   try simp only [Exit.inBlock,Exit.then]
   refine fin1 rfl rfl ?_
   try simp only [zD,zE]
   exact ⟨_,rfl,hX,by rw [← norm_nil ht]⟩
theorem compare_c {A B : Option Addr} {xs ys : List Nat} {b b2 na nb ca cb : Nat} (w : World) (hS : DigAt w b A na ca xs) (hR : DigAt w b2 B nb cb ys) (tx : Trimmed xs) (ty : Trimmed ys) : Does Tryz.prog 112 [.slice A na ca,.slice B nb cb] w (fun v _=>v = .int .i64 (ord (val 65536 xs) (val 65536 ys))):=by
 skip
 refine ⟨en_112,?_⟩
 have hX:=Ext.refl w
 obtain rfl:=hS.eq
 obtain rfl:=hR.eq
 have hl:=hS.len
 have hl2:=hR.len
 go_enter Tryz.func112,Tryz.ntmps112
 refine c_seq (fun K1 hK1=>wp_region_lit (n_val (r_assign) ?_))
 simp only [ev,zD,zE,zF,zG]
 refine n_nil ?_
 refine hK1 _ _ ?_
 refine c_seq (fun K2 hK2=>c_seq (fun K3 hK3=>wp_region_lit (n_val (r_move) (n_val (r_lenS rfl Tryz.underlying22 rfl) (n_val (r_move) ?_)))))
 simp only [ev,zD,zE,zF,zG]
 refine n_val (r_lenS rfl Tryz.underlying22 rfl) (n_val (r_neq rfl rfl) ?_)
 simp only [ev,zD,zE,zF,zG]
 refine n_nil ?_
 refine hK3 _ _ ?_
 refine c_if rfl (fun hc1=>?_) (fun hc1=>?_)
 ·
  refine c_seq (fun K4 hK4=>c_seq (fun K5 hK5=>wp_region_lit (n_val (r_move) (n_val (r_lenS rfl Tryz.underlying22 rfl) (n_val (r_move) ?_)))))
  simp only [ev,zD,zE,zF,zG]
  refine n_val (r_lenS rfl Tryz.underlying22 rfl) (n_val (r_lss rfl rfl) ?_)
  simp only [ev,zD,zE,zF,zG]
  refine n_nil ?_
  refine hK5 _ _ ?_
  refine c_if rfl (fun hc2=>?_) (fun hc2=>?_)
  ·
   refine c_seq (fun K6 hK6=>wp_region_lit (n_val (r_assign) ?_))
   simp only [ev,zD,zE,zF,zG]
   refine n_nil ?_
   refine hK6 _ _ ?_
   refine wp_ret ?_
   try simp only [Exit.inBlock,Exit.then]
   refine fin1 rfl rfl ?_
   try simp only [zD,zE]
   exact ⟨_,rfl,hX,by rw [ord,if_pos (val_lt_of_length (by omega) hS.digs hR.digs ty (by omega))]⟩
  ·
   refine wp_skip ?_
   refine hK4 _ _ ?_
   refine c_seq (fun K7 hK7=>wp_region_lit (n_val (r_assign) ?_))
   simp only [ev,zD,zE,zF,zG]
   refine n_nil ?_
   refine hK7 _ _ ?_
   refine wp_ret ?_
   try simp only [Exit.inBlock,Exit.then]
   refine fin1 rfl rfl ?_
   try simp only [zD,zE]
   exact ⟨_,rfl,hX,by have:=val_lt_of_length (B:=65536) (by omega) hR.digs hS.digs tx (by omega); rw [ord,if_neg (by omega),if_pos this]⟩
 ·
  refine wp_skip ?_
  refine hK2 _ _ ?_
  refine c_seq (fun K8 hK8=>c_seq (fun K9 hK9=>wp_region_lit (n_val (r_move) (n_val (r_lenS rfl Tryz.underlying22 rfl) (n_val (r_sub rfl rfl (wrap_i64 (by omega) (by omega))) ?_)))))
  simp only [ev,zD,zE,zF,zG]
  refine n_val (r_assign) ?_
  simp only [ev,zD,zE,zF,zG]
  refine n_nil ?_
  refine hK9 _ _ ?_
  refine wp_block ?_
  refine c_loopg [5] [4,19,20,21,22,23,24,25,26,27,28,29,30,31,32,33,34,35,36,37,38,39,40] (fun n vs wl=>∃ (k : Nat),vs = [.int .i64 ((k:Int) - 1)] ∧ (Ext w wl) ∧ (k ≤ xs.length) ∧ (xs.drop k = ys.drop k) ∧ (n = k)) ?_ ?_
  ·
   apply Exists.intro
   simp only [zQ,zR,zD,zE]
   exact ⟨xs.length,rfl,hX,Nat.le_refl _,by rw [List.drop_length,show xs.length = ys.length by omega,List.drop_length],rfl⟩
  ·
   intro n vs wr hI u
   obtain ⟨k,rfl,hX,hk,hd,hn⟩:=hI
   simp only [setG_cons,setG_nil,setMany_cons,setMany_nil,zF,zG]
   refine c_seq (fun K10 hK10=>c_seq (fun K11 hK11=>wp_region_lit (n_val (r_move) (n_val (r_geq rfl rfl) ?_))))
   simp only [ev,zD,zE,zF,zG]
   refine n_nil ?_
   refine hK11 _ _ ?_
   refine c_if rfl (fun hc3=>?_) (fun hc3=>?_)
   ·
    refine wp_skip ?_
    refine hK10 _ _ ?_
    refine c_seq (fun K12 hK12=>wp_block (c_seq (fun K13 hK13=>?_)))
    obtain ⟨a,rfl,hca,_⟩:=(hS.ext hX).get (show k - 1 < xs.length by omega)
    obtain ⟨b,rfl,hcb,_⟩:=(hR.ext hX).get (show k - 1 < ys.length by omega)
    refine wp_region_ext follows_mixed (by kernel_rfl) (q_val (r_move) (q_val (r_move) (q_val (r_indexAddrS Tryz.underlying22 cells_3 rfl rfl (by omega) (by omega) (addr1 (show _ = k - 1 by omega))) ?_)))
    simp only [ev,zD,zE,zF,zG]
    refine q_load rfl (fun _ hE'=>(lies1 (hE'.cell hca) agg_3)) ?_
    simp only [ev,zD,zE,zF,zG]
    refine q_val (r_move) (q_val (r_move) (q_val (r_indexAddrS Tryz.underlying22 cells_3 rfl rfl (by omega) (by omega) (addr1 (show _ = k - 1 by omega))) ?_))
    simp only [ev,zD,zE,zF,zG]
    refine q_load rfl (fun _ hE'=>(lies1 (hE'.cell hcb) agg_3)) ?_
    simp only [ev,zD,zE,zF,zG]
    refine q_val (r_neq rfl rfl) ?_
    simp only [ev,zD,zE,zF,zG]
    refine q_nil ?_
    intro w1 hE
    replace hX:=hX.trans hE
    clear hE
    refine hK13 _ _ ?_
    refine c_if rfl (fun hc4=>?_) (fun hc4=>?_)
    ·
     refine c_seq (fun K14 hK14=>c_seq (fun K15 hK15=>?_))
     have hca:=(hS.ext hX).at (show k - 1 < xs.length by omega)
     have hcb:=(hR.ext hX).at (show k - 1 < ys.length by omega)
     refine wp_region_ext follows_mixed (by kernel_rfl) (q_val (r_move) (q_val (r_move) (q_val (r_indexAddrS Tryz.underlying22 cells_3 rfl rfl (by omega) (by omega) (addr1 (show _ = k - 1 by omega))) ?_)))
     simp only [ev,zD,zE,zF,zG]
     refine q_load rfl (fun _ hE'=>(lies1 (hE'.cell hca) agg_3)) ?_
     simp only [ev,zD,zE,zF,zG]
     refine q_val (r_move) (q_val (r_move) (q_val (r_indexAddrS Tryz.underlying22 cells_3 rfl rfl (by omega) (by omega) (addr1 (show _ = k - 1 by omega))) ?_))
     simp only [ev,zD,zE,zF,zG]
     refine q_load rfl (fun _ hE'=>(lies1 (hE'.cell hcb) agg_3)) ?_
     simp only [ev,zD,zE,zF,zG]
     refine q_val (r_lss rfl rfl) ?_
     simp only [ev,zD,zE,zF,zG]
     refine q_nil ?_
     intro w2 hE
     replace hX:=hX.trans hE
     clear hE
     refine hK15 _ _ ?_
     refine c_if rfl (fun hc5=>?_) (fun hc5=>?_)
     ·
      refine c_seq (fun K16 hK16=>wp_region_lit (n_val (r_assign) ?_))
      simp only [ev,zD,zE,zF,zG]
      refine n_nil ?_
      refine hK16 _ _ ?_
      refine wp_ret ?_
      try simp only [Exit.inBlock,Exit.then]
      refine fin1 rfl rfl ?_
      try simp only [zD,zE]
      exact ⟨_,rfl,hX,by rw [ord,if_pos (cmp_lt16 hS.digs (by omega) (by omega) (by omega) hd hc5)]⟩
     ·
      refine wp_skip ?_
      refine hK14 _ _ ?_
      refine c_seq (fun K17 hK17=>wp_region_lit (n_val (r_assign) ?_))
      simp only [ev,zD,zE,zF,zG]
      refine n_nil ?_
      refine hK17 _ _ ?_
      refine wp_ret ?_
      try simp only [Exit.inBlock,Exit.then]
      refine fin1 rfl rfl ?_
      try simp only [zD,zE]
      exact ⟨_,rfl,hX,by have:=cmp_lt16 hR.digs (by omega) (by omega) (by omega) hd.symm (by omega); rw [ord,if_neg (by omega),if_pos this]⟩
    ·
     refine wp_skip ?_
     refine hK12 _ _ ?_
     refine wp_region_lit (n_val (r_move) (n_val (r_sub rfl rfl (wrap_i64 (by omega) (by omega))) (n_val (r_assign) ?_)))
     simp only [ev,zD,zE,zF,zG]
     refine n_nil ?_
     rw [show ((k:Int) - 1 - 1) = ((k - 1 : Nat) : Int) - 1 by omega]
     simp only [Exit.inBlock,Exit.then]
     refine ⟨k - 1,_,?_,rfl,?_,?_⟩
     · omega
     · simp only [zQ,zR,zD,zE,setG_cons,setG_nil,setMany_cons,setMany_nil,zF,zG]
     ·
      simp only [zQ,zR,zD,zE]
      exact ⟨k - 1,rfl,hX,by omega,cmp_same (by omega) (by omega) (by omega) hd (by omega),rfl⟩
   ·
    refine wp_exit ?_
    refine hK8 _ _ ?_
    refine c_seq (fun K18 hK18=>wp_region_lit (n_val (r_assign) ?_))
    simp only [ev,zD,zE,zF,zG]
    refine n_nil ?_
    refine hK18 _ _ ?_
    refine wp_ret ?_
    try simp only [Exit.inBlock,Exit.then]
    refine fin1 rfl rfl ?_
    try simp only [zD,zE]
    exact ⟨_,rfl,hX,by have h0 : k = 0:=(by omega); subst h0; simp only [List.drop_zero] at hd; rw [hd,ord,if_neg (by omega),if_neg (by omega)]⟩
theorem plus_c {A B : Option Addr} {xs ys : List Nat} {na nb ca cb : Nat} (w : World) (hS : DigAt w w.heap.size A na ca xs) (hR : DigAt w w.heap.size B nb cb ys) (hlx : xs.length ≤ 1000000000000) (hly : ys.length ≤ 1000000000000) : Does Tryz.prog 113 [.slice A na ca,.slice B nb cb] w (DigVal (val 65536 xs + val 65536 ys) (max xs.length ys.length + 1)):=by
 skip
 refine ⟨en_113,?_⟩
 have hX:=Ext.refl w
 obtain rfl:=hS.eq
 obtain rfl:=hR.eq
 obtain ⟨M,hM⟩ : ∃ M,M = max xs.length ys.length:=⟨_,rfl⟩
 rw [← hM]
 go_enter Tryz.func113,Tryz.ntmps113
 refine c_seq (fun K1 hK1=>wp_region_lit (n_val (r_assign) ?_))
 simp only [ev,zD,zE,zF,zG]
 refine n_nil ?_
 refine hK1 _ _ ?_
 refine c_seq (fun K2 hK2=>wp_region_lit (n_val (r_assign) ?_))
 simp only [ev,zD,zE,zF,zG]
 obtain ⟨b5,hb5e,hb5l⟩:=hX.base
 have hS5:=Base.of hX hb5e
 have hO5:=Owns.nil_of hX b5 3 1
 clear hb5e
 refine n_nil ?_
 refine hK2 _ _ ?_
 refine c_seq (fun K3 hK3=>wp_region_lit (n_val (r_assign) ?_))
 simp only [ev,zD,zE,zF,zG]
 refine n_nil ?_
 refine hK3 _ _ ?_
 refine c_seq (fun K4 hK4=>c_seq (fun K5 hK5=>wp_region_lit (n_val (r_assign) ?_)))
 simp only [ev,zD,zE,zF,zG]
 refine n_nil ?_
 refine hK5 _ _ ?_
 refine wp_block ?_
 refine c_loopg [5,6,7] [8,9,10,11,12,13,14,15,16,17,18,19,20,21,22,23,24,25,26,27,28,29,30,31,32,33,34,35,36,37,38,39,40,41,42,43,44,45,46,47,48,49,50,51,52] (fun n vs wl=>∃ (i c : Nat) (os : List Nat) (v5 : Value),vs = [v5,.int .i64 (c:Int),.int .i64 (i:Int)] ∧ (Ext w wl) ∧ (DigAt wl w.heap.size A xs.length ca xs) ∧ (DigAt wl w.heap.size B ys.length cb ys) ∧ (Base wl b5) ∧ (Owns wl b5 3 1 v5 os.length (os.map i64v)) ∧ (os.length = i) ∧ (val 65536 os + 65536 ^ i * c = val 65536 (xs.take i) + val 65536 (ys.take i)) ∧ (Digs 65536 os) ∧ (c ≤ 1) ∧ (i ≤ M + 1) ∧ (i = M + 1 → c = 0) ∧ (n = M + 1 - i)) ?_ ?_
 ·
  apply Exists.intro
  simp only [zQ,zR,zD,zE]
  exact ⟨0,0,[],_,rfl,hX,hS,hR,hS5,hO5,rfl,by simp [val],digs_nil _,by omega,by omega,fun _=>rfl,rfl⟩
 ·
  intro n vs wr hI u
  obtain ⟨i,c,os,v5,rfl,hX,hS,hR,hS5,hO5,hlo,hv,hd,hc,hi,hic,hn⟩:=hI
  simp only [setG_cons,setG_nil,setMany_cons,setMany_nil,zF,zG]
  refine c_seq (fun K6 hK6=>c_seq (fun K7 hK7=>?_))
  rcases (show i < xs.length ∨ (¬ i < xs.length ∧ i < ys.length) ∨ (¬ i < xs.length ∧ ¬ i < ys.length ∧ 0 < c) ∨ (¬ i < xs.length ∧ ¬ i < ys.length ∧ c = 0) by omega) with hw | ⟨hw,hw2⟩ | ⟨hw,hw2,hw3⟩ | ⟨hw,hw2,rfl⟩
  ·
   refine wp_region_lit (n_val (r_move) (n_val (r_move) (n_val (r_lenS rfl Tryz.underlying22 rfl) ?_)))
   simp only [ev,zD,zE,zF,zG]
   refine n_val (r_lssT rfl rfl (by omega)) (n_val (r_move) ?_)
   simp only [ev,zD,zE,zF,zG]
   refine n_skipF rfl ?_
   simp only [ev,zD,zE,zF,zG]
   refine n_skipF rfl ?_
   simp only [ev,zD,zE,zF,zG]
   refine n_skipF rfl ?_
   simp only [ev,zD,zE,zF,zG]
   refine n_skipF rfl ?_
   simp only [ev,zD,zE,zF,zG]
   refine n_val (r_pickT rfl) (n_val (r_move) ?_)
   simp only [ev,zD,zE,zF,zG]
   refine n_skipF rfl ?_
   simp only [ev,zD,zE,zF,zG]
   refine n_skipF rfl ?_
   simp only [ev,zD,zE,zF,zG]
   refine n_val (r_pickT rfl) ?_
   simp only [ev,zD,zE,zF,zG]
   refine n_nil ?_
   refine hK7 _ _ ?_
   refine c_yes rfl (wp_skip ?_)
   refine hK6 _ _ ?_
   refine c_seq (fun K8 hK8=>wp_block (c_seq (fun K9 hK9=>wp_region_lit (n_val (r_move) (n_val (r_assign) ?_)))))
   simp only [ev,zD,zE,zF,zG]
   refine n_nil ?_
   refine hK9 _ _ ?_
   refine c_seq (fun K10 hK10=>c_seq (fun K11 hK11=>wp_region_lit (n_val (r_move) (n_val (r_move) (n_val (r_lenS rfl Tryz.underlying22 rfl) ?_)))))
   simp only [ev,zD,zE,zF,zG]
   refine n_val (r_lssT rfl rfl (by omega)) ?_
   simp only [ev,zD,zE,zF,zG]
   refine n_nil ?_
   refine hK11 _ _ ?_
   refine c_yes rfl ?_
   obtain ⟨a,rfl,hca,hla⟩:=hS.get (show i < xs.length by omega)
   refine wp_region_lit (n_val (r_move) (n_val (r_move) (n_val (r_move) ?_)))
   simp only [ev,zD,zE,zF,zG]
   refine n_val (r_indexAddrS Tryz.underlying22 cells_3 rfl rfl (by omega) (by omega) (addr1 (Int.toNat_natCast _))) ?_
   simp only [ev,zD,zE,zF,zG]
   refine n_load rfl (lies1 hca agg_3) ?_
   simp only [ev,zD,zE,zF,zG]
   refine n_val (r_add rfl rfl (wrap_i64 (by omega) (by omega))) (n_val (r_assign) ?_)
   simp only [ev,zD,zE,zF,zG]
   refine n_nil ?_
   obtain ⟨s1,hs1⟩ : ∃ s1 : Nat,s1 = c + xs[i]:=⟨_,rfl⟩
   rw [show ((c:Int) + (xs[i]:Int)) = (s1:Int) by omega]
   have hs2 : s1 = c + xs[i]?.getD 0:=by rw [List.getElem?_eq_getElem (by omega)]; exact hs1
   have hs3 : s1 < 65537:=by omega
   refine hK10 _ _ ?_
   refine c_seq (fun K12 hK12=>c_seq (fun K13 hK13=>wp_region_lit (n_val (r_move) (n_val (r_move) (n_val (r_lenS rfl Tryz.underlying22 rfl) ?_)))))
   simp only [ev,zD,zE,zF,zG]
   refine n_val (r_lss rfl rfl) ?_
   simp only [ev,zD,zE,zF,zG]
   refine n_nil ?_
   refine hK13 _ _ ?_
   refine c_if rfl (fun hc3=>?_) (fun hc3=>?_)
   ·
    obtain ⟨a2,rfl,hcb,hlb⟩:=hR.get (show i < ys.length by omega)
    refine wp_region_lit (n_val (r_move) (n_val (r_move) (n_val (r_move) ?_)))
    simp only [ev,zD,zE,zF,zG]
    refine n_val (r_indexAddrS Tryz.underlying22 cells_3 rfl rfl (by omega) (by omega) (addr1 (Int.toNat_natCast _))) ?_
    simp only [ev,zD,zE,zF,zG]
    refine n_load rfl (lies1 hcb agg_3) ?_
    simp only [ev,zD,zE,zF,zG]
    refine n_val (r_add rfl rfl (wrap_i64 (by omega) (by omega))) (n_val (r_assign) ?_)
    simp only [ev,zD,zE,zF,zG]
    refine n_nil ?_
    obtain ⟨s,hs⟩ : ∃ s : Nat,s = s1 + ys[i]:=⟨_,rfl⟩
    rw [show ((s1:Int) + (ys[i]:Int)) = (s:Int) by omega]
    have hs4 : s = c + xs[i]?.getD 0 + ys[i]?.getD 0:=by rw [List.getElem?_eq_getElem (l:=ys) (by omega)]; simp only [Option.getD_some]; omega
    have hs5 : s < 131072:=by omega
    refine hK12 _ _ ?_
    refine c_seq (fun K14 hK14=>wp_region_lit (n_val (r_move) (n_val (r_move) (n_val (r_rem rfl rfl (by omega) (rem_nat (n:=65536))) ?_))))
    simp only [ev,zD,zE,zF,zG]
    refine n_build1 Tryz.underlying22 (z:=.int .i64 0) (by kernel_rfl) rfl (by simp only [ev,zD,zE,zF,zG]; rfl) (by rfl) ?_
    intro w1 g1 hE hg1 hB1
    have hG1:=Nat.le_trans hX.size hg1
    (try replace hS:=hS.ext hE); (try replace hR:=hR.ext hE); (try replace hS5:=hS5.ext hE); (try replace hO5:=hO5.ext hE); replace hX:=hX.trans hE
    clear hE hg1
    simp only [ev,zD,zE,zF,zG]
    refine n_append rfl Tryz.underlying22 inf_3 rfl (by decide) rfl hO5 rfl (news:=_) rfl hB1.row0 (by simp [Value.oneCell']) (by omega) (by omega) hS5.h ?_
    clear hO5; intro v5 w2 hO5 hGr _
    (try replace hS:=hS.grew hGr (by first | trivial | omega)); (try replace hR:=hR.grew hGr (by first | trivial | omega)); (try replace hS5:=hS5.grew hGr (by first | trivial | omega)); replace hX:=hX.grown hGr hb5l
    clear hGr
    replace hO5:=hO5.snoc
    simp only [ev,zD,zE,zF,zG]
    refine n_val (r_assign) ?_
    simp only [ev,zD,zE,zF,zG]
    refine n_nil ?_
    refine hK14 _ _ ?_
    refine wp_region_lit (n_val (r_move) (n_val (r_quo rfl rfl (by omega) (quo_i64 (n:=65536) (by omega))) (n_val (r_assign) ?_)))
    simp only [ev,zD,zE,zF,zG]
    refine n_nil ?_
    refine hK8 _ _ ?_
    refine wp_region_lit (n_val (r_move) (n_val (r_add rfl rfl (wrap_i64 (by omega) (by omega))) (n_val (r_assign) ?_)))
    simp only [ev,zD,zE,zF,zG]
    refine n_nil ?_
    obtain ⟨r1,r2⟩:=plus_round hlo hv hd hs4
    rw [show ((i:Int) + 1) = ((i + 1 : Nat) : Int) by omega]
    simp only [Exit.inBlock,Exit.then]
    refine ⟨M + 1 - (i + 1),_,?_,rfl,?_,?_⟩
    · omega
    · simp only [zQ,zR,zD,zE,setG_cons,setG_nil,setMany_cons,setMany_nil,zF,zG]
    ·
     simp only [zQ,zR,zD,zE]
     exact ⟨i + 1,s / 65536,os ++ [s % 65536],v5,rfl,hX,hS,hR,hS5,hO5,by simp; omega,r1,r2,by omega,by omega,fun h=>by rw [List.getElem?_eq_none (l:=xs) (by omega),List.getElem?_eq_none (l:=ys) (by omega)] at hs4; simp at hs4; omega,rfl⟩
   ·
    obtain ⟨s,hs⟩ : ∃ s : Nat,s = s1:=⟨_,rfl⟩
    rw [← hs]
    have hs4 : s = c + xs[i]?.getD 0 + ys[i]?.getD 0:=by rw [List.getElem?_eq_none (l:=ys) (by omega)]; simp only [Option.getD_none]; omega
    have hs5 : s < 131072:=by omega
    refine wp_skip ?_
    refine hK12 _ _ ?_
    refine c_seq (fun K15 hK15=>wp_region_lit (n_val (r_move) (n_val (r_move) (n_val (r_rem rfl rfl (by omega) (rem_nat (n:=65536))) ?_))))
    simp only [ev,zD,zE,zF,zG]
    refine n_build1 Tryz.underlying22 (z:=.int .i64 0) (by kernel_rfl) rfl (by simp only [ev,zD,zE,zF,zG]; rfl) (by rfl) ?_
    intro w1 g1 hE hg1 hB1
    have hG1:=Nat.le_trans hX.size hg1
    (try replace hS:=hS.ext hE); (try replace hR:=hR.ext hE); (try replace hS5:=hS5.ext hE); (try replace hO5:=hO5.ext hE); replace hX:=hX.trans hE
    clear hE hg1
    simp only [ev,zD,zE,zF,zG]
    refine n_append rfl Tryz.underlying22 inf_3 rfl (by decide) rfl hO5 rfl (news:=_) rfl hB1.row0 (by simp [Value.oneCell']) (by omega) (by omega) hS5.h ?_
    clear hO5; intro v5 w2 hO5 hGr _
    (try replace hS:=hS.grew hGr (by first | trivial | omega)); (try replace hR:=hR.grew hGr (by first | trivial | omega)); (try replace hS5:=hS5.grew hGr (by first | trivial | omega)); replace hX:=hX.grown hGr hb5l
    clear hGr
    replace hO5:=hO5.snoc
    simp only [ev,zD,zE,zF,zG]
    refine n_val (r_assign) ?_
    simp only [ev,zD,zE,zF,zG]
    refine n_nil ?_
    refine hK15 _ _ ?_
    refine wp_region_lit (n_val (r_move) (n_val (r_quo rfl rfl (by omega) (quo_i64 (n:=65536) (by omega))) (n_val (r_assign) ?_)))
    simp only [ev,zD,zE,zF,zG]
    refine n_nil ?_
    refine hK8 _ _ ?_
    refine wp_region_lit (n_val (r_move) (n_val (r_add rfl rfl (wrap_i64 (by omega) (by omega))) (n_val (r_assign) ?_)))
    simp only [ev,zD,zE,zF,zG]
    refine n_nil ?_
    obtain ⟨r1,r2⟩:=plus_round hlo hv hd hs4
    rw [show ((i:Int) + 1) = ((i + 1 : Nat) : Int) by omega]
    simp only [Exit.inBlock,Exit.then]
    refine ⟨M + 1 - (i + 1),_,?_,rfl,?_,?_⟩
    · omega
    · simp only [zQ,zR,zD,zE,setG_cons,setG_nil,setMany_cons,setMany_nil,zF,zG]
    ·
     simp only [zQ,zR,zD,zE]
     exact ⟨i + 1,s / 65536,os ++ [s % 65536],v5,rfl,hX,hS,hR,hS5,hO5,by simp; omega,r1,r2,by omega,by omega,fun h=>by rw [List.getElem?_eq_none (l:=xs) (by omega),List.getElem?_eq_none (l:=ys) (by omega)] at hs4; simp at hs4; omega,rfl⟩
  ·
   refine wp_region_lit (n_val (r_move) (n_val (r_move) (n_val (r_lenS rfl Tryz.underlying22 rfl) ?_)))
   simp only [ev,zD,zE,zF,zG]
   refine n_val (r_lssF rfl rfl (by omega)) (n_val (r_move) ?_)
   simp only [ev,zD,zE,zF,zG]
   refine n_want rfl (n_val (r_move) ?_)
   simp only [ev,zD,zE,zF,zG]
   refine n_want rfl (n_val (r_move) ?_)
   simp only [ev,zD,zE,zF,zG]
   refine n_want rfl (n_val (r_lenS rfl Tryz.underlying22 rfl) ?_)
   simp only [ev,zD,zE,zF,zG]
   refine n_want rfl (n_val (r_lssT rfl rfl (by omega)) (n_val (r_pickF rfl) (n_val (r_move) ?_)))
   simp only [ev,zD,zE,zF,zG]
   refine n_skipF rfl ?_
   simp only [ev,zD,zE,zF,zG]
   refine n_skipF rfl ?_
   simp only [ev,zD,zE,zF,zG]
   refine n_val (r_pickT rfl) ?_
   simp only [ev,zD,zE,zF,zG]
   refine n_nil ?_
   refine hK7 _ _ ?_
   refine c_yes rfl (wp_skip ?_)
   refine hK6 _ _ ?_
   refine c_seq (fun K16 hK16=>wp_block (c_seq (fun K17 hK17=>wp_region_lit (n_val (r_move) (n_val (r_assign) ?_)))))
   simp only [ev,zD,zE,zF,zG]
   refine n_nil ?_
   obtain ⟨s1,hs1⟩ : ∃ s1 : Nat,s1 = c:=⟨_,rfl⟩
   rw [← hs1]
   have hs2 : s1 = c + xs[i]?.getD 0:=by rw [List.getElem?_eq_none (by omega)]; exact hs1
   have hs3 : s1 < 65537:=by omega
   refine hK17 _ _ ?_
   refine c_seq (fun K18 hK18=>c_seq (fun K19 hK19=>wp_region_lit (n_val (r_move) (n_val (r_move) (n_val (r_lenS rfl Tryz.underlying22 rfl) ?_)))))
   simp only [ev,zD,zE,zF,zG]
   refine n_val (r_lssF rfl rfl (by omega)) ?_
   simp only [ev,zD,zE,zF,zG]
   refine n_nil ?_
   refine hK19 _ _ ?_
   refine c_no rfl (wp_skip ?_)
   refine hK18 _ _ ?_
   refine c_seq (fun K20 hK20=>c_seq (fun K21 hK21=>wp_region_lit (n_val (r_move) (n_val (r_move) (n_val (r_lenS rfl Tryz.underlying22 rfl) ?_)))))
   simp only [ev,zD,zE,zF,zG]
   refine n_val (r_lssT rfl rfl (by omega)) ?_
   simp only [ev,zD,zE,zF,zG]
   refine n_nil ?_
   refine hK21 _ _ ?_
   refine c_yes rfl ?_
   obtain ⟨a2,rfl,hcb,hlb⟩:=hR.get (show i < ys.length by omega)
   refine wp_region_lit (n_val (r_move) (n_val (r_move) (n_val (r_move) ?_)))
   simp only [ev,zD,zE,zF,zG]
   refine n_val (r_indexAddrS Tryz.underlying22 cells_3 rfl rfl (by omega) (by omega) (addr1 (Int.toNat_natCast _))) ?_
   simp only [ev,zD,zE,zF,zG]
   refine n_load rfl (lies1 hcb agg_3) ?_
   simp only [ev,zD,zE,zF,zG]
   refine n_val (r_add rfl rfl (wrap_i64 (by omega) (by omega))) (n_val (r_assign) ?_)
   simp only [ev,zD,zE,zF,zG]
   refine n_nil ?_
   obtain ⟨s,hs⟩ : ∃ s : Nat,s = s1 + ys[i]:=⟨_,rfl⟩
   rw [show ((s1:Int) + (ys[i]:Int)) = (s:Int) by omega]
   have hs4 : s = c + xs[i]?.getD 0 + ys[i]?.getD 0:=by rw [List.getElem?_eq_getElem (l:=ys) (by omega)]; simp only [Option.getD_some]; omega
   have hs5 : s < 131072:=by omega
   refine hK20 _ _ ?_
   refine c_seq (fun K22 hK22=>wp_region_lit (n_val (r_move) (n_val (r_move) (n_val (r_rem rfl rfl (by omega) (rem_nat (n:=65536))) ?_))))
   simp only [ev,zD,zE,zF,zG]
   refine n_build1 Tryz.underlying22 (z:=.int .i64 0) (by kernel_rfl) rfl (by simp only [ev,zD,zE,zF,zG]; rfl) (by rfl) ?_
   intro w1 g1 hE hg1 hB1
   have hG1:=Nat.le_trans hX.size hg1
   (try replace hS:=hS.ext hE); (try replace hR:=hR.ext hE); (try replace hS5:=hS5.ext hE); (try replace hO5:=hO5.ext hE); replace hX:=hX.trans hE
   clear hE hg1
   simp only [ev,zD,zE,zF,zG]
   refine n_append rfl Tryz.underlying22 inf_3 rfl (by decide) rfl hO5 rfl (news:=_) rfl hB1.row0 (by simp [Value.oneCell']) (by omega) (by omega) hS5.h ?_
   clear hO5; intro v5 w2 hO5 hGr _
   (try replace hS:=hS.grew hGr (by first | trivial | omega)); (try replace hR:=hR.grew hGr (by first | trivial | omega)); (try replace hS5:=hS5.grew hGr (by first | trivial | omega)); replace hX:=hX.grown hGr hb5l
   clear hGr
   replace hO5:=hO5.snoc
   simp only [ev,zD,zE,zF,zG]
   refine n_val (r_assign) ?_
   simp only [ev,zD,zE,zF,zG]
   refine n_nil ?_
   refine hK22 _ _ ?_
   refine wp_region_lit (n_val (r_move) (n_val (r_quo rfl rfl (by omega) (quo_i64 (n:=65536) (by omega))) (n_val (r_assign) ?_)))
   simp only [ev,zD,zE,zF,zG]
   refine n_nil ?_
   refine hK16 _ _ ?_
   refine wp_region_lit (n_val (r_move) (n_val (r_add rfl rfl (wrap_i64 (by omega) (by omega))) (n_val (r_assign) ?_)))
   simp only [ev,zD,zE,zF,zG]
   refine n_nil ?_
   obtain ⟨r1,r2⟩:=plus_round hlo hv hd hs4
   rw [show ((i:Int) + 1) = ((i + 1 : Nat) : Int) by omega]
   simp only [Exit.inBlock,Exit.then]
   refine ⟨M + 1 - (i + 1),_,?_,rfl,?_,?_⟩
   · omega
   · simp only [zQ,zR,zD,zE,setG_cons,setG_nil,setMany_cons,setMany_nil,zF,zG]
   ·
    simp only [zQ,zR,zD,zE]
    exact ⟨i + 1,s / 65536,os ++ [s % 65536],v5,rfl,hX,hS,hR,hS5,hO5,by simp; omega,r1,r2,by omega,by omega,fun h=>by rw [List.getElem?_eq_none (l:=xs) (by omega),List.getElem?_eq_none (l:=ys) (by omega)] at hs4; simp at hs4; omega,rfl⟩
  ·
   refine wp_region_lit (n_val (r_move) (n_val (r_move) (n_val (r_lenS rfl Tryz.underlying22 rfl) ?_)))
   simp only [ev,zD,zE,zF,zG]
   refine n_val (r_lssF rfl rfl (by omega)) (n_val (r_move) ?_)
   simp only [ev,zD,zE,zF,zG]
   refine n_want rfl (n_val (r_move) ?_)
   simp only [ev,zD,zE,zF,zG]
   refine n_want rfl (n_val (r_move) ?_)
   simp only [ev,zD,zE,zF,zG]
   refine n_want rfl (n_val (r_lenS rfl Tryz.underlying22 rfl) ?_)
   simp only [ev,zD,zE,zF,zG]
   refine n_want rfl (n_val (r_lssF rfl rfl (by omega)) (n_val (r_pickF rfl) (n_val (r_move) ?_)))
   simp only [ev,zD,zE,zF,zG]
   refine n_want rfl (n_val (r_move) ?_)
   simp only [ev,zD,zE,zF,zG]
   refine n_want rfl (n_val (r_gtrT rfl rfl (by omega)) (n_val (r_pickF rfl) ?_))
   simp only [ev,zD,zE,zF,zG]
   refine n_nil ?_
   refine hK7 _ _ ?_
   refine c_yes rfl (wp_skip ?_)
   refine hK6 _ _ ?_
   refine c_seq (fun K23 hK23=>wp_block (c_seq (fun K24 hK24=>wp_region_lit (n_val (r_move) (n_val (r_assign) ?_)))))
   simp only [ev,zD,zE,zF,zG]
   refine n_nil ?_
   obtain ⟨s1,hs1⟩ : ∃ s1 : Nat,s1 = c:=⟨_,rfl⟩
   rw [← hs1]
   have hs2 : s1 = c + xs[i]?.getD 0:=by rw [List.getElem?_eq_none (by omega)]; exact hs1
   have hs3 : s1 < 65537:=by omega
   refine hK24 _ _ ?_
   refine c_seq (fun K25 hK25=>c_seq (fun K26 hK26=>wp_region_lit (n_val (r_move) (n_val (r_move) (n_val (r_lenS rfl Tryz.underlying22 rfl) ?_)))))
   simp only [ev,zD,zE,zF,zG]
   refine n_val (r_lssF rfl rfl (by omega)) ?_
   simp only [ev,zD,zE,zF,zG]
   refine n_nil ?_
   refine hK26 _ _ ?_
   refine c_no rfl (wp_skip ?_)
   refine hK25 _ _ ?_
   refine c_seq (fun K27 hK27=>c_seq (fun K28 hK28=>wp_region_lit (n_val (r_move) (n_val (r_move) (n_val (r_lenS rfl Tryz.underlying22 rfl) ?_)))))
   simp only [ev,zD,zE,zF,zG]
   refine n_val (r_lssF rfl rfl (by omega)) ?_
   simp only [ev,zD,zE,zF,zG]
   refine n_nil ?_
   refine hK28 _ _ ?_
   refine c_no rfl (wp_skip ?_)
   refine hK27 _ _ ?_
   refine c_seq (fun K29 hK29=>?_)
   obtain ⟨s,hs⟩ : ∃ s : Nat,s = s1:=⟨_,rfl⟩
   rw [← hs]
   have hs4 : s = c + xs[i]?.getD 0 + ys[i]?.getD 0:=by rw [List.getElem?_eq_none (l:=ys) (by omega)]; simp only [Option.getD_none]; omega
   have hs5 : s < 131072:=by omega
   refine wp_region_lit (n_val (r_move) (n_val (r_move) (n_val (r_rem rfl rfl (by omega) (rem_nat (n:=65536))) ?_)))
   simp only [ev,zD,zE,zF,zG]
   refine n_build1 Tryz.underlying22 (z:=.int .i64 0) (by kernel_rfl) rfl (by simp only [ev,zD,zE,zF,zG]; rfl) (by rfl) ?_
   intro w1 g1 hE hg1 hB1
   have hG1:=Nat.le_trans hX.size hg1
   (try replace hS:=hS.ext hE); (try replace hR:=hR.ext hE); (try replace hS5:=hS5.ext hE); (try replace hO5:=hO5.ext hE); replace hX:=hX.trans hE
   clear hE hg1
   simp only [ev,zD,zE,zF,zG]
   refine n_append rfl Tryz.underlying22 inf_3 rfl (by decide) rfl hO5 rfl (news:=_) rfl hB1.row0 (by simp [Value.oneCell']) (by omega) (by omega) hS5.h ?_
   clear hO5; intro v5 w2 hO5 hGr _
   (try replace hS:=hS.grew hGr (by first | trivial | omega)); (try replace hR:=hR.grew hGr (by first | trivial | omega)); (try replace hS5:=hS5.grew hGr (by first | trivial | omega)); replace hX:=hX.grown hGr hb5l
   clear hGr
   replace hO5:=hO5.snoc
   simp only [ev,zD,zE,zF,zG]
   refine n_val (r_assign) ?_
   simp only [ev,zD,zE,zF,zG]
   refine n_nil ?_
   refine hK29 _ _ ?_
   refine wp_region_lit (n_val (r_move) (n_val (r_quo rfl rfl (by omega) (quo_i64 (n:=65536) (by omega))) (n_val (r_assign) ?_)))
   simp only [ev,zD,zE,zF,zG]
   refine n_nil ?_
   refine hK23 _ _ ?_
   refine wp_region_lit (n_val (r_move) (n_val (r_add rfl rfl (wrap_i64 (by omega) (by omega))) (n_val (r_assign) ?_)))
   simp only [ev,zD,zE,zF,zG]
   refine n_nil ?_
   obtain ⟨r1,r2⟩:=plus_round hlo hv hd hs4
   rw [show ((i:Int) + 1) = ((i + 1 : Nat) : Int) by omega]
   simp only [Exit.inBlock,Exit.then]
   refine ⟨M + 1 - (i + 1),_,?_,rfl,?_,?_⟩
   · omega
   · simp only [zQ,zR,zD,zE,setG_cons,setG_nil,setMany_cons,setMany_nil,zF,zG]
   ·
    simp only [zQ,zR,zD,zE]
    exact ⟨i + 1,s / 65536,os ++ [s % 65536],v5,rfl,hX,hS,hR,hS5,hO5,by simp; omega,r1,r2,by omega,by omega,fun h=>by rw [List.getElem?_eq_none (l:=xs) (by omega),List.getElem?_eq_none (l:=ys) (by omega)] at hs4; simp at hs4; omega,rfl⟩
  ·
   refine wp_region_lit (n_val (r_move) (n_val (r_move) (n_val (r_lenS rfl Tryz.underlying22 rfl) ?_)))
   simp only [ev,zD,zE,zF,zG]
   refine n_val (r_lssF rfl rfl (by omega)) (n_val (r_move) ?_)
   simp only [ev,zD,zE,zF,zG]
   refine n_want rfl (n_val (r_move) ?_)
   simp only [ev,zD,zE,zF,zG]
   refine n_want rfl (n_val (r_move) ?_)
   simp only [ev,zD,zE,zF,zG]
   refine n_want rfl (n_val (r_lenS rfl Tryz.underlying22 rfl) ?_)
   simp only [ev,zD,zE,zF,zG]
   refine n_want rfl (n_val (r_lssF rfl rfl (by omega)) (n_val (r_pickF rfl) (n_val (r_move) ?_)))
   simp only [ev,zD,zE,zF,zG]
   refine n_want rfl (n_val (r_move) ?_)
   simp only [ev,zD,zE,zF,zG]
   refine n_want rfl (n_val (r_gtrF rfl rfl (by omega)) (n_val (r_pickF rfl) ?_))
   simp only [ev,zD,zE,zF,zG]
   refine n_nil ?_
   refine hK7 _ _ ?_
   refine c_no rfl (wp_exit ?_)
   refine hK4 _ _ ?_
   refine c_seq (fun K30 hK30=>wp_region_lit (n_val (r_move) (n_val (r_assign) ?_)))
   simp only [ev,zD,zE,zF,zG]
   refine n_nil ?_
   refine hK30 _ _ ?_
   refine wp_ret ?_
   try simp only [Exit.inBlock,Exit.then]
   refine fin1 rfl rfl ?_
   try simp only [zD,zE]
   (obtain ⟨A5,c5,rfl,hD,_⟩:=DigAt.of_owns hO5 rfl hd (by omega)); exact ⟨_,rfl,hX,A5,c5,os,rfl,hD,by rw [List.take_of_length_le (by omega),List.take_of_length_le (by omega)] at hv; simpa using hv,by omega⟩
end Go.Proofs.YtmcgcnpgkkfkoaaGreatDoor
namespace Go.Proofs.YtmcgcnpgkkfkoaaGreatDoor
open Go.RowKit Go.Lith
set_option maxRecDepth 100000
attribute [local irreducible] wpList wpQuiet wpMix Code.wp
theorem minus_c {A B : Option Addr} {xs ys : List Nat} {na nb ca cb : Nat} (w : World) (hS : DigAt w w.heap.size A na ca xs) (hR : DigAt w w.heap.size B nb cb ys) (hle : ys.length ≤ xs.length) (hge : val 65536 ys ≤ val 65536 xs) (hlx : xs.length ≤ 1000000000000) : Does Tryz.prog 114 [.slice A na ca,.slice B nb cb] w (fun v w'=>DigRes (val 65536 xs - val 65536 ys) v w' ∧ NewSlice w v):=by
 skip
 refine ⟨en_114,?_⟩
 have hX:=Ext.refl w
 obtain rfl:=hS.eq
 obtain rfl:=hR.eq
 go_enter Tryz.func114,Tryz.ntmps114
 refine c_seq (fun K1 hK1=>wp_region_lit (n_val (r_assign) ?_))
 simp only [ev,zD,zE,zF,zG]
 refine n_nil ?_
 refine hK1 _ _ ?_
 refine c_seq (fun K2 hK2=>wp_region_lit (n_val (r_assign) ?_))
 simp only [ev,zD,zE,zF,zG]
 obtain ⟨b5,hb5e,hb5l⟩:=hX.base
 have hS5:=Base.of hX hb5e
 have hO5:=Owns.nil_of hX b5 3 1
 clear hb5e
 refine n_nil ?_
 refine hK2 _ _ ?_
 refine c_seq (fun K3 hK3=>wp_region_lit (n_val (r_assign) ?_))
 simp only [ev,zD,zE,zF,zG]
 refine n_nil ?_
 refine hK3 _ _ ?_
 refine c_seq (fun K4 hK4=>c_seq (fun K5 hK5=>wp_region_lit (n_val (r_assign) ?_)))
 simp only [ev,zD,zE,zF,zG]
 refine n_nil ?_
 refine hK5 _ _ ?_
 refine wp_block ?_
 refine c_loopg [5,6,7] [8,9,10,11,12,13,14,15,16,17,18,19,20,21,22,23,24,25,26,27,28,29,30,31,32,33,34,35,36,37,38] (fun n vs wl=>∃ (i c : Nat) (os : List Nat) (v5 : Value),vs = [v5,.int .i64 (c:Int),.int .i64 (i:Int)] ∧ (Ext w wl) ∧ (DigAt wl w.heap.size A xs.length ca xs) ∧ (DigAt wl w.heap.size B ys.length cb ys) ∧ (Base wl b5) ∧ (Owns wl b5 3 1 v5 os.length (os.map i64v)) ∧ (os.length = i) ∧ (val 65536 os + val 65536 (ys.take i) = val 65536 (xs.take i) + 65536 ^ i * c) ∧ (Digs 65536 os) ∧ (c ≤ 1) ∧ (i ≤ xs.length) ∧ (n = xs.length - i)) ?_ ?_
 ·
  apply Exists.intro
  simp only [zQ,zR,zD,zE]
  exact ⟨0,0,[],_,rfl,hX,hS,hR,hS5,hO5,rfl,by simp [val],digs_nil _,by omega,by omega,rfl⟩
 ·
  intro n vs wr hI u
  obtain ⟨i,c,os,v5,rfl,hX,hS,hR,hS5,hO5,hlo,hv,hd,hc,hi,hn⟩:=hI
  simp only [setG_cons,setG_nil,setMany_cons,setMany_nil,zF,zG]
  refine c_seq (fun K6 hK6=>c_seq (fun K7 hK7=>wp_region_lit (n_val (r_move) (n_val (r_move) (n_val (r_lenS rfl Tryz.underlying22 rfl) ?_)))))
  simp only [ev,zD,zE,zF,zG]
  refine n_val (r_lss rfl rfl) ?_
  simp only [ev,zD,zE,zF,zG]
  refine n_nil ?_
  refine hK7 _ _ ?_
  refine c_if rfl (fun hc1=>?_) (fun hc1=>?_)
  ·
   refine wp_skip ?_
   refine hK6 _ _ ?_
   refine c_seq (fun K8 hK8=>wp_block (c_seq (fun K9 hK9=>?_)))
   obtain ⟨a,rfl,hca,hla⟩:=hS.get (show i < xs.length by omega)
   have hyd : ys[i]?.getD 0 < 65536:=by
    rcases Nat.lt_or_ge i ys.length with h | h
    · rw [List.getElem?_eq_getElem h]; exact hR.lt h
    · rw [List.getElem?_eq_none h]; decide
   refine wp_region_lit (n_val (r_move) (n_val (r_move) (n_val (r_indexAddrS Tryz.underlying22 cells_3 rfl rfl (by omega) (by omega) (addr1 (Int.toNat_natCast _))) ?_)))
   simp only [ev,zD,zE,zF,zG]
   refine n_load rfl (lies1 hca agg_3) ?_
   simp only [ev,zD,zE,zF,zG]
   refine n_val (r_move) (n_val (r_sub rfl rfl (wrap_i64 (by omega) (by omega))) (n_val (r_assign) ?_))
   simp only [ev,zD,zE,zF,zG]
   refine n_nil ?_
   refine hK9 _ _ ?_
   refine c_seq (fun K10 hK10=>c_seq (fun K11 hK11=>wp_region_lit (n_val (r_move) (n_val (r_move) (n_val (r_lenS rfl Tryz.underlying22 rfl) ?_)))))
   simp only [ev,zD,zE,zF,zG]
   refine n_val (r_lss rfl rfl) ?_
   simp only [ev,zD,zE,zF,zG]
   refine n_nil ?_
   refine hK11 _ _ ?_
   refine c_if rfl (fun hc2=>?_) (fun hc2=>?_)
   ·
    obtain ⟨a2,rfl,hcb,hlb⟩:=hR.get (show i < ys.length by omega)
    refine wp_region_lit (n_val (r_move) (n_val (r_move) (n_val (r_move) ?_)))
    simp only [ev,zD,zE,zF,zG]
    refine n_val (r_indexAddrS Tryz.underlying22 cells_3 rfl rfl (by omega) (by omega) (addr1 (Int.toNat_natCast _))) ?_
    simp only [ev,zD,zE,zF,zG]
    refine n_load rfl (lies1 hcb agg_3) ?_
    simp only [ev,zD,zE,zF,zG]
    refine n_val (r_sub rfl rfl (wrap_i64 (by omega) (by omega))) (n_val (r_assign) ?_)
    simp only [ev,zD,zE,zF,zG]
    refine n_nil ?_
    obtain ⟨e,he⟩ : ∃ e : Int,e = (xs[i] : Int) - (c : Int) - (ys[i] : Int):=⟨_,rfl⟩
    rw [← he]
    have he2 : e = (xs[i] : Int) - (c : Int) - ((ys[i]?.getD 0 : Nat) : Int):=by rw [List.getElem?_eq_getElem (by omega)]; exact he
    refine hK10 _ _ ?_
    refine c_seq (fun K12 hK12=>wp_region_lit (n_val (r_assign) ?_))
    simp only [ev,zD,zE,zF,zG]
    refine n_nil ?_
    refine hK12 _ _ ?_
    refine c_seq (fun K13 hK13=>c_seq (fun K14 hK14=>wp_region_lit (n_val (r_move) (n_val (r_lss rfl rfl) ?_))))
    simp only [ev,zD,zE,zF,zG]
    refine n_nil ?_
    refine hK14 _ _ ?_
    refine c_if rfl (fun hc3=>?_) (fun hc3=>?_)
    ·
     obtain ⟨s,hs⟩ : ∃ s : Nat,(s : Int) = e + 65536:=⟨(e + 65536).toNat,by omega⟩
     have hs6 : s + ys[i]?.getD 0 + c = xs[i] + 65536 * 1:=by omega
     have hs7 : s < 65536:=by omega
     refine c_seq (fun K15 hK15=>wp_region_lit (n_val (r_move) (n_val (r_as (r_add rfl rfl (wrap_i64 (by omega) (by omega))) (int_as hs.symm)) (n_val (r_assign) ?_))))
     simp only [ev,zD,zE,zF,zG]
     refine n_nil ?_
     refine hK15 _ _ ?_
     refine wp_region_lit (n_val (r_assign) ?_)
     simp only [ev,zD,zE,zF,zG]
     refine n_nil ?_
     refine hK13 _ _ ?_
     refine wp_region_lit (n_val (r_move) (n_val (r_move) ?_))
     simp only [ev,zD,zE,zF,zG]
     refine n_build1 Tryz.underlying22 (z:=.int .i64 0) (by kernel_rfl) rfl (by simp only [ev,zD,zE,zF,zG]; rfl) (by rfl) ?_
     intro w1 g1 hE hg1 hB1
     have hG1:=Nat.le_trans hX.size hg1
     (try replace hS:=hS.ext hE); (try replace hR:=hR.ext hE); (try replace hS5:=hS5.ext hE); (try replace hO5:=hO5.ext hE); replace hX:=hX.trans hE
     clear hE hg1
     simp only [ev,zD,zE,zF,zG]
     refine n_append rfl Tryz.underlying22 inf_3 rfl (by decide) rfl hO5 rfl (news:=_) rfl hB1.row0 (by simp [Value.oneCell']) (by omega) (by omega) hS5.h ?_
     clear hO5; intro v5 w2 hO5 hGr _
     (try replace hS:=hS.grew hGr (by first | trivial | omega)); (try replace hR:=hR.grew hGr (by first | trivial | omega)); (try replace hS5:=hS5.grew hGr (by first | trivial | omega)); replace hX:=hX.grown hGr hb5l
     clear hGr
     replace hO5:=hO5.snoc
     simp only [ev,zD,zE,zF,zG]
     refine n_val (r_assign) ?_
     simp only [ev,zD,zE,zF,zG]
     refine n_nil ?_
     refine hK8 _ _ ?_
     refine wp_region_lit (n_val (r_move) (n_val (r_add rfl rfl (wrap_i64 (by omega) (by omega))) (n_val (r_assign) ?_)))
     simp only [ev,zD,zE,zF,zG]
     refine n_nil ?_
     obtain ⟨r1,r2⟩:=minus_round (by omega) hlo hv hd hs6 hs7
     rw [show ((i:Int) + 1) = ((i + 1 : Nat) : Int) by omega]
     simp only [Exit.inBlock,Exit.then]
     refine ⟨xs.length - (i + 1),_,?_,rfl,?_,?_⟩
     · omega
     · simp only [zQ,zR,zD,zE,setG_cons,setG_nil,setMany_cons,setMany_nil,zF,zG]
     ·
      simp only [zQ,zR,zD,zE]
      exact ⟨i + 1,1,os ++ [s],v5,rfl,hX,hS,hR,hS5,hO5,by simp; omega,r1,r2,by omega,by omega,rfl⟩
    ·
     obtain ⟨s,hs⟩ : ∃ s : Nat,(s : Int) = e:=⟨e.toNat,by omega⟩
     rw [← hs]
     have hs6 : s + ys[i]?.getD 0 + c = xs[i] + 65536 * 0:=by omega
     have hs7 : s < 65536:=by omega
     refine wp_skip ?_
     refine hK13 _ _ ?_
     refine wp_region_lit (n_val (r_move) (n_val (r_move) ?_))
     simp only [ev,zD,zE,zF,zG]
     refine n_build1 Tryz.underlying22 (z:=.int .i64 0) (by kernel_rfl) rfl (by simp only [ev,zD,zE,zF,zG]; rfl) (by rfl) ?_
     intro w1 g1 hE hg1 hB1
     have hG1:=Nat.le_trans hX.size hg1
     (try replace hS:=hS.ext hE); (try replace hR:=hR.ext hE); (try replace hS5:=hS5.ext hE); (try replace hO5:=hO5.ext hE); replace hX:=hX.trans hE
     clear hE hg1
     simp only [ev,zD,zE,zF,zG]
     refine n_append rfl Tryz.underlying22 inf_3 rfl (by decide) rfl hO5 rfl (news:=_) rfl hB1.row0 (by simp [Value.oneCell']) (by omega) (by omega) hS5.h ?_
     clear hO5; intro v5 w2 hO5 hGr _
     (try replace hS:=hS.grew hGr (by first | trivial | omega)); (try replace hR:=hR.grew hGr (by first | trivial | omega)); (try replace hS5:=hS5.grew hGr (by first | trivial | omega)); replace hX:=hX.grown hGr hb5l
     clear hGr
     replace hO5:=hO5.snoc
     simp only [ev,zD,zE,zF,zG]
     refine n_val (r_assign) ?_
     simp only [ev,zD,zE,zF,zG]
     refine n_nil ?_
     refine hK8 _ _ ?_
     refine wp_region_lit (n_val (r_move) (n_val (r_add rfl rfl (wrap_i64 (by omega) (by omega))) (n_val (r_assign) ?_)))
     simp only [ev,zD,zE,zF,zG]
     refine n_nil ?_
     obtain ⟨r1,r2⟩:=minus_round (by omega) hlo hv hd hs6 hs7
     rw [show ((i:Int) + 1) = ((i + 1 : Nat) : Int) by omega]
     simp only [Exit.inBlock,Exit.then]
     refine ⟨xs.length - (i + 1),_,?_,rfl,?_,?_⟩
     · omega
     · simp only [zQ,zR,zD,zE,setG_cons,setG_nil,setMany_cons,setMany_nil,zF,zG]
     ·
      simp only [zQ,zR,zD,zE]
      exact ⟨i + 1,0,os ++ [s],v5,rfl,hX,hS,hR,hS5,hO5,by simp; omega,r1,r2,by omega,by omega,rfl⟩
   ·
    obtain ⟨e,he⟩ : ∃ e : Int,e = (xs[i] : Int) - (c : Int):=⟨_,rfl⟩
    rw [← he]
    have he2 : e = (xs[i] : Int) - (c : Int) - ((ys[i]?.getD 0 : Nat) : Int):=by rw [List.getElem?_eq_none (by omega)]; simp only [Option.getD_none]; omega
    refine wp_skip ?_
    refine hK10 _ _ ?_
    refine c_seq (fun K16 hK16=>wp_region_lit (n_val (r_assign) ?_))
    simp only [ev,zD,zE,zF,zG]
    refine n_nil ?_
    refine hK16 _ _ ?_
    refine c_seq (fun K17 hK17=>c_seq (fun K18 hK18=>wp_region_lit (n_val (r_move) (n_val (r_lss rfl rfl) ?_))))
    simp only [ev,zD,zE,zF,zG]
    refine n_nil ?_
    refine hK18 _ _ ?_
    refine c_if rfl (fun hc3=>?_) (fun hc3=>?_)
    ·
     obtain ⟨s,hs⟩ : ∃ s : Nat,(s : Int) = e + 65536:=⟨(e + 65536).toNat,by omega⟩
     have hs6 : s + ys[i]?.getD 0 + c = xs[i] + 65536 * 1:=by omega
     have hs7 : s < 65536:=by omega
     refine c_seq (fun K19 hK19=>wp_region_lit (n_val (r_move) (n_val (r_as (r_add rfl rfl (wrap_i64 (by omega) (by omega))) (int_as hs.symm)) (n_val (r_assign) ?_))))
     simp only [ev,zD,zE,zF,zG]
     refine n_nil ?_
     refine hK19 _ _ ?_
     refine wp_region_lit (n_val (r_assign) ?_)
     simp only [ev,zD,zE,zF,zG]
     refine n_nil ?_
     refine hK17 _ _ ?_
     refine wp_region_lit (n_val (r_move) (n_val (r_move) ?_))
     simp only [ev,zD,zE,zF,zG]
     refine n_build1 Tryz.underlying22 (z:=.int .i64 0) (by kernel_rfl) rfl (by simp only [ev,zD,zE,zF,zG]; rfl) (by rfl) ?_
     intro w1 g1 hE hg1 hB1
     have hG1:=Nat.le_trans hX.size hg1
     (try replace hS:=hS.ext hE); (try replace hR:=hR.ext hE); (try replace hS5:=hS5.ext hE); (try replace hO5:=hO5.ext hE); replace hX:=hX.trans hE
     clear hE hg1
     simp only [ev,zD,zE,zF,zG]
     refine n_append rfl Tryz.underlying22 inf_3 rfl (by decide) rfl hO5 rfl (news:=_) rfl hB1.row0 (by simp [Value.oneCell']) (by omega) (by omega) hS5.h ?_
     clear hO5; intro v5 w2 hO5 hGr _
     (try replace hS:=hS.grew hGr (by first | trivial | omega)); (try replace hR:=hR.grew hGr (by first | trivial | omega)); (try replace hS5:=hS5.grew hGr (by first | trivial | omega)); replace hX:=hX.grown hGr hb5l
     clear hGr
     replace hO5:=hO5.snoc
     simp only [ev,zD,zE,zF,zG]
     refine n_val (r_assign) ?_
     simp only [ev,zD,zE,zF,zG]
     refine n_nil ?_
     refine hK8 _ _ ?_
     refine wp_region_lit (n_val (r_move) (n_val (r_add rfl rfl (wrap_i64 (by omega) (by omega))) (n_val (r_assign) ?_)))
     simp only [ev,zD,zE,zF,zG]
     refine n_nil ?_
     obtain ⟨r1,r2⟩:=minus_round (by omega) hlo hv hd hs6 hs7
     rw [show ((i:Int) + 1) = ((i + 1 : Nat) : Int) by omega]
     simp only [Exit.inBlock,Exit.then]
     refine ⟨xs.length - (i + 1),_,?_,rfl,?_,?_⟩
     · omega
     · simp only [zQ,zR,zD,zE,setG_cons,setG_nil,setMany_cons,setMany_nil,zF,zG]
     ·
      simp only [zQ,zR,zD,zE]
      exact ⟨i + 1,1,os ++ [s],v5,rfl,hX,hS,hR,hS5,hO5,by simp; omega,r1,r2,by omega,by omega,rfl⟩
    ·
     obtain ⟨s,hs⟩ : ∃ s : Nat,(s : Int) = e:=⟨e.toNat,by omega⟩
     rw [← hs]
     have hs6 : s + ys[i]?.getD 0 + c = xs[i] + 65536 * 0:=by omega
     have hs7 : s < 65536:=by omega
     refine wp_skip ?_
     refine hK17 _ _ ?_
     refine wp_region_lit (n_val (r_move) (n_val (r_move) ?_))
     simp only [ev,zD,zE,zF,zG]
     refine n_build1 Tryz.underlying22 (z:=.int .i64 0) (by kernel_rfl) rfl (by simp only [ev,zD,zE,zF,zG]; rfl) (by rfl) ?_
     intro w1 g1 hE hg1 hB1
     have hG1:=Nat.le_trans hX.size hg1
     (try replace hS:=hS.ext hE); (try replace hR:=hR.ext hE); (try replace hS5:=hS5.ext hE); (try replace hO5:=hO5.ext hE); replace hX:=hX.trans hE
     clear hE hg1
     simp only [ev,zD,zE,zF,zG]
     refine n_append rfl Tryz.underlying22 inf_3 rfl (by decide) rfl hO5 rfl (news:=_) rfl hB1.row0 (by simp [Value.oneCell']) (by omega) (by omega) hS5.h ?_
     clear hO5; intro v5 w2 hO5 hGr _
     (try replace hS:=hS.grew hGr (by first | trivial | omega)); (try replace hR:=hR.grew hGr (by first | trivial | omega)); (try replace hS5:=hS5.grew hGr (by first | trivial | omega)); replace hX:=hX.grown hGr hb5l
     clear hGr
     replace hO5:=hO5.snoc
     simp only [ev,zD,zE,zF,zG]
     refine n_val (r_assign) ?_
     simp only [ev,zD,zE,zF,zG]
     refine n_nil ?_
     refine hK8 _ _ ?_
     refine wp_region_lit (n_val (r_move) (n_val (r_add rfl rfl (wrap_i64 (by omega) (by omega))) (n_val (r_assign) ?_)))
     simp only [ev,zD,zE,zF,zG]
     refine n_nil ?_
     obtain ⟨r1,r2⟩:=minus_round (by omega) hlo hv hd hs6 hs7
     rw [show ((i:Int) + 1) = ((i + 1 : Nat) : Int) by omega]
     simp only [Exit.inBlock,Exit.then]
     refine ⟨xs.length - (i + 1),_,?_,rfl,?_,?_⟩
     · omega
     · simp only [zQ,zR,zD,zE,setG_cons,setG_nil,setMany_cons,setMany_nil,zF,zG]
     ·
      simp only [zQ,zR,zD,zE]
      exact ⟨i + 1,0,os ++ [s],v5,rfl,hX,hS,hR,hS5,hO5,by simp; omega,r1,r2,by omega,by omega,rfl⟩
  ·
   refine wp_exit ?_
   refine hK4 _ _ ?_
   refine c_seq (fun K20 hK20=>?_)
   obtain rfl : i = xs.length:=by omega
   obtain ⟨A5,c5,rfl,hD,hbn⟩:=DigAt.of_owns hO5 rfl hd (by omega)
   refine wp_region_lit (n_val (r_move) ?_)
   simp only [ev,zD,zE,zF,zG]
   refine n_call rfl rfl (trim_c _ hD) ?_
   rintro v w1 hE rfl
   (try replace hS:=hS.ext hE); (try replace hR:=hR.ext hE); (try replace hS5:=hS5.ext hE); (try replace hO5:=hO5.ext hE); (try replace hD:=hD.ext hE); replace hX:=hX.trans hE
   clear hE
   simp only [ev,zD,zE,zF,zG]
   refine n_val (r_assign) ?_
   simp only [ev,zD,zE,zF,zG]
   refine n_nil ?_
   refine hK20 _ _ ?_
   refine wp_ret ?_
   try simp only [Exit.inBlock,Exit.then]
   refine fin1 rfl rfl ?_
   try simp only [zD,zE]
   exact ⟨_,rfl,hX,DigRes.of_trim hD (minus_end hle hlo hd hv hge),fun a n c e=>by cases e; exact Nat.le_trans hb5l (hbn _ rfl)⟩
theorem times_c {A B : Option Addr} {xs ys : List Nat} {na nb ca cb : Nat} (w : World) (hS : DigAt w w.heap.size A na ca xs) (hR : DigAt w w.heap.size B nb cb ys) (hlx : xs.length ≤ 1000000000000) (hly : ys.length ≤ 1000000000000) : Does Tryz.prog 110 [.slice A na ca,.slice B nb cb] w (fun v w'=>DigRes (val 65536 xs * val 65536 ys) v w' ∧ NewSlice w v):=by
 skip
 refine ⟨en_110,?_⟩
 have hX:=Ext.refl w
 obtain rfl:=hS.eq
 obtain rfl:=hR.eq
 go_enter Tryz.func110,Tryz.ntmps110
 refine c_seq (fun K1 hK1=>wp_region_lit (n_val (r_assign) ?_))
 simp only [ev,zD,zE,zF,zG]
 refine n_nil ?_
 refine hK1 _ _ ?_
 refine c_seq (fun K2 hK2=>wp_region_lit (n_val (r_move) (n_val (r_lenS rfl Tryz.underlying22 rfl) (n_val (r_move) ?_))))
 simp only [ev,zD,zE,zF,zG]
 refine n_val (r_lenS rfl Tryz.underlying22 rfl) (n_val (r_add rfl rfl (wrap_i64 (by omega) (by omega))) ?_)
 simp only [ev,zD,zE,zF,zG]
 refine n_make1 Tryz.underlying22 inf_3 rfl rfl rfl (show _ = xs.length + ys.length by omega) (show _ = xs.length + ys.length by omega) (by omega) (by omega) (by omega) (by omega) ?_
 intro w1 g1 hE hg1 hB1
 have hG1:=Nat.le_trans hX.size hg1
 (try replace hS:=hS.ext hE); (try replace hR:=hR.ext hE); replace hX:=hX.trans hE
 clear hE hg1
 simp only [ev,zD,zE,zF,zG]
 refine n_val (r_assign) ?_
 simp only [ev,zD,zE,zF,zG]
 refine n_nil ?_
 rw [replicate_i64] at hB1
 refine hK2 _ _ ?_
 refine c_seq (fun K3 hK3=>c_seq (fun K4 hK4=>wp_region_lit (n_val (r_assign) ?_)))
 simp only [ev,zD,zE,zF,zG]
 refine n_nil ?_
 refine hK4 _ _ ?_
 refine wp_block ?_
 refine c_loopg [6] [7,8,9,16,17,18,19,20,21,22,23,24,25,26,27,28,29,30,31,32,33,34,35,36,37,38,39,40,41,42,43,44,45,46,47,48,49,50,51,52,53,54,55,56,57,58,59,60,61] (fun n vs wl=>∃ (i : Nat) (os : List Nat),vs = [.int .i64 (i:Int)] ∧ (Ext w wl) ∧ (DigAt wl w.heap.size A xs.length ca xs) ∧ (DigAt wl w.heap.size B ys.length cb ys) ∧ (Blk wl g1 (os.map i64v) 3) ∧ (i ≤ xs.length) ∧ (os.length = xs.length + ys.length) ∧ (val 65536 os = val 65536 (xs.take i) * val 65536 ys) ∧ (os.drop (i + ys.length) = List.replicate (xs.length - i) 0) ∧ (Digs 65536 os) ∧ (n = xs.length - i)) ?_ ?_
 ·
  apply Exists.intro
  simp only [zQ,zR,zD,zE]
  exact ⟨0,List.replicate (xs.length + ys.length) 0,rfl,hX,hS,hR,hB1,by omega,by simp,by rw [val_replicate,List.take_zero]; simp only [val,Nat.zero_mul],by rw [List.drop_replicate]; congr 1; omega,fun x hx=>by rw [List.eq_of_mem_replicate hx]; decide,rfl⟩
 ·
  intro n vs wr hI u
  obtain ⟨i,os,rfl,hX,hS,hR,hB1,hi,hlo,hv,hz,hd,hn⟩:=hI
  simp only [setG_cons,setG_nil,setMany_cons,setMany_nil,zF,zG]
  refine c_seq (fun K5 hK5=>c_seq (fun K6 hK6=>wp_region_lit (n_val (r_move) (n_val (r_move) (n_val (r_lenS rfl Tryz.underlying22 rfl) ?_)))))
  simp only [ev,zD,zE,zF,zG]
  refine n_val (r_lss rfl rfl) ?_
  simp only [ev,zD,zE,zF,zG]
  refine n_nil ?_
  refine hK6 _ _ ?_
  refine c_if rfl (fun hc1=>?_) (fun hc1=>?_)
  ·
   refine wp_skip ?_
   refine hK5 _ _ ?_
   refine c_seq (fun K7 hK7=>wp_block (c_seq (fun K8 hK8=>wp_region_lit (n_val (r_assign) ?_))))
   simp only [ev,zD,zE,zF,zG]
   refine n_nil ?_
   refine hK8 _ _ ?_
   refine c_seq (fun K9 hK9=>c_seq (fun K10 hK10=>wp_region_lit (n_val (r_assign) ?_)))
   simp only [ev,zD,zE,zF,zG]
   refine n_nil ?_
   refine hK10 _ _ ?_
   refine wp_block ?_
   refine c_loopg [7,8] [9,22,23,24,25,26,27,28,29,30,31,32,33,34,35,36,37,38,39,40,41,42,43,44,45,46,47,48,49,50,51,52,53,54] (fun n vs wl=>∃ (k c : Nat) (os : List Nat),vs = [.int .i64 (c:Int),.int .i64 (k:Int)] ∧ (Ext w wl) ∧ (DigAt wl w.heap.size A xs.length ca xs) ∧ (DigAt wl w.heap.size B ys.length cb ys) ∧ (Blk wl g1 (os.map i64v) 3) ∧ (k ≤ ys.length) ∧ (os.length = xs.length + ys.length) ∧ (val 65536 os + 65536 ^ (i + k) * c = val 65536 (xs.take i) * val 65536 ys + 65536 ^ i * (xs[i] * val 65536 (ys.take k))) ∧ (os.drop (i + ys.length) = List.replicate (xs.length - i) 0) ∧ (Digs 65536 os) ∧ (c < 65536) ∧ (n = ys.length - k)) ?_ ?_
   ·
    apply Exists.intro
    simp only [zQ,zR,zD,zE]
    exact ⟨0,0,os,rfl,hX,hS,hR,hB1,by omega,hlo,by rw [List.take_zero,hv]; simp only [val,Nat.mul_zero],hz,hd,by omega,rfl⟩
   ·
    intro n vs wr hI u
    obtain ⟨k,c,os,rfl,hX,hS,hR,hB1,hk,hlo,hv2,hz,hd,hc,hn2⟩:=hI
    simp only [setG_cons,setG_nil,setMany_cons,setMany_nil,zF,zG]
    refine c_seq (fun K11 hK11=>c_seq (fun K12 hK12=>wp_region_lit (n_val (r_move) (n_val (r_move) (n_val (r_lenS rfl Tryz.underlying22 rfl) ?_)))))
    simp only [ev,zD,zE,zF,zG]
    refine n_val (r_lss rfl rfl) ?_
    simp only [ev,zD,zE,zF,zG]
    refine n_nil ?_
    refine hK12 _ _ ?_
    refine c_if rfl (fun hc2=>?_) (fun hc2=>?_)
    ·
     refine wp_skip ?_
     refine hK11 _ _ ?_
     refine c_seq (fun K13 hK13=>wp_block (c_seq (fun K14 hK14=>?_)))
     obtain ⟨a,rfl,hca,hla⟩:=hS.get (show i < xs.length by omega)
     obtain ⟨a2,rfl,hcb,hlb⟩:=hR.get (show k < ys.length by omega)
     have hco:=hB1.digit (show i + k < os.length by omega)
     have hlo2:=hd.get (List.getElem?_eq_getElem (show i + k < os.length by omega))
     obtain ⟨hm0,hm1⟩:=mul_lt16I hla hlb
     refine wp_region_ext follows_mixed (by kernel_rfl) (q_val (r_move) (q_val (r_move) (q_val (r_move) ?_)))
     simp only [ev,zD,zE,zF,zG]
     refine q_val (r_add rfl rfl (wrap_i64 (by omega) (by omega))) (q_val (r_indexAddrS Tryz.underlying22 cells_3 rfl rfl (by omega) (by omega) (addrB1 (show _ = i + k by omega))) ?_)
     simp only [ev,zD,zE,zF,zG]
     refine q_load rfl (fun _ hE'=>(lies1 (hE'.cell hco) agg_3)) ?_
     simp only [ev,zD,zE,zF,zG]
     refine q_val (r_move) (q_val (r_move) (q_val (r_indexAddrS Tryz.underlying22 cells_3 rfl rfl (by omega) (by omega) (addr1 (Int.toNat_natCast _))) ?_))
     simp only [ev,zD,zE,zF,zG]
     refine q_load rfl (fun _ hE'=>(lies1 (hE'.cell hca) agg_3)) ?_
     simp only [ev,zD,zE,zF,zG]
     refine q_val (r_move) (q_val (r_move) (q_val (r_indexAddrS Tryz.underlying22 cells_3 rfl rfl (by omega) (by omega) (addr1 (Int.toNat_natCast _))) ?_))
     simp only [ev,zD,zE,zF,zG]
     refine q_load rfl (fun _ hE'=>(lies1 (hE'.cell hcb) agg_3)) ?_
     simp only [ev,zD,zE,zF,zG]
     refine q_val (r_mul rfl rfl (wrap_i64 (by omega) (by omega))) (q_val (r_add rfl rfl (wrap_i64 (by omega) (by omega))) (q_val (r_move) ?_))
     simp only [ev,zD,zE,zF,zG]
     refine q_val (r_add rfl rfl (wrap_i64 (by omega) (by omega))) (q_val (r_assign) ?_)
     simp only [ev,zD,zE,zF,zG]
     refine q_nil ?_
     intro w2 hE
     replace hB1:=hB1.ext hE; (try replace hS:=hS.ext hE); (try replace hR:=hR.ext hE); replace hX:=hX.trans hE
     clear hE
     obtain ⟨s,hs⟩ : ∃ s,s = os[i + k] + xs[i] * ys[k] + c:=⟨_,rfl⟩
     have hsI : (↑os[i + k] + ↑xs[i] * ↑ys[k] + ↑c : Int) = (s : Int):=by rw [hs]; simp
     rw [hsI]
     have hs64 : s < 4294967296:=by have:=mul_lt16 hla hlb; omega
     refine hK14 _ _ ?_
     refine c_seq (fun K15 hK15=>wp_region_lit (n_val (r_move) (n_val (r_move) (n_val (r_move) ?_))))
     simp only [ev,zD,zE,zF,zG]
     refine n_val (r_add rfl rfl (wrap_i64 (by omega) (by omega))) (n_val (r_move) (n_val (r_rem rfl rfl (by omega) (rem_nat (n:=65536))) ?_))
     simp only [ev,zD,zE,zF,zG]
     refine n_val (r_indexAddrS Tryz.underlying22 cells_3 rfl rfl (by omega) (by omega) (addrB1 (show _ = i + k by omega))) ?_
     simp only [ev,zD,zE,zF,zG]
     refine n_store rfl (by simp only [ev,zD,zE]; rfl) (by exact cells_3) hB1 (by simp; omega) (by simp [Value.oneCell']) ?_
     clear hB1; intro w3 hC hB1
     (try replace hS:=hS.chg hC (by first | assumption | rfl)); (try replace hR:=hR.chg hC (by first | assumption | rfl)); replace hX:=hX.chg hC hG1
     clear hC
     rw [over_set_i64 (by omega)] at hB1
     refine n_nil ?_
     refine hK15 _ _ ?_
     refine wp_region_lit (n_val (r_move) (n_val (r_quo rfl rfl (by omega) (quo_i64 (n:=65536) (by omega))) (n_val (r_assign) ?_)))
     simp only [ev,zD,zE,zF,zG]
     refine n_nil ?_
     refine hK13 _ _ ?_
     refine wp_region_lit (n_val (r_move) (n_val (r_add rfl rfl (wrap_i64 (by omega) (by omega))) (n_val (r_assign) ?_)))
     simp only [ev,zD,zE,zF,zG]
     refine n_nil ?_
     have r1:=times_round (by omega) (by omega) hlo hv2 hs
     rw [show ((k:Int) + 1) = ((k + 1 : Nat) : Int) by omega]
     simp only [Exit.inBlock,Exit.then]
     refine ⟨ys.length - (k + 1),_,?_,rfl,?_,?_⟩
     · omega
     · simp only [zQ,zR,zD,zE,setG_cons,setG_nil,setMany_cons,setMany_nil,zF,zG]
     ·
      simp only [zQ,zR,zD,zE]
      exact ⟨k + 1,s / 65536,os.set (i + k) (s % 65536),rfl,hX,hS,hR,hB1,by omega,by simpa using hlo,r1,by rw [drop_set_ge (by omega)]; exact hz,hd.set (by omega),by omega,rfl⟩
    ·
     refine wp_exit ?_
     refine hK9 _ _ ?_
     obtain rfl : k = ys.length:=by omega
     refine wp_region_lit (n_val (r_move) (n_val (r_move) (n_val (r_move) ?_)))
     simp only [ev,zD,zE,zF,zG]
     refine n_val (r_lenS rfl Tryz.underlying22 rfl) (n_val (r_add rfl rfl (wrap_i64 (by omega) (by omega))) (n_val (r_move) ?_))
     simp only [ev,zD,zE,zF,zG]
     refine n_val (r_indexAddrS Tryz.underlying22 cells_3 rfl rfl (by omega) (by omega) (addrB1 (show _ = i + ys.length by omega))) ?_
     simp only [ev,zD,zE,zF,zG]
     refine n_store rfl (by simp only [ev,zD,zE]; rfl) (by exact cells_3) hB1 (by simp; omega) (by simp [Value.oneCell']) ?_
     clear hB1; intro w2 hC hB1
     (try replace hS:=hS.chg hC (by first | assumption | rfl)); (try replace hR:=hR.chg hC (by first | assumption | rfl)); replace hX:=hX.chg hC hG1
     clear hC
     rw [over_set_i64 (by omega)] at hB1
     refine n_nil ?_
     refine hK7 _ _ ?_
     refine wp_region_lit (n_val (r_move) (n_val (r_add rfl rfl (wrap_i64 (by omega) (by omega))) (n_val (r_assign) ?_)))
     simp only [ev,zD,zE,zF,zG]
     refine n_nil ?_
     obtain ⟨r1,r2⟩:=times_end (by omega) hlo hv2 hz
     rw [show ((i:Int) + 1) = ((i + 1 : Nat) : Int) by omega]
     simp only [Exit.inBlock,Exit.then]
     refine ⟨xs.length - (i + 1),_,?_,rfl,?_,?_⟩
     · omega
     · simp only [zQ,zR,zD,zE,setG_cons,setG_nil,setMany_cons,setMany_nil,zF,zG]
     ·
      simp only [zQ,zR,zD,zE]
      exact ⟨i + 1,os.set (i + ys.length) c,rfl,hX,hS,hR,hB1,by omega,by simpa using hlo,r1,r2,hd.set (by omega),rfl⟩
  ·
   refine wp_exit ?_
   refine hK3 _ _ ?_
   refine c_seq (fun K16 hK16=>?_)
   obtain rfl : i = xs.length:=by omega
   refine wp_region_lit (n_val (r_move) ?_)
   simp only [ev,zD,zE,zF,zG]
   rw [← hlo]
   refine n_call rfl rfl (trim_c _ (DigAt.of_blk hB1 hd rfl (by omega))) ?_
   rintro v w2 hE rfl
   replace hB1:=hB1.ext hE; (try replace hS:=hS.ext hE); (try replace hR:=hR.ext hE); replace hX:=hX.trans hE
   clear hE
   simp only [ev,zD,zE,zF,zG]
   refine n_val (r_assign) ?_
   simp only [ev,zD,zE,zF,zG]
   refine n_nil ?_
   refine hK16 _ _ ?_
   refine wp_ret ?_
   try simp only [Exit.inBlock,Exit.then]
   refine fin1 rfl rfl ?_
   try simp only [zD,zE]
   exact ⟨_,rfl,hX,DigRes.of_trim (DigAt.of_blk hB1 hd rfl (by omega)) (by rw [hv,List.take_length]),fun a n c e=>by cases e; exact hG1⟩
theorem by_c {A : Option Addr} {xs : List Nat} {na ca d : Nat} (w : World) (hS : DigAt w w.heap.size A na ca xs) (hlx : xs.length ≤ 1000000000000) (hd : d < 65536) : Does Tryz.prog 181 [.slice A na ca,.int .i64 (d : Int)] w (fun v w'=>DigRes (val 65536 xs * d) v w' ∧ NewSlice w v):=by
 skip
 refine ⟨en_181,?_⟩
 have hX:=Ext.refl w
 obtain rfl:=hS.eq
 go_enter Tryz.func181,Tryz.ntmps181
 refine c_seq (fun K1 hK1=>wp_region_lit (n_val (r_assign) ?_))
 simp only [ev,zD,zE,zF,zG]
 refine n_nil ?_
 refine hK1 _ _ ?_
 refine c_seq (fun K2 hK2=>wp_region_lit (n_val (r_move) (n_val (r_move) ?_)))
 simp only [ev,zD,zE,zF,zG]
 refine n_build1 Tryz.underlying22 (z:=.int .i64 0) (by kernel_rfl) rfl (by simp only [ev,zD,zE,zF,zG]; rfl) (by rfl) ?_
 intro w1 g1 hE hg1 hB1
 have hG1:=Nat.le_trans hX.size hg1
 replace hX:=hX.trans hE
 clear hE hg1
 simp only [ev,zD,zE,zF,zG]
 have hsz:=hX.size
 refine n_call rfl rfl (times_c _ (hS.ext hX).here (DigAt.of_blk (os:=[d]) hB1 (digs_cons hd (digs_nil _)) rfl (by simp)) hlx (by simp)) ?_
 rintro v w2 hE ⟨hD,hnw⟩
 replace hB1:=hB1.ext hE; replace hX:=hX.trans hE
 clear hE
 simp only [ev,zD,zE,zF,zG]
 refine n_val (r_assign) ?_
 simp only [ev,zD,zE,zF,zG]
 refine n_nil ?_
 refine hK2 _ _ ?_
 refine wp_ret ?_
 try simp only [Exit.inBlock,Exit.then]
 refine fin1 rfl rfl ?_
 try simp only [zD,zE]
 exact ⟨_,rfl,hX,by simpa [val] using hD,fun a n c e=>Nat.le_trans hsz (hnw a n c e)⟩
end Go.Proofs.YtmcgcnpgkkfkoaaGreatDoor
namespace Go.Proofs.YtmcgcnpgkkfkoaaGreatDoor
open Go.RowKit Go.Lith
set_option maxRecDepth 100000
attribute [local irreducible] wpList wpQuiet wpMix Code.wp
theorem over_c {A B : Option Addr} {xs ys : List Nat} {na nb ca cb : Nat} (w : World) (hS : DigAt w w.heap.size A na ca xs) (hR : DigAt w w.heap.size B nb cb ys) (ty : Trimmed ys) (h0 : 0 < val 65536 ys) (hlx : xs.length ≤ 1000000000000) (hly : ys.length ≤ 100000000000) : Does Tryz.prog 176 [.slice A na ca,.slice B nb cb] w (fun v w'=>∃ q r,v = .tuple #[q,r] ∧ DigRes (val 65536 xs / val 65536 ys) q w' ∧ DigRes (val 65536 xs % val 65536 ys) r w'):=by
 skip
 refine ⟨en_176,?_⟩
 have hX:=Ext.refl w
 obtain rfl:=hS.eq
 obtain rfl:=hR.eq
 obtain ⟨Y,hY⟩ : ∃ Y,Y = val 65536 ys:=⟨_,rfl⟩
 rw [← hY] at h0 ⊢
 have hYl : ∀ V : Nat,V < Y → (digs 65536 V).length ≤ ys.length:=fun V h=>length_digs_le (by omega) (Nat.lt_trans h (by rw [hY]; exact val_lt hR.digs))
 have hYb : ∀ V : Nat,V < 65536 * Y → (digs 65536 V).length ≤ ys.length + 1:=fun V h=>length_digs_le (by omega) (Nat.lt_of_lt_of_le h (by rw [hY,Nat.pow_succ,Nat.mul_comm]; exact Nat.mul_le_mul_right _ (Nat.le_of_lt (val_lt hR.digs))))
 go_enter Tryz.func176,Tryz.ntmps176
 refine c_seq (fun K1 hK1=>wp_region_lit (n_val (r_assign) (n_val (r_assign) ?_)))
 simp only [ev,zD,zE,zF,zG]
 refine n_nil ?_
 refine hK1 _ _ ?_
 refine c_seq (fun K2 hK2=>wp_region_lit (n_val (r_move) (n_val (r_lenS rfl Tryz.underlying22 rfl) ?_)))
 simp only [ev,zD,zE,zF,zG]
 refine n_make1 Tryz.underlying22 inf_3 rfl rfl rfl (show _ = xs.length by omega) (show _ = xs.length by omega) (by omega) (by omega) (by omega) (by omega) ?_
 intro w1 g1 hE hg1 hB1
 have hG1:=Nat.le_trans hX.size hg1
 (try replace hS:=hS.ext hE); (try replace hR:=hR.ext hE); (try replace hN7:=hN7.ext hE); replace hX:=hX.trans hE
 clear hE
 simp only [ev,zD,zE,zF,zG]
 refine n_val (r_assign) ?_
 simp only [ev,zD,zE,zF,zG]
 refine n_nil ?_
 rw [replicate_i64] at hB1
 refine hK2 _ _ ?_
 refine c_seq (fun K3 hK3=>wp_region_lit (n_val (r_assign) ?_))
 simp only [ev,zD,zE,zF,zG]
 refine n_nil ?_
 refine hK3 _ _ ?_
 refine c_seq (fun K4 hK4=>c_seq (fun K5 hK5=>wp_region_lit (n_val (r_move) (n_val (r_lenS rfl Tryz.underlying22 rfl) (n_val (r_sub rfl rfl (wrap_i64 (by omega) (by omega))) ?_)))))
 simp only [ev,zD,zE,zF,zG]
 refine n_val (r_assign) ?_
 simp only [ev,zD,zE,zF,zG]
 refine n_nil ?_
 refine hK5 _ _ ?_
 refine wp_block ?_
 refine c_loopg [7,8] [9,10,11,18,19,20,21,22,23,24,25,26,27,28,29,30,31,32,33,34,35,36,37,38,39,40,41,42,43,44,45,46,47,48,49,50,51,52,53,54,55,56,57,58] (fun n vs wl=>∃ (k R : Nat) (qs : List Nat) (A7 : Option Addr) (c7 : Nat),vs = [.slice A7 (digs 65536 R).length c7,.int .i64 ((k:Int) - 1)] ∧ (Ext w wl) ∧ (DigAt wl w.heap.size A xs.length ca xs) ∧ (DigAt wl w.heap.size B ys.length cb ys) ∧ (Blk wl g1 (qs.map i64v) 3) ∧ (DigX wl g1 A7 (digs 65536 R).length c7 (digs 65536 R)) ∧ (k ≤ xs.length) ∧ (qs.length = xs.length) ∧ (val 65536 (xs.drop k) = Y * val 65536 (qs.drop k) + R) ∧ (R < Y) ∧ (Digs 65536 qs) ∧ (n = k)) ?_ ?_
 ·
  apply Exists.intro
  simp only [zQ,zR,zD,zE]
  exact ⟨xs.length,0,List.replicate xs.length 0,none,0,rfl,hX,hS,hR,hB1,⟨DigAt.nil _ _,fun _ e=>by cases e⟩,Nat.le_refl _,by simp,by rw [List.drop_length,List.drop_of_length_le (by simp)]; rfl,h0,fun x hx=>by rw [List.eq_of_mem_replicate hx]; decide,rfl⟩
 ·
  intro n vs wr hI u
  obtain ⟨k,R,qs,A7,c7,rfl,hX,hS,hR,hB1,hN7,hk,hlq,hv,hRY,hd,hn⟩:=hI
  simp only [setG_cons,setG_nil,setMany_cons,setMany_nil,zF,zG]
  refine c_seq (fun K6 hK6=>c_seq (fun K7 hK7=>wp_region_lit (n_val (r_move) (n_val (r_geq rfl rfl) ?_))))
  simp only [ev,zD,zE,zF,zG]
  refine n_nil ?_
  refine hK7 _ _ ?_
  refine c_if rfl (fun hc1=>?_) (fun hc1=>?_)
  ·
   refine wp_skip ?_
   refine hK6 _ _ ?_
   refine c_seq (fun K8 hK8=>wp_block (c_seq (fun K9 hK9=>?_)))
   obtain ⟨a,rfl,hca,hla⟩:=hS.get (show k - 1 < xs.length by omega)
   have hlR:=hYl R hRY
   refine wp_region_lit (n_val (r_move) (n_val (r_move) (n_val (r_indexAddrS Tryz.underlying22 cells_3 rfl rfl (by omega) (by omega) (addr1 (show _ = k - 1 by omega))) ?_)))
   simp only [ev,zD,zE,zF,zG]
   refine n_load rfl (lies1 hca agg_3) ?_
   simp only [ev,zD,zE,zF,zG]
   refine n_build1 Tryz.underlying22 (z:=.int .i64 0) (by kernel_rfl) rfl (by simp only [ev,zD,zE,zF,zG]; rfl) (by rfl) ?_
   intro w2 g2 hE hg2 hB2
   have hG2:=Nat.le_trans hX.size hg2; have hN2_1 : g2 ≠ g1:=Nat.ne_of_gt (Nat.lt_of_lt_of_le hB1.lt hg2); have hL2_1:=Nat.lt_of_lt_of_le hB1.lt hg2
   replace hB1:=hB1.ext hE; (try replace hS:=hS.ext hE); (try replace hR:=hR.ext hE); (try replace hN7:=hN7.ext hE); (try replace hN7:=hN7.ext hE); replace hX:=hX.trans hE
   clear hE
   simp only [ev,zD,zE,zF,zG]
   refine n_val (r_move) ?_
   simp only [ev,zD,zE,zF,zG]
   have hO6:=Owns.full (base:=g2) (n:=1) hB2 (Nat.le_refl _) rfl (by omega)
   refine n_appendS rfl Tryz.underlying22 inf_3 rfl (by decide) rfl hO6 rfl (news:=(digs 65536 R).map i64v) (by simp) hN7.dig.rows (fun u hu=>by obtain ⟨x,_,rfl⟩:=List.mem_map.1 hu; rfl) (by omega) (by omega) (Nat.le_of_lt hB2.lt) ?_
   intro v6 w9 hO hGr _
   replace hB1:=hB1.grew hGr hL2_1
   replace hX:=hX.grown hGr hG2
   replace hS:=hS.grew hGr hG2
   replace hR:=hR.grew hGr hG2
   clear hB2 hO6
   obtain ⟨A6,c6,rfl,hD6,hn6⟩:=DigAt.of_owns (xs:=xs[k - 1] :: digs 65536 R) (by simpa [Nat.add_comm] using hO) (by simp; omega) (digs_cons hla (digs_digs16 _)) (by omega)
   simp only [ev,zD,zE,zF,zG]
   refine n_call rfl rfl (trim_c _ hD6) ?_
   rintro v w3 hE rfl
   replace hB1:=hB1.ext hE; (try replace hS:=hS.ext hE); (try replace hR:=hR.ext hE); (try replace hN7:=hN7.ext hE); (try replace hN7:=hN7.ext hE); (try replace hD6:=hD6.ext hE); replace hX:=hX.trans hE
   clear hE
   simp only [ev,zD,zE,zF,zG]
   refine n_val (r_assign) ?_
   simp only [ev,zD,zE,zF,zG]
   refine n_nil ?_
   refine hK9 _ _ ?_
   refine c_seq (fun K10 hK10=>?_)
   obtain ⟨R1,hR1⟩ : ∃ R1,R1 = xs[k - 1] + 65536 * R:=⟨_,rfl⟩
   have ht6 : trim (xs[k - 1] :: digs 65536 R) = digs 65536 R1:=trim_eq_digs (by omega) hD6.digs (by simp only [val]; rw [val_digs16]; exact hR1.symm)
   rw [ht6]
   have hN7:=DigX.of_trim (g:=g1) hD6 ht6 (fun a e=>by have:=hn6 a e; omega)
   clear hD6
   have hR1Y : R1 < 65536 * Y:=by have:=Nat.mul_le_mul_left 65536 (show R + 1 ≤ Y from hRY); omega
   have hlR1:=hYb R1 hR1Y
   refine wp_region_lit (n_val (r_assign) ?_)
   simp only [ev,zD,zE,zF,zG]
   refine n_nil ?_
   refine hK10 _ _ ?_
   refine c_seq (fun K11 hK11=>wp_region_lit (n_val (r_assign) ?_))
   simp only [ev,zD,zE,zF,zG]
   refine n_nil ?_
   refine hK11 _ _ ?_
   refine c_seq (fun K12 hK12=>c_seq (fun K13 hK13=>wp_region_lit (n_val (r_move) (n_val (r_move) ?_))))
   simp only [ev,zD,zE,zF,zG]
   refine n_call rfl rfl (compare_c _ hN7.dig hR (trimmed_digs16 _) ty) ?_
   rintro v w4 hE rfl
   replace hB1:=hB1.ext hE; (try replace hS:=hS.ext hE); (try replace hR:=hR.ext hE); (try replace hN7:=hN7.ext hE); (try replace hN7:=hN7.ext hE); (try replace hD6:=hD6.ext hE); (try replace hN7:=hN7.ext hE); replace hX:=hX.trans hE
   clear hE
   rw [val_digs16,← hY]
   simp only [ev,zD,zE,zF,zG]
   refine n_val (r_lss rfl rfl) ?_
   simp only [ev,zD,zE,zF,zG]
   refine n_nil ?_
   refine hK13 _ _ ?_
   refine c_if rfl (fun hc2=>?_) (fun hc2=>?_)
   ·
    have hlt2:=ord_lt_iff.1 hc2
    refine wp_region_lit (n_val (r_assign) ?_)
    simp only [ev,zD,zE,zF,zG]
    refine n_nil ?_
    refine hK12 _ _ ?_
    refine c_seq (fun K14 hK14=>wp_block ?_)
    refine c_loopg [9,10] [11,34,35,36,37,38,39,40,41,42,43,44,45,46,47,48,49] (fun n vs wl=>∃ (low high : Nat),vs = [.int .i64 (low:Int),.int .i64 (high:Int)] ∧ (Ext w wl) ∧ (DigAt wl w.heap.size (some a) xs.length ca xs) ∧ (DigAt wl w.heap.size B ys.length cb ys) ∧ (Blk wl g1 (qs.map i64v) 3) ∧ (DigX wl g1 A6 (digs 65536 R1).length c6 (digs 65536 R1)) ∧ (low * Y ≤ R1) ∧ (R1 < high * Y) ∧ (low < high) ∧ (high ≤ 65536) ∧ (n = high - low)) ?_ ?_
    ·
     apply Exists.intro
     simp only [zQ,zR,zD,zE]
     exact ⟨0,1,rfl,hX,hS,hR,hB1,hN7,by simp,by rw [Nat.one_mul]; exact hlt2,by omega,by omega,rfl⟩
    ·
     intro n vs wr hI u
     obtain ⟨low,high,rfl,hX,hS,hR,hB1,hN7,hlow,hhigh,hl1,hl2,hn2⟩:=hI
     simp only [setG_cons,setG_nil,setMany_cons,setMany_nil,zF,zG]
     refine c_seq (fun K15 hK15=>c_seq (fun K16 hK16=>wp_region_lit (n_val (r_move) (n_val (r_move) (n_val (r_sub rfl rfl (wrap_i64 (by omega) (by omega))) ?_)))))
     simp only [ev,zD,zE,zF,zG]
     refine n_val (r_gtr rfl rfl) ?_
     simp only [ev,zD,zE,zF,zG]
     refine n_nil ?_
     refine hK16 _ _ ?_
     refine c_if rfl (fun hc3=>?_) (fun hc3=>?_)
     ·
      have hm1 : low < (low + high) / 2:=by omega
      have hm2 : (low + high) / 2 < high:=by omega
      refine wp_skip ?_
      refine hK15 _ _ ?_
      refine wp_block (c_seq (fun K17 hK17=>wp_region_lit (n_val (r_move) (n_val (r_move) (n_val (r_add rfl rfl (wrap_i64 (by omega) (by omega))) ?_)))))
      simp only [ev,zD,zE,zF,zG]
      rw [show ((low : Int) + (high : Int)) = ((low + high : Nat) : Int) by omega]
      refine n_val (r_quo rfl rfl (by omega) (quo_i64 (m:=low + high) (n:=2) (by omega))) (n_val (r_assign) ?_)
      simp only [ev,zD,zE,zF,zG]
      refine n_nil ?_
      refine hK17 _ _ ?_
      refine c_seq (fun K18 hK18=>wp_region_lit (n_val (r_move) (n_val (r_move) ?_)))
      simp only [ev,zD,zE,zF,zG]
      refine n_call rfl rfl (by_c _ hR.here (Nat.le_trans hly (by decide)) (by omega)) ?_
      rintro v w5 hE ⟨⟨A8,c8,rfl,hD8⟩,_⟩
      replace hB1:=hB1.ext hE; (try replace hS:=hS.ext hE); (try replace hR:=hR.ext hE); (try replace hN7:=hN7.ext hE); (try replace hN7:=hN7.ext hE); (try replace hN7:=hN7.ext hE); replace hX:=hX.trans hE
      clear hE
      rw [← hY] at hD8 ⊢
      simp only [ev,zD,zE,zF,zG]
      refine n_val (r_move) ?_
      simp only [ev,zD,zE,zF,zG]
      refine n_call rfl rfl (compare_c _ hD8 hN7.dig (trimmed_digs16 _) (trimmed_digs16 _)) ?_
      rintro v w6 hE rfl
      replace hB1:=hB1.ext hE; (try replace hS:=hS.ext hE); (try replace hR:=hR.ext hE); (try replace hN7:=hN7.ext hE); (try replace hN7:=hN7.ext hE); (try replace hN7:=hN7.ext hE); (try replace hD8:=hD8.ext hE); replace hX:=hX.trans hE
      clear hE
      rw [val_digs16,val_digs16]
      simp only [ev,zD,zE,zF,zG]
      refine n_val (r_leq rfl rfl) ?_
      simp only [ev,zD,zE,zF,zG]
      refine n_nil ?_
      refine hK18 _ _ ?_
      refine c_if rfl (fun hc4=>?_) (fun hc4=>?_)
      ·
       have hle4 : Y * ((low + high) / 2) ≤ R1:=ord_le_iff.1 hc4
       refine wp_region_lit (n_val (r_move) (n_val (r_assign) ?_))
       simp only [ev,zD,zE,zF,zG]
       refine n_nil ?_
       simp only [Exit.inBlock,Exit.then]
       refine ⟨high - (low + high) / 2,_,?_,rfl,?_,?_⟩
       · omega
       · simp only [zQ,zR,zD,zE,setG_cons,setG_nil,setMany_cons,setMany_nil,zF,zG]
       ·
        simp only [zQ,zR,zD,zE]
        exact ⟨(low + high) / 2,high,rfl,hX,hS,hR,hB1,hN7,by rw [Nat.mul_comm]; exact hle4,hhigh,hm2,hl2,rfl⟩
      ·
       have hle4 : R1 < Y * ((low + high) / 2):=Nat.lt_of_not_le fun h=>hc4 (ord_le_iff.2 h)
       refine wp_region_lit (n_val (r_move) (n_val (r_assign) ?_))
       simp only [ev,zD,zE,zF,zG]
       refine n_nil ?_
       simp only [Exit.inBlock,Exit.then]
       refine ⟨(low + high) / 2 - low,_,?_,rfl,?_,?_⟩
       · omega
       · simp only [zQ,zR,zD,zE,setG_cons,setG_nil,setMany_cons,setMany_nil,zF,zG]
       ·
        simp only [zQ,zR,zD,zE]
        exact ⟨low,(low + high) / 2,rfl,hX,hS,hR,hB1,hN7,hlow,by rw [Nat.mul_comm]; exact hle4,hm1,by omega,rfl⟩
     ·
      refine wp_exit ?_
      refine hK14 _ _ ?_
      refine c_seq (fun K19 hK19=>wp_region_lit (n_val (r_move) (n_val (r_move) (n_val (r_move) ?_))))
      simp only [ev,zD,zE,zF,zG]
      refine n_val (r_indexAddrS Tryz.underlying22 cells_3 rfl rfl (by omega) (by omega) (addrB1 (show _ = k - 1 by omega))) ?_
      simp only [ev,zD,zE,zF,zG]
      refine n_store rfl (by simp only [ev,zD,zE]; rfl) (by exact cells_3) hB1 (by simp; omega) (by simp [Value.oneCell']) ?_
      clear hB1; intro w5 hC hB1
      (try replace hS:=hS.chg hC (by first | assumption | rfl)); (try replace hR:=hR.chg hC (by first | assumption | rfl)); (try replace hN7:=hN7.chg hC (by first | assumption | rfl)); (try replace hN7:=hN7.chg hC (by first | assumption | rfl)); (try replace hN7:=hN7.chg hC (by first | assumption | rfl)); replace hX:=hX.chg hC hG1
      clear hC
      rw [over_set_i64 (by omega)] at hB1
      refine n_nil ?_
      refine hK19 _ _ ?_
      refine wp_region_lit (n_val (r_move) (n_val (r_move) (n_val (r_move) ?_)))
      simp only [ev,zD,zE,zF,zG]
      have hlt1:=hB1.lt
      refine n_call rfl rfl (by_c _ hR.here (Nat.le_trans hly (by decide)) (by omega)) ?_
      rintro v w6 hE ⟨⟨A8,c8,rfl,hD8⟩,_⟩
      replace hB1:=hB1.ext hE; (try replace hS:=hS.ext hE); (try replace hR:=hR.ext hE); (try replace hN7:=hN7.ext hE); (try replace hN7:=hN7.ext hE); (try replace hN7:=hN7.ext hE); replace hX:=hX.trans hE
      clear hE
      rw [← hY] at hD8 ⊢
      simp only [ev,zD,zE,zF,zG]
      have hlt2:=hB1.lt
      have hlb2:=lt_len16 (show Y * low ≤ R1 by rw [Nat.mul_comm]; exact hlow)
      refine n_call rfl rfl (minus_c _ hN7.dig hD8 hlb2 (by rw [val_digs16,val_digs16,Nat.mul_comm]; exact hlow) (by omega)) ?_
      rintro v w7 hE ⟨⟨A9,c9,rfl,hD9⟩,hn9⟩
      replace hB1:=hB1.ext hE; (try replace hS:=hS.ext hE); (try replace hR:=hR.ext hE); (try replace hN7:=hN7.ext hE); (try replace hN7:=hN7.ext hE); (try replace hN7:=hN7.ext hE); (try replace hD8:=hD8.ext hE); replace hX:=hX.trans hE
      clear hE
      rw [val_digs16,val_digs16] at hD9 ⊢
      have hN9:=DigX.mk (g:=g1) hD9 (fun a e=>by subst e; have:=hn9 a _ _ rfl; have:=hB1.lt; omega)
      simp only [ev,zD,zE,zF,zG]
      refine n_val (r_assign) ?_
      simp only [ev,zD,zE,zF,zG]
      refine n_nil ?_
      refine hK8 _ _ ?_
      refine wp_region_lit (n_val (r_move) (n_val (r_sub rfl rfl (wrap_i64 (by omega) (by omega))) (n_val (r_assign) ?_)))
      simp only [ev,zD,zE,zF,zG]
      refine n_nil ?_
      obtain ⟨r1,r2⟩:=over_round (by omega) hk hlq hv hR1 hlow hd (by omega)
      rw [show ((k:Int) - 1 - 1) = ((k - 1 : Nat) : Int) - 1 by omega]
      simp only [Exit.inBlock,Exit.then]
      refine ⟨k - 1,_,?_,rfl,?_,?_⟩
      · omega
      · simp only [zQ,zR,zD,zE,setG_cons,setG_nil,setMany_cons,setMany_nil,zF,zG]
      ·
       simp only [zQ,zR,zD,zE]
       exact ⟨k - 1,R1 - Y * low,qs.set (k - 1) low,A9,c9,rfl,hX,hS,hR,hB1,hN9,by omega,by simpa using hlq,r1,over_less h0 hhigh hc3,r2,rfl⟩
   ·
    refine wp_skip ?_
    refine hK12 _ _ ?_
    refine c_seq (fun K20 hK20=>wp_block ?_)
    refine c_loopg [9,10] [11,34,35,36,37,38,39,40,41,42,43,44,45,46,47,48,49] (fun n vs wl=>∃ (low high : Nat),vs = [.int .i64 (low:Int),.int .i64 (high:Int)] ∧ (Ext w wl) ∧ (DigAt wl w.heap.size (some a) xs.length ca xs) ∧ (DigAt wl w.heap.size B ys.length cb ys) ∧ (Blk wl g1 (qs.map i64v) 3) ∧ (DigX wl g1 A6 (digs 65536 R1).length c6 (digs 65536 R1)) ∧ (low * Y ≤ R1) ∧ (R1 < high * Y) ∧ (low < high) ∧ (high ≤ 65536) ∧ (n = high - low)) ?_ ?_
    ·
     apply Exists.intro
     simp only [zQ,zR,zD,zE]
     exact ⟨0,65536,rfl,hX,hS,hR,hB1,hN7,by simp,hR1Y,by omega,by omega,rfl⟩
    ·
     intro n vs wr hI u
     obtain ⟨low,high,rfl,hX,hS,hR,hB1,hN7,hlow,hhigh,hl1,hl2,hn2⟩:=hI
     simp only [setG_cons,setG_nil,setMany_cons,setMany_nil,zF,zG]
     refine c_seq (fun K21 hK21=>c_seq (fun K22 hK22=>wp_region_lit (n_val (r_move) (n_val (r_move) (n_val (r_sub rfl rfl (wrap_i64 (by omega) (by omega))) ?_)))))
     simp only [ev,zD,zE,zF,zG]
     refine n_val (r_gtr rfl rfl) ?_
     simp only [ev,zD,zE,zF,zG]
     refine n_nil ?_
     refine hK22 _ _ ?_
     refine c_if rfl (fun hc3=>?_) (fun hc3=>?_)
     ·
      have hm1 : low < (low + high) / 2:=by omega
      have hm2 : (low + high) / 2 < high:=by omega
      refine wp_skip ?_
      refine hK21 _ _ ?_
      refine wp_block (c_seq (fun K23 hK23=>wp_region_lit (n_val (r_move) (n_val (r_move) (n_val (r_add rfl rfl (wrap_i64 (by omega) (by omega))) ?_)))))
      simp only [ev,zD,zE,zF,zG]
      rw [show ((low : Int) + (high : Int)) = ((low + high : Nat) : Int) by omega]
      refine n_val (r_quo rfl rfl (by omega) (quo_i64 (m:=low + high) (n:=2) (by omega))) (n_val (r_assign) ?_)
      simp only [ev,zD,zE,zF,zG]
      refine n_nil ?_
      refine hK23 _ _ ?_
      refine c_seq (fun K24 hK24=>wp_region_lit (n_val (r_move) (n_val (r_move) ?_)))
      simp only [ev,zD,zE,zF,zG]
      refine n_call rfl rfl (by_c _ hR.here (Nat.le_trans hly (by decide)) (by omega)) ?_
      rintro v w5 hE ⟨⟨A8,c8,rfl,hD8⟩,_⟩
      replace hB1:=hB1.ext hE; (try replace hS:=hS.ext hE); (try replace hR:=hR.ext hE); (try replace hN7:=hN7.ext hE); (try replace hN7:=hN7.ext hE); (try replace hN7:=hN7.ext hE); replace hX:=hX.trans hE
      clear hE
      rw [← hY] at hD8 ⊢
      simp only [ev,zD,zE,zF,zG]
      refine n_val (r_move) ?_
      simp only [ev,zD,zE,zF,zG]
      refine n_call rfl rfl (compare_c _ hD8 hN7.dig (trimmed_digs16 _) (trimmed_digs16 _)) ?_
      rintro v w6 hE rfl
      replace hB1:=hB1.ext hE; (try replace hS:=hS.ext hE); (try replace hR:=hR.ext hE); (try replace hN7:=hN7.ext hE); (try replace hN7:=hN7.ext hE); (try replace hN7:=hN7.ext hE); (try replace hD8:=hD8.ext hE); replace hX:=hX.trans hE
      clear hE
      rw [val_digs16,val_digs16]
      simp only [ev,zD,zE,zF,zG]
      refine n_val (r_leq rfl rfl) ?_
      simp only [ev,zD,zE,zF,zG]
      refine n_nil ?_
      refine hK24 _ _ ?_
      refine c_if rfl (fun hc4=>?_) (fun hc4=>?_)
      ·
       have hle4 : Y * ((low + high) / 2) ≤ R1:=ord_le_iff.1 hc4
       refine wp_region_lit (n_val (r_move) (n_val (r_assign) ?_))
       simp only [ev,zD,zE,zF,zG]
       refine n_nil ?_
       simp only [Exit.inBlock,Exit.then]
       refine ⟨high - (low + high) / 2,_,?_,rfl,?_,?_⟩
       · omega
       · simp only [zQ,zR,zD,zE,setG_cons,setG_nil,setMany_cons,setMany_nil,zF,zG]
       ·
        simp only [zQ,zR,zD,zE]
        exact ⟨(low + high) / 2,high,rfl,hX,hS,hR,hB1,hN7,by rw [Nat.mul_comm]; exact hle4,hhigh,hm2,hl2,rfl⟩
      ·
       have hle4 : R1 < Y * ((low + high) / 2):=Nat.lt_of_not_le fun h=>hc4 (ord_le_iff.2 h)
       refine wp_region_lit (n_val (r_move) (n_val (r_assign) ?_))
       simp only [ev,zD,zE,zF,zG]
       refine n_nil ?_
       simp only [Exit.inBlock,Exit.then]
       refine ⟨(low + high) / 2 - low,_,?_,rfl,?_,?_⟩
       · omega
       · simp only [zQ,zR,zD,zE,setG_cons,setG_nil,setMany_cons,setMany_nil,zF,zG]
       ·
        simp only [zQ,zR,zD,zE]
        exact ⟨low,(low + high) / 2,rfl,hX,hS,hR,hB1,hN7,hlow,by rw [Nat.mul_comm]; exact hle4,hm1,by omega,rfl⟩
     ·
      refine wp_exit ?_
      refine hK20 _ _ ?_
      refine c_seq (fun K25 hK25=>wp_region_lit (n_val (r_move) (n_val (r_move) (n_val (r_move) ?_))))
      simp only [ev,zD,zE,zF,zG]
      refine n_val (r_indexAddrS Tryz.underlying22 cells_3 rfl rfl (by omega) (by omega) (addrB1 (show _ = k - 1 by omega))) ?_
      simp only [ev,zD,zE,zF,zG]
      refine n_store rfl (by simp only [ev,zD,zE]; rfl) (by exact cells_3) hB1 (by simp; omega) (by simp [Value.oneCell']) ?_
      clear hB1; intro w5 hC hB1
      (try replace hS:=hS.chg hC (by first | assumption | rfl)); (try replace hR:=hR.chg hC (by first | assumption | rfl)); (try replace hN7:=hN7.chg hC (by first | assumption | rfl)); (try replace hN7:=hN7.chg hC (by first | assumption | rfl)); (try replace hN7:=hN7.chg hC (by first | assumption | rfl)); replace hX:=hX.chg hC hG1
      clear hC
      rw [over_set_i64 (by omega)] at hB1
      refine n_nil ?_
      refine hK25 _ _ ?_
      refine wp_region_lit (n_val (r_move) (n_val (r_move) (n_val (r_move) ?_)))
      simp only [ev,zD,zE,zF,zG]
      have hlt1:=hB1.lt
      refine n_call rfl rfl (by_c _ hR.here (Nat.le_trans hly (by decide)) (by omega)) ?_
      rintro v w6 hE ⟨⟨A8,c8,rfl,hD8⟩,_⟩
      replace hB1:=hB1.ext hE; (try replace hS:=hS.ext hE); (try replace hR:=hR.ext hE); (try replace hN7:=hN7.ext hE); (try replace hN7:=hN7.ext hE); (try replace hN7:=hN7.ext hE); replace hX:=hX.trans hE
      clear hE
      rw [← hY] at hD8 ⊢
      simp only [ev,zD,zE,zF,zG]
      have hlt2:=hB1.lt
      have hlb2:=lt_len16 (show Y * low ≤ R1 by rw [Nat.mul_comm]; exact hlow)
      refine n_call rfl rfl (minus_c _ hN7.dig hD8 hlb2 (by rw [val_digs16,val_digs16,Nat.mul_comm]; exact hlow) (by omega)) ?_
      rintro v w7 hE ⟨⟨A9,c9,rfl,hD9⟩,hn9⟩
      replace hB1:=hB1.ext hE; (try replace hS:=hS.ext hE); (try replace hR:=hR.ext hE); (try replace hN7:=hN7.ext hE); (try replace hN7:=hN7.ext hE); (try replace hN7:=hN7.ext hE); (try replace hD8:=hD8.ext hE); replace hX:=hX.trans hE
      clear hE
      rw [val_digs16,val_digs16] at hD9 ⊢
      have hN9:=DigX.mk (g:=g1) hD9 (fun a e=>by subst e; have:=hn9 a _ _ rfl; have:=hB1.lt; omega)
      simp only [ev,zD,zE,zF,zG]
      refine n_val (r_assign) ?_
      simp only [ev,zD,zE,zF,zG]
      refine n_nil ?_
      refine hK8 _ _ ?_
      refine wp_region_lit (n_val (r_move) (n_val (r_sub rfl rfl (wrap_i64 (by omega) (by omega))) (n_val (r_assign) ?_)))
      simp only [ev,zD,zE,zF,zG]
      refine n_nil ?_
      obtain ⟨r1,r2⟩:=over_round (by omega) hk hlq hv hR1 hlow hd (by omega)
      rw [show ((k:Int) - 1 - 1) = ((k - 1 : Nat) : Int) - 1 by omega]
      simp only [Exit.inBlock,Exit.then]
      refine ⟨k - 1,_,?_,rfl,?_,?_⟩
      · omega
      · simp only [zQ,zR,zD,zE,setG_cons,setG_nil,setMany_cons,setMany_nil,zF,zG]
      ·
       simp only [zQ,zR,zD,zE]
       exact ⟨k - 1,R1 - Y * low,qs.set (k - 1) low,A9,c9,rfl,hX,hS,hR,hB1,hN9,by omega,by simpa using hlq,r1,over_less h0 hhigh hc3,r2,rfl⟩
  ·
   refine wp_exit ?_
   refine hK4 _ _ ?_
   refine c_seq (fun K26 hK26=>wp_region_lit (n_val (r_move) ?_))
   simp only [ev,zD,zE,zF,zG]
   refine n_call rfl rfl (trim_c _ (DigAt.of_blk hB1 hd hlq.symm (by omega))) ?_
   rintro v w2 hE rfl
   replace hB1:=hB1.ext hE; (try replace hS:=hS.ext hE); (try replace hR:=hR.ext hE); (try replace hN7:=hN7.ext hE); replace hX:=hX.trans hE
   clear hE
   simp only [ev,zD,zE,zF,zG]
   refine n_val (r_move) (n_val (r_assign) (n_val (r_assign) ?_))
   simp only [ev,zD,zE,zF,zG]
   refine n_nil ?_
   refine hK26 _ _ ?_
   refine wp_ret ?_
   try simp only [Exit.inBlock,Exit.then]
   refine fin2 rfl rfl rfl ?_
   try simp only [zD,zE]
   (obtain rfl : k = 0:=by omega); (rw [List.drop_zero,List.drop_zero] at hv); (have hq:=div_unique h0 hRY hv); exact ⟨_,rfl,hX,_,_,rfl,by rw [← hq.1]; exact DigRes.of_trim (DigAt.of_blk hB1 hd hlq.symm (by omega)) rfl,by rw [← hq.2]; exact ⟨A7,c7,rfl,hN7.dig⟩⟩
end Go.Proofs.YtmcgcnpgkkfkoaaGreatDoor
namespace Go.Lith
open Go.RowKit
theorem pow_sq (k : Nat) : (65536 : Nat) ^ k = 256 ^ (2 * k):=by rw [show (65536 : Nat) = 256 ^ 2 from rfl,← Nat.pow_mul]
theorem digits_round {os bs : List Nat} {k d : Nat} (hl : os.length = k) (hv : val 65536 os = val 256 (bs.take (2 * k))) (h : 2 * k < bs.length) (hd : d = bs[2 * k] + 256 * (bs[2 * k + 1]?.getD 0)) (hb : Digs 256 bs) (ho : Digs 65536 os) :
    val 65536 (os ++ [d]) = val 256 (bs.take (2 * (k + 1))) ∧ Digs 65536 (os ++ [d]):=by
  have h1:=hb _ (List.getElem_mem h)
  have h2 : bs[2 * k + 1]?.getD 0 < 256:=by
    rcases Nat.lt_or_ge (2 * k + 1) bs.length with h | h
    · rw [List.getElem?_eq_getElem h]; exact hb _ (List.getElem_mem h)
    · rw [List.getElem?_eq_none h]; decide
  refine ⟨?_,ho.append (digs_cons (by omega) (digs_nil _))⟩
  have ht : val 256 (bs.take (2 * k + 1 + 1)) = val 256 (bs.take (2 * k + 1)) + 256 ^ (2 * k + 1) * bs[2 * k + 1]?.getD 0:=by
    rcases Nat.lt_or_ge (2 * k + 1) bs.length with h | h
    · rw [val_take_succ h,List.getElem?_eq_getElem h]; rfl
    · rw [List.take_of_length_le (by omega),List.take_of_length_le h,List.getElem?_eq_none h]; simp
  rw [show 2 * (k + 1) = 2 * k + 1 + 1 by omega,ht,val_take_succ h,val_append,hl,hv,pow_sq,Nat.pow_succ]
  simp only [val,Nat.mul_zero,Nat.add_zero]
  subst hd
  generalize 256 ^ (2 * k) = p
  grind
def wb2 (x : Nat) : List UInt8:=[UInt8.ofNat (x / 256),UInt8.ofNat x]
theorem val_rev_bytes2 (ys : List Nat) (h : Digs 65536 ys) : val 256 (((ys.reverse.flatMap wb2).reverse).map UInt8.toNat) = val 65536 ys ∧ Digs 256 (((ys.reverse.flatMap wb2).reverse).map UInt8.toNat):=by
  induction ys with
  | nil=>exact ⟨rfl,fun _ h=>by cases h⟩
  | cons y ys ih =>
    have hy:=h y (by simp)
    obtain ⟨i1,i2⟩:=ih (fun x hx=>h x (by simp [hx]))
    have e : (((y :: ys).reverse.flatMap wb2).reverse).map UInt8.toNat = [y % 256,y / 256 % 256] ++ (((ys.reverse.flatMap wb2).reverse).map UInt8.toNat):=by
      simp [List.flatMap_append,wb2,UInt8.toNat_ofNat']
    rw [e]
    refine ⟨?_,?_⟩
    · rw [val_append,i1]
      simp only [val,List.length_cons,List.length_nil]
      omega
    · refine Digs.append ?_ i2
      intro x hx
      simp at hx
      omega
theorem wide_bytes2 {ys : List Nat} (h : Digs 65536 ys) (neg : Bool) : strOf (strip (ys.reverse.flatMap wb2)) = wmag (sgn neg (val 65536 ys)):=by
  obtain ⟨h1,h2⟩:=val_rev_bytes2 ys h
  rw [strip_bytes,trim_eq_digs (by omega) h2 h1,wmag,sgn_natAbs,beBytes]
  rfl
def laid2 (ys : List Nat) (k : Nat) : List UInt8:=strip ((ys.drop k).reverse.flatMap wb2)
theorem strip_append {l m : List UInt8} (h : strip l ≠ []) : strip (l ++ m) = strip l ++ m:=by
  induction l with
  | nil=>exact absurd rfl h
  | cons b l ih =>
    by_cases hb : b = 0
    · subst hb
      have e : strip (0 :: l) = strip l:=by simp [strip]
      have e2 : strip ((0 :: l) ++ m) = strip (l ++ m):=by simp [strip]
      rw [e] at h
      rw [e,e2,ih h]
    · simp [strip,hb]
theorem laid2_next {ys : List Nat} {k : Nat} (hk : 0 < k) (hl : k - 1 < ys.length) (h : laid2 ys k ≠ []) : laid2 ys (k - 1) = laid2 ys k ++ [UInt8.ofNat (ys[k - 1] / 256)] ++ [UInt8.ofNat (ys[k - 1] % 256)] ∧ laid2 ys (k - 1) ≠ []:=by
  have e : laid2 ys (k - 1) = laid2 ys k ++ [UInt8.ofNat (ys[k - 1] / 256)] ++ [UInt8.ofNat (ys[k - 1] % 256)]:=by
    unfold laid2 at *
    rw [List.drop_eq_getElem_cons hl,show k - 1 + 1 = k by omega,List.reverse_cons,List.flatMap_append,strip_append h]
    have : UInt8.ofNat (ys[k - 1] % 256) = UInt8.ofNat (ys[k - 1]):=by
      apply UInt8.toNat_inj.1
      simp [UInt8.toNat_ofNat']
    rw [this]
    simp [wb2]
  exact ⟨e,by rw [e]; simp⟩
theorem laid2_first {ys : List Nat} (hl : ys.length - 1 < ys.length) (h0 : 0 < ys[ys.length - 1]) (h16 : ys[ys.length - 1] < 65536) :
    laid2 ys (ys.length - 1) = (if 256 ≤ ys[ys.length - 1] then [UInt8.ofNat (ys[ys.length - 1] / 256)] else []) ++ [UInt8.ofNat (ys[ys.length - 1] % 256)] ∧ laid2 ys (ys.length - 1) ≠ []:=by
  have e : laid2 ys (ys.length - 1) = strip (wb2 (ys[ys.length - 1])):=by
    unfold laid2
    rw [List.drop_eq_getElem_cons hl,show ys.length - 1 + 1 = ys.length by omega,List.drop_length]
    simp
  generalize ys[ys.length - 1] = x at *
  have hm : UInt8.ofNat (x % 256) = UInt8.ofNat x:=by
    apply UInt8.toNat_inj.1
    simp [UInt8.toNat_ofNat']
  have ez : ∀ y : Nat,y < 256 → (UInt8.ofNat y = 0 ↔ y = 0):=fun y hy=>by
    rw [← UInt8.toNat_inj]
    simp only [UInt8.toNat_ofNat',UInt8.toNat_zero]
    rw [Nat.mod_eq_of_lt (by omega)]
  have e2 : strip (wb2 x) = (if 256 ≤ x then [UInt8.ofNat (x / 256)] else []) ++ [UInt8.ofNat (x % 256)]:=by
    split
    · rename_i h
      have hn : ¬ UInt8.ofNat (x / 256) = 0:=fun e=>by have:=(ez _ (by omega)).1 e; omega
      rw [hm]
      simp [strip,wb2,hn]
    · rename_i h
      have hz : UInt8.ofNat (x / 256) = 0:=(ez _ (by omega)).2 (by omega)
      have hn : ¬ UInt8.ofNat x = 0:=fun e=>by have:=(ez _ (by omega)).1 e; omega
      rw [hm]
      simp [strip,wb2,hz,hn]
  exact ⟨e.trans e2,by rw [e,e2]; simp⟩
theorem laid2_all (ys : List Nat) : laid2 ys ys.length = []:=by unfold laid2; rw [List.drop_length]; rfl
theorem laid2_zero {ys : List Nat} (h : Digs 65536 ys) (neg : Bool) : strOf (laid2 ys 0) = wmag (sgn neg (val 65536 ys)):=by
  unfold laid2; rw [List.drop_zero]; exact wide_bytes2 h neg
theorem laid2_len (ys : List Nat) (k : Nat) : (laid2 ys k).length ≤ 2 * ys.length:=by
  have h1 : ∀ l : List UInt8,(strip l).length ≤ l.length:=fun l=>by
    induction l with
    | nil=>simp [strip]
    | cons b l ih =>
      unfold strip at *
      rw [List.dropWhile_cons]
      split
      · simp; omega
      · simp
  have h2 : ∀ l : List Nat,(l.flatMap wb2).length = 2 * l.length:=fun l=>by
    induction l with
    | nil=>rfl
    | cons x l ih=>rw [List.flatMap_cons,List.length_append,ih]; simp [wb2]; omega
  refine Nat.le_trans (h1 _) ?_
  rw [h2]
  simp
  omega
theorem Owns.snoc8 {w : World} {b : Nat} {E : TypeId} {v : Value} {os : List UInt8} {x : Nat} (h : Owns w b E 1 v (os.length + 1) (os.map u8v ++ [.int .u8 (x : Int)])) (hx : x < 256) : Owns w b E 1 v (os ++ [UInt8.ofNat x]).length ((os ++ [UInt8.ofNat x]).map u8v):=by
  have : u8v (UInt8.ofNat x) = .int .u8 (x : Int):=by simp only [u8v,UInt8.toNat_ofNat',Value.int.injEq,true_and]; rw [Nat.mod_eq_of_lt (by omega)]
  rw [List.map_append,List.map_singleton,this,List.length_append]
  exact h
theorem wrap_u8n {x : Nat} (h : x < 256) : IntKind.u8.wrap (x : Int) = (x : Int):=wrap_u8 (by omega) (by omega)
theorem from_round {os : List Nat} {m V : Nat} (hv : val 65536 os + 65536 ^ os.length * m = V) (hd : Digs 65536 os) (h2 : m < 2 ^ (64 - os.length)) (h3 : os.length ≤ 64) (h0 : 0 < m) :
    val 65536 (os ++ [m % 65536]) + 65536 ^ (os ++ [m % 65536]).length * (m / 65536) = V ∧ Digs 65536 (os ++ [m % 65536]) ∧ m / 65536 < 2 ^ (64 - (os ++ [m % 65536]).length) ∧ (os ++ [m % 65536]).length ≤ 64:=by
  have hl : os.length < 64:=by
    rcases Nat.lt_or_ge os.length 64 with h | h
    · exact h
    · rw [show 64 - os.length = 0 by omega] at h2; omega
  refine ⟨?_,hd.append (digs_cons (Nat.mod_lt _ (by omega)) (digs_nil _)),?_,by simp; omega⟩
  · rw [val_append,List.length_append,List.length_singleton,Nat.pow_succ]
    simp only [val,Nat.mul_zero,Nat.add_zero]
    have e : m = m % 65536 + 65536 * (m / 65536):=by omega
    generalize m / 65536 = q at *
    generalize m % 65536 = r at *
    generalize 65536 ^ os.length = p at *
    subst e
    grind
  · rw [List.length_append,List.length_singleton]
    have e : 2 ^ (64 - os.length) = 2 * 2 ^ (64 - (os.length + 1)):=by rw [← Nat.pow_succ']; congr 1; omega
    rw [e] at h2
    omega
end Go.Lith
namespace Go.Proofs.YtmcgcnpgkkfkoaaGreatDoor
open Go.RowKit Go.Lith
set_option maxRecDepth 100000
attribute [local irreducible] wpList wpQuiet wpMix Code.wp
theorem digits_c {neg : Bool} {s : ByteArray} (w : World) (hs : s.size ≤ 1000000000000) : Does Tryz.prog 109 [.agg #[.bool neg,.string s]] w (DigRes (sval s)):=by
 skip
 refine ⟨en_109,?_⟩
 have hX:=Ext.refl w
 have hbl:=sbytes_length s
 have hbd:=sbytes_digs s
 go_enter Tryz.func109,Tryz.ntmps109
 refine c_seq (fun K1 hK1=>wp_region_lit ?_)
 refine n_box (by simp only [ev,zD,zE]; rfl) ?_
 intro w1 g1 hE hg1 hB1
 have hG1:=Nat.le_trans hX.size hg1
 replace hX:=hX.trans hE
 clear hE hg1
 simp only [ev,zD,zE,zF,zG]
 refine n_val (r_assign) ?_
 simp only [ev,zD,zE,zF,zG]
 refine n_nil ?_
 refine hK1 _ _ ?_
 refine c_seq (fun K2 hK2=>wp_region_lit (n_val (r_assign) ?_))
 simp only [ev,zD,zE,zF,zG]
 obtain ⟨b3,hb3e,hb3l⟩:=hX.base
 have hS3:=Base.of hX hb3e
 have hO3:=Owns.nil_of hX b3 3 1
 have hl3_1 : g1 < b3:=by rw [hb3e]; exact hB1.lt
 clear hb3e
 refine n_nil ?_
 refine hK2 _ _ ?_
 refine c_seq (fun K3 hK3=>wp_region_lit (n_val (r_fieldAddr (c:=0) Tryz.underlying32 rfl cells_9 rfl rfl) ?_))
 simp only [ev,zD,zE,zF,zG]
 refine n_load rfl (hB1.lies1 agg_9 rfl) ?_
 simp only [ev,zD,zE,zF,zG]
 refine n_val (r_lenStr rfl Tryz.underlying9 rfl) (n_val (r_assign) ?_)
 simp only [ev,zD,zE,zF,zG]
 refine n_nil ?_
 refine hK3 _ _ ?_
 refine c_seq (fun K4 hK4=>c_seq (fun K5 hK5=>wp_region_lit (n_val (r_move) (n_val (r_assign) ?_))))
 simp only [ev,zD,zE,zF,zG]
 refine n_nil ?_
 refine hK5 _ _ ?_
 refine wp_block ?_
 refine c_loopg [3,5] [6,11,12,13,14,15,16,17,18,19,20,21,22,23,24,25,26,27,28,29,30,31,32,33,34,35] (fun n vs wl=>∃ (k : Nat) (os : List Nat) (v3 : Value),vs = [v3,.int .i64 ((s.size : Int) - 2 * (k : Int))] ∧ (Ext w wl) ∧ (Blk wl g1 [.bool neg,.string s] 32) ∧ (Base wl b3) ∧ (Owns wl b3 3 1 v3 os.length (os.map i64v)) ∧ (os.length = k) ∧ (val 65536 os = val 256 ((sbytes s).take (2 * k))) ∧ (Digs 65536 os) ∧ (2 * k ≤ s.size + 1) ∧ (n = s.size - 2 * k)) ?_ ?_
 ·
  rw [show ((s.size : Int)) = (s.size : Int) - 2 * ((0 : Nat) : Int) by omega]
  apply Exists.intro
  simp only [zQ,zR,zD,zE]
  exact ⟨0,[],_,rfl,hX,hB1,hS3,hO3,rfl,by simp [val],digs_nil _,by omega,rfl⟩
 ·
  intro n vs wr hI u
  obtain ⟨k,os,v3,rfl,hX,hB1,hS3,hO3,hlo,hv,hd,hk,hn⟩:=hI
  simp only [setG_cons,setG_nil,setMany_cons,setMany_nil,zF,zG]
  refine c_seq (fun K6 hK6=>c_seq (fun K7 hK7=>wp_region_lit (n_val (r_move) (n_val (r_gtr rfl rfl) ?_))))
  simp only [ev,zD,zE,zF,zG]
  refine n_nil ?_
  refine hK7 _ _ ?_
  refine c_if rfl (fun hc1=>?_) (fun hc1=>?_)
  ·
   refine wp_skip ?_
   refine hK6 _ _ ?_
   refine c_seq (fun K8 hK8=>wp_block (c_seq (fun K9 hK9=>?_)))
   obtain ⟨y1,hb1,hp1,hy1⟩:=sbytes_get (show 2 * k + 1 + (s.size - 2 * k - 1) = s.size by omega)
   have hy1l : y1.toNat < 256:=y1.toNat_lt
   refine wp_region_lit (n_val (r_fieldAddr (c:=0) Tryz.underlying32 rfl cells_9 rfl rfl) ?_)
   simp only [ev,zD,zE,zF,zG]
   refine n_load rfl (hB1.lies1 agg_9 rfl) ?_
   simp only [ev,zD,zE,zF,zG]
   refine n_val (r_move) (n_val (r_sub rfl rfl (wrap_i64 (by omega) (by omega))) ?_)
   simp only [ev,zD,zE,zF,zG]
   refine n_val ((r_indexStr Tryz.underlying9 rfl rfl (by omega) (by rw [show ((s.size : Int) - 2 * (k : Int) - 1).toNat = s.size - 2 * k - 1 by omega]; exact hb1))) ?_
   simp only [ev,zD,zE,zF,zG]
   refine n_val (r_conv Tryz.underlying3 Tryz.underlying5 rfl (wrap_i64 (by omega) (by omega))) (n_val (r_assign) ?_)
   simp only [ev,zD,zE,zF,zG]
   refine n_nil ?_
   refine hK9 _ _ ?_
   refine c_seq (fun K10 hK10=>c_seq (fun K11 hK11=>wp_region_lit (n_val (r_move) (n_val (r_gtr rfl rfl) ?_))))
   simp only [ev,zD,zE,zF,zG]
   refine n_nil ?_
   refine hK11 _ _ ?_
   refine c_if rfl (fun hc2=>?_) (fun hc2=>?_)
   ·
    obtain ⟨y2,hb2,hp2,hy2⟩:=sbytes_get (show 2 * k + 1 + 1 + (s.size - 2 * k - 2) = s.size by omega)
    have hy2l : y2.toNat < 256:=y2.toNat_lt
    refine wp_region_lit (n_val (r_move) (n_val (r_fieldAddr (c:=0) Tryz.underlying32 rfl cells_9 rfl rfl) ?_))
    simp only [ev,zD,zE,zF,zG]
    refine n_load rfl (hB1.lies1 agg_9 rfl) ?_
    simp only [ev,zD,zE,zF,zG]
    refine n_val (r_move) (n_val (r_sub rfl rfl (wrap_i64 (by omega) (by omega))) ?_)
    simp only [ev,zD,zE,zF,zG]
    refine n_val ((r_indexStr Tryz.underlying9 rfl rfl (by omega) (by rw [show ((s.size : Int) - 2 * (k : Int) - 2).toNat = s.size - 2 * k - 2 by omega]; exact hb2))) ?_
    simp only [ev,zD,zE,zF,zG]
    refine n_val (r_conv Tryz.underlying3 Tryz.underlying5 rfl (wrap_i64 (by omega) (by omega))) (n_val (r_mul rfl rfl (wrap_i64 (by omega) (by omega))) (n_val (r_add rfl rfl (wrap_i64 (by omega) (by omega))) ?_))
    simp only [ev,zD,zE,zF,zG]
    refine n_val (r_assign) ?_
    simp only [ev,zD,zE,zF,zG]
    refine n_nil ?_
    obtain ⟨d,hd1⟩ : ∃ d : Nat,d = y1.toNat + 256 * y2.toNat:=⟨_,rfl⟩
    rw [show ((y1.toNat : Int) + 256 * (y2.toNat : Int)) = (d : Int) by omega]
    have hd2 : d = (sbytes s)[2 * k] + 256 * ((sbytes s)[2 * k + 1]?.getD 0):=by rw [List.getElem?_eq_getElem hp2,hy1]; simp only [Option.getD_some]; rw [hy2]; exact hd1
    refine hK10 _ _ ?_
    refine wp_region_lit (n_val (r_move) (n_val (r_move) ?_))
    simp only [ev,zD,zE,zF,zG]
    refine n_build1 Tryz.underlying22 (z:=.int .i64 0) (by kernel_rfl) rfl (by simp only [ev,zD,zE,zF,zG]; rfl) (by rfl) ?_
    intro w2 g2 hE hg2 hB2
    have hG2:=Nat.le_trans hX.size hg2; have hN2_1 : g2 ≠ g1:=Nat.ne_of_gt (Nat.lt_of_lt_of_le hB1.lt hg2)
    replace hB1:=hB1.ext hE; (try replace hS3:=hS3.ext hE); (try replace hO3:=hO3.ext hE); replace hX:=hX.trans hE
    clear hE hg2
    simp only [ev,zD,zE,zF,zG]
    refine n_append rfl Tryz.underlying22 inf_3 rfl (by decide) rfl hO3 rfl (news:=_) rfl hB2.row0 (by simp [Value.oneCell']) (by omega) (by omega) hS3.h ?_
    clear hO3; intro v3 w3 hO3 hGr _
    replace hB1:=hB1.grew hGr hl3_1; (try replace hS3:=hS3.grew hGr (by first | trivial | omega)); replace hX:=hX.grown hGr hb3l
    clear hGr
    replace hO3:=hO3.snoc
    simp only [ev,zD,zE,zF,zG]
    refine n_val (r_assign) ?_
    simp only [ev,zD,zE,zF,zG]
    refine n_nil ?_
    refine hK8 _ _ ?_
    refine wp_region_lit (n_val (r_move) (n_val (r_sub rfl rfl (wrap_i64 (by omega) (by omega))) (n_val (r_assign) ?_)))
    simp only [ev,zD,zE,zF,zG]
    refine n_nil ?_
    obtain ⟨r1,r2⟩:=digits_round hlo hv (by omega) hd2 hbd hd
    rw [show ((s.size : Int) - 2 * (k : Int) - 2) = (s.size : Int) - 2 * ((k + 1 : Nat) : Int) by omega]
    simp only [Exit.inBlock,Exit.then]
    refine ⟨s.size - 2 * (k + 1),_,?_,rfl,?_,?_⟩
    · omega
    · simp only [zQ,zR,zD,zE,setG_cons,setG_nil,setMany_cons,setMany_nil,zF,zG]
    ·
     simp only [zQ,zR,zD,zE]
     exact ⟨k + 1,os ++ [d],v3,rfl,hX,hB1,hS3,hO3,by simp; omega,r1,r2,by omega,rfl⟩
   ·
    obtain ⟨d,hd1⟩ : ∃ d : Nat,d = y1.toNat:=⟨_,rfl⟩
    rw [← hd1]
    have hd2 : d = (sbytes s)[2 * k] + 256 * ((sbytes s)[2 * k + 1]?.getD 0):=by rw [List.getElem?_eq_none (by omega),hy1]; simp only [Option.getD_none]; omega
    refine wp_skip ?_
    refine hK10 _ _ ?_
    refine wp_region_lit (n_val (r_move) (n_val (r_move) ?_))
    simp only [ev,zD,zE,zF,zG]
    refine n_build1 Tryz.underlying22 (z:=.int .i64 0) (by kernel_rfl) rfl (by simp only [ev,zD,zE,zF,zG]; rfl) (by rfl) ?_
    intro w2 g2 hE hg2 hB2
    have hG2:=Nat.le_trans hX.size hg2; have hN2_1 : g2 ≠ g1:=Nat.ne_of_gt (Nat.lt_of_lt_of_le hB1.lt hg2)
    replace hB1:=hB1.ext hE; (try replace hS3:=hS3.ext hE); (try replace hO3:=hO3.ext hE); replace hX:=hX.trans hE
    clear hE hg2
    simp only [ev,zD,zE,zF,zG]
    refine n_append rfl Tryz.underlying22 inf_3 rfl (by decide) rfl hO3 rfl (news:=_) rfl hB2.row0 (by simp [Value.oneCell']) (by omega) (by omega) hS3.h ?_
    clear hO3; intro v3 w3 hO3 hGr _
    replace hB1:=hB1.grew hGr hl3_1; (try replace hS3:=hS3.grew hGr (by first | trivial | omega)); replace hX:=hX.grown hGr hb3l
    clear hGr
    replace hO3:=hO3.snoc
    simp only [ev,zD,zE,zF,zG]
    refine n_val (r_assign) ?_
    simp only [ev,zD,zE,zF,zG]
    refine n_nil ?_
    refine hK8 _ _ ?_
    refine wp_region_lit (n_val (r_move) (n_val (r_sub rfl rfl (wrap_i64 (by omega) (by omega))) (n_val (r_assign) ?_)))
    simp only [ev,zD,zE,zF,zG]
    refine n_nil ?_
    obtain ⟨r1,r2⟩:=digits_round hlo hv (by omega) hd2 hbd hd
    rw [show ((s.size : Int) - 2 * (k : Int) - 2) = (s.size : Int) - 2 * ((k + 1 : Nat) : Int) by omega]
    simp only [Exit.inBlock,Exit.then]
    refine ⟨s.size - 2 * (k + 1),_,?_,rfl,?_,?_⟩
    · omega
    · simp only [zQ,zR,zD,zE,setG_cons,setG_nil,setMany_cons,setMany_nil,zF,zG]
    ·
     simp only [zQ,zR,zD,zE]
     exact ⟨k + 1,os ++ [d],v3,rfl,hX,hB1,hS3,hO3,by simp; omega,r1,r2,by omega,rfl⟩
  ·
   refine wp_exit ?_
   refine hK4 _ _ ?_
   refine c_seq (fun K12 hK12=>?_)
   obtain ⟨A3,c3,rfl,hD,_⟩:=DigAt.of_owns hO3 rfl hd (by omega)
   refine wp_region_lit (n_val (r_move) ?_)
   simp only [ev,zD,zE,zF,zG]
   refine n_call rfl rfl (trim_c _ hD) ?_
   rintro v w2 hE rfl
   replace hB1:=hB1.ext hE; (try replace hS3:=hS3.ext hE); (try replace hO3:=hO3.ext hE); (try replace hD:=hD.ext hE); replace hX:=hX.trans hE
   clear hE
   simp only [ev,zD,zE,zF,zG]
   refine n_val (r_assign) ?_
   simp only [ev,zD,zE,zF,zG]
   refine n_nil ?_
   refine hK12 _ _ ?_
   refine wp_ret ?_
   try simp only [Exit.inBlock,Exit.then]
   refine fin1 rfl rfl ?_
   try simp only [zD,zE]
   exact ⟨_,rfl,hX,DigRes.of_trim hD (by rw [hv,List.take_of_length_le (by omega)]; rfl)⟩
theorem rwide_c {A : Option Addr} {xs : List Nat} {b na cap : Nat} {neg : Bool} (w : World) (hS : DigAt w b A na cap xs) (hl : xs.length ≤ 100000000000) : Does Tryz.prog 79 [.bool neg,.slice A na cap] w (fun v _=>v = W (sgn neg (val 65536 xs))):=by
 skip
 refine ⟨en_79,?_⟩
 have hX:=Ext.refl w
 obtain rfl:=hS.eq
 have hlt:=length_trim_le xs
 have hT : DigAt w w.heap.size A (trim xs).length cap (trim xs):=by
  have h:=(hS.take (trim xs).length).here
  rwa [← trim_eq_take] at h
 have htr:=trimmed_trim xs
 have hvx:=val_trim 65536 xs
 obtain ⟨ys,hys⟩ : ∃ ys,ys = trim xs:=⟨_,rfl⟩
 rw [← hys] at hT htr hlt hvx
 have hyd:=hT.digs
 have h2l:=laid2_len ys
 go_enter Tryz.func79,Tryz.ntmps79
 refine c_seq (fun K1 hK1=>wp_region_lit ?_)
 refine n_alloc zero_32 rfl ?_
 intro w1 g1 hE hg1 hB1
 have hG1:=Nat.le_trans hX.size hg1
 (try replace hT:=hT.ext hE); replace hX:=hX.trans hE
 clear hE hg1
 simp only [ev,zD,zE,zF,zG]
 refine n_nil ?_
 refine hK1 _ _ ?_
 refine c_seq (fun K2 hK2=>wp_region_lit (n_val (r_move) ?_))
 simp only [ev,zD,zE,zF,zG]
 refine n_call rfl rfl (trim_c _ (hS.ext hX)) ?_
 rintro v w2 hE rfl
 replace hB1:=hB1.ext hE; (try replace hT:=hT.ext hE); replace hX:=hX.trans hE
 clear hE
 rw [← hys]
 clear hys
 simp only [ev,zD,zE,zF,zG]
 refine n_val (r_assign) ?_
 simp only [ev,zD,zE,zF,zG]
 refine n_nil ?_
 refine hK2 _ _ ?_
 refine c_seq (fun K3 hK3=>c_seq (fun K4 hK4=>?_))
 by_cases hy0 : ys = []
 ·
  subst hy0
  refine wp_region_lit (n_val (r_move) (n_val (r_lenS rfl Tryz.underlying22 rfl) (n_val (r_eqlT rfl rfl (by rfl)) ?_)))
  simp only [ev,zD,zE,zF,zG]
  refine n_nil ?_
  refine hK4 _ _ ?_
  refine c_yes rfl (c_seq (fun K5 hK5=>wp_region_lit (n_val (r_build_32_) ?_)))
  simp only [ev,zD,zE,zF,zG]
  refine n_store rfl (by simp only [ev,zD,zE]; rfl) (by exact cells_32) hB1 (by simp) (by simp [Value.oneCell']) ?_
  clear hB1; intro w3 hC hB1
  (try replace hT:=hT.chg hC (by first | assumption | rfl)); replace hX:=hX.chg hC hG1
  clear hC
  simp only [over,zH,zI,zJ,zK,zL,zM,zN,zO,zP,Nat.reduceAdd] at hB1
  refine n_nil ?_
  refine hK5 _ _ ?_
  refine wp_ret ?_
  try simp only [Exit.inBlock,Exit.then]
  refine fin1 rfl ⟨_,rfl,(hB1.lies agg_32 cells_32 rfl rfl)⟩ ?_
  try simp only [zD,zE]
  exact ⟨_,rfl,hX,by rw [← hvx]; cases neg <;> rfl⟩
 ·
  have hyl : 0 < ys.length:=List.length_pos_iff.2 hy0
  have htop:=trimmed_top htr hyl
  refine wp_region_lit (n_val (r_move) (n_val (r_lenS rfl Tryz.underlying22 rfl) (n_val (r_eqlF rfl rfl (by omega)) ?_)))
  simp only [ev,zD,zE,zF,zG]
  refine n_nil ?_
  refine hK4 _ _ ?_
  refine c_no rfl (wp_skip ?_)
  refine hK3 _ _ ?_
  refine c_seq (fun K6 hK6=>wp_region_lit (n_val (r_assign) ?_))
  simp only [ev,zD,zE,zF,zG]
  obtain ⟨b5,hb5e,hb5l⟩:=hX.base
  have hS5:=Base.of hX hb5e
  have hO5:=Owns.nil_of hX b5 5 1
  have hl5_1 : g1 < b5:=by rw [hb5e]; exact hB1.lt
  clear hb5e
  refine n_nil ?_
  refine hK6 _ _ ?_
  refine c_seq (fun K7 hK7=>c_seq (fun K8 hK8=>wp_region_lit (n_val (r_move) (n_val (r_lenS rfl Tryz.underlying22 rfl) (n_val (r_sub rfl rfl (wrap_i64 (by omega) (by omega))) ?_)))))
  simp only [ev,zD,zE,zF,zG]
  refine n_val (r_assign) ?_
  simp only [ev,zD,zE,zF,zG]
  refine n_nil ?_
  refine hK8 _ _ ?_
  refine wp_block ?_
  refine c_loopg [5,6] [16,17,18,19,20,21,22,23,24,25,26,27,28,29,30,31,32,33,34,35,36,37,38,39,40,41,42,43,44,45,46,47,48,49] (fun n vs wl=>∃ (k : Nat) (os : List UInt8) (v5 : Value),vs = [v5,.int .i64 ((k:Int) - 1)] ∧ (Ext w wl) ∧ (Blk wl g1 [.bool false,.string ⟨#[]⟩] 32) ∧ (DigAt wl w.heap.size A ys.length cap ys) ∧ (Base wl b5) ∧ (Owns wl b5 5 1 v5 os.length (os.map u8v)) ∧ (os = laid2 ys k) ∧ (k ≤ ys.length) ∧ (k < ys.length → laid2 ys k ≠ []) ∧ (os.length ≤ 2 * ys.length) ∧ (n = k)) ?_ ?_
  ·
   apply Exists.intro
   simp only [zQ,zR,zD,zE]
   exact ⟨ys.length,[],_,rfl,hX,hB1,hT,hS5,hO5,(laid2_all ys).symm,by omega,fun h=>absurd h (by omega),by simp,rfl⟩
  ·
   intro n vs wr hI u
   obtain ⟨k,os,v5,rfl,hX,hB1,hT,hS5,hO5,hos,hk,hne,hosl,hn⟩:=hI
   simp only [setG_cons,setG_nil,setMany_cons,setMany_nil,zF,zG]
   refine c_seq (fun K9 hK9=>c_seq (fun K10 hK10=>wp_region_lit (n_val (r_move) (n_val (r_geq rfl rfl) ?_))))
   simp only [ev,zD,zE,zF,zG]
   refine n_nil ?_
   refine hK10 _ _ ?_
   refine c_if rfl (fun hc2=>?_) (fun hc2=>?_)
   ·
    refine wp_skip ?_
    refine hK9 _ _ ?_
    refine c_seq (fun K11 hK11=>wp_block (c_seq (fun K12 hK12=>c_seq (fun K13 hK13=>?_))))
    obtain ⟨a,rfl,hca,hla⟩:=hT.get (show k - 1 < ys.length by omega)
    rcases (show k < ys.length ∨ k = ys.length by omega) with hkl | hkl
    ·
     obtain ⟨r1,r2⟩:=laid2_next (show 0 < k by omega) (by omega) (hne hkl)
     refine wp_region_lit (n_val (r_move) (n_val (r_move) (n_val (r_lenS rfl Tryz.underlying22 rfl) ?_)))
     simp only [ev,zD,zE,zF,zG]
     refine n_val (r_sub rfl rfl (wrap_i64 (by omega) (by omega))) (n_val (r_lssT rfl rfl (by omega)) (n_val (r_move) ?_))
     simp only [ev,zD,zE,zF,zG]
     refine n_skipF rfl ?_
     simp only [ev,zD,zE,zF,zG]
     refine n_skipF rfl ?_
     simp only [ev,zD,zE,zF,zG]
     refine n_skipF rfl ?_
     simp only [ev,zD,zE,zF,zG]
     refine n_skipF rfl ?_
     simp only [ev,zD,zE,zF,zG]
     refine n_skipF rfl ?_
     simp only [ev,zD,zE,zF,zG]
     refine n_val (r_pickT rfl) ?_
     simp only [ev,zD,zE,zF,zG]
     refine n_nil ?_
     refine hK13 _ _ ?_
     refine c_yes rfl ?_
     have hca:=hT.at (show k - 1 < ys.length by omega)
     refine wp_region_lit (n_val (r_move) (n_val (r_move) (n_val (r_move) ?_)))
     simp only [ev,zD,zE,zF,zG]
     refine n_val (r_indexAddrS Tryz.underlying22 cells_3 rfl rfl (by omega) (by omega) (addr1 (show _ = k - 1 by omega))) ?_
     simp only [ev,zD,zE,zF,zG]
     refine n_load rfl (lies1 hca agg_3) ?_
     simp only [ev,zD,zE,zF,zG]
     refine n_val (r_quo rfl rfl (by omega) (quo_i64 (n:=256) (by omega))) (n_val (r_conv Tryz.underlying5 Tryz.underlying3 rfl (wrap_u8n (by omega))) ?_)
     simp only [ev,zD,zE,zF,zG]
     refine n_build1 Tryz.underlying143 (z:=.int .u8 0) (by kernel_rfl) rfl (by simp only [ev,zD,zE,zF,zG]; rfl) (by rfl) ?_
     intro w3 g2 hE hg2 hB2
     have hG2:=Nat.le_trans hX.size hg2; have hN2_1 : g2 ≠ g1:=Nat.ne_of_gt (Nat.lt_of_lt_of_le hB1.lt hg2)
     replace hB1:=hB1.ext hE; (try replace hT:=hT.ext hE); (try replace hS5:=hS5.ext hE); (try replace hO5:=hO5.ext hE); replace hX:=hX.trans hE
     clear hE hg2
     simp only [ev,zD,zE,zF,zG]
     refine n_append rfl Tryz.underlying143 inf_5 rfl (by decide) rfl hO5 rfl (news:=_) rfl hB2.row0 (by simp [Value.oneCell']) (by omega) (by omega) hS5.h ?_
     clear hO5; intro v5 w4 hO5 hGr _
     replace hB1:=hB1.grew hGr hl5_1; (try replace hT:=hT.grew hGr (by first | trivial | omega)); (try replace hS5:=hS5.grew hGr (by first | trivial | omega)); replace hX:=hX.grown hGr hb5l
     clear hGr
     replace hO5:=hO5.snoc8 (by omega)
     simp only [ev,zD,zE,zF,zG]
     refine n_val (r_assign) ?_
     simp only [ev,zD,zE,zF,zG]
     refine n_nil ?_
     refine hK12 _ _ ?_
     have hca:=hT.at (show k - 1 < ys.length by omega)
     refine wp_region_lit (n_val (r_move) (n_val (r_move) (n_val (r_move) ?_)))
     simp only [ev,zD,zE,zF,zG]
     refine n_val (r_indexAddrS Tryz.underlying22 cells_3 rfl rfl (by omega) (by omega) (addr1 (show _ = k - 1 by omega))) ?_
     simp only [ev,zD,zE,zF,zG]
     refine n_load rfl (lies1 hca agg_3) ?_
     simp only [ev,zD,zE,zF,zG]
     refine n_val (r_rem rfl rfl (by omega) (rem_nat (n:=256))) (n_val (r_conv Tryz.underlying5 Tryz.underlying3 rfl (wrap_u8n (by omega))) ?_)
     simp only [ev,zD,zE,zF,zG]
     refine n_build1 Tryz.underlying143 (z:=.int .u8 0) (by kernel_rfl) rfl (by simp only [ev,zD,zE,zF,zG]; rfl) (by rfl) ?_
     intro w5 g3 hE hg3 hB3
     have hG3:=Nat.le_trans hX.size hg3; have hN3_1 : g3 ≠ g1:=Nat.ne_of_gt (Nat.lt_of_lt_of_le hB1.lt hg3)
     replace hB1:=hB1.ext hE; (try replace hT:=hT.ext hE); (try replace hS5:=hS5.ext hE); (try replace hO5:=hO5.ext hE); replace hX:=hX.trans hE
     clear hE hg3
     simp only [ev,zD,zE,zF,zG]
     refine n_append rfl Tryz.underlying143 inf_5 rfl (by decide) rfl hO5 rfl (news:=_) rfl hB3.row0 (by simp [Value.oneCell']) (by first | omega | (simp; omega)) (by first | omega | (simp; omega)) hS5.h ?_
     clear hO5; intro v5 w6 hO5 hGr _
     replace hB1:=hB1.grew hGr hl5_1; (try replace hT:=hT.grew hGr (by first | trivial | omega)); (try replace hS5:=hS5.grew hGr (by first | trivial | omega)); replace hX:=hX.grown hGr hb5l
     clear hGr
     replace hO5:=hO5.snoc8 (by omega)
     simp only [ev,zD,zE,zF,zG]
     refine n_val (r_assign) ?_
     simp only [ev,zD,zE,zF,zG]
     refine n_nil ?_
     refine hK11 _ _ ?_
     refine wp_region_lit (n_val (r_move) (n_val (r_sub rfl rfl (wrap_i64 (by omega) (by omega))) (n_val (r_assign) ?_)))
     simp only [ev,zD,zE,zF,zG]
     refine n_nil ?_
     have hos2 : os ++ [UInt8.ofNat (ys[k - 1] / 256)] ++ [UInt8.ofNat (ys[k - 1] % 256)] = laid2 ys (k - 1):=by rw [r1,hos]
     rw [show ((k:Int) - 1 - 1) = ((k - 1 : Nat) : Int) - 1 by omega]
     simp only [Exit.inBlock,Exit.then]
     refine ⟨k - 1,_,?_,rfl,?_,?_⟩
     · omega
     · simp only [zQ,zR,zD,zE,setG_cons,setG_nil,setMany_cons,setMany_nil,zF,zG]
     ·
      simp only [zQ,zR,zD,zE]
      exact ⟨k - 1,os ++ [UInt8.ofNat (ys[k - 1] / 256)] ++ [UInt8.ofNat (ys[k - 1] % 256)],v5,rfl,hX,hB1,hT,hS5,hO5,hos2,by omega,fun _=>r2,by rw [hos2]; exact h2l _,rfl⟩
    ·
     subst hkl
     obtain ⟨f1,f2⟩:=laid2_first (by omega) htop hla
     have hos0 : os = []:=by rw [hos]; exact laid2_all ys
     refine wp_region_lit (n_val (r_move) (n_val (r_move) (n_val (r_lenS rfl Tryz.underlying22 rfl) ?_)))
     simp only [ev,zD,zE,zF,zG]
     refine n_val (r_sub rfl rfl (wrap_i64 (by omega) (by omega))) (n_val (r_lssF rfl rfl (by omega)) (n_val (r_move) ?_))
     simp only [ev,zD,zE,zF,zG]
     refine n_want rfl (n_val (r_move) ?_)
     simp only [ev,zD,zE,zF,zG]
     refine n_want rfl (n_val (r_move) ?_)
     simp only [ev,zD,zE,zF,zG]
     refine n_want rfl (n_val (r_indexAddrS Tryz.underlying22 cells_3 rfl rfl (by omega) (by omega) (addr1 (show _ = ys.length - 1 by omega))) ?_)
     simp only [ev,zD,zE,zF,zG]
     refine n_want rfl ?_
     refine n_load rfl (lies1 hca agg_3) ?_
     simp only [ev,zD,zE,zF,zG]
     refine n_want rfl (n_val (r_geq rfl rfl) (n_val (r_pickF rfl) ?_))
     simp only [ev,zD,zE,zF,zG]
     refine n_nil ?_
     refine hK13 _ _ ?_
     refine c_if rfl (fun hc3=>?_) (fun hc3=>?_)
     ·
      have hca:=hT.at (show ys.length - 1 < ys.length by omega)
      refine wp_region_lit (n_val (r_move) (n_val (r_move) (n_val (r_move) ?_)))
      simp only [ev,zD,zE,zF,zG]
      refine n_val (r_indexAddrS Tryz.underlying22 cells_3 rfl rfl (by omega) (by omega) (addr1 (show _ = ys.length - 1 by omega))) ?_
      simp only [ev,zD,zE,zF,zG]
      refine n_load rfl (lies1 hca agg_3) ?_
      simp only [ev,zD,zE,zF,zG]
      refine n_val (r_quo rfl rfl (by omega) (quo_i64 (n:=256) (by omega))) (n_val (r_conv Tryz.underlying5 Tryz.underlying3 rfl (wrap_u8n (by omega))) ?_)
      simp only [ev,zD,zE,zF,zG]
      refine n_build1 Tryz.underlying143 (z:=.int .u8 0) (by kernel_rfl) rfl (by simp only [ev,zD,zE,zF,zG]; rfl) (by rfl) ?_
      intro w3 g2 hE hg2 hB2
      have hG2:=Nat.le_trans hX.size hg2; have hN2_1 : g2 ≠ g1:=Nat.ne_of_gt (Nat.lt_of_lt_of_le hB1.lt hg2)
      replace hB1:=hB1.ext hE; (try replace hT:=hT.ext hE); (try replace hS5:=hS5.ext hE); (try replace hO5:=hO5.ext hE); replace hX:=hX.trans hE
      clear hE hg2
      simp only [ev,zD,zE,zF,zG]
      refine n_append rfl Tryz.underlying143 inf_5 rfl (by decide) rfl hO5 rfl (news:=_) rfl hB2.row0 (by simp [Value.oneCell']) (by omega) (by omega) hS5.h ?_
      clear hO5; intro v5 w4 hO5 hGr _
      replace hB1:=hB1.grew hGr hl5_1; (try replace hT:=hT.grew hGr (by first | trivial | omega)); (try replace hS5:=hS5.grew hGr (by first | trivial | omega)); replace hX:=hX.grown hGr hb5l
      clear hGr
      replace hO5:=hO5.snoc8 (by omega)
      simp only [ev,zD,zE,zF,zG]
      refine n_val (r_assign) ?_
      simp only [ev,zD,zE,zF,zG]
      refine n_nil ?_
      refine hK12 _ _ ?_
      have hca:=hT.at (show ys.length - 1 < ys.length by omega)
      refine wp_region_lit (n_val (r_move) (n_val (r_move) (n_val (r_move) ?_)))
      simp only [ev,zD,zE,zF,zG]
      refine n_val (r_indexAddrS Tryz.underlying22 cells_3 rfl rfl (by omega) (by omega) (addr1 (show _ = ys.length - 1 by omega))) ?_
      simp only [ev,zD,zE,zF,zG]
      refine n_load rfl (lies1 hca agg_3) ?_
      simp only [ev,zD,zE,zF,zG]
      refine n_val (r_rem rfl rfl (by omega) (rem_nat (n:=256))) (n_val (r_conv Tryz.underlying5 Tryz.underlying3 rfl (wrap_u8n (by omega))) ?_)
      simp only [ev,zD,zE,zF,zG]
      refine n_build1 Tryz.underlying143 (z:=.int .u8 0) (by kernel_rfl) rfl (by simp only [ev,zD,zE,zF,zG]; rfl) (by rfl) ?_
      intro w5 g3 hE hg3 hB3
      have hG3:=Nat.le_trans hX.size hg3; have hN3_1 : g3 ≠ g1:=Nat.ne_of_gt (Nat.lt_of_lt_of_le hB1.lt hg3)
      replace hB1:=hB1.ext hE; (try replace hT:=hT.ext hE); (try replace hS5:=hS5.ext hE); (try replace hO5:=hO5.ext hE); replace hX:=hX.trans hE
      clear hE hg3
      simp only [ev,zD,zE,zF,zG]
      refine n_append rfl Tryz.underlying143 inf_5 rfl (by decide) rfl hO5 rfl (news:=_) rfl hB3.row0 (by simp [Value.oneCell']) (by first | omega | (simp; omega)) (by first | omega | (simp; omega)) hS5.h ?_
      clear hO5; intro v5 w6 hO5 hGr _
      replace hB1:=hB1.grew hGr hl5_1; (try replace hT:=hT.grew hGr (by first | trivial | omega)); (try replace hS5:=hS5.grew hGr (by first | trivial | omega)); replace hX:=hX.grown hGr hb5l
      clear hGr
      replace hO5:=hO5.snoc8 (by omega)
      simp only [ev,zD,zE,zF,zG]
      refine n_val (r_assign) ?_
      simp only [ev,zD,zE,zF,zG]
      refine n_nil ?_
      refine hK11 _ _ ?_
      refine wp_region_lit (n_val (r_move) (n_val (r_sub rfl rfl (wrap_i64 (by omega) (by omega))) (n_val (r_assign) ?_)))
      simp only [ev,zD,zE,zF,zG]
      refine n_nil ?_
      have hos2 : os ++ [UInt8.ofNat (ys[ys.length - 1] / 256)] ++ [UInt8.ofNat (ys[ys.length - 1] % 256)] = laid2 ys (ys.length - 1):=by rw [f1,if_pos (by omega),hos0]; rfl
      rw [show ((ys.length:Int) - 1 - 1) = ((ys.length - 1 : Nat) : Int) - 1 by omega]
      simp only [Exit.inBlock,Exit.then]
      refine ⟨ys.length - 1,_,?_,rfl,?_,?_⟩
      · omega
      · simp only [zQ,zR,zD,zE,setG_cons,setG_nil,setMany_cons,setMany_nil,zF,zG]
      ·
       simp only [zQ,zR,zD,zE]
       exact ⟨ys.length - 1,os ++ [UInt8.ofNat (ys[ys.length - 1] / 256)] ++ [UInt8.ofNat (ys[ys.length - 1] % 256)],v5,rfl,hX,hB1,hT,hS5,hO5,hos2,by omega,fun _=>f2,by rw [hos2]; exact h2l _,rfl⟩
     ·
      refine wp_skip ?_
      refine hK12 _ _ ?_
      have hca:=hT.at (show ys.length - 1 < ys.length by omega)
      refine wp_region_lit (n_val (r_move) (n_val (r_move) (n_val (r_move) ?_)))
      simp only [ev,zD,zE,zF,zG]
      refine n_val (r_indexAddrS Tryz.underlying22 cells_3 rfl rfl (by omega) (by omega) (addr1 (show _ = ys.length - 1 by omega))) ?_
      simp only [ev,zD,zE,zF,zG]
      refine n_load rfl (lies1 hca agg_3) ?_
      simp only [ev,zD,zE,zF,zG]
      refine n_val (r_rem rfl rfl (by omega) (rem_nat (n:=256))) (n_val (r_conv Tryz.underlying5 Tryz.underlying3 rfl (wrap_u8n (by omega))) ?_)
      simp only [ev,zD,zE,zF,zG]
      refine n_build1 Tryz.underlying143 (z:=.int .u8 0) (by kernel_rfl) rfl (by simp only [ev,zD,zE,zF,zG]; rfl) (by rfl) ?_
      intro w3 g2 hE hg2 hB2
      have hG2:=Nat.le_trans hX.size hg2; have hN2_1 : g2 ≠ g1:=Nat.ne_of_gt (Nat.lt_of_lt_of_le hB1.lt hg2)
      replace hB1:=hB1.ext hE; (try replace hT:=hT.ext hE); (try replace hS5:=hS5.ext hE); (try replace hO5:=hO5.ext hE); replace hX:=hX.trans hE
      clear hE hg2
      simp only [ev,zD,zE,zF,zG]
      refine n_append rfl Tryz.underlying143 inf_5 rfl (by decide) rfl hO5 rfl (news:=_) rfl hB2.row0 (by simp [Value.oneCell']) (by first | omega | (simp; omega)) (by first | omega | (simp; omega)) hS5.h ?_
      clear hO5; intro v5 w4 hO5 hGr _
      replace hB1:=hB1.grew hGr hl5_1; (try replace hT:=hT.grew hGr (by first | trivial | omega)); (try replace hS5:=hS5.grew hGr (by first | trivial | omega)); replace hX:=hX.grown hGr hb5l
      clear hGr
      replace hO5:=hO5.snoc8 (by omega)
      simp only [ev,zD,zE,zF,zG]
      refine n_val (r_assign) ?_
      simp only [ev,zD,zE,zF,zG]
      refine n_nil ?_
      refine hK11 _ _ ?_
      refine wp_region_lit (n_val (r_move) (n_val (r_sub rfl rfl (wrap_i64 (by omega) (by omega))) (n_val (r_assign) ?_)))
      simp only [ev,zD,zE,zF,zG]
      refine n_nil ?_
      have hos2 : os ++ [UInt8.ofNat (ys[ys.length - 1] % 256)] = laid2 ys (ys.length - 1):=by rw [f1,if_neg (by omega),hos0]
      rw [show ((ys.length:Int) - 1 - 1) = ((ys.length - 1 : Nat) : Int) - 1 by omega]
      simp only [Exit.inBlock,Exit.then]
      refine ⟨ys.length - 1,_,?_,rfl,?_,?_⟩
      · omega
      · simp only [zQ,zR,zD,zE,setG_cons,setG_nil,setMany_cons,setMany_nil,zF,zG]
      ·
       simp only [zQ,zR,zD,zE]
       exact ⟨ys.length - 1,os ++ [UInt8.ofNat (ys[ys.length - 1] % 256)],v5,rfl,hX,hB1,hT,hS5,hO5,hos2,by omega,fun _=>f2,by rw [hos2]; exact h2l _,rfl⟩
   ·
    refine wp_exit ?_
    refine hK7 _ _ ?_
    refine c_seq (fun K14 hK14=>wp_region_lit (n_val (r_move) (n_val (r_move) ?_)))
    simp only [ev,zD,zE,zF,zG]
    refine n_valW (r_bytesOwn Tryz.underlying143 Tryz.underlying5 Tryz.underlying9 rfl hO5) ?_
    simp only [ev,zD,zE,zF,zG]
    refine n_val (r_build_32_0_1 rfl rfl) ?_
    simp only [ev,zD,zE,zF,zG]
    refine n_store rfl (by simp only [ev,zD,zE]; rfl) (by exact cells_32) hB1 (by simp) (by simp [Value.oneCell']) ?_
    clear hB1; intro w3 hC hB1
    (try replace hT:=hT.chg hC (by first | assumption | rfl)); (try replace hS5:=hS5.chg hC (by first | assumption | rfl)); (try replace hO5:=hO5.chg hC (by first | assumption | rfl)); replace hX:=hX.chg hC hG1
    clear hC
    simp only [over,zH,zI,zJ,zK,zL,zM,zN,zO,zP,Nat.reduceAdd] at hB1
    refine n_nil ?_
    refine hK14 _ _ ?_
    refine wp_ret ?_
    try simp only [Exit.inBlock,Exit.then]
    refine fin1 rfl ⟨_,rfl,(hB1.lies agg_32 cells_32 rfl rfl)⟩ ?_
    try simp only [zD,zE]
    exact ⟨_,rfl,hX,by (obtain rfl : k = 0:=by omega); (have hV : val 65536 ys ≠ 0:=Nat.ne_of_gt (val_pos (by omega) htr hy0)); rw [hos,laid2_zero hyd neg,← hvx]; simp [Lith.W,sgn_neg,hV]⟩
end Go.Proofs.YtmcgcnpgkkfkoaaGreatDoor
namespace Go.Proofs.YtmcgcnpgkkfkoaaGreatDoor
open Go.RowKit Go.Lith
set_option maxRecDepth 100000
attribute [local irreducible] wpList wpQuiet wpMix Code.wp
theorem len_mul16 {k : Nat} {a b : Int} (ha : Bd k a) (hb : Bd k b) : (digs 65536 (a * b).natAbs).length ≤ k + k:=len_bd16 (Bd.mul ha hb)
theorem nil_iff16 {a : Int} : (((digs 65536 a.natAbs).length : Int) = 0) ↔ a = 0:=by
 constructor
 ·
  intro h
  have h0 : digs 65536 a.natAbs = []:=List.eq_nil_of_length_eq_zero (by omega)
  have:=(digs_eq_nil (by omega)).1 h0
  omega
 · rintro rfl; rfl
theorem rSign_c {a : Int} (ha : Bd 1000000 a) : Pure Tryz.prog 82 [W a] (.int .i64 (isign a)):=by
 intro w
 refine ⟨en_82,?_⟩
 have hX:=Ext.refl w
 go_enter Tryz.func82,Tryz.ntmps82
 refine c_seq (fun K1 hK1=>wp_region_lit ?_)
 refine n_box (by simp only [ev,zD,zE]; rfl) ?_
 intro w1 g1 hE hg1 hB1
 have hG1:=Nat.le_trans hX.size hg1
 replace hX:=hX.trans hE
 clear hE hg1
 simp only [ev,zD,zE,zF,zG]
 refine n_val (r_assign) ?_
 simp only [ev,zD,zE,zF,zG]
 refine n_nil ?_
 refine hK1 _ _ ?_
 refine c_seq (fun K2 hK2=>c_seq (fun K3 hK3=>wp_region_lit ?_))
 refine n_load rfl (hB1.lies agg_32 cells_32 rfl rfl) ?_
 simp only [ev,zD,zE,zF,zG]
 refine n_call rfl rfl (digits_c _ (wmag_size ha)) ?_
 rintro v w2 hE ⟨A1,c1,rfl,hD1⟩
 replace hB1:=hB1.ext hE; replace hX:=hX.trans hE
 clear hE
 rw [sval_wmag] at hD1 ⊢
 simp only [ev,zD,zE,zF,zG]
 refine n_val (r_lenS rfl Tryz.underlying22 rfl) (n_val (r_eql rfl rfl) ?_)
 simp only [ev,zD,zE,zF,zG]
 refine n_nil ?_
 refine hK3 _ _ ?_
 refine c_if rfl (fun hc1=>?_) (fun hc1=>?_)
 ·
  have h0:=nil_iff16.1 hc1
  refine c_seq (fun K4 hK4=>wp_region_lit (n_val (r_assign) ?_))
  simp only [ev,zD,zE,zF,zG]
  refine n_nil ?_
  refine hK4 _ _ ?_
  refine wp_ret ?_
  try simp only [Exit.inBlock,Exit.then]
  refine fin1 rfl rfl ?_
  try simp only [zD,zE]
  exact ⟨_,rfl,hX,by rw [h0]; rfl⟩
 ·
  refine wp_skip ?_
  refine hK2 _ _ ?_
  refine c_seq (fun K5 hK5=>c_seq (fun K6 hK6=>wp_region_lit (n_val (r_fieldAddr (c:=0) Tryz.underlying32 rfl cells_4 rfl rfl) ?_)))
  simp only [ev,zD,zE,zF,zG]
  refine n_load rfl (hB1.lies1 agg_4 rfl) ?_
  simp only [ev,zD,zE,zF,zG]
  refine n_nil ?_
  refine hK6 _ _ ?_
  refine c_cond rfl (fun hc2=>?_) (fun hc2=>?_)
  ·
   have hn:=wneg_true hc2
   refine c_seq (fun K7 hK7=>wp_region_lit (n_val (r_assign) ?_))
   simp only [ev,zD,zE,zF,zG]
   refine n_nil ?_
   refine hK7 _ _ ?_
   refine wp_ret ?_
   try simp only [Exit.inBlock,Exit.then]
   refine fin1 rfl rfl ?_
   try simp only [zD,zE]
   exact ⟨_,rfl,hX,by rw [isign_neg hn]⟩
  ·
   have hn:=wneg_false hc2
   have h0 : ¬ a = 0:=fun e=>hc1 (nil_iff16.2 e)
   refine wp_skip ?_
   refine hK5 _ _ ?_
   refine c_seq (fun K8 hK8=>wp_region_lit (n_val (r_assign) ?_))
   simp only [ev,zD,zE,zF,zG]
   refine n_nil ?_
   refine hK8 _ _ ?_
   refine wp_ret ?_
   try simp only [Exit.inBlock,Exit.then]
   refine fin1 rfl rfl ?_
   try simp only [zD,zE]
   exact ⟨_,rfl,hX,by rw [isign_pos (by omega)]⟩
theorem rNeg_c {a : Int} (ha : Bd 1000000 a) : Pure Tryz.prog 167 [W a] (W (-a)):=by
 intro w
 refine ⟨en_167,?_⟩
 have hX:=Ext.refl w
 have hla : (digs 65536 a.natAbs).length ≤ 1000000:=len_bd16 ha
 go_enter Tryz.func167,Tryz.ntmps167
 refine c_seq (fun K1 hK1=>wp_region_lit ?_)
 refine n_box (by simp only [ev,zD,zE]; rfl) ?_
 intro w1 g1 hE hg1 hB1
 have hG1:=Nat.le_trans hX.size hg1
 replace hX:=hX.trans hE
 clear hE hg1
 simp only [ev,zD,zE,zF,zG]
 refine n_alloc zero_32 rfl ?_
 intro w2 g2 hE hg2 hB2
 have hG2:=Nat.le_trans hX.size hg2; have hN2_1 : g2 ≠ g1:=Nat.ne_of_gt (Nat.lt_of_lt_of_le hB1.lt hg2)
 replace hB1:=hB1.ext hE; replace hX:=hX.trans hE
 clear hE hg2
 simp only [ev,zD,zE,zF,zG]
 refine n_nil ?_
 refine hK1 _ _ ?_
 refine c_seq (fun K2 hK2=>?_)
 refine wp_region_held' [(0,true),(1,true),(2,true),(3,true),(4,false),(5,false),(6,false)] follows_mixed (by kernel_rfl) (panic_put (fun _ _ _ _ _ h=>h)) (ol:=?_) ?hol ?_
 case hol=>simp only [zQ,zR,zS,zT,zU,zV]; try rfl
 intro w3 hE
 replace hB1:=hB1.ext hE; replace hB2:=hB2.ext hE; replace hX:=hX.trans hE
 clear hE
 refine ⟨_,(Hold.blk hB1 Hold.nil),?_⟩
 refine h_val (r_fieldAddr (c:=0) Tryz.underlying32 rfl cells_4 rfl rfl) ?_
 simp only [ev,zD,zE,zF,zG]
 refine h_load rfl (fun _ ⟨hB1,_⟩=>(hB1.lies1 agg_4 rfl)) ?_
 simp only [ev,zD,zE,zF,zG]
 refine h_val (r_not rfl) ?_
 simp only [ev,zD,zE,zF,zG]
 refine h_load rfl (fun _ ⟨hB1,_⟩=>(hB1.lies agg_32 cells_32 rfl rfl)) ?_
 simp only [ev,zD,zE,zF,zG]
 refine h_step ?_
 refine n_call rfl rfl (digits_c _ (wmag_size ha)) ?_
 rintro v w4 hE ⟨A1,c1,rfl,hD1⟩
 replace hB1:=hB1.ext hE; replace hB2:=hB2.ext hE; replace hX:=hX.trans hE
 clear hE
 rw [sval_wmag] at hD1 ⊢
 simp only [ev,zD,zE,zF,zG]
 refine n_nil ?_
 refine ⟨⟨hB1,trivial⟩,?_⟩
 refine h_step ?_
 refine n_call rfl rfl (rwide_c _ hD1 (Nat.le_trans hla (by decide))) ?_
 rintro v w5 hE rfl
 replace hB1:=hB1.ext hE; replace hB2:=hB2.ext hE; (try replace hD1:=hD1.ext hE); replace hX:=hX.trans hE
 clear hE
 simp only [val_digs16]
 simp only [ev,zD,zE,zF,zG]
 refine n_nil ?_
 refine ⟨⟨hB1,trivial⟩,?_⟩
 refine h_step ?_
 refine n_store rfl (by simp only [ev,zD,zE]; rfl) (by exact cells_32) hB2 (by simp) (by simp [Value.oneCell']) ?_
 clear hB2; intro w6 hC hB2
 replace hB1:=hB1.chg hC (by first | exact hN1_2 | exact Ne.symm hN2_1); (try replace hD1:=hD1.chg hC (by first | assumption | rfl)); replace hX:=hX.chg hC hG2
 clear hC
 simp only [over,zH,zI,zJ,zK,zL,zM,zN,zO,zP,Nat.reduceAdd] at hB2
 refine n_nil ?_
 refine ⟨⟨hB1,trivial⟩,?_⟩
 refine h_nil ?_
 rw [sgn_not] at hB2
 refine hK2 _ _ ?_
 refine wp_ret ?_
 try simp only [Exit.inBlock,Exit.then]
 refine fin1 rfl ⟨_,rfl,(hB2.lies agg_32 cells_32 rfl rfl)⟩ ?_
 try simp only [zD,zE]
 exact ⟨_,rfl,hX,rfl⟩
theorem rAdd_c {a b : Int} (ha : Bd 1000000 a) (hb : Bd 1000000 b) : Pure Tryz.prog 54 [W a,W b] (W (a + b)):=by
 intro w
 refine ⟨en_54,?_⟩
 have hX:=Ext.refl w
 have hla : (digs 65536 a.natAbs).length ≤ 1000000:=len_bd16 ha
 have hlb : (digs 65536 b.natAbs).length ≤ 1000000:=len_bd16 hb
 go_enter Tryz.func54,Tryz.ntmps54
 refine c_seq (fun K1 hK1=>wp_region_lit ?_)
 refine n_box (by simp only [ev,zD,zE]; rfl) ?_
 intro w1 g1 hE hg1 hB1
 have hG1:=Nat.le_trans hX.size hg1
 replace hX:=hX.trans hE
 clear hE hg1
 simp only [ev,zD,zE,zF,zG]
 refine n_box (by simp only [ev,zD,zE]; rfl) ?_
 intro w2 g2 hE hg2 hB2
 have hG2:=Nat.le_trans hX.size hg2; have hN2_1 : g2 ≠ g1:=Nat.ne_of_gt (Nat.lt_of_lt_of_le hB1.lt hg2)
 replace hB1:=hB1.ext hE; replace hX:=hX.trans hE
 clear hE hg2
 simp only [ev,zD,zE,zF,zG]
 refine n_alloc zero_32 rfl ?_
 intro w3 g3 hE hg3 hB3
 have hG3:=Nat.le_trans hX.size hg3; have hN3_1 : g3 ≠ g1:=Nat.ne_of_gt (Nat.lt_of_lt_of_le hB1.lt hg3); have hN3_2 : g3 ≠ g2:=Nat.ne_of_gt (Nat.lt_of_lt_of_le hB2.lt hg3)
 replace hB1:=hB1.ext hE; replace hB2:=hB2.ext hE; replace hX:=hX.trans hE
 clear hE hg3
 simp only [ev,zD,zE,zF,zG]
 refine n_nil ?_
 refine hK1 _ _ ?_
 refine c_seq (fun K2 hK2=>wp_region_lit ?_)
 refine n_load rfl (hB1.lies agg_32 cells_32 rfl rfl) ?_
 simp only [ev,zD,zE,zF,zG]
 refine n_call rfl rfl (digits_c _ (wmag_size ha)) ?_
 rintro v w4 hE ⟨A1,c1,rfl,hD1⟩
 replace hB1:=hB1.ext hE; replace hB2:=hB2.ext hE; replace hB3:=hB3.ext hE; replace hX:=hX.trans hE
 clear hE
 rw [sval_wmag] at hD1 ⊢
 simp only [ev,zD,zE,zF,zG]
 refine n_val (r_assign) ?_
 simp only [ev,zD,zE,zF,zG]
 refine n_nil ?_
 refine hK2 _ _ ?_
 refine c_seq (fun K3 hK3=>wp_region_lit ?_)
 refine n_load rfl (hB2.lies agg_32 cells_32 rfl rfl) ?_
 simp only [ev,zD,zE,zF,zG]
 refine n_call rfl rfl (digits_c _ (wmag_size hb)) ?_
 rintro v w5 hE ⟨A2,c2,rfl,hD2⟩
 replace hB1:=hB1.ext hE; replace hB2:=hB2.ext hE; replace hB3:=hB3.ext hE; (try replace hD1:=hD1.ext hE); replace hX:=hX.trans hE
 clear hE
 rw [sval_wmag] at hD2 ⊢
 simp only [ev,zD,zE,zF,zG]
 refine n_val (r_assign) ?_
 simp only [ev,zD,zE,zF,zG]
 refine n_nil ?_
 refine hK3 _ _ ?_
 refine c_seq (fun K4 hK4=>c_seq (fun K5 hK5=>wp_region_lit (n_val (r_fieldAddr (c:=0) Tryz.underlying32 rfl cells_4 rfl rfl) ?_)))
 simp only [ev,zD,zE,zF,zG]
 refine n_load rfl (hB1.lies1 agg_4 rfl) ?_
 simp only [ev,zD,zE,zF,zG]
 refine n_val (r_fieldAddr (c:=0) Tryz.underlying32 rfl cells_4 rfl rfl) ?_
 simp only [ev,zD,zE,zF,zG]
 refine n_load rfl (hB2.lies1 agg_4 rfl) ?_
 simp only [ev,zD,zE,zF,zG]
 refine n_val (r_eqlB Tryz.underlying4 rfl rfl) ?_
 simp only [ev,zD,zE,zF,zG]
 refine n_nil ?_
 refine hK5 _ _ ?_
 refine c_if rfl (fun hc1=>?_) (fun hc1=>?_)
 ·
  refine c_seq (fun K6 hK6=>?_)
  refine wp_region_held' [(0,true),(2,true),(3,true),(1,true),(4,false),(5,false),(6,false)] follows_mixed (by kernel_rfl) (panic_put (fun _ _ _ _ _ h=>h)) (ol:=?_) ?hol ?_
  case hol=>simp only [zQ,zR,zS,zT,zU,zV]; try rfl
  intro w6 hE
  replace hB1:=hB1.ext hE; replace hB2:=hB2.ext hE; replace hB3:=hB3.ext hE; (try replace hD1:=hD1.ext hE); (try replace hD2:=hD2.ext hE); replace hX:=hX.trans hE
  clear hE
  refine ⟨_,(Hold.blk hB1 Hold.nil),?_⟩
  refine h_val (r_fieldAddr (c:=0) Tryz.underlying32 rfl cells_4 rfl rfl) (h_val (r_move) (h_val (r_move) ?_))
  simp only [ev,zD,zE,zF,zG]
  refine h_load rfl (fun _ ⟨hB1,_⟩=>(hB1.lies1 agg_4 rfl)) ?_
  simp only [ev,zD,zE,zF,zG]
  refine h_step ?_
  refine n_call rfl rfl (plus_c _ hD1.here hD2.here (Nat.le_trans hla (by decide)) (Nat.le_trans hlb (by decide))) ?_
  rintro v w7 hE ⟨A3,c3,os,rfl,hD3,hv3,hl3⟩
  replace hB1:=hB1.ext hE; replace hB2:=hB2.ext hE; replace hB3:=hB3.ext hE; (try replace hD1:=hD1.ext hE); (try replace hD2:=hD2.ext hE); replace hX:=hX.trans hE
  clear hE
  simp only [val_digs16] at hv3
  simp only [ev,zD,zE,zF,zG]
  refine n_nil ?_
  refine ⟨⟨hB1,trivial⟩,?_⟩
  refine h_step ?_
  refine n_call rfl rfl (rwide_c _ hD3 (by omega)) ?_
  rintro v w8 hE rfl
  replace hB1:=hB1.ext hE; replace hB2:=hB2.ext hE; replace hB3:=hB3.ext hE; (try replace hD1:=hD1.ext hE); (try replace hD2:=hD2.ext hE); (try replace hD3:=hD3.ext hE); replace hX:=hX.trans hE
  clear hE
  rw [hv3]
  simp only [ev,zD,zE,zF,zG]
  refine n_nil ?_
  refine ⟨⟨hB1,trivial⟩,?_⟩
  refine h_step ?_
  refine n_store rfl (by simp only [ev,zD,zE]; rfl) (by exact cells_32) hB3 (by simp) (by simp [Value.oneCell']) ?_
  clear hB3; intro w9 hC hB3
  replace hB1:=hB1.chg hC (by first | exact hN1_3 | exact Ne.symm hN3_1); replace hB2:=hB2.chg hC (by first | exact hN2_3 | exact Ne.symm hN3_2); (try replace hD1:=hD1.chg hC (by first | assumption | rfl)); (try replace hD2:=hD2.chg hC (by first | assumption | rfl)); (try replace hD3:=hD3.chg hC (by first | assumption | rfl)); replace hX:=hX.chg hC hG3
  clear hC
  simp only [over,zH,zI,zJ,zK,zL,zM,zN,zO,zP,Nat.reduceAdd] at hB3
  refine n_nil ?_
  refine ⟨⟨hB1,trivial⟩,?_⟩
  refine h_nil ?_
  rw [sgn_add hc1] at hB3
  refine hK6 _ _ ?_
  refine wp_ret ?_
  try simp only [Exit.inBlock,Exit.then]
  refine fin1 rfl ⟨_,rfl,(hB3.lies agg_32 cells_32 rfl rfl)⟩ ?_
  try simp only [zD,zE]
  exact ⟨_,rfl,hX,rfl⟩
 ·
  refine wp_skip ?_
  refine hK4 _ _ ?_
  refine c_seq (fun K7 hK7=>c_seq (fun K8 hK8=>wp_region_lit (n_val (r_move) (n_val (r_move) ?_))))
  simp only [ev,zD,zE,zF,zG]
  refine n_call rfl rfl (compare_c _ hD1 hD2 (trimmed_digs16 _) (trimmed_digs16 _)) ?_
  rintro v w6 hE rfl
  replace hB1:=hB1.ext hE; replace hB2:=hB2.ext hE; replace hB3:=hB3.ext hE; (try replace hD1:=hD1.ext hE); (try replace hD2:=hD2.ext hE); replace hX:=hX.trans hE
  clear hE
  simp only [val_digs16]
  simp only [ev,zD,zE,zF,zG]
  refine n_val (r_geq rfl rfl) ?_
  simp only [ev,zD,zE,zF,zG]
  refine n_nil ?_
  refine hK8 _ _ ?_
  refine c_if rfl (fun hc2=>?_) (fun hc2=>?_)
  ·
   have hge:=ord_ge_iff.1 hc2
   refine c_seq (fun K9 hK9=>?_)
   refine wp_region_held' [(0,true),(2,true),(3,true),(1,true),(4,false),(5,false),(6,false)] follows_mixed (by kernel_rfl) (panic_put (fun _ _ _ _ _ h=>h)) (ol:=?_) ?hol ?_
   case hol=>simp only [zQ,zR,zS,zT,zU,zV]; try rfl
   intro w7 hE
   replace hB1:=hB1.ext hE; replace hB2:=hB2.ext hE; replace hB3:=hB3.ext hE; (try replace hD1:=hD1.ext hE); (try replace hD2:=hD2.ext hE); replace hX:=hX.trans hE
   clear hE
   refine ⟨_,(Hold.blk hB1 Hold.nil),?_⟩
   refine h_val (r_fieldAddr (c:=0) Tryz.underlying32 rfl cells_4 rfl rfl) (h_val (r_move) (h_val (r_move) ?_))
   simp only [ev,zD,zE,zF,zG]
   refine h_load rfl (fun _ ⟨hB1,_⟩=>(hB1.lies1 agg_4 rfl)) ?_
   simp only [ev,zD,zE,zF,zG]
   refine h_step ?_
   refine n_call rfl rfl (minus_c _ hD1.here hD2.here (lt_len16 hge) (by simp only [val_digs16]; omega) (Nat.le_trans hla (by decide))) ?_
   rintro v w8 hE ⟨⟨A3,c3,rfl,hD3⟩,_⟩
   replace hB1:=hB1.ext hE; replace hB2:=hB2.ext hE; replace hB3:=hB3.ext hE; (try replace hD1:=hD1.ext hE); (try replace hD2:=hD2.ext hE); replace hX:=hX.trans hE
   clear hE
   simp only [val_digs16] at hD3 ⊢
   have hl3:=lt_len16 (Nat.sub_le a.natAbs b.natAbs)
   simp only [ev,zD,zE,zF,zG]
   refine n_nil ?_
   refine ⟨⟨hB1,trivial⟩,?_⟩
   refine h_step ?_
   refine n_call rfl rfl (rwide_c _ hD3 (Nat.le_trans hl3 (Nat.le_trans hla (by decide)))) ?_
   rintro v w9 hE rfl
   replace hB1:=hB1.ext hE; replace hB2:=hB2.ext hE; replace hB3:=hB3.ext hE; (try replace hD1:=hD1.ext hE); (try replace hD2:=hD2.ext hE); (try replace hD3:=hD3.ext hE); replace hX:=hX.trans hE
   clear hE
   simp only [val_digs16]
   simp only [ev,zD,zE,zF,zG]
   refine n_nil ?_
   refine ⟨⟨hB1,trivial⟩,?_⟩
   refine h_step ?_
   refine n_store rfl (by simp only [ev,zD,zE]; rfl) (by exact cells_32) hB3 (by simp) (by simp [Value.oneCell']) ?_
   clear hB3; intro w10 hC hB3
   replace hB1:=hB1.chg hC (by first | exact hN1_3 | exact Ne.symm hN3_1); replace hB2:=hB2.chg hC (by first | exact hN2_3 | exact Ne.symm hN3_2); (try replace hD1:=hD1.chg hC (by first | assumption | rfl)); (try replace hD2:=hD2.chg hC (by first | assumption | rfl)); (try replace hD3:=hD3.chg hC (by first | assumption | rfl)); replace hX:=hX.chg hC hG3
   clear hC
   simp only [over,zH,zI,zJ,zK,zL,zM,zN,zO,zP,Nat.reduceAdd] at hB3
   refine n_nil ?_
   refine ⟨⟨hB1,trivial⟩,?_⟩
   refine h_nil ?_
   rw [sgn_ge hc1 hge] at hB3
   refine hK9 _ _ ?_
   refine wp_ret ?_
   try simp only [Exit.inBlock,Exit.then]
   refine fin1 rfl ⟨_,rfl,(hB3.lies agg_32 cells_32 rfl rfl)⟩ ?_
   try simp only [zD,zE]
   exact ⟨_,rfl,hX,rfl⟩
  ·
   have hlt : a.natAbs < b.natAbs:=Nat.lt_of_not_le fun h=>hc2 (ord_ge_iff.2 h)
   refine wp_skip ?_
   refine hK7 _ _ ?_
   refine c_seq (fun K10 hK10=>?_)
   refine wp_region_held' [(0,true),(2,true),(3,true),(1,true),(4,false),(5,false),(6,false)] follows_mixed (by kernel_rfl) (panic_put (fun _ _ _ _ _ h=>h)) (ol:=?_) ?hol ?_
   case hol=>simp only [zQ,zR,zS,zT,zU,zV]; try rfl
   intro w7 hE
   replace hB1:=hB1.ext hE; replace hB2:=hB2.ext hE; replace hB3:=hB3.ext hE; (try replace hD1:=hD1.ext hE); (try replace hD2:=hD2.ext hE); replace hX:=hX.trans hE
   clear hE
   refine ⟨_,(Hold.blk hB2 Hold.nil),?_⟩
   refine h_val (r_fieldAddr (c:=0) Tryz.underlying32 rfl cells_4 rfl rfl) (h_val (r_move) (h_val (r_move) ?_))
   simp only [ev,zD,zE,zF,zG]
   refine h_load rfl (fun _ ⟨hB2,_⟩=>(hB2.lies1 agg_4 rfl)) ?_
   simp only [ev,zD,zE,zF,zG]
   refine h_step ?_
   refine n_call rfl rfl (minus_c _ hD2.here hD1.here (lt_len16 (Nat.le_of_lt hlt)) (by simp only [val_digs16]; omega) (Nat.le_trans hlb (by decide))) ?_
   rintro v w8 hE ⟨⟨A3,c3,rfl,hD3⟩,_⟩
   replace hB1:=hB1.ext hE; replace hB2:=hB2.ext hE; replace hB3:=hB3.ext hE; (try replace hD1:=hD1.ext hE); (try replace hD2:=hD2.ext hE); replace hX:=hX.trans hE
   clear hE
   simp only [val_digs16] at hD3 ⊢
   have hl3:=lt_len16 (Nat.sub_le b.natAbs a.natAbs)
   simp only [ev,zD,zE,zF,zG]
   refine n_nil ?_
   refine ⟨⟨hB2,trivial⟩,?_⟩
   refine h_step ?_
   refine n_call rfl rfl (rwide_c _ hD3 (Nat.le_trans hl3 (Nat.le_trans hlb (by decide)))) ?_
   rintro v w9 hE rfl
   replace hB1:=hB1.ext hE; replace hB2:=hB2.ext hE; replace hB3:=hB3.ext hE; (try replace hD1:=hD1.ext hE); (try replace hD2:=hD2.ext hE); (try replace hD3:=hD3.ext hE); replace hX:=hX.trans hE
   clear hE
   simp only [val_digs16]
   simp only [ev,zD,zE,zF,zG]
   refine n_nil ?_
   refine ⟨⟨hB2,trivial⟩,?_⟩
   refine h_step ?_
   refine n_store rfl (by simp only [ev,zD,zE]; rfl) (by exact cells_32) hB3 (by simp) (by simp [Value.oneCell']) ?_
   clear hB3; intro w10 hC hB3
   replace hB1:=hB1.chg hC (by first | exact hN1_3 | exact Ne.symm hN3_1); replace hB2:=hB2.chg hC (by first | exact hN2_3 | exact Ne.symm hN3_2); (try replace hD1:=hD1.chg hC (by first | assumption | rfl)); (try replace hD2:=hD2.chg hC (by first | assumption | rfl)); (try replace hD3:=hD3.chg hC (by first | assumption | rfl)); replace hX:=hX.chg hC hG3
   clear hC
   simp only [over,zH,zI,zJ,zK,zL,zM,zN,zO,zP,Nat.reduceAdd] at hB3
   refine n_nil ?_
   refine ⟨⟨hB2,trivial⟩,?_⟩
   refine h_nil ?_
   rw [sgn_lt hc1 hlt] at hB3
   refine hK10 _ _ ?_
   refine wp_ret ?_
   try simp only [Exit.inBlock,Exit.then]
   refine fin1 rfl ⟨_,rfl,(hB3.lies agg_32 cells_32 rfl rfl)⟩ ?_
   try simp only [zD,zE]
   exact ⟨_,rfl,hX,rfl⟩
theorem rSub_c {a b : Int} (ha : Bd 1000000 a) (hb : Bd 1000000 b) : Pure Tryz.prog 146 [W a,W b] (W (a - b)):=by
 intro w
 refine ⟨en_146,?_⟩
 have hX:=Ext.refl w
 go_enter Tryz.func146,Tryz.ntmps146
 refine c_seq (fun K1 hK1=>wp_region_lit ?_)
 refine n_box (by simp only [ev,zD,zE]; rfl) ?_
 intro w1 g1 hE hg1 hB1
 have hG1:=Nat.le_trans hX.size hg1
 replace hX:=hX.trans hE
 clear hE hg1
 simp only [ev,zD,zE,zF,zG]
 refine n_box (by simp only [ev,zD,zE]; rfl) ?_
 intro w2 g2 hE hg2 hB2
 have hG2:=Nat.le_trans hX.size hg2; have hN2_1 : g2 ≠ g1:=Nat.ne_of_gt (Nat.lt_of_lt_of_le hB1.lt hg2)
 replace hB1:=hB1.ext hE; replace hX:=hX.trans hE
 clear hE hg2
 simp only [ev,zD,zE,zF,zG]
 refine n_alloc zero_32 rfl ?_
 intro w3 g3 hE hg3 hB3
 have hG3:=Nat.le_trans hX.size hg3; have hN3_1 : g3 ≠ g1:=Nat.ne_of_gt (Nat.lt_of_lt_of_le hB1.lt hg3); have hN3_2 : g3 ≠ g2:=Nat.ne_of_gt (Nat.lt_of_lt_of_le hB2.lt hg3)
 replace hB1:=hB1.ext hE; replace hB2:=hB2.ext hE; replace hX:=hX.trans hE
 clear hE hg3
 simp only [ev,zD,zE,zF,zG]
 refine n_nil ?_
 refine hK1 _ _ ?_
 refine c_seq (fun K2 hK2=>?_)
 refine wp_region_ext_tail 4 follows_mixed (by kernel_rfl) ?_
 simp only [zH,zI,zJ,zK]
 refine q_load rfl (fun _ hE'=>((hB1.ext hE').lies agg_32 cells_32 rfl rfl)) ?_
 simp only [ev,zD,zE,zF,zG]
 refine q_load rfl (fun _ hE'=>((hB2.ext hE').lies agg_32 cells_32 rfl rfl)) ?_
 simp only [ev,zD,zE,zF,zG]
 refine q_callP rfl rfl (rNeg_c hb) ?_
 simp only [ev,zD,zE,zF,zG]
 refine q_callP rfl rfl (rAdd_c ha hb.neg) ?_
 simp only [ev,zD,zE,zF,zG]
 refine q_nil ?_
 intro w4 hE
 replace hB1:=hB1.ext hE; replace hB2:=hB2.ext hE; replace hB3:=hB3.ext hE; replace hX:=hX.trans hE
 clear hE
 refine n_store rfl (by simp only [ev,zD,zE]; rfl) (by exact cells_32) hB3 (by simp) (by simp [Value.oneCell']) ?_
 clear hB3; intro w5 hC hB3
 replace hB1:=hB1.chg hC (by first | exact hN1_3 | exact Ne.symm hN3_1); replace hB2:=hB2.chg hC (by first | exact hN2_3 | exact Ne.symm hN3_2); replace hX:=hX.chg hC hG3
 clear hC
 simp only [over,zH,zI,zJ,zK,zL,zM,zN,zO,zP,Nat.reduceAdd] at hB3
 refine n_nil ?_
 rw [← Int.sub_eq_add_neg] at hB3
 refine hK2 _ _ ?_
 refine wp_ret ?_
 try simp only [Exit.inBlock,Exit.then]
 refine fin1 rfl ⟨_,rfl,(hB3.lies agg_32 cells_32 rfl rfl)⟩ ?_
 try simp only [zD,zE]
 exact ⟨_,rfl,hX,rfl⟩
theorem rMul_c {a b : Int} (ha : Bd 1000000 a) (hb : Bd 1000000 b) : Pure Tryz.prog 55 [W a,W b] (W (a * b)):=by
 intro w
 refine ⟨en_55,?_⟩
 have hX:=Ext.refl w
 have hla : (digs 65536 a.natAbs).length ≤ 1000000:=len_bd16 ha
 have hlb : (digs 65536 b.natAbs).length ≤ 1000000:=len_bd16 hb
 have hls:=len_mul16 ha hb
 go_enter Tryz.func55,Tryz.ntmps55
 refine c_seq (fun K1 hK1=>wp_region_lit ?_)
 refine n_box (by simp only [ev,zD,zE]; rfl) ?_
 intro w1 g1 hE hg1 hB1
 have hG1:=Nat.le_trans hX.size hg1
 replace hX:=hX.trans hE
 clear hE hg1
 simp only [ev,zD,zE,zF,zG]
 refine n_box (by simp only [ev,zD,zE]; rfl) ?_
 intro w2 g2 hE hg2 hB2
 have hG2:=Nat.le_trans hX.size hg2; have hN2_1 : g2 ≠ g1:=Nat.ne_of_gt (Nat.lt_of_lt_of_le hB1.lt hg2)
 replace hB1:=hB1.ext hE; replace hX:=hX.trans hE
 clear hE hg2
 simp only [ev,zD,zE,zF,zG]
 refine n_alloc zero_32 rfl ?_
 intro w3 g3 hE hg3 hB3
 have hG3:=Nat.le_trans hX.size hg3; have hN3_1 : g3 ≠ g1:=Nat.ne_of_gt (Nat.lt_of_lt_of_le hB1.lt hg3); have hN3_2 : g3 ≠ g2:=Nat.ne_of_gt (Nat.lt_of_lt_of_le hB2.lt hg3)
 replace hB1:=hB1.ext hE; replace hB2:=hB2.ext hE; replace hX:=hX.trans hE
 clear hE hg3
 simp only [ev,zD,zE,zF,zG]
 refine n_nil ?_
 refine hK1 _ _ ?_
 refine c_seq (fun K2 hK2=>?_)
 refine wp_region_held' [(0,true),(2,true),(1,true),(3,true),(4,true),(5,true),(7,true),(6,false),(8,false),(9,false),(10,false),(11,false)] follows_mixed (by kernel_rfl) (panic_put (fun _ _ _ _ _ h=>h)) (ol:=?_) ?hol ?_
 case hol=>simp only [zQ,zR,zS,zT,zU,zV]; try rfl
 intro w4 hE
 replace hB1:=hB1.ext hE; replace hB2:=hB2.ext hE; replace hB3:=hB3.ext hE; replace hX:=hX.trans hE
 clear hE
 refine ⟨_,(Hold.blk hB1 (Hold.blk hB2 Hold.nil)),?_⟩
 refine h_val (r_fieldAddr (c:=0) Tryz.underlying32 rfl cells_4 rfl rfl) (h_val (r_fieldAddr (c:=0) Tryz.underlying32 rfl cells_4 rfl rfl) ?_)
 simp only [ev,zD,zE,zF,zG]
 refine h_load rfl (fun _ ⟨hB1,hB2,_⟩=>(hB1.lies1 agg_4 rfl)) ?_
 simp only [ev,zD,zE,zF,zG]
 refine h_load rfl (fun _ ⟨hB1,hB2,_⟩=>(hB2.lies1 agg_4 rfl)) ?_
 simp only [ev,zD,zE,zF,zG]
 refine h_val (r_neqB Tryz.underlying4 rfl rfl) ?_
 simp only [ev,zD,zE,zF,zG]
 refine h_load rfl (fun _ ⟨hB1,hB2,_⟩=>(hB1.lies agg_32 cells_32 rfl rfl)) ?_
 simp only [ev,zD,zE,zF,zG]
 refine h_load rfl (fun _ ⟨hB1,hB2,_⟩=>(hB2.lies agg_32 cells_32 rfl rfl)) ?_
 simp only [ev,zD,zE,zF,zG]
 refine h_step ?_
 refine n_call rfl rfl (digits_c _ (wmag_size ha)) ?_
 rintro v w5 hE ⟨A1,c1,rfl,hD1⟩
 replace hB1:=hB1.ext hE; replace hB2:=hB2.ext hE; replace hB3:=hB3.ext hE; replace hX:=hX.trans hE
 clear hE
 rw [sval_wmag] at hD1 ⊢
 simp only [ev,zD,zE,zF,zG]
 refine n_nil ?_
 refine ⟨⟨hB1,hB2,trivial⟩,?_⟩
 refine h_step ?_
 refine n_call rfl rfl (digits_c _ (wmag_size hb)) ?_
 rintro v w6 hE ⟨A2,c2,rfl,hD2⟩
 replace hB1:=hB1.ext hE; replace hB2:=hB2.ext hE; replace hB3:=hB3.ext hE; (try replace hD1:=hD1.ext hE); replace hX:=hX.trans hE
 clear hE
 rw [sval_wmag] at hD2 ⊢
 simp only [ev,zD,zE,zF,zG]
 refine n_nil ?_
 refine ⟨⟨hB1,hB2,trivial⟩,?_⟩
 refine h_step ?_
 refine n_call rfl rfl (times_c _ hD1.here hD2.here (Nat.le_trans hla (by decide)) (Nat.le_trans hlb (by decide))) ?_
 rintro v w7 hE ⟨⟨A3,c3,rfl,hD3⟩,_⟩
 replace hB1:=hB1.ext hE; replace hB2:=hB2.ext hE; replace hB3:=hB3.ext hE; (try replace hD1:=hD1.ext hE); (try replace hD2:=hD2.ext hE); replace hX:=hX.trans hE
 clear hE
 simp only [val_digs16] at hD3 ⊢
 rw [← Int.natAbs_mul] at hD3 ⊢
 simp only [ev,zD,zE,zF,zG]
 refine n_nil ?_
 refine ⟨⟨hB1,hB2,trivial⟩,?_⟩
 refine h_step ?_
 refine n_call rfl rfl (rwide_c _ hD3 (Nat.le_trans hls (by decide))) ?_
 rintro v w8 hE rfl
 replace hB1:=hB1.ext hE; replace hB2:=hB2.ext hE; replace hB3:=hB3.ext hE; (try replace hD1:=hD1.ext hE); (try replace hD2:=hD2.ext hE); (try replace hD3:=hD3.ext hE); replace hX:=hX.trans hE
 clear hE
 simp only [val_digs16]
 simp only [ev,zD,zE,zF,zG]
 refine n_nil ?_
 refine ⟨⟨hB1,hB2,trivial⟩,?_⟩
 refine h_step ?_
 refine n_store rfl (by simp only [ev,zD,zE]; rfl) (by exact cells_32) hB3 (by simp) (by simp [Value.oneCell']) ?_
 clear hB3; intro w9 hC hB3
 replace hB1:=hB1.chg hC (by first | exact hN1_3 | exact Ne.symm hN3_1); replace hB2:=hB2.chg hC (by first | exact hN2_3 | exact Ne.symm hN3_2); (try replace hD1:=hD1.chg hC (by first | assumption | rfl)); (try replace hD2:=hD2.chg hC (by first | assumption | rfl)); (try replace hD3:=hD3.chg hC (by first | assumption | rfl)); replace hX:=hX.chg hC hG3
 clear hC
 simp only [over,zH,zI,zJ,zK,zL,zM,zN,zO,zP,Nat.reduceAdd] at hB3
 refine n_nil ?_
 refine ⟨⟨hB1,hB2,trivial⟩,?_⟩
 refine h_nil ?_
 rw [Int.natAbs_mul,sgn_mul] at hB3
 refine hK2 _ _ ?_
 refine wp_ret ?_
 try simp only [Exit.inBlock,Exit.then]
 refine fin1 rfl ⟨_,rfl,(hB3.lies agg_32 cells_32 rfl rfl)⟩ ?_
 try simp only [zD,zE]
 exact ⟨_,rfl,hX,rfl⟩
theorem rFrom_c {n : Int} (h : I64 n) : Pure Tryz.prog 29 [.int .i64 n] (W n):=by
 intro w
 refine ⟨en_29,?_⟩
 have hX:=Ext.refl w
 have hna:=h.natAbs
 go_enter Tryz.func29,Tryz.ntmps29
 refine c_seq (fun K1 hK1=>wp_region_lit ?_)
 refine n_alloc zero_32 rfl ?_
 intro w1 g1 hE hg1 hB1
 have hG1:=Nat.le_trans hX.size hg1
 replace hX:=hX.trans hE
 clear hE hg1
 simp only [ev,zD,zE,zF,zG]
 refine n_nil ?_
 refine hK1 _ _ ?_
 refine c_seq (fun K2 hK2=>wp_region_lit (n_val (r_assign) ?_))
 simp only [ev,zD,zE,zF,zG]
 obtain ⟨b3,hb3e,hb3l⟩:=hX.base
 have hS3:=Base.of hX hb3e
 have hO3:=Owns.nil_of hX b3 3 1
 have hl3_1 : g1 < b3:=by rw [hb3e]; exact hB1.lt
 clear hb3e
 refine n_nil ?_
 refine hK2 _ _ ?_
 refine c_seq (fun K3 hK3=>?_)
 rcases (show n < 0 ∨ 0 ≤ n by omega) with h0 | h0
 ·
  have hwn : true = wneg n:=(decide_eq_true h0).symm
  refine wp_region_lit (n_val (r_move) (n_val (r_conv Tryz.underlying88 Tryz.underlying3 rfl (u64_neg h h0)) (n_val (r_assign) ?_)))
  simp only [ev,zD,zE,zF,zG]
  refine n_nil ?_
  refine hK3 _ _ ?_
  refine c_seq (fun K4 hK4=>c_seq (fun K5 hK5=>wp_region_lit (n_val (r_move) (n_val (r_lssT rfl rfl (by omega)) ?_))))
  simp only [ev,zD,zE,zF,zG]
  refine n_nil ?_
  refine hK5 _ _ ?_
  refine c_yes rfl (wp_region_lit (n_val (r_move) (n_val (r_neg rfl (u64_minus hna (by omega))) (n_val (r_assign) ?_))))
  simp only [ev,zD,zE,zF,zG]
  refine n_nil ?_
  refine hK4 _ _ ?_
  refine c_seq (fun K6 hK6=>wp_block ?_)
  refine c_loopg [3,4] [11,12,13,14,15,16,17,18,19,20] (fun k vs wl=>∃ (m : Nat) (os : List Nat) (v3 : Value),vs = [v3,.int .u64 (m : Int)] ∧ (Ext w wl) ∧ (Blk wl g1 [.bool false,.string ⟨#[]⟩] 32) ∧ (Base wl b3) ∧ (Owns wl b3 3 1 v3 os.length (os.map i64v)) ∧ (val 65536 os + 65536 ^ os.length * m = n.natAbs) ∧ (Digs 65536 os) ∧ (m ≤ 9223372036854775808) ∧ (os.length + m ≤ 9223372036854775808 + 64) ∧ (m < 2 ^ (64 - os.length)) ∧ (os.length ≤ 64) ∧ (k = m)) ?_ ?_
  ·
   apply Exists.intro
   simp only [zQ,zR,zD,zE]
   exact ⟨n.natAbs,[],_,rfl,hX,hB1,hS3,hO3,by simp [val],digs_nil _,hna,by simp; omega,by simp; omega,by simp,rfl⟩
  ·
   intro n vs wr hI u
   obtain ⟨m,os,v3,rfl,hX,hB1,hS3,hO3,hv,hd,hm,hol,hol2,hol3,hn⟩:=hI
   simp only [setG_cons,setG_nil,setMany_cons,setMany_nil,zF,zG]
   refine c_seq (fun K7 hK7=>c_seq (fun K8 hK8=>wp_region_lit (n_val (r_move) (n_val (r_gtr rfl rfl) ?_))))
   simp only [ev,zD,zE,zF,zG]
   refine n_nil ?_
   refine hK8 _ _ ?_
   refine c_if rfl (fun hc2=>?_) (fun hc2=>?_)
   ·
    refine wp_skip ?_
    refine hK7 _ _ ?_
    refine wp_block (c_seq (fun K9 hK9=>wp_region_lit (n_val (r_move) (n_val (r_move) (n_val (r_rem rfl rfl (by omega) (rem_nat (n:=65536))) ?_)))))
    simp only [ev,zD,zE,zF,zG]
    refine n_val (r_conv Tryz.underlying3 Tryz.underlying88 rfl (wrap_i64 (by omega) (by omega))) ?_
    simp only [ev,zD,zE,zF,zG]
    refine n_build1 Tryz.underlying22 (z:=.int .i64 0) (by kernel_rfl) rfl (by simp only [ev,zD,zE,zF,zG]; rfl) (by rfl) ?_
    intro w2 g2 hE hg2 hB2
    have hG2:=Nat.le_trans hX.size hg2; have hN2_1 : g2 ≠ g1:=Nat.ne_of_gt (Nat.lt_of_lt_of_le hB1.lt hg2)
    replace hB1:=hB1.ext hE; (try replace hS3:=hS3.ext hE); (try replace hO3:=hO3.ext hE); replace hX:=hX.trans hE
    clear hE hg2
    simp only [ev,zD,zE,zF,zG]
    refine n_append rfl Tryz.underlying22 inf_3 rfl (by decide) rfl hO3 rfl (news:=_) rfl hB2.row0 (by simp [Value.oneCell']) (by omega) (by omega) hS3.h ?_
    clear hO3; intro v3 w3 hO3 hGr _
    replace hB1:=hB1.grew hGr hl3_1; (try replace hS3:=hS3.grew hGr (by first | trivial | omega)); replace hX:=hX.grown hGr hb3l
    clear hGr
    replace hO3:=hO3.snoc
    simp only [ev,zD,zE,zF,zG]
    refine n_val (r_assign) ?_
    simp only [ev,zD,zE,zF,zG]
    refine n_nil ?_
    refine hK9 _ _ ?_
    refine wp_region_lit (n_val (r_move) (n_val (r_quo rfl rfl (by omega) (quo_u64 (n:=65536) (by omega))) (n_val (r_assign) ?_)))
    simp only [ev,zD,zE,zF,zG]
    refine n_nil ?_
    have r:=from_round hv hd hol2 hol3 (show 0 < m by omega)
    simp only [Exit.inBlock,Exit.then]
    refine ⟨m / 65536,_,?_,rfl,?_,?_⟩
    · omega
    · simp only [zQ,zR,zD,zE,setG_cons,setG_nil,setMany_cons,setMany_nil,zF,zG]
    ·
     simp only [zQ,zR,zD,zE]
     exact ⟨m / 65536,os ++ [m % 65536],v3,rfl,hX,hB1,hS3,hO3,r.1,r.2.1,by omega,by simp; omega,r.2.2.1,r.2.2.2,rfl⟩
   ·
    refine wp_exit ?_
    refine hK6 _ _ ?_
    refine c_seq (fun K10 hK10=>?_)
    obtain rfl : m = 0:=by omega
    rw [Nat.mul_zero,Nat.add_zero] at hv
    obtain ⟨A3,c3,rfl,hD,_⟩:=DigAt.of_owns hO3 rfl hd (by omega)
    refine wp_region_lit (n_val (r_move) (n_val (r_lssT rfl rfl (by omega)) (n_val (r_move) ?_)))
    simp only [ev,zD,zE,zF,zG]
    refine n_call rfl rfl (rwide_c _ hD (by omega)) ?_
    rintro v w2 hE rfl
    replace hB1:=hB1.ext hE; (try replace hS3:=hS3.ext hE); (try replace hO3:=hO3.ext hE); (try replace hD:=hD.ext hE); replace hX:=hX.trans hE
    clear hE
    rw [hv,hwn,sgn_self]
    simp only [ev,zD,zE,zF,zG]
    refine n_store rfl (by simp only [ev,zD,zE]; rfl) (by exact cells_32) hB1 (by simp) (by simp [Value.oneCell']) ?_
    clear hB1; intro w3 hC hB1
    (try replace hS3:=hS3.chg hC (by first | assumption | rfl)); (try replace hO3:=hO3.chg hC (by first | assumption | rfl)); (try replace hD:=hD.chg hC (by first | assumption | rfl)); replace hX:=hX.chg hC hG1
    clear hC
    simp only [over,zH,zI,zJ,zK,zL,zM,zN,zO,zP,Nat.reduceAdd] at hB1
    refine n_nil ?_
    refine hK10 _ _ ?_
    refine wp_ret ?_
    try simp only [Exit.inBlock,Exit.then]
    refine fin1 rfl ⟨_,rfl,(hB1.lies agg_32 cells_32 rfl rfl)⟩ ?_
    try simp only [zD,zE]
    exact ⟨_,rfl,hX,rfl⟩
 ·
  have hwn : false = wneg n:=(decide_eq_false (by omega)).symm
  refine wp_region_lit (n_val (r_move) (n_val (r_conv Tryz.underlying88 Tryz.underlying3 rfl (u64_nn h h0)) (n_val (r_assign) ?_)))
  simp only [ev,zD,zE,zF,zG]
  refine n_nil ?_
  refine hK3 _ _ ?_
  refine c_seq (fun K11 hK11=>c_seq (fun K12 hK12=>wp_region_lit (n_val (r_move) (n_val (r_lssF rfl rfl (by omega)) ?_))))
  simp only [ev,zD,zE,zF,zG]
  refine n_nil ?_
  refine hK12 _ _ ?_
  refine c_no rfl (wp_skip ?_)
  refine hK11 _ _ ?_
  refine c_seq (fun K13 hK13=>wp_block ?_)
  refine c_loopg [3,4] [11,12,13,14,15,16,17,18,19,20] (fun k vs wl=>∃ (m : Nat) (os : List Nat) (v3 : Value),vs = [v3,.int .u64 (m : Int)] ∧ (Ext w wl) ∧ (Blk wl g1 [.bool false,.string ⟨#[]⟩] 32) ∧ (Base wl b3) ∧ (Owns wl b3 3 1 v3 os.length (os.map i64v)) ∧ (val 65536 os + 65536 ^ os.length * m = n.natAbs) ∧ (Digs 65536 os) ∧ (m ≤ 9223372036854775808) ∧ (os.length + m ≤ 9223372036854775808 + 64) ∧ (m < 2 ^ (64 - os.length)) ∧ (os.length ≤ 64) ∧ (k = m)) ?_ ?_
  ·
   apply Exists.intro
   simp only [zQ,zR,zD,zE]
   exact ⟨n.natAbs,[],_,rfl,hX,hB1,hS3,hO3,by simp [val],digs_nil _,hna,by simp; omega,by simp; omega,by simp,rfl⟩
  ·
   intro n vs wr hI u
   obtain ⟨m,os,v3,rfl,hX,hB1,hS3,hO3,hv,hd,hm,hol,hol2,hol3,hn⟩:=hI
   simp only [setG_cons,setG_nil,setMany_cons,setMany_nil,zF,zG]
   refine c_seq (fun K14 hK14=>c_seq (fun K15 hK15=>wp_region_lit (n_val (r_move) (n_val (r_gtr rfl rfl) ?_))))
   simp only [ev,zD,zE,zF,zG]
   refine n_nil ?_
   refine hK15 _ _ ?_
   refine c_if rfl (fun hc2=>?_) (fun hc2=>?_)
   ·
    refine wp_skip ?_
    refine hK14 _ _ ?_
    refine wp_block (c_seq (fun K16 hK16=>wp_region_lit (n_val (r_move) (n_val (r_move) (n_val (r_rem rfl rfl (by omega) (rem_nat (n:=65536))) ?_)))))
    simp only [ev,zD,zE,zF,zG]
    refine n_val (r_conv Tryz.underlying3 Tryz.underlying88 rfl (wrap_i64 (by omega) (by omega))) ?_
    simp only [ev,zD,zE,zF,zG]
    refine n_build1 Tryz.underlying22 (z:=.int .i64 0) (by kernel_rfl) rfl (by simp only [ev,zD,zE,zF,zG]; rfl) (by rfl) ?_
    intro w2 g2 hE hg2 hB2
    have hG2:=Nat.le_trans hX.size hg2; have hN2_1 : g2 ≠ g1:=Nat.ne_of_gt (Nat.lt_of_lt_of_le hB1.lt hg2)
    replace hB1:=hB1.ext hE; (try replace hS3:=hS3.ext hE); (try replace hO3:=hO3.ext hE); replace hX:=hX.trans hE
    clear hE hg2
    simp only [ev,zD,zE,zF,zG]
    refine n_append rfl Tryz.underlying22 inf_3 rfl (by decide) rfl hO3 rfl (news:=_) rfl hB2.row0 (by simp [Value.oneCell']) (by omega) (by omega) hS3.h ?_
    clear hO3; intro v3 w3 hO3 hGr _
    replace hB1:=hB1.grew hGr hl3_1; (try replace hS3:=hS3.grew hGr (by first | trivial | omega)); replace hX:=hX.grown hGr hb3l
    clear hGr
    replace hO3:=hO3.snoc
    simp only [ev,zD,zE,zF,zG]
    refine n_val (r_assign) ?_
    simp only [ev,zD,zE,zF,zG]
    refine n_nil ?_
    refine hK16 _ _ ?_
    refine wp_region_lit (n_val (r_move) (n_val (r_quo rfl rfl (by omega) (quo_u64 (n:=65536) (by omega))) (n_val (r_assign) ?_)))
    simp only [ev,zD,zE,zF,zG]
    refine n_nil ?_
    have r:=from_round hv hd hol2 hol3 (show 0 < m by omega)
    simp only [Exit.inBlock,Exit.then]
    refine ⟨m / 65536,_,?_,rfl,?_,?_⟩
    · omega
    · simp only [zQ,zR,zD,zE,setG_cons,setG_nil,setMany_cons,setMany_nil,zF,zG]
    ·
     simp only [zQ,zR,zD,zE]
     exact ⟨m / 65536,os ++ [m % 65536],v3,rfl,hX,hB1,hS3,hO3,r.1,r.2.1,by omega,by simp; omega,r.2.2.1,r.2.2.2,rfl⟩
   ·
    refine wp_exit ?_
    refine hK13 _ _ ?_
    refine c_seq (fun K17 hK17=>?_)
    obtain rfl : m = 0:=by omega
    rw [Nat.mul_zero,Nat.add_zero] at hv
    obtain ⟨A3,c3,rfl,hD,_⟩:=DigAt.of_owns hO3 rfl hd (by omega)
    refine wp_region_lit (n_val (r_move) (n_val (r_lssF rfl rfl (by omega)) (n_val (r_move) ?_)))
    simp only [ev,zD,zE,zF,zG]
    refine n_call rfl rfl (rwide_c _ hD (by omega)) ?_
    rintro v w2 hE rfl
    replace hB1:=hB1.ext hE; (try replace hS3:=hS3.ext hE); (try replace hO3:=hO3.ext hE); (try replace hD:=hD.ext hE); replace hX:=hX.trans hE
    clear hE
    rw [hv,hwn,sgn_self]
    simp only [ev,zD,zE,zF,zG]
    refine n_store rfl (by simp only [ev,zD,zE]; rfl) (by exact cells_32) hB1 (by simp) (by simp [Value.oneCell']) ?_
    clear hB1; intro w3 hC hB1
    (try replace hS3:=hS3.chg hC (by first | assumption | rfl)); (try replace hO3:=hO3.chg hC (by first | assumption | rfl)); (try replace hD:=hD.chg hC (by first | assumption | rfl)); replace hX:=hX.chg hC hG1
    clear hC
    simp only [over,zH,zI,zJ,zK,zL,zM,zN,zO,zP,Nat.reduceAdd] at hB1
    refine n_nil ?_
    refine hK17 _ _ ?_
    refine wp_ret ?_
    try simp only [Exit.inBlock,Exit.then]
    refine fin1 rfl ⟨_,rfl,(hB1.lies agg_32 cells_32 rfl rfl)⟩ ?_
    try simp only [zD,zE]
    exact ⟨_,rfl,hX,rfl⟩
end Go.Proofs.YtmcgcnpgkkfkoaaGreatDoor
