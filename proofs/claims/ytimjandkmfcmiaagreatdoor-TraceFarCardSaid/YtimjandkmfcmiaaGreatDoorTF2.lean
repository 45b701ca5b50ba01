/-
 Texts of one claim, laid together: Dig, Ref1, Ref2, Ref3, Dig2, Ref4, Ref5, Ref6, Tree, Dig3, Ref7.
-/
import Derived.Test.YtimjandkmfcmiaaGreatDoorTF1
set_option maxHeartbeats 8000000
set_option linter.unusedSimpArgs false
set_option linter.unusedVariables false
set_option linter.unusedSectionVars false
namespace Go.Lith
open Go.RowKit
abbrev pT (x : Nat) : Value:=.int .i64 (x : Int)
structure dC (w : World) (b : Nat) (A : Option Addr) (n cap : Nat) (xs : List Nat) : Prop where
 eq : n = xs.length
 row : ∀ (i x : Nat),xs[i]? = some x → ∃ a,A = some a ∧ a.block < b ∧ w.cell? (a.add i) = some (.int .i64 (x : Int))
 le : xs.length ≤ cap
 cap : cap ≤ 9223372036854775807
 len : xs.length ≤ 17592186044416
 digs : dD 65536 xs
structure sC (w : World) (b : Nat) : Prop where
 h : b ≤ w.heap.size
theorem sC.ext {w w' : World} {b : Nat} (h : sC w b) (hE : dL w w') : sC w' b:=⟨Nat.le_trans h.h hE.size⟩
theorem sC.grew {w w' : World} {b base : Nat} (h : sC w b) (hG : Ar w w' base) (_ : True:=trivial) : sC w' b:=⟨Nat.le_trans h.h hG.size⟩
theorem dL.base {w0 w : World} (h : dL w0 w) : ∃ b,b = w.heap.size ∧ w0.heap.size ≤ b:=⟨_,rfl,h.size⟩
theorem sC.of {w0 w : World} {b : Nat} (_ : dL w0 w) (e : b = w.heap.size) : sC w b:=⟨Nat.le_of_eq e⟩
theorem jT.nil_of {w0 w : World} (_ : dL w0 w) (base : Nat) (E : TypeId) (c : Nat) : jT w base E c (.slice none 0 0) 0 []:=jT.nil w base E c
theorem fW.row0 {w : World} {g : Nat} {cs : List Value} {t : TypeId} (h : fW w g cs t) : qS w ⟨g,0,none⟩ cs:=h.row 0
section
variable {w w' : World} {b : Nat} {A : Option Addr} {n cap : Nat} {xs : List Nat}
theorem dC.ext (h : dC w b A n cap xs) (hE : dL w w') : dC w' b A n cap xs :=
 ⟨h.eq,fun i x hi=>let ⟨a,e,hb,hc⟩:=h.row i x hi; ⟨a,e,hb,hE.cell hc⟩,h.le,h.cap,h.len,h.digs⟩
theorem dC.mono {b' : Nat} (h : dC w b A n cap xs) (hb : b ≤ b') : dC w b' A n cap xs :=
 ⟨h.eq,fun i x hi=>let ⟨a,e,h1,hc⟩:=h.row i x hi; ⟨a,e,by omega,hc⟩,h.le,h.cap,h.len,h.digs⟩
theorem dC.here (h : dC w b A n cap xs) : dC w w.heap.size A n cap xs :=
 ⟨h.eq,fun i x hi=>by
  obtain ⟨a,e,_,hc⟩:=h.row i x hi;have:=World.block_lt_of_cell? _ _ hc;rw [mB] at this;exact ⟨a,e,this,hc⟩,h.le,h.cap,h.len,h.digs⟩
theorem dC.chg {g : Nat} (h : dC w b A n cap xs) (hC : Mm w w' g) (hb : b ≤ g) : dC w' b A n cap xs :=
 ⟨h.eq,fun i x hi=>by
  obtain ⟨a,e,h1,hc⟩:=h.row i x hi;exact ⟨a,e,h1,(hC.cell (by rw [mB]; omega)).trans hc⟩,h.le,h.cap,h.len,h.digs⟩
theorem dC.grew {base : Nat} (h : dC w b A n cap xs) (hG : Ar w w' base) (hb : b ≤ base) : dC w' b A n cap xs :=
 ⟨h.eq,fun i x hi=>by
  obtain ⟨a,e,h1,hc⟩:=h.row i x hi;exact ⟨a,e,h1,(World.cell?_of_block (hG.block _ (by rw [mB]; omega))).trans hc⟩,h.le,h.cap,h.len,h.digs⟩
theorem dC.take (h : dC w b A n cap xs) (k : Nat) : dC w b A (xs.take k).length cap (xs.take k) :=
 ⟨rfl,fun i x hi=>h.row i x (by rw [List.getElem?_take] at hi; split at hi; exact hi; cases hi),Nat.le_trans (by simp; omega) h.le,h.cap,Nat.le_trans (by simp; omega) h.len,h.digs.take k⟩
theorem dC.get (h : dC w b A n cap xs) {i : Nat} (hi : i < xs.length) : ∃ a,A = some a ∧ w.cell? (a.add i) = some (.int .i64 ((xs[i] : Nat) : Int)) ∧ xs[i] < 65536:=by
 obtain ⟨a,e,_,hc⟩:=h.row i xs[i] (List.getElem?_eq_getElem hi);exact ⟨a,e,hc,h.digs _ (List.getElem_mem hi)⟩
theorem dC.at {a : Addr} (h : dC w b (some a) n cap xs) {i : Nat} (hi : i < xs.length) : w.cell? (a.add i) = some (.int .i64 ((xs[i] : Nat) : Int)):=by
 obtain ⟨a',e,hc,_⟩:=h.get hi;cases e;exact hc
theorem dC.lt (h : dC w b A n cap xs) {i : Nat} (hi : i < xs.length) : xs[i] < 65536:=h.digs _ (List.getElem_mem hi)
theorem dC.nil (w : World) (b : Nat) : dC w b none 0 0 []:=⟨rfl,fun i x hi=>by simp at hi,Nat.le_refl _,by omega,by simp,fun x hx=>by cases hx⟩
theorem dC.of_blk {g : Nat} {os : List Nat} {t : TypeId} (h : fW w g (os.map pT) t) (hd : dD 65536 os) (hn : n = os.length) (hl : n ≤ 17592186044416) : dC w w.heap.size (some ⟨g,0,none⟩) n n os :=
 ⟨hn,fun i x hi=>⟨_,rfl,h.lt,by rw [fN,Nat.zero_add]; exact h.cell (by simp [hi])⟩,by omega,by omega,by omega,hd⟩
theorem dC.of_owns {base : Nat} {v : Value} {E : TypeId} (h : jT w base E 1 v n (xs.map pT)) (hn : n = xs.length) (hd : dD 65536 xs) (hl : n ≤ 17592186044416) : ∃ A c,v = .slice A n c ∧ dC w w.heap.size A n c xs ∧ ∀ a,A = some a → base ≤ a.block:=by
 rcases h.row with ⟨rfl,rfl,hx⟩ | ⟨g,cap,rfl,hb,h1,h2,hg,hr⟩
 · obtain rfl : xs = []:=by simpa using hx
   exact ⟨none,0,rfl,dC.nil _ _,fun _ e=>by cases e⟩
 · exact ⟨_,cap,rfl,⟨hn,fun i x hi=>⟨_,rfl,hg,hr i _ (by simp [hi])⟩,by omega,h2,by omega,hd⟩,fun a e=>by cases e; exact hb⟩
theorem dC.rows (h : dC w b A n cap xs) : ∀ j u,(xs.map pT)[j]? = some u → ∃ a,A = some a ∧ w.cell? (a.add j) = some u:=fun j u hj=>by
 rw [List.getElem?_map] at hj;cases hx : xs[j]? with
 | none=>rw [hx] at hj; cases hj
 | some x =>
  rw [hx] at hj;cases hj;obtain ⟨a,e,_,hc⟩:=h.row j x hx;exact ⟨a,e,hc⟩
end
theorem jT.snoc {w : World} {b : Nat} {E : TypeId} {v : Value} {os : List Nat} {x : Nat} (h : jT w b E 1 v (os.length + 1) (os.map pT ++ [.int .i64 (x : Int)])) : jT w b E 1 v (os ++ [x]).length ((os ++ [x]).map pT):=by simpa using h
def mU (n : Nat) (v : Value) (w : World) : Prop:=∃ A cap,v = .slice A (digs 65536 n).length cap ∧ dC w w.heap.size A (digs 65536 n).length cap (digs 65536 n)
structure wF (w : World) (g : Nat) (A : Option Addr) (n cap : Nat) (xs : List Nat) : Prop where
 dig : dC w w.heap.size A n cap xs
 ne : ∀ a,A = some a → a.block ≠ g
theorem wF.ext {w w' : World} {g n cap : Nat} {A : Option Addr} {xs : List Nat} (h : wF w g A n cap xs) (hE : dL w w') : wF w' g A n cap xs:=⟨(h.dig.ext hE).here,h.ne⟩
theorem wF.chg {w w' : World} {g g' n cap : Nat} {A : Option Addr} {xs : List Nat} (h : wF w g A n cap xs) (hC : Mm w w' g') (e : g' = g) : wF w' g A n cap xs:=by
 subst e;refine ⟨⟨h.dig.eq,fun i x hi=>?_,h.dig.le,h.dig.cap,h.dig.len,h.dig.digs⟩,h.ne⟩;obtain ⟨a,ea,hb,hc⟩:=h.dig.row i x hi;exact ⟨a,ea,by rw [hC.size]; exact hb,(hC.cell (by rw [mB]; exact h.ne a ea)).trans hc⟩
theorem wF.of_trim {w : World} {b g n cap : Nat} {A : Option Addr} {xs ys : List Nat} (h : dC w b A n cap xs) (e : trim xs = ys) (hne : ∀ a,A = some a → a.block ≠ g) : wF w g A ys.length cap ys:=by
 refine ⟨?_,hne⟩;have:=(h.take (trim xs).length).here;rw [← iE,e] at this;exact this
theorem Bn {qs xs : List Nat} {k Y R low R1 : Nat} (hk : 0 < k) (hkl : k ≤ xs.length) (hlo : qs.length = xs.length) (hv : val 65536 (xs.drop k) = Y * val 65536 (qs.drop k) + R) (hR1 : R1 = xs[k - 1] + 65536 * R) (h1 : low * Y ≤ R1) (hd : dD 65536 qs) (h16 : low < 65536) :
 val 65536 (xs.drop (k - 1)) = Y * val 65536 ((qs.set (k - 1) low).drop (k - 1)) + (R1 - Y * low) ∧ dD 65536 (qs.set (k - 1) low):=by
 refine ⟨?_,hd.set h16⟩;rw [jP hk (by omega),jP (xs:=qs.set (k - 1) low) hk (by simp; omega),List.getElem_set_self,hv];have e : (qs.set (k - 1) low).drop k = qs.drop k:=mD (by omega);rw [e];generalize val 65536 (qs.drop k) = q at *
 generalize xs[k - 1] = x at *
 have h2 : Y * low = low * Y:=Nat.mul_comm _ _;obtain ⟨z,hz⟩:=Nat.exists_eq_add_of_le h1;rw [h2,show R1 - low * Y = z by omega];have : Y * (low + 65536 * q) = low * Y + 65536 * (Y * q):=by grind
 omega
theorem El {Y R1 low high : Nat} (h0 : 0 < Y) (hh : R1 < high * Y) (hl : ¬ ((1 : Int) < (high : Int) - (low : Int))) : R1 - Y * low < Y:=by
 have h1 : high ≤ low + 1:=by omega
 have h2 : high * Y ≤ (low + 1) * Y:=Nat.mul_le_mul_right _ h1;rw [Nat.add_mul,Nat.one_mul,Nat.mul_comm low Y] at h2;omega
theorem sD {a b : Nat} : Gi a b ≤ 0 ↔ a ≤ b:=by
 unfold Gi;split
 · omega
 · split <;> omega
def aaN (n k : Nat) (v : Value) (w : World) : Prop:=∃ A cap os,v = .slice A os.length cap ∧ dC w w.heap.size A os.length cap os ∧ val 65536 os = n ∧ os.length ≤ k
theorem mU.of_trim {w : World} {b : Nat} {A : Option Addr} {xs : List Nat} {k cap n : Nat} (h : dC w b A k cap xs) (hv : val 65536 xs = n) : mU n (.slice A (trim xs).length cap) w:=by
 have e : trim xs = digs 65536 n:=kA (by omega) h.digs hv;refine ⟨A,cap,by rw [e],?_⟩;rw [← e];have:=(h.take (trim xs).length).here;rwa [← iE] at this
theorem mU.self {w : World} {b : Nat} {A : Option Addr} {xs : List Nat} {k cap : Nat} (h : dC w b A k cap xs) (t : gC xs) : mU (val 65536 xs) (.slice A k cap) w:=by
 have e : xs = digs 65536 (val 65536 xs):=by rw [← kA (by omega) h.digs rfl,t]
 refine ⟨A,cap,by rw [h.eq,← e],?_⟩;rw [← e,← h.eq];exact h.here
theorem uQ (n : Nat) : List.replicate n (Value.int .i64 0) = (List.replicate n 0).map pT:=by simp [pT]
theorem oL {os : List Nat} {i d : Nat} (hi : i < os.length) : aX (os.map pT) i [pT d] = (os.set i d).map pT:=by
 simp only[aX,List.length_singleton];apply List.ext_getElem?;intro j;rcases Nat.lt_trichotomy j i with h | h | h
 · rw [List.getElem?_append_left (by simp; omega),List.getElem?_append_left (by simp; omega)]
   simp [h,List.getElem?_set_ne (Nat.ne_of_gt h)]
 · subst h
   rw [List.getElem?_append_left (by simp; omega),List.getElem?_append_right (by simp; omega)];have e : j - min j os.length = 0:=by omega
   simp [hi,e]
 · rw [List.getElem?_append_right (by simp; omega)]
   simp only[List.length_append,List.length_take,List.length_map,List.length_singleton,List.getElem?_drop,List.getElem?_map];rw [List.getElem?_set_ne (by omega)]
   congr 2
   omega
theorem fW.digit {w : World} {g : Nat} {os : List Nat} {t : TypeId} (h : fW w g (os.map pT) t) {i : Nat} (hi : i < os.length) : w.cell? ⟨g,i,none⟩ = some (.int .i64 ((os[i] : Nat) : Int)) :=
 h.cell (by simp [hi])
theorem cU (n : Nat) : val 65536 (digs 65536 n) = n:=pC (by omega) n
theorem gW (n : Nat) : gC (digs 65536 n):=mO (by omega) n
theorem pX (n : Nat) : dD 65536 (digs 65536 n):=rD (by omega) n
theorem rI {m n : Nat} (h : m ≤ n) : (digs 65536 m).length ≤ (digs 65536 n).length:=by
 refine eO (by omega) (Nat.lt_of_le_of_lt h ?_);have:=jC (pX n);rwa [cU] at this
theorem kF {k : Nat} {V : Nat} (h : V < 2 ^ k) : (digs 65536 V).length ≤ k:=by
 refine eO (by omega) (Nat.lt_of_lt_of_le h ?_);rw [show (65536 : Nat) = 2 ^ 16 from rfl,← Nat.pow_mul];exact Nat.pow_le_pow_right (by omega) (by omega)
section
variable {P : Program} {ds : List Deferred} {l : List Value} {T ty : TypeId}
variable {ops : Array Oper} {Q : Exit → Act → World → Prop} {rest : List Oper} {d : Nat} {pos : String} {after : Array Edge} {w : World}
theorem Ou {s0 x0 : Operand} {base c b nn mm cap : Nat} {E : TypeId} {z v : Value} {xs : List Value} {A : Option Addr} {a0 : Array TypeId} (ha : a0 = #[T,T]) (hu : P.underlying T = some (.slice E)) (hi : (P.info? E).map (fun i=>(i.size,i.bytes,i.zero)) = some (c,b,some z)) (hz : z.cells.size = c) (hc : 0 < c)
 (hs : ev l s0 = v) (hown : jT w base E c v nn xs) (hx : ev l x0 = .slice A mm cap) {news : List Value} (hl : news.length = mm * c) (hrow : ∀ j u,news[j]? = some u → ∃ a,A = some a ∧ w.cell? (a.add j) = some u) (h1 : ∀ u ∈ news,u.oneCell' = true) (h63 : nn + mm ≤ 9223372036854775807) (hbytes : (nn + mm) * b ≤ 140737488355328) (hbase : base ≤ w.heap.size)
 (h : ∀ v' w',jT w' base E c v' (nn + mm) (xs ++ news) → Ar w w' base → True → wpList P ops Q rest (Fr (l.set d v') ds) w') :
 wpList P ops Q (Oper.mk (some d) (.call { callee:=.builtin .append,args:=#[s0,x0],argTypes:=a0 }) ty pos after none :: rest) (Fr l ds) w:=by
 cases A with
 | none =>
  obtain rfl : news = []:=by
   cases news with
   | nil=>rfl
   | cons u us=>obtain ⟨a,e,_⟩:=hrow 0 u rfl; cases e
  have hm : mm = 0:=by
   rcases Nat.eq_zero_or_pos mm with h0 | h0
   · exact h0
   · have:=Nat.mul_pos h0 hc; simp at hl; omega
  subst hm;exact Nv ha hu hi hs hown hx (h _ _ (by simpa using hown) (Ar.refl _ _) trivial)
 | some a =>
  refine gT ha hu hi hz hc hs hown hx hl (fun j u hj=>?_) h1 h63 hbytes hbase (fun v' w' h2 h3 _=>h v' w' h2 h3 trivial);obtain ⟨a',e,hc'⟩:=hrow j u hj;cases e;exact hc'
end
theorem sE {os xs ys : List Nat} {i c s : Nat} (hl : os.length = i) (hv : val 65536 os + 65536 ^ i * c = val 65536 (xs.take i) + val 65536 (ys.take i)) (hd : dD 65536 os)
 (hs : s = c + xs[i]?.getD 0 + ys[i]?.getD 0) :
 val 65536 (os ++ [s % 65536]) + 65536 ^ (i + 1) * (s / 65536) = val 65536 (xs.take (i + 1)) + val 65536 (ys.take (i + 1)) ∧ dD 65536 (os ++ [s % 65536]):=by
 refine ⟨?_,hd.append (nF (Nat.mod_lt _ (by omega)) (kE _))⟩;have ht : ∀ l : List Nat,val 65536 (l.take (i + 1)) = val 65536 (l.take i) + 65536 ^ i * l[i]?.getD 0:=fun l=>by
  rcases Nat.lt_or_ge i l.length with h | h
  · rw [cY h,List.getElem?_eq_getElem h]; rfl
  · rw [List.take_of_length_le (by omega),List.take_of_length_le h,List.getElem?_eq_none h]; simp
 rw [ht xs,ht ys,fI,hl];simp only[val,Nat.mul_zero,Nat.add_zero];have e : s = s % 65536 + 65536 * (s / 65536):=by omega
 rw [Nat.pow_succ];generalize s / 65536 = q at *
 generalize s % 65536 = r at *
 generalize 65536 ^ i = p at *
 generalize xs[i]?.getD 0 = x at *
 generalize ys[i]?.getD 0 = y at *
 subst hs;have e2 : p * (c + x + y) = p * r + p * 65536 * q:=by rw [e]; grind
 grind
theorem pY {os xs ys : List Nat} {i c s b : Nat} (hi : i < xs.length) (hl : os.length = i) (hv : val 65536 os + val 65536 (ys.take i) = val 65536 (xs.take i) + 65536 ^ i * c) (hd : dD 65536 os)
 (hs : s + ys[i]?.getD 0 + c = xs[i] + 65536 * b) (h16 : s < 65536) :
 val 65536 (os ++ [s]) + val 65536 (ys.take (i + 1)) = val 65536 (xs.take (i + 1)) + 65536 ^ (i + 1) * b ∧ dD 65536 (os ++ [s]):=by
 refine ⟨?_,hd.append (nF h16 (kE _))⟩;have ht : val 65536 (ys.take (i + 1)) = val 65536 (ys.take i) + 65536 ^ i * ys[i]?.getD 0:=by
  rcases Nat.lt_or_ge i ys.length with h | h
  · rw [cY h,List.getElem?_eq_getElem h]; rfl
  · rw [List.take_of_length_le (by omega),List.take_of_length_le h,List.getElem?_eq_none h]; simp
 rw [ht,cY hi,fI,hl];simp only[val,Nat.mul_zero,Nat.add_zero];rw [Nat.pow_succ];generalize 65536 ^ i = p at *
 generalize ys[i]?.getD 0 = y at *
 generalize xs[i] = x at *
 have e2 : p * (s + y + c) = p * x + p * 65536 * b:=by rw [hs]; grind
 grind
theorem Ov {os xs ys : List Nat} {c : Nat} (hle : ys.length ≤ xs.length) (hl : os.length = xs.length) (hd : dD 65536 os) (hv : val 65536 os + val 65536 (ys.take xs.length) = val 65536 (xs.take xs.length) + 65536 ^ xs.length * c) (hge : val 65536 ys ≤ val 65536 xs) : val 65536 os = val 65536 xs - val 65536 ys:=by
 rw [List.take_length,List.take_of_length_le hle] at hv;have h1:=jC hd;rw [hl] at h1;rcases Nat.eq_zero_or_pos c with h | h
 · subst h; omega
 · have : 65536 ^ xs.length * 1 ≤ 65536 ^ xs.length * c:=Nat.mul_le_mul_left _ h
   omega
theorem Le {os : List Nat} {i d c c' s t T : Nat} (hi : i < os.length) (hs : os[i] + s + c = d + 65536 * c') (hT : val 65536 os + 65536 ^ i * c = T) (ht : T + 65536 ^ i * s = t) :
 val 65536 (os.set i d) + 65536 ^ (i + 1) * c' = t:=by
 have h:=kR (B:=65536) (d:=d) hi;rw [Nat.pow_succ];generalize 65536 ^ i = p at *
 have e : p * (os[i] + s + c) = p * d + p * 65536 * c':=by rw [hs]; grind
 grind
theorem Ix {os xs ys : List Nat} {i k c s : Nat} (hi : i < xs.length) (hk : k < ys.length) (hlo : os.length = xs.length + ys.length) (hv : val 65536 os + 65536 ^ (i + k) * c = val 65536 (xs.take i) * val 65536 ys + 65536 ^ i * (xs[i] * val 65536 (ys.take k)))
 (hs : s = os[i + k] + xs[i] * ys[k] + c) : val 65536 (os.set (i + k) (s % 65536)) + 65536 ^ (i + (k + 1)) * (s / 65536) = val 65536 (xs.take i) * val 65536 ys + 65536 ^ i * (xs[i] * val 65536 (ys.take (k + 1))):=by
 refine Le (s:=xs[i] * ys[k]) (i:=i + k) (by omega) (by omega) hv ?_;rw [cY hk,Nat.pow_add]
 grind
theorem Ox {os xs ys : List Nat} {i c : Nat} (hi : i < xs.length) (hlo : os.length = xs.length + ys.length) (hv : val 65536 os + 65536 ^ (i + ys.length) * c = val 65536 (xs.take i) * val 65536 ys + 65536 ^ i * (xs[i] * val 65536 (ys.take ys.length))) (hz : os.drop (i + ys.length) = List.replicate (xs.length - i) 0) :
 val 65536 (os.set (i + ys.length) c) = val 65536 (xs.take (i + 1)) * val 65536 ys ∧ (os.set (i + ys.length) c).drop (i + 1 + ys.length) = List.replicate (xs.length - (i + 1)) 0:=by
 obtain ⟨z1,z2⟩:=iG hz (by omega);have h:=kR (B:=65536) (d:=c) (show i + ys.length < os.length by omega);rw [z1] at h;rw [List.take_length] at hv;refine ⟨?_,?_⟩
 · rw [cY hi]
   grind
 · rw [show i + 1 + ys.length = i + ys.length + 1 by omega,jN,z2]
   congr 1
theorem Iy {x y : Nat} (hx : x < 65536) (hy : y < 65536) : x * y ≤ 4294836225:=by
 have:=Nat.mul_le_mul (Nat.le_sub_one_of_lt hx) (Nat.le_sub_one_of_lt hy);omega
theorem Oy {x y : Nat} (hx : x < 65536) (hy : y < 65536) : (0 : Int) ≤ (x : Int) * (y : Int) ∧ (x : Int) * (y : Int) ≤ 4294836225:=by
 have:=Iy hx hy;rw [← Int.natCast_mul];omega
theorem Iz {xs ys : List Nat} {k : Nat} (hx : dD 65536 xs) (hk : 0 < k) (hlx : k - 1 < xs.length) (hly : k - 1 < ys.length) (hd : xs.drop k = ys.drop k) (h : ((xs[k-1] : Nat) : Int) < ((ys[k-1] : Nat) : Int)) : val 65536 xs < val 65536 ys :=
 uO (by omega) hx hlx hly (by rw [show k - 1 + 1 = k by omega]; exact hd) (by omega)
theorem Sf {xs ys : List Nat} {k : Nat} (hk : 0 < k) (hlx : k - 1 < xs.length) (hly : k - 1 < ys.length) (hd : xs.drop k = ys.drop k) (h1 : ((xs[k-1] : Nat) : Int) = ((ys[k-1] : Nat) : Int)) : xs.drop (k - 1) = ys.drop (k - 1):=by
 rw [List.drop_eq_getElem_cons hlx,List.drop_eq_getElem_cons hly,show k - 1 + 1 = k by omega,hd,show xs[k-1] = ys[k-1] by omega]
end Go.Lith
namespace Go.Proofs.YtimjandkmfcmiaaGreatDoor
open Tryz
open Go.RowKit Go.Lith
abbrev nT:=@underlying5
set_option maxRecDepth 100000
attribute [local irreducible] wpList wpQuiet eS Code.wp
theorem xN {A : Option Addr} {xs : List Nat} {b na cap : Nat} (w : World) (hS : dC w b A na cap xs) : iL prog 99 [.slice A na cap] w (fun v _=>v = .slice A (trim xs).length cap):=by
 skip
 refine ⟨acM,?_⟩;have hX:=dL.refl w;obtain rfl:=hS.eq;have hl:=hS.len;have hle:=hS.le;have hcp:=hS.cap
 go_enter func99,ntmps99
 refine aF (fun K1 hK1=>wp_region_lit (aA (aD) ?_));simp only[zz];refine aC (hK1 _ _ ?_);refine aF (fun K2 hK2=>wp_block ?_);refine dI [0] [3,4,5,6,7,8,9,10,11,12,13,14,15,16,17,18,19] (fun n vs wl=>∃ (k : Nat),vs = [.slice A k cap] ∧ (dL w wl) ∧ (k ≤ xs.length) ∧ (trim (xs.take k) = trim xs) ∧ (n = k)) ?_ ?_
 ·
  apply Exists.intro;simp only[zQ,zR,zD,zE];exact ⟨xs.length,rfl,hX,Nat.le_refl _,by rw [List.take_length],rfl⟩
 ·
  intro n vs wr hI u;obtain ⟨k,rfl,hX,hk,ht,hn⟩:=hI;simp only[zv,zF,zG];refine aF (fun K3 hK3=>aF (fun K4 hK4=>?_));by_cases hk0 : 0 < k
  ·
   obtain ⟨a,rfl,hcell,hlt⟩:=(hS.ext hX).get (show k - 1 < xs.length by omega);refine wp_region_lit (aA (aB) (aA (bR rfl bN rfl) (aA (kT rfl rfl (by omega)) ?_)));simp only[zz];refine aA (aB) ?_;simp only[zz];refine aP rfl (aA (aB) ?_);simp only[zz];refine aP rfl (aA (aB) ?_);simp only[zz];refine aP rfl (aA (bR rfl bN rfl) ?_);simp only[zz];refine aP rfl (aA (dU rfl rfl (aQ (by omega) (by omega))) ?_);simp only[zz];refine aP rfl (aA (aU bN aM rfl rfl (by omega) (by omega) (fT (show _ = k - 1 by omega))) ?_);simp only[zz];refine aP rfl (aI rfl (lies1 hcell aZ) ?_);simp only[zz];refine aP rfl (aA (nA rfl rfl) (aA (cG rfl) ?_));simp only[zz];refine aC (hK4 _ _ ?_);refine cQ rfl (fun hc1=>?_) (fun hc1=>?_)
   ·
    refine wp_skip ?_;refine hK3 _ _ (wp_block (wp_region_lit (aA (aB) (aA (aB) (aA (bR rfl bN rfl) ?_)))));simp only[zz];refine aA (dU rfl rfl (aQ (by omega) (by omega))) (aA (qV bN aM rfl rfl (show _ = k - 1 by omega) (by omega) (by omega)) (aA (aD) ?_));simp only[zz];refine aC ?_;simp only[Exit.inBlock,Exit.then];refine ⟨k - 1,_,?_,rfl,?_,?_⟩
    · omega
    · simp only[zz,zv]
    ·
     simp only[zQ,zR,zD,zE];exact ⟨k - 1,rfl,hX,by omega,Ee hk0 (by omega) hc1 ht,rfl⟩
   ·
    refine wp_exit ?_;refine hK2 _ _ (aF (fun K5 hK5=>wp_region_lit (aA (aB) (aA (aD) ?_))));simp only[zz];refine aC (hK5 _ _ ?_);refine wp_ret ?_;try simp only[Exit.inBlock,Exit.then]
    refine bU rfl rfl ?_;try simp only[zD,zE]
    exact ⟨_,rfl,hX,by rw [← Ik hk0 (by omega) hc1 ht]⟩
  ·
   obtain rfl : k = 0:=by omega
   refine wp_region_lit (aA (aB) (aA (bR rfl bN rfl) (aA (jZ rfl rfl (by omega)) ?_)));simp only[zz];refine aA (aB) ?_;simp only[zz];refine bM rfl ?_;simp only[zz];refine bM rfl ?_;simp only[zz];refine bM rfl ?_;simp only[zz];refine bM rfl ?_;simp only[zz];refine bM rfl ?_;simp only[zz];refine bM rfl ?_;simp only[zz];refine bM rfl ?_;simp only[zz];refine aA (cO rfl) ?_;simp only[zz];refine aC (hK4 _ _ ?_);refine eQ rfl (wp_exit ?_);refine hK2 _ _ (aF (fun K6 hK6=>wp_region_lit (aA (aB) (aA (aD) ?_))));simp only[zz];refine aC (hK6 _ _ ?_);refine wp_ret ?_;try simp only[Exit.inBlock,Exit.then]
   refine bU rfl rfl ?_;try simp only[zD,zE]
   exact ⟨_,rfl,hX,by rw [← Il ht]⟩
theorem uB {A B : Option Addr} {xs ys : List Nat} {b b2 na nb ca cb : Nat} (w : World) (hS : dC w b A na ca xs) (hR : dC w b2 B nb cb ys) (tx : gC xs) (ty : gC ys) : iL prog 117 [.slice A na ca,.slice B nb cb] w (fun v _=>v = .int .i64 (Gi (val 65536 xs) (val 65536 ys))):=by
 skip
 refine ⟨Zq,?_⟩;have hX:=dL.refl w;obtain rfl:=hS.eq;obtain rfl:=hR.eq;have hl:=hS.len;have hl2:=hR.len
 go_enter func117,ntmps117
 refine aF (fun K1 hK1=>wp_region_lit (aA (aD) ?_));simp only[zz];refine aC (hK1 _ _ ?_);refine aF (fun K2 hK2=>aF (fun K3 hK3=>wp_region_lit (aA (aB) (aA (bR rfl bN rfl) (aA (aB) ?_)))));simp only[zz];refine aA (bR rfl bN rfl) (aA (nB rfl rfl) ?_);simp only[zz];refine aC (hK3 _ _ ?_);refine cQ rfl (fun hc1=>?_) (fun hc1=>?_)
 ·
  refine aF (fun K4 hK4=>aF (fun K5 hK5=>wp_region_lit (aA (aB) (aA (bR rfl bN rfl) (aA (aB) ?_)))));simp only[zz];refine aA (bR rfl bN rfl) (aA (eA rfl rfl) ?_);simp only[zz];refine aC (hK5 _ _ ?_);refine cQ rfl (fun hc2=>?_) (fun hc2=>?_)
  ·
   refine aF (fun K6 hK6=>wp_region_lit (aA (aD) ?_));simp only[zz];refine aC (hK6 _ _ ?_);refine wp_ret ?_;try simp only[Exit.inBlock,Exit.then]
   refine bU rfl rfl ?_;try simp only[zD,zE]
   exact ⟨_,rfl,hX,by rw [Gi,if_pos (jV (by omega) hS.digs hR.digs ty (by omega))]⟩
  ·
   refine wp_skip ?_;refine hK4 _ _ (aF (fun K7 hK7=>wp_region_lit (aA (aD) ?_)));simp only[zz];refine aC (hK7 _ _ ?_);refine wp_ret ?_;try simp only[Exit.inBlock,Exit.then]
   refine bU rfl rfl ?_;try simp only[zD,zE]
   exact ⟨_,rfl,hX,by have:=jV (B:=65536) (by omega) hR.digs hS.digs tx (by omega); rw [Gi,if_neg (by omega),if_pos this]⟩
 ·
  refine wp_skip ?_;refine hK2 _ _ (aF (fun K8 hK8=>aF (fun K9 hK9=>wp_region_lit (aA (aB) (aA (bR rfl bN rfl) (aA (dU rfl rfl (aQ (by omega) (by omega))) ?_))))));simp only[zz];refine aA (aD) ?_;simp only[zz];refine aC (hK9 _ _ ?_);refine wp_block (dI [5] [4,19,20,21,22,23,24,25,26,27,28,29,30,31,32,33,34,35,36,37,38,39,40] (fun n vs wl=>∃ (k : Nat),vs = [.int .i64 ((k:Int) - 1)] ∧ (dL w wl) ∧ (k ≤ xs.length) ∧ (xs.drop k = ys.drop k) ∧ (n = k)) ?_ ?_)
  ·
   apply Exists.intro;simp only[zQ,zR,zD,zE];exact ⟨xs.length,rfl,hX,Nat.le_refl _,by rw [List.drop_length,show xs.length = ys.length by omega,List.drop_length],rfl⟩
  ·
   intro n vs wr hI u;obtain ⟨k,rfl,hX,hk,hd,hn⟩:=hI;simp only[zv,zF,zG];refine aF (fun K10 hK10=>aF (fun K11 hK11=>wp_region_lit (aA (aB) (aA (lC rfl rfl) ?_))));simp only[zz];refine aC (hK11 _ _ ?_);refine cQ rfl (fun hc3=>?_) (fun hc3=>?_)
   ·
    refine wp_skip ?_;refine hK10 _ _ (aF (fun K12 hK12=>wp_block (aF (fun K13 hK13=>?_))));obtain ⟨a,rfl,hca,_⟩:=(hS.ext hX).get (show k - 1 < xs.length by omega);obtain ⟨b,rfl,hcb,_⟩:=(hR.ext hX).get (show k - 1 < ys.length by omega);refine gR aN (by kernel_rfl) (aS (aB) (aS (aB) (aS (aU bN aM rfl rfl (by omega) (by omega) (fT (show _ = k - 1 by omega))) ?_)));simp only[zz];refine gL rfl (fun _ hE'=>(lies1 (hE'.cell hca) aZ)) ?_;simp only[zz];refine aS (aB) (aS (aB) (aS (aU bN aM rfl rfl (by omega) (by omega) (fT (show _ = k - 1 by omega))) ?_));simp only[zz];refine gL rfl (fun _ hE'=>(lies1 (hE'.cell hcb) aZ)) ?_;simp only[zz];refine aS (nB rfl rfl) ?_;simp only[zz];refine dW ?_;intro w1 hE;replace hX:=hX.trans hE;clear hE;refine hK13 _ _ (cQ rfl (fun hc4=>?_) (fun hc4=>?_))
    ·
     refine aF (fun K14 hK14=>aF (fun K15 hK15=>?_));have hca:=(hS.ext hX).at (show k - 1 < xs.length by omega);have hcb:=(hR.ext hX).at (show k - 1 < ys.length by omega);refine gR aN (by kernel_rfl) (aS (aB) (aS (aB) (aS (aU bN aM rfl rfl (by omega) (by omega) (fT (show _ = k - 1 by omega))) ?_)));simp only[zz];refine gL rfl (fun _ hE'=>(lies1 (hE'.cell hca) aZ)) ?_;simp only[zz];refine aS (aB) (aS (aB) (aS (aU bN aM rfl rfl (by omega) (by omega) (fT (show _ = k - 1 by omega))) ?_));simp only[zz];refine gL rfl (fun _ hE'=>(lies1 (hE'.cell hcb) aZ)) ?_;simp only[zz];refine aS (eA rfl rfl) ?_;simp only[zz];refine dW ?_;intro w2 hE;replace hX:=hX.trans hE;clear hE;refine hK15 _ _ (cQ rfl (fun hc5=>?_) (fun hc5=>?_))
     ·
      refine aF (fun K16 hK16=>wp_region_lit (aA (aD) ?_));simp only[zz];refine aC (hK16 _ _ ?_);refine wp_ret ?_;try simp only[Exit.inBlock,Exit.then]
      refine bU rfl rfl ?_;try simp only[zD,zE]
      exact ⟨_,rfl,hX,by rw [Gi,if_pos (Iz hS.digs (by omega) (by omega) (by omega) hd hc5)]⟩
     ·
      refine wp_skip ?_;refine hK14 _ _ (aF (fun K17 hK17=>wp_region_lit (aA (aD) ?_)));simp only[zz];refine aC (hK17 _ _ ?_);refine wp_ret ?_;try simp only[Exit.inBlock,Exit.then]
      refine bU rfl rfl ?_;try simp only[zD,zE]
      exact ⟨_,rfl,hX,by have:=Iz hR.digs (by omega) (by omega) (by omega) hd.symm (by omega); rw [Gi,if_neg (by omega),if_pos this]⟩
    ·
     refine wp_skip ?_;refine hK12 _ _ (wp_region_lit (aA (aB) (aA (dU rfl rfl (aQ (by omega) (by omega))) (aA (aD) ?_))));simp only[zz];refine aC ?_;rw [show ((k:Int) - 1 - 1) = ((k - 1 : Nat) : Int) - 1 by omega];simp only[Exit.inBlock,Exit.then];refine ⟨k - 1,_,?_,rfl,?_,?_⟩
     · omega
     · simp only[zz,zv]
     ·
      simp only[zQ,zR,zD,zE];exact ⟨k - 1,rfl,hX,by omega,Sf (by omega) (by omega) (by omega) hd (by omega),rfl⟩
   ·
    refine wp_exit ?_;refine hK8 _ _ (aF (fun K18 hK18=>wp_region_lit (aA (aD) ?_)));simp only[zz];refine aC (hK18 _ _ ?_);refine wp_ret ?_;try simp only[Exit.inBlock,Exit.then]
    refine bU rfl rfl ?_;try simp only[zD,zE]
    exact ⟨_,rfl,hX,by have h0 : k = 0:=(by omega); subst h0; simp only[List.drop_zero] at hd; rw [hd,Gi,if_neg (by omega),if_neg (by omega)]⟩
theorem aaO {A B : Option Addr} {xs ys : List Nat} {na nb ca cb : Nat} (w : World) (hS : dC w w.heap.size A na ca xs) (hR : dC w w.heap.size B nb cb ys) (hlx : xs.length ≤ 1000000000000) (hly : ys.length ≤ 1000000000000) : iL prog 116 [.slice A na ca,.slice B nb cb] w (aaN (val 65536 xs + val 65536 ys) (max xs.length ys.length + 1)):=by
 skip
 refine ⟨Zp,?_⟩;have hX:=dL.refl w;obtain rfl:=hS.eq;obtain rfl:=hR.eq;obtain ⟨M,hM⟩ : ∃ M,M = max xs.length ys.length:=⟨_,rfl⟩
 rw [← hM]
 go_enter func116,ntmps116
 refine aF (fun K1 hK1=>wp_region_lit (aA (aD) ?_));simp only[zz];refine aC (hK1 _ _ ?_);refine aF (fun K2 hK2=>wp_region_lit (aA (aD) ?_));simp only[zz];obtain ⟨b5,hb5e,hb5l⟩:=hX.base;have hS5:=sC.of hX hb5e;have hO5:=jT.nil_of hX b5 3 1;clear hb5e;refine aC (hK2 _ _ ?_);refine aF (fun K3 hK3=>wp_region_lit (aA (aD) ?_));simp only[zz];refine aC (hK3 _ _ ?_);refine aF (fun K4 hK4=>aF (fun K5 hK5=>wp_region_lit (aA (aD) ?_)));simp only[zz];refine aC (hK5 _ _ ?_);refine wp_block (dI [5,6,7] [8,9,10,11,12,13,14,15,16,17,18,19,20,21,22,23,24,25,26,27,28,29,30,31,32,33,34,35,36,37,38,39,40,41,42,43,44,45,46,47,48,49,50,51,52] (fun n vs wl=>∃ (i c : Nat) (os : List Nat) (v5 : Value),vs = [v5,.int .i64 (c:Int),.int .i64 (i:Int)] ∧ (dL w wl) ∧ (dC wl w.heap.size A xs.length ca xs) ∧ (dC wl w.heap.size B ys.length cb ys) ∧ (sC wl b5) ∧ (jT wl b5 3 1 v5 os.length (os.map pT)) ∧ (os.length = i) ∧ (val 65536 os + 65536 ^ i * c = val 65536 (xs.take i) + val 65536 (ys.take i)) ∧ (dD 65536 os) ∧ (c ≤ 1) ∧ (i ≤ M + 1) ∧ (i = M + 1 → c = 0) ∧ (n = M + 1 - i)) ?_ ?_)
 ·
  apply Exists.intro;simp only[zQ,zR,zD,zE];exact ⟨0,0,[],_,rfl,hX,hS,hR,hS5,hO5,rfl,by simp [val],kE _,by omega,by omega,fun _=>rfl,rfl⟩
 ·
  intro n vs wr hI u;obtain ⟨i,c,os,v5,rfl,hX,hS,hR,hS5,hO5,hlo,hv,hd,hc,hi,hic,hn⟩:=hI;simp only[zv,zF,zG];refine aF (fun K6 hK6=>aF (fun K7 hK7=>?_));rcases (show i < xs.length ∨ (¬ i < xs.length ∧ i < ys.length) ∨ (¬ i < xs.length ∧ ¬ i < ys.length ∧ 0 < c) ∨ (¬ i < xs.length ∧ ¬ i < ys.length ∧ c = 0) by omega) with hw | ⟨hw,hw2⟩ | ⟨hw,hw2,hw3⟩ | ⟨hw,hw2,rfl⟩
  ·
   refine wp_region_lit (aA (aB) (aA (aB) (aA (bR rfl bN rfl) ?_)));simp only[zz];refine aA (cK rfl rfl (by omega)) (aA (aB) ?_);simp only[zz];refine bG rfl ?_;simp only[zz];refine bG rfl ?_;simp only[zz];refine bG rfl ?_;simp only[zz];refine bG rfl ?_;simp only[zz];refine aA (cG rfl) (aA (aB) ?_);simp only[zz];refine bG rfl ?_;simp only[zz];refine bG rfl ?_;simp only[zz];refine aA (cG rfl) ?_;simp only[zz];refine aC (hK7 _ _ ?_);refine bX rfl (wp_skip ?_);refine hK6 _ _ (aF (fun K8 hK8=>wp_block (aF (fun K9 hK9=>wp_region_lit (aA (aB) (aA (aD) ?_))))));simp only[zz];refine aC (hK9 _ _ ?_);refine aF (fun K10 hK10=>aF (fun K11 hK11=>wp_region_lit (aA (aB) (aA (aB) (aA (bR rfl bN rfl) ?_)))));simp only[zz];refine aA (cK rfl rfl (by omega)) ?_;simp only[zz];refine aC (hK11 _ _ ?_);refine bX rfl ?_;obtain ⟨a,rfl,hca,hla⟩:=hS.get (show i < xs.length by omega);refine wp_region_lit (aA (aB) (aA (aB) (aA (aB) ?_)));simp only[zz];refine aA (aU bN aM rfl rfl (by omega) (by omega) (fT (Int.toNat_natCast _))) ?_;simp only[zz];refine aI rfl (lies1 hca aZ) ?_;simp only[zz];refine aA (bD rfl rfl (aQ (by omega) (by omega))) (aA (aD) ?_);simp only[zz];refine aC ?_;obtain ⟨s1,hs1⟩ : ∃ s1 : Nat,s1 = c + xs[i]:=⟨_,rfl⟩
   rw [show ((c:Int) + (xs[i]:Int)) = (s1:Int) by omega];have hs2 : s1 = c + xs[i]?.getD 0:=by rw [List.getElem?_eq_getElem (by omega)]; exact hs1
   have hs3 : s1 < 65537:=by omega
   refine hK10 _ _ ?_;refine aF (fun K12 hK12=>aF (fun K13 hK13=>wp_region_lit (aA (aB) (aA (aB) (aA (bR rfl bN rfl) ?_)))));simp only[zz];refine aA (eA rfl rfl) ?_;simp only[zz];refine aC (hK13 _ _ ?_);refine cQ rfl (fun hc3=>?_) (fun hc3=>?_)
   ·
    obtain ⟨a2,rfl,hcb,hlb⟩:=hR.get (show i < ys.length by omega);refine wp_region_lit (aA (aB) (aA (aB) (aA (aB) ?_)));simp only[zz];refine aA (aU bN aM rfl rfl (by omega) (by omega) (fT (Int.toNat_natCast _))) ?_;simp only[zz];refine aI rfl (lies1 hcb aZ) ?_;simp only[zz];refine aA (bD rfl rfl (aQ (by omega) (by omega))) (aA (aD) ?_);simp only[zz];refine aC ?_;obtain ⟨s,hs⟩ : ∃ s : Nat,s = s1 + ys[i]:=⟨_,rfl⟩
    rw [show ((s1:Int) + (ys[i]:Int)) = (s:Int) by omega];have hs4 : s = c + xs[i]?.getD 0 + ys[i]?.getD 0:=by rw [List.getElem?_eq_getElem (l:=ys) (by omega)]; simp only[Option.getD_some]; omega
    have hs5 : s < 131072:=by omega
    refine hK12 _ _ ?_;refine aF (fun K14 hK14=>wp_region_lit (aA (aB) (aA (aB) (aA (kD rfl rfl (by omega) (kZ (n:=65536))) ?_))));simp only[zz];refine cH bN (z:=.int .i64 0) (by kernel_rfl) rfl (by simp only[zz]; rfl) (by rfl) ?_;intro w1 g1 hE hg1 hB1;have hG1:=Nat.le_trans hX.size hg1
    (try replace hS:=hS.ext hE); (try replace hR:=hR.ext hE); (try replace hS5:=hS5.ext hE); (try replace hO5:=hO5.ext hE); replace hX:=hX.trans hE
    clear hE hg1;simp only[zz];refine gT rfl bN gV rfl (by decide) rfl hO5 rfl (news:=_) rfl hB1.row0 (by simp [Value.oneCell']) (by omega) (by omega) hS5.h ?_;clear hO5; intro v5 w2 hO5 hGr _
    (try replace hS:=hS.grew hGr (by first | trivial | omega)); (try replace hR:=hR.grew hGr (by first | trivial | omega)); (try replace hS5:=hS5.grew hGr (by first | trivial | omega)); replace hX:=hX.grown hGr hb5l
    clear hGr;replace hO5:=hO5.snoc;simp only[zz];refine aA (aD) ?_;simp only[zz];refine aC (hK14 _ _ ?_);refine wp_region_lit (aA (aB) (aA (oH rfl rfl (by omega) (mR (n:=65536) (by omega))) (aA (aD) ?_)));simp only[zz];refine aC (hK8 _ _ ?_);refine wp_region_lit (aA (aB) (aA (bD rfl rfl (aQ (by omega) (by omega))) (aA (aD) ?_)));simp only[zz];refine aC ?_;obtain ⟨r1,r2⟩:=sE hlo hv hd hs4;rw [show ((i:Int) + 1) = ((i + 1 : Nat) : Int) by omega];simp only[Exit.inBlock,Exit.then];refine ⟨M + 1 - (i + 1),_,?_,rfl,?_,?_⟩
    · omega
    · simp only[zz,zv]
    ·
     simp only[zQ,zR,zD,zE];exact ⟨i + 1,s / 65536,os ++ [s % 65536],v5,rfl,hX,hS,hR,hS5,hO5,by simp; omega,r1,r2,by omega,by omega,fun h=>by rw [List.getElem?_eq_none (l:=xs) (by omega),List.getElem?_eq_none (l:=ys) (by omega)] at hs4; simp at hs4; omega,rfl⟩
   ·
    obtain ⟨s,hs⟩ : ∃ s : Nat,s = s1:=⟨_,rfl⟩
    rw [← hs];have hs4 : s = c + xs[i]?.getD 0 + ys[i]?.getD 0:=by rw [List.getElem?_eq_none (l:=ys) (by omega)]; simp only[Option.getD_none]; omega
    have hs5 : s < 131072:=by omega
    refine wp_skip ?_;refine hK12 _ _ (aF (fun K15 hK15=>wp_region_lit (aA (aB) (aA (aB) (aA (kD rfl rfl (by omega) (kZ (n:=65536))) ?_)))));simp only[zz];refine cH bN (z:=.int .i64 0) (by kernel_rfl) rfl (by simp only[zz]; rfl) (by rfl) ?_;intro w1 g1 hE hg1 hB1;have hG1:=Nat.le_trans hX.size hg1
    (try replace hS:=hS.ext hE); (try replace hR:=hR.ext hE); (try replace hS5:=hS5.ext hE); (try replace hO5:=hO5.ext hE); replace hX:=hX.trans hE
    clear hE hg1;simp only[zz];refine gT rfl bN gV rfl (by decide) rfl hO5 rfl (news:=_) rfl hB1.row0 (by simp [Value.oneCell']) (by omega) (by omega) hS5.h ?_;clear hO5; intro v5 w2 hO5 hGr _
    (try replace hS:=hS.grew hGr (by first | trivial | omega)); (try replace hR:=hR.grew hGr (by first | trivial | omega)); (try replace hS5:=hS5.grew hGr (by first | trivial | omega)); replace hX:=hX.grown hGr hb5l
    clear hGr;replace hO5:=hO5.snoc;simp only[zz];refine aA (aD) ?_;simp only[zz];refine aC (hK15 _ _ ?_);refine wp_region_lit (aA (aB) (aA (oH rfl rfl (by omega) (mR (n:=65536) (by omega))) (aA (aD) ?_)));simp only[zz];refine aC (hK8 _ _ ?_);refine wp_region_lit (aA (aB) (aA (bD rfl rfl (aQ (by omega) (by omega))) (aA (aD) ?_)));simp only[zz];refine aC ?_;obtain ⟨r1,r2⟩:=sE hlo hv hd hs4;rw [show ((i:Int) + 1) = ((i + 1 : Nat) : Int) by omega];simp only[Exit.inBlock,Exit.then];refine ⟨M + 1 - (i + 1),_,?_,rfl,?_,?_⟩
    · omega
    · simp only[zz,zv]
    ·
     simp only[zQ,zR,zD,zE];exact ⟨i + 1,s / 65536,os ++ [s % 65536],v5,rfl,hX,hS,hR,hS5,hO5,by simp; omega,r1,r2,by omega,by omega,fun h=>by rw [List.getElem?_eq_none (l:=xs) (by omega),List.getElem?_eq_none (l:=ys) (by omega)] at hs4; simp at hs4; omega,rfl⟩
  ·
   refine wp_region_lit (aA (aB) (aA (aB) (aA (bR rfl bN rfl) ?_)));simp only[zz];refine aA (fA rfl rfl (by omega)) (aA (aB) ?_);simp only[zz];refine aP rfl (aA (aB) ?_);simp only[zz];refine aP rfl (aA (aB) ?_);simp only[zz];refine aP rfl (aA (bR rfl bN rfl) ?_);simp only[zz];refine aP rfl (aA (cK rfl rfl (by omega)) (aA (cO rfl) (aA (aB) ?_)));simp only[zz];refine bG rfl ?_;simp only[zz];refine bG rfl ?_;simp only[zz];refine aA (cG rfl) ?_;simp only[zz];refine aC (hK7 _ _ ?_);refine bX rfl (wp_skip ?_);refine hK6 _ _ (aF (fun K16 hK16=>wp_block (aF (fun K17 hK17=>wp_region_lit (aA (aB) (aA (aD) ?_))))));simp only[zz];refine aC ?_;obtain ⟨s1,hs1⟩ : ∃ s1 : Nat,s1 = c:=⟨_,rfl⟩
   rw [← hs1];have hs2 : s1 = c + xs[i]?.getD 0:=by rw [List.getElem?_eq_none (by omega)]; exact hs1
   have hs3 : s1 < 65537:=by omega
   refine hK17 _ _ ?_;refine aF (fun K18 hK18=>aF (fun K19 hK19=>wp_region_lit (aA (aB) (aA (aB) (aA (bR rfl bN rfl) ?_)))));simp only[zz];refine aA (fA rfl rfl (by omega)) ?_;simp only[zz];refine aC (hK19 _ _ ?_);refine eQ rfl (wp_skip ?_);refine hK18 _ _ (aF (fun K20 hK20=>aF (fun K21 hK21=>wp_region_lit (aA (aB) (aA (aB) (aA (bR rfl bN rfl) ?_))))));simp only[zz];refine aA (cK rfl rfl (by omega)) ?_;simp only[zz];refine aC (hK21 _ _ ?_);refine bX rfl ?_;obtain ⟨a2,rfl,hcb,hlb⟩:=hR.get (show i < ys.length by omega);refine wp_region_lit (aA (aB) (aA (aB) (aA (aB) ?_)));simp only[zz];refine aA (aU bN aM rfl rfl (by omega) (by omega) (fT (Int.toNat_natCast _))) ?_;simp only[zz];refine aI rfl (lies1 hcb aZ) ?_;simp only[zz];refine aA (bD rfl rfl (aQ (by omega) (by omega))) (aA (aD) ?_);simp only[zz];refine aC ?_;obtain ⟨s,hs⟩ : ∃ s : Nat,s = s1 + ys[i]:=⟨_,rfl⟩
   rw [show ((s1:Int) + (ys[i]:Int)) = (s:Int) by omega];have hs4 : s = c + xs[i]?.getD 0 + ys[i]?.getD 0:=by rw [List.getElem?_eq_getElem (l:=ys) (by omega)]; simp only[Option.getD_some]; omega
   have hs5 : s < 131072:=by omega
   refine hK20 _ _ ?_;refine aF (fun K22 hK22=>wp_region_lit (aA (aB) (aA (aB) (aA (kD rfl rfl (by omega) (kZ (n:=65536))) ?_))));simp only[zz];refine cH bN (z:=.int .i64 0) (by kernel_rfl) rfl (by simp only[zz]; rfl) (by rfl) ?_;intro w1 g1 hE hg1 hB1;have hG1:=Nat.le_trans hX.size hg1
   (try replace hS:=hS.ext hE); (try replace hR:=hR.ext hE); (try replace hS5:=hS5.ext hE); (try replace hO5:=hO5.ext hE); replace hX:=hX.trans hE
   clear hE hg1;simp only[zz];refine gT rfl bN gV rfl (by decide) rfl hO5 rfl (news:=_) rfl hB1.row0 (by simp [Value.oneCell']) (by omega) (by omega) hS5.h ?_;clear hO5; intro v5 w2 hO5 hGr _
   (try replace hS:=hS.grew hGr (by first | trivial | omega)); (try replace hR:=hR.grew hGr (by first | trivial | omega)); (try replace hS5:=hS5.grew hGr (by first | trivial | omega)); replace hX:=hX.grown hGr hb5l
   clear hGr;replace hO5:=hO5.snoc;simp only[zz];refine aA (aD) ?_;simp only[zz];refine aC (hK22 _ _ ?_);refine wp_region_lit (aA (aB) (aA (oH rfl rfl (by omega) (mR (n:=65536) (by omega))) (aA (aD) ?_)));simp only[zz];refine aC (hK16 _ _ ?_);refine wp_region_lit (aA (aB) (aA (bD rfl rfl (aQ (by omega) (by omega))) (aA (aD) ?_)));simp only[zz];refine aC ?_;obtain ⟨r1,r2⟩:=sE hlo hv hd hs4;rw [show ((i:Int) + 1) = ((i + 1 : Nat) : Int) by omega];simp only[Exit.inBlock,Exit.then];refine ⟨M + 1 - (i + 1),_,?_,rfl,?_,?_⟩
   · omega
   · simp only[zz,zv]
   ·
    simp only[zQ,zR,zD,zE];exact ⟨i + 1,s / 65536,os ++ [s % 65536],v5,rfl,hX,hS,hR,hS5,hO5,by simp; omega,r1,r2,by omega,by omega,fun h=>by rw [List.getElem?_eq_none (l:=xs) (by omega),List.getElem?_eq_none (l:=ys) (by omega)] at hs4; simp at hs4; omega,rfl⟩
  ·
   refine wp_region_lit (aA (aB) (aA (aB) (aA (bR rfl bN rfl) ?_)));simp only[zz];refine aA (fA rfl rfl (by omega)) (aA (aB) ?_);simp only[zz];refine aP rfl (aA (aB) ?_);simp only[zz];refine aP rfl (aA (aB) ?_);simp only[zz];refine aP rfl (aA (bR rfl bN rfl) ?_);simp only[zz];refine aP rfl (aA (fA rfl rfl (by omega)) (aA (cO rfl) (aA (aB) ?_)));simp only[zz];refine aP rfl (aA (aB) ?_);simp only[zz];refine aP rfl (aA (kT rfl rfl (by omega)) (aA (cO rfl) ?_));simp only[zz];refine aC (hK7 _ _ ?_);refine bX rfl (wp_skip ?_);refine hK6 _ _ (aF (fun K23 hK23=>wp_block (aF (fun K24 hK24=>wp_region_lit (aA (aB) (aA (aD) ?_))))));simp only[zz];refine aC ?_;obtain ⟨s1,hs1⟩ : ∃ s1 : Nat,s1 = c:=⟨_,rfl⟩
   rw [← hs1];have hs2 : s1 = c + xs[i]?.getD 0:=by rw [List.getElem?_eq_none (by omega)]; exact hs1
   have hs3 : s1 < 65537:=by omega
   refine hK24 _ _ ?_;refine aF (fun K25 hK25=>aF (fun K26 hK26=>wp_region_lit (aA (aB) (aA (aB) (aA (bR rfl bN rfl) ?_)))));simp only[zz];refine aA (fA rfl rfl (by omega)) ?_;simp only[zz];refine aC (hK26 _ _ ?_);refine eQ rfl (wp_skip ?_);refine hK25 _ _ (aF (fun K27 hK27=>aF (fun K28 hK28=>wp_region_lit (aA (aB) (aA (aB) (aA (bR rfl bN rfl) ?_))))));simp only[zz];refine aA (fA rfl rfl (by omega)) ?_;simp only[zz];refine aC (hK28 _ _ ?_);refine eQ rfl (wp_skip ?_);refine hK27 _ _ (aF (fun K29 hK29=>?_));obtain ⟨s,hs⟩ : ∃ s : Nat,s = s1:=⟨_,rfl⟩
   rw [← hs];have hs4 : s = c + xs[i]?.getD 0 + ys[i]?.getD 0:=by rw [List.getElem?_eq_none (l:=ys) (by omega)]; simp only[Option.getD_none]; omega
   have hs5 : s < 131072:=by omega
   refine wp_region_lit (aA (aB) (aA (aB) (aA (kD rfl rfl (by omega) (kZ (n:=65536))) ?_)));simp only[zz];refine cH bN (z:=.int .i64 0) (by kernel_rfl) rfl (by simp only[zz]; rfl) (by rfl) ?_;intro w1 g1 hE hg1 hB1;have hG1:=Nat.le_trans hX.size hg1
   (try replace hS:=hS.ext hE); (try replace hR:=hR.ext hE); (try replace hS5:=hS5.ext hE); (try replace hO5:=hO5.ext hE); replace hX:=hX.trans hE
   clear hE hg1;simp only[zz];refine gT rfl bN gV rfl (by decide) rfl hO5 rfl (news:=_) rfl hB1.row0 (by simp [Value.oneCell']) (by omega) (by omega) hS5.h ?_;clear hO5; intro v5 w2 hO5 hGr _
   (try replace hS:=hS.grew hGr (by first | trivial | omega)); (try replace hR:=hR.grew hGr (by first | trivial | omega)); (try replace hS5:=hS5.grew hGr (by first | trivial | omega)); replace hX:=hX.grown hGr hb5l
   clear hGr;replace hO5:=hO5.snoc;simp only[zz];refine aA (aD) ?_;simp only[zz];refine aC (hK29 _ _ ?_);refine wp_region_lit (aA (aB) (aA (oH rfl rfl (by omega) (mR (n:=65536) (by omega))) (aA (aD) ?_)));simp only[zz];refine aC (hK23 _ _ ?_);refine wp_region_lit (aA (aB) (aA (bD rfl rfl (aQ (by omega) (by omega))) (aA (aD) ?_)));simp only[zz];refine aC ?_;obtain ⟨r1,r2⟩:=sE hlo hv hd hs4;rw [show ((i:Int) + 1) = ((i + 1 : Nat) : Int) by omega];simp only[Exit.inBlock,Exit.then];refine ⟨M + 1 - (i + 1),_,?_,rfl,?_,?_⟩
   · omega
   · simp only[zz,zv]
   ·
    simp only[zQ,zR,zD,zE];exact ⟨i + 1,s / 65536,os ++ [s % 65536],v5,rfl,hX,hS,hR,hS5,hO5,by simp; omega,r1,r2,by omega,by omega,fun h=>by rw [List.getElem?_eq_none (l:=xs) (by omega),List.getElem?_eq_none (l:=ys) (by omega)] at hs4; simp at hs4; omega,rfl⟩
  ·
   refine wp_region_lit (aA (aB) (aA (aB) (aA (bR rfl bN rfl) ?_)));simp only[zz];refine aA (fA rfl rfl (by omega)) (aA (aB) ?_);simp only[zz];refine aP rfl (aA (aB) ?_);simp only[zz];refine aP rfl (aA (aB) ?_);simp only[zz];refine aP rfl (aA (bR rfl bN rfl) ?_);simp only[zz];refine aP rfl (aA (fA rfl rfl (by omega)) (aA (cO rfl) (aA (aB) ?_)));simp only[zz];refine aP rfl (aA (aB) ?_);simp only[zz];refine aP rfl (aA (jZ rfl rfl (by omega)) (aA (cO rfl) ?_));simp only[zz];refine aC (hK7 _ _ ?_);refine eQ rfl (wp_exit ?_);refine hK4 _ _ (aF (fun K30 hK30=>wp_region_lit (aA (aB) (aA (aD) ?_))));simp only[zz];refine aC (hK30 _ _ ?_);refine wp_ret ?_;try simp only[Exit.inBlock,Exit.then]
   refine bU rfl rfl ?_;try simp only[zD,zE]
   (obtain ⟨A5,c5,rfl,hD,_⟩:=dC.of_owns hO5 rfl hd (by omega)); exact ⟨_,rfl,hX,A5,c5,os,rfl,hD,by rw [List.take_of_length_le (by omega),List.take_of_length_le (by omega)] at hv; simpa using hv,by omega⟩
end Go.Proofs.YtimjandkmfcmiaaGreatDoor
namespace Go.Proofs.YtimjandkmfcmiaaGreatDoor
open Tryz
open Go.RowKit Go.Lith
set_option maxRecDepth 100000
attribute [local irreducible] wpList wpQuiet eS Code.wp
theorem Ac {A B : Option Addr} {xs ys : List Nat} {na nb ca cb : Nat} (w : World) (hS : dC w w.heap.size A na ca xs) (hR : dC w w.heap.size B nb cb ys) (hle : ys.length ≤ xs.length) (hge : val 65536 ys ≤ val 65536 xs) (hlx : xs.length ≤ 1000000000000) : iL prog 118 [.slice A na ca,.slice B nb cb] w (fun v w'=>mU (val 65536 xs - val 65536 ys) v w' ∧ pD w v):=by
 skip
 refine ⟨Zr,?_⟩;have hX:=dL.refl w;obtain rfl:=hS.eq;obtain rfl:=hR.eq
 go_enter func118,ntmps118
 refine aF (fun K1 hK1=>wp_region_lit (aA (aD) ?_));simp only[zz];refine aC (hK1 _ _ ?_);refine aF (fun K2 hK2=>wp_region_lit (aA (aD) ?_));simp only[zz];obtain ⟨b5,hb5e,hb5l⟩:=hX.base;have hS5:=sC.of hX hb5e;have hO5:=jT.nil_of hX b5 3 1;clear hb5e;refine aC (hK2 _ _ ?_);refine aF (fun K3 hK3=>wp_region_lit (aA (aD) ?_));simp only[zz];refine aC (hK3 _ _ ?_);refine aF (fun K4 hK4=>aF (fun K5 hK5=>wp_region_lit (aA (aD) ?_)));simp only[zz];refine aC (hK5 _ _ ?_);refine wp_block (dI [5,6,7] [8,9,10,11,12,13,14,15,16,17,18,19,20,21,22,23,24,25,26,27,28,29,30,31,32,33,34,35,36,37,38] (fun n vs wl=>∃ (i c : Nat) (os : List Nat) (v5 : Value),vs = [v5,.int .i64 (c:Int),.int .i64 (i:Int)] ∧ (dL w wl) ∧ (dC wl w.heap.size A xs.length ca xs) ∧ (dC wl w.heap.size B ys.length cb ys) ∧ (sC wl b5) ∧ (jT wl b5 3 1 v5 os.length (os.map pT)) ∧ (os.length = i) ∧ (val 65536 os + val 65536 (ys.take i) = val 65536 (xs.take i) + 65536 ^ i * c) ∧ (dD 65536 os) ∧ (c ≤ 1) ∧ (i ≤ xs.length) ∧ (n = xs.length - i)) ?_ ?_)
 ·
  apply Exists.intro;simp only[zQ,zR,zD,zE];exact ⟨0,0,[],_,rfl,hX,hS,hR,hS5,hO5,rfl,by simp [val],kE _,by omega,by omega,rfl⟩
 ·
  intro n vs wr hI u;obtain ⟨i,c,os,v5,rfl,hX,hS,hR,hS5,hO5,hlo,hv,hd,hc,hi,hn⟩:=hI;simp only[zv,zF,zG];refine aF (fun K6 hK6=>aF (fun K7 hK7=>wp_region_lit (aA (aB) (aA (aB) (aA (bR rfl bN rfl) ?_)))));simp only[zz];refine aA (eA rfl rfl) ?_;simp only[zz];refine aC (hK7 _ _ ?_);refine cQ rfl (fun hc1=>?_) (fun hc1=>?_)
  ·
   refine wp_skip ?_;refine hK6 _ _ (aF (fun K8 hK8=>wp_block (aF (fun K9 hK9=>?_))));obtain ⟨a,rfl,hca,hla⟩:=hS.get (show i < xs.length by omega);have hyd : ys[i]?.getD 0 < 65536:=by
    rcases Nat.lt_or_ge i ys.length with h | h
    · rw [List.getElem?_eq_getElem h]; exact hR.lt h
    · rw [List.getElem?_eq_none h]; decide
   refine wp_region_lit (aA (aB) (aA (aB) (aA (aU bN aM rfl rfl (by omega) (by omega) (fT (Int.toNat_natCast _))) ?_)));simp only[zz];refine aI rfl (lies1 hca aZ) ?_;simp only[zz];refine aA (aB) (aA (dU rfl rfl (aQ (by omega) (by omega))) (aA (aD) ?_));simp only[zz];refine aC (hK9 _ _ ?_);refine aF (fun K10 hK10=>aF (fun K11 hK11=>wp_region_lit (aA (aB) (aA (aB) (aA (bR rfl bN rfl) ?_)))));simp only[zz];refine aA (eA rfl rfl) ?_;simp only[zz];refine aC (hK11 _ _ ?_);refine cQ rfl (fun hc2=>?_) (fun hc2=>?_)
   ·
    obtain ⟨a2,rfl,hcb,hlb⟩:=hR.get (show i < ys.length by omega);refine wp_region_lit (aA (aB) (aA (aB) (aA (aB) ?_)));simp only[zz];refine aA (aU bN aM rfl rfl (by omega) (by omega) (fT (Int.toNat_natCast _))) ?_;simp only[zz];refine aI rfl (lies1 hcb aZ) ?_;simp only[zz];refine aA (dU rfl rfl (aQ (by omega) (by omega))) (aA (aD) ?_);simp only[zz];refine aC ?_;obtain ⟨e,he⟩ : ∃ e : Int,e = (xs[i] : Int) - (c : Int) - (ys[i] : Int):=⟨_,rfl⟩
    rw [← he];have he2 : e = (xs[i] : Int) - (c : Int) - ((ys[i]?.getD 0 : Nat) : Int):=by rw [List.getElem?_eq_getElem (by omega)]; exact he
    refine hK10 _ _ ?_;refine aF (fun K12 hK12=>wp_region_lit (aA (aD) ?_));simp only[zz];refine aC (hK12 _ _ ?_);refine aF (fun K13 hK13=>aF (fun K14 hK14=>wp_region_lit (aA (aB) (aA (eA rfl rfl) ?_))));simp only[zz];refine aC (hK14 _ _ ?_);refine cQ rfl (fun hc3=>?_) (fun hc3=>?_)
    ·
     obtain ⟨s,hs⟩ : ∃ s : Nat,(s : Int) = e + 65536:=⟨(e + 65536).toNat,by omega⟩
     have hs6 : s + ys[i]?.getD 0 + c = xs[i] + 65536 * 1:=by omega
     have hs7 : s < 65536:=by omega
     refine aF (fun K15 hK15=>wp_region_lit (aA (aB) (aA (qW (bD rfl rfl (aQ (by omega) (by omega))) (Qo hs.symm)) (aA (aD) ?_))));simp only[zz];refine aC (hK15 _ _ ?_);refine wp_region_lit (aA (aD) ?_);simp only[zz];refine aC (hK13 _ _ ?_);refine wp_region_lit (aA (aB) (aA (aB) ?_));simp only[zz];refine cH bN (z:=.int .i64 0) (by kernel_rfl) rfl (by simp only[zz]; rfl) (by rfl) ?_;intro w1 g1 hE hg1 hB1;have hG1:=Nat.le_trans hX.size hg1
     (try replace hS:=hS.ext hE); (try replace hR:=hR.ext hE); (try replace hS5:=hS5.ext hE); (try replace hO5:=hO5.ext hE); replace hX:=hX.trans hE
     clear hE hg1;simp only[zz];refine gT rfl bN gV rfl (by decide) rfl hO5 rfl (news:=_) rfl hB1.row0 (by simp [Value.oneCell']) (by omega) (by omega) hS5.h ?_;clear hO5; intro v5 w2 hO5 hGr _
     (try replace hS:=hS.grew hGr (by first | trivial | omega)); (try replace hR:=hR.grew hGr (by first | trivial | omega)); (try replace hS5:=hS5.grew hGr (by first | trivial | omega)); replace hX:=hX.grown hGr hb5l
     clear hGr;replace hO5:=hO5.snoc;simp only[zz];refine aA (aD) ?_;simp only[zz];refine aC (hK8 _ _ ?_);refine wp_region_lit (aA (aB) (aA (bD rfl rfl (aQ (by omega) (by omega))) (aA (aD) ?_)));simp only[zz];refine aC ?_;obtain ⟨r1,r2⟩:=pY (by omega) hlo hv hd hs6 hs7;rw [show ((i:Int) + 1) = ((i + 1 : Nat) : Int) by omega];simp only[Exit.inBlock,Exit.then];refine ⟨xs.length - (i + 1),_,?_,rfl,?_,?_⟩
     · omega
     · simp only[zz,zv]
     ·
      simp only[zQ,zR,zD,zE];exact ⟨i + 1,1,os ++ [s],v5,rfl,hX,hS,hR,hS5,hO5,by simp; omega,r1,r2,by omega,by omega,rfl⟩
    ·
     obtain ⟨s,hs⟩ : ∃ s : Nat,(s : Int) = e:=⟨e.toNat,by omega⟩
     rw [← hs];have hs6 : s + ys[i]?.getD 0 + c = xs[i] + 65536 * 0:=by omega
     have hs7 : s < 65536:=by omega
     refine wp_skip ?_;refine hK13 _ _ (wp_region_lit (aA (aB) (aA (aB) ?_)));simp only[zz];refine cH bN (z:=.int .i64 0) (by kernel_rfl) rfl (by simp only[zz]; rfl) (by rfl) ?_;intro w1 g1 hE hg1 hB1;have hG1:=Nat.le_trans hX.size hg1
     (try replace hS:=hS.ext hE); (try replace hR:=hR.ext hE); (try replace hS5:=hS5.ext hE); (try replace hO5:=hO5.ext hE); replace hX:=hX.trans hE
     clear hE hg1;simp only[zz];refine gT rfl bN gV rfl (by decide) rfl hO5 rfl (news:=_) rfl hB1.row0 (by simp [Value.oneCell']) (by omega) (by omega) hS5.h ?_;clear hO5; intro v5 w2 hO5 hGr _
     (try replace hS:=hS.grew hGr (by first | trivial | omega)); (try replace hR:=hR.grew hGr (by first | trivial | omega)); (try replace hS5:=hS5.grew hGr (by first | trivial | omega)); replace hX:=hX.grown hGr hb5l
     clear hGr;replace hO5:=hO5.snoc;simp only[zz];refine aA (aD) ?_;simp only[zz];refine aC (hK8 _ _ ?_);refine wp_region_lit (aA (aB) (aA (bD rfl rfl (aQ (by omega) (by omega))) (aA (aD) ?_)));simp only[zz];refine aC ?_;obtain ⟨r1,r2⟩:=pY (by omega) hlo hv hd hs6 hs7;rw [show ((i:Int) + 1) = ((i + 1 : Nat) : Int) by omega];simp only[Exit.inBlock,Exit.then];refine ⟨xs.length - (i + 1),_,?_,rfl,?_,?_⟩
     · omega
     · simp only[zz,zv]
     ·
      simp only[zQ,zR,zD,zE];exact ⟨i + 1,0,os ++ [s],v5,rfl,hX,hS,hR,hS5,hO5,by simp; omega,r1,r2,by omega,by omega,rfl⟩
   ·
    obtain ⟨e,he⟩ : ∃ e : Int,e = (xs[i] : Int) - (c : Int):=⟨_,rfl⟩
    rw [← he];have he2 : e = (xs[i] : Int) - (c : Int) - ((ys[i]?.getD 0 : Nat) : Int):=by rw [List.getElem?_eq_none (by omega)]; simp only[Option.getD_none]; omega
    refine wp_skip ?_;refine hK10 _ _ (aF (fun K16 hK16=>wp_region_lit (aA (aD) ?_)));simp only[zz];refine aC (hK16 _ _ ?_);refine aF (fun K17 hK17=>aF (fun K18 hK18=>wp_region_lit (aA (aB) (aA (eA rfl rfl) ?_))));simp only[zz];refine aC (hK18 _ _ ?_);refine cQ rfl (fun hc3=>?_) (fun hc3=>?_)
    ·
     obtain ⟨s,hs⟩ : ∃ s : Nat,(s : Int) = e + 65536:=⟨(e + 65536).toNat,by omega⟩
     have hs6 : s + ys[i]?.getD 0 + c = xs[i] + 65536 * 1:=by omega
     have hs7 : s < 65536:=by omega
     refine aF (fun K19 hK19=>wp_region_lit (aA (aB) (aA (qW (bD rfl rfl (aQ (by omega) (by omega))) (Qo hs.symm)) (aA (aD) ?_))));simp only[zz];refine aC (hK19 _ _ ?_);refine wp_region_lit (aA (aD) ?_);simp only[zz];refine aC (hK17 _ _ ?_);refine wp_region_lit (aA (aB) (aA (aB) ?_));simp only[zz];refine cH bN (z:=.int .i64 0) (by kernel_rfl) rfl (by simp only[zz]; rfl) (by rfl) ?_;intro w1 g1 hE hg1 hB1;have hG1:=Nat.le_trans hX.size hg1
     (try replace hS:=hS.ext hE); (try replace hR:=hR.ext hE); (try replace hS5:=hS5.ext hE); (try replace hO5:=hO5.ext hE); replace hX:=hX.trans hE
     clear hE hg1;simp only[zz];refine gT rfl bN gV rfl (by decide) rfl hO5 rfl (news:=_) rfl hB1.row0 (by simp [Value.oneCell']) (by omega) (by omega) hS5.h ?_;clear hO5; intro v5 w2 hO5 hGr _
     (try replace hS:=hS.grew hGr (by first | trivial | omega)); (try replace hR:=hR.grew hGr (by first | trivial | omega)); (try replace hS5:=hS5.grew hGr (by first | trivial | omega)); replace hX:=hX.grown hGr hb5l
     clear hGr;replace hO5:=hO5.snoc;simp only[zz];refine aA (aD) ?_;simp only[zz];refine aC (hK8 _ _ ?_);refine wp_region_lit (aA (aB) (aA (bD rfl rfl (aQ (by omega) (by omega))) (aA (aD) ?_)));simp only[zz];refine aC ?_;obtain ⟨r1,r2⟩:=pY (by omega) hlo hv hd hs6 hs7;rw [show ((i:Int) + 1) = ((i + 1 : Nat) : Int) by omega];simp only[Exit.inBlock,Exit.then];refine ⟨xs.length - (i + 1),_,?_,rfl,?_,?_⟩
     · omega
     · simp only[zz,zv]
     ·
      simp only[zQ,zR,zD,zE];exact ⟨i + 1,1,os ++ [s],v5,rfl,hX,hS,hR,hS5,hO5,by simp; omega,r1,r2,by omega,by omega,rfl⟩
    ·
     obtain ⟨s,hs⟩ : ∃ s : Nat,(s : Int) = e:=⟨e.toNat,by omega⟩
     rw [← hs];have hs6 : s + ys[i]?.getD 0 + c = xs[i] + 65536 * 0:=by omega
     have hs7 : s < 65536:=by omega
     refine wp_skip ?_;refine hK17 _ _ (wp_region_lit (aA (aB) (aA (aB) ?_)));simp only[zz];refine cH bN (z:=.int .i64 0) (by kernel_rfl) rfl (by simp only[zz]; rfl) (by rfl) ?_;intro w1 g1 hE hg1 hB1;have hG1:=Nat.le_trans hX.size hg1
     (try replace hS:=hS.ext hE); (try replace hR:=hR.ext hE); (try replace hS5:=hS5.ext hE); (try replace hO5:=hO5.ext hE); replace hX:=hX.trans hE
     clear hE hg1;simp only[zz];refine gT rfl bN gV rfl (by decide) rfl hO5 rfl (news:=_) rfl hB1.row0 (by simp [Value.oneCell']) (by omega) (by omega) hS5.h ?_;clear hO5; intro v5 w2 hO5 hGr _
     (try replace hS:=hS.grew hGr (by first | trivial | omega)); (try replace hR:=hR.grew hGr (by first | trivial | omega)); (try replace hS5:=hS5.grew hGr (by first | trivial | omega)); replace hX:=hX.grown hGr hb5l
     clear hGr;replace hO5:=hO5.snoc;simp only[zz];refine aA (aD) ?_;simp only[zz];refine aC (hK8 _ _ ?_);refine wp_region_lit (aA (aB) (aA (bD rfl rfl (aQ (by omega) (by omega))) (aA (aD) ?_)));simp only[zz];refine aC ?_;obtain ⟨r1,r2⟩:=pY (by omega) hlo hv hd hs6 hs7;rw [show ((i:Int) + 1) = ((i + 1 : Nat) : Int) by omega];simp only[Exit.inBlock,Exit.then];refine ⟨xs.length - (i + 1),_,?_,rfl,?_,?_⟩
     · omega
     · simp only[zz,zv]
     ·
      simp only[zQ,zR,zD,zE];exact ⟨i + 1,0,os ++ [s],v5,rfl,hX,hS,hR,hS5,hO5,by simp; omega,r1,r2,by omega,by omega,rfl⟩
  ·
   refine wp_exit ?_;refine hK4 _ _ (aF (fun K20 hK20=>?_));obtain rfl : i = xs.length:=by omega
   obtain ⟨A5,c5,rfl,hD,hbn⟩:=dC.of_owns hO5 rfl hd (by omega);refine wp_region_lit (aA (aB) ?_);simp only[zz];refine bS rfl rfl (xN _ hD) ?_;rintro v w1 hE rfl
   (try replace hD:=hD.ext hE); replace hX:=hX.trans hE
   clear hE;simp only[zz];refine aA (aD) ?_;simp only[zz];refine aC (hK20 _ _ ?_);refine wp_ret ?_;try simp only[Exit.inBlock,Exit.then]
   refine bU rfl rfl ?_;try simp only[zD,zE]
   exact ⟨_,rfl,hX,mU.of_trim hD (Ov hle hlo hd hv hge),fun a n c e=>by cases e; exact Nat.le_trans hb5l (hbn _ rfl)⟩
theorem Mw {A B : Option Addr} {xs ys : List Nat} {na nb ca cb : Nat} (w : World) (hS : dC w w.heap.size A na ca xs) (hR : dC w w.heap.size B nb cb ys) (hlx : xs.length ≤ 1000000000000) (hly : ys.length ≤ 1000000000000) : iL prog 88 [.slice A na ca,.slice B nb cb] w (fun v w'=>mU (val 65536 xs * val 65536 ys) v w' ∧ pD w v):=by
 skip
 refine ⟨acF,?_⟩;have hX:=dL.refl w;obtain rfl:=hS.eq;obtain rfl:=hR.eq
 go_enter func88,ntmps88
 refine aF (fun K1 hK1=>wp_region_lit (aA (aD) ?_));simp only[zz];refine aC (hK1 _ _ ?_);refine aF (fun K2 hK2=>wp_region_lit (aA (aB) (aA (bR rfl bN rfl) (aA (aB) ?_))));simp only[zz];refine aA (bR rfl bN rfl) (aA (bD rfl rfl (aQ (by omega) (by omega))) ?_);simp only[zz];refine lP bN gV rfl rfl rfl (show _ = xs.length + ys.length by omega) (show _ = xs.length + ys.length by omega) (by omega) (by omega) (by omega) (by omega) ?_;intro w1 g1 hE hg1 hB1;have hG1:=Nat.le_trans hX.size hg1
 (try replace hS:=hS.ext hE); (try replace hR:=hR.ext hE); replace hX:=hX.trans hE
 clear hE hg1;simp only[zz];refine aA (aD) ?_;simp only[zz];refine aC ?_;rw [uQ] at hB1;refine hK2 _ _ (aF (fun K3 hK3=>aF (fun K4 hK4=>wp_region_lit (aA (aD) ?_))));simp only[zz];refine aC (hK4 _ _ ?_);refine wp_block (dI [6] [7,8,9,16,17,18,19,20,21,22,23,24,25,26,27,28,29,30,31,32,33,34,35,36,37,38,39,40,41,42,43,44,45,46,47,48,49,50,51,52,53,54,55,56,57,58,59,60,61] (fun n vs wl=>∃ (i : Nat) (os : List Nat),vs = [.int .i64 (i:Int)] ∧ (dL w wl) ∧ (dC wl w.heap.size A xs.length ca xs) ∧ (dC wl w.heap.size B ys.length cb ys) ∧ (fW wl g1 (os.map pT) 3) ∧ (i ≤ xs.length) ∧ (os.length = xs.length + ys.length) ∧ (val 65536 os = val 65536 (xs.take i) * val 65536 ys) ∧ (os.drop (i + ys.length) = List.replicate (xs.length - i) 0) ∧ (dD 65536 os) ∧ (n = xs.length - i)) ?_ ?_)
 ·
  apply Exists.intro;simp only[zQ,zR,zD,zE];exact ⟨0,List.replicate (xs.length + ys.length) 0,rfl,hX,hS,hR,hB1,by omega,by simp,by rw [gH,List.take_zero]; simp only[val,Nat.zero_mul],by rw [List.drop_replicate]; congr 1; omega,fun x hx=>by rw [List.eq_of_mem_replicate hx]; decide,rfl⟩
 ·
  intro n vs wr hI u;obtain ⟨i,os,rfl,hX,hS,hR,hB1,hi,hlo,hv,hz,hd,hn⟩:=hI;simp only[zv,zF,zG];refine aF (fun K5 hK5=>aF (fun K6 hK6=>wp_region_lit (aA (aB) (aA (aB) (aA (bR rfl bN rfl) ?_)))));simp only[zz];refine aA (eA rfl rfl) ?_;simp only[zz];refine aC (hK6 _ _ ?_);refine cQ rfl (fun hc1=>?_) (fun hc1=>?_)
  ·
   refine wp_skip ?_;refine hK5 _ _ (aF (fun K7 hK7=>wp_block (aF (fun K8 hK8=>wp_region_lit (aA (aD) ?_)))));simp only[zz];refine aC (hK8 _ _ ?_);refine aF (fun K9 hK9=>aF (fun K10 hK10=>wp_region_lit (aA (aD) ?_)));simp only[zz];refine aC (hK10 _ _ ?_);refine wp_block (dI [7,8] [9,22,23,24,25,26,27,28,29,30,31,32,33,34,35,36,37,38,39,40,41,42,43,44,45,46,47,48,49,50,51,52,53,54] (fun n vs wl=>∃ (k c : Nat) (os : List Nat),vs = [.int .i64 (c:Int),.int .i64 (k:Int)] ∧ (dL w wl) ∧ (dC wl w.heap.size A xs.length ca xs) ∧ (dC wl w.heap.size B ys.length cb ys) ∧ (fW wl g1 (os.map pT) 3) ∧ (k ≤ ys.length) ∧ (os.length = xs.length + ys.length) ∧ (val 65536 os + 65536 ^ (i + k) * c = val 65536 (xs.take i) * val 65536 ys + 65536 ^ i * (xs[i] * val 65536 (ys.take k))) ∧ (os.drop (i + ys.length) = List.replicate (xs.length - i) 0) ∧ (dD 65536 os) ∧ (c < 65536) ∧ (n = ys.length - k)) ?_ ?_)
   ·
    apply Exists.intro;simp only[zQ,zR,zD,zE];exact ⟨0,0,os,rfl,hX,hS,hR,hB1,by omega,hlo,by rw [List.take_zero,hv]; simp only[val,Nat.mul_zero],hz,hd,by omega,rfl⟩
   ·
    intro n vs wr hI u;obtain ⟨k,c,os,rfl,hX,hS,hR,hB1,hk,hlo,hv2,hz,hd,hc,hn2⟩:=hI;simp only[zv,zF,zG];refine aF (fun K11 hK11=>aF (fun K12 hK12=>wp_region_lit (aA (aB) (aA (aB) (aA (bR rfl bN rfl) ?_)))));simp only[zz];refine aA (eA rfl rfl) ?_;simp only[zz];refine aC (hK12 _ _ ?_);refine cQ rfl (fun hc2=>?_) (fun hc2=>?_)
    ·
     refine wp_skip ?_;refine hK11 _ _ (aF (fun K13 hK13=>wp_block (aF (fun K14 hK14=>?_))));obtain ⟨a,rfl,hca,hla⟩:=hS.get (show i < xs.length by omega);obtain ⟨a2,rfl,hcb,hlb⟩:=hR.get (show k < ys.length by omega);have hco:=hB1.digit (show i + k < os.length by omega);have hlo2:=hd.get (List.getElem?_eq_getElem (show i + k < os.length by omega));obtain ⟨hm0,hm1⟩:=Oy hla hlb;refine gR aN (by kernel_rfl) (aS (aB) (aS (aB) (aS (aB) ?_)));simp only[zz];refine aS (bD rfl rfl (aQ (by omega) (by omega))) (aS (aU bN aM rfl rfl (by omega) (by omega) (fK (show _ = i + k by omega))) ?_);simp only[zz];refine gL rfl (fun _ hE'=>(lies1 (hE'.cell hco) aZ)) ?_;simp only[zz];refine aS (aB) (aS (aB) (aS (aU bN aM rfl rfl (by omega) (by omega) (fT (Int.toNat_natCast _))) ?_));simp only[zz];refine gL rfl (fun _ hE'=>(lies1 (hE'.cell hca) aZ)) ?_;simp only[zz];refine aS (aB) (aS (aB) (aS (aU bN aM rfl rfl (by omega) (by omega) (fT (Int.toNat_natCast _))) ?_));simp only[zz];refine gL rfl (fun _ hE'=>(lies1 (hE'.cell hcb) aZ)) ?_;simp only[zz];refine aS (lB rfl rfl (aQ (by omega) (by omega))) (aS (bD rfl rfl (aQ (by omega) (by omega))) (aS (aB) ?_));simp only[zz];refine aS (bD rfl rfl (aQ (by omega) (by omega))) (aS (aD) ?_);simp only[zz];refine dW ?_;intro w2 hE;replace hB1:=hB1.ext hE; (try replace hS:=hS.ext hE); (try replace hR:=hR.ext hE); replace hX:=hX.trans hE;clear hE;obtain ⟨s,hs⟩ : ∃ s,s = os[i + k] + xs[i] * ys[k] + c:=⟨_,rfl⟩
     have hsI : (↑os[i + k] + ↑xs[i] * ↑ys[k] + ↑c : Int) = (s : Int):=by rw [hs]; simp
     rw [hsI];have hs64 : s < 4294967296:=by have:=Iy hla hlb; omega
     refine hK14 _ _ ?_;refine aF (fun K15 hK15=>wp_region_lit (aA (aB) (aA (aB) (aA (aB) ?_))));simp only[zz];refine aA (bD rfl rfl (aQ (by omega) (by omega))) (aA (aB) (aA (kD rfl rfl (by omega) (kZ (n:=65536))) ?_));simp only[zz];refine aA (aU bN aM rfl rfl (by omega) (by omega) (fK (show _ = i + k by omega))) ?_;simp only[zz];refine cC rfl (by simp only[zz]; rfl) (by exact aM) hB1 (by simp; omega) (by simp [Value.oneCell']) ?_;clear hB1; intro w3 hC hB1
     (try replace hS:=hS.chg hC (by first | assumption | rfl)); (try replace hR:=hR.chg hC (by first | assumption | rfl)); replace hX:=hX.chg hC hG1
     clear hC;rw [oL (by omega)] at hB1;refine aC (hK15 _ _ ?_);refine wp_region_lit (aA (aB) (aA (oH rfl rfl (by omega) (mR (n:=65536) (by omega))) (aA (aD) ?_)));simp only[zz];refine aC (hK13 _ _ ?_);refine wp_region_lit (aA (aB) (aA (bD rfl rfl (aQ (by omega) (by omega))) (aA (aD) ?_)));simp only[zz];refine aC ?_;have r1:=Ix (by omega) (by omega) hlo hv2 hs;rw [show ((k:Int) + 1) = ((k + 1 : Nat) : Int) by omega];simp only[Exit.inBlock,Exit.then];refine ⟨ys.length - (k + 1),_,?_,rfl,?_,?_⟩
     · omega
     · simp only[zz,zv]
     ·
      simp only[zQ,zR,zD,zE];exact ⟨k + 1,s / 65536,os.set (i + k) (s % 65536),rfl,hX,hS,hR,hB1,by omega,by simpa using hlo,r1,by rw [mD (by omega)]; exact hz,hd.set (by omega),by omega,rfl⟩
    ·
     refine wp_exit ?_;refine hK9 _ _ ?_;obtain rfl : k = ys.length:=by omega
     refine wp_region_lit (aA (aB) (aA (aB) (aA (aB) ?_)));simp only[zz];refine aA (bR rfl bN rfl) (aA (bD rfl rfl (aQ (by omega) (by omega))) (aA (aB) ?_));simp only[zz];refine aA (aU bN aM rfl rfl (by omega) (by omega) (fK (show _ = i + ys.length by omega))) ?_;simp only[zz];refine cC rfl (by simp only[zz]; rfl) (by exact aM) hB1 (by simp; omega) (by simp [Value.oneCell']) ?_;clear hB1; intro w2 hC hB1
     (try replace hS:=hS.chg hC (by first | assumption | rfl)); (try replace hR:=hR.chg hC (by first | assumption | rfl)); replace hX:=hX.chg hC hG1
     clear hC;rw [oL (by omega)] at hB1;refine aC (hK7 _ _ ?_);refine wp_region_lit (aA (aB) (aA (bD rfl rfl (aQ (by omega) (by omega))) (aA (aD) ?_)));simp only[zz];refine aC ?_;obtain ⟨r1,r2⟩:=Ox (by omega) hlo hv2 hz;rw [show ((i:Int) + 1) = ((i + 1 : Nat) : Int) by omega];simp only[Exit.inBlock,Exit.then];refine ⟨xs.length - (i + 1),_,?_,rfl,?_,?_⟩
     · omega
     · simp only[zz,zv]
     ·
      simp only[zQ,zR,zD,zE];exact ⟨i + 1,os.set (i + ys.length) c,rfl,hX,hS,hR,hB1,by omega,by simpa using hlo,r1,r2,hd.set (by omega),rfl⟩
  ·
   refine wp_exit ?_;refine hK3 _ _ (aF (fun K16 hK16=>?_));obtain rfl : i = xs.length:=by omega
   refine wp_region_lit (aA (aB) ?_);simp only[zz];rw [← hlo];refine bS rfl rfl (xN _ (dC.of_blk hB1 hd rfl (by omega))) ?_;rintro v w2 hE rfl;replace hB1:=hB1.ext hE; replace hX:=hX.trans hE;clear hE;simp only[zz];refine aA (aD) ?_;simp only[zz];refine aC (hK16 _ _ ?_);refine wp_ret ?_;try simp only[Exit.inBlock,Exit.then]
   refine bU rfl rfl ?_;try simp only[zD,zE]
   exact ⟨_,rfl,hX,mU.of_trim (dC.of_blk hB1 hd rfl (by omega)) (by rw [hv,List.take_length]),fun a n c e=>by cases e; exact hG1⟩
theorem Vo {A : Option Addr} {xs : List Nat} {na ca d : Nat} (w : World) (hS : dC w w.heap.size A na ca xs) (hlx : xs.length ≤ 1000000000000) (hd : d < 65536) : iL prog 157 [.slice A na ca,.int .i64 (d : Int)] w (fun v w'=>mU (val 65536 xs * d) v w' ∧ pD w v):=by
 skip
 refine ⟨aap,?_⟩;have hX:=dL.refl w;obtain rfl:=hS.eq
 go_enter func157,ntmps157
 refine aF (fun K1 hK1=>wp_region_lit (aA (aD) ?_));simp only[zz];refine aC (hK1 _ _ ?_);refine aF (fun K2 hK2=>wp_region_lit (aA (aB) (aA (aB) ?_)));simp only[zz];refine cH bN (z:=.int .i64 0) (by kernel_rfl) rfl (by simp only[zz]; rfl) (by rfl) ?_;intro w1 g1 hE hg1 hB1;have hG1:=Nat.le_trans hX.size hg1;replace hX:=hX.trans hE;clear hE hg1;simp only[zz];have hsz:=hX.size;refine bS rfl rfl (Mw _ (hS.ext hX).here (dC.of_blk (os:=[d]) hB1 (nF hd (kE _)) rfl (by simp)) hlx (by simp)) ?_;rintro v w2 hE ⟨hD,hnw⟩;replace hX:=hX.trans hE;clear hE;simp only[zz];refine aA (aD) ?_;simp only[zz];refine aC (hK2 _ _ ?_);refine wp_ret ?_;try simp only[Exit.inBlock,Exit.then]
 refine bU rfl rfl ?_;try simp only[zD,zE]
 exact ⟨_,rfl,hX,by simpa [val] using hD,fun a n c e=>Nat.le_trans hsz (hnw a n c e)⟩
end Go.Proofs.YtimjandkmfcmiaaGreatDoor
namespace Go.Proofs.YtimjandkmfcmiaaGreatDoor
open Tryz
open Go.RowKit Go.Lith
set_option maxRecDepth 100000
attribute [local irreducible] wpList wpQuiet eS Code.wp
theorem Sg {A B : Option Addr} {xs ys : List Nat} {na nb ca cb : Nat} (w : World) (hS : dC w w.heap.size A na ca xs) (hR : dC w w.heap.size B nb cb ys) (ty : gC ys) (h0 : 0 < val 65536 ys) (hlx : xs.length ≤ 1000000000000) (hly : ys.length ≤ 100000000000) : iL prog 142 [.slice A na ca,.slice B nb cb] w (fun v w'=>∃ q r,v = .tuple #[q,r] ∧ mU (val 65536 xs / val 65536 ys) q w' ∧ mU (val 65536 xs % val 65536 ys) r w'):=by
 skip
 refine ⟨aai,?_⟩;have hX:=dL.refl w;obtain rfl:=hS.eq;obtain rfl:=hR.eq;obtain ⟨Y,hY⟩ : ∃ Y,Y = val 65536 ys:=⟨_,rfl⟩
 rw [← hY] at h0 ⊢;have hYl : ∀ V : Nat,V < Y → (digs 65536 V).length ≤ ys.length:=fun V h=>eO (by omega) (Nat.lt_trans h (by rw [hY]; exact jC hR.digs));have hYb : ∀ V : Nat,V < 65536 * Y → (digs 65536 V).length ≤ ys.length + 1:=fun V h=>eO (by omega) (Nat.lt_of_lt_of_le h (by rw [hY,Nat.pow_succ,Nat.mul_comm]; exact Nat.mul_le_mul_right _ (Nat.le_of_lt (jC hR.digs))))
 go_enter func142,ntmps142
 refine aF (fun K1 hK1=>wp_region_lit (aA (aD) (aA (aD) ?_)));simp only[zz];refine aC (hK1 _ _ ?_);refine aF (fun K2 hK2=>wp_region_lit (aA (aB) (aA (bR rfl bN rfl) ?_)));simp only[zz];refine lP bN gV rfl rfl rfl (show _ = xs.length by omega) (show _ = xs.length by omega) (by omega) (by omega) (by omega) (by omega) ?_;intro w1 g1 hE hg1 hB1;have hG1:=Nat.le_trans hX.size hg1
 (try replace hS:=hS.ext hE); (try replace hR:=hR.ext hE); replace hX:=hX.trans hE
 clear hE;simp only[zz];refine aA (aD) ?_;simp only[zz];refine aC ?_;rw [uQ] at hB1;refine hK2 _ _ (aF (fun K3 hK3=>wp_region_lit (aA (aD) ?_)));simp only[zz];refine aC (hK3 _ _ ?_);refine aF (fun K4 hK4=>aF (fun K5 hK5=>wp_region_lit (aA (aB) (aA (bR rfl bN rfl) (aA (dU rfl rfl (aQ (by omega) (by omega))) ?_)))));simp only[zz];refine aA (aD) ?_;simp only[zz];refine aC (hK5 _ _ ?_);refine wp_block (dI [7,8] [9,10,11,18,19,20,21,22,23,24,25,26,27,28,29,30,31,32,33,34,35,36,37,38,39,40,41,42,43,44,45,46,47,48,49,50,51,52,53,54,55,56,57,58] (fun n vs wl=>∃ (k R : Nat) (qs : List Nat) (A7 : Option Addr) (c7 : Nat),vs = [.slice A7 (digs 65536 R).length c7,.int .i64 ((k:Int) - 1)] ∧ (dL w wl) ∧ (dC wl w.heap.size A xs.length ca xs) ∧ (dC wl w.heap.size B ys.length cb ys) ∧ (fW wl g1 (qs.map pT) 3) ∧ (wF wl g1 A7 (digs 65536 R).length c7 (digs 65536 R)) ∧ (k ≤ xs.length) ∧ (qs.length = xs.length) ∧ (val 65536 (xs.drop k) = Y * val 65536 (qs.drop k) + R) ∧ (R < Y) ∧ (dD 65536 qs) ∧ (n = k)) ?_ ?_)
 ·
  apply Exists.intro;simp only[zQ,zR,zD,zE];exact ⟨xs.length,0,List.replicate xs.length 0,none,0,rfl,hX,hS,hR,hB1,⟨dC.nil _ _,fun _ e=>by cases e⟩,Nat.le_refl _,by simp,by rw [List.drop_length,List.drop_of_length_le (by simp)]; rfl,h0,fun x hx=>by rw [List.eq_of_mem_replicate hx]; decide,rfl⟩
 ·
  intro n vs wr hI u;obtain ⟨k,R,qs,A7,c7,rfl,hX,hS,hR,hB1,hN7,hk,hlq,hv,hRY,hd,hn⟩:=hI;simp only[zv,zF,zG];refine aF (fun K6 hK6=>aF (fun K7 hK7=>wp_region_lit (aA (aB) (aA (lC rfl rfl) ?_))));simp only[zz];refine aC (hK7 _ _ ?_);refine cQ rfl (fun hc1=>?_) (fun hc1=>?_)
  ·
   refine wp_skip ?_;refine hK6 _ _ (aF (fun K8 hK8=>wp_block (aF (fun K9 hK9=>?_))));obtain ⟨a,rfl,hca,hla⟩:=hS.get (show k - 1 < xs.length by omega);have hlR:=hYl R hRY;refine wp_region_lit (aA (aB) (aA (aB) (aA (aU bN aM rfl rfl (by omega) (by omega) (fT (show _ = k - 1 by omega))) ?_)));simp only[zz];refine aI rfl (lies1 hca aZ) ?_;simp only[zz];refine cH bN (z:=.int .i64 0) (by kernel_rfl) rfl (by simp only[zz]; rfl) (by rfl) ?_;intro w2 g2 hE hg2 hB2;have hG2:=Nat.le_trans hX.size hg2; have hN2_1 : g2 ≠ g1:=Nat.ne_of_gt (Nat.lt_of_lt_of_le hB1.lt hg2); have hL2_1:=Nat.lt_of_lt_of_le hB1.lt hg2;replace hB1:=hB1.ext hE; (try replace hS:=hS.ext hE); (try replace hR:=hR.ext hE); (try replace hN7:=hN7.ext hE); (try replace hN7:=hN7.ext hE); replace hX:=hX.trans hE;clear hE;simp only[zz];refine aA (aB) ?_;simp only[zz];have hO6:=jT.full (base:=g2) (n:=1) hB2 (Nat.le_refl _) rfl (by omega);refine Ou rfl bN gV rfl (by decide) rfl hO6 rfl (news:=(digs 65536 R).map pT) (by simp) hN7.dig.rows (fun u hu=>by obtain ⟨x,_,rfl⟩:=List.mem_map.1 hu; rfl) (by omega) (by omega) (Nat.le_of_lt hB2.lt) ?_;intro v6 w9 hO hGr _;replace hB1:=hB1.grew hGr hL2_1;replace hX:=hX.grown hGr hG2;replace hS:=hS.grew hGr hG2;replace hR:=hR.grew hGr hG2;clear hB2 hO6;obtain ⟨A6,c6,rfl,hD6,hn6⟩:=dC.of_owns (xs:=xs[k - 1] :: digs 65536 R) (by simpa [Nat.add_comm] using hO) (by simp; omega) (nF hla (pX _)) (by omega);simp only[zz];refine bS rfl rfl (xN _ hD6) ?_;rintro v w3 hE rfl;replace hB1:=hB1.ext hE; (try replace hS:=hS.ext hE); (try replace hR:=hR.ext hE); (try replace hN7:=hN7.ext hE); (try replace hN7:=hN7.ext hE); (try replace hD6:=hD6.ext hE); replace hX:=hX.trans hE;clear hE;simp only[zz];refine aA (aD) ?_;simp only[zz];refine aC (hK9 _ _ ?_);refine aF (fun K10 hK10=>?_);obtain ⟨R1,hR1⟩ : ∃ R1,R1 = xs[k - 1] + 65536 * R:=⟨_,rfl⟩
   have ht6 : trim (xs[k - 1] :: digs 65536 R) = digs 65536 R1:=kA (by omega) hD6.digs (by simp only[val]; rw [cU]; exact hR1.symm);rw [ht6];have hN7:=wF.of_trim (g:=g1) hD6 ht6 (fun a e=>by have:=hn6 a e; omega);clear hD6;have hR1Y : R1 < 65536 * Y:=by have:=Nat.mul_le_mul_left 65536 (show R + 1 ≤ Y from hRY); omega
   have hlR1:=hYb R1 hR1Y;refine wp_region_lit (aA (aD) ?_);simp only[zz];refine aC (hK10 _ _ ?_);refine aF (fun K11 hK11=>wp_region_lit (aA (aD) ?_));simp only[zz];refine aC (hK11 _ _ ?_);refine aF (fun K12 hK12=>aF (fun K13 hK13=>wp_region_lit (aA (aB) (aA (aB) ?_))));simp only[zz];refine bS rfl rfl (uB _ hN7.dig hR (gW _) ty) ?_;rintro v w4 hE rfl;replace hB1:=hB1.ext hE; (try replace hS:=hS.ext hE); (try replace hR:=hR.ext hE); (try replace hN7:=hN7.ext hE); (try replace hN7:=hN7.ext hE); (try replace hN7:=hN7.ext hE); replace hX:=hX.trans hE;clear hE;rw [cU,← hY];simp only[zz];refine aA (eA rfl rfl) ?_;simp only[zz];refine aC (hK13 _ _ ?_);refine cQ rfl (fun hc2=>?_) (fun hc2=>?_)
   ·
    have hlt2:=pG.1 hc2;refine wp_region_lit (aA (aD) ?_);simp only[zz];refine aC (hK12 _ _ ?_);refine aF (fun K14 hK14=>wp_block ?_);refine dI [9,10] [11,34,35,36,37,38,39,40,41,42,43,44,45,46,47,48,49] (fun n vs wl=>∃ (low high : Nat),vs = [.int .i64 (low:Int),.int .i64 (high:Int)] ∧ (dL w wl) ∧ (dC wl w.heap.size (some a) xs.length ca xs) ∧ (dC wl w.heap.size B ys.length cb ys) ∧ (fW wl g1 (qs.map pT) 3) ∧ (wF wl g1 A6 (digs 65536 R1).length c6 (digs 65536 R1)) ∧ (low * Y ≤ R1) ∧ (R1 < high * Y) ∧ (low < high) ∧ (high ≤ 65536) ∧ (n = high - low)) ?_ ?_
    ·
     apply Exists.intro;simp only[zQ,zR,zD,zE];exact ⟨0,1,rfl,hX,hS,hR,hB1,hN7,by simp,by rw [Nat.one_mul]; exact hlt2,by omega,by omega,rfl⟩
    ·
     intro n vs wr hI u;obtain ⟨low,high,rfl,hX,hS,hR,hB1,hN7,hlow,hhigh,hl1,hl2,hn2⟩:=hI;simp only[zv,zF,zG];refine aF (fun K15 hK15=>aF (fun K16 hK16=>wp_region_lit (aA (aB) (aA (aB) (aA (dU rfl rfl (aQ (by omega) (by omega))) ?_)))));simp only[zz];refine aA (gS rfl rfl) ?_;simp only[zz];refine aC (hK16 _ _ ?_);refine cQ rfl (fun hc3=>?_) (fun hc3=>?_)
     ·
      have hm1 : low < (low + high) / 2:=by omega
      have hm2 : (low + high) / 2 < high:=by omega
      refine wp_skip ?_;refine hK15 _ _ (wp_block (aF (fun K17 hK17=>wp_region_lit (aA (aB) (aA (aB) (aA (bD rfl rfl (aQ (by omega) (by omega))) ?_))))));simp only[zz];rw [show ((low : Int) + (high : Int)) = ((low + high : Nat) : Int) by omega];refine aA (oH rfl rfl (by omega) (mR (m:=low + high) (n:=2) (by omega))) (aA (aD) ?_);simp only[zz];refine aC (hK17 _ _ ?_);refine aF (fun K18 hK18=>wp_region_lit (aA (aB) (aA (aB) ?_)));simp only[zz];refine bS rfl rfl (Vo _ hR.here (Nat.le_trans hly (by decide)) (by omega)) ?_;rintro v w5 hE ⟨⟨A8,c8,rfl,hD8⟩,_⟩;replace hB1:=hB1.ext hE; (try replace hS:=hS.ext hE); (try replace hR:=hR.ext hE); (try replace hN7:=hN7.ext hE); (try replace hN7:=hN7.ext hE); (try replace hN7:=hN7.ext hE); replace hX:=hX.trans hE;clear hE;rw [← hY] at hD8 ⊢;simp only[zz];refine aA (aB) ?_;simp only[zz];refine bS rfl rfl (uB _ hD8 hN7.dig (gW _) (gW _)) ?_;rintro v w6 hE rfl;replace hB1:=hB1.ext hE; (try replace hS:=hS.ext hE); (try replace hR:=hR.ext hE); (try replace hN7:=hN7.ext hE); (try replace hN7:=hN7.ext hE); (try replace hN7:=hN7.ext hE); replace hX:=hX.trans hE;clear hE;rw [cU,cU];simp only[zz];refine aA (yF rfl rfl) ?_;simp only[zz];refine aC (hK18 _ _ ?_);refine cQ rfl (fun hc4=>?_) (fun hc4=>?_)
      ·
       have hle4 : Y * ((low + high) / 2) ≤ R1:=sD.1 hc4;refine wp_region_lit (aA (aB) (aA (aD) ?_));simp only[zz];refine aC ?_;simp only[Exit.inBlock,Exit.then];refine ⟨high - (low + high) / 2,_,?_,rfl,?_,?_⟩
       · omega
       · simp only[zz,zv]
       ·
        simp only[zQ,zR,zD,zE];exact ⟨(low + high) / 2,high,rfl,hX,hS,hR,hB1,hN7,by rw [Nat.mul_comm]; exact hle4,hhigh,hm2,hl2,rfl⟩
      ·
       have hle4 : R1 < Y * ((low + high) / 2):=Nat.lt_of_not_le fun h=>hc4 (sD.2 h);refine wp_region_lit (aA (aB) (aA (aD) ?_));simp only[zz];refine aC ?_;simp only[Exit.inBlock,Exit.then];refine ⟨(low + high) / 2 - low,_,?_,rfl,?_,?_⟩
       · omega
       · simp only[zz,zv]
       ·
        simp only[zQ,zR,zD,zE];exact ⟨low,(low + high) / 2,rfl,hX,hS,hR,hB1,hN7,hlow,by rw [Nat.mul_comm]; exact hle4,hm1,by omega,rfl⟩
     ·
      refine wp_exit ?_;refine hK14 _ _ (aF (fun K19 hK19=>wp_region_lit (aA (aB) (aA (aB) (aA (aB) ?_)))));simp only[zz];refine aA (aU bN aM rfl rfl (by omega) (by omega) (fK (show _ = k - 1 by omega))) ?_;simp only[zz];refine cC rfl (by simp only[zz]; rfl) (by exact aM) hB1 (by simp; omega) (by simp [Value.oneCell']) ?_;clear hB1; intro w5 hC hB1
      (try replace hS:=hS.chg hC (by first | assumption | rfl)); (try replace hR:=hR.chg hC (by first | assumption | rfl)); (try replace hN7:=hN7.chg hC (by first | assumption | rfl)); (try replace hN7:=hN7.chg hC (by first | assumption | rfl)); (try replace hN7:=hN7.chg hC (by first | assumption | rfl)); replace hX:=hX.chg hC hG1
      clear hC;rw [oL (by omega)] at hB1;refine aC (hK19 _ _ ?_);refine wp_region_lit (aA (aB) (aA (aB) (aA (aB) ?_)));simp only[zz];have hlt1:=hB1.lt;refine bS rfl rfl (Vo _ hR.here (Nat.le_trans hly (by decide)) (by omega)) ?_;rintro v w6 hE ⟨⟨A8,c8,rfl,hD8⟩,_⟩;replace hB1:=hB1.ext hE; (try replace hS:=hS.ext hE); (try replace hR:=hR.ext hE); (try replace hN7:=hN7.ext hE); (try replace hN7:=hN7.ext hE); (try replace hN7:=hN7.ext hE); replace hX:=hX.trans hE;clear hE;rw [← hY] at hD8 ⊢;simp only[zz];have hlt2:=hB1.lt;have hlb2:=rI (show Y * low ≤ R1 by rw [Nat.mul_comm]; exact hlow);refine bS rfl rfl (Ac _ hN7.dig hD8 hlb2 (by rw [cU,cU,Nat.mul_comm]; exact hlow) (by omega)) ?_;rintro v w7 hE ⟨⟨A9,c9,rfl,hD9⟩,hn9⟩;replace hB1:=hB1.ext hE; (try replace hS:=hS.ext hE); (try replace hR:=hR.ext hE); replace hX:=hX.trans hE;clear hE;rw [cU,cU] at hD9 ⊢;have hN9:=wF.mk (g:=g1) hD9 (fun a e=>by subst e; have:=hn9 a _ _ rfl; have:=hB1.lt; omega);simp only[zz];refine aA (aD) ?_;simp only[zz];refine aC (hK8 _ _ ?_);refine wp_region_lit (aA (aB) (aA (dU rfl rfl (aQ (by omega) (by omega))) (aA (aD) ?_)));simp only[zz];refine aC ?_;obtain ⟨r1,r2⟩:=Bn (by omega) hk hlq hv hR1 hlow hd (by omega);rw [show ((k:Int) - 1 - 1) = ((k - 1 : Nat) : Int) - 1 by omega];simp only[Exit.inBlock,Exit.then];refine ⟨k - 1,_,?_,rfl,?_,?_⟩
      · omega
      · simp only[zz,zv]
      ·
       simp only[zQ,zR,zD,zE];exact ⟨k - 1,R1 - Y * low,qs.set (k - 1) low,A9,c9,rfl,hX,hS,hR,hB1,hN9,by omega,by simpa using hlq,r1,El h0 hhigh hc3,r2,rfl⟩
   ·
    refine wp_skip ?_;refine hK12 _ _ (aF (fun K20 hK20=>wp_block ?_));refine dI [9,10] [11,34,35,36,37,38,39,40,41,42,43,44,45,46,47,48,49] (fun n vs wl=>∃ (low high : Nat),vs = [.int .i64 (low:Int),.int .i64 (high:Int)] ∧ (dL w wl) ∧ (dC wl w.heap.size (some a) xs.length ca xs) ∧ (dC wl w.heap.size B ys.length cb ys) ∧ (fW wl g1 (qs.map pT) 3) ∧ (wF wl g1 A6 (digs 65536 R1).length c6 (digs 65536 R1)) ∧ (low * Y ≤ R1) ∧ (R1 < high * Y) ∧ (low < high) ∧ (high ≤ 65536) ∧ (n = high - low)) ?_ ?_
    ·
     apply Exists.intro;simp only[zQ,zR,zD,zE];exact ⟨0,65536,rfl,hX,hS,hR,hB1,hN7,by simp,hR1Y,by omega,by omega,rfl⟩
    ·
     intro n vs wr hI u;obtain ⟨low,high,rfl,hX,hS,hR,hB1,hN7,hlow,hhigh,hl1,hl2,hn2⟩:=hI;simp only[zv,zF,zG];refine aF (fun K21 hK21=>aF (fun K22 hK22=>wp_region_lit (aA (aB) (aA (aB) (aA (dU rfl rfl (aQ (by omega) (by omega))) ?_)))));simp only[zz];refine aA (gS rfl rfl) ?_;simp only[zz];refine aC (hK22 _ _ ?_);refine cQ rfl (fun hc3=>?_) (fun hc3=>?_)
     ·
      have hm1 : low < (low + high) / 2:=by omega
      have hm2 : (low + high) / 2 < high:=by omega
      refine wp_skip ?_;refine hK21 _ _ (wp_block (aF (fun K23 hK23=>wp_region_lit (aA (aB) (aA (aB) (aA (bD rfl rfl (aQ (by omega) (by omega))) ?_))))));simp only[zz];rw [show ((low : Int) + (high : Int)) = ((low + high : Nat) : Int) by omega];refine aA (oH rfl rfl (by omega) (mR (m:=low + high) (n:=2) (by omega))) (aA (aD) ?_);simp only[zz];refine aC (hK23 _ _ ?_);refine aF (fun K24 hK24=>wp_region_lit (aA (aB) (aA (aB) ?_)));simp only[zz];refine bS rfl rfl (Vo _ hR.here (Nat.le_trans hly (by decide)) (by omega)) ?_;rintro v w5 hE ⟨⟨A8,c8,rfl,hD8⟩,_⟩;replace hB1:=hB1.ext hE; (try replace hS:=hS.ext hE); (try replace hR:=hR.ext hE); (try replace hN7:=hN7.ext hE); (try replace hN7:=hN7.ext hE); (try replace hN7:=hN7.ext hE); replace hX:=hX.trans hE;clear hE;rw [← hY] at hD8 ⊢;simp only[zz];refine aA (aB) ?_;simp only[zz];refine bS rfl rfl (uB _ hD8 hN7.dig (gW _) (gW _)) ?_;rintro v w6 hE rfl;replace hB1:=hB1.ext hE; (try replace hS:=hS.ext hE); (try replace hR:=hR.ext hE); (try replace hN7:=hN7.ext hE); (try replace hN7:=hN7.ext hE); (try replace hN7:=hN7.ext hE); replace hX:=hX.trans hE;clear hE;rw [cU,cU];simp only[zz];refine aA (yF rfl rfl) ?_;simp only[zz];refine aC (hK24 _ _ ?_);refine cQ rfl (fun hc4=>?_) (fun hc4=>?_)
      ·
       have hle4 : Y * ((low + high) / 2) ≤ R1:=sD.1 hc4;refine wp_region_lit (aA (aB) (aA (aD) ?_));simp only[zz];refine aC ?_;simp only[Exit.inBlock,Exit.then];refine ⟨high - (low + high) / 2,_,?_,rfl,?_,?_⟩
       · omega
       · simp only[zz,zv]
       ·
        simp only[zQ,zR,zD,zE];exact ⟨(low + high) / 2,high,rfl,hX,hS,hR,hB1,hN7,by rw [Nat.mul_comm]; exact hle4,hhigh,hm2,hl2,rfl⟩
      ·
       have hle4 : R1 < Y * ((low + high) / 2):=Nat.lt_of_not_le fun h=>hc4 (sD.2 h);refine wp_region_lit (aA (aB) (aA (aD) ?_));simp only[zz];refine aC ?_;simp only[Exit.inBlock,Exit.then];refine ⟨(low + high) / 2 - low,_,?_,rfl,?_,?_⟩
       · omega
       · simp only[zz,zv]
       ·
        simp only[zQ,zR,zD,zE];exact ⟨low,(low + high) / 2,rfl,hX,hS,hR,hB1,hN7,hlow,by rw [Nat.mul_comm]; exact hle4,hm1,by omega,rfl⟩
     ·
      refine wp_exit ?_;refine hK20 _ _ (aF (fun K25 hK25=>wp_region_lit (aA (aB) (aA (aB) (aA (aB) ?_)))));simp only[zz];refine aA (aU bN aM rfl rfl (by omega) (by omega) (fK (show _ = k - 1 by omega))) ?_;simp only[zz];refine cC rfl (by simp only[zz]; rfl) (by exact aM) hB1 (by simp; omega) (by simp [Value.oneCell']) ?_;clear hB1; intro w5 hC hB1
      (try replace hS:=hS.chg hC (by first | assumption | rfl)); (try replace hR:=hR.chg hC (by first | assumption | rfl)); (try replace hN7:=hN7.chg hC (by first | assumption | rfl)); (try replace hN7:=hN7.chg hC (by first | assumption | rfl)); (try replace hN7:=hN7.chg hC (by first | assumption | rfl)); replace hX:=hX.chg hC hG1
      clear hC;rw [oL (by omega)] at hB1;refine aC (hK25 _ _ ?_);refine wp_region_lit (aA (aB) (aA (aB) (aA (aB) ?_)));simp only[zz];have hlt1:=hB1.lt;refine bS rfl rfl (Vo _ hR.here (Nat.le_trans hly (by decide)) (by omega)) ?_;rintro v w6 hE ⟨⟨A8,c8,rfl,hD8⟩,_⟩;replace hB1:=hB1.ext hE; (try replace hS:=hS.ext hE); (try replace hR:=hR.ext hE); (try replace hN7:=hN7.ext hE); (try replace hN7:=hN7.ext hE); (try replace hN7:=hN7.ext hE); replace hX:=hX.trans hE;clear hE;rw [← hY] at hD8 ⊢;simp only[zz];have hlt2:=hB1.lt;have hlb2:=rI (show Y * low ≤ R1 by rw [Nat.mul_comm]; exact hlow);refine bS rfl rfl (Ac _ hN7.dig hD8 hlb2 (by rw [cU,cU,Nat.mul_comm]; exact hlow) (by omega)) ?_;rintro v w7 hE ⟨⟨A9,c9,rfl,hD9⟩,hn9⟩;replace hB1:=hB1.ext hE; (try replace hS:=hS.ext hE); (try replace hR:=hR.ext hE); replace hX:=hX.trans hE;clear hE;rw [cU,cU] at hD9 ⊢;have hN9:=wF.mk (g:=g1) hD9 (fun a e=>by subst e; have:=hn9 a _ _ rfl; have:=hB1.lt; omega);simp only[zz];refine aA (aD) ?_;simp only[zz];refine aC (hK8 _ _ ?_);refine wp_region_lit (aA (aB) (aA (dU rfl rfl (aQ (by omega) (by omega))) (aA (aD) ?_)));simp only[zz];refine aC ?_;obtain ⟨r1,r2⟩:=Bn (by omega) hk hlq hv hR1 hlow hd (by omega);rw [show ((k:Int) - 1 - 1) = ((k - 1 : Nat) : Int) - 1 by omega];simp only[Exit.inBlock,Exit.then];refine ⟨k - 1,_,?_,rfl,?_,?_⟩
      · omega
      · simp only[zz,zv]
      ·
       simp only[zQ,zR,zD,zE];exact ⟨k - 1,R1 - Y * low,qs.set (k - 1) low,A9,c9,rfl,hX,hS,hR,hB1,hN9,by omega,by simpa using hlq,r1,El h0 hhigh hc3,r2,rfl⟩
  ·
   refine wp_exit ?_;refine hK4 _ _ (aF (fun K26 hK26=>wp_region_lit (aA (aB) ?_)));simp only[zz];refine bS rfl rfl (xN _ (dC.of_blk hB1 hd hlq.symm (by omega))) ?_;rintro v w2 hE rfl;replace hB1:=hB1.ext hE; (try replace hN7:=hN7.ext hE); replace hX:=hX.trans hE;clear hE;simp only[zz];refine aA (aB) (aA (aD) (aA (aD) ?_));simp only[zz];refine aC (hK26 _ _ ?_);refine wp_ret ?_;try simp only[Exit.inBlock,Exit.then]
   refine jL rfl rfl rfl ?_;try simp only[zD,zE]
   (obtain rfl : k = 0:=by omega); (rw [List.drop_zero,List.drop_zero] at hv); (have hq:=vA h0 hRY hv); exact ⟨_,rfl,hX,_,_,rfl,by rw [← hq.1]; exact mU.of_trim (dC.of_blk hB1 hd hlq.symm (by omega)) rfl,by rw [← hq.2]; exact ⟨A7,c7,rfl,hN7.dig⟩⟩
end Go.Proofs.YtimjandkmfcmiaaGreatDoor
namespace Go.Lith
open Go.RowKit
theorem aaP (k : Nat) : (65536 : Nat) ^ k = 256 ^ (2 * k):=by rw [show (65536 : Nat) = 256 ^ 2 from rfl,← Nat.pow_mul]
theorem wG {os bs : List Nat} {k d : Nat} (hl : os.length = k) (hv : val 65536 os = val 256 (bs.take (2 * k))) (h : 2 * k < bs.length) (hd : d = bs[2 * k] + 256 * (bs[2 * k + 1]?.getD 0)) (hb : dD 256 bs) (ho : dD 65536 os) :
 val 65536 (os ++ [d]) = val 256 (bs.take (2 * (k + 1))) ∧ dD 65536 (os ++ [d]):=by
 have h1:=hb _ (List.getElem_mem h);have h2 : bs[2 * k + 1]?.getD 0 < 256:=by
  rcases Nat.lt_or_ge (2 * k + 1) bs.length with h | h
  · rw [List.getElem?_eq_getElem h]; exact hb _ (List.getElem_mem h)
  · rw [List.getElem?_eq_none h]; decide
 refine ⟨?_,ho.append (nF (by omega) (kE _))⟩;have ht : val 256 (bs.take (2 * k + 1 + 1)) = val 256 (bs.take (2 * k + 1)) + 256 ^ (2 * k + 1) * bs[2 * k + 1]?.getD 0:=by
  rcases Nat.lt_or_ge (2 * k + 1) bs.length with h | h
  · rw [cY h,List.getElem?_eq_getElem h]; rfl
  · rw [List.take_of_length_le (by omega),List.take_of_length_le h,List.getElem?_eq_none h]; simp
 rw [show 2 * (k + 1) = 2 * k + 1 + 1 by omega,ht,cY h,fI,hl,hv,aaP,Nat.pow_succ];simp only[val,Nat.mul_zero,Nat.add_zero];subst hd;generalize 256 ^ (2 * k) = p
 grind
def Mx (x : Nat) : List UInt8:=[UInt8.ofNat (x / 256),UInt8.ofNat x]
theorem Bo (ys : List Nat) (h : dD 65536 ys) : val 256 (((ys.reverse.flatMap Mx).reverse).map UInt8.toNat) = val 65536 ys ∧ dD 256 (((ys.reverse.flatMap Mx).reverse).map UInt8.toNat):=by
 induction ys with
 | nil=>exact ⟨rfl,fun _ h=>by cases h⟩
 | cons y ys ih =>
  have hy:=h y (by simp);obtain ⟨i1,i2⟩:=ih (fun x hx=>h x (by simp [hx]));have e : (((y :: ys).reverse.flatMap Mx).reverse).map UInt8.toNat = [y % 256,y / 256 % 256] ++ (((ys.reverse.flatMap Mx).reverse).map UInt8.toNat):=by
   simp [List.flatMap_append,Mx,UInt8.toNat_ofNat']
  rw [e];refine ⟨?_,?_⟩
  · rw [fI,i1]
    simp only[val,List.length_cons,List.length_nil];omega
  · refine dD.append ?_ i2
    intro x hx;simp at hx;omega
theorem Ja {ys : List Nat} (h : dD 65536 ys) (neg : Bool) : lD (iN (ys.reverse.flatMap Mx)) = cX (Bg neg (val 65536 ys)):=by
 obtain ⟨h1,h2⟩:=Bo ys h;rw [yK,kA (by omega) h2 h1,cX,vD,sA];rfl
def lJ (ys : List Nat) (k : Nat) : List UInt8:=iN ((ys.drop k).reverse.flatMap Mx)
theorem Gs {l m : List UInt8} (h : iN l ≠ []) : iN (l ++ m) = iN l ++ m:=by
 induction l with
 | nil=>exact absurd rfl h
 | cons b l ih =>
  by_cases hb : b = 0
  · subst hb
    have e : iN (0 :: l) = iN l:=by simp [iN]
    have e2 : iN ((0 :: l) ++ m) = iN (l ++ m):=by simp [iN]
    rw [e] at h;rw [e,e2,ih h]
  · simp [iN,hb]
theorem Lf {ys : List Nat} {k : Nat} (hk : 0 < k) (hl : k - 1 < ys.length) (h : lJ ys k ≠ []) : lJ ys (k - 1) = lJ ys k ++ [UInt8.ofNat (ys[k - 1] / 256)] ++ [UInt8.ofNat (ys[k - 1] % 256)] ∧ lJ ys (k - 1) ≠ []:=by
 have e : lJ ys (k - 1) = lJ ys k ++ [UInt8.ofNat (ys[k - 1] / 256)] ++ [UInt8.ofNat (ys[k - 1] % 256)]:=by
  unfold lJ at *
  rw [List.drop_eq_getElem_cons hl,show k - 1 + 1 = k by omega,List.reverse_cons,List.flatMap_append,Gs h];have : UInt8.ofNat (ys[k - 1] % 256) = UInt8.ofNat (ys[k - 1]):=by
   apply UInt8.toNat_inj.1;simp [UInt8.toNat_ofNat']
  rw [this];simp [Mx]
 exact ⟨e,by rw [e]; simp⟩
theorem Jb {ys : List Nat} (hl : ys.length - 1 < ys.length) (h0 : 0 < ys[ys.length - 1]) (h16 : ys[ys.length - 1] < 65536) :
 lJ ys (ys.length - 1) = (if 256 ≤ ys[ys.length - 1] then [UInt8.ofNat (ys[ys.length - 1] / 256)] else []) ++ [UInt8.ofNat (ys[ys.length - 1] % 256)] ∧ lJ ys (ys.length - 1) ≠ []:=by
 have e : lJ ys (ys.length - 1) = iN (Mx (ys[ys.length - 1])):=by
  unfold lJ;rw [List.drop_eq_getElem_cons hl,show ys.length - 1 + 1 = ys.length by omega,List.drop_length];simp
 generalize ys[ys.length - 1] = x at *
 have hm : UInt8.ofNat (x % 256) = UInt8.ofNat x:=by
  apply UInt8.toNat_inj.1;simp [UInt8.toNat_ofNat']
 have ez : ∀ y : Nat,y < 256 → (UInt8.ofNat y = 0 ↔ y = 0):=fun y hy=>by
  rw [← UInt8.toNat_inj];simp only[UInt8.toNat_ofNat',UInt8.toNat_zero];rw [Nat.mod_eq_of_lt (by omega)]
 have e2 : iN (Mx x) = (if 256 ≤ x then [UInt8.ofNat (x / 256)] else []) ++ [UInt8.ofNat (x % 256)]:=by
  split
  · rename_i h
    have hn : ¬ UInt8.ofNat (x / 256) = 0:=fun e=>by have:=(ez _ (by omega)).1 e; omega
    rw [hm];simp [iN,Mx,hn]
  · rename_i h
    have hz : UInt8.ofNat (x / 256) = 0:=(ez _ (by omega)).2 (by omega);have hn : ¬ UInt8.ofNat x = 0:=fun e=>by have:=(ez _ (by omega)).1 e; omega
    rw [hm];simp [iN,Mx,hz,hn]
 exact ⟨e.trans e2,by rw [e,e2]; simp⟩
theorem Em (ys : List Nat) : lJ ys ys.length = []:=by unfold lJ; rw [List.drop_length]; rfl
theorem Lg {ys : List Nat} (h : dD 65536 ys) (neg : Bool) : lD (lJ ys 0) = cX (Bg neg (val 65536 ys)):=by
 unfold lJ; rw [List.drop_zero]; exact Ja h neg
theorem Oz (ys : List Nat) (k : Nat) : (lJ ys k).length ≤ 2 * ys.length:=by
 have h1 : ∀ l : List UInt8,(iN l).length ≤ l.length:=fun l=>by
  induction l with
  | nil=>simp [iN]
  | cons b l ih =>
   unfold iN at *
   rw [List.dropWhile_cons];split
   · simp; omega
   · simp
 have h2 : ∀ l : List Nat,(l.flatMap Mx).length = 2 * l.length:=fun l=>by
  induction l with
  | nil=>rfl
  | cons x l ih=>rw [List.flatMap_cons,List.length_append,ih]; simp [Mx]; omega
 refine Nat.le_trans (h1 _) ?_;rw [h2];simp;omega
theorem jT.snoc8 {w : World} {b : Nat} {E : TypeId} {v : Value} {os : List UInt8} {x : Nat} (h : jT w b E 1 v (os.length + 1) (os.map Vn ++ [.int .u8 (x : Int)])) (hx : x < 256) : jT w b E 1 v (os ++ [UInt8.ofNat x]).length ((os ++ [UInt8.ofNat x]).map Vn):=by
 have : Vn (UInt8.ofNat x) = .int .u8 (x : Int):=by simp only[Vn,UInt8.toNat_ofNat',Value.int.injEq,true_and]; rw [Nat.mod_eq_of_lt (by omega)]
 rw [List.map_append,List.map_singleton,this,List.length_append];exact h
theorem tC {x : Nat} (h : x < 256) : IntKind.u8.wrap (x : Int) = (x : Int):=oK (by omega) (by omega)
theorem Bp {os : List Nat} {m V : Nat} (hv : val 65536 os + 65536 ^ os.length * m = V) (hd : dD 65536 os) (h2 : m < 2 ^ (64 - os.length)) (h3 : os.length ≤ 64) (h0 : 0 < m) :
 val 65536 (os ++ [m % 65536]) + 65536 ^ (os ++ [m % 65536]).length * (m / 65536) = V ∧ dD 65536 (os ++ [m % 65536]) ∧ m / 65536 < 2 ^ (64 - (os ++ [m % 65536]).length) ∧ (os ++ [m % 65536]).length ≤ 64:=by
 have hl : os.length < 64:=by
  rcases Nat.lt_or_ge os.length 64 with h | h
  · exact h
  · rw [show 64 - os.length = 0 by omega] at h2; omega
 refine ⟨?_,hd.append (nF (Nat.mod_lt _ (by omega)) (kE _)),?_,by simp; omega⟩
 · rw [fI,List.length_append,List.length_singleton,Nat.pow_succ]
   simp only[val,Nat.mul_zero,Nat.add_zero];have e : m = m % 65536 + 65536 * (m / 65536):=by omega
   generalize m / 65536 = q at *
   generalize m % 65536 = r at *
   generalize 65536 ^ os.length = p at *
   subst e
   grind
 · rw [List.length_append,List.length_singleton]
   have e : 2 ^ (64 - os.length) = 2 * 2 ^ (64 - (os.length + 1)):=by rw [← Nat.pow_succ']; congr 1; omega
   rw [e] at h2;omega
end Go.Lith
namespace Go.Proofs.YtimjandkmfcmiaaGreatDoor
open Tryz
open Go.RowKit Go.Lith
set_option maxRecDepth 100000
attribute [local irreducible] wpList wpQuiet eS Code.wp
theorem kW {neg : Bool} {s : ByteArray} (w : World) (hs : s.size ≤ 1000000000000) : iL prog 89 [.agg #[.bool neg,.string s]] w (mU (Vm s)):=by
 skip
 refine ⟨acG,?_⟩;have hX:=dL.refl w;have hbl:=qK s;have hbd:=yJ s
 go_enter func89,ntmps89
 refine aF (fun K1 hK1=>wp_region_lit ?_);refine gK (by simp only[zz]; rfl) ?_;intro w1 g1 hE hg1 hB1;have hG1:=Nat.le_trans hX.size hg1;replace hX:=hX.trans hE;clear hE hg1;simp only[zz];refine aA (aD) ?_;simp only[zz];refine aC (hK1 _ _ ?_);refine aF (fun K2 hK2=>wp_region_lit (aA (aD) ?_));simp only[zz];obtain ⟨b3,hb3e,hb3l⟩:=hX.base;have hS3:=sC.of hX hb3e;have hO3:=jT.nil_of hX b3 3 1;have hl3_1 : g1 < b3:=by rw [hb3e]; exact hB1.lt
 clear hb3e;refine aC (hK2 _ _ ?_);refine aF (fun K3 hK3=>wp_region_lit (aA (aH (c:=0) gU rfl pU rfl rfl) ?_));simp only[zz];refine aI rfl (hB1.lies1 vU rfl) ?_;simp only[zz];refine aA (oX rfl mH rfl) (aA (aD) ?_);simp only[zz];refine aC (hK3 _ _ ?_);refine aF (fun K4 hK4=>aF (fun K5 hK5=>wp_region_lit (aA (aB) (aA (aD) ?_))));simp only[zz];refine aC (hK5 _ _ ?_);refine wp_block (dI [3,5] [6,11,12,13,14,15,16,17,18,19,20,21,22,23,24,25,26,27,28,29,30,31,32,33,34,35] (fun n vs wl=>∃ (k : Nat) (os : List Nat) (v3 : Value),vs = [v3,.int .i64 ((s.size : Int) - 2 * (k : Int))] ∧ (dL w wl) ∧ (fW wl g1 [.bool neg,.string s] 35) ∧ (sC wl b3) ∧ (jT wl b3 3 1 v3 os.length (os.map pT)) ∧ (os.length = k) ∧ (val 65536 os = val 256 ((lX s).take (2 * k))) ∧ (dD 65536 os) ∧ (2 * k ≤ s.size + 1) ∧ (n = s.size - 2 * k)) ?_ ?_)
 ·
  rw [show ((s.size : Int)) = (s.size : Int) - 2 * ((0 : Nat) : Int) by omega];apply Exists.intro;simp only[zQ,zR,zD,zE];exact ⟨0,[],_,rfl,hX,hB1,hS3,hO3,rfl,by simp [val],kE _,by omega,rfl⟩
 ·
  intro n vs wr hI u;obtain ⟨k,os,v3,rfl,hX,hB1,hS3,hO3,hlo,hv,hd,hk,hn⟩:=hI;simp only[zv,zF,zG];refine aF (fun K6 hK6=>aF (fun K7 hK7=>wp_region_lit (aA (aB) (aA (gS rfl rfl) ?_))));simp only[zz];refine aC (hK7 _ _ ?_);refine cQ rfl (fun hc1=>?_) (fun hc1=>?_)
  ·
   refine wp_skip ?_;refine hK6 _ _ (aF (fun K8 hK8=>wp_block (aF (fun K9 hK9=>?_))));obtain ⟨y1,hb1,hp1,hy1⟩:=vB (show 2 * k + 1 + (s.size - 2 * k - 1) = s.size by omega);have hy1l : y1.toNat < 256:=y1.toNat_lt;refine wp_region_lit (aA (aH (c:=0) gU rfl pU rfl rfl) ?_);simp only[zz];refine aI rfl (hB1.lies1 vU rfl) ?_;simp only[zz];refine aA (aB) (aA (dU rfl rfl (aQ (by omega) (by omega))) ?_);simp only[zz];refine aA ((lU mH rfl rfl (by omega) (by rw [show ((s.size : Int) - 2 * (k : Int) - 1).toNat = s.size - 2 * k - 1 by omega]; exact hb1))) ?_;simp only[zz];refine aA (eL jB nT rfl (aQ (by omega) (by omega))) (aA (aD) ?_);simp only[zz];refine aC (hK9 _ _ ?_);refine aF (fun K10 hK10=>aF (fun K11 hK11=>wp_region_lit (aA (aB) (aA (gS rfl rfl) ?_))));simp only[zz];refine aC (hK11 _ _ ?_);refine cQ rfl (fun hc2=>?_) (fun hc2=>?_)
   ·
    obtain ⟨y2,hb2,hp2,hy2⟩:=vB (show 2 * k + 1 + 1 + (s.size - 2 * k - 2) = s.size by omega);have hy2l : y2.toNat < 256:=y2.toNat_lt;refine wp_region_lit (aA (aB) (aA (aH (c:=0) gU rfl pU rfl rfl) ?_));simp only[zz];refine aI rfl (hB1.lies1 vU rfl) ?_;simp only[zz];refine aA (aB) (aA (dU rfl rfl (aQ (by omega) (by omega))) ?_);simp only[zz];refine aA ((lU mH rfl rfl (by omega) (by rw [show ((s.size : Int) - 2 * (k : Int) - 2).toNat = s.size - 2 * k - 2 by omega]; exact hb2))) ?_;simp only[zz];refine aA (eL jB nT rfl (aQ (by omega) (by omega))) (aA (lB rfl rfl (aQ (by omega) (by omega))) (aA (bD rfl rfl (aQ (by omega) (by omega))) ?_));simp only[zz];refine aA (aD) ?_;simp only[zz];refine aC ?_;obtain ⟨d,hd1⟩ : ∃ d : Nat,d = y1.toNat + 256 * y2.toNat:=⟨_,rfl⟩
    rw [show ((y1.toNat : Int) + 256 * (y2.toNat : Int)) = (d : Int) by omega];have hd2 : d = (lX s)[2 * k] + 256 * ((lX s)[2 * k + 1]?.getD 0):=by rw [List.getElem?_eq_getElem hp2,hy1]; simp only[Option.getD_some]; rw [hy2]; exact hd1
    refine hK10 _ _ ?_;refine wp_region_lit (aA (aB) (aA (aB) ?_));simp only[zz];refine cH bN (z:=.int .i64 0) (by kernel_rfl) rfl (by simp only[zz]; rfl) (by rfl) ?_;intro w2 g2 hE hg2 hB2;have hG2:=Nat.le_trans hX.size hg2; have hN2_1 : g2 ≠ g1:=Nat.ne_of_gt (Nat.lt_of_lt_of_le hB1.lt hg2);replace hB1:=hB1.ext hE; (try replace hS3:=hS3.ext hE); (try replace hO3:=hO3.ext hE); replace hX:=hX.trans hE;clear hE hg2;simp only[zz];refine gT rfl bN gV rfl (by decide) rfl hO3 rfl (news:=_) rfl hB2.row0 (by simp [Value.oneCell']) (by omega) (by omega) hS3.h ?_;clear hO3; intro v3 w3 hO3 hGr _;replace hB1:=hB1.grew hGr hl3_1; (try replace hS3:=hS3.grew hGr (by first | trivial | omega)); replace hX:=hX.grown hGr hb3l;clear hGr;replace hO3:=hO3.snoc;simp only[zz];refine aA (aD) ?_;simp only[zz];refine aC (hK8 _ _ ?_);refine wp_region_lit (aA (aB) (aA (dU rfl rfl (aQ (by omega) (by omega))) (aA (aD) ?_)));simp only[zz];refine aC ?_;obtain ⟨r1,r2⟩:=wG hlo hv (by omega) hd2 hbd hd;rw [show ((s.size : Int) - 2 * (k : Int) - 2) = (s.size : Int) - 2 * ((k + 1 : Nat) : Int) by omega];simp only[Exit.inBlock,Exit.then];refine ⟨s.size - 2 * (k + 1),_,?_,rfl,?_,?_⟩
    · omega
    · simp only[zz,zv]
    ·
     simp only[zQ,zR,zD,zE];exact ⟨k + 1,os ++ [d],v3,rfl,hX,hB1,hS3,hO3,by simp; omega,r1,r2,by omega,rfl⟩
   ·
    obtain ⟨d,hd1⟩ : ∃ d : Nat,d = y1.toNat:=⟨_,rfl⟩
    rw [← hd1];have hd2 : d = (lX s)[2 * k] + 256 * ((lX s)[2 * k + 1]?.getD 0):=by rw [List.getElem?_eq_none (by omega),hy1]; simp only[Option.getD_none]; omega
    refine wp_skip ?_;refine hK10 _ _ (wp_region_lit (aA (aB) (aA (aB) ?_)));simp only[zz];refine cH bN (z:=.int .i64 0) (by kernel_rfl) rfl (by simp only[zz]; rfl) (by rfl) ?_;intro w2 g2 hE hg2 hB2;have hG2:=Nat.le_trans hX.size hg2; have hN2_1 : g2 ≠ g1:=Nat.ne_of_gt (Nat.lt_of_lt_of_le hB1.lt hg2);replace hB1:=hB1.ext hE; (try replace hS3:=hS3.ext hE); (try replace hO3:=hO3.ext hE); replace hX:=hX.trans hE;clear hE hg2;simp only[zz];refine gT rfl bN gV rfl (by decide) rfl hO3 rfl (news:=_) rfl hB2.row0 (by simp [Value.oneCell']) (by omega) (by omega) hS3.h ?_;clear hO3; intro v3 w3 hO3 hGr _;replace hB1:=hB1.grew hGr hl3_1; (try replace hS3:=hS3.grew hGr (by first | trivial | omega)); replace hX:=hX.grown hGr hb3l;clear hGr;replace hO3:=hO3.snoc;simp only[zz];refine aA (aD) ?_;simp only[zz];refine aC (hK8 _ _ ?_);refine wp_region_lit (aA (aB) (aA (dU rfl rfl (aQ (by omega) (by omega))) (aA (aD) ?_)));simp only[zz];refine aC ?_;obtain ⟨r1,r2⟩:=wG hlo hv (by omega) hd2 hbd hd;rw [show ((s.size : Int) - 2 * (k : Int) - 2) = (s.size : Int) - 2 * ((k + 1 : Nat) : Int) by omega];simp only[Exit.inBlock,Exit.then];refine ⟨s.size - 2 * (k + 1),_,?_,rfl,?_,?_⟩
    · omega
    · simp only[zz,zv]
    ·
     simp only[zQ,zR,zD,zE];exact ⟨k + 1,os ++ [d],v3,rfl,hX,hB1,hS3,hO3,by simp; omega,r1,r2,by omega,rfl⟩
  ·
   refine wp_exit ?_;refine hK4 _ _ (aF (fun K12 hK12=>?_));obtain ⟨A3,c3,rfl,hD,_⟩:=dC.of_owns hO3 rfl hd (by omega);refine wp_region_lit (aA (aB) ?_);simp only[zz];refine bS rfl rfl (xN _ hD) ?_;rintro v w2 hE rfl
   (try replace hD:=hD.ext hE); replace hX:=hX.trans hE
   clear hE;simp only[zz];refine aA (aD) ?_;simp only[zz];refine aC (hK12 _ _ ?_);refine wp_ret ?_;try simp only[Exit.inBlock,Exit.then]
   refine bU rfl rfl ?_;try simp only[zD,zE]
   exact ⟨_,rfl,hX,mU.of_trim hD (by rw [hv,List.take_of_length_le (by omega)]; rfl)⟩
theorem nO {A : Option Addr} {xs : List Nat} {b na cap : Nat} {neg : Bool} (w : World) (hS : dC w b A na cap xs) (hl : xs.length ≤ 100000000000) : iL prog 60 [.bool neg,.slice A na cap] w (fun v _=>v = W (Bg neg (val 65536 xs))):=by
 skip
 refine ⟨ace,?_⟩;have hX:=dL.refl w;obtain rfl:=hS.eq;have hlt:=pF xs;have hT : dC w w.heap.size A (trim xs).length cap (trim xs):=by
  have h:=(hS.take (trim xs).length).here;rwa [← iE] at h
 have htr:=rY xs;have hvx:=rC 65536 xs;obtain ⟨ys,hys⟩ : ∃ ys,ys = trim xs:=⟨_,rfl⟩
 rw [← hys] at hT htr hlt hvx;have hyd:=hT.digs;have h2l:=Oz ys
 go_enter func60,ntmps60
 refine aF (fun K1 hK1=>wp_region_lit ?_);refine dX cI rfl ?_;intro w1 g1 hE hg1 hB1;have hG1:=Nat.le_trans hX.size hg1
 (try replace hT:=hT.ext hE); replace hX:=hX.trans hE
 clear hE hg1;simp only[zz];refine aC (hK1 _ _ ?_);refine aF (fun K2 hK2=>wp_region_lit (aA (aB) ?_));simp only[zz];refine bS rfl rfl (xN _ (hS.ext hX)) ?_;rintro v w2 hE rfl;replace hB1:=hB1.ext hE; (try replace hT:=hT.ext hE); replace hX:=hX.trans hE;clear hE;rw [← hys];clear hys;simp only[zz];refine aA (aD) ?_;simp only[zz];refine aC (hK2 _ _ ?_);refine aF (fun K3 hK3=>aF (fun K4 hK4=>?_));by_cases hy0 : ys = []
 ·
  subst hy0;refine wp_region_lit (aA (aB) (aA (bR rfl bN rfl) (aA (nD rfl rfl (by rfl)) ?_)));simp only[zz];refine aC (hK4 _ _ ?_);refine bX rfl (aF (fun K5 hK5=>wp_region_lit (aA (yH) ?_)));simp only[zz];refine cC rfl (by simp only[zz]; rfl) (by exact aG) hB1 (by simp) (by simp [Value.oneCell']) ?_;clear hB1; intro w3 hC hB1;replace hX:=hX.chg hC hG1;clear hC;simp only[zy,zx,aX,Nat.reduceAdd] at hB1;refine aC (hK5 _ _ ?_);refine wp_ret ?_;try simp only[Exit.inBlock,Exit.then]
  refine bU rfl ⟨_,rfl,(hB1.lies aR aG rfl rfl)⟩ ?_;try simp only[zD,zE]
  exact ⟨_,rfl,hX,by rw [← hvx]; cases neg <;> rfl⟩
 ·
  have hyl : 0 < ys.length:=List.length_pos_iff.2 hy0;have htop:=tA htr hyl;refine wp_region_lit (aA (aB) (aA (bR rfl bN rfl) (aA (kL rfl rfl (by omega)) ?_)));simp only[zz];refine aC (hK4 _ _ ?_);refine eQ rfl (wp_skip ?_);refine hK3 _ _ (aF (fun K6 hK6=>wp_region_lit (aA (aD) ?_)));simp only[zz];obtain ⟨b5,hb5e,hb5l⟩:=hX.base;have hS5:=sC.of hX hb5e;have hO5:=jT.nil_of hX b5 5 1;have hl5_1 : g1 < b5:=by rw [hb5e]; exact hB1.lt
  clear hb5e;refine aC (hK6 _ _ ?_);refine aF (fun K7 hK7=>aF (fun K8 hK8=>wp_region_lit (aA (aB) (aA (bR rfl bN rfl) (aA (dU rfl rfl (aQ (by omega) (by omega))) ?_)))));simp only[zz];refine aA (aD) ?_;simp only[zz];refine aC (hK8 _ _ ?_);refine wp_block (dI [5,6] [16,17,18,19,20,21,22,23,24,25,26,27,28,29,30,31,32,33,34,35,36,37,38,39,40,41,42,43,44,45,46,47,48,49] (fun n vs wl=>∃ (k : Nat) (os : List UInt8) (v5 : Value),vs = [v5,.int .i64 ((k:Int) - 1)] ∧ (dL w wl) ∧ (fW wl g1 [.bool false,.string ⟨#[]⟩] 35) ∧ (dC wl w.heap.size A ys.length cap ys) ∧ (sC wl b5) ∧ (jT wl b5 5 1 v5 os.length (os.map Vn)) ∧ (os = lJ ys k) ∧ (k ≤ ys.length) ∧ (k < ys.length → lJ ys k ≠ []) ∧ (os.length ≤ 2 * ys.length) ∧ (n = k)) ?_ ?_)
  ·
   apply Exists.intro;simp only[zQ,zR,zD,zE];exact ⟨ys.length,[],_,rfl,hX,hB1,hT,hS5,hO5,(Em ys).symm,by omega,fun h=>absurd h (by omega),by simp,rfl⟩
  ·
   intro n vs wr hI u;obtain ⟨k,os,v5,rfl,hX,hB1,hT,hS5,hO5,hos,hk,hne,hosl,hn⟩:=hI;simp only[zv,zF,zG];refine aF (fun K9 hK9=>aF (fun K10 hK10=>wp_region_lit (aA (aB) (aA (lC rfl rfl) ?_))));simp only[zz];refine aC (hK10 _ _ ?_);refine cQ rfl (fun hc2=>?_) (fun hc2=>?_)
   ·
    refine wp_skip ?_;refine hK9 _ _ (aF (fun K11 hK11=>wp_block (aF (fun K12 hK12=>aF (fun K13 hK13=>?_)))));obtain ⟨a,rfl,hca,hla⟩:=hT.get (show k - 1 < ys.length by omega);rcases (show k < ys.length ∨ k = ys.length by omega) with hkl | hkl
    ·
     obtain ⟨r1,r2⟩:=Lf (show 0 < k by omega) (by omega) (hne hkl);refine wp_region_lit (aA (aB) (aA (aB) (aA (bR rfl bN rfl) ?_)));simp only[zz];refine aA (dU rfl rfl (aQ (by omega) (by omega))) (aA (cK rfl rfl (by omega)) (aA (aB) ?_));simp only[zz];refine bG rfl ?_;simp only[zz];refine bG rfl ?_;simp only[zz];refine bG rfl ?_;simp only[zz];refine bG rfl ?_;simp only[zz];refine bG rfl ?_;simp only[zz];refine aA (cG rfl) ?_;simp only[zz];refine aC (hK13 _ _ ?_);refine bX rfl ?_;have hca:=hT.at (show k - 1 < ys.length by omega);refine wp_region_lit (aA (aB) (aA (aB) (aA (aB) ?_)));simp only[zz];refine aA (aU bN aM rfl rfl (by omega) (by omega) (fT (show _ = k - 1 by omega))) ?_;simp only[zz];refine aI rfl (lies1 hca aZ) ?_;simp only[zz];refine aA (oH rfl rfl (by omega) (mR (n:=256) (by omega))) (aA (eL nT jB rfl (tC (by omega))) ?_);simp only[zz];refine cH lV (z:=.int .u8 0) (by kernel_rfl) rfl (by simp only[zz]; rfl) (by rfl) ?_;intro w3 g2 hE hg2 hB2;have hG2:=Nat.le_trans hX.size hg2; have hN2_1 : g2 ≠ g1:=Nat.ne_of_gt (Nat.lt_of_lt_of_le hB1.lt hg2);replace hB1:=hB1.ext hE; (try replace hT:=hT.ext hE); (try replace hS5:=hS5.ext hE); (try replace hO5:=hO5.ext hE); replace hX:=hX.trans hE;clear hE hg2;simp only[zz];refine gT rfl lV Dx rfl (by decide) rfl hO5 rfl (news:=_) rfl hB2.row0 (by simp [Value.oneCell']) (by omega) (by omega) hS5.h ?_;clear hO5; intro v5 w4 hO5 hGr _;replace hB1:=hB1.grew hGr hl5_1; (try replace hT:=hT.grew hGr (by first | trivial | omega)); (try replace hS5:=hS5.grew hGr (by first | trivial | omega)); replace hX:=hX.grown hGr hb5l;clear hGr;replace hO5:=hO5.snoc8 (by omega);simp only[zz];refine aA (aD) ?_;simp only[zz];refine aC (hK12 _ _ ?_);have hca:=hT.at (show k - 1 < ys.length by omega);refine wp_region_lit (aA (aB) (aA (aB) (aA (aB) ?_)));simp only[zz];refine aA (aU bN aM rfl rfl (by omega) (by omega) (fT (show _ = k - 1 by omega))) ?_;simp only[zz];refine aI rfl (lies1 hca aZ) ?_;simp only[zz];refine aA (kD rfl rfl (by omega) (kZ (n:=256))) (aA (eL nT jB rfl (tC (by omega))) ?_);simp only[zz];refine cH lV (z:=.int .u8 0) (by kernel_rfl) rfl (by simp only[zz]; rfl) (by rfl) ?_;intro w5 g3 hE hg3 hB3;have hG3:=Nat.le_trans hX.size hg3; have hN3_1 : g3 ≠ g1:=Nat.ne_of_gt (Nat.lt_of_lt_of_le hB1.lt hg3);replace hB1:=hB1.ext hE; (try replace hT:=hT.ext hE); (try replace hS5:=hS5.ext hE); (try replace hO5:=hO5.ext hE); replace hX:=hX.trans hE;clear hE hg3;simp only[zz];refine gT rfl lV Dx rfl (by decide) rfl hO5 rfl (news:=_) rfl hB3.row0 (by simp [Value.oneCell']) (by first | omega | (simp; omega)) (by first | omega | (simp; omega)) hS5.h ?_;clear hO5; intro v5 w6 hO5 hGr _;replace hB1:=hB1.grew hGr hl5_1; (try replace hT:=hT.grew hGr (by first | trivial | omega)); (try replace hS5:=hS5.grew hGr (by first | trivial | omega)); replace hX:=hX.grown hGr hb5l;clear hGr;replace hO5:=hO5.snoc8 (by omega);simp only[zz];refine aA (aD) ?_;simp only[zz];refine aC (hK11 _ _ ?_);refine wp_region_lit (aA (aB) (aA (dU rfl rfl (aQ (by omega) (by omega))) (aA (aD) ?_)));simp only[zz];refine aC ?_;have hos2 : os ++ [UInt8.ofNat (ys[k - 1] / 256)] ++ [UInt8.ofNat (ys[k - 1] % 256)] = lJ ys (k - 1):=by rw [r1,hos]
     rw [show ((k:Int) - 1 - 1) = ((k - 1 : Nat) : Int) - 1 by omega];simp only[Exit.inBlock,Exit.then];refine ⟨k - 1,_,?_,rfl,?_,?_⟩
     · omega
     · simp only[zz,zv]
     ·
      simp only[zQ,zR,zD,zE];exact ⟨k - 1,os ++ [UInt8.ofNat (ys[k - 1] / 256)] ++ [UInt8.ofNat (ys[k - 1] % 256)],v5,rfl,hX,hB1,hT,hS5,hO5,hos2,by omega,fun _=>r2,by rw [hos2]; exact h2l _,rfl⟩
    ·
     subst hkl;obtain ⟨f1,f2⟩:=Jb (by omega) htop hla;have hos0 : os = []:=by rw [hos]; exact Em ys
     refine wp_region_lit (aA (aB) (aA (aB) (aA (bR rfl bN rfl) ?_)));simp only[zz];refine aA (dU rfl rfl (aQ (by omega) (by omega))) (aA (fA rfl rfl (by omega)) (aA (aB) ?_));simp only[zz];refine aP rfl (aA (aB) ?_);simp only[zz];refine aP rfl (aA (aB) ?_);simp only[zz];refine aP rfl (aA (aU bN aM rfl rfl (by omega) (by omega) (fT (show _ = ys.length - 1 by omega))) ?_);simp only[zz];refine aP rfl (aI rfl (lies1 hca aZ) ?_);simp only[zz];refine aP rfl (aA (lC rfl rfl) (aA (cO rfl) ?_));simp only[zz];refine aC (hK13 _ _ ?_);refine cQ rfl (fun hc3=>?_) (fun hc3=>?_)
     ·
      have hca:=hT.at (show ys.length - 1 < ys.length by omega);refine wp_region_lit (aA (aB) (aA (aB) (aA (aB) ?_)));simp only[zz];refine aA (aU bN aM rfl rfl (by omega) (by omega) (fT (show _ = ys.length - 1 by omega))) ?_;simp only[zz];refine aI rfl (lies1 hca aZ) ?_;simp only[zz];refine aA (oH rfl rfl (by omega) (mR (n:=256) (by omega))) (aA (eL nT jB rfl (tC (by omega))) ?_);simp only[zz];refine cH lV (z:=.int .u8 0) (by kernel_rfl) rfl (by simp only[zz]; rfl) (by rfl) ?_;intro w3 g2 hE hg2 hB2;have hG2:=Nat.le_trans hX.size hg2; have hN2_1 : g2 ≠ g1:=Nat.ne_of_gt (Nat.lt_of_lt_of_le hB1.lt hg2);replace hB1:=hB1.ext hE; (try replace hT:=hT.ext hE); (try replace hS5:=hS5.ext hE); (try replace hO5:=hO5.ext hE); replace hX:=hX.trans hE;clear hE hg2;simp only[zz];refine gT rfl lV Dx rfl (by decide) rfl hO5 rfl (news:=_) rfl hB2.row0 (by simp [Value.oneCell']) (by omega) (by omega) hS5.h ?_;clear hO5; intro v5 w4 hO5 hGr _;replace hB1:=hB1.grew hGr hl5_1; (try replace hT:=hT.grew hGr (by first | trivial | omega)); (try replace hS5:=hS5.grew hGr (by first | trivial | omega)); replace hX:=hX.grown hGr hb5l;clear hGr;replace hO5:=hO5.snoc8 (by omega);simp only[zz];refine aA (aD) ?_;simp only[zz];refine aC (hK12 _ _ ?_);have hca:=hT.at (show ys.length - 1 < ys.length by omega);refine wp_region_lit (aA (aB) (aA (aB) (aA (aB) ?_)));simp only[zz];refine aA (aU bN aM rfl rfl (by omega) (by omega) (fT (show _ = ys.length - 1 by omega))) ?_;simp only[zz];refine aI rfl (lies1 hca aZ) ?_;simp only[zz];refine aA (kD rfl rfl (by omega) (kZ (n:=256))) (aA (eL nT jB rfl (tC (by omega))) ?_);simp only[zz];refine cH lV (z:=.int .u8 0) (by kernel_rfl) rfl (by simp only[zz]; rfl) (by rfl) ?_;intro w5 g3 hE hg3 hB3;have hG3:=Nat.le_trans hX.size hg3; have hN3_1 : g3 ≠ g1:=Nat.ne_of_gt (Nat.lt_of_lt_of_le hB1.lt hg3);replace hB1:=hB1.ext hE; (try replace hT:=hT.ext hE); (try replace hS5:=hS5.ext hE); (try replace hO5:=hO5.ext hE); replace hX:=hX.trans hE;clear hE hg3;simp only[zz];refine gT rfl lV Dx rfl (by decide) rfl hO5 rfl (news:=_) rfl hB3.row0 (by simp [Value.oneCell']) (by first | omega | (simp; omega)) (by first | omega | (simp; omega)) hS5.h ?_;clear hO5; intro v5 w6 hO5 hGr _;replace hB1:=hB1.grew hGr hl5_1; (try replace hT:=hT.grew hGr (by first | trivial | omega)); (try replace hS5:=hS5.grew hGr (by first | trivial | omega)); replace hX:=hX.grown hGr hb5l;clear hGr;replace hO5:=hO5.snoc8 (by omega);simp only[zz];refine aA (aD) ?_;simp only[zz];refine aC (hK11 _ _ ?_);refine wp_region_lit (aA (aB) (aA (dU rfl rfl (aQ (by omega) (by omega))) (aA (aD) ?_)));simp only[zz];refine aC ?_;have hos2 : os ++ [UInt8.ofNat (ys[ys.length - 1] / 256)] ++ [UInt8.ofNat (ys[ys.length - 1] % 256)] = lJ ys (ys.length - 1):=by rw [f1,if_pos (by omega),hos0]; rfl
      rw [show ((ys.length:Int) - 1 - 1) = ((ys.length - 1 : Nat) : Int) - 1 by omega];simp only[Exit.inBlock,Exit.then];refine ⟨ys.length - 1,_,?_,rfl,?_,?_⟩
      · omega
      · simp only[zz,zv]
      ·
       simp only[zQ,zR,zD,zE];exact ⟨ys.length - 1,os ++ [UInt8.ofNat (ys[ys.length - 1] / 256)] ++ [UInt8.ofNat (ys[ys.length - 1] % 256)],v5,rfl,hX,hB1,hT,hS5,hO5,hos2,by omega,fun _=>f2,by rw [hos2]; exact h2l _,rfl⟩
     ·
      refine wp_skip ?_;refine hK12 _ _ ?_;have hca:=hT.at (show ys.length - 1 < ys.length by omega);refine wp_region_lit (aA (aB) (aA (aB) (aA (aB) ?_)));simp only[zz];refine aA (aU bN aM rfl rfl (by omega) (by omega) (fT (show _ = ys.length - 1 by omega))) ?_;simp only[zz];refine aI rfl (lies1 hca aZ) ?_;simp only[zz];refine aA (kD rfl rfl (by omega) (kZ (n:=256))) (aA (eL nT jB rfl (tC (by omega))) ?_);simp only[zz];refine cH lV (z:=.int .u8 0) (by kernel_rfl) rfl (by simp only[zz]; rfl) (by rfl) ?_;intro w3 g2 hE hg2 hB2;have hG2:=Nat.le_trans hX.size hg2; have hN2_1 : g2 ≠ g1:=Nat.ne_of_gt (Nat.lt_of_lt_of_le hB1.lt hg2);replace hB1:=hB1.ext hE; (try replace hT:=hT.ext hE); (try replace hS5:=hS5.ext hE); (try replace hO5:=hO5.ext hE); replace hX:=hX.trans hE;clear hE hg2;simp only[zz];refine gT rfl lV Dx rfl (by decide) rfl hO5 rfl (news:=_) rfl hB2.row0 (by simp [Value.oneCell']) (by first | omega | (simp; omega)) (by first | omega | (simp; omega)) hS5.h ?_;clear hO5; intro v5 w4 hO5 hGr _;replace hB1:=hB1.grew hGr hl5_1; (try replace hT:=hT.grew hGr (by first | trivial | omega)); (try replace hS5:=hS5.grew hGr (by first | trivial | omega)); replace hX:=hX.grown hGr hb5l;clear hGr;replace hO5:=hO5.snoc8 (by omega);simp only[zz];refine aA (aD) ?_;simp only[zz];refine aC (hK11 _ _ ?_);refine wp_region_lit (aA (aB) (aA (dU rfl rfl (aQ (by omega) (by omega))) (aA (aD) ?_)));simp only[zz];refine aC ?_;have hos2 : os ++ [UInt8.ofNat (ys[ys.length - 1] % 256)] = lJ ys (ys.length - 1):=by rw [f1,if_neg (by omega),hos0]
      rw [show ((ys.length:Int) - 1 - 1) = ((ys.length - 1 : Nat) : Int) - 1 by omega];simp only[Exit.inBlock,Exit.then];refine ⟨ys.length - 1,_,?_,rfl,?_,?_⟩
      · omega
      · simp only[zz,zv]
      ·
       simp only[zQ,zR,zD,zE];exact ⟨ys.length - 1,os ++ [UInt8.ofNat (ys[ys.length - 1] % 256)],v5,rfl,hX,hB1,hT,hS5,hO5,hos2,by omega,fun _=>f2,by rw [hos2]; exact h2l _,rfl⟩
   ·
    refine wp_exit ?_;refine hK7 _ _ (aF (fun K14 hK14=>wp_region_lit (aA (aB) (aA (aB) ?_))));simp only[zz];refine sX (Be lV nT mH rfl hO5) ?_;simp only[zz];refine aA (pB rfl rfl) ?_;simp only[zz];refine cC rfl (by simp only[zz]; rfl) (by exact aG) hB1 (by simp) (by simp [Value.oneCell']) ?_;clear hB1; intro w3 hC hB1;replace hX:=hX.chg hC hG1;clear hC;simp only[zy,zx,aX,Nat.reduceAdd] at hB1;refine aC (hK14 _ _ ?_);refine wp_ret ?_;try simp only[Exit.inBlock,Exit.then]
    refine bU rfl ⟨_,rfl,(hB1.lies aR aG rfl rfl)⟩ ?_;try simp only[zD,zE]
    exact ⟨_,rfl,hX,by (obtain rfl : k = 0:=by omega); (have hV : val 65536 ys ≠ 0:=Nat.ne_of_gt (wB (by omega) htr hy0)); rw [hos,Lg hyd neg,← hvx]; simp [Lith.W,Gn,hV]⟩
end Go.Proofs.YtimjandkmfcmiaaGreatDoor
namespace Go.Proofs.YtimjandkmfcmiaaGreatDoor
open Tryz
open Go.RowKit Go.Lith
set_option maxRecDepth 100000
attribute [local irreducible] wpList wpQuiet eS Code.wp
theorem Pa {k : Nat} {a b : Int} (ha : Bd k a) (hb : Bd k b) : (digs 65536 (a * b).natAbs).length ≤ k + k:=kF (Bd.mul ha hb)
theorem xO {a : Int} : (((digs 65536 a.natAbs).length : Int) = 0) ↔ a = 0:=by
 constructor
 ·
  intro h;have h0 : digs 65536 a.natAbs = []:=List.eq_nil_of_length_eq_zero (by omega);have:=(mA (by omega)).1 h0;omega
 · rintro rfl; rfl
theorem lQ {a : Int} (ha : Bd 1000000 a) : dP prog 81 [W a] (.int .i64 (dG a)):=by
 intro w;refine ⟨acz,?_⟩;have hX:=dL.refl w
 go_enter func81,ntmps81
 refine aF (fun K1 hK1=>wp_region_lit ?_);refine gK (by simp only[zz]; rfl) ?_;intro w1 g1 hE hg1 hB1;have hG1:=Nat.le_trans hX.size hg1;replace hX:=hX.trans hE;clear hE hg1;simp only[zz];refine aA (aD) ?_;simp only[zz];refine aC (hK1 _ _ ?_);refine aF (fun K2 hK2=>aF (fun K3 hK3=>wp_region_lit ?_));refine aI rfl (hB1.lies aR aG rfl rfl) ?_;simp only[zz];refine bS rfl rfl (kW _ (fF ha)) ?_;rintro v w2 hE ⟨A1,c1,rfl,hD1⟩;replace hB1:=hB1.ext hE; replace hX:=hX.trans hE;clear hE;rw [fE] at hD1 ⊢;simp only[zz];refine aA (bR rfl bN rfl) (aA (nA rfl rfl) ?_);simp only[zz];refine aC (hK3 _ _ ?_);refine cQ rfl (fun hc1=>?_) (fun hc1=>?_)
 ·
  have h0:=xO.1 hc1;refine aF (fun K4 hK4=>wp_region_lit (aA (aD) ?_));simp only[zz];refine aC (hK4 _ _ ?_);refine wp_ret ?_;try simp only[Exit.inBlock,Exit.then]
  refine bU rfl rfl ?_;try simp only[zD,zE]
  exact ⟨_,rfl,hX,by rw [h0]; rfl⟩
 ·
  refine wp_skip ?_;refine hK2 _ _ (aF (fun K5 hK5=>aF (fun K6 hK6=>wp_region_lit (aA (aH (c:=0) gU rfl eJ rfl rfl) ?_))));simp only[zz];refine aI rfl (hB1.lies1 iV rfl) ?_;simp only[zz];refine aC (hK6 _ _ ?_);refine oZ rfl (fun hc2=>?_) (fun hc2=>?_)
  ·
   have hn:=xM hc2;refine aF (fun K7 hK7=>wp_region_lit (aA (aD) ?_));simp only[zz];refine aC (hK7 _ _ ?_);refine wp_ret ?_;try simp only[Exit.inBlock,Exit.then]
   refine bU rfl rfl ?_;try simp only[zD,zE]
   exact ⟨_,rfl,hX,by rw [mF hn]⟩
  ·
   have hn:=vE hc2;have h0 : ¬ a = 0:=fun e=>hc1 (xO.2 e);refine wp_skip (hK5 _ _ ?_);refine aF (fun K8 hK8=>wp_region_lit (aA (aD) ?_));simp only[zz];refine aC (hK8 _ _ ?_);refine wp_ret ?_;try simp only[Exit.inBlock,Exit.then]
   refine bU rfl rfl ?_;try simp only[zD,zE]
   exact ⟨_,rfl,hX,by rw [lA (by omega)]⟩
theorem Sh {a : Int} (ha : Bd 1000000 a) : dP prog 114 [W a] (W (-a)):=by
 intro w;refine ⟨Zn,?_⟩;have hX:=dL.refl w;have hla : (digs 65536 a.natAbs).length ≤ 1000000:=kF ha
 go_enter func114,ntmps114
 refine aF (fun K1 hK1=>wp_region_lit ?_);refine gK (by simp only[zz]; rfl) ?_;intro w1 g1 hE hg1 hB1;have hG1:=Nat.le_trans hX.size hg1;replace hX:=hX.trans hE;clear hE hg1;simp only[zz];refine dX cI rfl ?_;intro w2 g2 hE hg2 hB2;have hG2:=Nat.le_trans hX.size hg2; have hN2_1 : g2 ≠ g1:=Nat.ne_of_gt (Nat.lt_of_lt_of_le hB1.lt hg2);replace hB1:=hB1.ext hE; replace hX:=hX.trans hE;clear hE hg2;simp only[zz];refine aC (hK1 _ _ ?_);refine aF (fun K2 hK2=>?_);refine dS [(0,true),(1,true),(2,true),(3,true),(4,false),(5,false),(6,false)] aN (by kernel_rfl) (cW (fun _ _ _ _ _ h=>h)) (ol:=?_) ?hol ?_
 case hol=>simp only[zw,zQ,zR]; try rfl
 intro w3 hE;replace hB1:=hB1.ext hE; replace hB2:=hB2.ext hE; replace hX:=hX.trans hE;clear hE;refine ⟨_,(jM.blk hB1 jM.nil),?_⟩;refine aY (aH (c:=0) gU rfl eJ rfl rfl) ?_;simp only[zz];refine cF rfl (fun _ ⟨hB1,_⟩=>(hB1.lies1 iV rfl)) ?_;simp only[zz];refine aY (eT rfl) ?_;simp only[zz];refine cF rfl (fun _ ⟨hB1,_⟩=>(hB1.lies aR aG rfl rfl)) ?_;simp only[zz];refine cZ (bS rfl rfl (kW _ (fF ha)) ?_);rintro v w4 hE ⟨A1,c1,rfl,hD1⟩;replace hB1:=hB1.ext hE; replace hB2:=hB2.ext hE; replace hX:=hX.trans hE;clear hE;rw [fE] at hD1 ⊢;simp only[zz];refine aC (⟨⟨hB1,trivial⟩,?_⟩);refine cZ (bS rfl rfl (nO _ hD1 (Nat.le_trans hla (by decide))) ?_);rintro v w5 hE rfl;replace hB1:=hB1.ext hE; replace hB2:=hB2.ext hE; replace hX:=hX.trans hE;clear hE;simp only[cU];simp only[zz];refine aC (⟨⟨hB1,trivial⟩,?_⟩);refine cZ ?_;refine cC rfl (by simp only[zz]; rfl) (by exact aG) hB2 (by simp) (by simp [Value.oneCell']) ?_;clear hB2; intro w6 hC hB2;replace hB1:=hB1.chg hC (by first | exact hN1_2 | exact Ne.symm hN2_1); replace hX:=hX.chg hC hG2;clear hC;simp only[zy,zx,aX,Nat.reduceAdd] at hB2;refine aC (⟨⟨hB1,trivial⟩,?_⟩);refine bA ?_;rw [Mq] at hB2;refine hK2 _ _ (wp_ret ?_);try simp only[Exit.inBlock,Exit.then]
 refine bU rfl ⟨_,rfl,(hB2.lies aR aG rfl rfl)⟩ ?_;try simp only[zD,zE]
 exact ⟨_,rfl,hX,rfl⟩
theorem qL {a b : Int} (ha : Bd 1000000 a) (hb : Bd 1000000 b) : dP prog 84 [W a,W b] (W (a + b)):=by
 intro w;refine ⟨acB,?_⟩;have hX:=dL.refl w;have hla : (digs 65536 a.natAbs).length ≤ 1000000:=kF ha;have hlb : (digs 65536 b.natAbs).length ≤ 1000000:=kF hb
 go_enter func84,ntmps84
 refine aF (fun K1 hK1=>wp_region_lit ?_);refine gK (by simp only[zz]; rfl) ?_;intro w1 g1 hE hg1 hB1;have hG1:=Nat.le_trans hX.size hg1;replace hX:=hX.trans hE;clear hE hg1;simp only[zz];refine gK (by simp only[zz]; rfl) ?_;intro w2 g2 hE hg2 hB2;have hG2:=Nat.le_trans hX.size hg2; have hN2_1 : g2 ≠ g1:=Nat.ne_of_gt (Nat.lt_of_lt_of_le hB1.lt hg2);replace hB1:=hB1.ext hE; replace hX:=hX.trans hE;clear hE hg2;simp only[zz];refine dX cI rfl ?_;intro w3 g3 hE hg3 hB3;have hG3:=Nat.le_trans hX.size hg3; have hN3_1 : g3 ≠ g1:=Nat.ne_of_gt (Nat.lt_of_lt_of_le hB1.lt hg3); have hN3_2 : g3 ≠ g2:=Nat.ne_of_gt (Nat.lt_of_lt_of_le hB2.lt hg3);replace hB1:=hB1.ext hE; replace hB2:=hB2.ext hE; replace hX:=hX.trans hE;clear hE hg3;simp only[zz];refine aC (hK1 _ _ ?_);refine aF (fun K2 hK2=>wp_region_lit ?_);refine aI rfl (hB1.lies aR aG rfl rfl) ?_;simp only[zz];refine bS rfl rfl (kW _ (fF ha)) ?_;rintro v w4 hE ⟨A1,c1,rfl,hD1⟩;replace hB1:=hB1.ext hE; replace hB2:=hB2.ext hE; replace hB3:=hB3.ext hE; replace hX:=hX.trans hE;clear hE;rw [fE] at hD1 ⊢;simp only[zz];refine aA (aD) ?_;simp only[zz];refine aC (hK2 _ _ ?_);refine aF (fun K3 hK3=>wp_region_lit ?_);refine aI rfl (hB2.lies aR aG rfl rfl) ?_;simp only[zz];refine bS rfl rfl (kW _ (fF hb)) ?_;rintro v w5 hE ⟨A2,c2,rfl,hD2⟩;replace hB1:=hB1.ext hE; replace hB2:=hB2.ext hE; replace hB3:=hB3.ext hE; (try replace hD1:=hD1.ext hE); replace hX:=hX.trans hE;clear hE;rw [fE] at hD2 ⊢;simp only[zz];refine aA (aD) ?_;simp only[zz];refine aC (hK3 _ _ ?_);refine aF (fun K4 hK4=>aF (fun K5 hK5=>wp_region_lit (aA (aH (c:=0) gU rfl eJ rfl rfl) ?_)));simp only[zz];refine aI rfl (hB1.lies1 iV rfl) ?_;simp only[zz];refine aA (aH (c:=0) gU rfl eJ rfl rfl) ?_;simp only[zz];refine aI rfl (hB2.lies1 iV rfl) ?_;simp only[zz];refine aA (Av xF rfl rfl) ?_;simp only[zz];refine aC (hK5 _ _ ?_);refine cQ rfl (fun hc1=>?_) (fun hc1=>?_)
 ·
  refine aF (fun K6 hK6=>?_);refine dS [(0,true),(2,true),(3,true),(1,true),(4,false),(5,false),(6,false)] aN (by kernel_rfl) (cW (fun _ _ _ _ _ h=>h)) (ol:=?_) ?hol ?_
  case hol=>simp only[zw,zQ,zR]; try rfl
  intro w6 hE;replace hB1:=hB1.ext hE; replace hB3:=hB3.ext hE; (try replace hD1:=hD1.ext hE); (try replace hD2:=hD2.ext hE); replace hX:=hX.trans hE;clear hE;refine ⟨_,(jM.blk hB1 jM.nil),?_⟩;refine aY (aH (c:=0) gU rfl eJ rfl rfl) (aY (aB) (aY (aB) ?_));simp only[zz];refine cF rfl (fun _ ⟨hB1,_⟩=>(hB1.lies1 iV rfl)) ?_;simp only[zz];refine cZ (bS rfl rfl (aaO _ hD1.here hD2.here (Nat.le_trans hla (by decide)) (Nat.le_trans hlb (by decide))) ?_);rintro v w7 hE ⟨A3,c3,os,rfl,hD3,hv3,hl3⟩;replace hB1:=hB1.ext hE; replace hB3:=hB3.ext hE; replace hX:=hX.trans hE;clear hE;simp only[cU] at hv3;simp only[zz];refine aC (⟨⟨hB1,trivial⟩,?_⟩);refine cZ (bS rfl rfl (nO _ hD3 (by omega)) ?_);rintro v w8 hE rfl;replace hB1:=hB1.ext hE; replace hB3:=hB3.ext hE; replace hX:=hX.trans hE;clear hE;rw [hv3];simp only[zz];refine aC (⟨⟨hB1,trivial⟩,?_⟩);refine cZ ?_;refine cC rfl (by simp only[zz]; rfl) (by exact aG) hB3 (by simp) (by simp [Value.oneCell']) ?_;clear hB3; intro w9 hC hB3;replace hB1:=hB1.chg hC (by first | exact hN1_3 | exact Ne.symm hN3_1); replace hX:=hX.chg hC hG3;clear hC;simp only[zy,zx,aX,Nat.reduceAdd] at hB3;refine aC (⟨⟨hB1,trivial⟩,?_⟩);refine bA ?_;rw [Mr hc1] at hB3;refine hK6 _ _ (wp_ret ?_);try simp only[Exit.inBlock,Exit.then]
  refine bU rfl ⟨_,rfl,(hB3.lies aR aG rfl rfl)⟩ ?_;try simp only[zD,zE]
  exact ⟨_,rfl,hX,rfl⟩
 ·
  refine wp_skip ?_;refine hK4 _ _ (aF (fun K7 hK7=>aF (fun K8 hK8=>wp_region_lit (aA (aB) (aA (aB) ?_)))));simp only[zz];refine bS rfl rfl (uB _ hD1 hD2 (gW _) (gW _)) ?_;rintro v w6 hE rfl;replace hB1:=hB1.ext hE; replace hB2:=hB2.ext hE; replace hB3:=hB3.ext hE; (try replace hD1:=hD1.ext hE); (try replace hD2:=hD2.ext hE); replace hX:=hX.trans hE;clear hE;simp only[cU];simp only[zz];refine aA (lC rfl rfl) ?_;simp only[zz];refine aC (hK8 _ _ ?_);refine cQ rfl (fun hc2=>?_) (fun hc2=>?_)
  ·
   have hge:=Bm.1 hc2;refine aF (fun K9 hK9=>?_);refine dS [(0,true),(2,true),(3,true),(1,true),(4,false),(5,false),(6,false)] aN (by kernel_rfl) (cW (fun _ _ _ _ _ h=>h)) (ol:=?_) ?hol ?_
   case hol=>simp only[zw,zQ,zR]; try rfl
   intro w7 hE;replace hB1:=hB1.ext hE; replace hB3:=hB3.ext hE; (try replace hD1:=hD1.ext hE); (try replace hD2:=hD2.ext hE); replace hX:=hX.trans hE;clear hE;refine ⟨_,(jM.blk hB1 jM.nil),?_⟩;refine aY (aH (c:=0) gU rfl eJ rfl rfl) (aY (aB) (aY (aB) ?_));simp only[zz];refine cF rfl (fun _ ⟨hB1,_⟩=>(hB1.lies1 iV rfl)) ?_;simp only[zz];refine cZ ?_;refine bS rfl rfl (Ac _ hD1.here hD2.here (rI hge) (by simp only[cU]; omega) (Nat.le_trans hla (by decide))) ?_;rintro v w8 hE ⟨⟨A3,c3,rfl,hD3⟩,_⟩;replace hB1:=hB1.ext hE; replace hB3:=hB3.ext hE; replace hX:=hX.trans hE;clear hE;simp only[cU] at hD3 ⊢;have hl3:=rI (Nat.sub_le a.natAbs b.natAbs);simp only[zz];refine aC (⟨⟨hB1,trivial⟩,?_⟩);refine cZ (bS rfl rfl (nO _ hD3 (Nat.le_trans hl3 (Nat.le_trans hla (by decide)))) ?_);rintro v w9 hE rfl;replace hB1:=hB1.ext hE; replace hB3:=hB3.ext hE; replace hX:=hX.trans hE;clear hE;simp only[cU];simp only[zz];refine aC (⟨⟨hB1,trivial⟩,?_⟩);refine cZ ?_;refine cC rfl (by simp only[zz]; rfl) (by exact aG) hB3 (by simp) (by simp [Value.oneCell']) ?_;clear hB3; intro w10 hC hB3;replace hB1:=hB1.chg hC (by first | exact hN1_3 | exact Ne.symm hN3_1); replace hX:=hX.chg hC hG3;clear hC;simp only[zy,zx,aX,Nat.reduceAdd] at hB3;refine aC (⟨⟨hB1,trivial⟩,?_⟩);refine bA ?_;rw [Sd hc1 hge] at hB3;refine hK9 _ _ (wp_ret ?_);try simp only[Exit.inBlock,Exit.then]
   refine bU rfl ⟨_,rfl,(hB3.lies aR aG rfl rfl)⟩ ?_;try simp only[zD,zE]
   exact ⟨_,rfl,hX,rfl⟩
  ·
   have hlt : a.natAbs < b.natAbs:=Nat.lt_of_not_le fun h=>hc2 (Bm.2 h);refine wp_skip (hK7 _ _ ?_);refine aF (fun K10 hK10=>?_);refine dS [(0,true),(2,true),(3,true),(1,true),(4,false),(5,false),(6,false)] aN (by kernel_rfl) (cW (fun _ _ _ _ _ h=>h)) (ol:=?_) ?hol ?_
   case hol=>simp only[zw,zQ,zR]; try rfl
   intro w7 hE;replace hB2:=hB2.ext hE; replace hB3:=hB3.ext hE; (try replace hD1:=hD1.ext hE); (try replace hD2:=hD2.ext hE); replace hX:=hX.trans hE;clear hE;refine ⟨_,(jM.blk hB2 jM.nil),?_⟩;refine aY (aH (c:=0) gU rfl eJ rfl rfl) (aY (aB) (aY (aB) ?_));simp only[zz];refine cF rfl (fun _ ⟨hB2,_⟩=>(hB2.lies1 iV rfl)) ?_;simp only[zz];refine cZ ?_;refine bS rfl rfl (Ac _ hD2.here hD1.here (rI (Nat.le_of_lt hlt)) (by simp only[cU]; omega) (Nat.le_trans hlb (by decide))) ?_;rintro v w8 hE ⟨⟨A3,c3,rfl,hD3⟩,_⟩;replace hB2:=hB2.ext hE; replace hB3:=hB3.ext hE; replace hX:=hX.trans hE;clear hE;simp only[cU] at hD3 ⊢;have hl3:=rI (Nat.sub_le b.natAbs a.natAbs);simp only[zz];refine aC (⟨⟨hB2,trivial⟩,?_⟩);refine cZ (bS rfl rfl (nO _ hD3 (Nat.le_trans hl3 (Nat.le_trans hlb (by decide)))) ?_);rintro v w9 hE rfl;replace hB2:=hB2.ext hE; replace hB3:=hB3.ext hE; replace hX:=hX.trans hE;clear hE;simp only[cU];simp only[zz];refine aC (⟨⟨hB2,trivial⟩,?_⟩);refine cZ ?_;refine cC rfl (by simp only[zz]; rfl) (by exact aG) hB3 (by simp) (by simp [Value.oneCell']) ?_;clear hB3; intro w10 hC hB3;replace hB2:=hB2.chg hC (by first | exact hN2_3 | exact Ne.symm hN3_2); replace hX:=hX.chg hC hG3;clear hC;simp only[zy,zx,aX,Nat.reduceAdd] at hB3;refine aC (⟨⟨hB2,trivial⟩,?_⟩);refine bA ?_;rw [Sc hc1 hlt] at hB3;refine hK10 _ _ (wp_ret ?_);try simp only[Exit.inBlock,Exit.then]
   refine bU rfl ⟨_,rfl,(hB3.lies aR aG rfl rfl)⟩ ?_;try simp only[zD,zE]
   exact ⟨_,rfl,hX,rfl⟩
theorem lY {a b : Int} (ha : Bd 1000000 a) (hb : Bd 1000000 b) : dP prog 87 [W a,W b] (W (a - b)):=by
 intro w;refine ⟨acE,?_⟩;have hX:=dL.refl w
 go_enter func87,ntmps87
 refine aF (fun K1 hK1=>wp_region_lit ?_);refine gK (by simp only[zz]; rfl) ?_;intro w1 g1 hE hg1 hB1;have hG1:=Nat.le_trans hX.size hg1;replace hX:=hX.trans hE;clear hE hg1;simp only[zz];refine gK (by simp only[zz]; rfl) ?_;intro w2 g2 hE hg2 hB2;have hG2:=Nat.le_trans hX.size hg2; have hN2_1 : g2 ≠ g1:=Nat.ne_of_gt (Nat.lt_of_lt_of_le hB1.lt hg2);replace hB1:=hB1.ext hE; replace hX:=hX.trans hE;clear hE hg2;simp only[zz];refine dX cI rfl ?_;intro w3 g3 hE hg3 hB3;have hG3:=Nat.le_trans hX.size hg3; have hN3_1 : g3 ≠ g1:=Nat.ne_of_gt (Nat.lt_of_lt_of_le hB1.lt hg3); have hN3_2 : g3 ≠ g2:=Nat.ne_of_gt (Nat.lt_of_lt_of_le hB2.lt hg3);replace hB1:=hB1.ext hE; replace hB2:=hB2.ext hE; replace hX:=hX.trans hE;clear hE hg3;simp only[zz];refine aC (hK1 _ _ ?_);refine aF (fun K2 hK2=>?_);refine iW 4 aN (by kernel_rfl) ?_;simp only[zy];refine gL rfl (fun _ hE'=>((hB1.ext hE').lies aR aG rfl rfl)) ?_;simp only[zz];refine gL rfl (fun _ hE'=>((hB2.ext hE').lies aR aG rfl rfl)) ?_;simp only[zz];refine nL rfl rfl (Sh hb) ?_;simp only[zz];refine nL rfl rfl (qL ha hb.neg) ?_;simp only[zz];refine dW ?_;intro w4 hE;replace hB3:=hB3.ext hE; replace hX:=hX.trans hE;clear hE;refine cC rfl (by simp only[zz]; rfl) (by exact aG) hB3 (by simp) (by simp [Value.oneCell']) ?_;clear hB3; intro w5 hC hB3;replace hX:=hX.chg hC hG3;clear hC;simp only[zy,zx,aX,Nat.reduceAdd] at hB3;refine aC ?_;rw [← Int.sub_eq_add_neg] at hB3;refine hK2 _ _ (wp_ret ?_);try simp only[Exit.inBlock,Exit.then]
 refine bU rfl ⟨_,rfl,(hB3.lies aR aG rfl rfl)⟩ ?_;try simp only[zD,zE]
 exact ⟨_,rfl,hX,rfl⟩
theorem fZ {a b : Int} (ha : Bd 1000000 a) (hb : Bd 1000000 b) : dP prog 52 [W a,W b] (W (a * b)):=by
 intro w;refine ⟨ab8,?_⟩;have hX:=dL.refl w;have hla : (digs 65536 a.natAbs).length ≤ 1000000:=kF ha;have hlb : (digs 65536 b.natAbs).length ≤ 1000000:=kF hb;have hls:=Pa ha hb
 go_enter func52,ntmps52
 refine aF (fun K1 hK1=>wp_region_lit ?_);refine gK (by simp only[zz]; rfl) ?_;intro w1 g1 hE hg1 hB1;have hG1:=Nat.le_trans hX.size hg1;replace hX:=hX.trans hE;clear hE hg1;simp only[zz];refine gK (by simp only[zz]; rfl) ?_;intro w2 g2 hE hg2 hB2;have hG2:=Nat.le_trans hX.size hg2; have hN2_1 : g2 ≠ g1:=Nat.ne_of_gt (Nat.lt_of_lt_of_le hB1.lt hg2);replace hB1:=hB1.ext hE; replace hX:=hX.trans hE;clear hE hg2;simp only[zz];refine dX cI rfl ?_;intro w3 g3 hE hg3 hB3;have hG3:=Nat.le_trans hX.size hg3; have hN3_1 : g3 ≠ g1:=Nat.ne_of_gt (Nat.lt_of_lt_of_le hB1.lt hg3); have hN3_2 : g3 ≠ g2:=Nat.ne_of_gt (Nat.lt_of_lt_of_le hB2.lt hg3);replace hB1:=hB1.ext hE; replace hB2:=hB2.ext hE; replace hX:=hX.trans hE;clear hE hg3;simp only[zz];refine aC (hK1 _ _ ?_);refine aF (fun K2 hK2=>?_);refine dS [(0,true),(2,true),(1,true),(3,true),(4,true),(5,true),(7,true),(6,false),(8,false),(9,false),(10,false),(11,false)] aN (by kernel_rfl) (cW (fun _ _ _ _ _ h=>h)) (ol:=?_) ?hol ?_
 case hol=>simp only[zw,zQ,zR]; try rfl
 intro w4 hE;replace hB1:=hB1.ext hE; replace hB2:=hB2.ext hE; replace hB3:=hB3.ext hE; replace hX:=hX.trans hE;clear hE;refine ⟨_,(jM.blk hB1 (jM.blk hB2 jM.nil)),?_⟩;refine aY (aH (c:=0) gU rfl eJ rfl rfl) (aY (aH (c:=0) gU rfl eJ rfl rfl) ?_);simp only[zz];refine cF rfl (fun _ ⟨hB1,hB2,_⟩=>(hB1.lies1 iV rfl)) ?_;simp only[zz];refine cF rfl (fun _ ⟨hB1,hB2,_⟩=>(hB2.lies1 iV rfl)) ?_;simp only[zz];refine aY (Aw xF rfl rfl) ?_;simp only[zz];refine cF rfl (fun _ ⟨hB1,hB2,_⟩=>(hB1.lies aR aG rfl rfl)) ?_;simp only[zz];refine cF rfl (fun _ ⟨hB1,hB2,_⟩=>(hB2.lies aR aG rfl rfl)) ?_;simp only[zz];refine cZ (bS rfl rfl (kW _ (fF ha)) ?_);rintro v w5 hE ⟨A1,c1,rfl,hD1⟩;replace hB1:=hB1.ext hE; replace hB2:=hB2.ext hE; replace hB3:=hB3.ext hE; replace hX:=hX.trans hE;clear hE;rw [fE] at hD1 ⊢;simp only[zz];refine aC (⟨⟨hB1,hB2,trivial⟩,?_⟩);refine cZ (bS rfl rfl (kW _ (fF hb)) ?_);rintro v w6 hE ⟨A2,c2,rfl,hD2⟩;replace hB1:=hB1.ext hE; replace hB2:=hB2.ext hE; replace hB3:=hB3.ext hE; (try replace hD1:=hD1.ext hE); replace hX:=hX.trans hE;clear hE;rw [fE] at hD2 ⊢;simp only[zz];refine aC (⟨⟨hB1,hB2,trivial⟩,?_⟩);refine cZ (bS rfl rfl (Mw _ hD1.here hD2.here (Nat.le_trans hla (by decide)) (Nat.le_trans hlb (by decide))) ?_);rintro v w7 hE ⟨⟨A3,c3,rfl,hD3⟩,_⟩;replace hB1:=hB1.ext hE; replace hB2:=hB2.ext hE; replace hB3:=hB3.ext hE; replace hX:=hX.trans hE;clear hE;simp only[cU] at hD3 ⊢;rw [← Int.natAbs_mul] at hD3 ⊢;simp only[zz];refine aC (⟨⟨hB1,hB2,trivial⟩,?_⟩);refine cZ (bS rfl rfl (nO _ hD3 (Nat.le_trans hls (by decide))) ?_);rintro v w8 hE rfl;replace hB1:=hB1.ext hE; replace hB2:=hB2.ext hE; replace hB3:=hB3.ext hE; replace hX:=hX.trans hE;clear hE;simp only[cU];simp only[zz];refine aC (⟨⟨hB1,hB2,trivial⟩,?_⟩);refine cZ ?_;refine cC rfl (by simp only[zz]; rfl) (by exact aG) hB3 (by simp) (by simp [Value.oneCell']) ?_;clear hB3; intro w9 hC hB3;replace hB1:=hB1.chg hC (by first | exact hN1_3 | exact Ne.symm hN3_1); replace hB2:=hB2.chg hC (by first | exact hN2_3 | exact Ne.symm hN3_2); replace hX:=hX.chg hC hG3;clear hC;simp only[zy,zx,aX,Nat.reduceAdd] at hB3;refine aC (⟨⟨hB1,hB2,trivial⟩,?_⟩);refine bA ?_;rw [Int.natAbs_mul,Ms] at hB3;refine hK2 _ _ (wp_ret ?_);try simp only[Exit.inBlock,Exit.then]
 refine bU rfl ⟨_,rfl,(hB3.lies aR aG rfl rfl)⟩ ?_;try simp only[zD,zE]
 exact ⟨_,rfl,hX,rfl⟩
theorem aaQ {a b : Int} (ha : Bd 900000 a) (hb : Bd 900000 b) : dP prog 51 [W a,W b] (.int .i64 (dG (a - b))):=by
 intro w;refine ⟨ab7,?_⟩;have hX:=dL.refl w
 go_enter func51,ntmps51
 refine aF (fun K1 hK1=>wp_region_lit ?_);refine gK (by simp only[zz]; rfl) ?_;intro w1 g1 hE hg1 hB1;have hG1:=Nat.le_trans hX.size hg1;replace hX:=hX.trans hE;clear hE hg1;simp only[zz];refine gK (by simp only[zz]; rfl) ?_;intro w2 g2 hE hg2 hB2;have hG2:=Nat.le_trans hX.size hg2; have hN2_1 : g2 ≠ g1:=Nat.ne_of_gt (Nat.lt_of_lt_of_le hB1.lt hg2);replace hB1:=hB1.ext hE; replace hX:=hX.trans hE;clear hE hg2;simp only[zz];refine aA (aD) ?_;simp only[zz];refine aC (hK1 _ _ ?_);refine aF (fun K2 hK2=>wp_region_lit ?_);refine aI rfl (hB1.lies aR aG rfl rfl) ?_;simp only[zz];refine aI rfl (hB2.lies aR aG rfl rfl) ?_;simp only[zz];refine gA rfl rfl (lY (ha.mono (by decide)) (hb.mono (by decide))) ?_;intro w3 hE;replace hX:=hX.trans hE;clear hE;simp only[zz];refine gA rfl rfl (lQ ((Bd.sub ha hb).mono (by decide))) ?_;intro w4 hE;replace hX:=hX.trans hE;clear hE;simp only[zz];refine aA (aD) ?_;simp only[zz];refine aC (hK2 _ _ ?_);refine wp_ret ?_;try simp only[Exit.inBlock,Exit.then]
 refine bU rfl rfl ?_;try simp only[zD,zE]
 exact ⟨_,rfl,hX,rfl⟩
theorem dO {n : Int} (h : jG n) : dP prog 39 [.int .i64 n] (W n):=by
 intro w;refine ⟨abV,?_⟩;have hX:=dL.refl w;have hna:=h.natAbs
 go_enter func39,ntmps39
 refine aF (fun K1 hK1=>wp_region_lit ?_);refine dX cI rfl ?_;intro w1 g1 hE hg1 hB1;have hG1:=Nat.le_trans hX.size hg1;replace hX:=hX.trans hE;clear hE hg1;simp only[zz];refine aC (hK1 _ _ ?_);refine aF (fun K2 hK2=>wp_region_lit (aA (aD) ?_));simp only[zz];obtain ⟨b3,hb3e,hb3l⟩:=hX.base;have hS3:=sC.of hX hb3e;have hO3:=jT.nil_of hX b3 3 1;have hl3_1 : g1 < b3:=by rw [hb3e]; exact hB1.lt
 clear hb3e;refine aC (hK2 _ _ ?_);refine aF (fun K3 hK3=>?_);rcases (show n < 0 ∨ 0 ≤ n by omega) with h0 | h0
 ·
  have hwn : true = cN n:=(decide_eq_true h0).symm;refine wp_region_lit (aA (aB) (aA (eL gM jB rfl (Mv h h0)) (aA (aD) ?_)));simp only[zz];refine aC (hK3 _ _ ?_);refine aF (fun K4 hK4=>aF (fun K5 hK5=>wp_region_lit (aA (aB) (aA (cK rfl rfl (by omega)) ?_))));simp only[zz];refine aC (hK5 _ _ ?_);refine bX rfl (wp_region_lit (aA (aB) (aA (oW rfl (Ej hna (by omega))) (aA (aD) ?_))));simp only[zz];refine aC (hK4 _ _ ?_);refine aF (fun K6 hK6=>wp_block ?_);refine dI [3,4] [11,12,13,14,15,16,17,18,19,20] (fun k vs wl=>∃ (m : Nat) (os : List Nat) (v3 : Value),vs = [v3,.int .u64 (m : Int)] ∧ (dL w wl) ∧ (fW wl g1 [.bool false,.string ⟨#[]⟩] 35) ∧ (sC wl b3) ∧ (jT wl b3 3 1 v3 os.length (os.map pT)) ∧ (val 65536 os + 65536 ^ os.length * m = n.natAbs) ∧ (dD 65536 os) ∧ (m ≤ 9223372036854775808) ∧ (os.length + m ≤ 9223372036854775808 + 64) ∧ (m < 2 ^ (64 - os.length)) ∧ (os.length ≤ 64) ∧ (k = m)) ?_ ?_
  ·
   apply Exists.intro;simp only[zQ,zR,zD,zE];exact ⟨n.natAbs,[],_,rfl,hX,hB1,hS3,hO3,by simp [val],kE _,hna,by simp; omega,by simp; omega,by simp,rfl⟩
  ·
   intro n vs wr hI u;obtain ⟨m,os,v3,rfl,hX,hB1,hS3,hO3,hv,hd,hm,hol,hol2,hol3,hn⟩:=hI;simp only[zv,zF,zG];refine aF (fun K7 hK7=>aF (fun K8 hK8=>wp_region_lit (aA (aB) (aA (gS rfl rfl) ?_))));simp only[zz];refine aC (hK8 _ _ ?_);refine cQ rfl (fun hc2=>?_) (fun hc2=>?_)
   ·
    refine wp_skip ?_;refine hK7 _ _ (wp_block (aF (fun K9 hK9=>wp_region_lit (aA (aB) (aA (aB) (aA (kD rfl rfl (by omega) (kZ (n:=65536))) ?_))))));simp only[zz];refine aA (eL jB gM rfl (aQ (by omega) (by omega))) ?_;simp only[zz];refine cH bN (z:=.int .i64 0) (by kernel_rfl) rfl (by simp only[zz]; rfl) (by rfl) ?_;intro w2 g2 hE hg2 hB2;have hG2:=Nat.le_trans hX.size hg2; have hN2_1 : g2 ≠ g1:=Nat.ne_of_gt (Nat.lt_of_lt_of_le hB1.lt hg2);replace hB1:=hB1.ext hE; (try replace hS3:=hS3.ext hE); (try replace hO3:=hO3.ext hE); replace hX:=hX.trans hE;clear hE hg2;simp only[zz];refine gT rfl bN gV rfl (by decide) rfl hO3 rfl (news:=_) rfl hB2.row0 (by simp [Value.oneCell']) (by omega) (by omega) hS3.h ?_;clear hO3; intro v3 w3 hO3 hGr _;replace hB1:=hB1.grew hGr hl3_1; (try replace hS3:=hS3.grew hGr (by first | trivial | omega)); replace hX:=hX.grown hGr hb3l;clear hGr;replace hO3:=hO3.snoc;simp only[zz];refine aA (aD) ?_;simp only[zz];refine aC (hK9 _ _ ?_);refine wp_region_lit (aA (aB) (aA (oH rfl rfl (by omega) (zZ (n:=65536) (by omega))) (aA (aD) ?_)));simp only[zz];refine aC ?_;have r:=Bp hv hd hol2 hol3 (show 0 < m by omega);simp only[Exit.inBlock,Exit.then];refine ⟨m / 65536,_,?_,rfl,?_,?_⟩
    · omega
    · simp only[zz,zv]
    ·
     simp only[zQ,zR,zD,zE];exact ⟨m / 65536,os ++ [m % 65536],v3,rfl,hX,hB1,hS3,hO3,r.1,r.2.1,by omega,by simp; omega,r.2.2.1,r.2.2.2,rfl⟩
   ·
    refine wp_exit ?_;refine hK6 _ _ (aF (fun K10 hK10=>?_));obtain rfl : m = 0:=by omega
    rw [Nat.mul_zero,Nat.add_zero] at hv;obtain ⟨A3,c3,rfl,hD,_⟩:=dC.of_owns hO3 rfl hd (by omega);refine wp_region_lit (aA (aB) (aA (cK rfl rfl (by omega)) (aA (aB) ?_)));simp only[zz];refine bS rfl rfl (nO _ hD (by omega)) ?_;rintro v w2 hE rfl;replace hB1:=hB1.ext hE; replace hX:=hX.trans hE;clear hE;rw [hv,hwn,wE];simp only[zz];refine cC rfl (by simp only[zz]; rfl) (by exact aG) hB1 (by simp) (by simp [Value.oneCell']) ?_;clear hB1; intro w3 hC hB1;replace hX:=hX.chg hC hG1;clear hC;simp only[zy,zx,aX,Nat.reduceAdd] at hB1;refine aC (hK10 _ _ ?_);refine wp_ret ?_;try simp only[Exit.inBlock,Exit.then]
    refine bU rfl ⟨_,rfl,(hB1.lies aR aG rfl rfl)⟩ ?_;try simp only[zD,zE]
    exact ⟨_,rfl,hX,rfl⟩
 ·
  have hwn : false = cN n:=(decide_eq_false (by omega)).symm;refine wp_region_lit (aA (aB) (aA (eL gM jB rfl (Se h h0)) (aA (aD) ?_)));simp only[zz];refine aC (hK3 _ _ ?_);refine aF (fun K11 hK11=>aF (fun K12 hK12=>wp_region_lit (aA (aB) (aA (fA rfl rfl (by omega)) ?_))));simp only[zz];refine aC (hK12 _ _ ?_);refine eQ rfl (wp_skip ?_);refine hK11 _ _ (aF (fun K13 hK13=>wp_block ?_));refine dI [3,4] [11,12,13,14,15,16,17,18,19,20] (fun k vs wl=>∃ (m : Nat) (os : List Nat) (v3 : Value),vs = [v3,.int .u64 (m : Int)] ∧ (dL w wl) ∧ (fW wl g1 [.bool false,.string ⟨#[]⟩] 35) ∧ (sC wl b3) ∧ (jT wl b3 3 1 v3 os.length (os.map pT)) ∧ (val 65536 os + 65536 ^ os.length * m = n.natAbs) ∧ (dD 65536 os) ∧ (m ≤ 9223372036854775808) ∧ (os.length + m ≤ 9223372036854775808 + 64) ∧ (m < 2 ^ (64 - os.length)) ∧ (os.length ≤ 64) ∧ (k = m)) ?_ ?_
  ·
   apply Exists.intro;simp only[zQ,zR,zD,zE];exact ⟨n.natAbs,[],_,rfl,hX,hB1,hS3,hO3,by simp [val],kE _,hna,by simp; omega,by simp; omega,by simp,rfl⟩
  ·
   intro n vs wr hI u;obtain ⟨m,os,v3,rfl,hX,hB1,hS3,hO3,hv,hd,hm,hol,hol2,hol3,hn⟩:=hI;simp only[zv,zF,zG];refine aF (fun K14 hK14=>aF (fun K15 hK15=>wp_region_lit (aA (aB) (aA (gS rfl rfl) ?_))));simp only[zz];refine aC (hK15 _ _ ?_);refine cQ rfl (fun hc2=>?_) (fun hc2=>?_)
   ·
    refine wp_skip ?_;refine hK14 _ _ (wp_block (aF (fun K16 hK16=>wp_region_lit (aA (aB) (aA (aB) (aA (kD rfl rfl (by omega) (kZ (n:=65536))) ?_))))));simp only[zz];refine aA (eL jB gM rfl (aQ (by omega) (by omega))) ?_;simp only[zz];refine cH bN (z:=.int .i64 0) (by kernel_rfl) rfl (by simp only[zz]; rfl) (by rfl) ?_;intro w2 g2 hE hg2 hB2;have hG2:=Nat.le_trans hX.size hg2; have hN2_1 : g2 ≠ g1:=Nat.ne_of_gt (Nat.lt_of_lt_of_le hB1.lt hg2);replace hB1:=hB1.ext hE; (try replace hS3:=hS3.ext hE); (try replace hO3:=hO3.ext hE); replace hX:=hX.trans hE;clear hE hg2;simp only[zz];refine gT rfl bN gV rfl (by decide) rfl hO3 rfl (news:=_) rfl hB2.row0 (by simp [Value.oneCell']) (by omega) (by omega) hS3.h ?_;clear hO3; intro v3 w3 hO3 hGr _;replace hB1:=hB1.grew hGr hl3_1; (try replace hS3:=hS3.grew hGr (by first | trivial | omega)); replace hX:=hX.grown hGr hb3l;clear hGr;replace hO3:=hO3.snoc;simp only[zz];refine aA (aD) ?_;simp only[zz];refine aC (hK16 _ _ ?_);refine wp_region_lit (aA (aB) (aA (oH rfl rfl (by omega) (zZ (n:=65536) (by omega))) (aA (aD) ?_)));simp only[zz];refine aC ?_;have r:=Bp hv hd hol2 hol3 (show 0 < m by omega);simp only[Exit.inBlock,Exit.then];refine ⟨m / 65536,_,?_,rfl,?_,?_⟩
    · omega
    · simp only[zz,zv]
    ·
     simp only[zQ,zR,zD,zE];exact ⟨m / 65536,os ++ [m % 65536],v3,rfl,hX,hB1,hS3,hO3,r.1,r.2.1,by omega,by simp; omega,r.2.2.1,r.2.2.2,rfl⟩
   ·
    refine wp_exit ?_;refine hK13 _ _ (aF (fun K17 hK17=>?_));obtain rfl : m = 0:=by omega
    rw [Nat.mul_zero,Nat.add_zero] at hv;obtain ⟨A3,c3,rfl,hD,_⟩:=dC.of_owns hO3 rfl hd (by omega);refine wp_region_lit (aA (aB) (aA (fA rfl rfl (by omega)) (aA (aB) ?_)));simp only[zz];refine bS rfl rfl (nO _ hD (by omega)) ?_;rintro v w2 hE rfl;replace hB1:=hB1.ext hE; replace hX:=hX.trans hE;clear hE;rw [hv,hwn,wE];simp only[zz];refine cC rfl (by simp only[zz]; rfl) (by exact aG) hB1 (by simp) (by simp [Value.oneCell']) ?_;clear hB1; intro w3 hC hB1;replace hX:=hX.chg hC hG1;clear hC;simp only[zy,zx,aX,Nat.reduceAdd] at hB1;refine aC (hK17 _ _ ?_);refine wp_ret ?_;try simp only[Exit.inBlock,Exit.then]
    refine bU rfl ⟨_,rfl,(hB1.lies aR aG rfl rfl)⟩ ?_;try simp only[zD,zE]
    exact ⟨_,rfl,hX,rfl⟩
end Go.Proofs.YtimjandkmfcmiaaGreatDoor
namespace Go.Proofs.YtimjandkmfcmiaaGreatDoor
open Tryz
open Go.RowKit Go.Lith
set_option maxRecDepth 100000
attribute [local irreducible] wpList wpQuiet eS Code.wp
theorem Gt {a b : Int} (ha : Bd 1000000 a) (hb : Bd 1000000 b) (h0 : b ≠ 0) : dP prog 115 [W a,W b] (.tuple #[W (a.tdiv b),W (a.tmod b),.bool true]):=by
 intro w;refine ⟨Zo,?_⟩;have hX:=dL.refl w;have hla : (digs 65536 a.natAbs).length ≤ 1000000:=kF ha;have hlb : (digs 65536 b.natAbs).length ≤ 1000000:=kF hb;have hq : (digs 65536 (a.tdiv b).natAbs).length ≤ 1000000:=kF (show Bd 1000000 (a.tdiv b) from ha.of_le (by rw [Int.natAbs_tdiv]; exact Nat.div_le_self ..));have hr : (digs 65536 (a.tmod b).natAbs).length ≤ 1000000:=kF (show Bd 1000000 (a.tmod b) from ha.of_le (by rw [Int.natAbs_tmod]; exact Nat.mod_le ..));rw [Int.natAbs_tdiv] at hq;rw [Int.natAbs_tmod] at hr
 go_enter func115,ntmps115
 refine aF (fun K1 hK1=>wp_region_lit ?_);refine gK (by simp only[zz]; rfl) ?_;intro w1 g1 hE hg1 hB1;have hG1:=Nat.le_trans hX.size hg1;replace hX:=hX.trans hE;clear hE hg1;simp only[zz];refine gK (by simp only[zz]; rfl) ?_;intro w2 g2 hE hg2 hB2;have hG2:=Nat.le_trans hX.size hg2; have hN2_1 : g2 ≠ g1:=Nat.ne_of_gt (Nat.lt_of_lt_of_le hB1.lt hg2);replace hB1:=hB1.ext hE; replace hX:=hX.trans hE;clear hE hg2;simp only[zz];refine dX cI rfl ?_;intro w3 g3 hE hg3 hB3;have hG3:=Nat.le_trans hX.size hg3; have hN3_1 : g3 ≠ g1:=Nat.ne_of_gt (Nat.lt_of_lt_of_le hB1.lt hg3); have hN3_2 : g3 ≠ g2:=Nat.ne_of_gt (Nat.lt_of_lt_of_le hB2.lt hg3);replace hB1:=hB1.ext hE; replace hB2:=hB2.ext hE; replace hX:=hX.trans hE;clear hE hg3;simp only[zz];refine dX cI rfl ?_;intro w4 g4 hE hg4 hB4;have hG4:=Nat.le_trans hX.size hg4; have hN4_1 : g4 ≠ g1:=Nat.ne_of_gt (Nat.lt_of_lt_of_le hB1.lt hg4); have hN4_2 : g4 ≠ g2:=Nat.ne_of_gt (Nat.lt_of_lt_of_le hB2.lt hg4); have hN4_3 : g4 ≠ g3:=Nat.ne_of_gt (Nat.lt_of_lt_of_le hB3.lt hg4);replace hB1:=hB1.ext hE; replace hB2:=hB2.ext hE; replace hB3:=hB3.ext hE; replace hX:=hX.trans hE;clear hE hg4;simp only[zz];refine aA (aD) ?_;simp only[zz];refine aC (hK1 _ _ ?_);refine aF (fun K2 hK2=>wp_region_lit ?_);refine aI rfl (hB2.lies aR aG rfl rfl) ?_;simp only[zz];refine bS rfl rfl (kW _ (fF hb)) ?_;rintro v w5 hE ⟨A1,c1,rfl,hD1⟩;replace hB1:=hB1.ext hE; replace hB2:=hB2.ext hE; replace hB3:=hB3.ext hE; replace hB4:=hB4.ext hE; replace hX:=hX.trans hE;clear hE;rw [fE] at hD1 ⊢;simp only[zz];refine aA (aD) ?_;simp only[zz];refine aC (hK2 _ _ ?_);refine aF (fun K3 hK3=>aF (fun K4 hK4=>wp_region_lit (aA (aB) (aA (bR rfl bN rfl) (aA (kL rfl rfl (fun e=>h0 (xO.1 e))) ?_)))));simp only[zz];refine aC (hK4 _ _ ?_);refine eQ rfl (wp_skip ?_);refine hK3 _ _ (aF (fun K5 hK5=>wp_region_lit ?_));refine aI rfl (hB1.lies aR aG rfl rfl) ?_;simp only[zz];refine bS rfl rfl (kW _ (fF ha)) ?_;rintro v w6 hE ⟨A2,c2,rfl,hD2⟩;replace hB1:=hB1.ext hE; replace hB2:=hB2.ext hE; replace hB3:=hB3.ext hE; replace hB4:=hB4.ext hE; (try replace hD1:=hD1.ext hE); replace hX:=hX.trans hE;clear hE;rw [fE] at hD2 ⊢;simp only[zz];refine aA (aB) ?_;simp only[zz];refine bS rfl rfl (Sg _ hD2.here hD1.here (gW _) (by rw [cU]; omega) (Nat.le_trans hla (by decide)) (Nat.le_trans hlb (by decide))) ?_;rintro v w7 hE ⟨_,_,rfl,⟨A3,c3,rfl,hD3⟩,⟨A4,c4,rfl,hD4⟩⟩;replace hB1:=hB1.ext hE; replace hB2:=hB2.ext hE; replace hB3:=hB3.ext hE; replace hB4:=hB4.ext hE; replace hX:=hX.trans hE;clear hE;simp only[cU] at hD3 hD4 ⊢;simp only[zz];refine aA (aB) (aA (aT rfl rfl) (aA (aT rfl rfl) ?_));simp only[zz];refine aA (aD) (aA (aD) ?_);simp only[zz];refine aC (hK5 _ _ ?_);refine aF (fun K6 hK6=>?_);refine dS [(0,true),(2,true),(5,true),(7,true),(9,true),(1,true),(3,true),(4,true),(8,true),(6,false),(10,false),(11,false),(12,false),(13,true)] aN (by kernel_rfl) (cW (fun _ _ _ _ _ h=>h)) (ol:=?_) ?hol ?_
 case hol=>simp only[zw,zQ,zR]; try rfl
 intro w8 hE;replace hB1:=hB1.ext hE; replace hB2:=hB2.ext hE; replace hB3:=hB3.ext hE; replace hB4:=hB4.ext hE; (try replace hD3:=hD3.ext hE); (try replace hD4:=hD4.ext hE); replace hX:=hX.trans hE;clear hE;refine ⟨_,(jM.blk hB1 (jM.blk hB2 jM.nil)),?_⟩;refine aY (aH (c:=0) gU rfl eJ rfl rfl) (aY (aH (c:=0) gU rfl eJ rfl rfl) (aY (aB) ?_));simp only[zz];refine aY (aH (c:=0) gU rfl eJ rfl rfl) (aY (aB) ?_);simp only[zz];refine cF rfl (fun _ ⟨hB1,hB2,_⟩=>(hB1.lies1 iV rfl)) ?_;simp only[zz];refine cF rfl (fun _ ⟨hB1,hB2,_⟩=>(hB2.lies1 iV rfl)) ?_;simp only[zz];refine aY (Aw xF rfl rfl) ?_;simp only[zz];refine cF rfl (fun _ ⟨hB1,hB2,_⟩=>(hB1.lies1 iV rfl)) ?_;simp only[zz];refine cZ (bS rfl rfl (nO _ hD3 (Nat.le_trans hq (by decide))) ?_);rintro v w9 hE rfl;replace hB1:=hB1.ext hE; replace hB2:=hB2.ext hE; replace hB3:=hB3.ext hE; replace hB4:=hB4.ext hE; (try replace hD4:=hD4.ext hE); replace hX:=hX.trans hE;clear hE;simp only[cU,Mt];simp only[zz];refine aC (⟨⟨hB1,hB2,trivial⟩,?_⟩);refine cZ (bS rfl rfl (nO _ hD4 (Nat.le_trans hr (by decide))) ?_);rintro v w10 hE rfl;replace hB1:=hB1.ext hE; replace hB2:=hB2.ext hE; replace hB3:=hB3.ext hE; replace hB4:=hB4.ext hE; replace hX:=hX.trans hE;clear hE;simp only[cU,Mu];simp only[zz];refine aC (⟨⟨hB1,hB2,trivial⟩,?_⟩);refine cZ ?_;refine cC rfl (by simp only[zz]; rfl) (by exact aG) hB3 (by simp) (by simp [Value.oneCell']) ?_;clear hB3; intro w11 hC hB3;replace hB1:=hB1.chg hC (by first | exact hN1_3 | exact Ne.symm hN3_1); replace hB2:=hB2.chg hC (by first | exact hN2_3 | exact Ne.symm hN3_2); replace hB4:=hB4.chg hC (by first | exact hN4_3 | exact Ne.symm hN3_4); replace hX:=hX.chg hC hG3;clear hC;simp only[zy,zx,aX,Nat.reduceAdd] at hB3;refine aC (⟨⟨hB1,hB2,trivial⟩,?_⟩);refine cZ ?_;refine cC rfl (by simp only[zz]; rfl) (by exact aG) hB4 (by simp) (by simp [Value.oneCell']) ?_;clear hB4; intro w12 hC hB4;replace hB1:=hB1.chg hC (by first | exact hN1_4 | exact Ne.symm hN4_1); replace hB2:=hB2.chg hC (by first | exact hN2_4 | exact Ne.symm hN4_2); replace hB3:=hB3.chg hC (by first | exact hN3_4 | exact Ne.symm hN4_3); replace hX:=hX.chg hC hG4;clear hC;simp only[zy,zx,aX,Nat.reduceAdd] at hB4;refine aC (⟨⟨hB1,hB2,trivial⟩,?_⟩);refine aY (aD) ?_;simp only[zz];refine bA (hK6 _ _ ?_);refine wp_ret ?_;try simp only[Exit.inBlock,Exit.then]
 refine oJ rfl ⟨_,rfl,(hB3.lies aR aG rfl rfl)⟩ ⟨_,rfl,(hB4.lies aR aG rfl rfl)⟩ rfl ?_;try simp only[zD,zE]
 exact ⟨_,rfl,hX,rfl⟩
theorem aaR {a b : Int} (ha : Bd 1000000 a) (hb : Bd 1000000 b) : dP prog 113 [W a,W b] (W (Int.gcd a b : Int)):=by
 intro w;refine ⟨Zm,?_⟩;have hX:=dL.refl w;obtain ⟨K,hK⟩ : ∃ K,K = 2 ^ 1000000:=⟨_,rfl⟩
 have ha' : a.natAbs < K:=by rw [hK]; exact ha
 have hb' : b.natAbs < K:=by rw [hK]; exact hb
 have hlen : ∀ V : Nat,V < K → (digs 65536 V).length ≤ 1000000:=fun V h=>kF (by rw [← hK]; exact h);clear hK
 go_enter func113,ntmps113
 refine aF (fun K1 hK1=>wp_region_lit ?_);refine gK (by simp only[zz]; rfl) ?_;intro w1 g1 hE hg1 hB1;have hG1:=Nat.le_trans hX.size hg1;replace hX:=hX.trans hE;clear hE hg1;simp only[zz];refine gK (by simp only[zz]; rfl) ?_;intro w2 g2 hE hg2 hB2;have hG2:=Nat.le_trans hX.size hg2; have hN2_1 : g2 ≠ g1:=Nat.ne_of_gt (Nat.lt_of_lt_of_le hB1.lt hg2);replace hB1:=hB1.ext hE; replace hX:=hX.trans hE;clear hE hg2;simp only[zz];refine dX cI rfl ?_;intro w3 g3 hE hg3 hB3;have hG3:=Nat.le_trans hX.size hg3; have hN3_1 : g3 ≠ g1:=Nat.ne_of_gt (Nat.lt_of_lt_of_le hB1.lt hg3); have hN3_2 : g3 ≠ g2:=Nat.ne_of_gt (Nat.lt_of_lt_of_le hB2.lt hg3);replace hB1:=hB1.ext hE; replace hB2:=hB2.ext hE; replace hX:=hX.trans hE;clear hE hg3;simp only[zz];refine aC (hK1 _ _ ?_);refine aF (fun K2 hK2=>wp_region_lit ?_);refine aI rfl (hB1.lies aR aG rfl rfl) ?_;simp only[zz];refine bS rfl rfl (kW _ (fF ha)) ?_;rintro v w4 hE ⟨A1,c1,rfl,hD1⟩;replace hB2:=hB2.ext hE; replace hB3:=hB3.ext hE; (try replace hD1:=hD1.ext hE); replace hX:=hX.trans hE;clear hE;rw [fE] at hD1 ⊢;simp only[zz];refine aA (aD) ?_;simp only[zz];refine aC (hK2 _ _ ?_);refine aF (fun K3 hK3=>wp_region_lit ?_);refine aI rfl (hB2.lies aR aG rfl rfl) ?_;simp only[zz];refine bS rfl rfl (kW _ (fF hb)) ?_;rintro v w5 hE ⟨A2,c2,rfl,hD2⟩;replace hB3:=hB3.ext hE; (try replace hD1:=hD1.ext hE); (try replace hD2:=hD2.ext hE); (try replace hD1:=hD1.ext hE); replace hX:=hX.trans hE;clear hE;rw [fE] at hD2 ⊢;simp only[zz];refine aA (aD) ?_;simp only[zz];refine aC (hK3 _ _ ?_);refine aF (fun K4 hK4=>wp_block ?_);refine dI [5,6] [7,8,13,14,15,16,17,18,19,20,21,22,23] (fun n vs wl=>∃ (X Y : Nat) (A1 A2 : Option Addr) (c1 c2 : Nat),vs = [.slice A1 (digs 65536 X).length c1,.slice A2 (digs 65536 Y).length c2] ∧ (dL w wl) ∧ (fW wl g3 [.bool false,.string ⟨#[]⟩] 35) ∧ (dC wl wl.heap.size A1 (digs 65536 X).length c1 (digs 65536 X)) ∧ (dC wl wl.heap.size A2 (digs 65536 Y).length c2 (digs 65536 Y)) ∧ (Nat.gcd X Y = Int.gcd a b) ∧ (X < K) ∧ (Y < K) ∧ (n = Y)) ?_ ?_
 ·
  apply Exists.intro;simp only[zQ,zR,zD,zE];exact ⟨a.natAbs,b.natAbs,A1,A2,c1,c2,rfl,hX,hB3,hD1.here,hD2.here,rfl,ha',hb',rfl⟩
 ·
  intro n vs wr hI u;obtain ⟨X,Y,A1,A2,c1,c2,rfl,hX,hB3,hD1,hD2,hg,hXK,hYK,hn⟩:=hI;simp only[zv,zF,zG];refine aF (fun K5 hK5=>aF (fun K6 hK6=>wp_region_lit (aA (aB) (aA (bR rfl bN rfl) (aA (gS rfl rfl) ?_)))));simp only[zz];refine aC (hK6 _ _ ?_);refine cQ rfl (fun hc1=>?_) (fun hc1=>?_)
  ·
   have hY0 : 0 < Y:=by
    rcases Nat.eq_zero_or_pos Y with h | h
    · subst h; exact absurd hc1 (by decide)
    · exact h
   refine wp_skip ?_;refine hK5 _ _ (wp_block (aF (fun K7 hK7=>wp_region_lit (aA (aB) (aA (aB) ?_)))));simp only[zz];refine bS rfl rfl (Sg _ hD1.here hD2.here (gW _) (by rw [cU]; exact hY0) (Nat.le_trans (hlen _ hXK) (by decide)) (Nat.le_trans (hlen _ hYK) (by decide))) ?_;rintro v w6 hE ⟨_,_,rfl,⟨A3,c3,rfl,hD3⟩,⟨A4,c4,rfl,hD4⟩⟩;replace hB3:=hB3.ext hE; (try replace hD2:=hD2.ext hE); (try replace hD2:=hD2.ext hE); replace hX:=hX.trans hE;clear hE;simp only[cU] at hD3 hD4 ⊢;simp only[zz];refine aA (aB) (aA (aT rfl rfl) (aA (aT rfl rfl) ?_));simp only[zz];refine aA (aD) (aA (aD) ?_);simp only[zz];refine aC (hK7 _ _ ?_);refine aF (fun K8 hK8=>wp_region_lit (aA (aB) (aA (aD) ?_)));simp only[zz];refine aC (hK8 _ _ ?_);refine wp_region_lit (aA (aB) (aA (aD) ?_));simp only[zz];refine aC ?_;simp only[Exit.inBlock,Exit.then];refine ⟨X % Y,_,?_,rfl,?_,?_⟩
   · rw [hn]; exact Nat.mod_lt _ hY0
   · simp only[zz,zv]
   ·
    simp only[zQ,zR,zD,zE];exact ⟨Y,X % Y,A2,A4,c2,c4,rfl,hX,hB3,hD2.here,hD4.here,Iv.trans hg,hYK,Nat.lt_of_le_of_lt (Nat.mod_le _ _) hXK,rfl⟩
  ·
   obtain rfl : Y = 0:=(mA (B:=65536) (by omega)).1 (List.eq_nil_of_length_eq_zero (by omega));rw [Nat.gcd_zero_right] at hg;subst hg;refine wp_exit (hK4 _ _ ?_);refine aF (fun K9 hK9=>wp_region_lit (aA (aB) ?_));simp only[zz];refine bS rfl rfl (nO _ hD1 (Nat.le_trans (hlen _ hXK) (by decide))) ?_;rintro v w6 hE rfl;replace hB3:=hB3.ext hE; replace hX:=hX.trans hE;clear hE;simp only[cU];simp only[zz];refine cC rfl (by simp only[zz]; rfl) (by exact aG) hB3 (by simp) (by simp [Value.oneCell']) ?_;clear hB3; intro w7 hC hB3;replace hX:=hX.chg hC hG3;clear hC;simp only[zy,zx,aX,Nat.reduceAdd] at hB3;refine aC (hK9 _ _ ?_);refine wp_ret ?_;try simp only[Exit.inBlock,Exit.then]
   refine bU rfl ⟨_,rfl,(hB3.lies aR aG rfl rfl)⟩ ?_;try simp only[zD,zE]
   exact ⟨_,rfl,hX,by rw [mE]; rfl⟩
theorem iT {n d : Int} (hn : Bd 400000 n) (hd : Bd 400000 d) (h0 : d ≠ 0) : dP prog 82 [W n,W d] (.tuple #[Q (Rat.divInt n d),.bool true]):=by
 intro w;refine ⟨Yd,?_⟩;have hX:=dL.refl w;obtain ⟨e1,hg0⟩:=Bj (n:=n) h0;have e2:=Bk (n:=n) h0;have hn':=hn.mono (show 400000 ≤ 1000000 by decide);have hd':=hd.mono (show 400000 ≤ 1000000 by decide);have hs1 : Bd 1 (dG d):=by unfold Bd dG; split <;> (try split) <;> decide
 have hg : Bd 400001 ((Int.gcd n d : Int)):=by
  have h1 : Int.gcd n d ∣ d.natAbs:=Nat.gcd_dvd_right ..;have h2:=Nat.le_of_dvd (by omega) h1;exact (hd.of_le (by simpa using h2)).mono (by decide)
 have hG : Bd 1000000 ((Int.gcd n d : Int) * dG d):=(hg.mul hs1).mono (by decide);obtain ⟨G,hGe⟩ : ∃ G,G = (Int.gcd n d : Int) * dG d:=⟨_,rfl⟩
 rw [← hGe] at e1 e2 hg0 hG
 go_enter func82,ntmps82
 refine aF (fun K1 hK1=>wp_region_lit ?_);refine gK (by simp only[zz]; rfl) ?_;intro w1 g1 hE hg1 hB1;have hG1:=Nat.le_trans hX.size hg1;replace hX:=hX.trans hE;clear hE hg1;simp only[zz];refine gK (by simp only[zz]; rfl) ?_;intro w2 g2 hE hg2 hB2;have hG2:=Nat.le_trans hX.size hg2; have hN2_1 : g2 ≠ g1:=Nat.ne_of_gt (Nat.lt_of_lt_of_le hB1.lt hg2);replace hB1:=hB1.ext hE; replace hX:=hX.trans hE;clear hE hg2;simp only[zz];refine dX cD rfl ?_;intro w3 g3 hE hg3 hB3;have hG3:=Nat.le_trans hX.size hg3; have hN3_1 : g3 ≠ g1:=Nat.ne_of_gt (Nat.lt_of_lt_of_le hB1.lt hg3); have hN3_2 : g3 ≠ g2:=Nat.ne_of_gt (Nat.lt_of_lt_of_le hB2.lt hg3);replace hB1:=hB1.ext hE; replace hB2:=hB2.ext hE; replace hX:=hX.trans hE;clear hE hg3;simp only[zz];refine aA (aD) ?_;simp only[zz];refine aC (hK1 _ _ ?_);refine aF (fun K2 hK2=>wp_region_lit ?_);refine aI rfl (hB2.lies aR aG rfl rfl) ?_;simp only[zz];refine gA rfl rfl (lQ hd') ?_;intro w4 hE;replace hB1:=hB1.ext hE; replace hB2:=hB2.ext hE; replace hB3:=hB3.ext hE; replace hX:=hX.trans hE;clear hE;simp only[zz];refine aA (aD) ?_;simp only[zz];refine aC (hK2 _ _ ?_);refine aF (fun K3 hK3=>aF (fun K4 hK4=>wp_region_lit (aA (aB) (aA (kL rfl rfl (by unfold dG; split <;> (try split) <;> omega)) ?_))));simp only[zz];refine aC (hK4 _ _ ?_);refine eQ rfl (wp_skip ?_);refine hK3 _ _ (aF (fun K5 hK5=>wp_region_lit ?_));refine aI rfl (hB1.lies aR aG rfl rfl) ?_;simp only[zz];refine aI rfl (hB2.lies aR aG rfl rfl) ?_;simp only[zz];refine gA rfl rfl (aaR hn' hd') ?_;intro w5 hE;replace hB1:=hB1.ext hE; replace hB2:=hB2.ext hE; replace hB3:=hB3.ext hE; replace hX:=hX.trans hE;clear hE;simp only[zz];refine dX cI rfl ?_;intro w6 g4 hE hg4 hB4;have hG4:=Nat.le_trans hX.size hg4; have hN4_1 : g4 ≠ g1:=Nat.ne_of_gt (Nat.lt_of_lt_of_le hB1.lt hg4); have hN4_2 : g4 ≠ g2:=Nat.ne_of_gt (Nat.lt_of_lt_of_le hB2.lt hg4); have hN4_3 : g4 ≠ g3:=Nat.ne_of_gt (Nat.lt_of_lt_of_le hB3.lt hg4);replace hB1:=hB1.ext hE; replace hB2:=hB2.ext hE; replace hB3:=hB3.ext hE; replace hX:=hX.trans hE;clear hE hg4;simp only[zz];refine cC rfl (by simp only[zz]; rfl) (by exact aG) hB4 (by simp) (by simp [Value.oneCell']) ?_;clear hB4; intro w7 hC hB4;replace hB1:=hB1.chg hC (by first | exact hN1_4 | exact Ne.symm hN4_1); replace hB2:=hB2.chg hC (by first | exact hN2_4 | exact Ne.symm hN4_2); replace hB3:=hB3.chg hC (by first | exact hN3_4 | exact Ne.symm hN4_3); replace hX:=hX.chg hC hG4;clear hC;simp only[zy,zx,aX,Nat.reduceAdd] at hB4;refine aC (hK5 _ _ ?_);refine aF (fun K6 hK6=>aF (fun K7 hK7=>wp_region_lit (aA (aB) (aA (eA rfl rfl) ?_))));simp only[zz];refine aC (hK7 _ _ ?_);refine cQ rfl (fun hc2=>?_) (fun hc2=>?_)
 ·
  have hGn : -(Int.gcd n d : Int) = G:=by
   have : d < 0:=by
    unfold dG at hc2;split at hc2
    · assumption
    · split at hc2 <;> omega
   rw [hGe,mF this]; omega
  refine wp_region_lit ?_;refine aI rfl (hB4.lies aR aG rfl rfl) ?_;simp only[zz];refine gA rfl rfl (Sh (hg.mono (by decide))) ?_;intro w8 hE;replace hB1:=hB1.ext hE; replace hB2:=hB2.ext hE; replace hB3:=hB3.ext hE; replace hB4:=hB4.ext hE; replace hX:=hX.trans hE;clear hE;simp only[zz];refine cC rfl (by simp only[zz]; rfl) (by exact aG) hB4 (by simp) (by simp [Value.oneCell']) ?_;clear hB4; intro w9 hC hB4;replace hB1:=hB1.chg hC (by first | exact hN1_4 | exact Ne.symm hN4_1); replace hB2:=hB2.chg hC (by first | exact hN2_4 | exact Ne.symm hN4_2); replace hB3:=hB3.chg hC (by first | exact hN3_4 | exact Ne.symm hN4_3); replace hX:=hX.chg hC hG4;clear hC;simp only[zy,zx,aX,Nat.reduceAdd] at hB4;refine aC ?_;rw [hGn] at hB4;refine hK6 _ _ (aF (fun K8 hK8=>wp_region_lit ?_));refine aI rfl (hB1.lies aR aG rfl rfl) ?_;simp only[zz];refine aI rfl (hB4.lies aR aG rfl rfl) ?_;simp only[zz];refine gA rfl rfl (Gt hn' hG hg0) ?_;intro w10 hE;replace hB1:=hB1.ext hE; replace hB2:=hB2.ext hE; replace hB3:=hB3.ext hE; replace hB4:=hB4.ext hE; replace hX:=hX.trans hE;clear hE;simp only[zz];refine aA (aB) (aA (aT rfl rfl) (aA (aT rfl rfl) ?_));simp only[zz];refine aA (aT rfl rfl) ?_;simp only[zz];refine dX cI rfl ?_;intro w11 g5 hE hg5 hB5;have hG5:=Nat.le_trans hX.size hg5; have hN5_1 : g5 ≠ g1:=Nat.ne_of_gt (Nat.lt_of_lt_of_le hB1.lt hg5); have hN5_2 : g5 ≠ g2:=Nat.ne_of_gt (Nat.lt_of_lt_of_le hB2.lt hg5); have hN5_3 : g5 ≠ g3:=Nat.ne_of_gt (Nat.lt_of_lt_of_le hB3.lt hg5); have hN5_4 : g5 ≠ g4:=Nat.ne_of_gt (Nat.lt_of_lt_of_le hB4.lt hg5);replace hB1:=hB1.ext hE; replace hB2:=hB2.ext hE; replace hB3:=hB3.ext hE; replace hB4:=hB4.ext hE; replace hX:=hX.trans hE;clear hE hg5;simp only[zz];refine dX cI rfl ?_;intro w12 g6 hE hg6 hB6;have hG6:=Nat.le_trans hX.size hg6; have hN6_1 : g6 ≠ g1:=Nat.ne_of_gt (Nat.lt_of_lt_of_le hB1.lt hg6); have hN6_2 : g6 ≠ g2:=Nat.ne_of_gt (Nat.lt_of_lt_of_le hB2.lt hg6); have hN6_3 : g6 ≠ g3:=Nat.ne_of_gt (Nat.lt_of_lt_of_le hB3.lt hg6); have hN6_4 : g6 ≠ g4:=Nat.ne_of_gt (Nat.lt_of_lt_of_le hB4.lt hg6); have hN6_5 : g6 ≠ g5:=Nat.ne_of_gt (Nat.lt_of_lt_of_le hB5.lt hg6);replace hB1:=hB1.ext hE; replace hB2:=hB2.ext hE; replace hB3:=hB3.ext hE; replace hB4:=hB4.ext hE; replace hB5:=hB5.ext hE; replace hX:=hX.trans hE;clear hE hg6;simp only[zz];refine cC rfl (by simp only[zz]; rfl) (by exact aG) hB5 (by simp) (by simp [Value.oneCell']) ?_;clear hB5; intro w13 hC hB5;replace hB1:=hB1.chg hC (by first | exact hN1_5 | exact Ne.symm hN5_1); replace hB2:=hB2.chg hC (by first | exact hN2_5 | exact Ne.symm hN5_2); replace hB3:=hB3.chg hC (by first | exact hN3_5 | exact Ne.symm hN5_3); replace hB4:=hB4.chg hC (by first | exact hN4_5 | exact Ne.symm hN5_4); replace hB6:=hB6.chg hC (by first | exact hN6_5 | exact Ne.symm hN5_6); replace hX:=hX.chg hC hG5;clear hC;simp only[zy,zx,aX,Nat.reduceAdd] at hB5;refine cC rfl (by simp only[zz]; rfl) (by exact aG) hB6 (by simp) (by simp [Value.oneCell']) ?_;clear hB6; intro w14 hC hB6;replace hB1:=hB1.chg hC (by first | exact hN1_6 | exact Ne.symm hN6_1); replace hB2:=hB2.chg hC (by first | exact hN2_6 | exact Ne.symm hN6_2); replace hB3:=hB3.chg hC (by first | exact hN3_6 | exact Ne.symm hN6_3); replace hB4:=hB4.chg hC (by first | exact hN4_6 | exact Ne.symm hN6_4); replace hB5:=hB5.chg hC (by first | exact hN5_6 | exact Ne.symm hN6_5); replace hX:=hX.chg hC hG6;clear hC;simp only[zy,zx,aX,Nat.reduceAdd] at hB6;refine aA (aD) ?_;simp only[zz];refine aC (hK8 _ _ ?_);refine aF (fun K9 hK9=>wp_region_lit ?_);refine aI rfl (hB2.lies aR aG rfl rfl) ?_;simp only[zz];refine aI rfl (hB4.lies aR aG rfl rfl) ?_;simp only[zz];refine gA rfl rfl (Gt hd' hG hg0) ?_;intro w15 hE;replace hB1:=hB1.ext hE; replace hB2:=hB2.ext hE; replace hB3:=hB3.ext hE; replace hB4:=hB4.ext hE; replace hB5:=hB5.ext hE; replace hB6:=hB6.ext hE; replace hX:=hX.trans hE;clear hE;simp only[zz];refine aA (aB) (aA (aT rfl rfl) (aA (aT rfl rfl) ?_));simp only[zz];refine aA (aT rfl rfl) ?_;simp only[zz];refine dX cI rfl ?_;intro w16 g7 hE hg7 hB7;have hG7:=Nat.le_trans hX.size hg7; have hN7_1 : g7 ≠ g1:=Nat.ne_of_gt (Nat.lt_of_lt_of_le hB1.lt hg7); have hN7_2 : g7 ≠ g2:=Nat.ne_of_gt (Nat.lt_of_lt_of_le hB2.lt hg7); have hN7_3 : g7 ≠ g3:=Nat.ne_of_gt (Nat.lt_of_lt_of_le hB3.lt hg7); have hN7_4 : g7 ≠ g4:=Nat.ne_of_gt (Nat.lt_of_lt_of_le hB4.lt hg7); have hN7_5 : g7 ≠ g5:=Nat.ne_of_gt (Nat.lt_of_lt_of_le hB5.lt hg7); have hN7_6 : g7 ≠ g6:=Nat.ne_of_gt (Nat.lt_of_lt_of_le hB6.lt hg7);replace hB1:=hB1.ext hE; replace hB2:=hB2.ext hE; replace hB3:=hB3.ext hE; replace hB4:=hB4.ext hE; replace hB5:=hB5.ext hE; replace hB6:=hB6.ext hE; replace hX:=hX.trans hE;clear hE hg7;simp only[zz];refine dX cI rfl ?_;intro w17 g8 hE hg8 hB8;have hG8:=Nat.le_trans hX.size hg8; have hN8_1 : g8 ≠ g1:=Nat.ne_of_gt (Nat.lt_of_lt_of_le hB1.lt hg8); have hN8_2 : g8 ≠ g2:=Nat.ne_of_gt (Nat.lt_of_lt_of_le hB2.lt hg8); have hN8_3 : g8 ≠ g3:=Nat.ne_of_gt (Nat.lt_of_lt_of_le hB3.lt hg8); have hN8_4 : g8 ≠ g4:=Nat.ne_of_gt (Nat.lt_of_lt_of_le hB4.lt hg8); have hN8_5 : g8 ≠ g5:=Nat.ne_of_gt (Nat.lt_of_lt_of_le hB5.lt hg8); have hN8_6 : g8 ≠ g6:=Nat.ne_of_gt (Nat.lt_of_lt_of_le hB6.lt hg8); have hN8_7 : g8 ≠ g7:=Nat.ne_of_gt (Nat.lt_of_lt_of_le hB7.lt hg8);replace hB3:=hB3.ext hE; replace hB5:=hB5.ext hE; replace hB7:=hB7.ext hE; replace hX:=hX.trans hE;clear hE hg8;simp only[zz];refine cC rfl (by simp only[zz]; rfl) (by exact aG) hB7 (by simp) (by simp [Value.oneCell']) ?_;clear hB7; intro w18 hC hB7;replace hB3:=hB3.chg hC (by first | exact hN3_7 | exact Ne.symm hN7_3); replace hB5:=hB5.chg hC (by first | exact hN5_7 | exact Ne.symm hN7_5); replace hB8:=hB8.chg hC (by first | exact hN8_7 | exact Ne.symm hN7_8); replace hX:=hX.chg hC hG7;clear hC;simp only[zy,zx,aX,Nat.reduceAdd] at hB7;refine cC rfl (by simp only[zz]; rfl) (by exact aG) hB8 (by simp) (by simp [Value.oneCell']) ?_;clear hB8; intro w19 hC hB8;replace hB3:=hB3.chg hC (by first | exact hN3_8 | exact Ne.symm hN8_3); replace hB5:=hB5.chg hC (by first | exact hN5_8 | exact Ne.symm hN8_5); replace hB7:=hB7.chg hC (by first | exact hN7_8 | exact Ne.symm hN8_7); replace hX:=hX.chg hC hG8;clear hC;simp only[zy,zx,aX,Nat.reduceAdd] at hB8;refine aA (aD) ?_;simp only[zz];refine aC (hK9 _ _ ?_);refine aF (fun K10 hK10=>wp_region_lit ?_);refine aI rfl (hB5.lies aR aG rfl rfl) ?_;simp only[zz];refine aI rfl (hB7.lies aR aG rfl rfl) ?_;simp only[zz];refine aA (gG rfl rfl) ?_;simp only[zz];refine cC rfl (by simp only[zz]; rfl) (by exact aK) hB3 (by simp) (by simp [Value.oneCell']) ?_;clear hB3; intro w20 hC hB3;replace hX:=hX.chg hC hG3;clear hC;simp only[zy,zx,aX,Nat.reduceAdd] at hB3;refine aA (aD) ?_;simp only[zz];refine aC (hK10 _ _ ?_);refine wp_ret ?_;try simp only[Exit.inBlock,Exit.then]
  refine jL rfl ⟨_,rfl,(hB3.lies bB aK rfl rfl)⟩ rfl ?_;try simp only[zD,zE]
  exact ⟨_,rfl,hX,by rw [e1,e2] at *; rfl⟩
 ·
  have hGn : (Int.gcd n d : Int) = G:=by
   have : 0 < d:=by
    unfold dG at hc2;split at hc2
    · omega
    · omega
   rw [hGe,lA this]; omega
  rw [hGn] at hB4;refine wp_skip (hK6 _ _ ?_);refine aF (fun K11 hK11=>wp_region_lit ?_);refine aI rfl (hB1.lies aR aG rfl rfl) ?_;simp only[zz];refine aI rfl (hB4.lies aR aG rfl rfl) ?_;simp only[zz];refine gA rfl rfl (Gt hn' hG hg0) ?_;intro w8 hE;replace hB1:=hB1.ext hE; replace hB2:=hB2.ext hE; replace hB3:=hB3.ext hE; replace hB4:=hB4.ext hE; replace hX:=hX.trans hE;clear hE;simp only[zz];refine aA (aB) (aA (aT rfl rfl) (aA (aT rfl rfl) ?_));simp only[zz];refine aA (aT rfl rfl) ?_;simp only[zz];refine dX cI rfl ?_;intro w9 g5 hE hg5 hB5;have hG5:=Nat.le_trans hX.size hg5; have hN5_1 : g5 ≠ g1:=Nat.ne_of_gt (Nat.lt_of_lt_of_le hB1.lt hg5); have hN5_2 : g5 ≠ g2:=Nat.ne_of_gt (Nat.lt_of_lt_of_le hB2.lt hg5); have hN5_3 : g5 ≠ g3:=Nat.ne_of_gt (Nat.lt_of_lt_of_le hB3.lt hg5); have hN5_4 : g5 ≠ g4:=Nat.ne_of_gt (Nat.lt_of_lt_of_le hB4.lt hg5);replace hB1:=hB1.ext hE; replace hB2:=hB2.ext hE; replace hB3:=hB3.ext hE; replace hB4:=hB4.ext hE; replace hX:=hX.trans hE;clear hE hg5;simp only[zz];refine dX cI rfl ?_;intro w10 g6 hE hg6 hB6;have hG6:=Nat.le_trans hX.size hg6; have hN6_1 : g6 ≠ g1:=Nat.ne_of_gt (Nat.lt_of_lt_of_le hB1.lt hg6); have hN6_2 : g6 ≠ g2:=Nat.ne_of_gt (Nat.lt_of_lt_of_le hB2.lt hg6); have hN6_3 : g6 ≠ g3:=Nat.ne_of_gt (Nat.lt_of_lt_of_le hB3.lt hg6); have hN6_4 : g6 ≠ g4:=Nat.ne_of_gt (Nat.lt_of_lt_of_le hB4.lt hg6); have hN6_5 : g6 ≠ g5:=Nat.ne_of_gt (Nat.lt_of_lt_of_le hB5.lt hg6);replace hB1:=hB1.ext hE; replace hB2:=hB2.ext hE; replace hB3:=hB3.ext hE; replace hB4:=hB4.ext hE; replace hB5:=hB5.ext hE; replace hX:=hX.trans hE;clear hE hg6;simp only[zz];refine cC rfl (by simp only[zz]; rfl) (by exact aG) hB5 (by simp) (by simp [Value.oneCell']) ?_;clear hB5; intro w11 hC hB5;replace hB1:=hB1.chg hC (by first | exact hN1_5 | exact Ne.symm hN5_1); replace hB2:=hB2.chg hC (by first | exact hN2_5 | exact Ne.symm hN5_2); replace hB3:=hB3.chg hC (by first | exact hN3_5 | exact Ne.symm hN5_3); replace hB4:=hB4.chg hC (by first | exact hN4_5 | exact Ne.symm hN5_4); replace hB6:=hB6.chg hC (by first | exact hN6_5 | exact Ne.symm hN5_6); replace hX:=hX.chg hC hG5;clear hC;simp only[zy,zx,aX,Nat.reduceAdd] at hB5;refine cC rfl (by simp only[zz]; rfl) (by exact aG) hB6 (by simp) (by simp [Value.oneCell']) ?_;clear hB6; intro w12 hC hB6;replace hB1:=hB1.chg hC (by first | exact hN1_6 | exact Ne.symm hN6_1); replace hB2:=hB2.chg hC (by first | exact hN2_6 | exact Ne.symm hN6_2); replace hB3:=hB3.chg hC (by first | exact hN3_6 | exact Ne.symm hN6_3); replace hB4:=hB4.chg hC (by first | exact hN4_6 | exact Ne.symm hN6_4); replace hB5:=hB5.chg hC (by first | exact hN5_6 | exact Ne.symm hN6_5); replace hX:=hX.chg hC hG6;clear hC;simp only[zy,zx,aX,Nat.reduceAdd] at hB6;refine aA (aD) ?_;simp only[zz];refine aC (hK11 _ _ ?_);refine aF (fun K12 hK12=>wp_region_lit ?_);refine aI rfl (hB2.lies aR aG rfl rfl) ?_;simp only[zz];refine aI rfl (hB4.lies aR aG rfl rfl) ?_;simp only[zz];refine gA rfl rfl (Gt hd' hG hg0) ?_;intro w13 hE;replace hB1:=hB1.ext hE; replace hB2:=hB2.ext hE; replace hB3:=hB3.ext hE; replace hB4:=hB4.ext hE; replace hB5:=hB5.ext hE; replace hB6:=hB6.ext hE; replace hX:=hX.trans hE;clear hE;simp only[zz];refine aA (aB) (aA (aT rfl rfl) (aA (aT rfl rfl) ?_));simp only[zz];refine aA (aT rfl rfl) ?_;simp only[zz];refine dX cI rfl ?_;intro w14 g7 hE hg7 hB7;have hG7:=Nat.le_trans hX.size hg7; have hN7_1 : g7 ≠ g1:=Nat.ne_of_gt (Nat.lt_of_lt_of_le hB1.lt hg7); have hN7_2 : g7 ≠ g2:=Nat.ne_of_gt (Nat.lt_of_lt_of_le hB2.lt hg7); have hN7_3 : g7 ≠ g3:=Nat.ne_of_gt (Nat.lt_of_lt_of_le hB3.lt hg7); have hN7_4 : g7 ≠ g4:=Nat.ne_of_gt (Nat.lt_of_lt_of_le hB4.lt hg7); have hN7_5 : g7 ≠ g5:=Nat.ne_of_gt (Nat.lt_of_lt_of_le hB5.lt hg7); have hN7_6 : g7 ≠ g6:=Nat.ne_of_gt (Nat.lt_of_lt_of_le hB6.lt hg7);replace hB1:=hB1.ext hE; replace hB2:=hB2.ext hE; replace hB3:=hB3.ext hE; replace hB4:=hB4.ext hE; replace hB5:=hB5.ext hE; replace hB6:=hB6.ext hE; replace hX:=hX.trans hE;clear hE hg7;simp only[zz];refine dX cI rfl ?_;intro w15 g8 hE hg8 hB8;have hG8:=Nat.le_trans hX.size hg8; have hN8_1 : g8 ≠ g1:=Nat.ne_of_gt (Nat.lt_of_lt_of_le hB1.lt hg8); have hN8_2 : g8 ≠ g2:=Nat.ne_of_gt (Nat.lt_of_lt_of_le hB2.lt hg8); have hN8_3 : g8 ≠ g3:=Nat.ne_of_gt (Nat.lt_of_lt_of_le hB3.lt hg8); have hN8_4 : g8 ≠ g4:=Nat.ne_of_gt (Nat.lt_of_lt_of_le hB4.lt hg8); have hN8_5 : g8 ≠ g5:=Nat.ne_of_gt (Nat.lt_of_lt_of_le hB5.lt hg8); have hN8_6 : g8 ≠ g6:=Nat.ne_of_gt (Nat.lt_of_lt_of_le hB6.lt hg8); have hN8_7 : g8 ≠ g7:=Nat.ne_of_gt (Nat.lt_of_lt_of_le hB7.lt hg8);replace hB3:=hB3.ext hE; replace hB5:=hB5.ext hE; replace hB7:=hB7.ext hE; replace hX:=hX.trans hE;clear hE hg8;simp only[zz];refine cC rfl (by simp only[zz]; rfl) (by exact aG) hB7 (by simp) (by simp [Value.oneCell']) ?_;clear hB7; intro w16 hC hB7;replace hB3:=hB3.chg hC (by first | exact hN3_7 | exact Ne.symm hN7_3); replace hB5:=hB5.chg hC (by first | exact hN5_7 | exact Ne.symm hN7_5); replace hB8:=hB8.chg hC (by first | exact hN8_7 | exact Ne.symm hN7_8); replace hX:=hX.chg hC hG7;clear hC;simp only[zy,zx,aX,Nat.reduceAdd] at hB7;refine cC rfl (by simp only[zz]; rfl) (by exact aG) hB8 (by simp) (by simp [Value.oneCell']) ?_;clear hB8; intro w17 hC hB8;replace hB3:=hB3.chg hC (by first | exact hN3_8 | exact Ne.symm hN8_3); replace hB5:=hB5.chg hC (by first | exact hN5_8 | exact Ne.symm hN8_5); replace hB7:=hB7.chg hC (by first | exact hN7_8 | exact Ne.symm hN8_7); replace hX:=hX.chg hC hG8;clear hC;simp only[zy,zx,aX,Nat.reduceAdd] at hB8;refine aA (aD) ?_;simp only[zz];refine aC (hK12 _ _ ?_);refine aF (fun K13 hK13=>wp_region_lit ?_);refine aI rfl (hB5.lies aR aG rfl rfl) ?_;simp only[zz];refine aI rfl (hB7.lies aR aG rfl rfl) ?_;simp only[zz];refine aA (gG rfl rfl) ?_;simp only[zz];refine cC rfl (by simp only[zz]; rfl) (by exact aK) hB3 (by simp) (by simp [Value.oneCell']) ?_;clear hB3; intro w18 hC hB3;replace hX:=hX.chg hC hG3;clear hC;simp only[zy,zx,aX,Nat.reduceAdd] at hB3;refine aA (aD) ?_;simp only[zz];refine aC (hK13 _ _ ?_);refine wp_ret ?_;try simp only[Exit.inBlock,Exit.then]
  refine jL rfl ⟨_,rfl,(hB3.lies bB aK rfl rfl)⟩ rfl ?_;try simp only[zD,zE]
  exact ⟨_,rfl,hX,by rw [e1,e2] at *; rfl⟩
theorem uC {q : Rat} (hq : Bq 400000 q) : dP prog 50 [Q q] (Q q):=by
 intro w;refine ⟨ab6,?_⟩;have hX:=dL.refl w;have h0 : (0 : Int) < q.den:=by have:=q.den_pos; omega
 have hd:=hq.d.mono (show 400000 ≤ 1000000 by decide)
 go_enter func50,ntmps50
 refine aF (fun K1 hK1=>wp_region_lit ?_);refine gK (by simp only[zz]; rfl) ?_;intro w1 g1 hE hg1 hB1;have hG1:=Nat.le_trans hX.size hg1;replace hX:=hX.trans hE;clear hE hg1;simp only[zz];refine dX cD rfl ?_;intro w2 g2 hE hg2 hB2;have hG2:=Nat.le_trans hX.size hg2; have hN2_1 : g2 ≠ g1:=Nat.ne_of_gt (Nat.lt_of_lt_of_le hB1.lt hg2);replace hB1:=hB1.ext hE; replace hX:=hX.trans hE;clear hE hg2;simp only[zz];refine aC (hK1 _ _ ?_);refine aF (fun K2 hK2=>aF (fun K3 hK3=>wp_region_lit (aA (aH (c:=1) kU rfl aG rfl rfl) ?_)));simp only[zz];refine aI rfl (hB1.lies aR aG rfl rfl) ?_;simp only[zz];refine gA rfl rfl (lQ (a:=(q.den : Int)) hd) ?_;intro w3 hE;replace hB1:=hB1.ext hE; replace hB2:=hB2.ext hE; replace hX:=hX.trans hE;clear hE;simp only[zz];refine aA (As rfl rfl (by rw [lA h0]; decide)) ?_;simp only[zz];refine aC (hK3 _ _ ?_);refine eQ rfl (wp_skip ?_);refine hK2 _ _ (aF (fun K4 hK4=>wp_region_lit ?_));refine aI rfl (hB1.lies bB aK rfl rfl) ?_;simp only[zz];refine cC rfl (by simp only[zz]; rfl) (by exact aK) hB2 (by simp) (by simp [Value.oneCell']) ?_;clear hB2; intro w4 hC hB2;replace hX:=hX.chg hC hG2;clear hC;simp only[zy,zx,aX,Nat.reduceAdd] at hB2;refine aC (hK4 _ _ ?_);refine wp_ret ?_;try simp only[Exit.inBlock,Exit.then]
 refine bU rfl ⟨_,rfl,(hB2.lies bB aK rfl rfl)⟩ ?_;try simp only[zD,zE]
 exact ⟨_,rfl,hX,rfl⟩
theorem jQ {p q : Rat} (hp : Bq 400000 p) (hq : Bq 400000 q) : dP prog 34 [Q p,Q q] (.int .i64 (Gr p q)):=by
 intro w;refine ⟨abR,?_⟩;have hX:=dL.refl w
 go_enter func34,ntmps34
 refine aF (fun K1 hK1=>wp_region_lit ?_);refine gK (by simp only[zz]; rfl) ?_;intro w1 g1 hE hg1 hB1;have hG1:=Nat.le_trans hX.size hg1;replace hX:=hX.trans hE;clear hE hg1;simp only[zz];refine gK (by simp only[zz]; rfl) ?_;intro w2 g2 hE hg2 hB2;have hG2:=Nat.le_trans hX.size hg2; have hN2_1 : g2 ≠ g1:=Nat.ne_of_gt (Nat.lt_of_lt_of_le hB1.lt hg2);replace hB1:=hB1.ext hE; replace hX:=hX.trans hE;clear hE hg2;simp only[zz];refine aA (aD) ?_;simp only[zz];refine aC (hK1 _ _ ?_);refine aF (fun K2 hK2=>wp_region_lit ?_);refine aI rfl (hB1.lies bB aK rfl rfl) ?_;simp only[zz];refine gA rfl rfl (uC hp) ?_;intro w3 hE;replace hB1:=hB1.ext hE; replace hB2:=hB2.ext hE; replace hX:=hX.trans hE;clear hE;simp only[zz];refine dX cD rfl ?_;intro w4 g3 hE hg3 hB3;have hG3:=Nat.le_trans hX.size hg3; have hN3_1 : g3 ≠ g1:=Nat.ne_of_gt (Nat.lt_of_lt_of_le hB1.lt hg3); have hN3_2 : g3 ≠ g2:=Nat.ne_of_gt (Nat.lt_of_lt_of_le hB2.lt hg3);replace hB1:=hB1.ext hE; replace hB2:=hB2.ext hE; replace hX:=hX.trans hE;clear hE hg3;simp only[zz];refine cC rfl (by simp only[zz]; rfl) (by exact aK) hB3 (by simp) (by simp [Value.oneCell']) ?_;clear hB3; intro w5 hC hB3;replace hB1:=hB1.chg hC (by first | exact hN1_3 | exact Ne.symm hN3_1); replace hB2:=hB2.chg hC (by first | exact hN2_3 | exact Ne.symm hN3_2); replace hX:=hX.chg hC hG3;clear hC;simp only[zy,zx,aX,Nat.reduceAdd] at hB3;refine aC (hK2 _ _ ?_);refine aF (fun K3 hK3=>wp_region_lit ?_);refine aI rfl (hB2.lies bB aK rfl rfl) ?_;simp only[zz];refine gA rfl rfl (uC hq) ?_;intro w6 hE;replace hB1:=hB1.ext hE; replace hB2:=hB2.ext hE; replace hB3:=hB3.ext hE; replace hX:=hX.trans hE;clear hE;simp only[zz];refine dX cD rfl ?_;intro w7 g4 hE hg4 hB4;have hG4:=Nat.le_trans hX.size hg4; have hN4_1 : g4 ≠ g1:=Nat.ne_of_gt (Nat.lt_of_lt_of_le hB1.lt hg4); have hN4_2 : g4 ≠ g2:=Nat.ne_of_gt (Nat.lt_of_lt_of_le hB2.lt hg4); have hN4_3 : g4 ≠ g3:=Nat.ne_of_gt (Nat.lt_of_lt_of_le hB3.lt hg4);replace hB3:=hB3.ext hE; replace hX:=hX.trans hE;clear hE hg4;simp only[zz];refine cC rfl (by simp only[zz]; rfl) (by exact aK) hB4 (by simp) (by simp [Value.oneCell']) ?_;clear hB4; intro w8 hC hB4;replace hB3:=hB3.chg hC (by first | exact hN3_4 | exact Ne.symm hN4_3); replace hX:=hX.chg hC hG4;clear hC;simp only[zy,zx,aX,Nat.reduceAdd] at hB4;refine aC (hK3 _ _ ?_);refine aF (fun K4 hK4=>?_);refine gR aN (by kernel_rfl) (aS (aH (c:=1) kU rfl aG rfl rfl) ?_);simp only[zz];refine gL rfl (fun _ hE'=>((hB3.ext hE').lies aR aG rfl rfl)) ?_;simp only[zz];refine aS (aH (c:=1) kU rfl aG rfl rfl) ?_;simp only[zz];refine gL rfl (fun _ hE'=>((hB4.ext hE').lies aR aG rfl rfl)) ?_;simp only[zz];refine nL rfl rfl (fZ (a:=p.num) (b:=(q.den : Int)) (hp.n.mono (by decide)) (hq.d.mono (by decide))) ?_;simp only[zz];refine aS (aH (c:=1) kU rfl aG rfl rfl) ?_;simp only[zz];refine gL rfl (fun _ hE'=>((hB4.ext hE').lies aR aG rfl rfl)) ?_;simp only[zz];refine aS (aH (c:=1) kU rfl aG rfl rfl) ?_;simp only[zz];refine gL rfl (fun _ hE'=>((hB3.ext hE').lies aR aG rfl rfl)) ?_;simp only[zz];refine nL rfl rfl (fZ (a:=q.num) (b:=(p.den : Int)) (hq.n.mono (by decide)) (hp.d.mono (by decide))) ?_;simp only[zz];refine nL rfl rfl (aaQ ((hp.n.mul hq.d).mono (by decide)) ((hq.n.mul hp.d).mono (by decide))) ?_;simp only[zz];refine aS (aD) ?_;simp only[zz];refine dW ?_;intro w9 hE;replace hX:=hX.trans hE;clear hE;refine hK4 _ _ (wp_ret ?_);try simp only[Exit.inBlock,Exit.then]
 refine bU rfl rfl ?_;try simp only[zD,zE]
 exact ⟨_,rfl,hX,rfl⟩
end Go.Proofs.YtimjandkmfcmiaaGreatDoor
namespace Go.Lith
open Go.RowKit
inductive oM where
 | nil : oM
 | take : Nat → oM → oM
 | one : Nat → oM → oM
 | two : Nat → oM → Nat → oM → oM
 | three : Nat → oM → Nat → oM → Nat → oM → oM
section
variable {P : Program} {ops : Array Oper} {md : Region.Mode} {S : World → Prop}
def oM.ok (md : Region.Mode) (ops : Array Oper) : oM → Nat → Array Bool → Bool
 | .nil,f,listed=>f == 0 && (Region.ready md ops listed).isEmpty
 | .take i t,f,listed=>decide (0 < f) && (ops[i]?).isSome && Region.free md ops listed i && (Region.ready md ops listed).contains i && t.ok md ops (f - 1) (listed.setIfInBounds i true)
 | .one i t,f,listed=>decide (0 < f) && (ops[i]?).isSome && decide (Region.ready md ops listed = [i]) && t.ok md ops (f - 1) (listed.setIfInBounds i true)
 | .two i t j u,f,listed=>decide (0 < f) && (ops[i]?).isSome && (ops[j]?).isSome && decide (Region.ready md ops listed = [i,j]) && t.ok md ops (f - 1) (listed.setIfInBounds i true) && u.ok md ops (f - 1) (listed.setIfInBounds j true)
 | .three i t j u k v,f,listed=>decide (0 < f) && (ops[i]?).isSome && (ops[j]?).isSome && (ops[k]?).isSome && decide (Region.ready md ops listed = [i,j,k]) && t.ok md ops (f - 1) (listed.setIfInBounds i true) && u.ok md ops (f - 1) (listed.setIfInBounds j true) && v.ok md ops (f - 1) (listed.setIfInBounds k true)
def eG (P : Program) (ops : Array Oper) (S : World → Prop) (Q : Exit → Act → World → Prop) : oM → Act → World → Prop
 | .nil,a,w=>Q .normal a w
 | .take i t,a,w=>dV P ops S (fun _ a w=>eG P ops S Q t a w) [((ops[i]?).getD default,true)] a w
 | .one i t,a,w=>wpList P ops (Exit.then (fun a w=>S w ∧ eG P ops S Q t a w) Q) [(ops[i]?).getD default] a w
 | .two i t j u,a,w=>wpList P ops (Exit.then (fun a w=>S w ∧ eG P ops S Q t a w) Q) [(ops[i]?).getD default] a w ∧ wpList P ops (Exit.then (fun a w=>S w ∧ eG P ops S Q u a w) Q) [(ops[j]?).getD default] a w
 | .three i t j u k v,a,w=>wpList P ops (Exit.then (fun a w=>S w ∧ eG P ops S Q t a w) Q) [(ops[i]?).getD default] a w ∧ wpList P ops (Exit.then (fun a w=>S w ∧ eG P ops S Q u a w) Q) [(ops[j]?).getD default] a w ∧ wpList P ops (Exit.then (fun a w=>S w ∧ eG P ops S Q v a w) Q) [(ops[k]?).getD default] a w
theorem kB {Q : Exit → Act → World → Prop} {K : Act → World → Prop} {i : Nat} {o : Oper} (ho : ops[i]? = some o) {a : Act} {w : World} (h : wpList P ops (Exit.then K Q) [o] a w) : wpOp P ops Q i K a w:=by
 unfold wpOp;simp only[ho];simp only[wpList] at h;split
 · rename_i hw
   rw [if_pos hw] at h;rcases h with h | ⟨ha,x,y,hl⟩
   · refine .inl ?_
     unfold Oper.wp at h ⊢;generalize (execOp a.eval o).run P w = res at *
     cases res with
     | ok n w' =>
      cases n <;> simp only[Oper.upon] at h ⊢ <;>
       first
        | exact h
        | exact Calls.mono h (fun e w'' he=>by cases e <;> exact he)
        | exact Rows.mono h (fun _ _ he=>he)
     | halt x w'=>cases x <;> simp only[Oper.upon] at h ⊢ <;> exact h
   · exact .inr ⟨ha,x,y,hl⟩
 · rename_i hw
   rw [if_neg hw] at h;exact h
theorem iK {Q : Exit → Act → World → Prop} (hs : Region.noSelect ops = true) (hQ : ∀ c d v a w,Q (.panic c) (Act.put a d v) w → Q (.panic c) a w) : ∀ (t : oM) (f : Nat) (listed : Array Bool) (a : Act) (w : World),
 t.ok md ops f listed = true → S w → eG P ops S Q t a w → wpAnyH P md ops Q S f listed a w
 | .nil,f,listed,a,w,hB,_,h=>by
  simp only[oM.ok,Bool.and_eq_true,beq_iff_eq] at hB;obtain ⟨rfl,h2⟩:=hB;exact ⟨by simpa using h2,h⟩
 | .take i t,f,listed,a,w,hB,hS,h=>by
  simp only[oM.ok,Bool.and_eq_true,decide_eq_true_eq] at hB;obtain ⟨⟨⟨⟨h0,h1⟩,h2⟩,h3⟩,h4⟩:=hB;obtain ⟨o,ho⟩:=Option.isSome_iff_exists.1 h1;simp only[eG,dV,ho,Option.getD_some] at h;obtain ⟨v,hy,hr⟩:=h;obtain ⟨f,rfl⟩ : ∃ g,f = g + 1:=⟨f - 1,by omega⟩
  exact wpAnyH_take ho hs h2 h3 (fun c a w=>hQ c _ v a w) hy hS (iK hs hQ t f _ _ _ h4 hS hr)
 | .one i t,f,listed,a,w,hB,hS,h=>by
  simp only[oM.ok,Bool.and_eq_true,decide_eq_true_eq] at hB;obtain ⟨⟨⟨h0,h1⟩,h2⟩,h4⟩:=hB;obtain ⟨o,ho⟩:=Option.isSome_iff_exists.1 h1;obtain ⟨f,rfl⟩ : ∃ g,f = g + 1:=⟨f - 1,by omega⟩
  refine wpAnyH_all h2 (by simp) fun j hj=>?_;obtain rfl : j = i:=by simpa using hj
  simp only[eG,ho,Option.getD_some] at h;exact wpOp_mono (fun a' w' hh=>⟨hh.1,iK hs hQ t f _ a' w' h4 hh.1 hh.2⟩) (kB ho h)
 | .two i t j u,f,listed,a,w,hB,hS,h=>by
  simp only[oM.ok,Bool.and_eq_true,decide_eq_true_eq] at hB;obtain ⟨⟨⟨⟨⟨h0,h1⟩,h1'⟩,h2⟩,h4⟩,h5⟩:=hB;obtain ⟨o,ho⟩:=Option.isSome_iff_exists.1 h1;obtain ⟨o',ho'⟩:=Option.isSome_iff_exists.1 h1';obtain ⟨f,rfl⟩ : ∃ g,f = g + 1:=⟨f - 1,by omega⟩
  simp only[eG,ho,ho',Option.getD_some] at h;refine wpAnyH_all h2 (by simp) fun k hk=>?_;have hk' : k = i ∨ k = j:=by simpa using hk
  rcases hk' with rfl | rfl
  · exact wpOp_mono (fun a' w' hh=>⟨hh.1,iK hs hQ t f _ a' w' h4 hh.1 hh.2⟩) (kB ho h.1)
  · exact wpOp_mono (fun a' w' hh=>⟨hh.1,iK hs hQ u f _ a' w' h5 hh.1 hh.2⟩) (kB ho' h.2)
 | .three i t j u k v,f,listed,a,w,hB,hS,h=>by
  simp only[oM.ok,Bool.and_eq_true,decide_eq_true_eq] at hB;obtain ⟨⟨⟨⟨⟨⟨⟨h0,h1⟩,h1'⟩,h1''⟩,h2⟩,h4⟩,h5⟩,h6⟩:=hB;obtain ⟨o,ho⟩:=Option.isSome_iff_exists.1 h1;obtain ⟨o',ho'⟩:=Option.isSome_iff_exists.1 h1';obtain ⟨o'',ho''⟩:=Option.isSome_iff_exists.1 h1'';obtain ⟨f,rfl⟩ : ∃ g,f = g + 1:=⟨f - 1,by omega⟩
  simp only[eG,ho,ho',ho'',Option.getD_some] at h;refine wpAnyH_all h2 (by simp) fun m hm=>?_;have hm' : m = i ∨ m = j ∨ m = k:=by simpa using hm
  rcases hm' with rfl | rfl | rfl
  · exact wpOp_mono (fun a' w' hh=>⟨hh.1,iK hs hQ t f _ a' w' h4 hh.1 hh.2⟩) (kB ho h.1)
  · exact wpOp_mono (fun a' w' hh=>⟨hh.1,iK hs hQ u f _ a' w' h5 hh.1 hh.2⟩) (kB ho' h.2.1)
  · exact wpOp_mono (fun a' w' hh=>⟨hh.1,iK hs hQ v f _ a' w' h6 hh.1 hh.2⟩) (kB ho'' h.2.2)
theorem Br {id : Nat} {Q : Exit → Act → World → Prop} {a : Act} {w : World} {l : List Oper} (t : oM) (hm : P.follows .mixedOrders = true) (hB : (Region.noSelect l.toArray && t.ok .any l.toArray l.toArray.size (Array.replicate l.toArray.size false)) = true)
 (hQ : ∀ c d v a w,Q (.panic c) (Act.put a d v) w → Q (.panic c) a w)
 (h : ∀ w',dL w w' → ∃ S,jM w' S ∧ eG P l.toArray S Q t a w') : (Code.region id l.toArray true).wp P Q a w:=by
 simp only[Bool.and_eq_true] at hB;obtain ⟨S,hS,h⟩:=h _ (dL.refl w).drawn;exact wp_region_held (S:=S) hm (iK (md:=.any) hB.1 hQ t _ _ a _ hB.2 hS h)
variable {Q : Exit → Act → World → Prop} {a : Act} {w : World} {o o' : Oper} {i j : Nat} {t u : oM}
theorem eE (h : Q .normal a w) : eG P ops S Q .nil a w:=h
theorem aV (ho : (ops[i]?).getD default = o) (h : dV P ops S (fun _ a w=>eG P ops S Q t a w) [(o,true)] a w) : eG P ops S Q (.take i t) a w:=by subst ho; exact h
theorem bL (ho : (ops[i]?).getD default = o) (h : wpList P ops (Exit.then (fun a w=>S w ∧ eG P ops S Q t a w) Q) [o] a w) : eG P ops S Q (.one i t) a w:=by subst ho; exact h
theorem gX (ho : (ops[i]?).getD default = o) (ho' : (ops[j]?).getD default = o') (h : wpList P ops (Exit.then (fun a w=>S w ∧ eG P ops S Q t a w) Q) [o] a w) (h' : wpList P ops (Exit.then (fun a w=>S w ∧ eG P ops S Q u a w) Q) [o'] a w) : eG P ops S Q (.two i t j u) a w:=by
 subst ho; subst ho'; exact ⟨h,h'⟩
end
end Go.Lith
namespace Go.Lith
open Go.RowKit
end Go.Lith
namespace Go.Proofs.YtimjandkmfcmiaaGreatDoor
open Tryz
open Go.RowKit Go.Lith
set_option maxRecDepth 100000
attribute [local irreducible] wpList wpQuiet eS Code.wp
end Go.Proofs.YtimjandkmfcmiaaGreatDoor
