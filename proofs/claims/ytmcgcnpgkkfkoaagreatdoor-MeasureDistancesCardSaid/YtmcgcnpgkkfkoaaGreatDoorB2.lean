/-
  Texts of one claim, laid together: Geo, Geo2, Geo3, Geo4, Geo5, Own, Al, Mem, Guard, Geo6, Facts, Facts2, Dig, Ref1, Ref2, Ref3.
-/
import Derived.LoopN
import Derived.Test.YtmcgcnpgkkfkoaaGreatDoorProg
import Derived.Test.YtmcgcnpgkkfkoaaGreatDoorB1
set_option linter.unusedSimpArgs false
set_option linter.unusedVariables false
namespace Go.Lith
open Go.RowKit
structure P3 where
  x : Int
  y : Int
  z : Int
structure T3 where
  a : P3
  b : P3
  c : P3
namespace P3
def sub (p q : P3) : P3 := ⟨p.x - q.x, p.y - q.y, p.z - q.z⟩
def dot (p q : P3) : Int := p.x * q.x + p.y * q.y + p.z * q.z
def cross (u v : P3) : P3 := ⟨u.y * v.z - u.z * v.y, u.z * v.x - u.x * v.z, u.x * v.y - u.y * v.x⟩
end P3
def T3.normal (t : T3) : P3 := (t.b.sub t.a).cross (t.c.sub t.a)
def pt (p : P3) : Go.Value := .agg #[.int .i64 p.x, .int .i64 p.y, .int .i64 p.z]
def tr (t : T3) : Go.Value := .agg #[.int .i64 t.a.x, .int .i64 t.a.y, .int .i64 t.a.z, .int .i64 t.b.x, .int .i64 t.b.y, .int .i64 t.b.z, .int .i64 t.c.x, .int .i64 t.c.y, .int .i64 t.c.z]
def wv (v : P3) : Go.Value := .agg #[.bool (wneg v.x), .string (wmag v.x), .bool (wneg v.y), .string (wmag v.y), .bool (wneg v.z), .string (wmag v.z)]
theorem Bw.up {k m : Nat} {n : Int} [x : Bw k n] (h : k ≤ m := by decide) : Bd m n := x.h.mono h
theorem wmag_zero : wmag 0 = ⟨#[]⟩ := by
  have : beBytes 0 = [] := by
    unfold beBytes
    rw [(digs_eq_nil (B := 256) (by omega)).2 rfl]
    rfl
  simp only [wmag, Int.natAbs_zero, this]
theorem W_zero : W 0 = .agg #[.bool false, .string ⟨#[]⟩] := by simp only [W, wmag_zero]; rfl
class Iw (n : Int) : Prop where
  h : I64 n
class I3 (p : P3) : Prop where
  x : I64 p.x
  y : I64 p.y
  z : I64 p.z
class IT (t : T3) : Prop where
  a : I3 t.a
  b : I3 t.b
  c : I3 t.c
instance {p : P3} [h : I3 p] : Iw p.x := ⟨h.x⟩
instance {p : P3} [h : I3 p] : Iw p.y := ⟨h.y⟩
instance {p : P3} [h : I3 p] : Iw p.z := ⟨h.z⟩
instance {t : T3} [h : IT t] : I3 t.a := h.a
instance {t : T3} [h : IT t] : I3 t.b := h.b
instance {t : T3} [h : IT t] : I3 t.c := h.c
instance {n : Int} [h : Iw n] : Bw 64 n := ⟨h.h.bd⟩
class Bv (k : outParam Nat) (v : P3) : Prop where
  x : Bd k v.x
  y : Bd k v.y
  z : Bd k v.z
instance {k : Nat} {v : P3} [h : Bv k v] : Bw k v.x := ⟨h.x⟩
instance {k : Nat} {v : P3} [h : Bv k v] : Bw k v.y := ⟨h.y⟩
instance {k : Nat} {v : P3} [h : Bv k v] : Bw k v.z := ⟨h.z⟩
theorem Bv.mono {k m : Nat} {v : P3} (h : Bv k v) (hk : k ≤ m) : Bv m v := ⟨h.x.mono hk, h.y.mono hk, h.z.mono hk⟩
theorem Bv.of {k m : Nat} {v : P3} [h : Bv k v] (hk : k ≤ m := by decide) : Bv m v := h.mono hk
instance {p q : P3} [a : I3 p] [b : I3 q] : Bv 65 (p.sub q) := ⟨a.x.bd.sub b.x.bd, a.y.bd.sub b.y.bd, a.z.bd.sub b.z.bd⟩
theorem bd_prod {k l : Nat} {a b c d : Int} (ha : Bd k a) (hb : Bd l b) (hc : Bd k c) (hd : Bd l d) : Bd (k + l + 1) (a * b - c * d) := by
  have := (ha.mul hb).sub (hc.mul hd)
  exact this.mono (by omega)
theorem bd_prod' {k l : Nat} {a b c d : Int} (ha : Bd k a) (hb : Bd l b) (hc : Bd k c) (hd : Bd l d) : Bd (k + l + 1) (a * b + c * d) := by
  have := (ha.mul hb).add (hc.mul hd)
  exact this.mono (by omega)
instance {k l : Nat} {u v : P3} [a : Bv k u] [b : Bv l v] : Bv (k + l + 1) (u.cross v) := ⟨bd_prod a.y b.z a.z b.y, bd_prod a.z b.x a.x b.z, bd_prod a.x b.y a.y b.x⟩
instance {k l : Nat} {u v : P3} [a : Bv k u] [b : Bv l v] : Bw (k + l + 2) (u.dot v) := ⟨((bd_prod' a.x b.x a.y b.y).add (a.z.mul b.z)).mono (by omega)⟩
instance {t : T3} [h : IT t] : Bv 131 t.normal := inferInstanceAs (Bv 131 ((t.b.sub t.a).cross (t.c.sub t.a)))
theorem P3.dot0 {u v : P3} : 0 + u.x * v.x + u.y * v.y + u.z * v.z = u.dot v := by simp only [P3.dot, Int.zero_add]
section
variable {P : Program} {Q : Exit → Act → World → Prop} {a : Act} {w : World} {c : Code} {n : Nat}
theorem rounds_step (h : c.wp P (Exit.then (Code.rounds P c Q n) Q) a w) : Code.rounds P c Q (n + 1) a w := h
theorem then_rounds (h : c.wp P (Exit.then (Code.rounds P c Q n) Q) a w) : Exit.then (Code.rounds P c Q (n + 1)) Q .normal a w := h
end
end Go.Lith
namespace Go.Lith
open Go.RowKit
def nv (v : P3) : Go.Value := .agg #[.int .i64 v.x, .int .i64 v.y, .int .i64 v.z]
def sg (v : P3) : Go.Value := .agg #[.int .i64 (isign v.x), .int .i64 (isign v.y), .int .i64 (isign v.z)]
class S3 (p : P3) : Prop where
  x : p.x.natAbs < 262144
  y : p.y.natAbs < 262144
  z : p.z.natAbs < 262144
class N3 (p : P3) : Prop where
  x : p.x.natAbs < 524288
  y : p.y.natAbs < 524288
  z : p.z.natAbs < 524288
instance {p q : P3} [a : S3 p] [b : S3 q] : N3 (p.sub q) := ⟨by have := a.x; have := b.x; simp only [P3.sub]; omega, by have := a.y; have := b.y; simp only [P3.sub]; omega, by have := a.z; have := b.z; simp only [P3.sub]; omega⟩
theorem mulS {a b : Int} (ha : a.natAbs < 524288) (hb : b.natAbs < 524288) : -274877906944 < a * b ∧ a * b < 274877906944 := by
  have h : (a * b).natAbs ≤ 524287 * 524287 := by rw [Int.natAbs_mul]; exact Nat.mul_le_mul (by omega) (by omega)
  omega
theorem subS {x y : Int} (h : -274877906944 < x ∧ x < 274877906944) (k : -274877906944 < y ∧ y < 274877906944) : IntKind.i64.wrap (x - y) = x - y := wrap_i64 (by omega) (by omega)
theorem wrapS {x : Int} (h : -274877906944 < x ∧ x < 274877906944) : IntKind.i64.wrap x = x := wrap_i64 (by omega) (by omega)
theorem abs64 {v : Int} (h : I64 v) : IntKind.u64.wrap (if v < IntKind.i64.wrap (0 - v) then IntKind.i64.wrap (0 - v) else v) = (v.natAbs : Int) := by
  obtain ⟨h1, h2⟩ := h
  rcases Int.lt_or_le (-9223372036854775808) v with h3 | h3
  · rw [wrap_i64 (x := 0 - v) (by omega) (by omega), wrap_u64_emod]
    split <;> omega
  · obtain rfl : v = -9223372036854775808 := by omega
    decide
def len8 : ByteArray := ⟨#[0, 1, 2, 2, 3, 3, 3, 3, 4, 4, 4, 4, 4, 4, 4, 4, 5, 5, 5, 5, 5, 5, 5, 5, 5, 5, 5, 5, 5, 5, 5, 5, 6, 6, 6, 6, 6, 6, 6, 6, 6, 6, 6, 6, 6, 6, 6, 6, 6, 6, 6, 6, 6, 6, 6, 6, 6, 6, 6, 6, 6, 6, 6, 6, 7, 7, 7, 7, 7, 7, 7, 7, 7, 7, 7, 7, 7, 7, 7, 7, 7, 7, 7, 7, 7, 7, 7, 7, 7, 7, 7, 7, 7, 7, 7, 7, 7, 7, 7, 7, 7, 7, 7, 7, 7, 7, 7, 7, 7, 7, 7, 7, 7, 7, 7, 7, 7, 7, 7, 7, 7, 7, 7, 7, 7, 7, 7, 7, 8, 8, 8, 8, 8, 8, 8, 8, 8, 8, 8, 8, 8, 8, 8, 8, 8, 8, 8, 8, 8, 8, 8, 8, 8, 8, 8, 8, 8, 8, 8, 8, 8, 8, 8, 8, 8, 8, 8, 8, 8, 8, 8, 8, 8, 8, 8, 8, 8, 8, 8, 8, 8, 8, 8, 8, 8, 8, 8, 8, 8, 8, 8, 8, 8, 8, 8, 8, 8, 8, 8, 8, 8, 8, 8, 8, 8, 8, 8, 8, 8, 8, 8, 8, 8, 8, 8, 8, 8, 8, 8, 8, 8, 8, 8, 8, 8, 8, 8, 8, 8, 8, 8, 8, 8, 8, 8, 8, 8, 8, 8, 8, 8, 8, 8, 8, 8, 8, 8, 8, 8, 8, 8, 8, 8, 8, 8, 8]⟩
theorem len8_spec : ∀ i, i < 256 → ∃ b : UInt8, len8[i]? = some b ∧ b.toNat ≤ 8 ∧ (b.toNat ≤ 2 → i < 4) := by
  have h : (List.range 256).all (fun i => match len8[i]? with
    | some b => decide (b.toNat ≤ 8) && (decide (2 < b.toNat) || decide (i < 4))
    | none => false) = true := by decide +kernel
  intro i hi
  have := List.all_eq_true.1 h i (List.mem_range.2 hi)
  cases hb : len8[i]? with
  | none => rw [hb] at this; cases this
  | some b =>
    rw [hb] at this
    simp only [Bool.and_eq_true, Bool.or_eq_true, decide_eq_true_eq] at this
    exact ⟨b, rfl, this.1, fun h => by omega⟩
section
variable {P : Program} {ds : List Deferred} {l : List Value} {x y : Operand} {T ty : TypeId} {ops : Array Oper} {Q : Exit → Act → World → Prop} {rest : List Oper} {d : Nat} {pos : String} {after : Array Edge} {w : World} {k : IntKind}
theorem n_len8 {Y : Nat} (hu : P.underlying T = some .string) (hx : ev l x = .string len8) (hy : ev l y = .int k (Y : Int)) (hY : Y < 256) (h : ∀ b : Nat, b ≤ 8 → (b ≤ 2 → Y < 4) → wpList P ops Q rest (Fr (l.set d (.int .u8 (b : Int))) ds) w) :
    wpList P ops Q (Oper.mk (some d) (.index T x y) ty pos after none :: rest) (Fr l ds) w := by
  obtain ⟨b, hb, h1, h2⟩ := len8_spec Y hY
  exact n_val (r_indexStr hu hx hy (by omega) (by rw [Int.toNat_natCast]; exact hb)) (h b.toNat h1 h2)
end
theorem shr16n {m : Nat} : (m : Int).fdiv (2 ^ (min (16 : Int).toNat IntKind.u64.bits)) = ((m / 65536 : Nat) : Int) := by
  show (m : Int).fdiv (2 ^ 16) = _
  rw [Int.fdiv_eq_ediv_of_nonneg _ (by decide)]
  omega
theorem shr8n {m : Nat} : (m : Int).fdiv (2 ^ (min (8 : Int).toNat IntKind.u64.bits)) = ((m / 256 : Nat) : Int) := by
  show (m : Int).fdiv (2 ^ 8) = _
  rw [Int.fdiv_eq_ediv_of_nonneg _ (by decide)]
  omega
end Go.Lith
namespace Go.Lith
open Go.RowKit
def segq (x p q : P3) : Rat :=
  if (q.sub p).dot (x.sub p) ≤ 0 then Rat.divInt ((x.sub p).dot (x.sub p)) 1
  else if (q.sub p).dot (q.sub p) ≤ (q.sub p).dot (x.sub p) then Rat.divInt ((q.sub x).dot (q.sub x)) 1
  else Rat.divInt ((x.sub p).dot (x.sub p) * (q.sub p).dot (q.sub p) - (q.sub p).dot (x.sub p) * (q.sub p).dot (x.sub p)) ((q.sub p).dot (q.sub p))
def side (n a b x : P3) : Int := n.dot ((b.sub a).cross (x.sub a))
def ins (x : P3) (t : T3) : Prop := 0 ≤ side t.normal t.a t.b x ∧ 0 ≤ side t.normal t.b t.c x ∧ 0 ≤ side t.normal t.c t.a x
instance (x : P3) (t : T3) : Decidable (ins x t) := inferInstanceAs (Decidable (_ ∧ _ ∧ _))
def T3.flat (t : T3) : Prop := t.normal.x = 0 ∧ t.normal.y = 0 ∧ t.normal.z = 0
instance (t : T3) : Decidable t.flat := inferInstanceAs (Decidable (_ ∧ _ ∧ _))
def minq (m q : Rat) : Rat := if q < m then q else m
def edgeq (x : P3) (t : T3) : Rat := minq (minq (segq x t.a t.b) (segq x t.b t.c)) (segq x t.c t.a)
def faceq (x : P3) (t : T3) : Rat := Rat.divInt (t.normal.dot (x.sub t.a) * t.normal.dot (x.sub t.a)) (t.normal.dot t.normal)
def triq (x : P3) (t : T3) : Rat := if ¬ t.flat ∧ ins x t then faceq x t else edgeq x t
def farq (x : P3) : List T3 → Rat
  | [] => 0
  | t :: ts => ts.foldl (fun m u => minq m (triq x u)) (triq x t)
theorem isign_zero_iff {n : Int} : isign n = 0 ↔ n = 0 := by
  unfold isign
  constructor
  · intro h
    split at h
    · cases h
    · split at h
      · cases h
      · omega
  · rintro rfl; rfl
theorem isign_nn {n : Int} : 0 ≤ isign n ↔ 0 ≤ n := by
  unfold isign
  split
  · constructor <;> intro h <;> omega
  · split <;> constructor <;> intro h <;> omega
theorem isign_gt {n : Int} : 0 < isign n ↔ 0 < n := by
  unfold isign
  split
  · constructor <;> intro h <;> omega
  · split <;> constructor <;> intro h <;> omega
theorem isign_le {n : Int} : isign n ≤ 0 ↔ n ≤ 0 := by
  have := @isign_gt n
  omega
theorem flat_isign {t : T3} : (isign t.normal.x = 0 ∧ isign t.normal.y = 0 ∧ isign t.normal.z = 0) ↔ t.flat := by
  simp only [isign_zero_iff, T3.flat]
theorem sq_nn (a : Int) : 0 ≤ a * a := by
  rcases Int.le_total 0 a with h | h
  · exact Int.mul_nonneg h h
  · exact Int.mul_nonneg_of_nonpos_of_nonpos h h
theorem sq_pos {a : Int} (h : a ≠ 0) : 0 < a * a := by
  rcases Int.lt_or_gt_of_ne h with h | h
  · exact Int.mul_pos_of_neg_of_neg h h
  · exact Int.mul_pos h h
theorem dot_nn (u : P3) : 0 ≤ u.dot u := by
  have := sq_nn u.x; have := sq_nn u.y; have := sq_nn u.z
  simp only [P3.dot]; omega
theorem dot_pos {u : P3} : 0 < u.dot u ↔ ¬ (u.x = 0 ∧ u.y = 0 ∧ u.z = 0) := by
  have h1 := sq_nn u.x; have h2 := sq_nn u.y; have h3 := sq_nn u.z
  constructor
  · rintro h ⟨e1, e2, e3⟩
    simp [P3.dot, e1, e2, e3] at h
  · intro h
    simp only [P3.dot]
    by_cases e1 : u.x = 0
    · by_cases e2 : u.y = 0
      · by_cases e3 : u.z = 0
        · exact absurd ⟨e1, e2, e3⟩ h
        · have := sq_pos e3; omega
      · have := sq_pos e2; omega
    · have := sq_pos e1; omega
theorem flat_dot {t : T3} : 0 < t.normal.dot t.normal ↔ ¬ t.flat := dot_pos
theorem Bq.mono {k m : Nat} {q : Rat} (h : Bq k q) (hk : k ≤ m) : Bq m q := ⟨h.n.mono hk, h.d.mono hk⟩
theorem bd_11 : Bd 1 1 := by
  show Int.natAbs 1 < 2 ^ 1
  decide
instance : Bw 1 1 := ⟨bd_11⟩
theorem bd_one {k : Nat} : Bd (k + 1) 1 := bd_11.mono (by omega)
theorem segq_bq {x p q : P3} [I3 x] [I3 p] [I3 q] : Bq 1000 (segq x p q) := by
  unfold segq
  split
  · exact (Bq.mk' (a := 200) (b := 1) Bw.up bd_11 (by decide)).mono (by decide)
  · split
    · exact (Bq.mk' (a := 200) (b := 1) Bw.up bd_11 (by decide)).mono (by decide)
    · exact (Bq.mk' (a := 400) (b := 200) Bw.up Bw.up (by rename_i h1 h2; have := dot_nn (q.sub p); omega)).mono (by decide)
theorem minq_bq {m q : Rat} (h : Bq 1000 m) (k : Bq 1000 q) : Bq 1000 (minq m q) := by
  unfold minq
  split
  · exact k
  · exact h
theorem triq_bq {x : P3} {t : T3} [I3 x] [IT t] : Bq 1000 (triq x t) := by
  unfold triq
  split
  · rename_i h
    have := flat_dot.2 h.1
    exact (Bq.mk' (a := 500) (b := 300) Bw.up Bw.up (by omega)).mono (by decide)
  · exact minq_bq (minq_bq segq_bq segq_bq) segq_bq
theorem foldl_bq {x : P3} [I3 x] : ∀ (ts : List T3) (m : Rat), (∀ t ∈ ts, IT t) → Bq 1000 m → Bq 1000 (ts.foldl (fun m u => minq m (triq x u)) m)
  | [], m, _, h => h
  | t :: ts, m, ht, h => by
    haveI := ht t (by simp)
    exact foldl_bq ts _ (fun u hu => ht u (by simp [hu])) (minq_bq h triq_bq)
theorem triq_edge {x : P3} {t : T3} (h : ¬ (¬ t.flat ∧ ins x t)) : edgeq x t = triq x t := by rw [triq, if_neg h]
theorem triq_face {x : P3} {t : T3} (h : ¬ t.flat ∧ ins x t) : faceq x t = triq x t := by rw [triq, if_pos h]
theorem no0 {x : P3} {t : T3} (h : false = !decide (isign t.normal.x = 0 ∧ isign t.normal.y = 0 ∧ isign t.normal.z = 0)) : ¬ (¬ t.flat ∧ ins x t) := fun ⟨h0, _⟩ => by
  rw [decide_eq_false (fun e => h0 (flat_isign.1 e))] at h
  cases h
theorem yes0 {t : T3} (h : true = !decide (isign t.normal.x = 0 ∧ isign t.normal.y = 0 ∧ isign t.normal.z = 0)) : ¬ t.flat := fun e => by
  rw [decide_eq_true (flat_isign.2 e)] at h
  cases h
theorem no_side {n : Int} (h : false = decide (0 ≤ isign n)) : ¬ 0 ≤ n := fun e => of_decide_eq_false h.symm (isign_nn.2 e)
theorem yes_side {n : Int} (h : true = decide (0 ≤ isign n)) : 0 ≤ n := isign_nn.1 (of_decide_eq_true h.symm)
theorem Bq.up {k m : Nat} {q : Rat} [h : Bq k q] (hk : k ≤ m := by decide) : Bq m q := h.mono hk
instance {x p q : P3} [I3 x] [I3 p] [I3 q] : Bq 1000 (segq x p q) := segq_bq
instance {x : P3} {t : T3} [I3 x] [IT t] : Bq 1000 (triq x t) := triq_bq
theorem farq_bq {x : P3} [I3 x] {ts : List T3} (h : ∀ t ∈ ts, IT t) : Bq 1000 (farq x ts) := by
  cases ts with
  | nil => exact ⟨(bd_zero 1000), by show Bd 1000 1; exact bd_one⟩
  | cons t ts =>
    haveI := h t (by simp)
    exact foldl_bq ts _ (fun u hu => h u (by simp [hu])) triq_bq
theorem farq_one {x : P3} {ts : List T3} {t : T3} (h : ts[0]? = some t) : farq x (ts.take 1) = triq x t := by
  cases ts with
  | nil => cases h
  | cons u ts => cases h; rfl
theorem farq_step {x : P3} {ts : List T3} {t : T3} {k : Nat} (hk : k ≠ 0) (h : ts[k]? = some t) : farq x (ts.take (k + 1)) = minq (farq x (ts.take k)) (triq x t) := by
  cases ts with
  | nil => cases h
  | cons u ts =>
    obtain ⟨k, rfl⟩ : ∃ j, k = j + 1 := ⟨k - 1, by omega⟩
    rw [List.take_succ_cons, List.take_succ_cons, List.take_add_one]
    simp only [List.getElem?_cons_succ] at h
    rw [h]
    simp [farq, List.foldl_append]
structure TrisAt (w : World) (A : Option Addr) (n : Nat) (ts : List T3) : Prop where
  len : ts.length = n
  it : ∀ t ∈ ts, IT t
  row : ∀ i t, ts[i]? = some t → ∃ a, A = some a ∧ Row w (a.add (i * 9)) [.int .i64 t.a.x, .int .i64 t.a.y, .int .i64 t.a.z, .int .i64 t.b.x, .int .i64 t.b.y, .int .i64 t.b.z, .int .i64 t.c.x, .int .i64 t.c.y, .int .i64 t.c.z]
theorem TrisAt.ext {w w' : World} {A : Option Addr} {n : Nat} {ts : List T3} (h : TrisAt w A n ts) (hE : Ext w w') : TrisAt w' A n ts :=
  ⟨h.len, h.it, fun i t hi => let ⟨a, e, hr⟩ := h.row i t hi; ⟨a, e, hr.ext hE⟩⟩
theorem TrisAt.nil (w : World) (A : Option Addr) : TrisAt w A 0 [] := ⟨rfl, fun t h => (by cases h), fun i t h => (by cases h)⟩
theorem TrisAt.get {w : World} {A : Option Addr} {n : Nat} {ts : List T3} (h : TrisAt w A n ts) {i : Nat} (hi : i < n) : ∃ t, ts[i]? = some t ∧ IT t ∧ ∃ a, A = some a ∧ Row w (a.add (i * 9)) [.int .i64 t.a.x, .int .i64 t.a.y, .int .i64 t.a.z, .int .i64 t.b.x, .int .i64 t.b.y, .int .i64 t.b.z, .int .i64 t.c.x, .int .i64 t.c.y, .int .i64 t.c.z] := by
  have hl : i < ts.length := by rw [h.len]; exact hi
  refine ⟨ts[i], List.getElem?_eq_getElem hl, h.it _ (List.getElem_mem hl), h.row i _ (List.getElem?_eq_getElem hl)⟩
end Go.Lith
namespace Go.Lith
open Go.RowKit
def sumT (f : T3 → Int) (ts : List T3) : Int := (ts.map f).sum
theorem sumT_step {f : T3 → Int} {ts : List T3} {t : T3} {k : Nat} (h : ts[k]? = some t) : sumT f (ts.take (k + 1)) = sumT f (ts.take k) + f t := by
  unfold sumT
  rw [List.take_add_one, h]
  simp
theorem sumT_bound {f : T3 → Int} {m : Nat} : ∀ (ts : List T3), (∀ t ∈ ts, Bd m (f t)) → (sumT f ts).natAbs ≤ ts.length * 2 ^ m
  | [], _ => by simp [sumT]
  | t :: ts, h => by
    have h1 := sumT_bound ts (fun u hu => h u (by simp [hu]))
    have h2 := h t (by simp)
    unfold Bd at h2
    have e : sumT f (t :: ts) = f t + sumT f ts := by simp [sumT]
    rw [e, List.length_cons, Nat.add_mul, Nat.one_mul]
    omega
theorem sumT_bd {f : T3 → Int} {m : Nat} {ts : List T3} (h : ∀ t ∈ ts, Bd m (f t)) (hl : ts.length < 2 ^ 64) : Bd (64 + m) (sumT f ts) := by
  have h1 := sumT_bound ts h
  unfold Bd
  rw [Nat.pow_add]
  exact Nat.lt_of_le_of_lt h1 (Nat.mul_lt_mul_of_pos_right hl (Nat.two_pow_pos m))
theorem sumT_bdt {f : T3 → Int} {m k : Nat} {ts : List T3} (h : ∀ t ∈ ts, Bd m (f t)) (hl : ts.length < 2 ^ 64) : Bd (64 + m) (sumT f (ts.take k)) :=
  sumT_bd (fun t ht => h t (List.mem_of_mem_take ht)) (Nat.lt_of_le_of_lt (by rw [List.length_take]; exact Nat.min_le_right ..) hl)
def nn (t : T3) : Int := t.normal.dot t.normal
def lowA (t : T3) : Int := (isqrt (nn t).natAbs : Int)
def highA (t : T3) : Int := lowA t + if lowA t * lowA t = nn t then 0 else 1
theorem lowA_bd {t : T3} [IT t] : Bd 300 (lowA t) := by
  have h : Bd 300 (nn t) := (Bw.up : Bd 300 (t.normal.dot t.normal))
  refine h.of_le ?_
  simp only [lowA, Int.natAbs_natCast]
  exact isqrt_le _
theorem highA_bd {t : T3} [IT t] : Bd 301 (highA t) := by
  refine (lowA_bd (t := t)).add ?_ |>.mono (by decide : max 300 1 + 1 ≤ 301)
  split
  · exact bd_zero 1
  · exact bd_11
instance {t : T3} [IT t] : Bw 300 (lowA t) := ⟨lowA_bd⟩
instance {t : T3} [IT t] : Bw 301 (highA t) := ⟨highA_bd⟩
instance {t : T3} [IT t] : Bw 300 (nn t) := ⟨(Bw.up : Bd 300 (t.normal.dot t.normal))⟩
def det (t : T3) : Int := t.a.dot (t.b.cross t.c)
theorem det_six {a b c : P3} {s : Int} : s + a.x * (b.y * c.z) + a.y * (b.z * c.x) + a.z * (b.x * c.y) - a.x * (b.z * c.y) - a.y * (b.x * c.z) - a.z * (b.y * c.x) = s + det ⟨a, b, c⟩ := by
  simp only [det, P3.dot, P3.cross]
  grind
theorem i3_bv {p : P3} [h : I3 p] : Bv 64 p := ⟨h.x.bd, h.y.bd, h.z.bd⟩
theorem det_bd {t : T3} [IT t] : Bd 200 (det t) := by
  haveI := i3_bv (p := t.a)
  haveI := i3_bv (p := t.b)
  haveI := i3_bv (p := t.c)
  exact (Bw.up : Bd 200 (t.a.dot (t.b.cross t.c)))
instance {t : T3} [IT t] : Bw 200 (det t) := ⟨det_bd⟩
def mom (f : P3 → Int) (t : T3) : Int := det t * f t.a + det t * f t.b + det t * f t.c
theorem det_step {t : T3} {s : Int} : s + t.a.x * (t.b.y * t.c.z) + t.a.y * (t.b.z * t.c.x) + t.a.z * (t.b.x * t.c.y) - t.a.x * (t.b.z * t.c.y) - t.a.y * (t.b.x * t.c.z) - t.a.z * (t.b.y * t.c.x) = s + det t := det_six
theorem sumT_one {f : T3 → Int} {t : T3} : sumT f [t] = f t := by simp [sumT]
theorem mom_step {f : P3 → Int} {t : T3} {s : Int} : s + det t * f t.a + det t * f t.b + det t * f t.c = s + mom f t := by
  simp only [mom, Int.add_assoc]
theorem mom_bd {f : P3 → Int} {t : T3} [IT t] (ha : Bd 64 (f t.a)) (hb : Bd 64 (f t.b)) (hc : Bd 64 (f t.c)) : Bd 300 (mom f t) :=
  (((det_bd.mul ha).add (det_bd.mul hb)).add (det_bd.mul hc)).mono (by decide)
theorem W_eq_iff {a b : Int} : (wneg a = wneg b ∧ wmag a = wmag b) ↔ a = b := by
  constructor
  · rintro ⟨h1, h2⟩
    exact W_inj (by simp only [W, h1, h2])
  · rintro rfl; exact ⟨rfl, rfl⟩
theorem TrisAt.one {w : World} {g : Nat} {t : T3} {T : TypeId} [h : IT t] (hB : Blk w g [.int .i64 t.a.x, .int .i64 t.a.y, .int .i64 t.a.z, .int .i64 t.b.x, .int .i64 t.b.y, .int .i64 t.b.z, .int .i64 t.c.x, .int .i64 t.c.y, .int .i64 t.c.z] T) : TrisAt w (some ⟨g, 0, none⟩) 1 [t] := by
  refine ⟨rfl, fun u hu => ?_, fun i u hi => ?_⟩
  · obtain rfl := List.mem_singleton.1 hu
    exact h
  · cases i with
    | zero =>
      cases hi
      exact ⟨_, rfl, hB.row 0⟩
    | succ i => cases hi
def cq (m v : Int) : Rat := if v = 0 then 0 else Rat.divInt m (v * 4)
def fv (a b c : Rat) : Go.Value := .agg #[.bool (wneg a.num), .string (wmag a.num), .bool (wneg (a.den : Int)), .string (wmag (a.den : Int)), .bool (wneg b.num), .string (wmag b.num), .bool (wneg (b.den : Int)), .string (wmag (b.den : Int)), .bool (wneg c.num), .string (wmag c.num), .bool (wneg (c.den : Int)), .string (wmag (c.den : Int))]
theorem highA_ne {t : T3} {s : Int} (h : ¬ lowA t * lowA t = nn t) : s + highA t = s + lowA t + 1 := by rw [highA, if_neg h, Int.add_assoc]
theorem highA_eq {t : T3} {s : Int} (h : lowA t * lowA t = nn t) : s + highA t = s + lowA t := by rw [highA, if_pos h, Int.add_zero]
theorem TrisAt.at {w : World} {a : Addr} {n i : Nat} {ts : List T3} {t : T3} (h : TrisAt w (some a) n ts) (ht : ts[i]? = some t) : Row w (a.add (i * 9)) [.int .i64 t.a.x, .int .i64 t.a.y, .int .i64 t.a.z, .int .i64 t.b.x, .int .i64 t.b.y, .int .i64 t.b.z, .int .i64 t.c.x, .int .i64 t.c.y, .int .i64 t.c.z] := by
  obtain ⟨a', ha, hr⟩ := h.row i t ht
  cases ha
  exact hr
theorem highA_ne' {t : T3} {s : Int} (h : ¬ lowA t * lowA t = nn t) : s + highA t = s + (lowA t + 1) := by rw [highA, if_neg h]
theorem TrisAt.empty {w : World} {A : Option Addr} {n : Nat} {ts : List T3} (h : TrisAt w A n ts) (h0 : n = 0) : ts = [] := List.eq_nil_of_length_eq_zero (by rw [h.len]; exact h0)
end Go.Lith
namespace Go.Lith
open Go.RowKit
def triCells (t : T3) : List Go.Value := [.int .i64 t.a.x, .int .i64 t.a.y, .int .i64 t.a.z, .int .i64 t.b.x, .int .i64 t.b.y, .int .i64 t.b.z, .int .i64 t.c.x, .int .i64 t.c.y, .int .i64 t.c.z]
theorem Row.pre {w : World} {a : Addr} {xs ys : List Go.Value} (h : Row w a (xs ++ ys)) : Row w a xs := fun j u hj => h j u (by
  have hl : j < xs.length := (List.getElem?_eq_some_iff.1 hj).1
  rw [List.getElem?_append_left hl]; exact hj)
theorem triCells_length (t : T3) : (triCells t).length = 9 := rfl
theorem drop_flat : ∀ (ts : List T3) (i : Nat) (t : T3), ts[i]? = some t → (ts.flatMap triCells).drop (i * 9) = triCells t ++ (ts.drop (i + 1)).flatMap triCells
  | [], i, t, h => by cases h
  | u :: ts, 0, t, h => by
    cases h
    rfl
  | u :: ts, i + 1, t, h => by
    rw [List.flatMap_cons, show (i + 1) * 9 = (triCells u).length + i * 9 by rw [triCells_length]; omega, List.drop_append, List.drop_of_length_le (by omega), List.nil_append]
    rw [show (triCells u).length + i * 9 - (triCells u).length = i * 9 by omega]
    exact drop_flat ts i t h
theorem TrisAt.of_cells {w : World} {g n : Nat} {ts : List T3} {T : TypeId} {cs : List Go.Value} (hB : Blk w g cs T) (hc : cs = ts.flatMap triCells) (hn : ts.length = n) (hi : ∀ t ∈ ts, IT t) : TrisAt w (some ⟨g, 0, none⟩) n ts := by
  subst hc
  refine ⟨hn, hi, fun i t ht => ⟨_, rfl, ?_⟩⟩
  rw [addr_add_mk, Nat.zero_add]
  have := hB.row (i * 9)
  rw [drop_flat ts i t ht] at this
  exact this.pre
instance {a b c : Int} [x : Iw a] [y : Iw b] [z : Iw c] : I3 ⟨a, b, c⟩ := ⟨x.h, y.h, z.h⟩
instance {a b c : P3} [x : I3 a] [y : I3 b] [z : I3 c] : IT ⟨a, b, c⟩ := ⟨x, y, z⟩
end Go.Lith
namespace Go.Lith
open Go.RowKit
abbrev blkOf (A : Option Addr) : Option Nat := A.map (·.block)
structure Ow (w0 w : World) (S : List (Option Nat)) (E : TypeId) (c : Nat) (A : Option Addr) (n cap : Nat) (xs : List Value) : Prop where
  own : w.ownsRow w0.heap.size E c (.slice A n cap) n xs
  sep : ∀ b, blkOf A = some b → some b ∉ S
  bd : ∀ b, some b ∈ S → b < w.heap.size
structure Wr (w w' : World) (A : Option Addr) : Prop where
  os : w'.os = w.os
  tape : w'.tape = w.tape
  output : w'.output = w.output
  size : w.heap.size ≤ w'.heap.size
  block : ∀ k, k < w.heap.size → blkOf A ≠ some k → w'.heap[k]? = w.heap[k]?
theorem ownsRow_cases {w : World} {base c n cap : Nat} {E : TypeId} {A : Option Addr} {xs : List Value} (h : w.ownsRow base E c (.slice A n cap) n xs) :
    (A = none ∧ n = 0 ∧ cap = 0 ∧ xs = []) ∨ ∃ g cur, A = some ⟨g, 0, none⟩ ∧ base ≤ g ∧ w.heap[g]? = some (.cells cur E (0, 0)) ∧ n ≤ cap ∧ cap ≤ maxLen ∧ cur.size = cap * c ∧ cur.toList.take (n * c) = xs := by
  rcases h.2 with ⟨h1, h2⟩ | ⟨g, cap', cur, h1, h2, h3, h4, h5, h6, h7⟩
  · cases h1
    exact .inl ⟨rfl, h2, rfl, List.eq_nil_of_length_eq_zero (by rw [h.1, h2, Nat.zero_mul])⟩
  · cases h1
    exact .inr ⟨g, cur, rfl, h2, h3, h4, h5, h6, h7⟩
section
variable {w0 w w' : World} {S : List (Option Nat)} {E : TypeId} {c n cap : Nat} {A : Option Addr} {xs : List Value}
theorem Ow.cases (h : Ow w0 w S E c A n cap xs) : (A = none ∧ n = 0 ∧ cap = 0 ∧ xs = []) ∨ ∃ g cur, A = some ⟨g, 0, none⟩ ∧ w0.heap.size ≤ g ∧ w.heap[g]? = some (.cells cur E (0, 0)) ∧ n ≤ cap ∧ cap ≤ maxLen ∧ cur.size = cap * c ∧ cur.toList.take (n * c) = xs := ownsRow_cases h.own
theorem Ow.lt (h : Ow w0 w S E c A n cap xs) : ∀ b, blkOf A = some b → b < w.heap.size := fun b hb => by
  rcases h.cases with ⟨rfl, _⟩ | ⟨g, cur, rfl, _, hg, _⟩
  · cases hb
  · cases hb
    exact (Array.getElem?_eq_some_iff.1 hg).1
theorem Ow.ge (h : Ow w0 w S E c A n cap xs) : ∀ b, blkOf A = some b → w0.heap.size ≤ b := fun b hb => by
  rcases h.cases with ⟨rfl, _⟩ | ⟨g, cur, rfl, hg, _⟩
  · cases hb
  · cases hb
    exact hg
theorem Ow.le (h : Ow w0 w S E c A n cap xs) : n ≤ cap := by
  rcases h.cases with ⟨_, rfl, rfl, _⟩ | ⟨g, cur, _, _, _, h1, _⟩
  · exact Nat.le_refl _
  · exact h1
theorem Ow.some (h : Ow w0 w S E c A n cap xs) (hn : 0 < n) : ∃ g, A = some ⟨g, 0, none⟩ := by
  rcases h.cases with ⟨_, rfl, _⟩ | ⟨g, cur, rfl, _⟩
  · omega
  · exact ⟨g, rfl⟩
theorem Ow.keep (h : Ow w0 w S E c A n cap xs) (hs : w.heap.size ≤ w'.heap.size) (hb : ∀ b, blkOf A = Option.some b → w'.heap[b]? = w.heap[b]?) : Ow w0 w' S E c A n cap xs := by
  refine ⟨⟨h.own.1, ?_⟩, h.sep, fun b hb => Nat.lt_of_lt_of_le (h.bd b hb) hs⟩
  rcases h.cases with ⟨rfl, rfl, rfl, _⟩ | ⟨g, cur, rfl, h1, h2, h3⟩
  · exact .inl ⟨rfl, rfl⟩
  · exact .inr ⟨g, cap, cur, rfl, h1, (hb g rfl).trans h2, h3⟩
theorem Ow.ext (h : Ow w0 w S E c A n cap xs) (hE : Ext w w') : Ow w0 w' S E c A n cap xs := h.keep hE.size fun b hb => Below.block hE b (h.lt b hb)
theorem Ow.chg {g : Nat} (h : Ow w0 w S E c A n cap xs) (hC : Chg w w' g) (hg : Option.some g ∈ S) : Ow w0 w' S E c A n cap xs :=
  h.keep (by rw [hC.size]; exact Nat.le_refl _) fun b hb => hC.block b (fun e => h.sep b hb (e ▸ hg))
theorem Ow.new {g : Nat} (h : Ow w0 w S E c A n cap xs) (hE : Ext w w') (hg : w.heap.size ≤ g) (hl : g < w'.heap.size) : Ow w0 w' (Option.some g :: S) E c A n cap xs := by
  refine ⟨(h.ext hE).own, fun b hb hm => ?_, fun b hb => ?_⟩
  · rcases List.mem_cons.1 hm with e | hm
    · cases e
      have := h.lt _ hb
      omega
    · exact h.sep b hb hm
  · rcases List.mem_cons.1 hb with e | hb
    · cases e; exact hl
    · exact Nat.lt_of_lt_of_le (h.bd b hb) hE.size
theorem Ow.sub {T : List (Option Nat)} (h : Ow w0 w S E c A n cap xs) (hT : ∀ s ∈ T, s ∈ S) : Ow w0 w T E c A n cap xs := ⟨h.own, fun b hb hm => h.sep b hb (hT _ hm), fun b hb => h.bd b (hT _ hb)⟩
theorem Ow.base {w1 : World} (h : Ow w0 w S E c A n cap xs) (hX : Ext w1 w0) : Ow w1 w S E c A n cap xs := by
  refine ⟨⟨h.own.1, ?_⟩, h.sep, h.bd⟩
  rcases h.cases with ⟨rfl, rfl, rfl, _⟩ | ⟨g, cur, rfl, h1, h2, h3⟩
  · exact .inl ⟨rfl, rfl⟩
  · exact .inr ⟨g, cap, cur, rfl, Nat.le_trans hX.size h1, h2, h3⟩
theorem Ow.newO {w1 : World} {S2 : List (Option Nat)} {E2 : TypeId} {c2 n2 cap2 : Nat} {A2 : Option Addr} {xs2 : List Value} (h : Ow w0 w S E c A n cap xs) (hE : Ext w w') (h2 : Ow w w' S2 E2 c2 A2 n2 cap2 xs2) : Ow w0 w' (blkOf A2 :: S) E c A n cap xs := by
  refine ⟨(h.ext hE).own, fun b hb hm => ?_, fun b hb => ?_⟩
  · rcases List.mem_cons.1 hm with e | hm
    · have := h2.ge b e.symm
      have := h.lt b hb
      omega
    · exact h.sep b hb hm
  · rcases List.mem_cons.1 hb with e | hb
    · exact h2.lt b e.symm
    · exact Nat.lt_of_lt_of_le (h.bd b hb) hE.size
theorem Ow.wr {A2 : Option Addr} (h : Ow w0 w S E c A n cap xs) (hW : Wr w w' A2) (hm : blkOf A2 ∈ S) : Ow w0 w' S E c A n cap xs :=
  h.keep hW.size fun b hb => hW.block b (h.lt b hb) (fun e => h.sep b hb (e ▸ hm))
theorem Ow.app {w1 : World} {S2 : List (Option Nat)} {E2 : TypeId} {c2 n2 cap2 : Nat} {A2 A3 : Option Addr} {xs2 : List Value} (h : Ow w0 w S E c A n cap xs) (hW : Wr w w' A2) (hm : blkOf A2 ∈ S) (hF : A3 = A2 ∨ blkOf A3 = Option.some w.heap.size) (h3 : Ow w1 w' S2 E2 c2 A3 n2 cap2 xs2) : Ow w0 w' (blkOf A3 :: S) E c A n cap xs := by
  refine ⟨(h.wr hW hm).own, fun b hb hm' => ?_, fun b hb => ?_⟩
  · rcases List.mem_cons.1 hm' with e | hm'
    · rcases hF with rfl | hF
      · exact h.sep b hb (e ▸ hm)
      · rw [hF] at e
        cases e
        have := h.lt _ hb
        omega
    · exact h.sep b hb hm'
  · rcases List.mem_cons.1 hb with e | hb
    · exact h3.lt b e.symm
    · exact Nat.lt_of_lt_of_le (h.bd b hb) hW.size
theorem Blk.wr {g : Nat} {cs : List Value} {t : TypeId} (hB : Blk w g cs t) (hW : Wr w w' A) (h : Ow w0 w S E c A n cap xs) (hm : Option.some g ∈ S) : Blk w' g cs t := (hW.block g hB.lt (fun e => h.sep g e hm)).trans hB
theorem Ext.wr {w1 : World} (hX : Ext w1 w) (h : Ow w1 w S E c A n cap xs) (hW : Wr w w' A) : Ext w1 w' :=
  ⟨hW.os.trans hX.os, hW.tape.trans hX.tape, hW.output.trans hX.output, Nat.le_trans hX.size hW.size, fun k hk => (hW.block k (Nat.lt_of_lt_of_le hk hX.size) (fun e => by have := h.ge k e; omega)).trans (Below.block hX k hk)⟩
theorem Ow.row (h : Ow w0 w S E c A n cap xs) : ∀ j u, xs[j]? = Option.some u → ∃ a, A = Option.some a ∧ w.cell? (a.add j) = Option.some u := fun j u hj => by
  rcases h.cases with ⟨_, _, _, rfl⟩ | ⟨g, cur, rfl, _, hg, _, _, _, h4⟩
  · cases hj
  · refine ⟨_, rfl, ?_⟩
    rw [addr_add_mk, Nat.zero_add, cell_of_row w g j cur E (0, 0) hg]
    rw [← h4, List.getElem?_take] at hj
    split at hj
    · simpa using hj
    · cases hj
theorem Ow.rows {g : Nat} (h : Ow w0 w S E c (Option.some ⟨g, 0, none⟩) n cap xs) : Row w ⟨g, 0, none⟩ xs := fun j u hj => by
  obtain ⟨a, e, h1⟩ := h.row j u hj
  cases e
  exact h1
theorem Ow.nil (w0 w : World) (E : TypeId) (c : Nat) : Ow w0 w [] E c none 0 0 [] := ⟨World.ownsRow_nil w _ E c, fun _ h => (by cases h), fun _ h => (by cases h)⟩
theorem Ow.mk' {g : Nat} {cs : List Value} (hB : Blk w g cs E) (hg : w0.heap.size ≤ g) (hl : cs.length = n * c) (hm : n ≤ maxLen) : Ow w0 w [] E c (Option.some ⟨g, 0, none⟩) n n cs :=
  ⟨⟨hl, .inr ⟨g, n, _, rfl, hg, hB, Nat.le_refl _, hm, by simpa using hl, by simp [← hl]⟩⟩, fun _ _ h => (by cases h), fun _ h => (by cases h)⟩
theorem Ow.take (h : Ow w0 w S E c A n cap xs) {k : Nat} (hk : k ≤ n) : Ow w0 w S E c A k cap (xs.take (k * c)) := by
  have hl : (xs.take (k * c)).length = k * c := by
    rw [List.length_take, h.own.1]
    exact Nat.min_eq_left (Nat.mul_le_mul_right _ hk)
  refine ⟨⟨hl, ?_⟩, h.sep, h.bd⟩
  rcases h.cases with ⟨rfl, rfl, rfl, _⟩ | ⟨g, cur, rfl, h1, h2, h3, h4, h5, h6⟩
  · obtain rfl : k = 0 := by omega
    exact .inl ⟨rfl, rfl⟩
  · refine .inr ⟨g, cap, cur, rfl, h1, h2, by omega, h4, h5, ?_⟩
    rw [← h6, List.take_take, Nat.min_eq_left (Nat.mul_le_mul_right _ hk)]
theorem Ow.as {ys : List Value} (h : Ow w0 w S E c A n cap xs) (e : xs = ys) : Ow w0 w S E c A n cap ys := e ▸ h
theorem Ow.len (h : Ow w0 w S E c A n cap xs) {m : Nat} (e : n = m) : Ow w0 w S E c A m cap xs := e ▸ h
end
section
variable {P : Program} {ds : List Deferred} {l : List Value} {x y : Operand} {T ty : TypeId}
variable {ops : Array Oper} {Q : Exit → Act → World → Prop} {rest : List Oper} {d : Nat} {pos : String} {after : Array Edge} {w w0 : World} {S : List (Option Nat)} {E : TypeId} {c n cap m mcap : Nat} {A B : Option Addr} {xs news : List Value}
theorem Wr.refl (w : World) (A : Option Addr) : Wr w w A := ⟨rfl, rfl, rfl, Nat.le_refl _, fun _ _ _ => rfl⟩
theorem run_append_ow {t : TypeId} {i : TypeInfo} {z : Value} {bytes : Nat} (ht : P.underlying t = some (.slice E)) (hi : P.info? E = some i) (hz : i.zero = some z) (hsize : i.size = c) (hby : i.bytes = bytes) (hzs : z.cells.size = c) (hsz : 0 < c)
    (hown : Ow w0 w S E c A n cap xs) (hl : news.length = m * c) (hnews : ∀ j u, news[j]? = some u → ∃ a, B = some a ∧ w.cell? (a.add j) = some u) (h1 : ∀ u ∈ news, u.oneCell' = true)
    (h63 : n + m ≤ maxLen) (hbytes : (n + m) * bytes ≤ 140737488355328) (hbase : w0.heap.size ≤ w.heap.size) :
    ∃ A' cap' w', (Builtin.append_ #[t, t] ty #[.slice A n cap, .slice B m mcap]).run P w = .ok (.slice A' (n + m) cap') w' ∧ Ow w0 w' S E c A' (n + m) cap' (xs ++ news) ∧ Wr w w' A ∧ (A' = A ∨ blkOf A' = some w.heap.size) := by
  subst hsize
  subst hby
  have hsmall : n + m ≤ 9223372036854775807 := by simp only [maxLen] at h63; omega
  have hlen : (xs ++ news).length = (n + m) * i.size := by rw [List.length_append, hown.own.1, hl, Nat.add_mul]
  have grown : ∀ (old : Nat), old < n + m →
      Ow w0 (w.drew.alloc (.cells (xs.toArray ++ news.toArray ++ Builtin.zeroCells z.cells (grownCap w (n + m) old E - (n + m))) E)) S E i.size
        (some ⟨w.heap.size, 0, none⟩) (n + m) (grownCap w (n + m) old E) (xs ++ news) ∧
      Wr w (w.drew.alloc (.cells (xs.toArray ++ news.toArray ++ Builtin.zeroCells z.cells (grownCap w (n + m) old E - (n + m))) E)) A := by
    intro old ho
    have hge := grownCap_ge w (n + m) old E
    have hcm : grownCap w (n + m) old E ≤ maxLen := grownCap_le_maxLen w (n + m) old E h63
    refine ⟨⟨⟨hlen, .inr ⟨w.heap.size, _, _, rfl, hbase, heap_alloc_new w.drew _, hge, hcm, ?_, ?_⟩⟩, fun b hb hm => ?_, fun b hb => ?_⟩, ⟨rfl, rfl, rfl, by simp, fun k hk _ => heap_alloc_old w.drew _ hk⟩⟩
    · simp only [Array.size_append, List.size_toArray, size_zeroCells, hzs, hown.own.1, hl, ← Nat.add_mul]
      congr 1
      omega
    · simp only [Array.toList_append, List.append_assoc]
      rw [← List.append_assoc, ← hlen]
      exact List.take_left
    · have hb' : w.heap.size = b := by simpa using hb
      subst hb'
      exact absurd (hown.bd _ hm) (Nat.lt_irrefl _)
    · have := hown.bd _ hb
      have h2 : (w.drew.alloc (.cells (xs.toArray ++ news.toArray ++ Builtin.zeroCells z.cells (grownCap w (n + m) old E - (n + m))) E)).heap.size = w.heap.size + 1 := by simp
      rw [h2]
      omega
  have hB0 : B = none → m = 0 ∧ news = [] := fun hB => by
    have hn : news = [] := by
      cases news with
      | nil => rfl
      | cons u us => obtain ⟨a, e, _⟩ := hnews 0 u rfl; rw [hB] at e; cases e
    subst hn
    refine ⟨?_, rfl⟩
    rcases Nat.eq_zero_or_pos m with h0 | h0
    · exact h0
    · have := Nat.mul_pos h0 hsz; simp at hl; omega
  rcases hown.cases with ⟨rfl, rfl, rfl, rfl⟩ | ⟨g, cur, rfl, hbg, hg, hnc, hcm, hcs, htake⟩
  · by_cases hm : m = 0
    · subst hm
      have hn : news = [] := List.eq_nil_of_length_eq_zero (by simpa using hl)
      subst hn
      refine ⟨none, 0, w, ?_, by simpa using hown, Wr.refl _ _, .inl rfl⟩
      cases B <;> simp [Builtin.append_, run_underlying ht, sizeOf, typeInfo, hi, Builtin.lenOf, Builtin.firstCells, loadCells, loadCellsFrom]
    · cases B with
      | none => exact absurd (hB0 rfl).1 hm
      | some a =>
        have hr := run_append_nil (P := P) w t ty E i z ht hi hz a m mcap news hl (fun j u hj => by obtain ⟨a', e, h⟩ := hnews j u hj; cases e; exact h) (by omega) (by omega) (by have hb := hbytes; simp only [Nat.zero_add] at hb; omega)
        have hgr := grown 0 (by omega)
        simp only [Nat.zero_add, List.nil_append, Array.empty_append] at hgr ⊢
        exact ⟨_, _, _, hr, hgr.1, hgr.2, .inr rfl⟩
  · cases B with
    | none =>
      obtain ⟨rfl, rfl⟩ := hB0 rfl
      refine ⟨some ⟨g, 0, none⟩, cap, w, ?_, by simpa using hown, Wr.refl _ _, .inl rfl⟩
      simp [Builtin.append_, run_underlying ht, sizeOf, typeInfo, hi, Builtin.lenOf, Builtin.firstCells, hnc, storeCells]
    | some a =>
      have hnews' : ∀ j u, news[j]? = some u → w.cell? (a.add j) = some u := fun j u hj => by obtain ⟨a', e, h⟩ := hnews j u hj; cases e; exact h
      by_cases hroom : n + m ≤ cap
      · have hfit : n * i.size + news.length ≤ cur.size := by rw [hl, hcs, ← Nat.add_mul]; exact Nat.mul_le_mul_right _ hroom
        have hr := run_append_room (P := P) w t ty E i ht hi g n cap cur hg a m mcap news hl hnews' h1 hroom hfit
        refine ⟨_, _, _, hr, ⟨⟨hlen, .inr ⟨g, cap, _, rfl, hbg, setRow_heap w g cur _ E _ hg, hroom, hcm, ?_, ?_⟩⟩, hown.sep, fun b hb => by simpa using hown.bd b hb⟩, ⟨rfl, rfl, rfl, by simp, fun k _ hk => setRow_other w g k _ (fun e => hk (by rw [e]; rfl))⟩, .inl rfl⟩
        · simp only [List.size_toArray, List.length_append, List.length_take, List.length_drop, Array.length_toList]
          omega
        · rw [htake, ← hlen]
          exact List.take_left
      · have hr := run_append_grow (P := P) w t ty E i z ht hi hz ⟨g, 0, none⟩ n cap xs hown.own.1 hown.rows a m mcap news hl hnews' (by omega) (by omega) (growslice_fits (by omega) hbytes)
        have hgr := grown cap (by omega)
        exact ⟨_, _, _, hr, hgr.1, hgr.2, .inr rfl⟩
theorem n_appendO {b : Nat} {z : Value} {a0 : Array TypeId} (ha : a0 = #[T, T]) (hu : P.underlying T = some (.slice E)) (hi : (P.info? E).map (fun i => (i.size, i.bytes, i.zero)) = some (c, b, some z)) (hz : z.cells.size = c) (hc : 0 < c) (hX : Ext w0 w)
    (hs : ev l x = .slice A n cap) (hown : Ow w0 w S E c A n cap xs) (hx : ev l y = .slice B m mcap) (hl : news.length = m * c) (hrow : ∀ j u, news[j]? = some u → ∃ a, B = some a ∧ w.cell? (a.add j) = some u) (h1 : ∀ u ∈ news, u.oneCell' = true) (h63 : n + m ≤ 9223372036854775807) (hbytes : (n + m) * b ≤ 140737488355328)
    (h : ∀ A' cap' w', Ow w0 w' S E c A' (n + m) cap' (xs ++ news) → Wr w w' A → (A' = A ∨ blkOf A' = some w.heap.size) → wpList P ops Q rest (Fr (l.set d (.slice A' (n + m) cap')) ds) w') :
    wpList P ops Q (Oper.mk (some d) (.call { callee := .builtin .append, args := #[x, y], argTypes := a0 }) ty pos after none :: rest) (Fr l ds) w := by
  subst ha
  cases hq : P.info? E with
  | none => rw [hq] at hi; cases hi
  | some i =>
    rw [hq] at hi
    simp only [Option.map_some, Option.some.injEq, Prod.mk.injEq] at hi
    obtain ⟨e1, e2, e3⟩ := hi
    obtain ⟨A', cap', w', hr, h2, h3, h4⟩ := run_append_ow (P := P) (w := w) (ty := ty) (mcap := mcap) hu hq e3 e1 e2 hz hc hown hl hrow h1 (by simpa [maxLen] using h63) hbytes hX.size
    exact n_newW (fun o ho hty => by simp [execOp, ho, hty, resolve, invoke, builtin, ev_eq, hs, hx, hr]) (h A' cap' w' h2 h3 h4)
theorem over_take_own {cur : Array Value} {xs us : List Value} {off k : Nat} (hx : cur.toList.take k = xs) (hl : xs.length = k) (hf : off + us.length ≤ k) : (over cur.toList off us).take k = over xs off us := by
  subst hx
  have hk : k ≤ cur.toList.length := by rw [List.length_take] at hl; omega
  unfold over
  apply List.ext_getElem?
  intro j
  rw [List.getElem?_take]
  have e1 : (cur.toList.take off).length = off := by rw [List.length_take]; omega
  have e2 : ((cur.toList.take k).take off).length = off := by rw [List.length_take, List.length_take]; omega
  simp only [List.append_assoc]
  by_cases h0 : j < k
  · rw [if_pos h0]
    rcases Nat.lt_or_ge j off with h1 | h1
    · rw [List.getElem?_append_left (by omega), List.getElem?_append_left (by omega), List.take_take, Nat.min_eq_left (by omega)]
    · rw [List.getElem?_append_right (l₁ := cur.toList.take off) (by omega), List.getElem?_append_right (l₁ := (cur.toList.take k).take off) (by omega), e1, e2]
      rcases Nat.lt_or_ge (j - off) us.length with h2 | h2
      · rw [List.getElem?_append_left h2, List.getElem?_append_left h2]
      · rw [List.getElem?_append_right h2, List.getElem?_append_right h2, List.getElem?_drop, List.getElem?_drop, List.getElem?_take, if_pos (by omega)]
  · rw [if_neg h0]
    symm
    apply List.getElem?_eq_none
    simp only [List.length_append, e2, List.length_drop, List.length_take]
    omega
theorem n_storeO {g off : Nat} {us : List Value} (hx : ev l x = .pointer (some ⟨g, off, none⟩)) (hv : (ev l y).cells = us.toArray) (hc : Cells P T us.length) (hO : Ow w0 w S E c (some ⟨g, 0, none⟩) n cap xs) (hfit : off + us.length ≤ n * c) (h1 : ∀ u ∈ us, u.oneCell' = true)
    (h : ∀ w', Wr w w' (some ⟨g, 0, none⟩) → Ow w0 w' S E c (some ⟨g, 0, none⟩) n cap (over xs off us) → wpList P ops Q rest (Fr l ds) w') : wpList P ops Q (Oper.mk none (.store T x y) ty pos after none :: rest) (Fr l ds) w := by
  rcases hO.cases with ⟨e, _⟩ | ⟨g', cur, e, hbg, hg, hnc, hcm, hcs, htake⟩
  · cases e
  · cases e
    have hfc : off + us.length ≤ cur.toList.length := by
      have := Nat.mul_le_mul_right c hnc
      simp; omega
    have hB : Blk w g cur.toList E := by unfold Blk; simpa using hg
    refine n_store (cs := cur.toList) (t := E) hx hv hc hB hfc h1 fun w' hC hB' => h w' ⟨hC.os, hC.tape, hC.output, by rw [hC.size]; exact Nat.le_refl _, fun k _ hk => hC.block k (fun e => hk (by rw [e]; rfl))⟩ ?_
    refine ⟨⟨?_, .inr ⟨g, cap, _, rfl, hbg, hB', hnc, hcm, ?_, ?_⟩⟩, hO.sep, fun b hb => by rw [hC.size]; exact hO.bd b hb⟩
    · rw [over_length (by rw [hO.own.1]; exact hfit)]; exact hO.own.1
    · simp only [List.size_toArray]; rw [over_length hfc]; simpa using hcs
    · show ((over cur.toList off us).toArray.toList).take (n * c) = _
      simp only [List.toList_toArray]
      exact over_take_own htake hO.own.1 hfit
end
theorem tri_len (ts : List T3) : (ts.flatMap triCells).length = ts.length * 9 := by
  induction ts with
  | nil => rfl
  | cons t ts ih => rw [List.flatMap_cons, List.length_append, ih, triCells_length, List.length_cons]; omega
theorem Ow.tris {w0 w : World} {S : List (Option Nat)} {E : TypeId} {A : Option Addr} {n cap : Nat} {ts : List T3} (h : Ow w0 w S E 9 A n cap (ts.flatMap triCells)) (hi : ∀ t ∈ ts, IT t) : TrisAt w A n ts := by
  refine ⟨?_, hi, fun i t ht => ?_⟩
  · have := h.own.1; rw [tri_len] at this; omega
  · have hr : ∀ j u, (triCells t)[j]? = Option.some u → (ts.flatMap triCells)[i * 9 + j]? = Option.some u := fun j u hj => by
      have hj' : j < (triCells t).length := (List.getElem?_eq_some_iff.1 hj).1
      rw [← List.getElem?_drop, drop_flat ts i t ht, List.getElem?_append_left hj']
      exact hj
    obtain ⟨a, e, _⟩ := h.row _ _ (hr 0 _ rfl)
    refine ⟨a, e, fun j u hj => ?_⟩
    obtain ⟨a', e', hc⟩ := h.row _ _ (hr j u hj)
    rw [e] at e'
    cases e'
    rw [addr_add_add]
    exact hc
theorem TrisAt.cells {w : World} {A : Option Addr} {n : Nat} {ts : List T3} (h : TrisAt w A n ts) : ∀ j u, (ts.flatMap triCells)[j]? = some u → ∃ a, A = some a ∧ w.cell? (a.add j) = some u := fun j u hj => by
  have hl : j < ts.length * 9 := by
    have := (List.getElem?_eq_some_iff.1 hj).1
    rwa [tri_len] at this
  have hq : j / 9 < ts.length := by omega
  have ht := List.getElem?_eq_getElem hq
  obtain ⟨a, e, hr⟩ := h.row _ _ ht
  refine ⟨a, e, ?_⟩
  have hd := drop_flat ts (j / 9) _ ht
  have hj' : (triCells ts[j / 9])[j % 9]? = some u := by
    have : ((ts.flatMap triCells).drop (j / 9 * 9))[j % 9]? = some u := by rw [List.getElem?_drop, show j / 9 * 9 + j % 9 = j by omega]; exact hj
    rw [hd, List.getElem?_append_left (by rw [triCells_length]; omega)] at this
    exact this
  have := hr _ _ hj'
  rwa [addr_add_add, show j / 9 * 9 + j % 9 = j by omega] at this
theorem tri_one : ∀ (t : T3), ∀ u ∈ triCells t, u.oneCell' = true := fun t u hu => by
  simp only [triCells, List.mem_cons, List.not_mem_nil, or_false] at hu
  rcases hu with rfl | rfl | rfl | rfl | rfl | rfl | rfl | rfl | rfl <;> rfl
theorem tris_one (ts : List T3) : ∀ u ∈ ts.flatMap triCells, u.oneCell' = true := fun u hu => by
  obtain ⟨t, _, h⟩ := List.mem_flatMap.1 hu
  exact tri_one t u h
theorem Blk.rowsO {w : World} {g : Nat} {cs : List Value} {t : TypeId} (h : Blk w g cs t) : ∀ j u, cs[j]? = some u → ∃ a, some (⟨g, 0, none⟩ : Addr) = some a ∧ w.cell? (a.add j) = some u := fun j u hj => ⟨_, rfl, by have := h.row 0; rw [List.drop_zero] at this; exact this j u hj⟩
section
variable {w0 w w' : World} {S : List (Option Nat)} {E : TypeId} {c n cap : Nat} {A : Option Addr} {xs : List Value}
theorem Ow.put {g : Nat} (h : Ow w0 w S E c A n cap xs) (hne : ∀ b, blkOf A = Option.some b → b ≠ g) (hl : g < w.heap.size) : Ow w0 w (Option.some g :: S) E c A n cap xs :=
  ⟨h.own, fun b hb hm => by
    rcases List.mem_cons.1 hm with e | hm
    · cases e; exact hne _ hb rfl
    · exact h.sep b hb hm, fun b hb => by
    rcases List.mem_cons.1 hb with e | hb
    · cases e; exact hl
    · exact h.bd b hb⟩
theorem Ow.upd {g : Nat} (h : Ow w0 w S E c A n cap xs) (hU : Upd w w' g) (hm : Option.some g ∈ S) : Ow w0 w' S E c A n cap xs :=
  h.keep hU.size fun b hb => hU.block b (h.lt b hb) (fun e => h.sep b hb (e ▸ hm))
end
end Go.Lith
namespace Go.Lith
open Go.RowKit
/-! ### Names that are short -/
theorem zD {α : Type} {x : α} {xs : List α} {n : Nat} {d : α} : (x :: xs).getD (n + 1) d = xs.getD n d := rfl
theorem zE {α : Type} {x : α} {xs : List α} {d : α} : (x :: xs).getD 0 d = x := rfl
theorem zF {α : Type} {x : α} {xs : List α} {n : Nat} {a : α} : (x :: xs).set (n + 1) a = x :: xs.set n a := rfl
theorem zG {α : Type} {x : α} {xs : List α} {a : α} : (x :: xs).set 0 a = a :: xs := rfl
theorem zH {α : Type} {x : α} {xs : List α} {n : Nat} : (x :: xs).take (n + 1) = x :: xs.take n := rfl
theorem zI {α : Type} {xs : List α} : xs.take 0 = [] := List.take_zero
theorem zJ {α : Type} {x : α} {xs : List α} {n : Nat} : (x :: xs).drop (n + 1) = xs.drop n := rfl
theorem zK {α : Type} {xs : List α} : xs.drop 0 = xs := rfl
theorem zL {α : Type} {x : α} {xs ys : List α} : (x :: xs) ++ ys = x :: (xs ++ ys) := rfl
theorem zM {α : Type} {ys : List α} : [] ++ ys = ys := rfl
theorem zN {α : Type} {ys : List α} : ys ++ [] = ys := List.append_nil ys
theorem zO {α : Type} {x : α} {xs : List α} : (x :: xs).length = xs.length + 1 := rfl
theorem zP {α : Type} : ([] : List α).length = 0 := rfl
theorem zQ {α β : Type} {f : α → β} {x : α} {xs : List α} : (x :: xs).map f = f x :: xs.map f := rfl
theorem zR {α β : Type} {f : α → β} : ([] : List α).map f = [] := rfl
theorem zS {α : Type} {l : List α} {i : Nat} : l.toArray[i]? = l[i]? := List.getElem?_toArray
theorem zT {α : Type} {x : α} {xs : List α} {n : Nat} : (x :: xs)[n + 1]? = xs[n]? := rfl
theorem zU {α : Type} {x : α} {xs : List α} : (x :: xs)[0]? = some x := rfl
theorem zV {α : Type} {x d : α} : (some x).getD d = x := rfl
end Go.Lith
namespace Go.Lith
open Go.RowKit
structure It where
  id : Option Nat
  P : World → Prop
  lt : ∀ w b, P w → id = some b → b < w.heap.size
  st : ∀ w w', P w → w.heap.size ≤ w'.heap.size → (∀ b, id = some b → w'.heap[b]? = w.heap[b]?) → P w'
def bI (g : Nat) (cs : List Value) (t : TypeId) : It where
  id := some g
  P w := Blk w g cs t
  lt w b h e := by cases e; exact h.lt
  st w w' h _ k := (k g rfl).trans h
def oI (E : TypeId) (c : Nat) (A : Option Addr) (n cap : Nat) (xs : List Value) : It where
  id := blkOf A
  P w := w.ownsRow 0 E c (.slice A n cap) n xs
  lt w b h e := by
    rcases ownsRow_cases h with ⟨rfl, _⟩ | ⟨g, cur, rfl, _, hg, _⟩
    · cases e
    · cases e; exact (Array.getElem?_eq_some_iff.1 hg).1
  st w w' h _ k := by
    refine ⟨h.1, ?_⟩
    rcases ownsRow_cases h with ⟨rfl, rfl, rfl, _⟩ | ⟨g, cur, rfl, h1, h2, h3⟩
    · exact .inl ⟨rfl, rfl⟩
    · exact .inr ⟨g, cap, cur, rfl, h1, (k g rfl).trans h2, h3⟩
def Ap (i j : It) : Prop := ∀ b, i.id = some b → j.id = some b → False
theorem Ap.symm {i j : It} (h : Ap i j) : Ap j i := fun b h1 h2 => h b h2 h1
structure Mem (w0 w : World) (is : List It) : Prop where
  ext : Ext w0 w
  all : ∀ i ∈ is, i.P w
  ge : ∀ i ∈ is, ∀ b, i.id = some b → w0.heap.size ≤ b
  nd : is.Pairwise Ap
def selB : List Bool → List It → List It
  | true :: bs, i :: is => i :: selB bs is
  | false :: bs, _ :: is => selB bs is
  | _, _ => []
theorem selB_sub : ∀ (bs : List Bool) (is : List It), (selB bs is).Sublist is
  | true :: bs, i :: is => (selB_sub bs is).cons_cons i
  | false :: bs, i :: is => (selB_sub bs is).cons i
  | [], is => List.nil_sublist _
  | true :: bs, [] => List.nil_sublist _
  | false :: bs, [] => List.nil_sublist _
section
variable {w0 w w' : World} {is : List It}
theorem Mem.refl (w : World) : Mem w w [] := ⟨Ext.refl w, fun _ h => (by cases h), fun _ h => (by cases h), .nil⟩
theorem Mem.ext' (m : Mem w0 w is) (e : Ext w w') : Mem w0 w' is :=
  ⟨m.ext.trans e, fun i hi => i.st w w' (m.all i hi) e.size fun b hb => Below.block e b (i.lt w b (m.all i hi) hb), m.ge, m.nd⟩
theorem Mem.sel (m : Mem w0 w is) (bs : List Bool) : Mem w0 w (selB bs is) :=
  ⟨m.ext, fun i hi => m.all i ((selB_sub bs is).subset hi), fun i hi => m.ge i ((selB_sub bs is).subset hi), m.nd.sublist (selB_sub bs is)⟩
theorem Mem.tl {i : It} (m : Mem w0 w (i :: is)) : Mem w0 w is := ⟨m.ext, fun j hj => m.all j (List.mem_cons_of_mem _ hj), fun j hj => m.ge j (List.mem_cons_of_mem _ hj), (List.pairwise_cons.1 m.nd).2⟩
theorem Mem.get (m : Mem w0 w is) (k : Nat) {i : It} (hk : is[k]? = some i) : i.P w := m.all i (List.mem_of_getElem? hk)
theorem Mem.b (m : Mem w0 w is) (k : Nat) {g : Nat} {cs : List Value} {t : TypeId} (hk : is[k]? = some (bI g cs t)) : Blk w g cs t := m.get k hk
theorem Mem.o (m : Mem w0 w is) (k : Nat) {E : TypeId} {c n cap : Nat} {A : Option Addr} {xs : List Value} (hk : is[k]? = some (oI E c A n cap xs)) : Ow w0 w [] E c A n cap xs := by
  have h : w.ownsRow 0 E c (.slice A n cap) n xs := m.get k hk
  refine ⟨⟨h.1, ?_⟩, fun _ _ h => (by cases h), fun _ h => (by cases h)⟩
  rcases ownsRow_cases h with ⟨rfl, rfl, rfl, _⟩ | ⟨g, cur, rfl, _, h2, h3⟩
  · exact .inl ⟨rfl, rfl⟩
  · exact .inr ⟨g, cap, cur, rfl, m.ge _ (List.mem_of_getElem? hk) g rfl, h2, h3⟩
theorem Mem.bo (m : Mem w0 w is) (k : Nat) {g : Nat} {cs : List Value} {t : TypeId} (hk : is[k]? = some (bI g cs t)) {n c : Nat} (hl : cs.length = n * c) (hm : n ≤ maxLen) : Ow w0 w [] t c (some ⟨g, 0, none⟩) n n cs :=
  Ow.mk' (m.b k hk) (m.ge _ (List.mem_of_getElem? hk) g rfl) hl hm
theorem Mem.toO (m : Mem w0 w is) (k : Nat) {g : Nat} {cs : List Value} {t : TypeId} (hk : is[k]? = some (bI g cs t)) {n c : Nat} (hl : cs.length = n * c) (hm : n ≤ maxLen) : ∃ i, i = oI t c (some ⟨g, 0, none⟩) n n cs ∧ i.P w := ⟨_, rfl, (m.bo k hk hl hm).own.1, .inr ⟨g, n, _, rfl, Nat.zero_le _, m.b k hk, Nat.le_refl _, hm, by simpa using hl, by simp [← hl]⟩⟩
theorem Mem.new {i : It} (m : Mem w0 w is) (e : Ext w w') (hi : i.P w') (hg : ∀ b, i.id = some b → w.heap.size ≤ b) : Mem w0 w' (i :: is) := by
  have m' := m.ext' e
  refine ⟨m'.ext, fun j hj => ?_, fun j hj => ?_, List.pairwise_cons.2 ⟨fun j hj b h1 h2 => ?_, m'.nd⟩⟩
  · rcases List.mem_cons.1 hj with rfl | hj
    · exact hi
    · exact m'.all j hj
  · rcases List.mem_cons.1 hj with rfl | hj
    · exact fun b hb => Nat.le_trans m.ext.size (hg b hb)
    · exact m'.ge j hj
  · have := j.lt w b (m.all j hj) h2
    have := hg b h1
    omega
theorem Mem.newB {g : Nat} {cs : List Value} {t : TypeId} (m : Mem w0 w is) (e : Ext w w') (hg : w.heap.size ≤ g) (hB : Blk w' g cs t) : Mem w0 w' (bI g cs t :: is) := m.new e hB (fun b h => by cases h; exact hg)
theorem Mem.newO {S : List (Option Nat)} {E : TypeId} {c n cap : Nat} {A : Option Addr} {xs : List Value} (m : Mem w0 w is) (e : Ext w w') (h : Ow w w' S E c A n cap xs) : Mem w0 w' (oI E c A n cap xs :: is) := by
  refine m.new e (i := oI E c A n cap xs) ?_ h.ge
  refine ⟨h.own.1, ?_⟩
  rcases h.cases with ⟨rfl, rfl, rfl, _⟩ | ⟨g, cur, rfl, _, h2, h3⟩
  · exact .inl ⟨rfl, rfl⟩
  · exact .inr ⟨g, cap, cur, rfl, Nat.zero_le _, h2, h3⟩
theorem Mem.nilO (m : Mem w0 w is) (E : TypeId) (c : Nat) : Mem w0 w (oI E c none 0 0 [] :: is) := m.newO (Ext.refl w) (Ow.nil w w E c)
theorem pw_set {i i' : It} : ∀ (is : List It) (k : Nat), is.Pairwise Ap → is[k]? = some i → (∀ x ∈ is, Ap i x → Ap i' x) → (is.set k i').Pairwise Ap
  | [], _, _, h, _ => by cases h
  | j :: is, 0, hp, h, hc => by
    cases h
    rw [List.set_cons_zero]
    have := List.pairwise_cons.1 hp
    exact List.pairwise_cons.2 ⟨fun x hx => hc x (List.mem_cons_of_mem _ hx) (this.1 x hx), this.2⟩
  | j :: is, k + 1, hp, h, hc => by
    rw [List.set_cons_succ]
    have hp' := List.pairwise_cons.1 hp
    have h' : is[k]? = some i := h
    refine List.pairwise_cons.2 ⟨fun x hx => ?_, pw_set is k hp'.2 h' fun x hx => hc x (List.mem_cons_of_mem _ hx)⟩
    rcases List.mem_or_eq_of_mem_set hx with hx | rfl
    · exact hp'.1 x hx
    · exact (hc j (List.mem_cons_self ..) (hp'.1 i (List.mem_of_getElem? h')).symm).symm
theorem Mem.put {i i' : It} (m : Mem w0 w is) (k : Nat) (hk : is[k]? = some i) (hos : w'.os = w.os) (ht : w'.tape = w.tape) (ho : w'.output = w.output) (hs : w.heap.size ≤ w'.heap.size) (hb : ∀ b, b < w.heap.size → i.id ≠ some b → w'.heap[b]? = w.heap[b]?)
    (hi : i'.P w') (hid : i'.id = i.id ∨ ∀ b, i'.id = some b → w.heap.size ≤ b) : Mem w0 w' (is.set k i') := by
  have hmem := List.mem_of_getElem? hk
  refine ⟨⟨hos.trans m.ext.os, ht.trans m.ext.tape, ho.trans m.ext.output, Nat.le_trans m.ext.size hs, fun b hlt => (hb b (Nat.lt_of_lt_of_le hlt m.ext.size) fun e => ?_).trans (Below.block m.ext b hlt)⟩, fun j hj => ?_, fun j hj b hjb => ?_, pw_set is k m.nd hk fun x hx ha b h1 h2 => ?_⟩
  · have := m.ge i hmem b e
    omega
  · obtain ⟨q, hq, e⟩ := List.getElem_of_mem hj
    rw [List.getElem_set] at e
    split at e
    · subst e; exact hi
    · rename_i hne
      rw [List.length_set] at hq
      have hj' : j ∈ is := e ▸ List.getElem_mem hq
      have hq' : is[q]? = some j := by rw [← e]; exact List.getElem?_eq_getElem hq
      refine j.st w w' (m.all j hj') hs fun b hjb => hb b (j.lt w b (m.all j hj') hjb) fun hib => ?_
      have hklt : k < is.length := (List.getElem?_eq_some_iff.1 hk).1
      have hki : is[k] = i := (List.getElem?_eq_some_iff.1 hk).2
      rcases Nat.lt_or_gt_of_ne hne with h | h
      · have := List.pairwise_iff_getElem.1 m.nd k q hklt hq h
        rw [hki, e] at this
        exact this b hib hjb
      · have := List.pairwise_iff_getElem.1 m.nd q k hq hklt h
        rw [hki, e] at this
        exact this b hjb hib
  · rcases List.mem_or_eq_of_mem_set hj with hj | rfl
    · exact m.ge j hj b hjb
    · rcases hid with hid | hid
      · exact m.ge i hmem b (hid ▸ hjb)
      · exact Nat.le_trans m.ext.size (hid b hjb)
  · rcases hid with hid | hid
    · exact ha b (hid ▸ h1) h2
    · have := hid b h1
      have := x.lt w b (m.all x hx) h2
      omega
theorem Mem.re (m : Mem w0 w is) (k : Nat) {g : Nat} {cs cs' : List Value} {t : TypeId} (hk : is[k]? = some (bI g cs t)) (hB : Blk w g cs' t) : Mem w0 w (is.set k (bI g cs' t)) :=
  m.put k hk rfl rfl rfl (Nat.le_refl _) (fun _ _ _ => rfl) hB (.inl rfl)
theorem Mem.reO (m : Mem w0 w is) (k : Nat) {E : TypeId} {c n cap n' cap' : Nat} {A : Option Addr} {xs xs' : List Value} (hk : is[k]? = some (oI E c A n cap xs)) (h : Ow w0 w [] E c A n' cap' xs') : Mem w0 w (is.set k (oI E c A n' cap' xs')) := by
  refine m.put k hk rfl rfl rfl (Nat.le_refl _) (fun _ _ _ => rfl) ?_ (.inl rfl)
  refine ⟨h.own.1, ?_⟩
  rcases h.cases with ⟨rfl, rfl, rfl, _⟩ | ⟨g, cur, rfl, _, h2, h3⟩
  · exact .inl ⟨rfl, rfl⟩
  · exact .inr ⟨g, cap', cur, rfl, Nat.zero_le _, h2, h3⟩
theorem Mem.own (m : Mem w0 w is) (k : Nat) {g : Nat} {cs : List Value} {t : TypeId} (hk : is[k]? = some (bI g cs t)) {n c : Nat} (hl : cs.length = n * c) (hm : n ≤ maxLen) : Mem w0 w (is.set k (oI t c (some ⟨g, 0, none⟩) n n cs)) := by
  obtain ⟨i, rfl, h⟩ := m.toO k hk hl hm
  exact m.put k hk rfl rfl rfl (Nat.le_refl _) (fun _ _ _ => rfl) h (.inl rfl)
theorem leT {a b : Nat} (h : Nat.ble a b = true) : a ≤ b := Nat.le_of_ble_eq_true h
theorem allT {us : List Value} (h : (us.all (·.oneCell')) = true) : ∀ u ∈ us, u.oneCell' = true := fun u hu => List.all_eq_true.1 h u hu
end
section
variable {P : Program} {ds : List Deferred} {l : List Value} {x y : Operand} {T ty : TypeId}
variable {ops : Array Oper} {Q : Exit → Act → World → Prop} {rest : List Oper} {d : Nat} {pos : String} {after : Array Edge} {w w0 : World} {is : List It}
theorem mbox {cs : List Value} (m : Mem w0 w is) (hv : (ev l x).cells = cs.toArray) (h : ∀ g u, Mem w0 u (bI g cs T :: is) → wpList P ops Q rest (Fr (l.set d (.pointer (some ⟨g, 0, none⟩))) ds) u) :
    wpList P ops Q (Oper.mk (some d) (.box T x) ty pos after none :: rest) (Fr l ds) w := n_box hv fun u g e hg hB => h g u (m.newB e hg hB)
theorem malloc {cs : List Value} {z : Value} (m : Mem w0 w is) (hZ : Zero P T z) (hv : z.cells = cs.toArray) (h : ∀ g u, Mem w0 u (bI g cs T :: is) → wpList P ops Q rest (Fr (l.set d (.pointer (some ⟨g, 0, none⟩))) ds) u) :
    wpList P ops Q (Oper.mk (some d) (.alloc T) ty pos after none :: rest) (Fr l ds) w := n_alloc hZ hv fun u g e hg hB => h g u (m.newB e hg hB)
theorem mstore {g off : Nat} {cs us : List Value} {t : TypeId} (m : Mem w0 w is) (k : Nat) (hk : is[k]? = some (bI g cs t)) (hx : ev l x = .pointer (some ⟨g, off, none⟩)) (hv : (ev l y).cells = us.toArray) (hc : Cells P T us.length) (hfit : off + us.length ≤ cs.length) (h1 : (us.all (·.oneCell')) = true)
    (h : ∀ u, Mem w0 u (is.set k (bI g (over cs off us) t)) → wpList P ops Q rest (Fr l ds) u) : wpList P ops Q (Oper.mk none (.store T x y) ty pos after none :: rest) (Fr l ds) w :=
  n_store hx hv hc (m.b k hk) hfit (allT h1) fun u hC hB => h u (m.put k hk hC.os hC.tape hC.output (by rw [hC.size]; exact Nat.le_refl _) (fun b _ hne => hC.block b fun e => hne (by rw [e]; rfl)) hB (.inl rfl))
theorem mstoreO {g off : Nat} {us xs : List Value} {E : TypeId} {c n cap : Nat} (m : Mem w0 w is) (k : Nat) (hk : is[k]? = some (oI E c (some ⟨g, 0, none⟩) n cap xs)) (hx : ev l x = .pointer (some ⟨g, off, none⟩)) (hv : (ev l y).cells = us.toArray) (hc : Cells P T us.length) (hfit : off + us.length ≤ n * c) (h1 : (us.all (·.oneCell')) = true)
    (h : ∀ u, Mem w0 u (is.set k (oI E c (some ⟨g, 0, none⟩) n cap (over xs off us))) → wpList P ops Q rest (Fr l ds) u) : wpList P ops Q (Oper.mk none (.store T x y) ty pos after none :: rest) (Fr l ds) w :=
  n_storeO hx hv hc (m.o k hk) hfit (allT h1) fun u hW hO => h u (m.put k hk hW.os hW.tape hW.output hW.size (fun b hb hne => hW.block b hb hne) (by
    refine ⟨hO.own.1, ?_⟩
    rcases hO.cases with ⟨e, _⟩ | ⟨g, cur, e, _, h2, h3⟩
    · cases e
    · cases e; exact .inr ⟨_, cap, cur, rfl, Nat.zero_le _, h2, h3⟩) (.inl rfl))
theorem mcallP {v : Value} {f : FuncId} {fo : Operand} {xs : Array Operand} {args : List Value} {first cap : Array Value} {a0 : Array TypeId} (m : Mem w0 w is) (hf : ev l fo = .func (.func f) first cap) (hxs : first.toList ++ xs.toList.map (ev l) ++ cap.toList = args) (hc : Pure P f args v)
    (h : ∀ u, Mem w0 u is → wpList P ops Q rest (Fr (l.set d v) ds) u) : wpList P ops Q (Oper.mk (some d) (.call { callee := .value fo, args := xs, argTypes := a0 }) ty pos after none :: rest) (Fr l ds) w :=
  n_callP hf hxs hc fun u e => h u (m.ext' e)
theorem mcall {f : FuncId} {fo : Operand} {xs : Array Operand} {args : List Value} {first cap : Array Value} {a0 : Array TypeId} {R : Value → World → Prop} (m : Mem w0 w is) (hf : ev l fo = .func (.func f) first cap) (hxs : first.toList ++ xs.toList.map (ev l) ++ cap.toList = args) (hc : Does P f args w R)
    (h : ∀ v u, Mem w0 u is → R v u → wpList P ops Q rest (Fr (l.set d v) ds) u) : wpList P ops Q (Oper.mk (some d) (.call { callee := .value fo, args := xs, argTypes := a0 }) ty pos after none :: rest) (Fr l ds) w :=
  n_call hf hxs hc fun v u e hR => h v u (m.ext' e) hR
theorem mappend {E : TypeId} {c n cap b nm mcap : Nat} {A B : Option Addr} {z : Value} {xs news : List Value} {a0 : Array TypeId} (m : Mem w0 w is) (k : Nat) (hk : is[k]? = some (oI E c A n cap xs)) (ha : a0 = #[T, T]) (hu : P.underlying T = some (.slice E)) (hi : (P.info? E).map (fun i => (i.size, i.bytes, i.zero)) = some (c, b, some z)) (hz : z.cells.size = c) (hc : 0 < c)
    (hs : ev l x = .slice A n cap) (hx : ev l y = .slice B nm mcap) (hl : news.length = nm * c) (hrow : ∀ j u, news[j]? = some u → ∃ a, B = some a ∧ w.cell? (a.add j) = some u) (h1 : ∀ u ∈ news, u.oneCell' = true) (h63 : n + nm ≤ 9223372036854775807) (hbytes : (n + nm) * b ≤ 140737488355328)
    (h : ∀ A' cap' u, Mem w0 u (is.set k (oI E c A' (n + nm) cap' (xs ++ news))) → wpList P ops Q rest (Fr (l.set d (.slice A' (n + nm) cap')) ds) u) :
    wpList P ops Q (Oper.mk (some d) (.call { callee := .builtin .append, args := #[x, y], argTypes := a0 }) ty pos after none :: rest) (Fr l ds) w :=
  n_appendO ha hu hi hz hc m.ext hs (m.o k hk) hx hl hrow h1 h63 hbytes fun A' cap' u hO hW hF => h A' cap' u (m.put k hk hW.os hW.tape hW.output hW.size (fun b hb hne => hW.block b hb hne) (by
    refine ⟨hO.own.1, ?_⟩
    rcases hO.cases with ⟨rfl, e1, rfl, _⟩ | ⟨g, cur, rfl, _, h2, h3⟩
    · exact .inl ⟨by rw [e1], e1⟩
    · exact .inr ⟨g, cap', cur, rfl, Nat.zero_le _, h2, h3⟩) (by
    rcases hF with rfl | hF
    · exact .inl rfl
    · exact .inr fun b hb => by
        have e : blkOf A' = some b := hb
        rw [hF] at e
        cases e
        exact Nat.le_refl _))
theorem mboxA {cs : List Value} (m : Mem w0 w is) (hv : ev l x = .agg cs.toArray) (h : ∀ g u, Mem w0 u (bI g cs T :: is) → wpList P ops Q rest (Fr (l.set d (.pointer (some ⟨g, 0, none⟩))) ds) u) :
    wpList P ops Q (Oper.mk (some d) (.box T x) ty pos after none :: rest) (Fr l ds) w := mbox m (by rw [hv]; rfl) h
theorem mstoreA {g off : Nat} {cs us : List Value} {t : TypeId} (m : Mem w0 w is) (k : Nat) (hk : is[k]? = some (bI g cs t)) (hx : ev l x = .pointer (some ⟨g, off, none⟩)) (hv : ev l y = .agg us.toArray) (hc : Cells P T us.length) (hfit : off + us.length ≤ cs.length) (h1 : (us.all (·.oneCell')) = true)
    (h : ∀ u, Mem w0 u (is.set k (bI g (over cs off us) t)) → wpList P ops Q rest (Fr l ds) u) : wpList P ops Q (Oper.mk none (.store T x y) ty pos after none :: rest) (Fr l ds) w := mstore m k hk hx (by rw [hv]; rfl) hc hfit h1 h
theorem mstore1 {g off : Nat} {cs : List Value} {v : Value} {t : TypeId} (m : Mem w0 w is) (k : Nat) (hk : is[k]? = some (bI g cs t)) (hx : ev l x = .pointer (some ⟨g, off, none⟩)) (hv : ev l y = v) (hc : Cells P T 1) (hfit : off + 1 ≤ cs.length) (h1 : v.oneCell' = true ∧ v.cells = #[v])
    (h : ∀ u, Mem w0 u (is.set k (bI g (over cs off [v]) t)) → wpList P ops Q rest (Fr l ds) u) : wpList P ops Q (Oper.mk none (.store T x y) ty pos after none :: rest) (Fr l ds) w := mstore (us := [v]) m k hk hx (by rw [hv, h1.2]) hc hfit (by simp [h1.1]) h
theorem Blk.full {g : Nat} {cs : List Value} {t : TypeId} (h : Blk w g cs t) (hA : IsAgg P T true) (hc : Cells P T cs.length) : Lies P w T ⟨g, 0, none⟩ (.agg cs.toArray) := by
  have := h.row 0
  rw [List.drop_zero] at this
  exact this.lies hA hc
theorem Mem.s01 {w0 w : World} {i j : It} {is : List It} (m : Mem w0 w (i :: j :: is)) : Mem w0 w (j :: i :: is) := by
  have h1 := List.pairwise_cons.1 m.nd
  have h2 := List.pairwise_cons.1 h1.2
  refine ⟨m.ext, fun x hx => m.all x ?_, fun x hx => m.ge x ?_, List.pairwise_cons.2 ⟨fun x hx => ?_, List.pairwise_cons.2 ⟨fun x hx => h1.1 x (List.mem_cons_of_mem _ hx), h2.2⟩⟩⟩
  · simp only [List.mem_cons] at hx ⊢; rcases hx with h | h | h <;> simp [h]
  · simp only [List.mem_cons] at hx ⊢; rcases hx with h | h | h <;> simp [h]
  · rcases List.mem_cons.1 hx with rfl | hx
    · exact (h1.1 _ (List.mem_cons_self ..)).symm
    · exact h2.1 x hx
theorem Mem.s12 {w0 w : World} {h i j : It} {is : List It} (m : Mem w0 w (h :: i :: j :: is)) : Mem w0 w (h :: j :: i :: is) := by
  have h1 := List.pairwise_cons.1 m.nd
  have m' := m.tl.s01
  refine ⟨m.ext, fun x hx => m.all x ?_, fun x hx => m.ge x ?_, List.pairwise_cons.2 ⟨fun x hx => h1.1 x ?_, m'.nd⟩⟩
  · simp only [List.mem_cons] at hx ⊢; rcases hx with h | h | h | h <;> simp [h]
  · simp only [List.mem_cons] at hx ⊢; rcases hx with h | h | h | h <;> simp [h]
  · simp only [List.mem_cons] at hx ⊢; rcases hx with h | h | h <;> simp [h]
/-! ### Regions -/
theorem mq_tail {id : Nat} {a : Act} {l : List Oper} (m : Mem w0 w is) (n : Nat) (hm : P.follows .mixedOrders = true) (hB : Region.lexTailB .any l.toArray n = true)
    (h : wpQuiet P l.toArray (fun u => Mem w0 u is) (fun a' => ∀ u, Mem w0 u is → wpList P l.toArray Q (l.drop n) a' u) (l.take n) a) : (Code.region id l.toArray true).wp P Q a w :=
  wp_region_quiet_tail (C := fun u => Mem w0 u is) n hm hB (m.ext' (Ext.refl w).drawn) h
theorem mq {id : Nat} {a : Act} {l : List Oper} (m : Mem w0 w is) (hm : P.follows .mixedOrders = true) (hB : Region.lexB .any l.toArray = true)
    (h : wpQuiet P l.toArray (fun u => Mem w0 u is) (fun a' => ∀ u, Mem w0 u is → Q .normal a' u) l a) : (Code.region id l.toArray true).wp P Q a w :=
  wp_region_quiet (C := fun u => Mem w0 u is) hm hB (m.ext' (Ext.refl w).drawn) (by simpa using h)
theorem mh {id : Nat} {a : Act} {l : List Oper} (m : Mem w0 w is) (bs : List Bool) (o : List (Nat × Bool)) (hm : P.follows .mixedOrders = true) (hB : (Region.noSelect l.toArray && decide (o.length = l.length) && ordB .any l.toArray o (Array.replicate l.toArray.size false)) = true)
    (hQ : ∀ c d v a w, Q (.panic c) (Act.put a d v) w → Q (.panic c) a w) {ol : List (Oper × Bool)} (hol : (o.map fun x => ((l.toArray[x.1]?).getD default, x.2)) = ol)
    (h : ∀ u, Mem w0 u is → wpMixH P l.toArray (fun u => Mem w0 u (selB bs is)) Q ol a u) : (Code.region id l.toArray true).wp P Q a w :=
  wp_region_held' o hm hB hQ hol fun u e => ⟨fun u => Mem w0 u (selB bs is), (m.ext' e).sel bs, h u (m.ext' e)⟩
theorem mtree {id : Nat} {a : Act} {l : List Oper} (m : Mem w0 w is) (bs : List Bool) (t : OrdT) (hm : P.follows .mixedOrders = true) (hB : (Region.noSelect l.toArray && t.ok .any l.toArray l.toArray.size (Array.replicate l.toArray.size false)) = true)
    (hQ : ∀ c d v a w, Q (.panic c) (Act.put a d v) w → Q (.panic c) a w)
    (h : ∀ u, Mem w0 u is → wpTree P l.toArray (fun u => Mem w0 u (selB bs is)) Q t a u) : (Code.region id l.toArray true).wp P Q a w :=
  wp_region_tree t hm hB hQ fun u e => ⟨fun u => Mem w0 u (selB bs is), (m.ext' e).sel bs, h u (m.ext' e)⟩
theorem mf1 {tl : List Oper} {i d : Nat} {T : TypeId} {cs : List Value} (m : Mem w0 w is) (h : ∀ g u, Mem w0 u (bI g cs T :: is) → wpList P ops Q tl (Fr (l.set d (.pointer (some ⟨g, 0, none⟩))) ds) u) :
    ∀ E w', Ext w w' → Laid w.heap.size E [⟨i, d, T, cs⟩] w' → (∀ x ∈ [(⟨i, d, T, cs⟩ : Al)], ∃ v, E x.i = some v) → wpList P ops Q tl (applyP E [⟨i, d, T, cs⟩] (Fr l ds)) w' :=
  fresh1 fun u g e hg hB => h g u (m.newB e hg hB)
theorem Mem.newB2 {w w' : World} {is : List It} {g g2 : Nat} {cs cs2 : List Value} {t t2 : TypeId} (m : Mem w0 w is) (e : Ext w w') (hg : w.heap.size ≤ g) (hg2 : w.heap.size ≤ g2) (hB : Blk w' g cs t) (hB2 : Blk w' g2 cs2 t2) (hne : g2 ≠ g) : Mem w0 w' (bI g2 cs2 t2 :: bI g cs t :: is) := by
  have m1 := m.newB e hg hB
  refine ⟨m1.ext, fun j hj => ?_, fun j hj => ?_, List.pairwise_cons.2 ⟨fun j hj b h1 h2 => ?_, m1.nd⟩⟩
  · rcases List.mem_cons.1 hj with rfl | hj
    · exact hB2
    · exact m1.all j hj
  · rcases List.mem_cons.1 hj with rfl | hj
    · exact fun b hb => by cases hb; exact Nat.le_trans m.ext.size hg2
    · exact m1.ge j hj
  · cases h1
    rcases List.mem_cons.1 hj with rfl | hj
    · cases h2; exact hne rfl
    · have := j.lt w _ (m.all j hj) h2
      omega
theorem mf2 {tl : List Oper} {i d j e : Nat} {T U : TypeId} {cs us : List Value} (m : Mem w0 w is) (hij : i ≠ j) (h : ∀ g k u, Mem w0 u (bI k us U :: bI g cs T :: is) → wpList P ops Q tl (Fr ((l.set d (.pointer (some ⟨g, 0, none⟩))).set e (.pointer (some ⟨k, 0, none⟩))) ds) u) :
    ∀ E w', Ext w w' → Laid w.heap.size E [⟨i, d, T, cs⟩, ⟨j, e, U, us⟩] w' → (∀ x ∈ [(⟨i, d, T, cs⟩ : Al), ⟨j, e, U, us⟩], ∃ v, E x.i = some v) → wpList P ops Q tl (applyP E [⟨i, d, T, cs⟩, ⟨j, e, U, us⟩] (Fr l ds)) w' :=
  fresh2 hij fun u g k e hg hk hB hK hne => h g k u (m.newB2 e hg hk hB hK hne)
theorem mcut3 {c : Code} {a : Act} {l : Nat → Nat → Nat → List Value} {c1 c2 c3 : List Value} {T1 T2 T3 : TypeId} (m : Mem w0 w is) (h1 : c.wp P (fun e a' u => e = .normal ∧ ∃ g k p, a' = Fr (l g k p) ds ∧ Mem w0 u (bI p c3 T3 :: bI k c2 T2 :: bI g c1 T1 :: is)) a w)
    (h2 : ∀ g k p u, Mem w0 u (bI p c3 T3 :: bI k c2 T2 :: bI g c1 T1 :: is) → Q .normal (Fr (l g k p) ds) u) : c.wp P Q a w := by
  refine Code.wp_mono ?_ h1
  rintro e a' u ⟨rfl, g, k, p, rfl, m'⟩
  exact h2 g k p u m'
end
section
variable {P : Program} {w0 : World} {is : List It} {l : List Value} {x y : Operand} {T ty : TypeId}
variable {ops : Array Oper} {Q : Act → Prop} {rest : List Oper} {d : Nat} {pos : String} {after : Array Edge} {v : Value} {ds : List Deferred}
theorem ql {a : Addr} (hx : ev l x = .pointer (some a)) (hv : ∀ u, Mem w0 u is → Lies P u T a v) (h : wpQuiet P ops (fun u => Mem w0 u is) Q rest (Fr (l.set d v) ds)) : wpQuiet P ops (fun u => Mem w0 u is) Q (Oper.mk (some d) (.load T x) ty pos after none :: rest) (Fr l ds) :=
  q_valW (fun u m => r_load hx (hv u m)) h
theorem qc {f : FuncId} {fo : Operand} {xs : Array Operand} {args : List Value} {first cap : Array Value} {a0 : Array TypeId} (hf : ev l fo = .func (.func f) first cap) (hxs : first.toList ++ xs.toList.map (ev l) ++ cap.toList = args) (hc : ∀ u, Mem w0 u is → Does P f args u fun x _ => x = v)
    (h : wpQuiet P ops (fun u => Mem w0 u is) Q rest (Fr (l.set d v) ds)) : wpQuiet P ops (fun u => Mem w0 u is) Q (Oper.mk (some d) (.call { callee := .value fo, args := xs, argTypes := a0 }) ty pos after none :: rest) (Fr l ds) := by
  refine wpQuiet_step fun K hK => ?_
  rw [if_pos (by simp [Region.wanted])]
  refine ⟨v, fun w' hw => ?_, ?_⟩
  · unfold Oper.quietAt
    rw [fr_eval, run_call (hc w' hw).1 hf hxs _ rfl]
    refine ⟨rfl, (hc w' hw).2.mono ?_⟩
    rintro e w'' ⟨u, rfl, hE, rfl⟩
    exact ⟨rfl, hw.ext' hE⟩
  · show K ((Fr l ds).put (some d) v)
    rw [fr_put]
    exact hK _ h
theorem qcP {f : FuncId} {fo : Operand} {xs : Array Operand} {args : List Value} {first cap : Array Value} {a0 : Array TypeId} (hf : ev l fo = .func (.func f) first cap) (hxs : first.toList ++ xs.toList.map (ev l) ++ cap.toList = args) (hc : Pure P f args v)
    (h : wpQuiet P ops (fun u => Mem w0 u is) Q rest (Fr (l.set d v) ds)) : wpQuiet P ops (fun u => Mem w0 u is) Q (Oper.mk (some d) (.call { callee := .value fo, args := xs, argTypes := a0 }) ty pos after none :: rest) (Fr l ds) := qc hf hxs (fun u _ => hc u) h
end
end Go.Lith
namespace Go.Lith
open Go.RowKit
@[irreducible] def may (c : Bool) (v : Value) : Value := if c then v else undef
theorem may_t {v : Value} : may true v = v := by simp [may]
theorem may_f {v : Value} : may false v = undef := by simp [may]
theorem mayE {c : Bool} {u v : Value} (hb : c = true) (h : u = may c v) : u = v := by rw [h, hb, may_t]
section
variable {P : Program} {ds : List Deferred} {l : List Value} {x y : Operand} {T ty : TypeId} {b c : Bool} {v : Value}
theorem r_pickAnd {z : Operand} (hz : ev l z = .bool b) (hx : ev l x = may b (.bool c)) (hy : ev l y = .bool false) : Run P l (.pick z x y) ty (.bool (b && c)) := by
  have := r_pick (P := P) (ty := ty) (x := x) (y := y) hz
  cases b with
  | false => simpa [hy] using this
  | true => simpa [hx, may_t] using this
theorem r_pickOr {z : Operand} (hz : ev l z = .bool b) (hx : ev l x = .bool true) (hy : ev l y = may (!b) (.bool c)) : Run P l (.pick z x y) ty (.bool (b || c)) := by
  have := r_pick (P := P) (ty := ty) (x := x) (y := y) hz
  cases b with
  | false => simpa [hy, may_t] using this
  | true => simpa [hx] using this
end
section
variable {P : Program} {ops : Array Oper} {Q : Exit → Act → World → Prop} {rest : List Oper} {d j : Nat} {op : Op} {ty : TypeId} {pos : String} {after : Array Edge} {v : Value} {b : Bool} {ds : List Deferred} {l : List Value} {w w0 : World} {is : List It}
theorem n_mayTW (hw : yielded ops l.toArray j = some b) (hr : b = true → RunW P l op ty v w) (h : wpList P ops Q rest (Fr (l.set d (may b v)) ds) w) : wpList P ops Q (Oper.mk (some d) op ty pos after (some (j, true)) :: rest) (Fr l ds) w := by
  cases b with
  | false => rw [may_f] at h; exact n_skipT hw h
  | true => rw [may_t] at h; exact n_want hw (n_valW (hr rfl) h)
theorem n_mayFW (hw : yielded ops l.toArray j = some b) (hr : (!b) = true → RunW P l op ty v w) (h : wpList P ops Q rest (Fr (l.set d (may (!b) v)) ds) w) : wpList P ops Q (Oper.mk (some d) op ty pos after (some (j, false)) :: rest) (Fr l ds) w := by
  cases b with
  | true => rw [Bool.not_true, may_f] at h; exact n_skipF hw h
  | false => rw [Bool.not_false, may_t] at h; exact n_want hw (n_valW (hr rfl) h)
theorem n_mayT (hw : yielded ops l.toArray j = some b) (hr : b = true → Run P l op ty v) (h : wpList P ops Q rest (Fr (l.set d (may b v)) ds) w) : wpList P ops Q (Oper.mk (some d) op ty pos after (some (j, true)) :: rest) (Fr l ds) w := n_mayTW hw (fun e => hr e w) h
theorem n_mayF (hw : yielded ops l.toArray j = some b) (hr : (!b) = true → Run P l op ty v) (h : wpList P ops Q rest (Fr (l.set d (may (!b) v)) ds) w) : wpList P ops Q (Oper.mk (some d) op ty pos after (some (j, false)) :: rest) (Fr l ds) w := n_mayFW hw (fun e => hr e w) h
end
section
variable {P : Program} {ops : Array Oper} {Q : Act → Prop} {C : World → Prop} {rest : List Oper} {d j : Nat} {op : Op} {ty : TypeId} {pos : String} {after : Array Edge} {v : Value} {b : Bool} {ds : List Deferred} {l : List Value} {w0 : World} {is : List It}
end
section
variable {P : Program} {ops : Array Oper} {S : World → Prop} {Q : Exit → Act → World → Prop} {rest : List (Oper × Bool)} {d j : Nat} {op : Op} {ty : TypeId} {pos : String} {after : Array Edge} {v : Value} {b : Bool} {ds : List Deferred} {l : List Value} {w : World}
end
end Go.Lith
namespace Go.Lith
open Go.RowKit
end Go.Lith
namespace Go.Proofs.YtmcgcnpgkkfkoaaGreatDoor
open Go.RowKit Go.Lith
set_option maxRecDepth 100000
theorem follows_mixed : Tryz.prog.follows .mixedOrders = true := by kernel_rfl
theorem en_3 : Enters Tryz.prog 3 := ⟨_, Tryz.func3, by kernel_rfl, by kernel_rfl⟩
theorem en_4 : Enters Tryz.prog 4 := ⟨_, Tryz.func4, by kernel_rfl, by kernel_rfl⟩
theorem en_10 : Enters Tryz.prog 10 := ⟨_, Tryz.func10, by kernel_rfl, by kernel_rfl⟩
theorem en_11 : Enters Tryz.prog 11 := ⟨_, Tryz.func11, by kernel_rfl, by kernel_rfl⟩
theorem en_12 : Enters Tryz.prog 12 := ⟨_, Tryz.func12, by kernel_rfl, by kernel_rfl⟩
theorem en_13 : Enters Tryz.prog 13 := ⟨_, Tryz.func13, by kernel_rfl, by kernel_rfl⟩
theorem en_14 : Enters Tryz.prog 14 := ⟨_, Tryz.func14, by kernel_rfl, by kernel_rfl⟩
theorem en_15 : Enters Tryz.prog 15 := ⟨_, Tryz.func15, by kernel_rfl, by kernel_rfl⟩
theorem en_16 : Enters Tryz.prog 16 := ⟨_, Tryz.func16, by kernel_rfl, by kernel_rfl⟩
theorem en_17 : Enters Tryz.prog 17 := ⟨_, Tryz.func17, by kernel_rfl, by kernel_rfl⟩
theorem en_18 : Enters Tryz.prog 18 := ⟨_, Tryz.func18, by kernel_rfl, by kernel_rfl⟩
theorem en_19 : Enters Tryz.prog 19 := ⟨_, Tryz.func19, by kernel_rfl, by kernel_rfl⟩
theorem en_22 : Enters Tryz.prog 22 := ⟨_, Tryz.func22, by kernel_rfl, by kernel_rfl⟩
theorem en_24 : Enters Tryz.prog 24 := ⟨_, Tryz.func24, by kernel_rfl, by kernel_rfl⟩
theorem en_25 : Enters Tryz.prog 25 := ⟨_, Tryz.func25, by kernel_rfl, by kernel_rfl⟩
theorem en_26 : Enters Tryz.prog 26 := ⟨_, Tryz.func26, by kernel_rfl, by kernel_rfl⟩
theorem en_28 : Enters Tryz.prog 28 := ⟨_, Tryz.func28, by kernel_rfl, by kernel_rfl⟩
theorem en_29 : Enters Tryz.prog 29 := ⟨_, Tryz.func29, by kernel_rfl, by kernel_rfl⟩
theorem en_30 : Enters Tryz.prog 30 := ⟨_, Tryz.func30, by kernel_rfl, by kernel_rfl⟩
theorem en_35 : Enters Tryz.prog 35 := ⟨_, Tryz.func35, by kernel_rfl, by kernel_rfl⟩
theorem en_36 : Enters Tryz.prog 36 := ⟨_, Tryz.func36, by kernel_rfl, by kernel_rfl⟩
theorem en_39 : Enters Tryz.prog 39 := ⟨_, Tryz.func39, by kernel_rfl, by kernel_rfl⟩
theorem en_40 : Enters Tryz.prog 40 := ⟨_, Tryz.func40, by kernel_rfl, by kernel_rfl⟩
theorem en_41 : Enters Tryz.prog 41 := ⟨_, Tryz.func41, by kernel_rfl, by kernel_rfl⟩
theorem en_42 : Enters Tryz.prog 42 := ⟨_, Tryz.func42, by kernel_rfl, by kernel_rfl⟩
theorem en_43 : Enters Tryz.prog 43 := ⟨_, Tryz.func43, by kernel_rfl, by kernel_rfl⟩
theorem en_44 : Enters Tryz.prog 44 := ⟨_, Tryz.func44, by kernel_rfl, by kernel_rfl⟩
theorem en_45 : Enters Tryz.prog 45 := ⟨_, Tryz.func45, by kernel_rfl, by kernel_rfl⟩
theorem en_46 : Enters Tryz.prog 46 := ⟨_, Tryz.func46, by kernel_rfl, by kernel_rfl⟩
theorem en_47 : Enters Tryz.prog 47 := ⟨_, Tryz.func47, by kernel_rfl, by kernel_rfl⟩
theorem en_48 : Enters Tryz.prog 48 := ⟨_, Tryz.func48, by kernel_rfl, by kernel_rfl⟩
theorem en_49 : Enters Tryz.prog 49 := ⟨_, Tryz.func49, by kernel_rfl, by kernel_rfl⟩
theorem en_50 : Enters Tryz.prog 50 := ⟨_, Tryz.func50, by kernel_rfl, by kernel_rfl⟩
theorem en_51 : Enters Tryz.prog 51 := ⟨_, Tryz.func51, by kernel_rfl, by kernel_rfl⟩
theorem en_52 : Enters Tryz.prog 52 := ⟨_, Tryz.func52, by kernel_rfl, by kernel_rfl⟩
theorem en_53 : Enters Tryz.prog 53 := ⟨_, Tryz.func53, by kernel_rfl, by kernel_rfl⟩
theorem en_54 : Enters Tryz.prog 54 := ⟨_, Tryz.func54, by kernel_rfl, by kernel_rfl⟩
theorem en_55 : Enters Tryz.prog 55 := ⟨_, Tryz.func55, by kernel_rfl, by kernel_rfl⟩
theorem en_56 : Enters Tryz.prog 56 := ⟨_, Tryz.func56, by kernel_rfl, by kernel_rfl⟩
theorem en_57 : Enters Tryz.prog 57 := ⟨_, Tryz.func57, by kernel_rfl, by kernel_rfl⟩
theorem en_58 : Enters Tryz.prog 58 := ⟨_, Tryz.func58, by kernel_rfl, by kernel_rfl⟩
theorem en_59 : Enters Tryz.prog 59 := ⟨_, Tryz.func59, by kernel_rfl, by kernel_rfl⟩
theorem en_60 : Enters Tryz.prog 60 := ⟨_, Tryz.func60, by kernel_rfl, by kernel_rfl⟩
theorem en_61 : Enters Tryz.prog 61 := ⟨_, Tryz.func61, by kernel_rfl, by kernel_rfl⟩
theorem en_62 : Enters Tryz.prog 62 := ⟨_, Tryz.func62, by kernel_rfl, by kernel_rfl⟩
theorem en_64 : Enters Tryz.prog 64 := ⟨_, Tryz.func64, by kernel_rfl, by kernel_rfl⟩
theorem en_65 : Enters Tryz.prog 65 := ⟨_, Tryz.func65, by kernel_rfl, by kernel_rfl⟩
theorem en_66 : Enters Tryz.prog 66 := ⟨_, Tryz.func66, by kernel_rfl, by kernel_rfl⟩
theorem en_67 : Enters Tryz.prog 67 := ⟨_, Tryz.func67, by kernel_rfl, by kernel_rfl⟩
theorem en_68 : Enters Tryz.prog 68 := ⟨_, Tryz.func68, by kernel_rfl, by kernel_rfl⟩
theorem en_69 : Enters Tryz.prog 69 := ⟨_, Tryz.func69, by kernel_rfl, by kernel_rfl⟩
theorem en_71 : Enters Tryz.prog 71 := ⟨_, Tryz.func71, by kernel_rfl, by kernel_rfl⟩
theorem en_77 : Enters Tryz.prog 77 := ⟨_, Tryz.func77, by kernel_rfl, by kernel_rfl⟩
theorem en_78 : Enters Tryz.prog 78 := ⟨_, Tryz.func78, by kernel_rfl, by kernel_rfl⟩
theorem en_79 : Enters Tryz.prog 79 := ⟨_, Tryz.func79, by kernel_rfl, by kernel_rfl⟩
theorem en_81 : Enters Tryz.prog 81 := ⟨_, Tryz.func81, by kernel_rfl, by kernel_rfl⟩
theorem en_82 : Enters Tryz.prog 82 := ⟨_, Tryz.func82, by kernel_rfl, by kernel_rfl⟩
theorem en_83 : Enters Tryz.prog 83 := ⟨_, Tryz.func83, by kernel_rfl, by kernel_rfl⟩
theorem en_86 : Enters Tryz.prog 86 := ⟨_, Tryz.func86, by kernel_rfl, by kernel_rfl⟩
theorem en_87 : Enters Tryz.prog 87 := ⟨_, Tryz.func87, by kernel_rfl, by kernel_rfl⟩
theorem en_88 : Enters Tryz.prog 88 := ⟨_, Tryz.func88, by kernel_rfl, by kernel_rfl⟩
theorem en_89 : Enters Tryz.prog 89 := ⟨_, Tryz.func89, by kernel_rfl, by kernel_rfl⟩
theorem en_90 : Enters Tryz.prog 90 := ⟨_, Tryz.func90, by kernel_rfl, by kernel_rfl⟩
theorem en_91 : Enters Tryz.prog 91 := ⟨_, Tryz.func91, by kernel_rfl, by kernel_rfl⟩
theorem en_92 : Enters Tryz.prog 92 := ⟨_, Tryz.func92, by kernel_rfl, by kernel_rfl⟩
theorem en_93 : Enters Tryz.prog 93 := ⟨_, Tryz.func93, by kernel_rfl, by kernel_rfl⟩
theorem en_94 : Enters Tryz.prog 94 := ⟨_, Tryz.func94, by kernel_rfl, by kernel_rfl⟩
theorem en_95 : Enters Tryz.prog 95 := ⟨_, Tryz.func95, by kernel_rfl, by kernel_rfl⟩
theorem en_96 : Enters Tryz.prog 96 := ⟨_, Tryz.func96, by kernel_rfl, by kernel_rfl⟩
theorem en_97 : Enters Tryz.prog 97 := ⟨_, Tryz.func97, by kernel_rfl, by kernel_rfl⟩
theorem en_98 : Enters Tryz.prog 98 := ⟨_, Tryz.func98, by kernel_rfl, by kernel_rfl⟩
theorem en_99 : Enters Tryz.prog 99 := ⟨_, Tryz.func99, by kernel_rfl, by kernel_rfl⟩
theorem en_100 : Enters Tryz.prog 100 := ⟨_, Tryz.func100, by kernel_rfl, by kernel_rfl⟩
theorem en_101 : Enters Tryz.prog 101 := ⟨_, Tryz.func101, by kernel_rfl, by kernel_rfl⟩
theorem en_102 : Enters Tryz.prog 102 := ⟨_, Tryz.func102, by kernel_rfl, by kernel_rfl⟩
theorem en_103 : Enters Tryz.prog 103 := ⟨_, Tryz.func103, by kernel_rfl, by kernel_rfl⟩
theorem en_104 : Enters Tryz.prog 104 := ⟨_, Tryz.func104, by kernel_rfl, by kernel_rfl⟩
theorem en_105 : Enters Tryz.prog 105 := ⟨_, Tryz.func105, by kernel_rfl, by kernel_rfl⟩
theorem en_106 : Enters Tryz.prog 106 := ⟨_, Tryz.func106, by kernel_rfl, by kernel_rfl⟩
theorem en_107 : Enters Tryz.prog 107 := ⟨_, Tryz.func107, by kernel_rfl, by kernel_rfl⟩
theorem en_108 : Enters Tryz.prog 108 := ⟨_, Tryz.func108, by kernel_rfl, by kernel_rfl⟩
theorem en_109 : Enters Tryz.prog 109 := ⟨_, Tryz.func109, by kernel_rfl, by kernel_rfl⟩
theorem en_110 : Enters Tryz.prog 110 := ⟨_, Tryz.func110, by kernel_rfl, by kernel_rfl⟩
theorem en_111 : Enters Tryz.prog 111 := ⟨_, Tryz.func111, by kernel_rfl, by kernel_rfl⟩
theorem en_112 : Enters Tryz.prog 112 := ⟨_, Tryz.func112, by kernel_rfl, by kernel_rfl⟩
theorem en_113 : Enters Tryz.prog 113 := ⟨_, Tryz.func113, by kernel_rfl, by kernel_rfl⟩
theorem en_114 : Enters Tryz.prog 114 := ⟨_, Tryz.func114, by kernel_rfl, by kernel_rfl⟩
theorem en_115 : Enters Tryz.prog 115 := ⟨_, Tryz.func115, by kernel_rfl, by kernel_rfl⟩
theorem en_116 : Enters Tryz.prog 116 := ⟨_, Tryz.func116, by kernel_rfl, by kernel_rfl⟩
theorem en_117 : Enters Tryz.prog 117 := ⟨_, Tryz.func117, by kernel_rfl, by kernel_rfl⟩
theorem en_118 : Enters Tryz.prog 118 := ⟨_, Tryz.func118, by kernel_rfl, by kernel_rfl⟩
theorem en_119 : Enters Tryz.prog 119 := ⟨_, Tryz.func119, by kernel_rfl, by kernel_rfl⟩
theorem en_125 : Enters Tryz.prog 125 := ⟨_, Tryz.func125, by kernel_rfl, by kernel_rfl⟩
theorem en_126 : Enters Tryz.prog 126 := ⟨_, Tryz.func126, by kernel_rfl, by kernel_rfl⟩
theorem en_127 : Enters Tryz.prog 127 := ⟨_, Tryz.func127, by kernel_rfl, by kernel_rfl⟩
theorem en_128 : Enters Tryz.prog 128 := ⟨_, Tryz.func128, by kernel_rfl, by kernel_rfl⟩
theorem en_129 : Enters Tryz.prog 129 := ⟨_, Tryz.func129, by kernel_rfl, by kernel_rfl⟩
theorem en_130 : Enters Tryz.prog 130 := ⟨_, Tryz.func130, by kernel_rfl, by kernel_rfl⟩
theorem en_131 : Enters Tryz.prog 131 := ⟨_, Tryz.func131, by kernel_rfl, by kernel_rfl⟩
theorem en_132 : Enters Tryz.prog 132 := ⟨_, Tryz.func132, by kernel_rfl, by kernel_rfl⟩
theorem en_133 : Enters Tryz.prog 133 := ⟨_, Tryz.func133, by kernel_rfl, by kernel_rfl⟩
theorem en_134 : Enters Tryz.prog 134 := ⟨_, Tryz.func134, by kernel_rfl, by kernel_rfl⟩
theorem en_139 : Enters Tryz.prog 139 := ⟨_, Tryz.func139, by kernel_rfl, by kernel_rfl⟩
theorem en_141 : Enters Tryz.prog 141 := ⟨_, Tryz.func141, by kernel_rfl, by kernel_rfl⟩
theorem en_145 : Enters Tryz.prog 145 := ⟨_, Tryz.func145, by kernel_rfl, by kernel_rfl⟩
theorem en_146 : Enters Tryz.prog 146 := ⟨_, Tryz.func146, by kernel_rfl, by kernel_rfl⟩
theorem en_147 : Enters Tryz.prog 147 := ⟨_, Tryz.func147, by kernel_rfl, by kernel_rfl⟩
theorem en_148 : Enters Tryz.prog 148 := ⟨_, Tryz.func148, by kernel_rfl, by kernel_rfl⟩
theorem en_149 : Enters Tryz.prog 149 := ⟨_, Tryz.func149, by kernel_rfl, by kernel_rfl⟩
theorem en_150 : Enters Tryz.prog 150 := ⟨_, Tryz.func150, by kernel_rfl, by kernel_rfl⟩
theorem en_151 : Enters Tryz.prog 151 := ⟨_, Tryz.func151, by kernel_rfl, by kernel_rfl⟩
theorem en_152 : Enters Tryz.prog 152 := ⟨_, Tryz.func152, by kernel_rfl, by kernel_rfl⟩
theorem en_153 : Enters Tryz.prog 153 := ⟨_, Tryz.func153, by kernel_rfl, by kernel_rfl⟩
theorem en_155 : Enters Tryz.prog 155 := ⟨_, Tryz.func155, by kernel_rfl, by kernel_rfl⟩
theorem en_162 : Enters Tryz.prog 162 := ⟨_, Tryz.func162, by kernel_rfl, by kernel_rfl⟩
theorem en_163 : Enters Tryz.prog 163 := ⟨_, Tryz.func163, by kernel_rfl, by kernel_rfl⟩
theorem en_164 : Enters Tryz.prog 164 := ⟨_, Tryz.func164, by kernel_rfl, by kernel_rfl⟩
theorem en_165 : Enters Tryz.prog 165 := ⟨_, Tryz.func165, by kernel_rfl, by kernel_rfl⟩
theorem en_166 : Enters Tryz.prog 166 := ⟨_, Tryz.func166, by kernel_rfl, by kernel_rfl⟩
theorem en_167 : Enters Tryz.prog 167 := ⟨_, Tryz.func167, by kernel_rfl, by kernel_rfl⟩
theorem en_168 : Enters Tryz.prog 168 := ⟨_, Tryz.func168, by kernel_rfl, by kernel_rfl⟩
theorem en_170 : Enters Tryz.prog 170 := ⟨_, Tryz.func170, by kernel_rfl, by kernel_rfl⟩
theorem en_171 : Enters Tryz.prog 171 := ⟨_, Tryz.func171, by kernel_rfl, by kernel_rfl⟩
theorem en_176 : Enters Tryz.prog 176 := ⟨_, Tryz.func176, by kernel_rfl, by kernel_rfl⟩
theorem en_181 : Enters Tryz.prog 181 := ⟨_, Tryz.func181, by kernel_rfl, by kernel_rfl⟩
theorem cells_3 : Cells Tryz.prog 3 1 := cells_of (by kernel_rfl)
theorem agg_3 : IsAgg Tryz.prog 3 false := isAgg_of _ Tryz.underlying3 rfl
theorem inf_3 : (Tryz.prog.info? 3).map (fun i => (i.size, i.bytes, i.zero)) = some (1, 8, some (.int .i64 0)) := by kernel_rfl
theorem cells_4 : Cells Tryz.prog 4 1 := cells_of (by kernel_rfl)
theorem agg_4 : IsAgg Tryz.prog 4 false := isAgg_of _ Tryz.underlying4 rfl
theorem inf_5 : (Tryz.prog.info? 5).map (fun i => (i.size, i.bytes, i.zero)) = some (1, 1, some (.int .u8 0)) := by kernel_rfl
theorem cells_9 : Cells Tryz.prog 9 1 := cells_of (by kernel_rfl)
theorem agg_9 : IsAgg Tryz.prog 9 false := isAgg_of _ Tryz.underlying9 rfl
theorem cells_22 : Cells Tryz.prog 22 1 := cells_of (by kernel_rfl)
theorem agg_22 : IsAgg Tryz.prog 22 false := isAgg_of _ Tryz.underlying22 rfl
theorem cells_23 : Cells Tryz.prog 23 3 := cells_of (by kernel_rfl)
theorem agg_23 : IsAgg Tryz.prog 23 true := isAgg_of _ Tryz.underlying23 rfl
theorem zero_23 : Zero Tryz.prog 23 (.agg #[.int .i64 0, .int .i64 0, .int .i64 0]) := zero_of (by kernel_rfl)
theorem cells_24 : Cells Tryz.prog 24 1 := cells_of (by kernel_rfl)
theorem agg_24 : IsAgg Tryz.prog 24 false := isAgg_of _ Tryz.underlying24 rfl
theorem cells_26 : Cells Tryz.prog 26 7 := cells_of (by kernel_rfl)
theorem agg_26 : IsAgg Tryz.prog 26 true := isAgg_of _ Tryz.underlying26 rfl
theorem cells_28 : Cells Tryz.prog 28 3 := cells_of (by kernel_rfl)
theorem agg_28 : IsAgg Tryz.prog 28 true := isAgg_of _ Tryz.underlying28 rfl
theorem zero_28 : Zero Tryz.prog 28 (.agg #[.int .i64 0, .int .i64 0, .int .i64 0]) := zero_of (by kernel_rfl)
theorem cells_32 : Cells Tryz.prog 32 2 := cells_of (by kernel_rfl)
theorem agg_32 : IsAgg Tryz.prog 32 true := isAgg_of _ Tryz.underlying32 rfl
theorem zero_32 : Zero Tryz.prog 32 (.agg #[.bool false, .string ⟨#[]⟩]) := zero_of (by kernel_rfl)
theorem cells_34 : Cells Tryz.prog 34 4 := cells_of (by kernel_rfl)
theorem agg_34 : IsAgg Tryz.prog 34 true := isAgg_of _ Tryz.underlying34 rfl
theorem zero_34 : Zero Tryz.prog 34 (.agg #[.bool false, .string ⟨#[]⟩, .bool false, .string ⟨#[]⟩]) := zero_of (by kernel_rfl)
theorem cells_49 : Cells Tryz.prog 49 12 := cells_of (by kernel_rfl)
theorem agg_49 : IsAgg Tryz.prog 49 true := isAgg_of _ Tryz.underlying49 rfl
theorem zero_49 : Zero Tryz.prog 49 (.agg #[.bool false, .string ⟨#[]⟩, .bool false, .string ⟨#[]⟩, .bool false, .string ⟨#[]⟩, .bool false, .string ⟨#[]⟩, .bool false, .string ⟨#[]⟩, .bool false, .string ⟨#[]⟩]) := zero_of (by kernel_rfl)
theorem cells_59 : Cells Tryz.prog 59 9 := cells_of (by kernel_rfl)
theorem agg_59 : IsAgg Tryz.prog 59 true := isAgg_of _ Tryz.underlying59 rfl
theorem zero_59 : Zero Tryz.prog 59 (.agg #[.int .i64 0, .int .i64 0, .int .i64 0, .int .i64 0, .int .i64 0, .int .i64 0, .int .i64 0, .int .i64 0, .int .i64 0]) := zero_of (by kernel_rfl)
theorem inf_59 : (Tryz.prog.info? 59).map (fun i => (i.size, i.bytes, i.zero)) = some (9, 72, some (.agg #[.int .i64 0, .int .i64 0, .int .i64 0, .int .i64 0, .int .i64 0, .int .i64 0, .int .i64 0, .int .i64 0, .int .i64 0])) := by kernel_rfl
theorem cells_75 : Cells Tryz.prog 75 6 := cells_of (by kernel_rfl)
theorem agg_75 : IsAgg Tryz.prog 75 true := isAgg_of _ Tryz.underlying75 rfl
theorem zero_75 : Zero Tryz.prog 75 (.agg #[.bool false, .string ⟨#[]⟩, .bool false, .string ⟨#[]⟩, .bool false, .string ⟨#[]⟩]) := zero_of (by kernel_rfl)
theorem cells_76 : Cells Tryz.prog 76 6 := cells_of (by kernel_rfl)
theorem agg_76 : IsAgg Tryz.prog 76 true := isAgg_of _ Tryz.underlying76 rfl
theorem zero_76 : Zero Tryz.prog 76 (.agg #[.bool false, .string ⟨#[]⟩, .bool false, .string ⟨#[]⟩, .bool false, .string ⟨#[]⟩]) := zero_of (by kernel_rfl)
theorem cells_88 : Cells Tryz.prog 88 1 := cells_of (by kernel_rfl)
theorem agg_88 : IsAgg Tryz.prog 88 false := isAgg_of _ Tryz.underlying88 rfl
theorem inf_88 : (Tryz.prog.info? 88).map (fun i => (i.size, i.bytes, i.zero)) = some (1, 8, some (.int .u64 0)) := by kernel_rfl
theorem cells_91 : Cells Tryz.prog 91 18 := cells_of (by kernel_rfl)
theorem zero_91 : Zero Tryz.prog 91 (.agg #[.int .i64 0, .int .i64 0, .int .i64 0, .int .i64 0, .int .i64 0, .int .i64 0, .int .i64 0, .int .i64 0, .int .i64 0, .int .i64 0, .int .i64 0, .int .i64 0, .int .i64 0, .int .i64 0, .int .i64 0, .int .i64 0, .int .i64 0, .int .i64 0]) := zero_of (by kernel_rfl)
theorem cells_94 : Cells Tryz.prog 94 1 := cells_of (by kernel_rfl)
theorem agg_94 : IsAgg Tryz.prog 94 false := isAgg_of _ Tryz.underlying94 rfl
theorem cells_95 : Cells Tryz.prog 95 3 := cells_of (by kernel_rfl)
theorem agg_95 : IsAgg Tryz.prog 95 true := isAgg_of _ Tryz.underlying95 rfl
theorem zero_95 : Zero Tryz.prog 95 (.agg #[.nilFunc, .nilFunc, .nilFunc]) := zero_of (by kernel_rfl)
theorem cells_112 : Cells Tryz.prog 112 6 := cells_of (by kernel_rfl)
theorem agg_112 : IsAgg Tryz.prog 112 true := isAgg_of _ Tryz.underlying112 rfl
theorem zero_112 : Zero Tryz.prog 112 (.agg #[.bool false, .string ⟨#[]⟩, .bool false, .string ⟨#[]⟩, .bool false, .string ⟨#[]⟩]) := zero_of (by kernel_rfl)
theorem cells_143 : Cells Tryz.prog 143 1 := cells_of (by kernel_rfl)
theorem agg_143 : IsAgg Tryz.prog 143 false := isAgg_of _ Tryz.underlying143 rfl
theorem zero_143 : Zero Tryz.prog 143 (.slice none 0 0) := zero_of (by kernel_rfl)
theorem zero_148 : Zero Tryz.prog 148 (.agg #[.int .i64 0, .int .i64 0, .int .i64 0, .int .i64 0, .int .i64 0, .int .i64 0, .int .i64 0, .int .i64 0, .int .i64 0, .int .i64 0, .int .i64 0, .int .i64 0, .int .i64 0, .int .i64 0, .int .i64 0, .int .i64 0, .int .i64 0, .int .i64 0, .int .i64 0, .int .i64 0, .int .i64 0, .int .i64 0, .int .i64 0, .int .i64 0]) := zero_of (by kernel_rfl)
theorem cells_161 : Cells Tryz.prog 161 3 := cells_of (by kernel_rfl)
theorem agg_161 : IsAgg Tryz.prog 161 true := isAgg_of _ Tryz.underlying161 rfl
theorem zero_161 : Zero Tryz.prog 161 (.agg #[.int .i64 0, .int .i64 0, .int .i64 0]) := zero_of (by kernel_rfl)
theorem cells_167 : Cells Tryz.prog 167 1 := cells_of (by kernel_rfl)
theorem agg_167 : IsAgg Tryz.prog 167 false := isAgg_of _ Tryz.underlying167 rfl
theorem cells_168 : Cells Tryz.prog 168 3 := cells_of (by kernel_rfl)
theorem agg_168 : IsAgg Tryz.prog 168 true := isAgg_of _ Tryz.underlying168 rfl
theorem zero_168 : Zero Tryz.prog 168 (.agg #[.nilFunc, .nilFunc, .nilFunc]) := zero_of (by kernel_rfl)
theorem b_23_  (w : World) : (Instr.build 23 #[]).run Tryz.prog w = .ok (.agg #[(.int .i64 0), (.int .i64 0), (.int .i64 0)]) w := run_build_array Tryz.underlying23 zero_23 cells_3 (by simp [Instr.fill, agg_cells]) w
theorem r_build_23_ {l : List Value} {ty : TypeId}  : Run Tryz.prog l (.build 23 #[]) ty (.agg #[(.int .i64 0), (.int .i64 0), (.int .i64 0)]) := r_build (vs := #[]) (by simp) fun w => b_23_  w
theorem b_23_0_1_2 {v0 v1 v2 : Value} {c0_0 : Value} (h0 : v0.cells = #[c0_0]) {c1_0 : Value} (h1 : v1.cells = #[c1_0]) {c2_0 : Value} (h2 : v2.cells = #[c2_0])  (w : World) : (Instr.build 23 #[(0, v0), (1, v1), (2, v2)]).run Tryz.prog w = .ok (.agg #[c0_0, c1_0, c2_0]) w := run_build_array Tryz.underlying23 zero_23 cells_3 (by simp [Instr.fill, agg_cells, h0, h1, h2]) w
theorem r_build_23_0_1_2 {l : List Value} {ty : TypeId} {x0 x1 x2 : Operand} {c0_0 : Value} (h0 : (ev l x0).cells = #[c0_0]) {c1_0 : Value} (h1 : (ev l x1).cells = #[c1_0]) {c2_0 : Value} (h2 : (ev l x2).cells = #[c2_0]) : Run Tryz.prog l (.build 23 #[(0, x0), (1, x1), (2, x2)]) ty (.agg #[c0_0, c1_0, c2_0]) := r_build (vs := #[(0, ev l x0), (1, ev l x1), (2, ev l x2)]) (by simp) fun w => b_23_0_1_2 h0 h1 h2 w
theorem places_28 (w : World) : ((#[{ name := "X", type := 3, offset := 0, embedded := false, tag := "", pkgPath := "", byteOffset := 0 }, { name := "Y", type := 3, offset := 1, embedded := false, tag := "", pkgPath := "", byteOffset := 8 }, { name := "Z", type := 3, offset := 2, embedded := false, tag := "", pkgPath := "", byteOffset := 16 }] : Array Field).mapM fun f => do pure (f.offset, ← sizeOf f.type) : Sem (Array (Nat × Nat))).run Tryz.prog w = .ok #[(0, 1), (1, 1), (2, 1)] w := by
  simp [Array.mapM_eq_mapM_toList, size_run cells_3]
theorem b_28_  (w : World) : (Instr.build 28 #[]).run Tryz.prog w = .ok (.agg #[(.int .i64 0), (.int .i64 0), (.int .i64 0)]) w := run_build_struct Tryz.underlying28 zero_28 places_28 (by simp [Instr.fill, agg_cells]) w
theorem r_build_28_ {l : List Value} {ty : TypeId}  : Run Tryz.prog l (.build 28 #[]) ty (.agg #[(.int .i64 0), (.int .i64 0), (.int .i64 0)]) := r_build (vs := #[]) (by simp) fun w => b_28_  w
theorem b_28_0 {v0 : Value} {c0_0 : Value} (h0 : v0.cells = #[c0_0])  (w : World) : (Instr.build 28 #[(0, v0)]).run Tryz.prog w = .ok (.agg #[c0_0, (.int .i64 0), (.int .i64 0)]) w := run_build_struct Tryz.underlying28 zero_28 places_28 (by simp [Instr.fill, agg_cells, h0]) w
theorem r_build_28_0 {l : List Value} {ty : TypeId} {x0 : Operand} {c0_0 : Value} (h0 : (ev l x0).cells = #[c0_0]) : Run Tryz.prog l (.build 28 #[(0, x0)]) ty (.agg #[c0_0, (.int .i64 0), (.int .i64 0)]) := r_build (vs := #[(0, ev l x0)]) (by simp) fun w => b_28_0 h0 w
theorem b_28_0_1 {v0 v1 : Value} {c0_0 : Value} (h0 : v0.cells = #[c0_0]) {c1_0 : Value} (h1 : v1.cells = #[c1_0])  (w : World) : (Instr.build 28 #[(0, v0), (1, v1)]).run Tryz.prog w = .ok (.agg #[c0_0, c1_0, (.int .i64 0)]) w := run_build_struct Tryz.underlying28 zero_28 places_28 (by simp [Instr.fill, agg_cells, h0, h1]) w
theorem r_build_28_0_1 {l : List Value} {ty : TypeId} {x0 x1 : Operand} {c0_0 : Value} (h0 : (ev l x0).cells = #[c0_0]) {c1_0 : Value} (h1 : (ev l x1).cells = #[c1_0]) : Run Tryz.prog l (.build 28 #[(0, x0), (1, x1)]) ty (.agg #[c0_0, c1_0, (.int .i64 0)]) := r_build (vs := #[(0, ev l x0), (1, ev l x1)]) (by simp) fun w => b_28_0_1 h0 h1 w
theorem b_28_0_1_2 {v0 v1 v2 : Value} {c0_0 : Value} (h0 : v0.cells = #[c0_0]) {c1_0 : Value} (h1 : v1.cells = #[c1_0]) {c2_0 : Value} (h2 : v2.cells = #[c2_0])  (w : World) : (Instr.build 28 #[(0, v0), (1, v1), (2, v2)]).run Tryz.prog w = .ok (.agg #[c0_0, c1_0, c2_0]) w := run_build_struct Tryz.underlying28 zero_28 places_28 (by simp [Instr.fill, agg_cells, h0, h1, h2]) w
theorem r_build_28_0_1_2 {l : List Value} {ty : TypeId} {x0 x1 x2 : Operand} {c0_0 : Value} (h0 : (ev l x0).cells = #[c0_0]) {c1_0 : Value} (h1 : (ev l x1).cells = #[c1_0]) {c2_0 : Value} (h2 : (ev l x2).cells = #[c2_0]) : Run Tryz.prog l (.build 28 #[(0, x0), (1, x1), (2, x2)]) ty (.agg #[c0_0, c1_0, c2_0]) := r_build (vs := #[(0, ev l x0), (1, ev l x1), (2, ev l x2)]) (by simp) fun w => b_28_0_1_2 h0 h1 h2 w
theorem b_28_1 {v1 : Value} {c1_0 : Value} (h1 : v1.cells = #[c1_0])  (w : World) : (Instr.build 28 #[(1, v1)]).run Tryz.prog w = .ok (.agg #[(.int .i64 0), c1_0, (.int .i64 0)]) w := run_build_struct Tryz.underlying28 zero_28 places_28 (by simp [Instr.fill, agg_cells, h1]) w
theorem r_build_28_1 {l : List Value} {ty : TypeId} {x1 : Operand} {c1_0 : Value} (h1 : (ev l x1).cells = #[c1_0]) : Run Tryz.prog l (.build 28 #[(1, x1)]) ty (.agg #[(.int .i64 0), c1_0, (.int .i64 0)]) := r_build (vs := #[(1, ev l x1)]) (by simp) fun w => b_28_1 h1 w
theorem b_28_1_2 {v1 v2 : Value} {c1_0 : Value} (h1 : v1.cells = #[c1_0]) {c2_0 : Value} (h2 : v2.cells = #[c2_0])  (w : World) : (Instr.build 28 #[(1, v1), (2, v2)]).run Tryz.prog w = .ok (.agg #[(.int .i64 0), c1_0, c2_0]) w := run_build_struct Tryz.underlying28 zero_28 places_28 (by simp [Instr.fill, agg_cells, h1, h2]) w
theorem r_build_28_1_2 {l : List Value} {ty : TypeId} {x1 x2 : Operand} {c1_0 : Value} (h1 : (ev l x1).cells = #[c1_0]) {c2_0 : Value} (h2 : (ev l x2).cells = #[c2_0]) : Run Tryz.prog l (.build 28 #[(1, x1), (2, x2)]) ty (.agg #[(.int .i64 0), c1_0, c2_0]) := r_build (vs := #[(1, ev l x1), (2, ev l x2)]) (by simp) fun w => b_28_1_2 h1 h2 w
theorem b_28_2 {v2 : Value} {c2_0 : Value} (h2 : v2.cells = #[c2_0])  (w : World) : (Instr.build 28 #[(2, v2)]).run Tryz.prog w = .ok (.agg #[(.int .i64 0), (.int .i64 0), c2_0]) w := run_build_struct Tryz.underlying28 zero_28 places_28 (by simp [Instr.fill, agg_cells, h2]) w
theorem r_build_28_2 {l : List Value} {ty : TypeId} {x2 : Operand} {c2_0 : Value} (h2 : (ev l x2).cells = #[c2_0]) : Run Tryz.prog l (.build 28 #[(2, x2)]) ty (.agg #[(.int .i64 0), (.int .i64 0), c2_0]) := r_build (vs := #[(2, ev l x2)]) (by simp) fun w => b_28_2 h2 w
theorem places_32 (w : World) : ((#[{ name := "Neg", type := 4, offset := 0, embedded := false, tag := "", pkgPath := "", byteOffset := 0 }, { name := "Mag", type := 9, offset := 1, embedded := false, tag := "", pkgPath := "", byteOffset := 8 }] : Array Field).mapM fun f => do pure (f.offset, ← sizeOf f.type) : Sem (Array (Nat × Nat))).run Tryz.prog w = .ok #[(0, 1), (1, 1)] w := by
  simp [Array.mapM_eq_mapM_toList, size_run cells_4, size_run cells_9]
theorem b_32_  (w : World) : (Instr.build 32 #[]).run Tryz.prog w = .ok (.agg #[(.bool false), (.string ⟨#[]⟩)]) w := run_build_struct Tryz.underlying32 zero_32 places_32 (by simp [Instr.fill, agg_cells]) w
theorem r_build_32_ {l : List Value} {ty : TypeId}  : Run Tryz.prog l (.build 32 #[]) ty (.agg #[(.bool false), (.string ⟨#[]⟩)]) := r_build (vs := #[]) (by simp) fun w => b_32_  w
theorem b_32_0_1 {v0 v1 : Value} {c0_0 : Value} (h0 : v0.cells = #[c0_0]) {c1_0 : Value} (h1 : v1.cells = #[c1_0])  (w : World) : (Instr.build 32 #[(0, v0), (1, v1)]).run Tryz.prog w = .ok (.agg #[c0_0, c1_0]) w := run_build_struct Tryz.underlying32 zero_32 places_32 (by simp [Instr.fill, agg_cells, h0, h1]) w
theorem r_build_32_0_1 {l : List Value} {ty : TypeId} {x0 x1 : Operand} {c0_0 : Value} (h0 : (ev l x0).cells = #[c0_0]) {c1_0 : Value} (h1 : (ev l x1).cells = #[c1_0]) : Run Tryz.prog l (.build 32 #[(0, x0), (1, x1)]) ty (.agg #[c0_0, c1_0]) := r_build (vs := #[(0, ev l x0), (1, ev l x1)]) (by simp) fun w => b_32_0_1 h0 h1 w
theorem places_34 (w : World) : ((#[{ name := "N", type := 32, offset := 0, embedded := false, tag := "", pkgPath := "", byteOffset := 0 }, { name := "D", type := 32, offset := 2, embedded := false, tag := "", pkgPath := "", byteOffset := 24 }] : Array Field).mapM fun f => do pure (f.offset, ← sizeOf f.type) : Sem (Array (Nat × Nat))).run Tryz.prog w = .ok #[(0, 2), (2, 2)] w := by
  simp [Array.mapM_eq_mapM_toList, size_run cells_32]
theorem b_34_0_1 {v0 v1 : Value} {c0_0 c0_1 : Value} (h0 : v0.cells = #[c0_0, c0_1]) {c1_0 c1_1 : Value} (h1 : v1.cells = #[c1_0, c1_1])  (w : World) : (Instr.build 34 #[(0, v0), (1, v1)]).run Tryz.prog w = .ok (.agg #[c0_0, c0_1, c1_0, c1_1]) w := run_build_struct Tryz.underlying34 zero_34 places_34 (by simp [Instr.fill, agg_cells, h0, h1]) w
theorem r_build_34_0_1 {l : List Value} {ty : TypeId} {x0 x1 : Operand} {c0_0 c0_1 : Value} (h0 : (ev l x0).cells = #[c0_0, c0_1]) {c1_0 c1_1 : Value} (h1 : (ev l x1).cells = #[c1_0, c1_1]) : Run Tryz.prog l (.build 34 #[(0, x0), (1, x1)]) ty (.agg #[c0_0, c0_1, c1_0, c1_1]) := r_build (vs := #[(0, ev l x0), (1, ev l x1)]) (by simp) fun w => b_34_0_1 h0 h1 w
theorem b_49_0_1_2 {v0 v1 v2 : Value} {c0_0 c0_1 c0_2 c0_3 : Value} (h0 : v0.cells = #[c0_0, c0_1, c0_2, c0_3]) {c1_0 c1_1 c1_2 c1_3 : Value} (h1 : v1.cells = #[c1_0, c1_1, c1_2, c1_3]) {c2_0 c2_1 c2_2 c2_3 : Value} (h2 : v2.cells = #[c2_0, c2_1, c2_2, c2_3])  (w : World) : (Instr.build 49 #[(0, v0), (1, v1), (2, v2)]).run Tryz.prog w = .ok (.agg #[c0_0, c0_1, c0_2, c0_3, c1_0, c1_1, c1_2, c1_3, c2_0, c2_1, c2_2, c2_3]) w := run_build_array Tryz.underlying49 zero_49 cells_34 (by simp [Instr.fill, agg_cells, h0, h1, h2]) w
theorem r_build_49_0_1_2 {l : List Value} {ty : TypeId} {x0 x1 x2 : Operand} {c0_0 c0_1 c0_2 c0_3 : Value} (h0 : (ev l x0).cells = #[c0_0, c0_1, c0_2, c0_3]) {c1_0 c1_1 c1_2 c1_3 : Value} (h1 : (ev l x1).cells = #[c1_0, c1_1, c1_2, c1_3]) {c2_0 c2_1 c2_2 c2_3 : Value} (h2 : (ev l x2).cells = #[c2_0, c2_1, c2_2, c2_3]) : Run Tryz.prog l (.build 49 #[(0, x0), (1, x1), (2, x2)]) ty (.agg #[c0_0, c0_1, c0_2, c0_3, c1_0, c1_1, c1_2, c1_3, c2_0, c2_1, c2_2, c2_3]) := r_build (vs := #[(0, ev l x0), (1, ev l x1), (2, ev l x2)]) (by simp) fun w => b_49_0_1_2 h0 h1 h2 w
theorem b_59_0_1_2 {v0 v1 v2 : Value} {c0_0 c0_1 c0_2 : Value} (h0 : v0.cells = #[c0_0, c0_1, c0_2]) {c1_0 c1_1 c1_2 : Value} (h1 : v1.cells = #[c1_0, c1_1, c1_2]) {c2_0 c2_1 c2_2 : Value} (h2 : v2.cells = #[c2_0, c2_1, c2_2])  (w : World) : (Instr.build 59 #[(0, v0), (1, v1), (2, v2)]).run Tryz.prog w = .ok (.agg #[c0_0, c0_1, c0_2, c1_0, c1_1, c1_2, c2_0, c2_1, c2_2]) w := run_build_array Tryz.underlying59 zero_59 cells_28 (by simp [Instr.fill, agg_cells, h0, h1, h2]) w
theorem r_build_59_0_1_2 {l : List Value} {ty : TypeId} {x0 x1 x2 : Operand} {c0_0 c0_1 c0_2 : Value} (h0 : (ev l x0).cells = #[c0_0, c0_1, c0_2]) {c1_0 c1_1 c1_2 : Value} (h1 : (ev l x1).cells = #[c1_0, c1_1, c1_2]) {c2_0 c2_1 c2_2 : Value} (h2 : (ev l x2).cells = #[c2_0, c2_1, c2_2]) : Run Tryz.prog l (.build 59 #[(0, x0), (1, x1), (2, x2)]) ty (.agg #[c0_0, c0_1, c0_2, c1_0, c1_1, c1_2, c2_0, c2_1, c2_2]) := r_build (vs := #[(0, ev l x0), (1, ev l x1), (2, ev l x2)]) (by simp) fun w => b_59_0_1_2 h0 h1 h2 w
theorem b_75_0_1_2 {v0 v1 v2 : Value} {c0_0 c0_1 : Value} (h0 : v0.cells = #[c0_0, c0_1]) {c1_0 c1_1 : Value} (h1 : v1.cells = #[c1_0, c1_1]) {c2_0 c2_1 : Value} (h2 : v2.cells = #[c2_0, c2_1])  (w : World) : (Instr.build 75 #[(0, v0), (1, v1), (2, v2)]).run Tryz.prog w = .ok (.agg #[c0_0, c0_1, c1_0, c1_1, c2_0, c2_1]) w := run_build_array Tryz.underlying75 zero_75 cells_32 (by simp [Instr.fill, agg_cells, h0, h1, h2]) w
theorem r_build_75_0_1_2 {l : List Value} {ty : TypeId} {x0 x1 x2 : Operand} {c0_0 c0_1 : Value} (h0 : (ev l x0).cells = #[c0_0, c0_1]) {c1_0 c1_1 : Value} (h1 : (ev l x1).cells = #[c1_0, c1_1]) {c2_0 c2_1 : Value} (h2 : (ev l x2).cells = #[c2_0, c2_1]) : Run Tryz.prog l (.build 75 #[(0, x0), (1, x1), (2, x2)]) ty (.agg #[c0_0, c0_1, c1_0, c1_1, c2_0, c2_1]) := r_build (vs := #[(0, ev l x0), (1, ev l x1), (2, ev l x2)]) (by simp) fun w => b_75_0_1_2 h0 h1 h2 w
theorem b_91_0_1_2_3_4_5 {v0 v1 v2 v3 v4 v5 : Value} {c0_0 c0_1 c0_2 : Value} (h0 : v0.cells = #[c0_0, c0_1, c0_2]) {c1_0 c1_1 c1_2 : Value} (h1 : v1.cells = #[c1_0, c1_1, c1_2]) {c2_0 c2_1 c2_2 : Value} (h2 : v2.cells = #[c2_0, c2_1, c2_2]) {c3_0 c3_1 c3_2 : Value} (h3 : v3.cells = #[c3_0, c3_1, c3_2]) {c4_0 c4_1 c4_2 : Value} (h4 : v4.cells = #[c4_0, c4_1, c4_2]) {c5_0 c5_1 c5_2 : Value} (h5 : v5.cells = #[c5_0, c5_1, c5_2])  (w : World) : (Instr.build 91 #[(0, v0), (1, v1), (2, v2), (3, v3), (4, v4), (5, v5)]).run Tryz.prog w = .ok (.agg #[c0_0, c0_1, c0_2, c1_0, c1_1, c1_2, c2_0, c2_1, c2_2, c3_0, c3_1, c3_2, c4_0, c4_1, c4_2, c5_0, c5_1, c5_2]) w := run_build_array Tryz.underlying91 zero_91 cells_23 (by simp [Instr.fill, agg_cells, h0, h1, h2, h3, h4, h5]) w
theorem r_build_91_0_1_2_3_4_5 {l : List Value} {ty : TypeId} {x0 x1 x2 x3 x4 x5 : Operand} {c0_0 c0_1 c0_2 : Value} (h0 : (ev l x0).cells = #[c0_0, c0_1, c0_2]) {c1_0 c1_1 c1_2 : Value} (h1 : (ev l x1).cells = #[c1_0, c1_1, c1_2]) {c2_0 c2_1 c2_2 : Value} (h2 : (ev l x2).cells = #[c2_0, c2_1, c2_2]) {c3_0 c3_1 c3_2 : Value} (h3 : (ev l x3).cells = #[c3_0, c3_1, c3_2]) {c4_0 c4_1 c4_2 : Value} (h4 : (ev l x4).cells = #[c4_0, c4_1, c4_2]) {c5_0 c5_1 c5_2 : Value} (h5 : (ev l x5).cells = #[c5_0, c5_1, c5_2]) : Run Tryz.prog l (.build 91 #[(0, x0), (1, x1), (2, x2), (3, x3), (4, x4), (5, x5)]) ty (.agg #[c0_0, c0_1, c0_2, c1_0, c1_1, c1_2, c2_0, c2_1, c2_2, c3_0, c3_1, c3_2, c4_0, c4_1, c4_2, c5_0, c5_1, c5_2]) := r_build (vs := #[(0, ev l x0), (1, ev l x1), (2, ev l x2), (3, ev l x3), (4, ev l x4), (5, ev l x5)]) (by simp) fun w => b_91_0_1_2_3_4_5 h0 h1 h2 h3 h4 h5 w
theorem b_95_0_1_2 {v0 v1 v2 : Value} {c0_0 : Value} (h0 : v0.cells = #[c0_0]) {c1_0 : Value} (h1 : v1.cells = #[c1_0]) {c2_0 : Value} (h2 : v2.cells = #[c2_0])  (w : World) : (Instr.build 95 #[(0, v0), (1, v1), (2, v2)]).run Tryz.prog w = .ok (.agg #[c0_0, c1_0, c2_0]) w := run_build_array Tryz.underlying95 zero_95 cells_94 (by simp [Instr.fill, agg_cells, h0, h1, h2]) w
theorem r_build_95_0_1_2 {l : List Value} {ty : TypeId} {x0 x1 x2 : Operand} {c0_0 : Value} (h0 : (ev l x0).cells = #[c0_0]) {c1_0 : Value} (h1 : (ev l x1).cells = #[c1_0]) {c2_0 : Value} (h2 : (ev l x2).cells = #[c2_0]) : Run Tryz.prog l (.build 95 #[(0, x0), (1, x1), (2, x2)]) ty (.agg #[c0_0, c1_0, c2_0]) := r_build (vs := #[(0, ev l x0), (1, ev l x1), (2, ev l x2)]) (by simp) fun w => b_95_0_1_2 h0 h1 h2 w
theorem b_161_0_1_2 {v0 v1 v2 : Value} {c0_0 : Value} (h0 : v0.cells = #[c0_0]) {c1_0 : Value} (h1 : v1.cells = #[c1_0]) {c2_0 : Value} (h2 : v2.cells = #[c2_0])  (w : World) : (Instr.build 161 #[(0, v0), (1, v1), (2, v2)]).run Tryz.prog w = .ok (.agg #[c0_0, c1_0, c2_0]) w := run_build_array Tryz.underlying161 zero_161 cells_3 (by simp [Instr.fill, agg_cells, h0, h1, h2]) w
theorem r_build_161_0_1_2 {l : List Value} {ty : TypeId} {x0 x1 x2 : Operand} {c0_0 : Value} (h0 : (ev l x0).cells = #[c0_0]) {c1_0 : Value} (h1 : (ev l x1).cells = #[c1_0]) {c2_0 : Value} (h2 : (ev l x2).cells = #[c2_0]) : Run Tryz.prog l (.build 161 #[(0, x0), (1, x1), (2, x2)]) ty (.agg #[c0_0, c1_0, c2_0]) := r_build (vs := #[(0, ev l x0), (1, ev l x1), (2, ev l x2)]) (by simp) fun w => b_161_0_1_2 h0 h1 h2 w
theorem b_168_0_1_2 {v0 v1 v2 : Value} {c0_0 : Value} (h0 : v0.cells = #[c0_0]) {c1_0 : Value} (h1 : v1.cells = #[c1_0]) {c2_0 : Value} (h2 : v2.cells = #[c2_0])  (w : World) : (Instr.build 168 #[(0, v0), (1, v1), (2, v2)]).run Tryz.prog w = .ok (.agg #[c0_0, c1_0, c2_0]) w := run_build_array Tryz.underlying168 zero_168 cells_167 (by simp [Instr.fill, agg_cells, h0, h1, h2]) w
theorem r_build_168_0_1_2 {l : List Value} {ty : TypeId} {x0 x1 x2 : Operand} {c0_0 : Value} (h0 : (ev l x0).cells = #[c0_0]) {c1_0 : Value} (h1 : (ev l x1).cells = #[c1_0]) {c2_0 : Value} (h2 : (ev l x2).cells = #[c2_0]) : Run Tryz.prog l (.build 168 #[(0, x0), (1, x1), (2, x2)]) ty (.agg #[c0_0, c1_0, c2_0]) := r_build (vs := #[(0, ev l x0), (1, ev l x1), (2, ev l x2)]) (by simp) fun w => b_168_0_1_2 h0 h1 h2 w
theorem eqr_23 (d : Nat) {x0 y0 : Int} {x1 y1 : Int} {x2 y2 : Int} : EqR Tryz.prog (d + 2) 23 (.agg #[.int .i64 x0, .int .i64 x1, .int .i64 x2]) (.agg #[.int .i64 y0, .int .i64 y1, .int .i64 y2]) (x0 = y0 ∧ x1 = y1 ∧ x2 = y2) := (EqR.array Tryz.underlying23 cells_3 (ItmR.cons (part_one agg_3 rfl) (part_one agg_3 rfl) (EqR.int (d := d + 0) Tryz.underlying3) (ItmR.cons (part_one agg_3 rfl) (part_one agg_3 rfl) (EqR.int (d := d + 0) Tryz.underlying3) (ItmR.cons (part_one agg_3 rfl) (part_one agg_3 rfl) (EqR.int (d := d + 0) Tryz.underlying3) ItmR.nil)))).iff (by simp only [and_assoc, and_true])
theorem eq_eql_23 {l : List Value} {ty T' : TypeId} {x y : Operand} {x0 y0 : Int} {x1 y1 : Int} {x2 y2 : Int} (hx : ev l x = (.agg #[.int .i64 x0, .int .i64 x1, .int .i64 x2])) (hy : ev l y = (.agg #[.int .i64 y0, .int .i64 y1, .int .i64 y2])) : Run Tryz.prog l (.binOp .eql 23 x y T') ty (.bool (decide (x0 = y0 ∧ x1 = y1 ∧ x2 = y2))) := r_eqlR (by kernel_rfl) hx hy (eqr_23 9998)
theorem eqr_28 (d : Nat) {x0 y0 : Int} {x1 y1 : Int} {x2 y2 : Int} : EqR Tryz.prog (d + 2) 28 (.agg #[.int .i64 x0, .int .i64 x1, .int .i64 x2]) (.agg #[.int .i64 y0, .int .i64 y1, .int .i64 y2]) (x0 = y0 ∧ x1 = y1 ∧ x2 = y2) := (EqR.struct Tryz.underlying28 (by kernel_rfl) (FldR.cons (by decide) (part_one agg_3 rfl) (part_one agg_3 rfl) (EqR.int (d := d + 0) Tryz.underlying3) (FldR.cons (by decide) (part_one agg_3 rfl) (part_one agg_3 rfl) (EqR.int (d := d + 0) Tryz.underlying3) (FldR.cons (by decide) (part_one agg_3 rfl) (part_one agg_3 rfl) (EqR.int (d := d + 0) Tryz.underlying3) FldR.nil)))).iff (by simp only [and_assoc, and_true])
theorem eq_eql_28 {l : List Value} {ty T' : TypeId} {x y : Operand} {x0 y0 : Int} {x1 y1 : Int} {x2 y2 : Int} (hx : ev l x = (.agg #[.int .i64 x0, .int .i64 x1, .int .i64 x2])) (hy : ev l y = (.agg #[.int .i64 y0, .int .i64 y1, .int .i64 y2])) : Run Tryz.prog l (.binOp .eql 28 x y T') ty (.bool (decide (x0 = y0 ∧ x1 = y1 ∧ x2 = y2))) := r_eqlR (by kernel_rfl) hx hy (eqr_28 9998)
theorem eqr_32 (d : Nat) {x0 y0 : Bool} {x1 y1 : ByteArray} : EqR Tryz.prog (d + 2) 32 (.agg #[.bool x0, .string x1]) (.agg #[.bool y0, .string y1]) (x0 = y0 ∧ x1 = y1) := (EqR.struct Tryz.underlying32 (by kernel_rfl) (FldR.cons (by decide) (part_one agg_4 rfl) (part_one agg_4 rfl) (EqR.bool (d := d + 0) Tryz.underlying4) (FldR.cons (by decide) (part_one agg_9 rfl) (part_one agg_9 rfl) (EqR.str (d := d + 0) Tryz.underlying9) FldR.nil))).iff (by simp only [and_assoc, and_true])
theorem eq_eql_32 {l : List Value} {ty T' : TypeId} {x y : Operand} {x0 y0 : Bool} {x1 y1 : ByteArray} (hx : ev l x = (.agg #[.bool x0, .string x1])) (hy : ev l y = (.agg #[.bool y0, .string y1])) : Run Tryz.prog l (.binOp .eql 32 x y T') ty (.bool (decide (x0 = y0 ∧ x1 = y1))) := r_eqlR (by kernel_rfl) hx hy (eqr_32 9998)
theorem eq_neq_32 {l : List Value} {ty T' : TypeId} {x y : Operand} {x0 y0 : Bool} {x1 y1 : ByteArray} (hx : ev l x = (.agg #[.bool x0, .string x1])) (hy : ev l y = (.agg #[.bool y0, .string y1])) : Run Tryz.prog l (.binOp .neq 32 x y T') ty (.bool (decide (¬ (x0 = y0 ∧ x1 = y1)))) := r_neqR (by kernel_rfl) hx hy (eqr_32 9998)
theorem eqr_34 (d : Nat) {x0 y0 : Bool} {x1 y1 : ByteArray} {x2 y2 : Bool} {x3 y3 : ByteArray} : EqR Tryz.prog (d + 3) 34 (.agg #[.bool x0, .string x1, .bool x2, .string x3]) (.agg #[.bool y0, .string y1, .bool y2, .string y3]) (x0 = y0 ∧ x1 = y1 ∧ x2 = y2 ∧ x3 = y3) := (EqR.struct Tryz.underlying34 (by kernel_rfl) (FldR.cons (by decide) (part_agg agg_32 cells_32 rfl) (part_agg agg_32 cells_32 rfl) (eqr_32 (d + 0)) (FldR.cons (by decide) (part_agg agg_32 cells_32 rfl) (part_agg agg_32 cells_32 rfl) (eqr_32 (d + 0)) FldR.nil))).iff (by simp only [and_assoc, and_true])
theorem eq_eql_34 {l : List Value} {ty T' : TypeId} {x y : Operand} {x0 y0 : Bool} {x1 y1 : ByteArray} {x2 y2 : Bool} {x3 y3 : ByteArray} (hx : ev l x = (.agg #[.bool x0, .string x1, .bool x2, .string x3])) (hy : ev l y = (.agg #[.bool y0, .string y1, .bool y2, .string y3])) : Run Tryz.prog l (.binOp .eql 34 x y T') ty (.bool (decide (x0 = y0 ∧ x1 = y1 ∧ x2 = y2 ∧ x3 = y3))) := r_eqlR (by kernel_rfl) hx hy (eqr_34 9997)
theorem eqr_49 (d : Nat) {x0 y0 : Bool} {x1 y1 : ByteArray} {x2 y2 : Bool} {x3 y3 : ByteArray} {x4 y4 : Bool} {x5 y5 : ByteArray} {x6 y6 : Bool} {x7 y7 : ByteArray} {x8 y8 : Bool} {x9 y9 : ByteArray} {x10 y10 : Bool} {x11 y11 : ByteArray} : EqR Tryz.prog (d + 4) 49 (.agg #[.bool x0, .string x1, .bool x2, .string x3, .bool x4, .string x5, .bool x6, .string x7, .bool x8, .string x9, .bool x10, .string x11]) (.agg #[.bool y0, .string y1, .bool y2, .string y3, .bool y4, .string y5, .bool y6, .string y7, .bool y8, .string y9, .bool y10, .string y11]) (x0 = y0 ∧ x1 = y1 ∧ x2 = y2 ∧ x3 = y3 ∧ x4 = y4 ∧ x5 = y5 ∧ x6 = y6 ∧ x7 = y7 ∧ x8 = y8 ∧ x9 = y9 ∧ x10 = y10 ∧ x11 = y11) := (EqR.array Tryz.underlying49 cells_34 (ItmR.cons (part_agg agg_34 cells_34 rfl) (part_agg agg_34 cells_34 rfl) (eqr_34 (d + 0)) (ItmR.cons (part_agg agg_34 cells_34 rfl) (part_agg agg_34 cells_34 rfl) (eqr_34 (d + 0)) (ItmR.cons (part_agg agg_34 cells_34 rfl) (part_agg agg_34 cells_34 rfl) (eqr_34 (d + 0)) ItmR.nil)))).iff (by simp only [and_assoc, and_true])
theorem eq_eql_49 {l : List Value} {ty T' : TypeId} {x y : Operand} {x0 y0 : Bool} {x1 y1 : ByteArray} {x2 y2 : Bool} {x3 y3 : ByteArray} {x4 y4 : Bool} {x5 y5 : ByteArray} {x6 y6 : Bool} {x7 y7 : ByteArray} {x8 y8 : Bool} {x9 y9 : ByteArray} {x10 y10 : Bool} {x11 y11 : ByteArray} (hx : ev l x = (.agg #[.bool x0, .string x1, .bool x2, .string x3, .bool x4, .string x5, .bool x6, .string x7, .bool x8, .string x9, .bool x10, .string x11])) (hy : ev l y = (.agg #[.bool y0, .string y1, .bool y2, .string y3, .bool y4, .string y5, .bool y6, .string y7, .bool y8, .string y9, .bool y10, .string y11])) : Run Tryz.prog l (.binOp .eql 49 x y T') ty (.bool (decide (x0 = y0 ∧ x1 = y1 ∧ x2 = y2 ∧ x3 = y3 ∧ x4 = y4 ∧ x5 = y5 ∧ x6 = y6 ∧ x7 = y7 ∧ x8 = y8 ∧ x9 = y9 ∧ x10 = y10 ∧ x11 = y11))) := r_eqlR (by kernel_rfl) hx hy (eqr_49 9996)
end Go.Proofs.YtmcgcnpgkkfkoaaGreatDoor
namespace Go.Proofs.YtmcgcnpgkkfkoaaGreatDoor
open Go.RowKit Go.Lith
theorem r_index_23_0 {l : List Value} {ty : TypeId} {x y : Operand} {k : IntKind} {c0 c1 c2 : Value} (hx : ev l x = .agg #[c0, c1, c2]) (hy : ev l y = .int k 0) : Run Tryz.prog l (.index 23 x y) ty c0 := r_index1 Tryz.underlying23 agg_3 cells_3 hx hy (by decide) (by decide) rfl
theorem r_index_23_1 {l : List Value} {ty : TypeId} {x y : Operand} {k : IntKind} {c0 c1 c2 : Value} (hx : ev l x = .agg #[c0, c1, c2]) (hy : ev l y = .int k 1) : Run Tryz.prog l (.index 23 x y) ty c1 := r_index1 Tryz.underlying23 agg_3 cells_3 hx hy (by decide) (by decide) rfl
theorem r_index_23_2 {l : List Value} {ty : TypeId} {x y : Operand} {k : IntKind} {c0 c1 c2 : Value} (hx : ev l x = .agg #[c0, c1, c2]) (hy : ev l y = .int k 2) : Run Tryz.prog l (.index 23 x y) ty c2 := r_index1 Tryz.underlying23 agg_3 cells_3 hx hy (by decide) (by decide) rfl
theorem r_index_59_0 {l : List Value} {ty : TypeId} {x y : Operand} {k : IntKind} {c0 c1 c2 c3 c4 c5 c6 c7 c8 : Value} (hx : ev l x = .agg #[c0, c1, c2, c3, c4, c5, c6, c7, c8]) (hy : ev l y = .int k 0) : Run Tryz.prog l (.index 59 x y) ty (.agg #[c0, c1, c2]) := r_indexA Tryz.underlying59 agg_28 cells_28 hx hy (by decide) (by decide) rfl
theorem r_index_59_1 {l : List Value} {ty : TypeId} {x y : Operand} {k : IntKind} {c0 c1 c2 c3 c4 c5 c6 c7 c8 : Value} (hx : ev l x = .agg #[c0, c1, c2, c3, c4, c5, c6, c7, c8]) (hy : ev l y = .int k 1) : Run Tryz.prog l (.index 59 x y) ty (.agg #[c3, c4, c5]) := r_indexA Tryz.underlying59 agg_28 cells_28 hx hy (by decide) (by decide) rfl
theorem r_index_59_2 {l : List Value} {ty : TypeId} {x y : Operand} {k : IntKind} {c0 c1 c2 c3 c4 c5 c6 c7 c8 : Value} (hx : ev l x = .agg #[c0, c1, c2, c3, c4, c5, c6, c7, c8]) (hy : ev l y = .int k 2) : Run Tryz.prog l (.index 59 x y) ty (.agg #[c6, c7, c8]) := r_indexA Tryz.underlying59 agg_28 cells_28 hx hy (by decide) (by decide) rfl
theorem r_index_95_0 {l : List Value} {ty : TypeId} {x y : Operand} {k : IntKind} {c0 c1 c2 : Value} (hx : ev l x = .agg #[c0, c1, c2]) (hy : ev l y = .int k 0) : Run Tryz.prog l (.index 95 x y) ty c0 := r_index1 Tryz.underlying95 agg_94 cells_94 hx hy (by decide) (by decide) rfl
theorem r_index_95_1 {l : List Value} {ty : TypeId} {x y : Operand} {k : IntKind} {c0 c1 c2 : Value} (hx : ev l x = .agg #[c0, c1, c2]) (hy : ev l y = .int k 1) : Run Tryz.prog l (.index 95 x y) ty c1 := r_index1 Tryz.underlying95 agg_94 cells_94 hx hy (by decide) (by decide) rfl
theorem r_index_95_2 {l : List Value} {ty : TypeId} {x y : Operand} {k : IntKind} {c0 c1 c2 : Value} (hx : ev l x = .agg #[c0, c1, c2]) (hy : ev l y = .int k 2) : Run Tryz.prog l (.index 95 x y) ty c2 := r_index1 Tryz.underlying95 agg_94 cells_94 hx hy (by decide) (by decide) rfl
theorem r_index_112_0 {l : List Value} {ty : TypeId} {x y : Operand} {k : IntKind} {c0 c1 c2 c3 c4 c5 : Value} (hx : ev l x = .agg #[c0, c1, c2, c3, c4, c5]) (hy : ev l y = .int k 0) : Run Tryz.prog l (.index 112 x y) ty (.agg #[c0, c1]) := r_indexA Tryz.underlying112 agg_32 cells_32 hx hy (by decide) (by decide) rfl
theorem r_index_112_1 {l : List Value} {ty : TypeId} {x y : Operand} {k : IntKind} {c0 c1 c2 c3 c4 c5 : Value} (hx : ev l x = .agg #[c0, c1, c2, c3, c4, c5]) (hy : ev l y = .int k 1) : Run Tryz.prog l (.index 112 x y) ty (.agg #[c2, c3]) := r_indexA Tryz.underlying112 agg_32 cells_32 hx hy (by decide) (by decide) rfl
theorem r_index_112_2 {l : List Value} {ty : TypeId} {x y : Operand} {k : IntKind} {c0 c1 c2 c3 c4 c5 : Value} (hx : ev l x = .agg #[c0, c1, c2, c3, c4, c5]) (hy : ev l y = .int k 2) : Run Tryz.prog l (.index 112 x y) ty (.agg #[c4, c5]) := r_indexA Tryz.underlying112 agg_32 cells_32 hx hy (by decide) (by decide) rfl
theorem r_index_161_0 {l : List Value} {ty : TypeId} {x y : Operand} {k : IntKind} {c0 c1 c2 : Value} (hx : ev l x = .agg #[c0, c1, c2]) (hy : ev l y = .int k 0) : Run Tryz.prog l (.index 161 x y) ty c0 := r_index1 Tryz.underlying161 agg_3 cells_3 hx hy (by decide) (by decide) rfl
theorem r_index_161_1 {l : List Value} {ty : TypeId} {x y : Operand} {k : IntKind} {c0 c1 c2 : Value} (hx : ev l x = .agg #[c0, c1, c2]) (hy : ev l y = .int k 1) : Run Tryz.prog l (.index 161 x y) ty c1 := r_index1 Tryz.underlying161 agg_3 cells_3 hx hy (by decide) (by decide) rfl
theorem r_index_161_2 {l : List Value} {ty : TypeId} {x y : Operand} {k : IntKind} {c0 c1 c2 : Value} (hx : ev l x = .agg #[c0, c1, c2]) (hy : ev l y = .int k 2) : Run Tryz.prog l (.index 161 x y) ty c2 := r_index1 Tryz.underlying161 agg_3 cells_3 hx hy (by decide) (by decide) rfl
theorem r_index_168_0 {l : List Value} {ty : TypeId} {x y : Operand} {k : IntKind} {c0 c1 c2 : Value} (hx : ev l x = .agg #[c0, c1, c2]) (hy : ev l y = .int k 0) : Run Tryz.prog l (.index 168 x y) ty c0 := r_index1 Tryz.underlying168 agg_167 cells_167 hx hy (by decide) (by decide) rfl
theorem r_index_168_1 {l : List Value} {ty : TypeId} {x y : Operand} {k : IntKind} {c0 c1 c2 : Value} (hx : ev l x = .agg #[c0, c1, c2]) (hy : ev l y = .int k 1) : Run Tryz.prog l (.index 168 x y) ty c1 := r_index1 Tryz.underlying168 agg_167 cells_167 hx hy (by decide) (by decide) rfl
theorem r_index_168_2 {l : List Value} {ty : TypeId} {x y : Operand} {k : IntKind} {c0 c1 c2 : Value} (hx : ev l x = .agg #[c0, c1, c2]) (hy : ev l y = .int k 2) : Run Tryz.prog l (.index 168 x y) ty c2 := r_index1 Tryz.underlying168 agg_167 cells_167 hx hy (by decide) (by decide) rfl
theorem n_bs_22_3 {ds : List Deferred} {l : List Value} {ty : TypeId} {ops : Array Oper} {Q : Exit → Act → World → Prop} {rest : List Oper} {d : Nat} {pos : String} {after : Array Edge} {w : World} {x0 x1 x2 : Operand} {c0_0 c1_0 c2_0 : Value} (h0 : (ev l x0).cells = #[c0_0]) (h1 : (ev l x1).cells = #[c1_0]) (h2 : (ev l x2).cells = #[c2_0]) (h : ∀ w' g, Ext w w' → w.heap.size ≤ g → Blk w' g [c0_0, c1_0, c2_0] 3 → wpList Tryz.prog ops Q rest (Fr (l.set d (.slice (some ⟨g, 0, none⟩) 3 3)) ds) w') : wpList Tryz.prog ops Q (Oper.mk (some d) (.buildSlice 22 3 #[(0, x0), (1, x1), (2, x2)]) ty pos after none :: rest) (Fr l ds) w :=
  n_buildN (vs := #[(0, ev l x0), (1, ev l x1), (2, ev l x2)]) (base := #[.int .i64 0, .int .i64 0, .int .i64 0]) (c := 1) (z := (.int .i64 0)) Tryz.underlying22 (by kernel_rfl) (by decide) (by decide) (by kernel_rfl) (by simp) (by simp [Instr.fill, h0, h1, h2]) h
theorem n_bs_24_1 {ds : List Deferred} {l : List Value} {ty : TypeId} {ops : Array Oper} {Q : Exit → Act → World → Prop} {rest : List Oper} {d : Nat} {pos : String} {after : Array Edge} {w : World} {x0 : Operand} {c0_0 c0_1 c0_2 c0_3 c0_4 c0_5 c0_6 c0_7 c0_8 : Value} (h0 : (ev l x0).cells = #[c0_0, c0_1, c0_2, c0_3, c0_4, c0_5, c0_6, c0_7, c0_8]) (h : ∀ w' g, Ext w w' → w.heap.size ≤ g → Blk w' g [c0_0, c0_1, c0_2, c0_3, c0_4, c0_5, c0_6, c0_7, c0_8] 59 → wpList Tryz.prog ops Q rest (Fr (l.set d (.slice (some ⟨g, 0, none⟩) 1 1)) ds) w') : wpList Tryz.prog ops Q (Oper.mk (some d) (.buildSlice 24 1 #[(0, x0)]) ty pos after none :: rest) (Fr l ds) w :=
  n_buildN (vs := #[(0, ev l x0)]) (base := #[.int .i64 0, .int .i64 0, .int .i64 0, .int .i64 0, .int .i64 0, .int .i64 0, .int .i64 0, .int .i64 0, .int .i64 0]) (c := 9) (z := (.agg #[.int .i64 0, .int .i64 0, .int .i64 0, .int .i64 0, .int .i64 0, .int .i64 0, .int .i64 0, .int .i64 0, .int .i64 0])) Tryz.underlying24 (by kernel_rfl) (by decide) (by decide) (by kernel_rfl) (by simp) (by simp [Instr.fill, h0]) h
theorem n_bs_24_2 {ds : List Deferred} {l : List Value} {ty : TypeId} {ops : Array Oper} {Q : Exit → Act → World → Prop} {rest : List Oper} {d : Nat} {pos : String} {after : Array Edge} {w : World} {x0 x1 : Operand} {c0_0 c0_1 c0_2 c0_3 c0_4 c0_5 c0_6 c0_7 c0_8 c1_0 c1_1 c1_2 c1_3 c1_4 c1_5 c1_6 c1_7 c1_8 : Value} (h0 : (ev l x0).cells = #[c0_0, c0_1, c0_2, c0_3, c0_4, c0_5, c0_6, c0_7, c0_8]) (h1 : (ev l x1).cells = #[c1_0, c1_1, c1_2, c1_3, c1_4, c1_5, c1_6, c1_7, c1_8]) (h : ∀ w' g, Ext w w' → w.heap.size ≤ g → Blk w' g [c0_0, c0_1, c0_2, c0_3, c0_4, c0_5, c0_6, c0_7, c0_8, c1_0, c1_1, c1_2, c1_3, c1_4, c1_5, c1_6, c1_7, c1_8] 59 → wpList Tryz.prog ops Q rest (Fr (l.set d (.slice (some ⟨g, 0, none⟩) 2 2)) ds) w') : wpList Tryz.prog ops Q (Oper.mk (some d) (.buildSlice 24 2 #[(0, x0), (1, x1)]) ty pos after none :: rest) (Fr l ds) w :=
  n_buildN (vs := #[(0, ev l x0), (1, ev l x1)]) (base := #[.int .i64 0, .int .i64 0, .int .i64 0, .int .i64 0, .int .i64 0, .int .i64 0, .int .i64 0, .int .i64 0, .int .i64 0, .int .i64 0, .int .i64 0, .int .i64 0, .int .i64 0, .int .i64 0, .int .i64 0, .int .i64 0, .int .i64 0, .int .i64 0]) (c := 9) (z := (.agg #[.int .i64 0, .int .i64 0, .int .i64 0, .int .i64 0, .int .i64 0, .int .i64 0, .int .i64 0, .int .i64 0, .int .i64 0])) Tryz.underlying24 (by kernel_rfl) (by decide) (by decide) (by kernel_rfl) (by simp) (by simp [Instr.fill, h0, h1]) h
theorem n_bs_24_4 {ds : List Deferred} {l : List Value} {ty : TypeId} {ops : Array Oper} {Q : Exit → Act → World → Prop} {rest : List Oper} {d : Nat} {pos : String} {after : Array Edge} {w : World} {x0 x1 x2 x3 : Operand} {c0_0 c0_1 c0_2 c0_3 c0_4 c0_5 c0_6 c0_7 c0_8 c1_0 c1_1 c1_2 c1_3 c1_4 c1_5 c1_6 c1_7 c1_8 c2_0 c2_1 c2_2 c2_3 c2_4 c2_5 c2_6 c2_7 c2_8 c3_0 c3_1 c3_2 c3_3 c3_4 c3_5 c3_6 c3_7 c3_8 : Value} (h0 : (ev l x0).cells = #[c0_0, c0_1, c0_2, c0_3, c0_4, c0_5, c0_6, c0_7, c0_8]) (h1 : (ev l x1).cells = #[c1_0, c1_1, c1_2, c1_3, c1_4, c1_5, c1_6, c1_7, c1_8]) (h2 : (ev l x2).cells = #[c2_0, c2_1, c2_2, c2_3, c2_4, c2_5, c2_6, c2_7, c2_8]) (h3 : (ev l x3).cells = #[c3_0, c3_1, c3_2, c3_3, c3_4, c3_5, c3_6, c3_7, c3_8]) (h : ∀ w' g, Ext w w' → w.heap.size ≤ g → Blk w' g [c0_0, c0_1, c0_2, c0_3, c0_4, c0_5, c0_6, c0_7, c0_8, c1_0, c1_1, c1_2, c1_3, c1_4, c1_5, c1_6, c1_7, c1_8, c2_0, c2_1, c2_2, c2_3, c2_4, c2_5, c2_6, c2_7, c2_8, c3_0, c3_1, c3_2, c3_3, c3_4, c3_5, c3_6, c3_7, c3_8] 59 → wpList Tryz.prog ops Q rest (Fr (l.set d (.slice (some ⟨g, 0, none⟩) 4 4)) ds) w') : wpList Tryz.prog ops Q (Oper.mk (some d) (.buildSlice 24 4 #[(0, x0), (1, x1), (2, x2), (3, x3)]) ty pos after none :: rest) (Fr l ds) w :=
  n_buildN (vs := #[(0, ev l x0), (1, ev l x1), (2, ev l x2), (3, ev l x3)]) (base := #[.int .i64 0, .int .i64 0, .int .i64 0, .int .i64 0, .int .i64 0, .int .i64 0, .int .i64 0, .int .i64 0, .int .i64 0, .int .i64 0, .int .i64 0, .int .i64 0, .int .i64 0, .int .i64 0, .int .i64 0, .int .i64 0, .int .i64 0, .int .i64 0, .int .i64 0, .int .i64 0, .int .i64 0, .int .i64 0, .int .i64 0, .int .i64 0, .int .i64 0, .int .i64 0, .int .i64 0, .int .i64 0, .int .i64 0, .int .i64 0, .int .i64 0, .int .i64 0, .int .i64 0, .int .i64 0, .int .i64 0, .int .i64 0]) (c := 9) (z := (.agg #[.int .i64 0, .int .i64 0, .int .i64 0, .int .i64 0, .int .i64 0, .int .i64 0, .int .i64 0, .int .i64 0, .int .i64 0])) Tryz.underlying24 (by kernel_rfl) (by decide) (by decide) (by kernel_rfl) (by simp) (by simp [Instr.fill, h0, h1, h2, h3]) h
theorem n_bs_118_4 {ds : List Deferred} {l : List Value} {ty : TypeId} {ops : Array Oper} {Q : Exit → Act → World → Prop} {rest : List Oper} {d : Nat} {pos : String} {after : Array Edge} {w : World} {x0 x1 x2 x3 : Operand} {c0_0 c0_1 c0_2 c1_0 c1_1 c1_2 c2_0 c2_1 c2_2 c3_0 c3_1 c3_2 : Value} (h0 : (ev l x0).cells = #[c0_0, c0_1, c0_2]) (h1 : (ev l x1).cells = #[c1_0, c1_1, c1_2]) (h2 : (ev l x2).cells = #[c2_0, c2_1, c2_2]) (h3 : (ev l x3).cells = #[c3_0, c3_1, c3_2]) (h : ∀ w' g, Ext w w' → w.heap.size ≤ g → Blk w' g [c0_0, c0_1, c0_2, c1_0, c1_1, c1_2, c2_0, c2_1, c2_2, c3_0, c3_1, c3_2] 28 → wpList Tryz.prog ops Q rest (Fr (l.set d (.slice (some ⟨g, 0, none⟩) 4 4)) ds) w') : wpList Tryz.prog ops Q (Oper.mk (some d) (.buildSlice 118 4 #[(0, x0), (1, x1), (2, x2), (3, x3)]) ty pos after none :: rest) (Fr l ds) w :=
  n_buildN (vs := #[(0, ev l x0), (1, ev l x1), (2, ev l x2), (3, ev l x3)]) (base := #[.int .i64 0, .int .i64 0, .int .i64 0, .int .i64 0, .int .i64 0, .int .i64 0, .int .i64 0, .int .i64 0, .int .i64 0, .int .i64 0, .int .i64 0, .int .i64 0]) (c := 3) (z := (.agg #[.int .i64 0, .int .i64 0, .int .i64 0])) Tryz.underlying118 (by kernel_rfl) (by decide) (by decide) (by kernel_rfl) (by simp) (by simp [Instr.fill, h0, h1, h2, h3]) h
theorem n_bs_156_3 {ds : List Deferred} {l : List Value} {ty : TypeId} {ops : Array Oper} {Q : Exit → Act → World → Prop} {rest : List Oper} {d : Nat} {pos : String} {after : Array Edge} {w : World} {x0 x1 x2 : Operand} {c0_0 c0_1 c1_0 c1_1 c2_0 c2_1 : Value} (h0 : (ev l x0).cells = #[c0_0, c0_1]) (h1 : (ev l x1).cells = #[c1_0, c1_1]) (h2 : (ev l x2).cells = #[c2_0, c2_1]) (h : ∀ w' g, Ext w w' → w.heap.size ≤ g → Blk w' g [c0_0, c0_1, c1_0, c1_1, c2_0, c2_1] 32 → wpList Tryz.prog ops Q rest (Fr (l.set d (.slice (some ⟨g, 0, none⟩) 3 3)) ds) w') : wpList Tryz.prog ops Q (Oper.mk (some d) (.buildSlice 156 3 #[(0, x0), (1, x1), (2, x2)]) ty pos after none :: rest) (Fr l ds) w :=
  n_buildN (vs := #[(0, ev l x0), (1, ev l x1), (2, ev l x2)]) (base := #[.bool false, .string ⟨#[]⟩, .bool false, .string ⟨#[]⟩, .bool false, .string ⟨#[]⟩]) (c := 2) (z := (.agg #[.bool false, .string ⟨#[]⟩])) Tryz.underlying156 (by kernel_rfl) (by decide) (by decide) (by kernel_rfl) (by simp) (by simp [Instr.fill, h0, h1, h2]) h
end Go.Proofs.YtmcgcnpgkkfkoaaGreatDoor
namespace Go.Lith
open Go.RowKit
abbrev i64v (x : Nat) : Value := .int .i64 (x : Int)
structure DigAt (w : World) (b : Nat) (A : Option Addr) (n cap : Nat) (xs : List Nat) : Prop where
  eq : n = xs.length
  row : ∀ (i x : Nat), xs[i]? = some x → ∃ a, A = some a ∧ a.block < b ∧ w.cell? (a.add i) = some (.int .i64 (x : Int))
  le : xs.length ≤ cap
  cap : cap ≤ 9223372036854775807
  len : xs.length ≤ 17592186044416
  digs : Digs 65536 xs
structure Base (w : World) (b : Nat) : Prop where
  h : b ≤ w.heap.size
theorem Base.ext {w w' : World} {b : Nat} (h : Base w b) (hE : Ext w w') : Base w' b := ⟨Nat.le_trans h.h hE.size⟩
theorem Base.chg {w w' : World} {b g : Nat} (h : Base w b) (hC : Chg w w' g) (_ : True := trivial) : Base w' b := ⟨by rw [hC.size]; exact h.h⟩
theorem Base.grew {w w' : World} {b base : Nat} (h : Base w b) (hG : Grew w w' base) (_ : True := trivial) : Base w' b := ⟨Nat.le_trans h.h hG.size⟩
theorem Ext.base {w0 w : World} (h : Ext w0 w) : ∃ b, b = w.heap.size ∧ w0.heap.size ≤ b := ⟨_, rfl, h.size⟩
theorem Base.of {w0 w : World} {b : Nat} (_ : Ext w0 w) (e : b = w.heap.size) : Base w b := ⟨Nat.le_of_eq e⟩
theorem Owns.nil_of {w0 w : World} (_ : Ext w0 w) (base : Nat) (E : TypeId) (c : Nat) : Owns w base E c (.slice none 0 0) 0 [] := Owns.nil w base E c
theorem Blk.row0 {w : World} {g : Nat} {cs : List Value} {t : TypeId} (h : Blk w g cs t) : Row w ⟨g, 0, none⟩ cs := h.row 0
section
variable {w w' : World} {b : Nat} {A : Option Addr} {n cap : Nat} {xs : List Nat}
theorem DigAt.ext (h : DigAt w b A n cap xs) (hE : Ext w w') : DigAt w' b A n cap xs :=
  ⟨h.eq, fun i x hi => let ⟨a, e, hb, hc⟩ := h.row i x hi; ⟨a, e, hb, hE.cell hc⟩, h.le, h.cap, h.len, h.digs⟩
theorem DigAt.mono {b' : Nat} (h : DigAt w b A n cap xs) (hb : b ≤ b') : DigAt w b' A n cap xs :=
  ⟨h.eq, fun i x hi => let ⟨a, e, h1, hc⟩ := h.row i x hi; ⟨a, e, by omega, hc⟩, h.le, h.cap, h.len, h.digs⟩
theorem DigAt.here (h : DigAt w b A n cap xs) : DigAt w w.heap.size A n cap xs :=
  ⟨h.eq, fun i x hi => by
    obtain ⟨a, e, _, hc⟩ := h.row i x hi
    have := World.block_lt_of_cell? _ _ hc
    rw [add_block] at this
    exact ⟨a, e, this, hc⟩, h.le, h.cap, h.len, h.digs⟩
theorem DigAt.chg {g : Nat} (h : DigAt w b A n cap xs) (hC : Chg w w' g) (hb : b ≤ g) : DigAt w' b A n cap xs :=
  ⟨h.eq, fun i x hi => by
    obtain ⟨a, e, h1, hc⟩ := h.row i x hi
    exact ⟨a, e, h1, (hC.cell (by rw [add_block]; omega)).trans hc⟩, h.le, h.cap, h.len, h.digs⟩
theorem DigAt.grew {base : Nat} (h : DigAt w b A n cap xs) (hG : Grew w w' base) (hb : b ≤ base) : DigAt w' b A n cap xs :=
  ⟨h.eq, fun i x hi => by
    obtain ⟨a, e, h1, hc⟩ := h.row i x hi
    exact ⟨a, e, h1, (World.cell?_of_block (hG.block _ (by rw [add_block]; omega))).trans hc⟩, h.le, h.cap, h.len, h.digs⟩
theorem DigAt.take (h : DigAt w b A n cap xs) (k : Nat) : DigAt w b A (xs.take k).length cap (xs.take k) :=
  ⟨rfl, fun i x hi => h.row i x (by rw [List.getElem?_take] at hi; split at hi; exact hi; cases hi), Nat.le_trans (by simp; omega) h.le, h.cap, Nat.le_trans (by simp; omega) h.len, h.digs.take k⟩
theorem DigAt.as (h : DigAt w b A n cap xs) {ys : List Nat} (e : xs = ys) : DigAt w b A n cap ys := e ▸ h
theorem DigAt.get (h : DigAt w b A n cap xs) {i : Nat} (hi : i < xs.length) : ∃ a, A = some a ∧ w.cell? (a.add i) = some (.int .i64 ((xs[i] : Nat) : Int)) ∧ xs[i] < 65536 := by
  obtain ⟨a, e, _, hc⟩ := h.row i xs[i] (List.getElem?_eq_getElem hi)
  exact ⟨a, e, hc, h.digs _ (List.getElem_mem hi)⟩
theorem DigAt.at {a : Addr} (h : DigAt w b (some a) n cap xs) {i : Nat} (hi : i < xs.length) : w.cell? (a.add i) = some (.int .i64 ((xs[i] : Nat) : Int)) := by
  obtain ⟨a', e, hc, _⟩ := h.get hi
  cases e
  exact hc
theorem DigAt.lt (h : DigAt w b A n cap xs) {i : Nat} (hi : i < xs.length) : xs[i] < 65536 := h.digs _ (List.getElem_mem hi)
theorem DigAt.nil (w : World) (b : Nat) : DigAt w b none 0 0 [] := ⟨rfl, fun i x hi => by simp at hi, Nat.le_refl _, by omega, by simp, fun x hx => by cases hx⟩
theorem DigAt.of_blk {g : Nat} {os : List Nat} {t : TypeId} (h : Blk w g (os.map i64v) t) (hd : Digs 65536 os) (hn : n = os.length) (hl : n ≤ 17592186044416) : DigAt w w.heap.size (some ⟨g, 0, none⟩) n n os :=
  ⟨hn, fun i x hi => ⟨_, rfl, h.lt, by rw [addr_add_mk, Nat.zero_add]; exact h.cell (by simp [hi])⟩, by omega, by omega, by omega, hd⟩
theorem DigAt.of_owns {base : Nat} {v : Value} {E : TypeId} (h : Owns w base E 1 v n (xs.map i64v)) (hn : n = xs.length) (hd : Digs 65536 xs) (hl : n ≤ 17592186044416) : ∃ A c, v = .slice A n c ∧ DigAt w w.heap.size A n c xs ∧ ∀ a, A = some a → base ≤ a.block := by
  rcases h.row with ⟨rfl, rfl, hx⟩ | ⟨g, cap, rfl, hb, h1, h2, hg, hr⟩
  · obtain rfl : xs = [] := by simpa using hx
    exact ⟨none, 0, rfl, DigAt.nil _ _, fun _ e => by cases e⟩
  · exact ⟨_, cap, rfl, ⟨hn, fun i x hi => ⟨_, rfl, hg, hr i _ (by simp [hi])⟩, by omega, h2, by omega, hd⟩, fun a e => by cases e; exact hb⟩
theorem DigAt.rows (h : DigAt w b A n cap xs) : ∀ j u, (xs.map i64v)[j]? = some u → ∃ a, A = some a ∧ w.cell? (a.add j) = some u := fun j u hj => by
  rw [List.getElem?_map] at hj
  cases hx : xs[j]? with
  | none => rw [hx] at hj; cases hj
  | some x =>
    rw [hx] at hj
    cases hj
    obtain ⟨a, e, _, hc⟩ := h.row j x hx
    exact ⟨a, e, hc⟩
theorem Hold.dig {S : World → Prop} (h : DigAt w b A n cap xs) (k : Hold w S) : Hold w (fun w => DigAt w b A n cap xs ∧ S w) := ⟨h, k⟩
end
theorem Owns.snoc {w : World} {b : Nat} {E : TypeId} {v : Value} {os : List Nat} {x : Nat} (h : Owns w b E 1 v (os.length + 1) (os.map i64v ++ [.int .i64 (x : Int)])) : Owns w b E 1 v (os ++ [x]).length ((os ++ [x]).map i64v) := by simpa using h
def DigRes (n : Nat) (v : Value) (w : World) : Prop := ∃ A cap, v = .slice A (digs 65536 n).length cap ∧ DigAt w w.heap.size A (digs 65536 n).length cap (digs 65536 n)
structure DigX (w : World) (g : Nat) (A : Option Addr) (n cap : Nat) (xs : List Nat) : Prop where
  dig : DigAt w w.heap.size A n cap xs
  ne : ∀ a, A = some a → a.block ≠ g
theorem DigX.ext {w w' : World} {g n cap : Nat} {A : Option Addr} {xs : List Nat} (h : DigX w g A n cap xs) (hE : Ext w w') : DigX w' g A n cap xs := ⟨(h.dig.ext hE).here, h.ne⟩
theorem DigX.chg {w w' : World} {g g' n cap : Nat} {A : Option Addr} {xs : List Nat} (h : DigX w g A n cap xs) (hC : Chg w w' g') (e : g' = g) : DigX w' g A n cap xs := by
  subst e
  refine ⟨⟨h.dig.eq, fun i x hi => ?_, h.dig.le, h.dig.cap, h.dig.len, h.dig.digs⟩, h.ne⟩
  obtain ⟨a, ea, hb, hc⟩ := h.dig.row i x hi
  exact ⟨a, ea, by rw [hC.size]; exact hb, (hC.cell (by rw [add_block]; exact h.ne a ea)).trans hc⟩
theorem DigX.of_trim {w : World} {b g n cap : Nat} {A : Option Addr} {xs ys : List Nat} (h : DigAt w b A n cap xs) (e : trim xs = ys) (hne : ∀ a, A = some a → a.block ≠ g) : DigX w g A ys.length cap ys := by
  refine ⟨?_, hne⟩
  have := (h.take (trim xs).length).here
  rw [← trim_eq_take, e] at this
  exact this
theorem over_round {qs xs : List Nat} {k Y R low R1 : Nat} (hk : 0 < k) (hkl : k ≤ xs.length) (hlo : qs.length = xs.length) (hv : val 65536 (xs.drop k) = Y * val 65536 (qs.drop k) + R) (hR1 : R1 = xs[k - 1] + 65536 * R) (h1 : low * Y ≤ R1) (hd : Digs 65536 qs) (h16 : low < 65536) :
    val 65536 (xs.drop (k - 1)) = Y * val 65536 ((qs.set (k - 1) low).drop (k - 1)) + (R1 - Y * low) ∧ Digs 65536 (qs.set (k - 1) low) := by
  refine ⟨?_, hd.set h16⟩
  rw [val_drop_pred hk (by omega), val_drop_pred (xs := qs.set (k - 1) low) hk (by simp; omega), List.getElem_set_self, hv]
  have e : (qs.set (k - 1) low).drop k = qs.drop k := drop_set_ge (by omega)
  rw [e]
  generalize val 65536 (qs.drop k) = q at *
  generalize xs[k - 1] = x at *
  have h2 : Y * low = low * Y := Nat.mul_comm _ _
  obtain ⟨z, hz⟩ := Nat.exists_eq_add_of_le h1
  rw [h2, show R1 - low * Y = z by omega]
  have : Y * (low + 65536 * q) = low * Y + 65536 * (Y * q) := by grind
  omega
theorem over_less {Y R1 low high : Nat} (h0 : 0 < Y) (hh : R1 < high * Y) (hl : ¬ ((1 : Int) < (high : Int) - (low : Int))) : R1 - Y * low < Y := by
  have h1 : high ≤ low + 1 := by omega
  have h2 : high * Y ≤ (low + 1) * Y := Nat.mul_le_mul_right _ h1
  rw [Nat.add_mul, Nat.one_mul, Nat.mul_comm low Y] at h2
  omega
theorem ord_le_iff {a b : Nat} : ord a b ≤ 0 ↔ a ≤ b := by
  unfold ord
  split
  · omega
  · split <;> omega
def DigVal (n k : Nat) (v : Value) (w : World) : Prop := ∃ A cap os, v = .slice A os.length cap ∧ DigAt w w.heap.size A os.length cap os ∧ val 65536 os = n ∧ os.length ≤ k
theorem DigRes.of_trim {w : World} {b : Nat} {A : Option Addr} {xs : List Nat} {k cap n : Nat} (h : DigAt w b A k cap xs) (hv : val 65536 xs = n) : DigRes n (.slice A (trim xs).length cap) w := by
  have e : trim xs = digs 65536 n := trim_eq_digs (by omega) h.digs hv
  refine ⟨A, cap, by rw [e], ?_⟩
  rw [← e]
  have := (h.take (trim xs).length).here
  rwa [← trim_eq_take] at this
theorem DigRes.self {w : World} {b : Nat} {A : Option Addr} {xs : List Nat} {k cap : Nat} (h : DigAt w b A k cap xs) (t : Trimmed xs) : DigRes (val 65536 xs) (.slice A k cap) w := by
  have e : xs = digs 65536 (val 65536 xs) := by rw [← trim_eq_digs (by omega) h.digs rfl, t]
  refine ⟨A, cap, by rw [h.eq, ← e], ?_⟩
  rw [← e, ← h.eq]
  exact h.here
theorem replicate_i64 (n : Nat) : List.replicate n (Value.int .i64 0) = (List.replicate n 0).map i64v := by simp [i64v]
theorem over_set_i64 {os : List Nat} {i d : Nat} (hi : i < os.length) : over (os.map i64v) i [i64v d] = (os.set i d).map i64v := by
  simp only [over, List.length_singleton]
  apply List.ext_getElem?
  intro j
  rcases Nat.lt_trichotomy j i with h | h | h
  · rw [List.getElem?_append_left (by simp; omega), List.getElem?_append_left (by simp; omega)]
    simp [h, List.getElem?_set_ne (Nat.ne_of_gt h)]
  · subst h
    rw [List.getElem?_append_left (by simp; omega), List.getElem?_append_right (by simp; omega)]
    have e : j - min j os.length = 0 := by omega
    simp [hi, e]
  · rw [List.getElem?_append_right (by simp; omega)]
    simp only [List.length_append, List.length_take, List.length_map, List.length_singleton, List.getElem?_drop, List.getElem?_map]
    rw [List.getElem?_set_ne (by omega)]
    congr 2
    omega
theorem Blk.digit {w : World} {g : Nat} {os : List Nat} {t : TypeId} (h : Blk w g (os.map i64v) t) {i : Nat} (hi : i < os.length) : w.cell? ⟨g, i, none⟩ = some (.int .i64 ((os[i] : Nat) : Int)) :=
  h.cell (by simp [hi])
theorem val_digs16 (n : Nat) : val 65536 (digs 65536 n) = n := val_digs (by omega) n
theorem trimmed_digs16 (n : Nat) : Trimmed (digs 65536 n) := trimmed_digs (by omega) n
theorem digs_digs16 (n : Nat) : Digs 65536 (digs 65536 n) := digs_digs (by omega) n
theorem lt_len16 {m n : Nat} (h : m ≤ n) : (digs 65536 m).length ≤ (digs 65536 n).length := by
  refine length_digs_le (by omega) (Nat.lt_of_le_of_lt h ?_)
  have := val_lt (digs_digs16 n)
  rwa [val_digs16] at this
theorem len_bd16 {k : Nat} {V : Nat} (h : V < 2 ^ k) : (digs 65536 V).length ≤ k := by
  refine length_digs_le (by omega) (Nat.lt_of_lt_of_le h ?_)
  rw [show (65536 : Nat) = 2 ^ 16 from rfl, ← Nat.pow_mul]
  exact Nat.pow_le_pow_right (by omega) (by omega)
theorem quo_i64' {m n : Nat} (h : m < 9223372036854775808) : IntKind.i64.wrap ((m : Int).tdiv (n : Int)) = ((m / n : Nat) : Int) := quo_i64 h
theorem Owns.grew {w w' : World} {base b' : Nat} {E : TypeId} {c n : Nat} {v : Value} {xs : List Value} (h : Owns w base E c v n xs) (hG : Grew w w' b') (hb : ∀ a m k, v = .slice (some a) m k → a.block < b') : Owns w' base E c v n xs := by
  refine ⟨h.1, ?_⟩
  rcases h.2 with h | ⟨g, cap, cur, rfl, hbg, hg, h1, h2, h3, h4⟩
  · exact .inl h
  · exact .inr ⟨g, cap, cur, rfl, hbg, (hG.block g (hb _ _ _ rfl)).trans hg, h1, h2, h3, h4⟩
section
variable {P : Program} {ds : List Deferred} {l : List Value} {T ty : TypeId}
variable {ops : Array Oper} {Q : Exit → Act → World → Prop} {rest : List Oper} {d : Nat} {pos : String} {after : Array Edge} {w : World}
theorem n_appendS {s0 x0 : Operand} {base c b nn mm cap : Nat} {E : TypeId} {z v : Value} {xs : List Value} {A : Option Addr} {a0 : Array TypeId} (ha : a0 = #[T, T]) (hu : P.underlying T = some (.slice E)) (hi : (P.info? E).map (fun i => (i.size, i.bytes, i.zero)) = some (c, b, some z)) (hz : z.cells.size = c) (hc : 0 < c)
    (hs : ev l s0 = v) (hown : Owns w base E c v nn xs) (hx : ev l x0 = .slice A mm cap) {news : List Value} (hl : news.length = mm * c) (hrow : ∀ j u, news[j]? = some u → ∃ a, A = some a ∧ w.cell? (a.add j) = some u) (h1 : ∀ u ∈ news, u.oneCell' = true) (h63 : nn + mm ≤ 9223372036854775807) (hbytes : (nn + mm) * b ≤ 140737488355328) (hbase : base ≤ w.heap.size)
    (h : ∀ v' w', Owns w' base E c v' (nn + mm) (xs ++ news) → Grew w w' base → True → wpList P ops Q rest (Fr (l.set d v') ds) w') :
    wpList P ops Q (Oper.mk (some d) (.call { callee := .builtin .append, args := #[s0, x0], argTypes := a0 }) ty pos after none :: rest) (Fr l ds) w := by
  cases A with
  | none =>
    obtain rfl : news = [] := by
      cases news with
      | nil => rfl
      | cons u us => obtain ⟨a, e, _⟩ := hrow 0 u rfl; cases e
    have hm : mm = 0 := by
      rcases Nat.eq_zero_or_pos mm with h0 | h0
      · exact h0
      · have := Nat.mul_pos h0 hc; simp at hl; omega
    subst hm
    exact n_append0 ha hu hi hs hown hx (h _ _ (by simpa using hown) (Grew.refl _ _) trivial)
  | some a =>
    refine n_append ha hu hi hz hc hs hown hx hl (fun j u hj => ?_) h1 h63 hbytes hbase (fun v' w' h2 h3 _ => h v' w' h2 h3 trivial)
    obtain ⟨a', e, hc'⟩ := hrow j u hj
    cases e
    exact hc'
end
theorem plus_round {os xs ys : List Nat} {i c s : Nat} (hl : os.length = i) (hv : val 65536 os + 65536 ^ i * c = val 65536 (xs.take i) + val 65536 (ys.take i)) (hd : Digs 65536 os)
    (hs : s = c + xs[i]?.getD 0 + ys[i]?.getD 0) :
    val 65536 (os ++ [s % 65536]) + 65536 ^ (i + 1) * (s / 65536) = val 65536 (xs.take (i + 1)) + val 65536 (ys.take (i + 1)) ∧ Digs 65536 (os ++ [s % 65536]) := by
  refine ⟨?_, hd.append (digs_cons (Nat.mod_lt _ (by omega)) (digs_nil _))⟩
  have ht : ∀ l : List Nat, val 65536 (l.take (i + 1)) = val 65536 (l.take i) + 65536 ^ i * l[i]?.getD 0 := fun l => by
    rcases Nat.lt_or_ge i l.length with h | h
    · rw [val_take_succ h, List.getElem?_eq_getElem h]; rfl
    · rw [List.take_of_length_le (by omega), List.take_of_length_le h, List.getElem?_eq_none h]; simp
  rw [ht xs, ht ys, val_append, hl]
  simp only [val, Nat.mul_zero, Nat.add_zero]
  have e : s = s % 65536 + 65536 * (s / 65536) := by omega
  rw [Nat.pow_succ]
  generalize s / 65536 = q at *
  generalize s % 65536 = r at *
  generalize 65536 ^ i = p at *
  generalize xs[i]?.getD 0 = x at *
  generalize ys[i]?.getD 0 = y at *
  subst hs
  have e2 : p * (c + x + y) = p * r + p * 65536 * q := by rw [e]; grind
  grind
theorem minus_round {os xs ys : List Nat} {i c s b : Nat} (hi : i < xs.length) (hl : os.length = i) (hv : val 65536 os + val 65536 (ys.take i) = val 65536 (xs.take i) + 65536 ^ i * c) (hd : Digs 65536 os)
    (hs : s + ys[i]?.getD 0 + c = xs[i] + 65536 * b) (h16 : s < 65536) :
    val 65536 (os ++ [s]) + val 65536 (ys.take (i + 1)) = val 65536 (xs.take (i + 1)) + 65536 ^ (i + 1) * b ∧ Digs 65536 (os ++ [s]) := by
  refine ⟨?_, hd.append (digs_cons h16 (digs_nil _))⟩
  have ht : val 65536 (ys.take (i + 1)) = val 65536 (ys.take i) + 65536 ^ i * ys[i]?.getD 0 := by
    rcases Nat.lt_or_ge i ys.length with h | h
    · rw [val_take_succ h, List.getElem?_eq_getElem h]; rfl
    · rw [List.take_of_length_le (by omega), List.take_of_length_le h, List.getElem?_eq_none h]; simp
  rw [ht, val_take_succ hi, val_append, hl]
  simp only [val, Nat.mul_zero, Nat.add_zero]
  rw [Nat.pow_succ]
  generalize 65536 ^ i = p at *
  generalize ys[i]?.getD 0 = y at *
  generalize xs[i] = x at *
  have e2 : p * (s + y + c) = p * x + p * 65536 * b := by rw [hs]; grind
  grind
theorem minus_end {os xs ys : List Nat} {c : Nat} (hle : ys.length ≤ xs.length) (hl : os.length = xs.length) (hd : Digs 65536 os) (hv : val 65536 os + val 65536 (ys.take xs.length) = val 65536 (xs.take xs.length) + 65536 ^ xs.length * c) (hge : val 65536 ys ≤ val 65536 xs) : val 65536 os = val 65536 xs - val 65536 ys := by
  rw [List.take_length, List.take_of_length_le hle] at hv
  have h1 := val_lt hd
  rw [hl] at h1
  rcases Nat.eq_zero_or_pos c with h | h
  · subst h; omega
  · have : 65536 ^ xs.length * 1 ≤ 65536 ^ xs.length * c := Nat.mul_le_mul_left _ h
    omega
theorem sum_step16 {os : List Nat} {i d c c' s t T : Nat} (hi : i < os.length) (hs : os[i] + s + c = d + 65536 * c') (hT : val 65536 os + 65536 ^ i * c = T) (ht : T + 65536 ^ i * s = t) :
    val 65536 (os.set i d) + 65536 ^ (i + 1) * c' = t := by
  have h := val_set (B := 65536) (d := d) hi
  rw [Nat.pow_succ]
  generalize 65536 ^ i = p at *
  have e : p * (os[i] + s + c) = p * d + p * 65536 * c' := by rw [hs]; grind
  grind
theorem times_round {os xs ys : List Nat} {i k c s : Nat} (hi : i < xs.length) (hk : k < ys.length) (hlo : os.length = xs.length + ys.length) (hv : val 65536 os + 65536 ^ (i + k) * c = val 65536 (xs.take i) * val 65536 ys + 65536 ^ i * (xs[i] * val 65536 (ys.take k)))
    (hs : s = os[i + k] + xs[i] * ys[k] + c) : val 65536 (os.set (i + k) (s % 65536)) + 65536 ^ (i + (k + 1)) * (s / 65536) = val 65536 (xs.take i) * val 65536 ys + 65536 ^ i * (xs[i] * val 65536 (ys.take (k + 1))) := by
  refine sum_step16 (s := xs[i] * ys[k]) (i := i + k) (by omega) (by omega) hv ?_
  rw [val_take_succ hk, Nat.pow_add]
  grind
theorem times_end {os xs ys : List Nat} {i c : Nat} (hi : i < xs.length) (hlo : os.length = xs.length + ys.length) (hv : val 65536 os + 65536 ^ (i + ys.length) * c = val 65536 (xs.take i) * val 65536 ys + 65536 ^ i * (xs[i] * val 65536 (ys.take ys.length))) (hz : os.drop (i + ys.length) = List.replicate (xs.length - i) 0) :
    val 65536 (os.set (i + ys.length) c) = val 65536 (xs.take (i + 1)) * val 65536 ys ∧ (os.set (i + ys.length) c).drop (i + 1 + ys.length) = List.replicate (xs.length - (i + 1)) 0 := by
  obtain ⟨z1, z2⟩ := drop_zero_get hz (by omega)
  have h := val_set (B := 65536) (d := c) (show i + ys.length < os.length by omega)
  rw [z1] at h
  rw [List.take_length] at hv
  refine ⟨?_, ?_⟩
  · rw [val_take_succ hi]
    grind
  · rw [show i + 1 + ys.length = i + ys.length + 1 by omega, drop_set_succ, z2]
    congr 1
theorem mul_lt16 {x y : Nat} (hx : x < 65536) (hy : y < 65536) : x * y ≤ 4294836225 := by
  have := Nat.mul_le_mul (Nat.le_sub_one_of_lt hx) (Nat.le_sub_one_of_lt hy)
  omega
theorem mul_lt16I {x y : Nat} (hx : x < 65536) (hy : y < 65536) : (0 : Int) ≤ (x : Int) * (y : Int) ∧ (x : Int) * (y : Int) ≤ 4294836225 := by
  have := mul_lt16 hx hy
  rw [← Int.natCast_mul]
  omega
theorem cmp_lt16 {xs ys : List Nat} {k : Nat} (hx : Digs 65536 xs) (hk : 0 < k) (hlx : k - 1 < xs.length) (hly : k - 1 < ys.length) (hd : xs.drop k = ys.drop k) (h : ((xs[k-1] : Nat) : Int) < ((ys[k-1] : Nat) : Int)) : val 65536 xs < val 65536 ys :=
  val_lt_of_top (by omega) hx hlx hly (by rw [show k - 1 + 1 = k by omega]; exact hd) (by omega)
theorem cmp_same {xs ys : List Nat} {k : Nat} (hk : 0 < k) (hlx : k - 1 < xs.length) (hly : k - 1 < ys.length) (hd : xs.drop k = ys.drop k) (h1 : ((xs[k-1] : Nat) : Int) = ((ys[k-1] : Nat) : Int)) : xs.drop (k - 1) = ys.drop (k - 1) := by
  rw [List.drop_eq_getElem_cons hlx, List.drop_eq_getElem_cons hly, show k - 1 + 1 = k by omega, hd, show xs[k-1] = ys[k-1] by omega]
end Go.Lith
namespace Go.Proofs.YtmcgcnpgkkfkoaaGreatDoor
open Go.RowKit Go.Lith
set_option maxRecDepth 100000
attribute [local irreducible] wpList wpQuiet wpMix Code.wp
set_option maxHeartbeats 400000 in
theorem trim_c {A : Option Addr} {xs : List Nat} {b na cap : Nat} (w : World) (hS : DigAt w b A na cap xs) : Does Tryz.prog 111 [.slice A na cap] w (fun v _ => v = .slice A (trim xs).length cap) := by
 skip
 refine ⟨en_111, ?_⟩
 have hX := Ext.refl w
 obtain rfl := hS.eq
 have hl := hS.len
 have hle := hS.le
 have hcp := hS.cap
 go_enter Tryz.func111, Tryz.ntmps111
 refine c_seq (fun K1 hK1 => wp_region_lit (n_val (r_assign) ?_))
 simp only [ev,zD,zE,zF,zG]
 refine n_nil ?_
 refine hK1 _ _ ?_
 refine c_seq (fun K2 hK2 => wp_block ?_)
 refine c_loopg [0] [3, 4, 5, 6, 7, 8, 9, 10, 11, 12, 13, 14, 15, 16, 17, 18, 19] (fun n vs wl => ∃ (k : Nat), vs = [.slice A k cap] ∧ (Ext w wl) ∧ (k ≤ xs.length) ∧ (trim (xs.take k) = trim xs) ∧ (n = k)) ?_ ?_
 ·
  apply Exists.intro
  simp only [zQ,zR,zD,zE]
  exact ⟨xs.length, rfl, hX, Nat.le_refl _, by rw [List.take_length], rfl⟩
 ·
  intro n vs wr hI u
  obtain ⟨k, rfl, hX, hk, ht, hn⟩ := hI
  simp only [setG_cons,setG_nil,setMany_cons,setMany_nil,zF,zG]
  refine c_seq (fun K3 hK3 => c_seq (fun K4 hK4 => ?_))
  by_cases hk0 : 0 < k
  ·
   obtain ⟨a, rfl, hcell, hlt⟩ := (hS.ext hX).get (show k - 1 < xs.length by omega)
   refine wp_region_lit (n_val (r_move) (n_val (r_lenS rfl Tryz.underlying22 rfl) (n_val (r_gtrT rfl rfl (by omega)) ?_)))
   simp only [ev,zD,zE,zF,zG]
   refine n_val (r_move) ?_
   simp only [ev,zD,zE,zF,zG]
   refine n_want rfl (n_val (r_move) ?_)
   simp only [ev,zD,zE,zF,zG]
   refine n_want rfl (n_val (r_move) ?_)
   simp only [ev,zD,zE,zF,zG]
   refine n_want rfl (n_val (r_lenS rfl Tryz.underlying22 rfl) ?_)
   simp only [ev,zD,zE,zF,zG]
   refine n_want rfl (n_val (r_sub rfl rfl (wrap_i64 (by omega) (by omega))) ?_)
   simp only [ev,zD,zE,zF,zG]
   refine n_want rfl (n_val (r_indexAddrS Tryz.underlying22 cells_3 rfl rfl (by omega) (by omega) (addr1 (show _ = k - 1 by omega))) ?_)
   simp only [ev,zD,zE,zF,zG]
   refine n_want rfl ?_
   refine n_load rfl (lies1 hcell agg_3) ?_
   simp only [ev,zD,zE,zF,zG]
   refine n_want rfl (n_val (r_eql rfl rfl) (n_val (r_pickT rfl) ?_))
   simp only [ev,zD,zE,zF,zG]
   refine n_nil ?_
   refine hK4 _ _ ?_
   refine c_if rfl (fun hc1 => ?_) (fun hc1 => ?_)
   ·
    refine wp_skip ?_
    refine hK3 _ _ ?_
    refine wp_block (wp_region_lit (n_val (r_move) (n_val (r_move) (n_val (r_lenS rfl Tryz.underlying22 rfl) ?_))))
    simp only [ev,zD,zE,zF,zG]
    refine n_val (r_sub rfl rfl (wrap_i64 (by omega) (by omega))) (n_val (r_sliceHi Tryz.underlying22 cells_3 rfl rfl (show _ = k - 1 by omega) (by omega) (by omega)) (n_val (r_assign) ?_))
    simp only [ev,zD,zE,zF,zG]
    refine n_nil ?_
    simp only [Exit.inBlock,Exit.then]
    refine ⟨k - 1, _, ?_, rfl, ?_, ?_⟩
    · omega
    · simp only [zQ,zR,zD,zE,setG_cons,setG_nil,setMany_cons,setMany_nil,zF,zG]
    ·
     simp only [zQ,zR,zD,zE]
     exact ⟨k - 1, rfl, hX, by omega, norm_zero hk0 (by omega) hc1 ht, rfl⟩
   ·
    refine wp_exit ?_
    refine hK2 _ _ ?_
    refine c_seq (fun K5 hK5 => wp_region_lit (n_val (r_move) (n_val (r_assign) ?_)))
    simp only [ev,zD,zE,zF,zG]
    refine n_nil ?_
    refine hK5 _ _ ?_
    refine wp_ret ?_
    try simp only [Exit.inBlock,Exit.then]
    refine fin1 rfl rfl ?_
    try simp only [zD,zE]
    exact ⟨_, rfl, hX, by rw [← norm_pos hk0 (by omega) hc1 ht]⟩
  ·
   obtain rfl : k = 0 := by omega
   refine wp_region_lit (n_val (r_move) (n_val (r_lenS rfl Tryz.underlying22 rfl) (n_val (r_gtrF rfl rfl (by omega)) ?_)))
   simp only [ev,zD,zE,zF,zG]
   refine n_val (r_move) ?_
   simp only [ev,zD,zE,zF,zG]
   refine n_skipT rfl ?_
   simp only [ev,zD,zE,zF,zG]
   refine n_skipT rfl ?_
   simp only [ev,zD,zE,zF,zG]
   refine n_skipT rfl ?_
   simp only [ev,zD,zE,zF,zG]
   refine n_skipT rfl ?_
   simp only [ev,zD,zE,zF,zG]
   refine n_skipT rfl ?_
   simp only [ev,zD,zE,zF,zG]
   refine n_skipT rfl ?_
   simp only [ev,zD,zE,zF,zG]
   refine n_skipT rfl ?_
   simp only [ev,zD,zE,zF,zG]
   refine n_val (r_pickF rfl) ?_
   simp only [ev,zD,zE,zF,zG]
   refine n_nil ?_
   refine hK4 _ _ ?_
   refine c_no rfl (wp_exit ?_)
   refine hK2 _ _ ?_
   refine c_seq (fun K6 hK6 => wp_region_lit (n_val (r_move) (n_val (r_assign) ?_)))
   simp only [ev,zD,zE,zF,zG]
   refine n_nil ?_
   refine hK6 _ _ ?_
   refine wp_ret ?_
   try simp only [Exit.inBlock,Exit.then]
   refine fin1 rfl rfl ?_
   try simp only [zD,zE]
   exact ⟨_, rfl, hX, by rw [← norm_nil ht]⟩

set_option maxHeartbeats 400000 in
theorem compare_c {A B : Option Addr} {xs ys : List Nat} {b b2 na nb ca cb : Nat} (w : World) (hS : DigAt w b A na ca xs) (hR : DigAt w b2 B nb cb ys) (tx : Trimmed xs) (ty : Trimmed ys) : Does Tryz.prog 112 [.slice A na ca, .slice B nb cb] w (fun v _ => v = .int .i64 (ord (val 65536 xs) (val 65536 ys))) := by
 skip
 refine ⟨en_112, ?_⟩
 have hX := Ext.refl w
 obtain rfl := hS.eq
 obtain rfl := hR.eq
 have hl := hS.len
 have hl2 := hR.len
 go_enter Tryz.func112, Tryz.ntmps112
 refine c_seq (fun K1 hK1 => wp_region_lit (n_val (r_assign) ?_))
 simp only [ev,zD,zE,zF,zG]
 refine n_nil ?_
 refine hK1 _ _ ?_
 refine c_seq (fun K2 hK2 => c_seq (fun K3 hK3 => wp_region_lit (n_val (r_move) (n_val (r_lenS rfl Tryz.underlying22 rfl) (n_val (r_move) ?_)))))
 simp only [ev,zD,zE,zF,zG]
 refine n_val (r_lenS rfl Tryz.underlying22 rfl) (n_val (r_neq rfl rfl) ?_)
 simp only [ev,zD,zE,zF,zG]
 refine n_nil ?_
 refine hK3 _ _ ?_
 refine c_if rfl (fun hc1 => ?_) (fun hc1 => ?_)
 ·
  refine c_seq (fun K4 hK4 => c_seq (fun K5 hK5 => wp_region_lit (n_val (r_move) (n_val (r_lenS rfl Tryz.underlying22 rfl) (n_val (r_move) ?_)))))
  simp only [ev,zD,zE,zF,zG]
  refine n_val (r_lenS rfl Tryz.underlying22 rfl) (n_val (r_lss rfl rfl) ?_)
  simp only [ev,zD,zE,zF,zG]
  refine n_nil ?_
  refine hK5 _ _ ?_
  refine c_if rfl (fun hc2 => ?_) (fun hc2 => ?_)
  ·
   refine c_seq (fun K6 hK6 => wp_region_lit (n_val (r_assign) ?_))
   simp only [ev,zD,zE,zF,zG]
   refine n_nil ?_
   refine hK6 _ _ ?_
   refine wp_ret ?_
   try simp only [Exit.inBlock,Exit.then]
   refine fin1 rfl rfl ?_
   try simp only [zD,zE]
   exact ⟨_, rfl, hX, by rw [ord, if_pos (val_lt_of_length (by omega) hS.digs hR.digs ty (by omega))]⟩
  ·
   refine wp_skip ?_
   refine hK4 _ _ ?_
   refine c_seq (fun K7 hK7 => wp_region_lit (n_val (r_assign) ?_))
   simp only [ev,zD,zE,zF,zG]
   refine n_nil ?_
   refine hK7 _ _ ?_
   refine wp_ret ?_
   try simp only [Exit.inBlock,Exit.then]
   refine fin1 rfl rfl ?_
   try simp only [zD,zE]
   exact ⟨_, rfl, hX, by have := val_lt_of_length (B := 65536) (by omega) hR.digs hS.digs tx (by omega); rw [ord, if_neg (by omega), if_pos this]⟩
 ·
  refine wp_skip ?_
  refine hK2 _ _ ?_
  refine c_seq (fun K8 hK8 => c_seq (fun K9 hK9 => wp_region_lit (n_val (r_move) (n_val (r_lenS rfl Tryz.underlying22 rfl) (n_val (r_sub rfl rfl (wrap_i64 (by omega) (by omega))) ?_)))))
  simp only [ev,zD,zE,zF,zG]
  refine n_val (r_assign) ?_
  simp only [ev,zD,zE,zF,zG]
  refine n_nil ?_
  refine hK9 _ _ ?_
  refine wp_block ?_
  refine c_loopg [5] [4, 19, 20, 21, 22, 23, 24, 25, 26, 27, 28, 29, 30, 31, 32, 33, 34, 35, 36, 37, 38, 39, 40] (fun n vs wl => ∃ (k : Nat), vs = [.int .i64 ((k:Int) - 1)] ∧ (Ext w wl) ∧ (k ≤ xs.length) ∧ (xs.drop k = ys.drop k) ∧ (n = k)) ?_ ?_
  ·
   apply Exists.intro
   simp only [zQ,zR,zD,zE]
   exact ⟨xs.length, rfl, hX, Nat.le_refl _, by rw [List.drop_length, show xs.length = ys.length by omega, List.drop_length], rfl⟩
  ·
   intro n vs wr hI u
   obtain ⟨k, rfl, hX, hk, hd, hn⟩ := hI
   simp only [setG_cons,setG_nil,setMany_cons,setMany_nil,zF,zG]
   refine c_seq (fun K10 hK10 => c_seq (fun K11 hK11 => wp_region_lit (n_val (r_move) (n_val (r_geq rfl rfl) ?_))))
   simp only [ev,zD,zE,zF,zG]
   refine n_nil ?_
   refine hK11 _ _ ?_
   refine c_if rfl (fun hc3 => ?_) (fun hc3 => ?_)
   ·
    refine wp_skip ?_
    refine hK10 _ _ ?_
    refine c_seq (fun K12 hK12 => wp_block (c_seq (fun K13 hK13 => ?_)))
    obtain ⟨a, rfl, hca, _⟩ := (hS.ext hX).get (show k - 1 < xs.length by omega)
    obtain ⟨b, rfl, hcb, _⟩ := (hR.ext hX).get (show k - 1 < ys.length by omega)
    refine wp_region_ext follows_mixed (by kernel_rfl) (q_val (r_move) (q_val (r_move) (q_val (r_indexAddrS Tryz.underlying22 cells_3 rfl rfl (by omega) (by omega) (addr1 (show _ = k - 1 by omega))) ?_)))
    simp only [ev,zD,zE,zF,zG]
    refine q_load rfl (fun _ hE' => (lies1 (hE'.cell hca) agg_3)) ?_
    simp only [ev,zD,zE,zF,zG]
    refine q_val (r_move) (q_val (r_move) (q_val (r_indexAddrS Tryz.underlying22 cells_3 rfl rfl (by omega) (by omega) (addr1 (show _ = k - 1 by omega))) ?_))
    simp only [ev,zD,zE,zF,zG]
    refine q_load rfl (fun _ hE' => (lies1 (hE'.cell hcb) agg_3)) ?_
    simp only [ev,zD,zE,zF,zG]
    refine q_val (r_neq rfl rfl) ?_
    simp only [ev,zD,zE,zF,zG]
    refine q_nil ?_
    intro w1 hE
    replace hX := hX.trans hE
    clear hE
    refine hK13 _ _ ?_
    refine c_if rfl (fun hc4 => ?_) (fun hc4 => ?_)
    ·
     refine c_seq (fun K14 hK14 => c_seq (fun K15 hK15 => ?_))
     have hca := (hS.ext hX).at (show k - 1 < xs.length by omega)
     have hcb := (hR.ext hX).at (show k - 1 < ys.length by omega)
     refine wp_region_ext follows_mixed (by kernel_rfl) (q_val (r_move) (q_val (r_move) (q_val (r_indexAddrS Tryz.underlying22 cells_3 rfl rfl (by omega) (by omega) (addr1 (show _ = k - 1 by omega))) ?_)))
     simp only [ev,zD,zE,zF,zG]
     refine q_load rfl (fun _ hE' => (lies1 (hE'.cell hca) agg_3)) ?_
     simp only [ev,zD,zE,zF,zG]
     refine q_val (r_move) (q_val (r_move) (q_val (r_indexAddrS Tryz.underlying22 cells_3 rfl rfl (by omega) (by omega) (addr1 (show _ = k - 1 by omega))) ?_))
     simp only [ev,zD,zE,zF,zG]
     refine q_load rfl (fun _ hE' => (lies1 (hE'.cell hcb) agg_3)) ?_
     simp only [ev,zD,zE,zF,zG]
     refine q_val (r_lss rfl rfl) ?_
     simp only [ev,zD,zE,zF,zG]
     refine q_nil ?_
     intro w2 hE
     replace hX := hX.trans hE
     clear hE
     refine hK15 _ _ ?_
     refine c_if rfl (fun hc5 => ?_) (fun hc5 => ?_)
     ·
      refine c_seq (fun K16 hK16 => wp_region_lit (n_val (r_assign) ?_))
      simp only [ev,zD,zE,zF,zG]
      refine n_nil ?_
      refine hK16 _ _ ?_
      refine wp_ret ?_
      try simp only [Exit.inBlock,Exit.then]
      refine fin1 rfl rfl ?_
      try simp only [zD,zE]
      exact ⟨_, rfl, hX, by rw [ord, if_pos (cmp_lt16 hS.digs (by omega) (by omega) (by omega) hd hc5)]⟩
     ·
      refine wp_skip ?_
      refine hK14 _ _ ?_
      refine c_seq (fun K17 hK17 => wp_region_lit (n_val (r_assign) ?_))
      simp only [ev,zD,zE,zF,zG]
      refine n_nil ?_
      refine hK17 _ _ ?_
      refine wp_ret ?_
      try simp only [Exit.inBlock,Exit.then]
      refine fin1 rfl rfl ?_
      try simp only [zD,zE]
      exact ⟨_, rfl, hX, by have := cmp_lt16 hR.digs (by omega) (by omega) (by omega) hd.symm (by omega); rw [ord, if_neg (by omega), if_pos this]⟩
    ·
     refine wp_skip ?_
     refine hK12 _ _ ?_
     refine wp_region_lit (n_val (r_move) (n_val (r_sub rfl rfl (wrap_i64 (by omega) (by omega))) (n_val (r_assign) ?_)))
     simp only [ev,zD,zE,zF,zG]
     refine n_nil ?_
     rw [show ((k:Int) - 1 - 1) = ((k - 1 : Nat) : Int) - 1 by omega]
     simp only [Exit.inBlock,Exit.then]
     refine ⟨k - 1, _, ?_, rfl, ?_, ?_⟩
     · omega
     · simp only [zQ,zR,zD,zE,setG_cons,setG_nil,setMany_cons,setMany_nil,zF,zG]
     ·
      simp only [zQ,zR,zD,zE]
      exact ⟨k - 1, rfl, hX, by omega, cmp_same (by omega) (by omega) (by omega) hd (by omega), rfl⟩
   ·
    refine wp_exit ?_
    refine hK8 _ _ ?_
    refine c_seq (fun K18 hK18 => wp_region_lit (n_val (r_assign) ?_))
    simp only [ev,zD,zE,zF,zG]
    refine n_nil ?_
    refine hK18 _ _ ?_
    refine wp_ret ?_
    try simp only [Exit.inBlock,Exit.then]
    refine fin1 rfl rfl ?_
    try simp only [zD,zE]
    exact ⟨_, rfl, hX, by have h0 : k = 0 := (by omega); subst h0; simp only [List.drop_zero] at hd; rw [hd, ord, if_neg (by omega), if_neg (by omega)]⟩

set_option maxHeartbeats 400000 in
theorem plus_c {A B : Option Addr} {xs ys : List Nat} {na nb ca cb : Nat} (w : World) (hS : DigAt w w.heap.size A na ca xs) (hR : DigAt w w.heap.size B nb cb ys) (hlx : xs.length ≤ 1000000000000) (hly : ys.length ≤ 1000000000000) : Does Tryz.prog 113 [.slice A na ca, .slice B nb cb] w (DigVal (val 65536 xs + val 65536 ys) (max xs.length ys.length + 1)) := by
 skip
 refine ⟨en_113, ?_⟩
 have hX := Ext.refl w
 obtain rfl := hS.eq
 obtain rfl := hR.eq
 obtain ⟨M, hM⟩ : ∃ M, M = max xs.length ys.length := ⟨_, rfl⟩
 rw [← hM]
 go_enter Tryz.func113, Tryz.ntmps113
 refine c_seq (fun K1 hK1 => wp_region_lit (n_val (r_assign) ?_))
 simp only [ev,zD,zE,zF,zG]
 refine n_nil ?_
 refine hK1 _ _ ?_
 refine c_seq (fun K2 hK2 => wp_region_lit (n_val (r_assign) ?_))
 simp only [ev,zD,zE,zF,zG]
 obtain ⟨b5, hb5e, hb5l⟩ := hX.base
 have hS5 := Base.of hX hb5e
 have hO5 := Owns.nil_of hX b5 3 1
 clear hb5e
 refine n_nil ?_
 refine hK2 _ _ ?_
 refine c_seq (fun K3 hK3 => wp_region_lit (n_val (r_assign) ?_))
 simp only [ev,zD,zE,zF,zG]
 refine n_nil ?_
 refine hK3 _ _ ?_
 refine c_seq (fun K4 hK4 => c_seq (fun K5 hK5 => wp_region_lit (n_val (r_assign) ?_)))
 simp only [ev,zD,zE,zF,zG]
 refine n_nil ?_
 refine hK5 _ _ ?_
 refine wp_block ?_
 refine c_loopg [5, 6, 7] [8, 9, 10, 11, 12, 13, 14, 15, 16, 17, 18, 19, 20, 21, 22, 23, 24, 25, 26, 27, 28, 29, 30, 31, 32, 33, 34, 35, 36, 37, 38, 39, 40, 41, 42, 43, 44, 45, 46, 47, 48, 49, 50, 51, 52] (fun n vs wl => ∃ (i c : Nat) (os : List Nat) (v5 : Value), vs = [v5, .int .i64 (c:Int), .int .i64 (i:Int)] ∧ (Ext w wl) ∧ (DigAt wl w.heap.size A xs.length ca xs) ∧ (DigAt wl w.heap.size B ys.length cb ys) ∧ (Base wl b5) ∧ (Owns wl b5 3 1 v5 os.length (os.map i64v)) ∧ (os.length = i) ∧ (val 65536 os + 65536 ^ i * c = val 65536 (xs.take i) + val 65536 (ys.take i)) ∧ (Digs 65536 os) ∧ (c ≤ 1) ∧ (i ≤ M + 1) ∧ (i = M + 1 → c = 0) ∧ (n = M + 1 - i)) ?_ ?_
 ·
  apply Exists.intro
  simp only [zQ,zR,zD,zE]
  exact ⟨0, 0, [], _, rfl, hX, hS, hR, hS5, hO5, rfl, by simp [val], digs_nil _, by omega, by omega, fun _ => rfl, rfl⟩
 ·
  intro n vs wr hI u
  obtain ⟨i, c, os, v5, rfl, hX, hS, hR, hS5, hO5, hlo, hv, hd, hc, hi, hic, hn⟩ := hI
  simp only [setG_cons,setG_nil,setMany_cons,setMany_nil,zF,zG]
  refine c_seq (fun K6 hK6 => c_seq (fun K7 hK7 => ?_))
  rcases (show i < xs.length ∨ (¬ i < xs.length ∧ i < ys.length) ∨ (¬ i < xs.length ∧ ¬ i < ys.length ∧ 0 < c) ∨ (¬ i < xs.length ∧ ¬ i < ys.length ∧ c = 0) by omega) with hw | ⟨hw, hw2⟩ | ⟨hw, hw2, hw3⟩ | ⟨hw, hw2, rfl⟩
  ·
   refine wp_region_lit (n_val (r_move) (n_val (r_move) (n_val (r_lenS rfl Tryz.underlying22 rfl) ?_)))
   simp only [ev,zD,zE,zF,zG]
   refine n_val (r_lssT rfl rfl (by omega)) (n_val (r_move) ?_)
   simp only [ev,zD,zE,zF,zG]
   refine n_skipF rfl ?_
   simp only [ev,zD,zE,zF,zG]
   refine n_skipF rfl ?_
   simp only [ev,zD,zE,zF,zG]
   refine n_skipF rfl ?_
   simp only [ev,zD,zE,zF,zG]
   refine n_skipF rfl ?_
   simp only [ev,zD,zE,zF,zG]
   refine n_val (r_pickT rfl) (n_val (r_move) ?_)
   simp only [ev,zD,zE,zF,zG]
   refine n_skipF rfl ?_
   simp only [ev,zD,zE,zF,zG]
   refine n_skipF rfl ?_
   simp only [ev,zD,zE,zF,zG]
   refine n_val (r_pickT rfl) ?_
   simp only [ev,zD,zE,zF,zG]
   refine n_nil ?_
   refine hK7 _ _ ?_
   refine c_yes rfl (wp_skip ?_)
   refine hK6 _ _ ?_
   refine c_seq (fun K8 hK8 => wp_block (c_seq (fun K9 hK9 => wp_region_lit (n_val (r_move) (n_val (r_assign) ?_)))))
   simp only [ev,zD,zE,zF,zG]
   refine n_nil ?_
   refine hK9 _ _ ?_
   refine c_seq (fun K10 hK10 => c_seq (fun K11 hK11 => wp_region_lit (n_val (r_move) (n_val (r_move) (n_val (r_lenS rfl Tryz.underlying22 rfl) ?_)))))
   simp only [ev,zD,zE,zF,zG]
   refine n_val (r_lssT rfl rfl (by omega)) ?_
   simp only [ev,zD,zE,zF,zG]
   refine n_nil ?_
   refine hK11 _ _ ?_
   refine c_yes rfl ?_
   obtain ⟨a, rfl, hca, hla⟩ := hS.get (show i < xs.length by omega)
   refine wp_region_lit (n_val (r_move) (n_val (r_move) (n_val (r_move) ?_)))
   simp only [ev,zD,zE,zF,zG]
   refine n_val (r_indexAddrS Tryz.underlying22 cells_3 rfl rfl (by omega) (by omega) (addr1 (Int.toNat_natCast _))) ?_
   simp only [ev,zD,zE,zF,zG]
   refine n_load rfl (lies1 hca agg_3) ?_
   simp only [ev,zD,zE,zF,zG]
   refine n_val (r_add rfl rfl (wrap_i64 (by omega) (by omega))) (n_val (r_assign) ?_)
   simp only [ev,zD,zE,zF,zG]
   refine n_nil ?_
   obtain ⟨s1, hs1⟩ : ∃ s1 : Nat, s1 = c + xs[i] := ⟨_, rfl⟩
   rw [show ((c:Int) + (xs[i]:Int)) = (s1:Int) by omega]
   have hs2 : s1 = c + xs[i]?.getD 0 := by rw [List.getElem?_eq_getElem (by omega)]; exact hs1
   have hs3 : s1 < 65537 := by omega
   refine hK10 _ _ ?_
   refine c_seq (fun K12 hK12 => c_seq (fun K13 hK13 => wp_region_lit (n_val (r_move) (n_val (r_move) (n_val (r_lenS rfl Tryz.underlying22 rfl) ?_)))))
   simp only [ev,zD,zE,zF,zG]
   refine n_val (r_lss rfl rfl) ?_
   simp only [ev,zD,zE,zF,zG]
   refine n_nil ?_
   refine hK13 _ _ ?_
   refine c_if rfl (fun hc3 => ?_) (fun hc3 => ?_)
   ·
    obtain ⟨a2, rfl, hcb, hlb⟩ := hR.get (show i < ys.length by omega)
    refine wp_region_lit (n_val (r_move) (n_val (r_move) (n_val (r_move) ?_)))
    simp only [ev,zD,zE,zF,zG]
    refine n_val (r_indexAddrS Tryz.underlying22 cells_3 rfl rfl (by omega) (by omega) (addr1 (Int.toNat_natCast _))) ?_
    simp only [ev,zD,zE,zF,zG]
    refine n_load rfl (lies1 hcb agg_3) ?_
    simp only [ev,zD,zE,zF,zG]
    refine n_val (r_add rfl rfl (wrap_i64 (by omega) (by omega))) (n_val (r_assign) ?_)
    simp only [ev,zD,zE,zF,zG]
    refine n_nil ?_
    obtain ⟨s, hs⟩ : ∃ s : Nat, s = s1 + ys[i] := ⟨_, rfl⟩
    rw [show ((s1:Int) + (ys[i]:Int)) = (s:Int) by omega]
    have hs4 : s = c + xs[i]?.getD 0 + ys[i]?.getD 0 := by rw [List.getElem?_eq_getElem (l := ys) (by omega)]; simp only [Option.getD_some]; omega
    have hs5 : s < 131072 := by omega
    refine hK12 _ _ ?_
    refine c_seq (fun K14 hK14 => wp_region_lit (n_val (r_move) (n_val (r_move) (n_val (r_rem rfl rfl (by omega) (rem_nat (n := 65536))) ?_))))
    simp only [ev,zD,zE,zF,zG]
    refine n_build1 Tryz.underlying22 (z := .int .i64 0) (by kernel_rfl) rfl (by simp only [ev,zD,zE,zF,zG]; rfl) (by rfl) ?_
    intro w1 g1 hE hg1 hB1
    have hG1 := Nat.le_trans hX.size hg1
    (try replace hS := hS.ext hE); (try replace hR := hR.ext hE); (try replace hS5 := hS5.ext hE); (try replace hO5 := hO5.ext hE); replace hX := hX.trans hE
    clear hE hg1
    simp only [ev,zD,zE,zF,zG]
    refine n_append rfl Tryz.underlying22 inf_3 rfl (by decide) rfl hO5 rfl (news := _) rfl hB1.row0 (by simp [Value.oneCell']) (by omega) (by omega) hS5.h ?_
    clear hO5; intro v5 w2 hO5 hGr _
    (try replace hS := hS.grew hGr (by first | trivial | omega)); (try replace hR := hR.grew hGr (by first | trivial | omega)); (try replace hS5 := hS5.grew hGr (by first | trivial | omega)); replace hX := hX.grown hGr hb5l
    clear hGr
    replace hO5 := hO5.snoc
    simp only [ev,zD,zE,zF,zG]
    refine n_val (r_assign) ?_
    simp only [ev,zD,zE,zF,zG]
    refine n_nil ?_
    refine hK14 _ _ ?_
    refine wp_region_lit (n_val (r_move) (n_val (r_quo rfl rfl (by omega) (quo_i64 (n := 65536) (by omega))) (n_val (r_assign) ?_)))
    simp only [ev,zD,zE,zF,zG]
    refine n_nil ?_
    refine hK8 _ _ ?_
    refine wp_region_lit (n_val (r_move) (n_val (r_add rfl rfl (wrap_i64 (by omega) (by omega))) (n_val (r_assign) ?_)))
    simp only [ev,zD,zE,zF,zG]
    refine n_nil ?_
    obtain ⟨r1, r2⟩ := plus_round hlo hv hd hs4
    rw [show ((i:Int) + 1) = ((i + 1 : Nat) : Int) by omega]
    simp only [Exit.inBlock,Exit.then]
    refine ⟨M + 1 - (i + 1), _, ?_, rfl, ?_, ?_⟩
    · omega
    · simp only [zQ,zR,zD,zE,setG_cons,setG_nil,setMany_cons,setMany_nil,zF,zG]
    ·
     simp only [zQ,zR,zD,zE]
     exact ⟨i + 1, s / 65536, os ++ [s % 65536], v5, rfl, hX, hS, hR, hS5, hO5, by simp; omega, r1, r2, by omega, by omega, fun h => by rw [List.getElem?_eq_none (l := xs) (by omega), List.getElem?_eq_none (l := ys) (by omega)] at hs4; simp at hs4; omega, rfl⟩
   ·
    obtain ⟨s, hs⟩ : ∃ s : Nat, s = s1 := ⟨_, rfl⟩
    rw [← hs]
    have hs4 : s = c + xs[i]?.getD 0 + ys[i]?.getD 0 := by rw [List.getElem?_eq_none (l := ys) (by omega)]; simp only [Option.getD_none]; omega
    have hs5 : s < 131072 := by omega
    refine wp_skip ?_
    refine hK12 _ _ ?_
    refine c_seq (fun K15 hK15 => wp_region_lit (n_val (r_move) (n_val (r_move) (n_val (r_rem rfl rfl (by omega) (rem_nat (n := 65536))) ?_))))
    simp only [ev,zD,zE,zF,zG]
    refine n_build1 Tryz.underlying22 (z := .int .i64 0) (by kernel_rfl) rfl (by simp only [ev,zD,zE,zF,zG]; rfl) (by rfl) ?_
    intro w1 g1 hE hg1 hB1
    have hG1 := Nat.le_trans hX.size hg1
    (try replace hS := hS.ext hE); (try replace hR := hR.ext hE); (try replace hS5 := hS5.ext hE); (try replace hO5 := hO5.ext hE); replace hX := hX.trans hE
    clear hE hg1
    simp only [ev,zD,zE,zF,zG]
    refine n_append rfl Tryz.underlying22 inf_3 rfl (by decide) rfl hO5 rfl (news := _) rfl hB1.row0 (by simp [Value.oneCell']) (by omega) (by omega) hS5.h ?_
    clear hO5; intro v5 w2 hO5 hGr _
    (try replace hS := hS.grew hGr (by first | trivial | omega)); (try replace hR := hR.grew hGr (by first | trivial | omega)); (try replace hS5 := hS5.grew hGr (by first | trivial | omega)); replace hX := hX.grown hGr hb5l
    clear hGr
    replace hO5 := hO5.snoc
    simp only [ev,zD,zE,zF,zG]
    refine n_val (r_assign) ?_
    simp only [ev,zD,zE,zF,zG]
    refine n_nil ?_
    refine hK15 _ _ ?_
    refine wp_region_lit (n_val (r_move) (n_val (r_quo rfl rfl (by omega) (quo_i64 (n := 65536) (by omega))) (n_val (r_assign) ?_)))
    simp only [ev,zD,zE,zF,zG]
    refine n_nil ?_
    refine hK8 _ _ ?_
    refine wp_region_lit (n_val (r_move) (n_val (r_add rfl rfl (wrap_i64 (by omega) (by omega))) (n_val (r_assign) ?_)))
    simp only [ev,zD,zE,zF,zG]
    refine n_nil ?_
    obtain ⟨r1, r2⟩ := plus_round hlo hv hd hs4
    rw [show ((i:Int) + 1) = ((i + 1 : Nat) : Int) by omega]
    simp only [Exit.inBlock,Exit.then]
    refine ⟨M + 1 - (i + 1), _, ?_, rfl, ?_, ?_⟩
    · omega
    · simp only [zQ,zR,zD,zE,setG_cons,setG_nil,setMany_cons,setMany_nil,zF,zG]
    ·
     simp only [zQ,zR,zD,zE]
     exact ⟨i + 1, s / 65536, os ++ [s % 65536], v5, rfl, hX, hS, hR, hS5, hO5, by simp; omega, r1, r2, by omega, by omega, fun h => by rw [List.getElem?_eq_none (l := xs) (by omega), List.getElem?_eq_none (l := ys) (by omega)] at hs4; simp at hs4; omega, rfl⟩
  ·
   refine wp_region_lit (n_val (r_move) (n_val (r_move) (n_val (r_lenS rfl Tryz.underlying22 rfl) ?_)))
   simp only [ev,zD,zE,zF,zG]
   refine n_val (r_lssF rfl rfl (by omega)) (n_val (r_move) ?_)
   simp only [ev,zD,zE,zF,zG]
   refine n_want rfl (n_val (r_move) ?_)
   simp only [ev,zD,zE,zF,zG]
   refine n_want rfl (n_val (r_move) ?_)
   simp only [ev,zD,zE,zF,zG]
   refine n_want rfl (n_val (r_lenS rfl Tryz.underlying22 rfl) ?_)
   simp only [ev,zD,zE,zF,zG]
   refine n_want rfl (n_val (r_lssT rfl rfl (by omega)) (n_val (r_pickF rfl) (n_val (r_move) ?_)))
   simp only [ev,zD,zE,zF,zG]
   refine n_skipF rfl ?_
   simp only [ev,zD,zE,zF,zG]
   refine n_skipF rfl ?_
   simp only [ev,zD,zE,zF,zG]
   refine n_val (r_pickT rfl) ?_
   simp only [ev,zD,zE,zF,zG]
   refine n_nil ?_
   refine hK7 _ _ ?_
   refine c_yes rfl (wp_skip ?_)
   refine hK6 _ _ ?_
   refine c_seq (fun K16 hK16 => wp_block (c_seq (fun K17 hK17 => wp_region_lit (n_val (r_move) (n_val (r_assign) ?_)))))
   simp only [ev,zD,zE,zF,zG]
   refine n_nil ?_
   obtain ⟨s1, hs1⟩ : ∃ s1 : Nat, s1 = c := ⟨_, rfl⟩
   rw [← hs1]
   have hs2 : s1 = c + xs[i]?.getD 0 := by rw [List.getElem?_eq_none (by omega)]; exact hs1
   have hs3 : s1 < 65537 := by omega
   refine hK17 _ _ ?_
   refine c_seq (fun K18 hK18 => c_seq (fun K19 hK19 => wp_region_lit (n_val (r_move) (n_val (r_move) (n_val (r_lenS rfl Tryz.underlying22 rfl) ?_)))))
   simp only [ev,zD,zE,zF,zG]
   refine n_val (r_lssF rfl rfl (by omega)) ?_
   simp only [ev,zD,zE,zF,zG]
   refine n_nil ?_
   refine hK19 _ _ ?_
   refine c_no rfl (wp_skip ?_)
   refine hK18 _ _ ?_
   refine c_seq (fun K20 hK20 => c_seq (fun K21 hK21 => wp_region_lit (n_val (r_move) (n_val (r_move) (n_val (r_lenS rfl Tryz.underlying22 rfl) ?_)))))
   simp only [ev,zD,zE,zF,zG]
   refine n_val (r_lssT rfl rfl (by omega)) ?_
   simp only [ev,zD,zE,zF,zG]
   refine n_nil ?_
   refine hK21 _ _ ?_
   refine c_yes rfl ?_
   obtain ⟨a2, rfl, hcb, hlb⟩ := hR.get (show i < ys.length by omega)
   refine wp_region_lit (n_val (r_move) (n_val (r_move) (n_val (r_move) ?_)))
   simp only [ev,zD,zE,zF,zG]
   refine n_val (r_indexAddrS Tryz.underlying22 cells_3 rfl rfl (by omega) (by omega) (addr1 (Int.toNat_natCast _))) ?_
   simp only [ev,zD,zE,zF,zG]
   refine n_load rfl (lies1 hcb agg_3) ?_
   simp only [ev,zD,zE,zF,zG]
   refine n_val (r_add rfl rfl (wrap_i64 (by omega) (by omega))) (n_val (r_assign) ?_)
   simp only [ev,zD,zE,zF,zG]
   refine n_nil ?_
   obtain ⟨s, hs⟩ : ∃ s : Nat, s = s1 + ys[i] := ⟨_, rfl⟩
   rw [show ((s1:Int) + (ys[i]:Int)) = (s:Int) by omega]
   have hs4 : s = c + xs[i]?.getD 0 + ys[i]?.getD 0 := by rw [List.getElem?_eq_getElem (l := ys) (by omega)]; simp only [Option.getD_some]; omega
   have hs5 : s < 131072 := by omega
   refine hK20 _ _ ?_
   refine c_seq (fun K22 hK22 => wp_region_lit (n_val (r_move) (n_val (r_move) (n_val (r_rem rfl rfl (by omega) (rem_nat (n := 65536))) ?_))))
   simp only [ev,zD,zE,zF,zG]
   refine n_build1 Tryz.underlying22 (z := .int .i64 0) (by kernel_rfl) rfl (by simp only [ev,zD,zE,zF,zG]; rfl) (by rfl) ?_
   intro w1 g1 hE hg1 hB1
   have hG1 := Nat.le_trans hX.size hg1
   (try replace hS := hS.ext hE); (try replace hR := hR.ext hE); (try replace hS5 := hS5.ext hE); (try replace hO5 := hO5.ext hE); replace hX := hX.trans hE
   clear hE hg1
   simp only [ev,zD,zE,zF,zG]
   refine n_append rfl Tryz.underlying22 inf_3 rfl (by decide) rfl hO5 rfl (news := _) rfl hB1.row0 (by simp [Value.oneCell']) (by omega) (by omega) hS5.h ?_
   clear hO5; intro v5 w2 hO5 hGr _
   (try replace hS := hS.grew hGr (by first | trivial | omega)); (try replace hR := hR.grew hGr (by first | trivial | omega)); (try replace hS5 := hS5.grew hGr (by first | trivial | omega)); replace hX := hX.grown hGr hb5l
   clear hGr
   replace hO5 := hO5.snoc
   simp only [ev,zD,zE,zF,zG]
   refine n_val (r_assign) ?_
   simp only [ev,zD,zE,zF,zG]
   refine n_nil ?_
   refine hK22 _ _ ?_
   refine wp_region_lit (n_val (r_move) (n_val (r_quo rfl rfl (by omega) (quo_i64 (n := 65536) (by omega))) (n_val (r_assign) ?_)))
   simp only [ev,zD,zE,zF,zG]
   refine n_nil ?_
   refine hK16 _ _ ?_
   refine wp_region_lit (n_val (r_move) (n_val (r_add rfl rfl (wrap_i64 (by omega) (by omega))) (n_val (r_assign) ?_)))
   simp only [ev,zD,zE,zF,zG]
   refine n_nil ?_
   obtain ⟨r1, r2⟩ := plus_round hlo hv hd hs4
   rw [show ((i:Int) + 1) = ((i + 1 : Nat) : Int) by omega]
   simp only [Exit.inBlock,Exit.then]
   refine ⟨M + 1 - (i + 1), _, ?_, rfl, ?_, ?_⟩
   · omega
   · simp only [zQ,zR,zD,zE,setG_cons,setG_nil,setMany_cons,setMany_nil,zF,zG]
   ·
    simp only [zQ,zR,zD,zE]
    exact ⟨i + 1, s / 65536, os ++ [s % 65536], v5, rfl, hX, hS, hR, hS5, hO5, by simp; omega, r1, r2, by omega, by omega, fun h => by rw [List.getElem?_eq_none (l := xs) (by omega), List.getElem?_eq_none (l := ys) (by omega)] at hs4; simp at hs4; omega, rfl⟩
  ·
   refine wp_region_lit (n_val (r_move) (n_val (r_move) (n_val (r_lenS rfl Tryz.underlying22 rfl) ?_)))
   simp only [ev,zD,zE,zF,zG]
   refine n_val (r_lssF rfl rfl (by omega)) (n_val (r_move) ?_)
   simp only [ev,zD,zE,zF,zG]
   refine n_want rfl (n_val (r_move) ?_)
   simp only [ev,zD,zE,zF,zG]
   refine n_want rfl (n_val (r_move) ?_)
   simp only [ev,zD,zE,zF,zG]
   refine n_want rfl (n_val (r_lenS rfl Tryz.underlying22 rfl) ?_)
   simp only [ev,zD,zE,zF,zG]
   refine n_want rfl (n_val (r_lssF rfl rfl (by omega)) (n_val (r_pickF rfl) (n_val (r_move) ?_)))
   simp only [ev,zD,zE,zF,zG]
   refine n_want rfl (n_val (r_move) ?_)
   simp only [ev,zD,zE,zF,zG]
   refine n_want rfl (n_val (r_gtrT rfl rfl (by omega)) (n_val (r_pickF rfl) ?_))
   simp only [ev,zD,zE,zF,zG]
   refine n_nil ?_
   refine hK7 _ _ ?_
   refine c_yes rfl (wp_skip ?_)
   refine hK6 _ _ ?_
   refine c_seq (fun K23 hK23 => wp_block (c_seq (fun K24 hK24 => wp_region_lit (n_val (r_move) (n_val (r_assign) ?_)))))
   simp only [ev,zD,zE,zF,zG]
   refine n_nil ?_
   obtain ⟨s1, hs1⟩ : ∃ s1 : Nat, s1 = c := ⟨_, rfl⟩
   rw [← hs1]
   have hs2 : s1 = c + xs[i]?.getD 0 := by rw [List.getElem?_eq_none (by omega)]; exact hs1
   have hs3 : s1 < 65537 := by omega
   refine hK24 _ _ ?_
   refine c_seq (fun K25 hK25 => c_seq (fun K26 hK26 => wp_region_lit (n_val (r_move) (n_val (r_move) (n_val (r_lenS rfl Tryz.underlying22 rfl) ?_)))))
   simp only [ev,zD,zE,zF,zG]
   refine n_val (r_lssF rfl rfl (by omega)) ?_
   simp only [ev,zD,zE,zF,zG]
   refine n_nil ?_
   refine hK26 _ _ ?_
   refine c_no rfl (wp_skip ?_)
   refine hK25 _ _ ?_
   refine c_seq (fun K27 hK27 => c_seq (fun K28 hK28 => wp_region_lit (n_val (r_move) (n_val (r_move) (n_val (r_lenS rfl Tryz.underlying22 rfl) ?_)))))
   simp only [ev,zD,zE,zF,zG]
   refine n_val (r_lssF rfl rfl (by omega)) ?_
   simp only [ev,zD,zE,zF,zG]
   refine n_nil ?_
   refine hK28 _ _ ?_
   refine c_no rfl (wp_skip ?_)
   refine hK27 _ _ ?_
   refine c_seq (fun K29 hK29 => ?_)
   obtain ⟨s, hs⟩ : ∃ s : Nat, s = s1 := ⟨_, rfl⟩
   rw [← hs]
   have hs4 : s = c + xs[i]?.getD 0 + ys[i]?.getD 0 := by rw [List.getElem?_eq_none (l := ys) (by omega)]; simp only [Option.getD_none]; omega
   have hs5 : s < 131072 := by omega
   refine wp_region_lit (n_val (r_move) (n_val (r_move) (n_val (r_rem rfl rfl (by omega) (rem_nat (n := 65536))) ?_)))
   simp only [ev,zD,zE,zF,zG]
   refine n_build1 Tryz.underlying22 (z := .int .i64 0) (by kernel_rfl) rfl (by simp only [ev,zD,zE,zF,zG]; rfl) (by rfl) ?_
   intro w1 g1 hE hg1 hB1
   have hG1 := Nat.le_trans hX.size hg1
   (try replace hS := hS.ext hE); (try replace hR := hR.ext hE); (try replace hS5 := hS5.ext hE); (try replace hO5 := hO5.ext hE); replace hX := hX.trans hE
   clear hE hg1
   simp only [ev,zD,zE,zF,zG]
   refine n_append rfl Tryz.underlying22 inf_3 rfl (by decide) rfl hO5 rfl (news := _) rfl hB1.row0 (by simp [Value.oneCell']) (by omega) (by omega) hS5.h ?_
   clear hO5; intro v5 w2 hO5 hGr _
   (try replace hS := hS.grew hGr (by first | trivial | omega)); (try replace hR := hR.grew hGr (by first | trivial | omega)); (try replace hS5 := hS5.grew hGr (by first | trivial | omega)); replace hX := hX.grown hGr hb5l
   clear hGr
   replace hO5 := hO5.snoc
   simp only [ev,zD,zE,zF,zG]
   refine n_val (r_assign) ?_
   simp only [ev,zD,zE,zF,zG]
   refine n_nil ?_
   refine hK29 _ _ ?_
   refine wp_region_lit (n_val (r_move) (n_val (r_quo rfl rfl (by omega) (quo_i64 (n := 65536) (by omega))) (n_val (r_assign) ?_)))
   simp only [ev,zD,zE,zF,zG]
   refine n_nil ?_
   refine hK23 _ _ ?_
   refine wp_region_lit (n_val (r_move) (n_val (r_add rfl rfl (wrap_i64 (by omega) (by omega))) (n_val (r_assign) ?_)))
   simp only [ev,zD,zE,zF,zG]
   refine n_nil ?_
   obtain ⟨r1, r2⟩ := plus_round hlo hv hd hs4
   rw [show ((i:Int) + 1) = ((i + 1 : Nat) : Int) by omega]
   simp only [Exit.inBlock,Exit.then]
   refine ⟨M + 1 - (i + 1), _, ?_, rfl, ?_, ?_⟩
   · omega
   · simp only [zQ,zR,zD,zE,setG_cons,setG_nil,setMany_cons,setMany_nil,zF,zG]
   ·
    simp only [zQ,zR,zD,zE]
    exact ⟨i + 1, s / 65536, os ++ [s % 65536], v5, rfl, hX, hS, hR, hS5, hO5, by simp; omega, r1, r2, by omega, by omega, fun h => by rw [List.getElem?_eq_none (l := xs) (by omega), List.getElem?_eq_none (l := ys) (by omega)] at hs4; simp at hs4; omega, rfl⟩
  ·
   refine wp_region_lit (n_val (r_move) (n_val (r_move) (n_val (r_lenS rfl Tryz.underlying22 rfl) ?_)))
   simp only [ev,zD,zE,zF,zG]
   refine n_val (r_lssF rfl rfl (by omega)) (n_val (r_move) ?_)
   simp only [ev,zD,zE,zF,zG]
   refine n_want rfl (n_val (r_move) ?_)
   simp only [ev,zD,zE,zF,zG]
   refine n_want rfl (n_val (r_move) ?_)
   simp only [ev,zD,zE,zF,zG]
   refine n_want rfl (n_val (r_lenS rfl Tryz.underlying22 rfl) ?_)
   simp only [ev,zD,zE,zF,zG]
   refine n_want rfl (n_val (r_lssF rfl rfl (by omega)) (n_val (r_pickF rfl) (n_val (r_move) ?_)))
   simp only [ev,zD,zE,zF,zG]
   refine n_want rfl (n_val (r_move) ?_)
   simp only [ev,zD,zE,zF,zG]
   refine n_want rfl (n_val (r_gtrF rfl rfl (by omega)) (n_val (r_pickF rfl) ?_))
   simp only [ev,zD,zE,zF,zG]
   refine n_nil ?_
   refine hK7 _ _ ?_
   refine c_no rfl (wp_exit ?_)
   refine hK4 _ _ ?_
   refine c_seq (fun K30 hK30 => wp_region_lit (n_val (r_move) (n_val (r_assign) ?_)))
   simp only [ev,zD,zE,zF,zG]
   refine n_nil ?_
   refine hK30 _ _ ?_
   refine wp_ret ?_
   try simp only [Exit.inBlock,Exit.then]
   refine fin1 rfl rfl ?_
   try simp only [zD,zE]
   (obtain ⟨A5, c5, rfl, hD, _⟩ := DigAt.of_owns hO5 rfl hd (by omega)); exact ⟨_, rfl, hX, A5, c5, os, rfl, hD, by rw [List.take_of_length_le (by omega), List.take_of_length_le (by omega)] at hv; simpa using hv, by omega⟩

end Go.Proofs.YtmcgcnpgkkfkoaaGreatDoor
namespace Go.Proofs.YtmcgcnpgkkfkoaaGreatDoor
open Go.RowKit Go.Lith
set_option maxRecDepth 100000
attribute [local irreducible] wpList wpQuiet wpMix Code.wp
set_option maxHeartbeats 400000 in
theorem minus_c {A B : Option Addr} {xs ys : List Nat} {na nb ca cb : Nat} (w : World) (hS : DigAt w w.heap.size A na ca xs) (hR : DigAt w w.heap.size B nb cb ys) (hle : ys.length ≤ xs.length) (hge : val 65536 ys ≤ val 65536 xs) (hlx : xs.length ≤ 1000000000000) : Does Tryz.prog 114 [.slice A na ca, .slice B nb cb] w (fun v w' => DigRes (val 65536 xs - val 65536 ys) v w' ∧ NewSlice w v) := by
 skip
 refine ⟨en_114, ?_⟩
 have hX := Ext.refl w
 obtain rfl := hS.eq
 obtain rfl := hR.eq
 go_enter Tryz.func114, Tryz.ntmps114
 refine c_seq (fun K1 hK1 => wp_region_lit (n_val (r_assign) ?_))
 simp only [ev,zD,zE,zF,zG]
 refine n_nil ?_
 refine hK1 _ _ ?_
 refine c_seq (fun K2 hK2 => wp_region_lit (n_val (r_assign) ?_))
 simp only [ev,zD,zE,zF,zG]
 obtain ⟨b5, hb5e, hb5l⟩ := hX.base
 have hS5 := Base.of hX hb5e
 have hO5 := Owns.nil_of hX b5 3 1
 clear hb5e
 refine n_nil ?_
 refine hK2 _ _ ?_
 refine c_seq (fun K3 hK3 => wp_region_lit (n_val (r_assign) ?_))
 simp only [ev,zD,zE,zF,zG]
 refine n_nil ?_
 refine hK3 _ _ ?_
 refine c_seq (fun K4 hK4 => c_seq (fun K5 hK5 => wp_region_lit (n_val (r_assign) ?_)))
 simp only [ev,zD,zE,zF,zG]
 refine n_nil ?_
 refine hK5 _ _ ?_
 refine wp_block ?_
 refine c_loopg [5, 6, 7] [8, 9, 10, 11, 12, 13, 14, 15, 16, 17, 18, 19, 20, 21, 22, 23, 24, 25, 26, 27, 28, 29, 30, 31, 32, 33, 34, 35, 36, 37, 38] (fun n vs wl => ∃ (i c : Nat) (os : List Nat) (v5 : Value), vs = [v5, .int .i64 (c:Int), .int .i64 (i:Int)] ∧ (Ext w wl) ∧ (DigAt wl w.heap.size A xs.length ca xs) ∧ (DigAt wl w.heap.size B ys.length cb ys) ∧ (Base wl b5) ∧ (Owns wl b5 3 1 v5 os.length (os.map i64v)) ∧ (os.length = i) ∧ (val 65536 os + val 65536 (ys.take i) = val 65536 (xs.take i) + 65536 ^ i * c) ∧ (Digs 65536 os) ∧ (c ≤ 1) ∧ (i ≤ xs.length) ∧ (n = xs.length - i)) ?_ ?_
 ·
  apply Exists.intro
  simp only [zQ,zR,zD,zE]
  exact ⟨0, 0, [], _, rfl, hX, hS, hR, hS5, hO5, rfl, by simp [val], digs_nil _, by omega, by omega, rfl⟩
 ·
  intro n vs wr hI u
  obtain ⟨i, c, os, v5, rfl, hX, hS, hR, hS5, hO5, hlo, hv, hd, hc, hi, hn⟩ := hI
  simp only [setG_cons,setG_nil,setMany_cons,setMany_nil,zF,zG]
  refine c_seq (fun K6 hK6 => c_seq (fun K7 hK7 => wp_region_lit (n_val (r_move) (n_val (r_move) (n_val (r_lenS rfl Tryz.underlying22 rfl) ?_)))))
  simp only [ev,zD,zE,zF,zG]
  refine n_val (r_lss rfl rfl) ?_
  simp only [ev,zD,zE,zF,zG]
  refine n_nil ?_
  refine hK7 _ _ ?_
  refine c_if rfl (fun hc1 => ?_) (fun hc1 => ?_)
  ·
   refine wp_skip ?_
   refine hK6 _ _ ?_
   refine c_seq (fun K8 hK8 => wp_block (c_seq (fun K9 hK9 => ?_)))
   obtain ⟨a, rfl, hca, hla⟩ := hS.get (show i < xs.length by omega)
   have hyd : ys[i]?.getD 0 < 65536 := by
    rcases Nat.lt_or_ge i ys.length with h | h
    · rw [List.getElem?_eq_getElem h]; exact hR.lt h
    · rw [List.getElem?_eq_none h]; decide
   refine wp_region_lit (n_val (r_move) (n_val (r_move) (n_val (r_indexAddrS Tryz.underlying22 cells_3 rfl rfl (by omega) (by omega) (addr1 (Int.toNat_natCast _))) ?_)))
   simp only [ev,zD,zE,zF,zG]
   refine n_load rfl (lies1 hca agg_3) ?_
   simp only [ev,zD,zE,zF,zG]
   refine n_val (r_move) (n_val (r_sub rfl rfl (wrap_i64 (by omega) (by omega))) (n_val (r_assign) ?_))
   simp only [ev,zD,zE,zF,zG]
   refine n_nil ?_
   refine hK9 _ _ ?_
   refine c_seq (fun K10 hK10 => c_seq (fun K11 hK11 => wp_region_lit (n_val (r_move) (n_val (r_move) (n_val (r_lenS rfl Tryz.underlying22 rfl) ?_)))))
   simp only [ev,zD,zE,zF,zG]
   refine n_val (r_lss rfl rfl) ?_
   simp only [ev,zD,zE,zF,zG]
   refine n_nil ?_
   refine hK11 _ _ ?_
   refine c_if rfl (fun hc2 => ?_) (fun hc2 => ?_)
   ·
    obtain ⟨a2, rfl, hcb, hlb⟩ := hR.get (show i < ys.length by omega)
    refine wp_region_lit (n_val (r_move) (n_val (r_move) (n_val (r_move) ?_)))
    simp only [ev,zD,zE,zF,zG]
    refine n_val (r_indexAddrS Tryz.underlying22 cells_3 rfl rfl (by omega) (by omega) (addr1 (Int.toNat_natCast _))) ?_
    simp only [ev,zD,zE,zF,zG]
    refine n_load rfl (lies1 hcb agg_3) ?_
    simp only [ev,zD,zE,zF,zG]
    refine n_val (r_sub rfl rfl (wrap_i64 (by omega) (by omega))) (n_val (r_assign) ?_)
    simp only [ev,zD,zE,zF,zG]
    refine n_nil ?_
    obtain ⟨e, he⟩ : ∃ e : Int, e = (xs[i] : Int) - (c : Int) - (ys[i] : Int) := ⟨_, rfl⟩
    rw [← he]
    have he2 : e = (xs[i] : Int) - (c : Int) - ((ys[i]?.getD 0 : Nat) : Int) := by rw [List.getElem?_eq_getElem (by omega)]; exact he
    refine hK10 _ _ ?_
    refine c_seq (fun K12 hK12 => wp_region_lit (n_val (r_assign) ?_))
    simp only [ev,zD,zE,zF,zG]
    refine n_nil ?_
    refine hK12 _ _ ?_
    refine c_seq (fun K13 hK13 => c_seq (fun K14 hK14 => wp_region_lit (n_val (r_move) (n_val (r_lss rfl rfl) ?_))))
    simp only [ev,zD,zE,zF,zG]
    refine n_nil ?_
    refine hK14 _ _ ?_
    refine c_if rfl (fun hc3 => ?_) (fun hc3 => ?_)
    ·
     obtain ⟨s, hs⟩ : ∃ s : Nat, (s : Int) = e + 65536 := ⟨(e + 65536).toNat, by omega⟩
     have hs6 : s + ys[i]?.getD 0 + c = xs[i] + 65536 * 1 := by omega
     have hs7 : s < 65536 := by omega
     refine c_seq (fun K15 hK15 => wp_region_lit (n_val (r_move) (n_val (r_as (r_add rfl rfl (wrap_i64 (by omega) (by omega))) (int_as hs.symm)) (n_val (r_assign) ?_))))
     simp only [ev,zD,zE,zF,zG]
     refine n_nil ?_
     refine hK15 _ _ ?_
     refine wp_region_lit (n_val (r_assign) ?_)
     simp only [ev,zD,zE,zF,zG]
     refine n_nil ?_
     refine hK13 _ _ ?_
     refine wp_region_lit (n_val (r_move) (n_val (r_move) ?_))
     simp only [ev,zD,zE,zF,zG]
     refine n_build1 Tryz.underlying22 (z := .int .i64 0) (by kernel_rfl) rfl (by simp only [ev,zD,zE,zF,zG]; rfl) (by rfl) ?_
     intro w1 g1 hE hg1 hB1
     have hG1 := Nat.le_trans hX.size hg1
     (try replace hS := hS.ext hE); (try replace hR := hR.ext hE); (try replace hS5 := hS5.ext hE); (try replace hO5 := hO5.ext hE); replace hX := hX.trans hE
     clear hE hg1
     simp only [ev,zD,zE,zF,zG]
     refine n_append rfl Tryz.underlying22 inf_3 rfl (by decide) rfl hO5 rfl (news := _) rfl hB1.row0 (by simp [Value.oneCell']) (by omega) (by omega) hS5.h ?_
     clear hO5; intro v5 w2 hO5 hGr _
     (try replace hS := hS.grew hGr (by first | trivial | omega)); (try replace hR := hR.grew hGr (by first | trivial | omega)); (try replace hS5 := hS5.grew hGr (by first | trivial | omega)); replace hX := hX.grown hGr hb5l
     clear hGr
     replace hO5 := hO5.snoc
     simp only [ev,zD,zE,zF,zG]
     refine n_val (r_assign) ?_
     simp only [ev,zD,zE,zF,zG]
     refine n_nil ?_
     refine hK8 _ _ ?_
     refine wp_region_lit (n_val (r_move) (n_val (r_add rfl rfl (wrap_i64 (by omega) (by omega))) (n_val (r_assign) ?_)))
     simp only [ev,zD,zE,zF,zG]
     refine n_nil ?_
     obtain ⟨r1, r2⟩ := minus_round (by omega) hlo hv hd hs6 hs7
     rw [show ((i:Int) + 1) = ((i + 1 : Nat) : Int) by omega]
     simp only [Exit.inBlock,Exit.then]
     refine ⟨xs.length - (i + 1), _, ?_, rfl, ?_, ?_⟩
     · omega
     · simp only [zQ,zR,zD,zE,setG_cons,setG_nil,setMany_cons,setMany_nil,zF,zG]
     ·
      simp only [zQ,zR,zD,zE]
      exact ⟨i + 1, 1, os ++ [s], v5, rfl, hX, hS, hR, hS5, hO5, by simp; omega, r1, r2, by omega, by omega, rfl⟩
    ·
     obtain ⟨s, hs⟩ : ∃ s : Nat, (s : Int) = e := ⟨e.toNat, by omega⟩
     rw [← hs]
     have hs6 : s + ys[i]?.getD 0 + c = xs[i] + 65536 * 0 := by omega
     have hs7 : s < 65536 := by omega
     refine wp_skip ?_
     refine hK13 _ _ ?_
     refine wp_region_lit (n_val (r_move) (n_val (r_move) ?_))
     simp only [ev,zD,zE,zF,zG]
     refine n_build1 Tryz.underlying22 (z := .int .i64 0) (by kernel_rfl) rfl (by simp only [ev,zD,zE,zF,zG]; rfl) (by rfl) ?_
     intro w1 g1 hE hg1 hB1
     have hG1 := Nat.le_trans hX.size hg1
     (try replace hS := hS.ext hE); (try replace hR := hR.ext hE); (try replace hS5 := hS5.ext hE); (try replace hO5 := hO5.ext hE); replace hX := hX.trans hE
     clear hE hg1
     simp only [ev,zD,zE,zF,zG]
     refine n_append rfl Tryz.underlying22 inf_3 rfl (by decide) rfl hO5 rfl (news := _) rfl hB1.row0 (by simp [Value.oneCell']) (by omega) (by omega) hS5.h ?_
     clear hO5; intro v5 w2 hO5 hGr _
     (try replace hS := hS.grew hGr (by first | trivial | omega)); (try replace hR := hR.grew hGr (by first | trivial | omega)); (try replace hS5 := hS5.grew hGr (by first | trivial | omega)); replace hX := hX.grown hGr hb5l
     clear hGr
     replace hO5 := hO5.snoc
     simp only [ev,zD,zE,zF,zG]
     refine n_val (r_assign) ?_
     simp only [ev,zD,zE,zF,zG]
     refine n_nil ?_
     refine hK8 _ _ ?_
     refine wp_region_lit (n_val (r_move) (n_val (r_add rfl rfl (wrap_i64 (by omega) (by omega))) (n_val (r_assign) ?_)))
     simp only [ev,zD,zE,zF,zG]
     refine n_nil ?_
     obtain ⟨r1, r2⟩ := minus_round (by omega) hlo hv hd hs6 hs7
     rw [show ((i:Int) + 1) = ((i + 1 : Nat) : Int) by omega]
     simp only [Exit.inBlock,Exit.then]
     refine ⟨xs.length - (i + 1), _, ?_, rfl, ?_, ?_⟩
     · omega
     · simp only [zQ,zR,zD,zE,setG_cons,setG_nil,setMany_cons,setMany_nil,zF,zG]
     ·
      simp only [zQ,zR,zD,zE]
      exact ⟨i + 1, 0, os ++ [s], v5, rfl, hX, hS, hR, hS5, hO5, by simp; omega, r1, r2, by omega, by omega, rfl⟩
   ·
    obtain ⟨e, he⟩ : ∃ e : Int, e = (xs[i] : Int) - (c : Int) := ⟨_, rfl⟩
    rw [← he]
    have he2 : e = (xs[i] : Int) - (c : Int) - ((ys[i]?.getD 0 : Nat) : Int) := by rw [List.getElem?_eq_none (by omega)]; simp only [Option.getD_none]; omega
    refine wp_skip ?_
    refine hK10 _ _ ?_
    refine c_seq (fun K16 hK16 => wp_region_lit (n_val (r_assign) ?_))
    simp only [ev,zD,zE,zF,zG]
    refine n_nil ?_
    refine hK16 _ _ ?_
    refine c_seq (fun K17 hK17 => c_seq (fun K18 hK18 => wp_region_lit (n_val (r_move) (n_val (r_lss rfl rfl) ?_))))
    simp only [ev,zD,zE,zF,zG]
    refine n_nil ?_
    refine hK18 _ _ ?_
    refine c_if rfl (fun hc3 => ?_) (fun hc3 => ?_)
    ·
     obtain ⟨s, hs⟩ : ∃ s : Nat, (s : Int) = e + 65536 := ⟨(e + 65536).toNat, by omega⟩
     have hs6 : s + ys[i]?.getD 0 + c = xs[i] + 65536 * 1 := by omega
     have hs7 : s < 65536 := by omega
     refine c_seq (fun K19 hK19 => wp_region_lit (n_val (r_move) (n_val (r_as (r_add rfl rfl (wrap_i64 (by omega) (by omega))) (int_as hs.symm)) (n_val (r_assign) ?_))))
     simp only [ev,zD,zE,zF,zG]
     refine n_nil ?_
     refine hK19 _ _ ?_
     refine wp_region_lit (n_val (r_assign) ?_)
     simp only [ev,zD,zE,zF,zG]
     refine n_nil ?_
     refine hK17 _ _ ?_
     refine wp_region_lit (n_val (r_move) (n_val (r_move) ?_))
     simp only [ev,zD,zE,zF,zG]
     refine n_build1 Tryz.underlying22 (z := .int .i64 0) (by kernel_rfl) rfl (by simp only [ev,zD,zE,zF,zG]; rfl) (by rfl) ?_
     intro w1 g1 hE hg1 hB1
     have hG1 := Nat.le_trans hX.size hg1
     (try replace hS := hS.ext hE); (try replace hR := hR.ext hE); (try replace hS5 := hS5.ext hE); (try replace hO5 := hO5.ext hE); replace hX := hX.trans hE
     clear hE hg1
     simp only [ev,zD,zE,zF,zG]
     refine n_append rfl Tryz.underlying22 inf_3 rfl (by decide) rfl hO5 rfl (news := _) rfl hB1.row0 (by simp [Value.oneCell']) (by omega) (by omega) hS5.h ?_
     clear hO5; intro v5 w2 hO5 hGr _
     (try replace hS := hS.grew hGr (by first | trivial | omega)); (try replace hR := hR.grew hGr (by first | trivial | omega)); (try replace hS5 := hS5.grew hGr (by first | trivial | omega)); replace hX := hX.grown hGr hb5l
     clear hGr
     replace hO5 := hO5.snoc
     simp only [ev,zD,zE,zF,zG]
     refine n_val (r_assign) ?_
     simp only [ev,zD,zE,zF,zG]
     refine n_nil ?_
     refine hK8 _ _ ?_
     refine wp_region_lit (n_val (r_move) (n_val (r_add rfl rfl (wrap_i64 (by omega) (by omega))) (n_val (r_assign) ?_)))
     simp only [ev,zD,zE,zF,zG]
     refine n_nil ?_
     obtain ⟨r1, r2⟩ := minus_round (by omega) hlo hv hd hs6 hs7
     rw [show ((i:Int) + 1) = ((i + 1 : Nat) : Int) by omega]
     simp only [Exit.inBlock,Exit.then]
     refine ⟨xs.length - (i + 1), _, ?_, rfl, ?_, ?_⟩
     · omega
     · simp only [zQ,zR,zD,zE,setG_cons,setG_nil,setMany_cons,setMany_nil,zF,zG]
     ·
      simp only [zQ,zR,zD,zE]
      exact ⟨i + 1, 1, os ++ [s], v5, rfl, hX, hS, hR, hS5, hO5, by simp; omega, r1, r2, by omega, by omega, rfl⟩
    ·
     obtain ⟨s, hs⟩ : ∃ s : Nat, (s : Int) = e := ⟨e.toNat, by omega⟩
     rw [← hs]
     have hs6 : s + ys[i]?.getD 0 + c = xs[i] + 65536 * 0 := by omega
     have hs7 : s < 65536 := by omega
     refine wp_skip ?_
     refine hK17 _ _ ?_
     refine wp_region_lit (n_val (r_move) (n_val (r_move) ?_))
     simp only [ev,zD,zE,zF,zG]
     refine n_build1 Tryz.underlying22 (z := .int .i64 0) (by kernel_rfl) rfl (by simp only [ev,zD,zE,zF,zG]; rfl) (by rfl) ?_
     intro w1 g1 hE hg1 hB1
     have hG1 := Nat.le_trans hX.size hg1
     (try replace hS := hS.ext hE); (try replace hR := hR.ext hE); (try replace hS5 := hS5.ext hE); (try replace hO5 := hO5.ext hE); replace hX := hX.trans hE
     clear hE hg1
     simp only [ev,zD,zE,zF,zG]
     refine n_append rfl Tryz.underlying22 inf_3 rfl (by decide) rfl hO5 rfl (news := _) rfl hB1.row0 (by simp [Value.oneCell']) (by omega) (by omega) hS5.h ?_
     clear hO5; intro v5 w2 hO5 hGr _
     (try replace hS := hS.grew hGr (by first | trivial | omega)); (try replace hR := hR.grew hGr (by first | trivial | omega)); (try replace hS5 := hS5.grew hGr (by first | trivial | omega)); replace hX := hX.grown hGr hb5l
     clear hGr
     replace hO5 := hO5.snoc
     simp only [ev,zD,zE,zF,zG]
     refine n_val (r_assign) ?_
     simp only [ev,zD,zE,zF,zG]
     refine n_nil ?_
     refine hK8 _ _ ?_
     refine wp_region_lit (n_val (r_move) (n_val (r_add rfl rfl (wrap_i64 (by omega) (by omega))) (n_val (r_assign) ?_)))
     simp only [ev,zD,zE,zF,zG]
     refine n_nil ?_
     obtain ⟨r1, r2⟩ := minus_round (by omega) hlo hv hd hs6 hs7
     rw [show ((i:Int) + 1) = ((i + 1 : Nat) : Int) by omega]
     simp only [Exit.inBlock,Exit.then]
     refine ⟨xs.length - (i + 1), _, ?_, rfl, ?_, ?_⟩
     · omega
     · simp only [zQ,zR,zD,zE,setG_cons,setG_nil,setMany_cons,setMany_nil,zF,zG]
     ·
      simp only [zQ,zR,zD,zE]
      exact ⟨i + 1, 0, os ++ [s], v5, rfl, hX, hS, hR, hS5, hO5, by simp; omega, r1, r2, by omega, by omega, rfl⟩
  ·
   refine wp_exit ?_
   refine hK4 _ _ ?_
   refine c_seq (fun K20 hK20 => ?_)
   obtain rfl : i = xs.length := by omega
   obtain ⟨A5, c5, rfl, hD, hbn⟩ := DigAt.of_owns hO5 rfl hd (by omega)
   refine wp_region_lit (n_val (r_move) ?_)
   simp only [ev,zD,zE,zF,zG]
   refine n_call rfl rfl (trim_c _ hD) ?_
   rintro v w1 hE rfl
   (try replace hS := hS.ext hE); (try replace hR := hR.ext hE); (try replace hS5 := hS5.ext hE); (try replace hO5 := hO5.ext hE); (try replace hD := hD.ext hE); replace hX := hX.trans hE
   clear hE
   simp only [ev,zD,zE,zF,zG]
   refine n_val (r_assign) ?_
   simp only [ev,zD,zE,zF,zG]
   refine n_nil ?_
   refine hK20 _ _ ?_
   refine wp_ret ?_
   try simp only [Exit.inBlock,Exit.then]
   refine fin1 rfl rfl ?_
   try simp only [zD,zE]
   exact ⟨_, rfl, hX, DigRes.of_trim hD (minus_end hle hlo hd hv hge), fun a n c e => by cases e; exact Nat.le_trans hb5l (hbn _ rfl)⟩

set_option maxHeartbeats 400000 in
theorem times_c {A B : Option Addr} {xs ys : List Nat} {na nb ca cb : Nat} (w : World) (hS : DigAt w w.heap.size A na ca xs) (hR : DigAt w w.heap.size B nb cb ys) (hlx : xs.length ≤ 1000000000000) (hly : ys.length ≤ 1000000000000) : Does Tryz.prog 110 [.slice A na ca, .slice B nb cb] w (fun v w' => DigRes (val 65536 xs * val 65536 ys) v w' ∧ NewSlice w v) := by
 skip
 refine ⟨en_110, ?_⟩
 have hX := Ext.refl w
 obtain rfl := hS.eq
 obtain rfl := hR.eq
 go_enter Tryz.func110, Tryz.ntmps110
 refine c_seq (fun K1 hK1 => wp_region_lit (n_val (r_assign) ?_))
 simp only [ev,zD,zE,zF,zG]
 refine n_nil ?_
 refine hK1 _ _ ?_
 refine c_seq (fun K2 hK2 => wp_region_lit (n_val (r_move) (n_val (r_lenS rfl Tryz.underlying22 rfl) (n_val (r_move) ?_))))
 simp only [ev,zD,zE,zF,zG]
 refine n_val (r_lenS rfl Tryz.underlying22 rfl) (n_val (r_add rfl rfl (wrap_i64 (by omega) (by omega))) ?_)
 simp only [ev,zD,zE,zF,zG]
 refine n_make1 Tryz.underlying22 inf_3 rfl rfl rfl (show _ = xs.length + ys.length by omega) (show _ = xs.length + ys.length by omega) (by omega) (by omega) (by omega) (by omega) ?_
 intro w1 g1 hE hg1 hB1
 have hG1 := Nat.le_trans hX.size hg1
 (try replace hS := hS.ext hE); (try replace hR := hR.ext hE); replace hX := hX.trans hE
 clear hE hg1
 simp only [ev,zD,zE,zF,zG]
 refine n_val (r_assign) ?_
 simp only [ev,zD,zE,zF,zG]
 refine n_nil ?_
 rw [replicate_i64] at hB1
 refine hK2 _ _ ?_
 refine c_seq (fun K3 hK3 => c_seq (fun K4 hK4 => wp_region_lit (n_val (r_assign) ?_)))
 simp only [ev,zD,zE,zF,zG]
 refine n_nil ?_
 refine hK4 _ _ ?_
 refine wp_block ?_
 refine c_loopg [6] [7, 8, 9, 16, 17, 18, 19, 20, 21, 22, 23, 24, 25, 26, 27, 28, 29, 30, 31, 32, 33, 34, 35, 36, 37, 38, 39, 40, 41, 42, 43, 44, 45, 46, 47, 48, 49, 50, 51, 52, 53, 54, 55, 56, 57, 58, 59, 60, 61] (fun n vs wl => ∃ (i : Nat) (os : List Nat), vs = [.int .i64 (i:Int)] ∧ (Ext w wl) ∧ (DigAt wl w.heap.size A xs.length ca xs) ∧ (DigAt wl w.heap.size B ys.length cb ys) ∧ (Blk wl g1 (os.map i64v) 3) ∧ (i ≤ xs.length) ∧ (os.length = xs.length + ys.length) ∧ (val 65536 os = val 65536 (xs.take i) * val 65536 ys) ∧ (os.drop (i + ys.length) = List.replicate (xs.length - i) 0) ∧ (Digs 65536 os) ∧ (n = xs.length - i)) ?_ ?_
 ·
  apply Exists.intro
  simp only [zQ,zR,zD,zE]
  exact ⟨0, List.replicate (xs.length + ys.length) 0, rfl, hX, hS, hR, hB1, by omega, by simp, by rw [val_replicate, List.take_zero]; simp only [val,Nat.zero_mul], by rw [List.drop_replicate]; congr 1; omega, fun x hx => by rw [List.eq_of_mem_replicate hx]; decide, rfl⟩
 ·
  intro n vs wr hI u
  obtain ⟨i, os, rfl, hX, hS, hR, hB1, hi, hlo, hv, hz, hd, hn⟩ := hI
  simp only [setG_cons,setG_nil,setMany_cons,setMany_nil,zF,zG]
  refine c_seq (fun K5 hK5 => c_seq (fun K6 hK6 => wp_region_lit (n_val (r_move) (n_val (r_move) (n_val (r_lenS rfl Tryz.underlying22 rfl) ?_)))))
  simp only [ev,zD,zE,zF,zG]
  refine n_val (r_lss rfl rfl) ?_
  simp only [ev,zD,zE,zF,zG]
  refine n_nil ?_
  refine hK6 _ _ ?_
  refine c_if rfl (fun hc1 => ?_) (fun hc1 => ?_)
  ·
   refine wp_skip ?_
   refine hK5 _ _ ?_
   refine c_seq (fun K7 hK7 => wp_block (c_seq (fun K8 hK8 => wp_region_lit (n_val (r_assign) ?_))))
   simp only [ev,zD,zE,zF,zG]
   refine n_nil ?_
   refine hK8 _ _ ?_
   refine c_seq (fun K9 hK9 => c_seq (fun K10 hK10 => wp_region_lit (n_val (r_assign) ?_)))
   simp only [ev,zD,zE,zF,zG]
   refine n_nil ?_
   refine hK10 _ _ ?_
   refine wp_block ?_
   refine c_loopg [7, 8] [9, 22, 23, 24, 25, 26, 27, 28, 29, 30, 31, 32, 33, 34, 35, 36, 37, 38, 39, 40, 41, 42, 43, 44, 45, 46, 47, 48, 49, 50, 51, 52, 53, 54] (fun n vs wl => ∃ (k c : Nat) (os : List Nat), vs = [.int .i64 (c:Int), .int .i64 (k:Int)] ∧ (Ext w wl) ∧ (DigAt wl w.heap.size A xs.length ca xs) ∧ (DigAt wl w.heap.size B ys.length cb ys) ∧ (Blk wl g1 (os.map i64v) 3) ∧ (k ≤ ys.length) ∧ (os.length = xs.length + ys.length) ∧ (val 65536 os + 65536 ^ (i + k) * c = val 65536 (xs.take i) * val 65536 ys + 65536 ^ i * (xs[i] * val 65536 (ys.take k))) ∧ (os.drop (i + ys.length) = List.replicate (xs.length - i) 0) ∧ (Digs 65536 os) ∧ (c < 65536) ∧ (n = ys.length - k)) ?_ ?_
   ·
    apply Exists.intro
    simp only [zQ,zR,zD,zE]
    exact ⟨0, 0, os, rfl, hX, hS, hR, hB1, by omega, hlo, by rw [List.take_zero, hv]; simp only [val,Nat.mul_zero], hz, hd, by omega, rfl⟩
   ·
    intro n vs wr hI u
    obtain ⟨k, c, os, rfl, hX, hS, hR, hB1, hk, hlo, hv2, hz, hd, hc, hn2⟩ := hI
    simp only [setG_cons,setG_nil,setMany_cons,setMany_nil,zF,zG]
    refine c_seq (fun K11 hK11 => c_seq (fun K12 hK12 => wp_region_lit (n_val (r_move) (n_val (r_move) (n_val (r_lenS rfl Tryz.underlying22 rfl) ?_)))))
    simp only [ev,zD,zE,zF,zG]
    refine n_val (r_lss rfl rfl) ?_
    simp only [ev,zD,zE,zF,zG]
    refine n_nil ?_
    refine hK12 _ _ ?_
    refine c_if rfl (fun hc2 => ?_) (fun hc2 => ?_)
    ·
     refine wp_skip ?_
     refine hK11 _ _ ?_
     refine c_seq (fun K13 hK13 => wp_block (c_seq (fun K14 hK14 => ?_)))
     obtain ⟨a, rfl, hca, hla⟩ := hS.get (show i < xs.length by omega)
     obtain ⟨a2, rfl, hcb, hlb⟩ := hR.get (show k < ys.length by omega)
     have hco := hB1.digit (show i + k < os.length by omega)
     have hlo2 := hd.get (List.getElem?_eq_getElem (show i + k < os.length by omega))
     obtain ⟨hm0, hm1⟩ := mul_lt16I hla hlb
     refine wp_region_ext follows_mixed (by kernel_rfl) (q_val (r_move) (q_val (r_move) (q_val (r_move) ?_)))
     simp only [ev,zD,zE,zF,zG]
     refine q_val (r_add rfl rfl (wrap_i64 (by omega) (by omega))) (q_val (r_indexAddrS Tryz.underlying22 cells_3 rfl rfl (by omega) (by omega) (addrB1 (show _ = i + k by omega))) ?_)
     simp only [ev,zD,zE,zF,zG]
     refine q_load rfl (fun _ hE' => (lies1 (hE'.cell hco) agg_3)) ?_
     simp only [ev,zD,zE,zF,zG]
     refine q_val (r_move) (q_val (r_move) (q_val (r_indexAddrS Tryz.underlying22 cells_3 rfl rfl (by omega) (by omega) (addr1 (Int.toNat_natCast _))) ?_))
     simp only [ev,zD,zE,zF,zG]
     refine q_load rfl (fun _ hE' => (lies1 (hE'.cell hca) agg_3)) ?_
     simp only [ev,zD,zE,zF,zG]
     refine q_val (r_move) (q_val (r_move) (q_val (r_indexAddrS Tryz.underlying22 cells_3 rfl rfl (by omega) (by omega) (addr1 (Int.toNat_natCast _))) ?_))
     simp only [ev,zD,zE,zF,zG]
     refine q_load rfl (fun _ hE' => (lies1 (hE'.cell hcb) agg_3)) ?_
     simp only [ev,zD,zE,zF,zG]
     refine q_val (r_mul rfl rfl (wrap_i64 (by omega) (by omega))) (q_val (r_add rfl rfl (wrap_i64 (by omega) (by omega))) (q_val (r_move) ?_))
     simp only [ev,zD,zE,zF,zG]
     refine q_val (r_add rfl rfl (wrap_i64 (by omega) (by omega))) (q_val (r_assign) ?_)
     simp only [ev,zD,zE,zF,zG]
     refine q_nil ?_
     intro w2 hE
     replace hB1 := hB1.ext hE; (try replace hS := hS.ext hE); (try replace hR := hR.ext hE); replace hX := hX.trans hE
     clear hE
     obtain ⟨s, hs⟩ : ∃ s, s = os[i + k] + xs[i] * ys[k] + c := ⟨_, rfl⟩
     have hsI : (↑os[i + k] + ↑xs[i] * ↑ys[k] + ↑c : Int) = (s : Int) := by rw [hs]; simp
     rw [hsI]
     have hs64 : s < 4294967296 := by have := mul_lt16 hla hlb; omega
     refine hK14 _ _ ?_
     refine c_seq (fun K15 hK15 => wp_region_lit (n_val (r_move) (n_val (r_move) (n_val (r_move) ?_))))
     simp only [ev,zD,zE,zF,zG]
     refine n_val (r_add rfl rfl (wrap_i64 (by omega) (by omega))) (n_val (r_move) (n_val (r_rem rfl rfl (by omega) (rem_nat (n := 65536))) ?_))
     simp only [ev,zD,zE,zF,zG]
     refine n_val (r_indexAddrS Tryz.underlying22 cells_3 rfl rfl (by omega) (by omega) (addrB1 (show _ = i + k by omega))) ?_
     simp only [ev,zD,zE,zF,zG]
     refine n_store rfl (by simp only [ev,zD,zE]; rfl) (by exact cells_3) hB1 (by simp; omega) (by simp [Value.oneCell']) ?_
     clear hB1; intro w3 hC hB1
     (try replace hS := hS.chg hC (by first | assumption | rfl)); (try replace hR := hR.chg hC (by first | assumption | rfl)); replace hX := hX.chg hC hG1
     clear hC
     rw [over_set_i64 (by omega)] at hB1
     refine n_nil ?_
     refine hK15 _ _ ?_
     refine wp_region_lit (n_val (r_move) (n_val (r_quo rfl rfl (by omega) (quo_i64 (n := 65536) (by omega))) (n_val (r_assign) ?_)))
     simp only [ev,zD,zE,zF,zG]
     refine n_nil ?_
     refine hK13 _ _ ?_
     refine wp_region_lit (n_val (r_move) (n_val (r_add rfl rfl (wrap_i64 (by omega) (by omega))) (n_val (r_assign) ?_)))
     simp only [ev,zD,zE,zF,zG]
     refine n_nil ?_
     have r1 := times_round (by omega) (by omega) hlo hv2 hs
     rw [show ((k:Int) + 1) = ((k + 1 : Nat) : Int) by omega]
     simp only [Exit.inBlock,Exit.then]
     refine ⟨ys.length - (k + 1), _, ?_, rfl, ?_, ?_⟩
     · omega
     · simp only [zQ,zR,zD,zE,setG_cons,setG_nil,setMany_cons,setMany_nil,zF,zG]
     ·
      simp only [zQ,zR,zD,zE]
      exact ⟨k + 1, s / 65536, os.set (i + k) (s % 65536), rfl, hX, hS, hR, hB1, by omega, by simpa using hlo, r1, by rw [drop_set_ge (by omega)]; exact hz, hd.set (by omega), by omega, rfl⟩
    ·
     refine wp_exit ?_
     refine hK9 _ _ ?_
     obtain rfl : k = ys.length := by omega
     refine wp_region_lit (n_val (r_move) (n_val (r_move) (n_val (r_move) ?_)))
     simp only [ev,zD,zE,zF,zG]
     refine n_val (r_lenS rfl Tryz.underlying22 rfl) (n_val (r_add rfl rfl (wrap_i64 (by omega) (by omega))) (n_val (r_move) ?_))
     simp only [ev,zD,zE,zF,zG]
     refine n_val (r_indexAddrS Tryz.underlying22 cells_3 rfl rfl (by omega) (by omega) (addrB1 (show _ = i + ys.length by omega))) ?_
     simp only [ev,zD,zE,zF,zG]
     refine n_store rfl (by simp only [ev,zD,zE]; rfl) (by exact cells_3) hB1 (by simp; omega) (by simp [Value.oneCell']) ?_
     clear hB1; intro w2 hC hB1
     (try replace hS := hS.chg hC (by first | assumption | rfl)); (try replace hR := hR.chg hC (by first | assumption | rfl)); replace hX := hX.chg hC hG1
     clear hC
     rw [over_set_i64 (by omega)] at hB1
     refine n_nil ?_
     refine hK7 _ _ ?_
     refine wp_region_lit (n_val (r_move) (n_val (r_add rfl rfl (wrap_i64 (by omega) (by omega))) (n_val (r_assign) ?_)))
     simp only [ev,zD,zE,zF,zG]
     refine n_nil ?_
     obtain ⟨r1, r2⟩ := times_end (by omega) hlo hv2 hz
     rw [show ((i:Int) + 1) = ((i + 1 : Nat) : Int) by omega]
     simp only [Exit.inBlock,Exit.then]
     refine ⟨xs.length - (i + 1), _, ?_, rfl, ?_, ?_⟩
     · omega
     · simp only [zQ,zR,zD,zE,setG_cons,setG_nil,setMany_cons,setMany_nil,zF,zG]
     ·
      simp only [zQ,zR,zD,zE]
      exact ⟨i + 1, os.set (i + ys.length) c, rfl, hX, hS, hR, hB1, by omega, by simpa using hlo, r1, r2, hd.set (by omega), rfl⟩
  ·
   refine wp_exit ?_
   refine hK3 _ _ ?_
   refine c_seq (fun K16 hK16 => ?_)
   obtain rfl : i = xs.length := by omega
   refine wp_region_lit (n_val (r_move) ?_)
   simp only [ev,zD,zE,zF,zG]
   rw [← hlo]
   refine n_call rfl rfl (trim_c _ (DigAt.of_blk hB1 hd rfl (by omega))) ?_
   rintro v w2 hE rfl
   replace hB1 := hB1.ext hE; (try replace hS := hS.ext hE); (try replace hR := hR.ext hE); replace hX := hX.trans hE
   clear hE
   simp only [ev,zD,zE,zF,zG]
   refine n_val (r_assign) ?_
   simp only [ev,zD,zE,zF,zG]
   refine n_nil ?_
   refine hK16 _ _ ?_
   refine wp_ret ?_
   try simp only [Exit.inBlock,Exit.then]
   refine fin1 rfl rfl ?_
   try simp only [zD,zE]
   exact ⟨_, rfl, hX, DigRes.of_trim (DigAt.of_blk hB1 hd rfl (by omega)) (by rw [hv, List.take_length]), fun a n c e => by cases e; exact hG1⟩

set_option maxHeartbeats 400000 in
theorem by_c {A : Option Addr} {xs : List Nat} {na ca d : Nat} (w : World) (hS : DigAt w w.heap.size A na ca xs) (hlx : xs.length ≤ 1000000000000) (hd : d < 65536) : Does Tryz.prog 181 [.slice A na ca, .int .i64 (d : Int)] w (fun v w' => DigRes (val 65536 xs * d) v w' ∧ NewSlice w v) := by
 skip
 refine ⟨en_181, ?_⟩
 have hX := Ext.refl w
 obtain rfl := hS.eq
 go_enter Tryz.func181, Tryz.ntmps181
 refine c_seq (fun K1 hK1 => wp_region_lit (n_val (r_assign) ?_))
 simp only [ev,zD,zE,zF,zG]
 refine n_nil ?_
 refine hK1 _ _ ?_
 refine c_seq (fun K2 hK2 => wp_region_lit (n_val (r_move) (n_val (r_move) ?_)))
 simp only [ev,zD,zE,zF,zG]
 refine n_build1 Tryz.underlying22 (z := .int .i64 0) (by kernel_rfl) rfl (by simp only [ev,zD,zE,zF,zG]; rfl) (by rfl) ?_
 intro w1 g1 hE hg1 hB1
 have hG1 := Nat.le_trans hX.size hg1
 replace hX := hX.trans hE
 clear hE hg1
 simp only [ev,zD,zE,zF,zG]
 have hsz := hX.size
 refine n_call rfl rfl (times_c _ (hS.ext hX).here (DigAt.of_blk (os := [d]) hB1 (digs_cons hd (digs_nil _)) rfl (by simp)) hlx (by simp)) ?_
 rintro v w2 hE ⟨hD, hnw⟩
 replace hB1 := hB1.ext hE; replace hX := hX.trans hE
 clear hE
 simp only [ev,zD,zE,zF,zG]
 refine n_val (r_assign) ?_
 simp only [ev,zD,zE,zF,zG]
 refine n_nil ?_
 refine hK2 _ _ ?_
 refine wp_ret ?_
 try simp only [Exit.inBlock,Exit.then]
 refine fin1 rfl rfl ?_
 try simp only [zD,zE]
 exact ⟨_, rfl, hX, by simpa [val] using hD, fun a n c e => Nat.le_trans hsz (hnw a n c e)⟩

end Go.Proofs.YtmcgcnpgkkfkoaaGreatDoor
namespace Go.Proofs.YtmcgcnpgkkfkoaaGreatDoor
open Go.RowKit Go.Lith
set_option maxRecDepth 100000
attribute [local irreducible] wpList wpQuiet wpMix Code.wp
set_option maxHeartbeats 2000000 in
theorem over_c {A B : Option Addr} {xs ys : List Nat} {na nb ca cb : Nat} (w : World) (hS : DigAt w w.heap.size A na ca xs) (hR : DigAt w w.heap.size B nb cb ys) (ty : Trimmed ys) (h0 : 0 < val 65536 ys) (hlx : xs.length ≤ 1000000000000) (hly : ys.length ≤ 100000000000) : Does Tryz.prog 176 [.slice A na ca, .slice B nb cb] w (fun v w' => ∃ q r, v = .tuple #[q, r] ∧ DigRes (val 65536 xs / val 65536 ys) q w' ∧ DigRes (val 65536 xs % val 65536 ys) r w') := by
 skip
 refine ⟨en_176, ?_⟩
 have hX := Ext.refl w
 obtain rfl := hS.eq
 obtain rfl := hR.eq
 obtain ⟨Y, hY⟩ : ∃ Y, Y = val 65536 ys := ⟨_, rfl⟩
 rw [← hY] at h0 ⊢
 have hYl : ∀ V : Nat, V < Y → (digs 65536 V).length ≤ ys.length := fun V h => length_digs_le (by omega) (Nat.lt_trans h (by rw [hY]; exact val_lt hR.digs))
 have hYb : ∀ V : Nat, V < 65536 * Y → (digs 65536 V).length ≤ ys.length + 1 := fun V h => length_digs_le (by omega) (Nat.lt_of_lt_of_le h (by rw [hY, Nat.pow_succ, Nat.mul_comm]; exact Nat.mul_le_mul_right _ (Nat.le_of_lt (val_lt hR.digs))))
 go_enter Tryz.func176, Tryz.ntmps176
 refine c_seq (fun K1 hK1 => wp_region_lit (n_val (r_assign) (n_val (r_assign) ?_)))
 simp only [ev,zD,zE,zF,zG]
 refine n_nil ?_
 refine hK1 _ _ ?_
 refine c_seq (fun K2 hK2 => wp_region_lit (n_val (r_move) (n_val (r_lenS rfl Tryz.underlying22 rfl) ?_)))
 simp only [ev,zD,zE,zF,zG]
 refine n_make1 Tryz.underlying22 inf_3 rfl rfl rfl (show _ = xs.length by omega) (show _ = xs.length by omega) (by omega) (by omega) (by omega) (by omega) ?_
 intro w1 g1 hE hg1 hB1
 have hG1 := Nat.le_trans hX.size hg1
 (try replace hS := hS.ext hE); (try replace hR := hR.ext hE); (try replace hN7 := hN7.ext hE); replace hX := hX.trans hE
 clear hE
 simp only [ev,zD,zE,zF,zG]
 refine n_val (r_assign) ?_
 simp only [ev,zD,zE,zF,zG]
 refine n_nil ?_
 rw [replicate_i64] at hB1
 refine hK2 _ _ ?_
 refine c_seq (fun K3 hK3 => wp_region_lit (n_val (r_assign) ?_))
 simp only [ev,zD,zE,zF,zG]
 refine n_nil ?_
 refine hK3 _ _ ?_
 refine c_seq (fun K4 hK4 => c_seq (fun K5 hK5 => wp_region_lit (n_val (r_move) (n_val (r_lenS rfl Tryz.underlying22 rfl) (n_val (r_sub rfl rfl (wrap_i64 (by omega) (by omega))) ?_)))))
 simp only [ev,zD,zE,zF,zG]
 refine n_val (r_assign) ?_
 simp only [ev,zD,zE,zF,zG]
 refine n_nil ?_
 refine hK5 _ _ ?_
 refine wp_block ?_
 refine c_loopg [7, 8] [9, 10, 11, 18, 19, 20, 21, 22, 23, 24, 25, 26, 27, 28, 29, 30, 31, 32, 33, 34, 35, 36, 37, 38, 39, 40, 41, 42, 43, 44, 45, 46, 47, 48, 49, 50, 51, 52, 53, 54, 55, 56, 57, 58] (fun n vs wl => ∃ (k R : Nat) (qs : List Nat) (A7 : Option Addr) (c7 : Nat), vs = [.slice A7 (digs 65536 R).length c7, .int .i64 ((k:Int) - 1)] ∧ (Ext w wl) ∧ (DigAt wl w.heap.size A xs.length ca xs) ∧ (DigAt wl w.heap.size B ys.length cb ys) ∧ (Blk wl g1 (qs.map i64v) 3) ∧ (DigX wl g1 A7 (digs 65536 R).length c7 (digs 65536 R)) ∧ (k ≤ xs.length) ∧ (qs.length = xs.length) ∧ (val 65536 (xs.drop k) = Y * val 65536 (qs.drop k) + R) ∧ (R < Y) ∧ (Digs 65536 qs) ∧ (n = k)) ?_ ?_
 ·
  apply Exists.intro
  simp only [zQ,zR,zD,zE]
  exact ⟨xs.length, 0, List.replicate xs.length 0, none, 0, rfl, hX, hS, hR, hB1, ⟨DigAt.nil _ _, fun _ e => by cases e⟩, Nat.le_refl _, by simp, by rw [List.drop_length, List.drop_of_length_le (by simp)]; rfl, h0, fun x hx => by rw [List.eq_of_mem_replicate hx]; decide, rfl⟩
 ·
  intro n vs wr hI u
  obtain ⟨k, R, qs, A7, c7, rfl, hX, hS, hR, hB1, hN7, hk, hlq, hv, hRY, hd, hn⟩ := hI
  simp only [setG_cons,setG_nil,setMany_cons,setMany_nil,zF,zG]
  refine c_seq (fun K6 hK6 => c_seq (fun K7 hK7 => wp_region_lit (n_val (r_move) (n_val (r_geq rfl rfl) ?_))))
  simp only [ev,zD,zE,zF,zG]
  refine n_nil ?_
  refine hK7 _ _ ?_
  refine c_if rfl (fun hc1 => ?_) (fun hc1 => ?_)
  ·
   refine wp_skip ?_
   refine hK6 _ _ ?_
   refine c_seq (fun K8 hK8 => wp_block (c_seq (fun K9 hK9 => ?_)))
   obtain ⟨a, rfl, hca, hla⟩ := hS.get (show k - 1 < xs.length by omega)
   have hlR := hYl R hRY
   refine wp_region_lit (n_val (r_move) (n_val (r_move) (n_val (r_indexAddrS Tryz.underlying22 cells_3 rfl rfl (by omega) (by omega) (addr1 (show _ = k - 1 by omega))) ?_)))
   simp only [ev,zD,zE,zF,zG]
   refine n_load rfl (lies1 hca agg_3) ?_
   simp only [ev,zD,zE,zF,zG]
   refine n_build1 Tryz.underlying22 (z := .int .i64 0) (by kernel_rfl) rfl (by simp only [ev,zD,zE,zF,zG]; rfl) (by rfl) ?_
   intro w2 g2 hE hg2 hB2
   have hG2 := Nat.le_trans hX.size hg2; have hN2_1 : g2 ≠ g1 := Nat.ne_of_gt (Nat.lt_of_lt_of_le hB1.lt hg2); have hL2_1 := Nat.lt_of_lt_of_le hB1.lt hg2
   replace hB1 := hB1.ext hE; (try replace hS := hS.ext hE); (try replace hR := hR.ext hE); (try replace hN7 := hN7.ext hE); (try replace hN7 := hN7.ext hE); replace hX := hX.trans hE
   clear hE
   simp only [ev,zD,zE,zF,zG]
   refine n_val (r_move) ?_
   simp only [ev,zD,zE,zF,zG]
   have hO6 := Owns.full (base := g2) (n := 1) hB2 (Nat.le_refl _) rfl (by omega)
   refine n_appendS rfl Tryz.underlying22 inf_3 rfl (by decide) rfl hO6 rfl (news := (digs 65536 R).map i64v) (by simp) hN7.dig.rows (fun u hu => by obtain ⟨x, _, rfl⟩ := List.mem_map.1 hu; rfl) (by omega) (by omega) (Nat.le_of_lt hB2.lt) ?_
   intro v6 w9 hO hGr _
   replace hB1 := hB1.grew hGr hL2_1
   replace hX := hX.grown hGr hG2
   replace hS := hS.grew hGr hG2
   replace hR := hR.grew hGr hG2
   clear hB2 hO6
   obtain ⟨A6, c6, rfl, hD6, hn6⟩ := DigAt.of_owns (xs := xs[k - 1] :: digs 65536 R) (by simpa [Nat.add_comm] using hO) (by simp; omega) (digs_cons hla (digs_digs16 _)) (by omega)
   simp only [ev,zD,zE,zF,zG]
   refine n_call rfl rfl (trim_c _ hD6) ?_
   rintro v w3 hE rfl
   replace hB1 := hB1.ext hE; (try replace hS := hS.ext hE); (try replace hR := hR.ext hE); (try replace hN7 := hN7.ext hE); (try replace hN7 := hN7.ext hE); (try replace hD6 := hD6.ext hE); replace hX := hX.trans hE
   clear hE
   simp only [ev,zD,zE,zF,zG]
   refine n_val (r_assign) ?_
   simp only [ev,zD,zE,zF,zG]
   refine n_nil ?_
   refine hK9 _ _ ?_
   refine c_seq (fun K10 hK10 => ?_)
   obtain ⟨R1, hR1⟩ : ∃ R1, R1 = xs[k - 1] + 65536 * R := ⟨_, rfl⟩
   have ht6 : trim (xs[k - 1] :: digs 65536 R) = digs 65536 R1 := trim_eq_digs (by omega) hD6.digs (by simp only [val]; rw [val_digs16]; exact hR1.symm)
   rw [ht6]
   have hN7 := DigX.of_trim (g := g1) hD6 ht6 (fun a e => by have := hn6 a e; omega)
   clear hD6
   have hR1Y : R1 < 65536 * Y := by have := Nat.mul_le_mul_left 65536 (show R + 1 ≤ Y from hRY); omega
   have hlR1 := hYb R1 hR1Y
   refine wp_region_lit (n_val (r_assign) ?_)
   simp only [ev,zD,zE,zF,zG]
   refine n_nil ?_
   refine hK10 _ _ ?_
   refine c_seq (fun K11 hK11 => wp_region_lit (n_val (r_assign) ?_))
   simp only [ev,zD,zE,zF,zG]
   refine n_nil ?_
   refine hK11 _ _ ?_
   refine c_seq (fun K12 hK12 => c_seq (fun K13 hK13 => wp_region_lit (n_val (r_move) (n_val (r_move) ?_))))
   simp only [ev,zD,zE,zF,zG]
   refine n_call rfl rfl (compare_c _ hN7.dig hR (trimmed_digs16 _) ty) ?_
   rintro v w4 hE rfl
   replace hB1 := hB1.ext hE; (try replace hS := hS.ext hE); (try replace hR := hR.ext hE); (try replace hN7 := hN7.ext hE); (try replace hN7 := hN7.ext hE); (try replace hD6 := hD6.ext hE); (try replace hN7 := hN7.ext hE); replace hX := hX.trans hE
   clear hE
   rw [val_digs16, ← hY]
   simp only [ev,zD,zE,zF,zG]
   refine n_val (r_lss rfl rfl) ?_
   simp only [ev,zD,zE,zF,zG]
   refine n_nil ?_
   refine hK13 _ _ ?_
   refine c_if rfl (fun hc2 => ?_) (fun hc2 => ?_)
   ·
    have hlt2 := ord_lt_iff.1 hc2
    refine wp_region_lit (n_val (r_assign) ?_)
    simp only [ev,zD,zE,zF,zG]
    refine n_nil ?_
    refine hK12 _ _ ?_
    refine c_seq (fun K14 hK14 => wp_block ?_)
    refine c_loopg [9, 10] [11, 34, 35, 36, 37, 38, 39, 40, 41, 42, 43, 44, 45, 46, 47, 48, 49] (fun n vs wl => ∃ (low high : Nat), vs = [.int .i64 (low:Int), .int .i64 (high:Int)] ∧ (Ext w wl) ∧ (DigAt wl w.heap.size (some a) xs.length ca xs) ∧ (DigAt wl w.heap.size B ys.length cb ys) ∧ (Blk wl g1 (qs.map i64v) 3) ∧ (DigX wl g1 A6 (digs 65536 R1).length c6 (digs 65536 R1)) ∧ (low * Y ≤ R1) ∧ (R1 < high * Y) ∧ (low < high) ∧ (high ≤ 65536) ∧ (n = high - low)) ?_ ?_
    ·
     apply Exists.intro
     simp only [zQ,zR,zD,zE]
     exact ⟨0, 1, rfl, hX, hS, hR, hB1, hN7, by simp, by rw [Nat.one_mul]; exact hlt2, by omega, by omega, rfl⟩
    ·
     intro n vs wr hI u
     obtain ⟨low, high, rfl, hX, hS, hR, hB1, hN7, hlow, hhigh, hl1, hl2, hn2⟩ := hI
     simp only [setG_cons,setG_nil,setMany_cons,setMany_nil,zF,zG]
     refine c_seq (fun K15 hK15 => c_seq (fun K16 hK16 => wp_region_lit (n_val (r_move) (n_val (r_move) (n_val (r_sub rfl rfl (wrap_i64 (by omega) (by omega))) ?_)))))
     simp only [ev,zD,zE,zF,zG]
     refine n_val (r_gtr rfl rfl) ?_
     simp only [ev,zD,zE,zF,zG]
     refine n_nil ?_
     refine hK16 _ _ ?_
     refine c_if rfl (fun hc3 => ?_) (fun hc3 => ?_)
     ·
      have hm1 : low < (low + high) / 2 := by omega
      have hm2 : (low + high) / 2 < high := by omega
      refine wp_skip ?_
      refine hK15 _ _ ?_
      refine wp_block (c_seq (fun K17 hK17 => wp_region_lit (n_val (r_move) (n_val (r_move) (n_val (r_add rfl rfl (wrap_i64 (by omega) (by omega))) ?_)))))
      simp only [ev,zD,zE,zF,zG]
      rw [show ((low : Int) + (high : Int)) = ((low + high : Nat) : Int) by omega]
      refine n_val (r_quo rfl rfl (by omega) (quo_i64 (m := low + high) (n := 2) (by omega))) (n_val (r_assign) ?_)
      simp only [ev,zD,zE,zF,zG]
      refine n_nil ?_
      refine hK17 _ _ ?_
      refine c_seq (fun K18 hK18 => wp_region_lit (n_val (r_move) (n_val (r_move) ?_)))
      simp only [ev,zD,zE,zF,zG]
      refine n_call rfl rfl (by_c _ hR.here (Nat.le_trans hly (by decide)) (by omega)) ?_
      rintro v w5 hE ⟨⟨A8, c8, rfl, hD8⟩, _⟩
      replace hB1 := hB1.ext hE; (try replace hS := hS.ext hE); (try replace hR := hR.ext hE); (try replace hN7 := hN7.ext hE); (try replace hN7 := hN7.ext hE); (try replace hN7 := hN7.ext hE); replace hX := hX.trans hE
      clear hE
      rw [← hY] at hD8 ⊢
      simp only [ev,zD,zE,zF,zG]
      refine n_val (r_move) ?_
      simp only [ev,zD,zE,zF,zG]
      refine n_call rfl rfl (compare_c _ hD8 hN7.dig (trimmed_digs16 _) (trimmed_digs16 _)) ?_
      rintro v w6 hE rfl
      replace hB1 := hB1.ext hE; (try replace hS := hS.ext hE); (try replace hR := hR.ext hE); (try replace hN7 := hN7.ext hE); (try replace hN7 := hN7.ext hE); (try replace hN7 := hN7.ext hE); (try replace hD8 := hD8.ext hE); replace hX := hX.trans hE
      clear hE
      rw [val_digs16, val_digs16]
      simp only [ev,zD,zE,zF,zG]
      refine n_val (r_leq rfl rfl) ?_
      simp only [ev,zD,zE,zF,zG]
      refine n_nil ?_
      refine hK18 _ _ ?_
      refine c_if rfl (fun hc4 => ?_) (fun hc4 => ?_)
      ·
       have hle4 : Y * ((low + high) / 2) ≤ R1 := ord_le_iff.1 hc4
       refine wp_region_lit (n_val (r_move) (n_val (r_assign) ?_))
       simp only [ev,zD,zE,zF,zG]
       refine n_nil ?_
       simp only [Exit.inBlock,Exit.then]
       refine ⟨high - (low + high) / 2, _, ?_, rfl, ?_, ?_⟩
       · omega
       · simp only [zQ,zR,zD,zE,setG_cons,setG_nil,setMany_cons,setMany_nil,zF,zG]
       ·
        simp only [zQ,zR,zD,zE]
        exact ⟨(low + high) / 2, high, rfl, hX, hS, hR, hB1, hN7, by rw [Nat.mul_comm]; exact hle4, hhigh, hm2, hl2, rfl⟩
      ·
       have hle4 : R1 < Y * ((low + high) / 2) := Nat.lt_of_not_le fun h => hc4 (ord_le_iff.2 h)
       refine wp_region_lit (n_val (r_move) (n_val (r_assign) ?_))
       simp only [ev,zD,zE,zF,zG]
       refine n_nil ?_
       simp only [Exit.inBlock,Exit.then]
       refine ⟨(low + high) / 2 - low, _, ?_, rfl, ?_, ?_⟩
       · omega
       · simp only [zQ,zR,zD,zE,setG_cons,setG_nil,setMany_cons,setMany_nil,zF,zG]
       ·
        simp only [zQ,zR,zD,zE]
        exact ⟨low, (low + high) / 2, rfl, hX, hS, hR, hB1, hN7, hlow, by rw [Nat.mul_comm]; exact hle4, hm1, by omega, rfl⟩
     ·
      refine wp_exit ?_
      refine hK14 _ _ ?_
      refine c_seq (fun K19 hK19 => wp_region_lit (n_val (r_move) (n_val (r_move) (n_val (r_move) ?_))))
      simp only [ev,zD,zE,zF,zG]
      refine n_val (r_indexAddrS Tryz.underlying22 cells_3 rfl rfl (by omega) (by omega) (addrB1 (show _ = k - 1 by omega))) ?_
      simp only [ev,zD,zE,zF,zG]
      refine n_store rfl (by simp only [ev,zD,zE]; rfl) (by exact cells_3) hB1 (by simp; omega) (by simp [Value.oneCell']) ?_
      clear hB1; intro w5 hC hB1
      (try replace hS := hS.chg hC (by first | assumption | rfl)); (try replace hR := hR.chg hC (by first | assumption | rfl)); (try replace hN7 := hN7.chg hC (by first | assumption | rfl)); (try replace hN7 := hN7.chg hC (by first | assumption | rfl)); (try replace hN7 := hN7.chg hC (by first | assumption | rfl)); replace hX := hX.chg hC hG1
      clear hC
      rw [over_set_i64 (by omega)] at hB1
      refine n_nil ?_
      refine hK19 _ _ ?_
      refine wp_region_lit (n_val (r_move) (n_val (r_move) (n_val (r_move) ?_)))
      simp only [ev,zD,zE,zF,zG]
      have hlt1 := hB1.lt
      refine n_call rfl rfl (by_c _ hR.here (Nat.le_trans hly (by decide)) (by omega)) ?_
      rintro v w6 hE ⟨⟨A8, c8, rfl, hD8⟩, _⟩
      replace hB1 := hB1.ext hE; (try replace hS := hS.ext hE); (try replace hR := hR.ext hE); (try replace hN7 := hN7.ext hE); (try replace hN7 := hN7.ext hE); (try replace hN7 := hN7.ext hE); replace hX := hX.trans hE
      clear hE
      rw [← hY] at hD8 ⊢
      simp only [ev,zD,zE,zF,zG]
      have hlt2 := hB1.lt
      have hlb2 := lt_len16 (show Y * low ≤ R1 by rw [Nat.mul_comm]; exact hlow)
      refine n_call rfl rfl (minus_c _ hN7.dig hD8 hlb2 (by rw [val_digs16, val_digs16, Nat.mul_comm]; exact hlow) (by omega)) ?_
      rintro v w7 hE ⟨⟨A9, c9, rfl, hD9⟩, hn9⟩
      replace hB1 := hB1.ext hE; (try replace hS := hS.ext hE); (try replace hR := hR.ext hE); (try replace hN7 := hN7.ext hE); (try replace hN7 := hN7.ext hE); (try replace hN7 := hN7.ext hE); (try replace hD8 := hD8.ext hE); replace hX := hX.trans hE
      clear hE
      rw [val_digs16, val_digs16] at hD9 ⊢
      have hN9 := DigX.mk (g := g1) hD9 (fun a e => by subst e; have := hn9 a _ _ rfl; have := hB1.lt; omega)
      simp only [ev,zD,zE,zF,zG]
      refine n_val (r_assign) ?_
      simp only [ev,zD,zE,zF,zG]
      refine n_nil ?_
      refine hK8 _ _ ?_
      refine wp_region_lit (n_val (r_move) (n_val (r_sub rfl rfl (wrap_i64 (by omega) (by omega))) (n_val (r_assign) ?_)))
      simp only [ev,zD,zE,zF,zG]
      refine n_nil ?_
      obtain ⟨r1, r2⟩ := over_round (by omega) hk hlq hv hR1 hlow hd (by omega)
      rw [show ((k:Int) - 1 - 1) = ((k - 1 : Nat) : Int) - 1 by omega]
      simp only [Exit.inBlock,Exit.then]
      refine ⟨k - 1, _, ?_, rfl, ?_, ?_⟩
      · omega
      · simp only [zQ,zR,zD,zE,setG_cons,setG_nil,setMany_cons,setMany_nil,zF,zG]
      ·
       simp only [zQ,zR,zD,zE]
       exact ⟨k - 1, R1 - Y * low, qs.set (k - 1) low, A9, c9, rfl, hX, hS, hR, hB1, hN9, by omega, by simpa using hlq, r1, over_less h0 hhigh hc3, r2, rfl⟩
   ·
    refine wp_skip ?_
    refine hK12 _ _ ?_
    refine c_seq (fun K20 hK20 => wp_block ?_)
    refine c_loopg [9, 10] [11, 34, 35, 36, 37, 38, 39, 40, 41, 42, 43, 44, 45, 46, 47, 48, 49] (fun n vs wl => ∃ (low high : Nat), vs = [.int .i64 (low:Int), .int .i64 (high:Int)] ∧ (Ext w wl) ∧ (DigAt wl w.heap.size (some a) xs.length ca xs) ∧ (DigAt wl w.heap.size B ys.length cb ys) ∧ (Blk wl g1 (qs.map i64v) 3) ∧ (DigX wl g1 A6 (digs 65536 R1).length c6 (digs 65536 R1)) ∧ (low * Y ≤ R1) ∧ (R1 < high * Y) ∧ (low < high) ∧ (high ≤ 65536) ∧ (n = high - low)) ?_ ?_
    ·
     apply Exists.intro
     simp only [zQ,zR,zD,zE]
     exact ⟨0, 65536, rfl, hX, hS, hR, hB1, hN7, by simp, hR1Y, by omega, by omega, rfl⟩
    ·
     intro n vs wr hI u
     obtain ⟨low, high, rfl, hX, hS, hR, hB1, hN7, hlow, hhigh, hl1, hl2, hn2⟩ := hI
     simp only [setG_cons,setG_nil,setMany_cons,setMany_nil,zF,zG]
     refine c_seq (fun K21 hK21 => c_seq (fun K22 hK22 => wp_region_lit (n_val (r_move) (n_val (r_move) (n_val (r_sub rfl rfl (wrap_i64 (by omega) (by omega))) ?_)))))
     simp only [ev,zD,zE,zF,zG]
     refine n_val (r_gtr rfl rfl) ?_
     simp only [ev,zD,zE,zF,zG]
     refine n_nil ?_
     refine hK22 _ _ ?_
     refine c_if rfl (fun hc3 => ?_) (fun hc3 => ?_)
     ·
      have hm1 : low < (low + high) / 2 := by omega
      have hm2 : (low + high) / 2 < high := by omega
      refine wp_skip ?_
      refine hK21 _ _ ?_
      refine wp_block (c_seq (fun K23 hK23 => wp_region_lit (n_val (r_move) (n_val (r_move) (n_val (r_add rfl rfl (wrap_i64 (by omega) (by omega))) ?_)))))
      simp only [ev,zD,zE,zF,zG]
      rw [show ((low : Int) + (high : Int)) = ((low + high : Nat) : Int) by omega]
      refine n_val (r_quo rfl rfl (by omega) (quo_i64 (m := low + high) (n := 2) (by omega))) (n_val (r_assign) ?_)
      simp only [ev,zD,zE,zF,zG]
      refine n_nil ?_
      refine hK23 _ _ ?_
      refine c_seq (fun K24 hK24 => wp_region_lit (n_val (r_move) (n_val (r_move) ?_)))
      simp only [ev,zD,zE,zF,zG]
      refine n_call rfl rfl (by_c _ hR.here (Nat.le_trans hly (by decide)) (by omega)) ?_
      rintro v w5 hE ⟨⟨A8, c8, rfl, hD8⟩, _⟩
      replace hB1 := hB1.ext hE; (try replace hS := hS.ext hE); (try replace hR := hR.ext hE); (try replace hN7 := hN7.ext hE); (try replace hN7 := hN7.ext hE); (try replace hN7 := hN7.ext hE); replace hX := hX.trans hE
      clear hE
      rw [← hY] at hD8 ⊢
      simp only [ev,zD,zE,zF,zG]
      refine n_val (r_move) ?_
      simp only [ev,zD,zE,zF,zG]
      refine n_call rfl rfl (compare_c _ hD8 hN7.dig (trimmed_digs16 _) (trimmed_digs16 _)) ?_
      rintro v w6 hE rfl
      replace hB1 := hB1.ext hE; (try replace hS := hS.ext hE); (try replace hR := hR.ext hE); (try replace hN7 := hN7.ext hE); (try replace hN7 := hN7.ext hE); (try replace hN7 := hN7.ext hE); (try replace hD8 := hD8.ext hE); replace hX := hX.trans hE
      clear hE
      rw [val_digs16, val_digs16]
      simp only [ev,zD,zE,zF,zG]
      refine n_val (r_leq rfl rfl) ?_
      simp only [ev,zD,zE,zF,zG]
      refine n_nil ?_
      refine hK24 _ _ ?_
      refine c_if rfl (fun hc4 => ?_) (fun hc4 => ?_)
      ·
       have hle4 : Y * ((low + high) / 2) ≤ R1 := ord_le_iff.1 hc4
       refine wp_region_lit (n_val (r_move) (n_val (r_assign) ?_))
       simp only [ev,zD,zE,zF,zG]
       refine n_nil ?_
       simp only [Exit.inBlock,Exit.then]
       refine ⟨high - (low + high) / 2, _, ?_, rfl, ?_, ?_⟩
       · omega
       · simp only [zQ,zR,zD,zE,setG_cons,setG_nil,setMany_cons,setMany_nil,zF,zG]
       ·
        simp only [zQ,zR,zD,zE]
        exact ⟨(low + high) / 2, high, rfl, hX, hS, hR, hB1, hN7, by rw [Nat.mul_comm]; exact hle4, hhigh, hm2, hl2, rfl⟩
      ·
       have hle4 : R1 < Y * ((low + high) / 2) := Nat.lt_of_not_le fun h => hc4 (ord_le_iff.2 h)
       refine wp_region_lit (n_val (r_move) (n_val (r_assign) ?_))
       simp only [ev,zD,zE,zF,zG]
       refine n_nil ?_
       simp only [Exit.inBlock,Exit.then]
       refine ⟨(low + high) / 2 - low, _, ?_, rfl, ?_, ?_⟩
       · omega
       · simp only [zQ,zR,zD,zE,setG_cons,setG_nil,setMany_cons,setMany_nil,zF,zG]
       ·
        simp only [zQ,zR,zD,zE]
        exact ⟨low, (low + high) / 2, rfl, hX, hS, hR, hB1, hN7, hlow, by rw [Nat.mul_comm]; exact hle4, hm1, by omega, rfl⟩
     ·
      refine wp_exit ?_
      refine hK20 _ _ ?_
      refine c_seq (fun K25 hK25 => wp_region_lit (n_val (r_move) (n_val (r_move) (n_val (r_move) ?_))))
      simp only [ev,zD,zE,zF,zG]
      refine n_val (r_indexAddrS Tryz.underlying22 cells_3 rfl rfl (by omega) (by omega) (addrB1 (show _ = k - 1 by omega))) ?_
      simp only [ev,zD,zE,zF,zG]
      refine n_store rfl (by simp only [ev,zD,zE]; rfl) (by exact cells_3) hB1 (by simp; omega) (by simp [Value.oneCell']) ?_
      clear hB1; intro w5 hC hB1
      (try replace hS := hS.chg hC (by first | assumption | rfl)); (try replace hR := hR.chg hC (by first | assumption | rfl)); (try replace hN7 := hN7.chg hC (by first | assumption | rfl)); (try replace hN7 := hN7.chg hC (by first | assumption | rfl)); (try replace hN7 := hN7.chg hC (by first | assumption | rfl)); replace hX := hX.chg hC hG1
      clear hC
      rw [over_set_i64 (by omega)] at hB1
      refine n_nil ?_
      refine hK25 _ _ ?_
      refine wp_region_lit (n_val (r_move) (n_val (r_move) (n_val (r_move) ?_)))
      simp only [ev,zD,zE,zF,zG]
      have hlt1 := hB1.lt
      refine n_call rfl rfl (by_c _ hR.here (Nat.le_trans hly (by decide)) (by omega)) ?_
      rintro v w6 hE ⟨⟨A8, c8, rfl, hD8⟩, _⟩
      replace hB1 := hB1.ext hE; (try replace hS := hS.ext hE); (try replace hR := hR.ext hE); (try replace hN7 := hN7.ext hE); (try replace hN7 := hN7.ext hE); (try replace hN7 := hN7.ext hE); replace hX := hX.trans hE
      clear hE
      rw [← hY] at hD8 ⊢
      simp only [ev,zD,zE,zF,zG]
      have hlt2 := hB1.lt
      have hlb2 := lt_len16 (show Y * low ≤ R1 by rw [Nat.mul_comm]; exact hlow)
      refine n_call rfl rfl (minus_c _ hN7.dig hD8 hlb2 (by rw [val_digs16, val_digs16, Nat.mul_comm]; exact hlow) (by omega)) ?_
      rintro v w7 hE ⟨⟨A9, c9, rfl, hD9⟩, hn9⟩
      replace hB1 := hB1.ext hE; (try replace hS := hS.ext hE); (try replace hR := hR.ext hE); (try replace hN7 := hN7.ext hE); (try replace hN7 := hN7.ext hE); (try replace hN7 := hN7.ext hE); (try replace hD8 := hD8.ext hE); replace hX := hX.trans hE
      clear hE
      rw [val_digs16, val_digs16] at hD9 ⊢
      have hN9 := DigX.mk (g := g1) hD9 (fun a e => by subst e; have := hn9 a _ _ rfl; have := hB1.lt; omega)
      simp only [ev,zD,zE,zF,zG]
      refine n_val (r_assign) ?_
      simp only [ev,zD,zE,zF,zG]
      refine n_nil ?_
      refine hK8 _ _ ?_
      refine wp_region_lit (n_val (r_move) (n_val (r_sub rfl rfl (wrap_i64 (by omega) (by omega))) (n_val (r_assign) ?_)))
      simp only [ev,zD,zE,zF,zG]
      refine n_nil ?_
      obtain ⟨r1, r2⟩ := over_round (by omega) hk hlq hv hR1 hlow hd (by omega)
      rw [show ((k:Int) - 1 - 1) = ((k - 1 : Nat) : Int) - 1 by omega]
      simp only [Exit.inBlock,Exit.then]
      refine ⟨k - 1, _, ?_, rfl, ?_, ?_⟩
      · omega
      · simp only [zQ,zR,zD,zE,setG_cons,setG_nil,setMany_cons,setMany_nil,zF,zG]
      ·
       simp only [zQ,zR,zD,zE]
       exact ⟨k - 1, R1 - Y * low, qs.set (k - 1) low, A9, c9, rfl, hX, hS, hR, hB1, hN9, by omega, by simpa using hlq, r1, over_less h0 hhigh hc3, r2, rfl⟩
  ·
   refine wp_exit ?_
   refine hK4 _ _ ?_
   refine c_seq (fun K26 hK26 => wp_region_lit (n_val (r_move) ?_))
   simp only [ev,zD,zE,zF,zG]
   refine n_call rfl rfl (trim_c _ (DigAt.of_blk hB1 hd hlq.symm (by omega))) ?_
   rintro v w2 hE rfl
   replace hB1 := hB1.ext hE; (try replace hS := hS.ext hE); (try replace hR := hR.ext hE); (try replace hN7 := hN7.ext hE); replace hX := hX.trans hE
   clear hE
   simp only [ev,zD,zE,zF,zG]
   refine n_val (r_move) (n_val (r_assign) (n_val (r_assign) ?_))
   simp only [ev,zD,zE,zF,zG]
   refine n_nil ?_
   refine hK26 _ _ ?_
   refine wp_ret ?_
   try simp only [Exit.inBlock,Exit.then]
   refine fin2 rfl rfl rfl ?_
   try simp only [zD,zE]
   (obtain rfl : k = 0 := by omega); (rw [List.drop_zero, List.drop_zero] at hv); (have hq := div_unique h0 hRY hv); exact ⟨_, rfl, hX, _, _, rfl, by rw [← hq.1]; exact DigRes.of_trim (DigAt.of_blk hB1 hd hlq.symm (by omega)) rfl, by rw [← hq.2]; exact ⟨A7, c7, rfl, hN7.dig⟩⟩

end Go.Proofs.YtmcgcnpgkkfkoaaGreatDoor
